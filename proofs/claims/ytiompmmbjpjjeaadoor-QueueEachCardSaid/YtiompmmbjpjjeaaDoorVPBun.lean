/- Which bundles may be. -/
import Derived.Test.YtiompmmbjpjjeaaDoorVPWords
import Derived.Test.YtiompmmbjpjjeaaDoorVP18
namespace Go.Proofs.YtiompmmbjpjjeaaDoorV
open Go
set_option linter.unusedVariables false
set_option linter.unusedSimpArgs false
abbrev Bun:=T47
def okP (b:Bun):Prop:=1≤b.Source∧b.Source≤6∧1≤b.Dest∧b.Dest≤6∧b.Seq>0∧0≤b.Created∧b.Created≤1048576∧1≤b.Lifetime∧b.Lifetime≤1048576∧1≤b.HopLimit∧b.HopLimit≤16∧0≤b.Hops∧b.Hops≤b.HopLimit∧0≤b.Priority∧b.Priority≤2∧1≤b.Total∧b.Total≤400∧1≤(b.Payload.length:Int)∧(b.Payload.length:Int)≤b.Total∧0≤b.Offset∧b.Offset≤b.Total - (b.Payload.length:Int)
instance (b:Bun):Decidable (okP b):=by unfold okP;infer_instance
theorem bwithin_at (k:Nat) (hk:1≤k) (x a b:Int):f65 k x a b=some (.o0 (decide (a≤x∧x≤b))):=by
 obtain ⟨k,rfl⟩:∃ m,k=m+1:=⟨k - 1,by omega⟩
 simp only [f65,f65_e]
 by_cases h:a≤x
 ·simp [h]
 ·simp [h]
theorem bchk_at (k:Nat) (hk:2≤k) (b:Bun):f48 k b.Source b.Dest b.Seq b.Created b.Lifetime b.HopLimit b.Hops b.Priority b.Offset b.Total b.Payload=some (.o0 (if okP b then 0 else 190)):=by
 obtain ⟨k,rfl⟩:∃ m,k=m+1:=⟨k - 1,by omega⟩
 simp only [f48,f48_e,bwithin_at k (by omega),Option.bind_some]
 by_cases q0:1≤b.Source∧b.Source≤6
 case neg=>simp only [decide_eq_false q0,cond_false];rw [if_neg (by unfold okP;omega)]
 simp only [decide_eq_true q0,cond_true]
 by_cases q1:1≤b.Dest∧b.Dest≤6
 case neg=>simp only [decide_eq_false q1,cond_false];rw [if_neg (by unfold okP;omega)]
 simp only [decide_eq_true q1,cond_true]
 by_cases q2:b.Seq>0
 case neg=>simp only [decide_eq_false q2,cond_false];rw [if_neg (by unfold okP;omega)]
 simp only [decide_eq_true q2,cond_true]
 by_cases q3:0≤b.Created∧b.Created≤1048576
 case neg=>simp only [decide_eq_false q3,cond_false];rw [if_neg (by unfold okP;omega)]
 simp only [decide_eq_true q3,cond_true]
 by_cases q4:1≤b.Lifetime∧b.Lifetime≤1048576
 case neg=>simp only [decide_eq_false q4,cond_false];rw [if_neg (by unfold okP;omega)]
 simp only [decide_eq_true q4,cond_true]
 by_cases q5:1≤b.HopLimit∧b.HopLimit≤16
 case neg=>simp only [decide_eq_false q5,cond_false];rw [if_neg (by unfold okP;omega)]
 simp only [decide_eq_true q5,cond_true]
 by_cases q6:0≤b.Hops∧b.Hops≤b.HopLimit
 case neg=>simp only [decide_eq_false q6,cond_false];rw [if_neg (by unfold okP;omega)]
 simp only [decide_eq_true q6,cond_true]
 by_cases q7:0≤b.Priority∧b.Priority≤2
 case neg=>simp only [decide_eq_false q7,cond_false];rw [if_neg (by unfold okP;omega)]
 simp only [decide_eq_true q7,cond_true]
 by_cases q8:1≤b.Total∧b.Total≤400
 case neg=>simp only [decide_eq_false q8,cond_false];rw [if_neg (by unfold okP;omega)]
 simp only [decide_eq_true q8,cond_true]
 by_cases q9:1≤(b.Payload.length:Int)∧(b.Payload.length:Int)≤b.Total
 case neg=>simp only [decide_eq_false q9,cond_false];rw [if_neg (by unfold okP;omega)]
 simp only [decide_eq_true q9,cond_true]
 rw [wrap_i64 (by omega) (by omega)]
 by_cases q11:0≤b.Offset∧b.Offset≤b.Total - (b.Payload.length:Int)
 case neg=>simp only [decide_eq_false q11,Bool.not_false,cond_true];rw [if_neg (by unfold okP;omega)]
 simp only [decide_eq_true q11,Bool.not_true,cond_false,f48_j1]
 rw [if_pos (by unfold okP;omega)]
abbrev It:=T113
def Leaf (x:It):Prop:=x.Items=[]∧x.Bytes.length≤100000
def numIt (n:Int):It:=⟨1,IntKind.u64.wrap n,[],[]⟩
theorem it_eta (x:It) (h:x.Items=[]):(T113.mk x.Kind x.Num x.Bytes []:It)=x:=by cases x;cases h;rfl
theorem nextN {i n:Nat} (h:i<n) (hn:n<4611686018427387904):IntKind.i64.wrap ((i:Int)+1)=((i+1:Nat):Int):=by rw [wrap_i64 (by omega) (by omega)];rfl
theorem own_at (k:Nat) (hk:3≤k) (a b:Int) (l:List Int) (hl:l.length≤100000):f70 k a b l []=some (.o0 a b l []):=by
 obtain ⟨k,rfl⟩:∃ m,k=m+2:=⟨k - 2,by omega⟩
 have hr:l.length≤roomy:=by unfold roomy;omega
 simp [f70,f70_e,f53,ifE_pos hr,f70_l1,f70_l1_b,f70_j2]
theorem list_l (k:Nat) (hk:3≤k) (X:List It) (hX:∀ x∈X,Leaf x) (hn:X.length≤1000):∀ (d i n:Nat) (acc:List It),i+d=X.length→d<n→acc.length=i →
 f58_l1 k n X X.length i 0 0 [] [] 4 0 [] acc=some (.o1 X X.length X.length false 0 0 [] [] 4 0 [] (acc++X.drop i)):=by
 intro d
 induction d with
 | zero =>
  intro i n acc hi hq ha
  obtain ⟨n,rfl⟩:∃ m,n=m+1:=⟨n - 1,by omega⟩
  have e3:i=X.length:=by omega
  subst e3
  simp [f58_l1,f58_l1_b]
 | succ d ih =>
  intro i n acc hi hq ha
  obtain ⟨n,rfl⟩:∃ m,n=m+1:=⟨n - 1,by omega⟩
  have h1:i<X.length:=by omega
  have g1:X[i]?=some X[i]:=List.getElem?_eq_getElem h1
  have hlt:((i:Int)<(X.length:Int)):=by omega
  have hw:=nextN h1 (by omega)
  obtain ⟨l1,l2⟩:=hX X[i] (List.getElem_mem h1)
  have ho:=own_at k hk X[i].Kind X[i].Num X[i].Bytes l2
  have hr:(acc.length+1) * 64≤roomy:=by unfold roomy;omega
  have ih':=ih (i+1) n (acc++[X[i]]) (by omega) (by omega) (by rw [List.length_append,ha];rfl)
  have hx:(T113.mk X[i].Kind X[i].Num X[i].Bytes []:It)=X[i]:=it_eta _ l1
  rw [List.append_assoc,List.singleton_append,←List.drop_eq_getElem_cons h1] at ih'
  simp only [f58_l1,f58_l1_b,f58_l1_j1,f58_l1_j2,decide_eq_true hlt,cond_true,ifE_pos (show (0:Int)≤i by omega),Int.toNat_natCast,g1,Option.bind_some,l1,ho,ifE_pos hr,hx,hw,ih']
theorem list_at (k:Nat) (X:List It) (hX:∀ x∈X,Leaf x) (hn:X.length≤1000) (hk:X.length+4≤k):f58 k X=some (.o0 4 0 [] X):=by
 obtain ⟨k,rfl⟩:∃ m,k=m+1:=⟨k - 1,by omega⟩
 have h:=list_l k (by omega) X hX hn X.length 0 k [] (by omega) (by omega) rfl
 rw [List.drop_zero,List.nil_append,Int.natCast_zero] at h
 simp only [f58,f58_e,f58_j2,h,Option.bind_some]
theorem nums_l (k:Nat) (hk:3≤k) (l:List Int) (hn:l.length≤1000):∀ (d i n:Nat) (acc:List It),i+d=l.length→d<n→acc.length=i →
 f57_l1 k n l l.length i 0 0 [] [] acc=some (.o1 l l.length l.length false 0 0 [] [] (acc++(l.drop i).map numIt)):=by
 intro d
 induction d with
 | zero =>
  intro i n acc hi hq ha
  obtain ⟨n,rfl⟩:∃ m,n=m+1:=⟨n - 1,by omega⟩
  have e3:i=l.length:=by omega
  subst e3
  simp [f57_l1,f57_l1_b]
 | succ d ih =>
  intro i n acc hi hq ha
  obtain ⟨n,rfl⟩:∃ m,n=m+1:=⟨n - 1,by omega⟩
  obtain ⟨k,rfl⟩:∃ m,k=m+1:=⟨k - 1,by omega⟩
  have h1:i<l.length:=by omega
  have g1:l[i]?=some l[i]:=List.getElem?_eq_getElem h1
  have hlt:((i:Int)<(l.length:Int)):=by omega
  have hw:=nextN h1 (by omega)
  have hr:(acc.length+1) * 64≤roomy:=by unfold roomy;omega
  have ih':=ih (i+1) n (acc++[numIt l[i]]) (by omega) (by omega) (by rw [List.length_append,ha];rfl)
  rw [List.append_assoc,List.singleton_append,←List.map_cons,←List.drop_eq_getElem_cons h1] at ih'
  simp only [numIt] at ih'
  simp only [f57_l1,f57_l1_b,f57_l1_j1,f57_l1_j2,f61,f61_e,decide_eq_true hlt,cond_true,ifE_pos (show (0:Int)≤i by omega),Int.toNat_natCast,g1,Option.bind_some,ifE_pos hr,hw,ih',numIt]
theorem nums_at (k:Nat) (l:List Int) (hn:l.length≤1000) (hk:l.length+5≤k):f57 k l=some (.o0 4 0 [] (l.map numIt)):=by
 obtain ⟨k,rfl⟩:∃ m,k=m+1:=⟨k - 1,by omega⟩
 have h:=nums_l k (by omega) l hn l.length 0 k [] (by omega) (by omega) rfl
 rw [List.drop_zero,List.nil_append,Int.natCast_zero] at h
 have hL:=list_at k (l.map numIt) (fun x hx=>by obtain ⟨n,_,rfl⟩:=List.mem_map.1 hx;exact ⟨rfl,by simp [numIt]⟩) (by rw [List.length_map];exact hn) (by rw [List.length_map];omega)
 simp only [f57,f57_e,f57_j2,h,hL,Option.bind_some]
def or8 (a b:Int):Int:=(IntKind.u8.wrap ((BitVec.ofInt (IntKind.bits .u8) a ||| BitVec.ofInt (IntKind.bits .u8) b).toNat:Nat))
def sh5 (t:Int):Int:=IntKind.u8.wrap (t * 2 ^ (min 5 (IntKind.bits .u8)))
def beL (x:Int):Nat→List Int
 | 0=>[]
 | n+1=>IntKind.u8.wrap (Int.fdiv x (2 ^ (min (8 * n) (IntKind.bits .u64))))::beL x n
def hd (t n:Int):List Int :=
 cond (decide (n<24)) [or8 (sh5 t) (IntKind.u8.wrap n)] (cond (decide (n<256)) [or8 (sh5 t) 24,IntKind.u8.wrap n] (cond (decide (n<65536)) (or8 (sh5 t) 25::beL (IntKind.u64.wrap (IntKind.u16.wrap n)) 2)
  (cond (decide (n<4294967296)) (or8 (sh5 t) 26::beL (IntKind.u64.wrap (IntKind.u32.wrap n)) 4) (or8 (sh5 t) 27::beL n 8))))
theorem putw_l (k:Nat) (x:Int) (e:List Int):∀ (n q:Nat) (h:List Int),n≤8→n<q→h.length+n≤100000→f87_l1 k q x ((n:Int) - 1) h e=some (.o1 x (-1) false (h++beL x n) e):=by
 intro n
 induction n with
 | zero =>
  intro q h _ hq _
  obtain ⟨q,rfl⟩:∃ m,q=m+1:=⟨q - 1,by omega⟩
  simp [f87_l1,f87_l1_b,beL]
 | succ n ih =>
  intro q h h8 hq hl
  obtain ⟨q,rfl⟩:∃ m,q=m+1:=⟨q - 1,by omega⟩
  have e1:((n+1:Nat):Int) - 1=(n:Int):=by omega
  have e2:IntKind.i64.wrap ((8:Int) * (n:Int))=((8 * n:Nat):Int):=by rw [wrap_i64 (by omega) (by omega)];simp
  have e3:IntKind.i64.wrap ((n:Int) - 1)=(n:Int) - 1:=wrap_i64 (by omega) (by omega)
  have hr:h.length+1≤roomy:=by unfold roomy;omega
  have ih':=ih q (h++[IntKind.u8.wrap (Int.fdiv x (2 ^ (min (8 * n) (IntKind.bits .u64))))]) (by omega) (by omega) (by rw [List.length_append];simp;omega)
  rw [List.append_assoc,List.singleton_append] at ih'
  rw [e1]
  simp only [f87_l1,f87_l1_b,f87_l1_j1,f87_l1_j2,decide_eq_true (show (n:Int)≥0 by omega),cond_true,e2,ifE_pos (show ¬(((8 * n:Nat):Int)<0) by omega),ifE_pos hr,Int.toNat_natCast,Option.bind_some,e3,ih',beL]
theorem putw_at (k:Nat) (hk:12≤k) (x:Int) (n:Nat) (hn:n≤8) (h1:1≤n) (e:List Int) (he:e.length≤90000):f87 k x n e=some (.o0 e (e++beL x n)):=by
 obtain ⟨k,rfl⟩:∃ m,k=m+2:=⟨k - 2,by omega⟩
 have hr:e.length * 1≤roomy:=by unfold roomy;omega
 have e3:IntKind.i64.wrap ((n:Int) - 1)=(n:Int) - 1:=wrap_i64 (by omega) (by omega)
 simp only [f87,f87_e,f87_j2,f53,ifE_pos hr,Option.bind_some,e3,putw_l (k+1) x e n (k+1) e hn (by omega) (by omega)]
theorem head_at (k:Nat) (hk:20≤k) (t n:Int) (e:List Int) (he:e.length≤80000):f77 k t n e=some (.o0 (e++hd t n)):=by
 obtain ⟨k,rfl⟩:∃ m,k=m+2:=⟨k - 2,by omega⟩
 have r1:e.length+1≤roomy:=by unfold roomy;omega
 have r2:e.length+2≤roomy:=by unfold roomy;omega
 have hl:∀ y:Int,(e++[y]).length≤90000:=fun y=>by rw [List.length_append];simp;omega
 have p2:∀ x y,f87 k x 2 (e++[y])=some (.o0 (e++[y]) ((e++[y])++beL x 2)):=fun x y=>putw_at k (by omega) x 2 (by omega) (by omega) _ (hl y)
 have p4:∀ x y,f87 k x 4 (e++[y])=some (.o0 (e++[y]) ((e++[y])++beL x 4)):=fun x y=>putw_at k (by omega) x 4 (by omega) (by omega) _ (hl y)
 have p8:∀ x y,f87 k x 8 (e++[y])=some (.o0 (e++[y]) ((e++[y])++beL x 8)):=fun x y=>putw_at k (by omega) x 8 (by omega) (by omega) _ (hl y)
 simp only [f77,f77_e,f77_j1,f83,f83_e,f84,f84_e,f85,f85_e,ifE_pos r1,ifE_pos r2,p2,p4,p8,Option.bind_some,hd,or8,sh5]
 cases decide (n<24)<;>cases decide (n<256)<;>cases decide (n<65536)<;>cases decide (n<4294967296)<;>simp only [cond_true,cond_false,List.append_assoc,List.singleton_append]
def Leaf2 (x:It):Prop:=x.Items=[]∧x.Bytes.length≤6000∧(x.Kind=1∧x.Bytes=[]∨x.Kind=2∧x.Num=0)
def leafB (x:It):List Int:=cond (x.Kind==1) (hd 0 x.Num) (hd 2 (IntKind.u64.wrap (x.Bytes.length:Int))++x.Bytes)
def okL (X:List It):Bool:=X.all fun x=>decide (x.Bytes.length≤512)
theorem hd_len (t n:Int):(hd t n).length≤9:=by
 unfold hd
 cases decide (n<24)<;>cases decide (n<256)<;>cases decide (n<65536)<;>cases decide (n<4294967296)<;>simp [beL]
theorem leafB_len {x:It} (h:Leaf2 x):(leafB x).length≤6009:=by
 obtain ⟨_,h2,_⟩:=h
 unfold leafB
 cases x.Kind==1
 ·simp only [cond_false,List.length_append];have:=hd_len 2 (IntKind.u64.wrap (x.Bytes.length:Int));omega
 ·simp only [cond_true];have:=hd_len 0 x.Num;omega
theorem plain_at (k:Nat) (hk:1≤k) (x:It) (h:Leaf2 x):f81 k x.Kind x.Num x.Bytes []=some (.o0 true):=by
 obtain ⟨k,rfl⟩:∃ m,k=m+1:=⟨k - 1,by omega⟩
 obtain ⟨_,_,⟨h1,h2⟩ | ⟨h1,h2⟩⟩:=h
 ·simp [f81,f81_e,f81_j1,h1,h2]
 ·simp [f81,f81_e,f81_j1,f81_j2,h1,h2]
theorem may_leaf (k:Nat) (hk:4≤k) (x:It) (h:Leaf2 x):f75 k x.Kind x.Num x.Bytes [] 3=some (.o0 (decide (x.Bytes.length≤512))):=by
 obtain ⟨k,rfl⟩:∃ m,k=m+2:=⟨k - 2,by omega⟩
 have hp:=plain_at (k+1) (by omega) x h
 have hk3:(x.Kind==3)=false:=by obtain ⟨_,_,⟨h1,h2⟩ | ⟨h1,h2⟩⟩:=h<;>rw [h1]<;>rfl
 by_cases h5:x.Bytes.length≤512
 ·simp [f75,f75_e,hp,hk3,f75_j1,f75_j3,f75_l2,f75_l2_b,h5,show ¬((x.Bytes.length:Int)>512) by omega]
 ·simp [f75,f75_e,hp,h5,show ((x.Bytes.length:Int)>512) by omega]
theorem may_l (k:Nat) (hk:5≤k) (X:List It) (hX:∀ x∈X,Leaf2 x) (hn:X.length≤64):∀ (d i n:Nat),i+d=X.length→d<n →
 f75_l2 k (f75 k) n 4 X X.length i=cond (okL (X.drop i)) (some (.o2 4 X X.length X.length false)) (some (.o0 false)):=by
 intro d
 induction d with
 | zero =>
  intro i n hi hq
  obtain ⟨n,rfl⟩:∃ m,n=m+1:=⟨n - 1,by omega⟩
  have e3:i=X.length:=by omega
  subst e3
  simp [f75_l2,f75_l2_b,okL]
 | succ d ih =>
  intro i n hi hq
  obtain ⟨n,rfl⟩:∃ m,n=m+1:=⟨n - 1,by omega⟩
  have h1:i<X.length:=by omega
  have g1:X[i]?=some X[i]:=List.getElem?_eq_getElem h1
  have hlt:((i:Int)<(X.length:Int)):=by omega
  have hw:=nextN h1 (by omega)
  have h4:IntKind.i64.wrap ((4:Int) - 1)=3:=wrap_i64 (by omega) (by omega)
  have hx:=hX X[i] (List.getElem_mem h1)
  have hm:=may_leaf k (by omega) X[i] hx
  have ih':=ih (i+1) n (by omega) (by omega)
  rw [List.drop_eq_getElem_cons h1]
  simp only [f75_l2,f75_l2_b,f75_l2_j1,f75_l2_j2,decide_eq_true hlt,cond_true,ifE_pos (show (0:Int)≤i by omega),Int.toNat_natCast,g1,Option.bind_some,h4,hx.1,hm,hw,okL,List.all_cons]
  cases decide (X[i].Bytes.length≤512)
  ·simp only [Bool.not_false,cond_true,Bool.false_and,cond_false,Option.bind_some]
  ·simp only [Bool.not_true,cond_false,Bool.true_and,Option.bind_some,ih',okL]
theorem cchk_at (k:Nat) (X:List It) (hX:∀ x∈X,Leaf2 x) (hn:X.length≤64) (hk:X.length+10≤k):f68 k 4 0 [] X=some (.o0 (cond (okL X) 0 170)):=by
 obtain ⟨k,rfl⟩:∃ m,k=m+3:=⟨k - 3,by omega⟩
 have h:=may_l (k+1) (by omega) X hX hn X.length 0 (k+1) (by omega) (by omega)
 rw [List.drop_zero,Int.natCast_zero] at h
 have hp:f81 (k+1) 4 0 [] X=some (.o0 true):=by simp [f81,f81_e,f81_j1,f81_j2]
 have hm:f75 (k+2) 4 0 [] X 4=some (.o0 (okL X)):=by
  show f75_e (k+1) (f75 (k+1)) 4 0 [] X 4=_
  generalize f75 (k+1)=q at h ⊢
  cases ho:okL X<;>rw [ho] at h<;>simp only [cond_true,cond_false] at h<;>simp [f75_e,hp,f75_j1,f75_j3,h,show ¬((X.length:Int)>64) by omega,show X.length≤64 from hn]
 simp only [f68,f68_e,f68_j1,hm,Option.bind_some]
 cases okL X<;>rfl
theorem types1 (k:Nat) (hk:1≤k):f76 k 1=some (.o0 0):=by obtain ⟨k,rfl⟩:∃ m,k=m+1:=⟨k - 1,by omega⟩;simp [f76,f76_e,ifE]
theorem types2 (k:Nat) (hk:1≤k):f76 k 2=some (.o0 2):=by obtain ⟨k,rfl⟩:∃ m,k=m+1:=⟨k - 1,by omega⟩;simp [f76,f76_e,ifE]
theorem types4 (k:Nat) (hk:1≤k):f76 k 4=some (.o0 4):=by obtain ⟨k,rfl⟩:∃ m,k=m+1:=⟨k - 1,by omega⟩;simp [f76,f76_e,ifE]
theorem puto_at (k:Nat) (hk:22≤k) (x:It) (h:Leaf2 x) (e:List Int) (he:e.length≤60000):f69b k x.Kind x.Num x.Bytes [] e=some (.o0 (e++leafB x)):=by
 obtain ⟨k,rfl⟩:∃ m,k=m+1:=⟨k - 1,by omega⟩
 obtain ⟨_,hb,⟨h1,h2⟩ | ⟨h1,h2⟩⟩:=h
 ·simp [f69b,f69b_e,h1,types1 k (by omega),head_at k (by omega) _ _ e (by omega),leafB]
 ·have hr:(e++hd 2 (IntKind.u64.wrap (x.Bytes.length:Int))).length+x.Bytes.length≤roomy:=by
   have:=hd_len 2 (IntKind.u64.wrap (x.Bytes.length:Int));rw [List.length_append];unfold roomy;omega
  have e1:((2:Int)==1)=false:=rfl
  have e4:((2:Int)==4)=false:=rfl
  simp only [f69b,f69b_e,f69b_j3,h1,types2 k (by omega),e1,e4,cond_false,head_at k (by omega) _ _ e (by omega),Option.bind_some,ifE_pos hr,leafB,List.append_assoc]
theorem putn_l (k:Nat) (hk:24≤k) (X:List It) (hX:∀ x∈X,Leaf2 x) (hn:X.length≤64):∀ (d i n:Nat) (h:List Int),i+d=X.length→d<n→h.length+((X.drop i).flatMap leafB).length≤60000 →
 f69a_l1 k n X X.length i h=some (.o1 X X.length X.length false (h++(X.drop i).flatMap leafB)):=by
 intro d
 induction d with
 | zero =>
  intro i n h hi hq _
  obtain ⟨n,rfl⟩:∃ m,n=m+1:=⟨n - 1,by omega⟩
  have e3:i=X.length:=by omega
  subst e3
  simp [f69a_l1,f69a_l1_b]
 | succ d ih =>
  intro i n h hi hq hl
  obtain ⟨n,rfl⟩:∃ m,n=m+1:=⟨n - 1,by omega⟩
  have h1:i<X.length:=by omega
  have g1:X[i]?=some X[i]:=List.getElem?_eq_getElem h1
  have hlt:((i:Int)<(X.length:Int)):=by omega
  have hw:=nextN h1 (by omega)
  have hx:=hX X[i] (List.getElem_mem h1)
  rw [List.drop_eq_getElem_cons h1,List.flatMap_cons,List.length_append] at hl
  have hp:=puto_at k (by omega) X[i] hx h (by omega)
  have ih':=ih (i+1) n (h++leafB X[i]) (by omega) (by omega) (by rw [List.length_append];omega)
  rw [List.append_assoc,←List.flatMap_cons,←List.drop_eq_getElem_cons h1] at ih'
  simp only [f69a_l1,f69a_l1_b,f69a_l1_j1,f69a_l1_j2,decide_eq_true hlt,cond_true,ifE_pos (show (0:Int)≤i by omega),Int.toNat_natCast,g1,Option.bind_some,hx.1,hp,hw,ih']
def listB (X:List It):List Int:=hd 4 (IntKind.u64.wrap (X.length:Int))++X.flatMap leafB
theorem cenc_at (k:Nat) (X:List It) (hX:∀ x∈X,Leaf2 x) (hn:X.length≤64) (hl:(X.flatMap leafB).length≤50000) (hk:X.length+30≤k) :
 f56 k 4 0 [] X=some (cond (okL X) (.o1 0 (listB X)) (.o0 [] 170)):=by
 obtain ⟨k,rfl⟩:∃ m,k=m+2:=⟨k - 2,by omega⟩
 have hc:=cchk_at (k+1) X hX hn (by omega)
 have h:=putn_l k (by omega) X hX hn X.length 0 k (hd 4 (IntKind.u64.wrap (X.length:Int))) (by omega) (by omega) (by have:=hd_len 4 (IntKind.u64.wrap (X.length:Int));rw [List.drop_zero];omega)
 rw [List.drop_zero,Int.natCast_zero] at h
 have e1:((4:Int)==1)=false:=rfl
 have e4:((4:Int)==4)=true:=rfl
 have hp:f69a (k+1) 4 0 [] X=some (.o0 (listB X)):=by
  simp only [f69a,f69a_e,f69a_j2,types4 k (by omega),e1,e4,cond_true,cond_false,head_at k (by omega) _ _ [] (by simp),Option.bind_some,List.nil_append,h,listB]
 cases ho:okL X<;>rw [ho] at hc<;>simp only [cond_true,cond_false] at hc
 ·simp only [f56,f56_e,hc,Option.bind_some,cond_false]
  rfl
 ·simp only [f56,f56_e,f56_j1,hc,Option.bind_some,cond_true,bne_self_eq_false,cond_false,hp]
theorem sum16_l2 (k:Nat) (p:Int) (l:List Int) (a b:Int):∀ (d:Nat) (s:Int) (n:Nat),d≤8→d<n→∃ s',f78_l1_l2 k n p s l a b ((8:Int) - d)=some (.o1 p s' l a b 8 false):=by
 intro d
 induction d with
 | zero =>
  intro s n _ hq
  obtain ⟨n,rfl⟩:∃ m,n=m+1:=⟨n - 1,by omega⟩
  exact ⟨s,by simp [f78_l1_l2,f78_l1_l2_b]⟩
 | succ d ih =>
  intro s n h8 hq
  obtain ⟨n,rfl⟩:∃ m,n=m+1:=⟨n - 1,by omega⟩
  have hw:IntKind.i64.wrap ((8:Int) - ((d+1:Nat):Int)+1)=(8:Int) - d:=by rw [wrap_i64 (by omega) (by omega)];omega
  have hlt:((8:Int) - ((d+1:Nat):Int))<8:=by omega
  by_cases hc:((IntKind.u16.wrap ((BitVec.ofInt (IntKind.bits .u16) s &&& BitVec.ofInt (IntKind.bits .u16) (1:Int)).toNat:Nat))==1)=true
  ·obtain ⟨s',e⟩:=ih (IntKind.u16.wrap ((BitVec.ofInt (IntKind.bits .u16) (Int.fdiv s (2 ^ (min 1 (IntKind.bits .u16)))) ^^^ BitVec.ofInt (IntKind.bits .u16) p).toNat:Nat)) n (by omega) (by omega)
   exact ⟨s',by simp only [f78_l1_l2,f78_l1_l2_b,f78_l1_l2_j1,f78_l1_l2_j2,decide_eq_true hlt,cond_true,hc,Option.bind_some,hw,e]⟩
  ·rw [Bool.not_eq_true] at hc
   obtain ⟨s',e⟩:=ih (Int.fdiv s (2 ^ (min 1 (IntKind.bits .u16)))) n (by omega) (by omega)
   exact ⟨s',by simp only [f78_l1_l2,f78_l1_l2_b,f78_l1_l2_j1,f78_l1_l2_j3,decide_eq_true hlt,cond_true,cond_false,hc,Option.bind_some,hw,e]⟩
theorem sum16_l1 (k:Nat) (hk:9≤k) (p:Int) (l:List Int) (hl:l.length≤100000):∀ (d i:Nat) (s:Int) (n:Nat),i+d=l.length→d<n→∃ s',f78_l1 k n p s l l.length i=some (.o1 p s' l l.length l.length false):=by
 intro d
 induction d with
 | zero =>
  intro i s n hi hq
  obtain ⟨n,rfl⟩:∃ m,n=m+1:=⟨n - 1,by omega⟩
  have e3:i=l.length:=by omega
  subst e3
  exact ⟨s,by simp [f78_l1,f78_l1_b]⟩
 | succ d ih =>
  intro i s n hi hq
  obtain ⟨n,rfl⟩:∃ m,n=m+1:=⟨n - 1,by omega⟩
  have h1:i<l.length:=by omega
  have g1:l[i]?=some l[i]:=List.getElem?_eq_getElem h1
  have hlt:((i:Int)<(l.length:Int)):=by omega
  have hw:=nextN h1 (by omega)
  obtain ⟨s1,e1⟩:=sum16_l2 k p l l.length i 8 (IntKind.u16.wrap ((BitVec.ofInt (IntKind.bits .u16) s ^^^ BitVec.ofInt (IntKind.bits .u16) (IntKind.u16.wrap l[i])).toNat:Nat)) k (by omega) (by omega)
  rw [show (8:Int) - ((8:Nat):Int)=0 by omega] at e1
  obtain ⟨s',e⟩:=ih (i+1) s1 n (by omega) (by omega)
  exact ⟨s',by simp only [f78_l1,f78_l1_b,f78_l1_j1,f78_l1_j3,decide_eq_true hlt,cond_true,ifE_pos (show (0:Int)≤i by omega),Int.toNat_natCast,g1,Option.bind_some,e1,hw,e]⟩
theorem sum16_ex (k:Nat) (p:Int) (l:List Int) (hl:l.length≤100000) (hk:l.length+12≤k):∃ v,f78 k l p=some (.o0 v):=by
 obtain ⟨k,rfl⟩:∃ m,k=m+1:=⟨k - 1,by omega⟩
 obtain ⟨s',e⟩:=sum16_l1 k (by omega) p l hl l.length 0 (flipI .u16 (IntKind.u16.wrap 0)) k (by omega) (by omega)
 rw [Int.natCast_zero] at e
 exact ⟨flipI .u16 s',by simp only [f78,f78_e,e,Option.bind_some,f78_j2]⟩
theorem sum32_l2 (k:Nat) (p:Int) (l:List Int) (a b:Int):∀ (d:Nat) (s:Int) (n:Nat),d≤8→d<n→∃ s',f79_l1_l2 k n p s l a b ((8:Int) - d)=some (.o1 p s' l a b 8 false):=by
 intro d
 induction d with
 | zero =>
  intro s n _ hq
  obtain ⟨n,rfl⟩:∃ m,n=m+1:=⟨n - 1,by omega⟩
  exact ⟨s,by simp [f79_l1_l2,f79_l1_l2_b]⟩
 | succ d ih =>
  intro s n h8 hq
  obtain ⟨n,rfl⟩:∃ m,n=m+1:=⟨n - 1,by omega⟩
  have hw:IntKind.i64.wrap ((8:Int) - ((d+1:Nat):Int)+1)=(8:Int) - d:=by rw [wrap_i64 (by omega) (by omega)];omega
  have hlt:((8:Int) - ((d+1:Nat):Int))<8:=by omega
  by_cases hc:((IntKind.u32.wrap ((BitVec.ofInt (IntKind.bits .u32) s &&& BitVec.ofInt (IntKind.bits .u32) (1:Int)).toNat:Nat))==1)=true
  ·obtain ⟨s',e⟩:=ih (IntKind.u32.wrap ((BitVec.ofInt (IntKind.bits .u32) (Int.fdiv s (2 ^ (min 1 (IntKind.bits .u32)))) ^^^ BitVec.ofInt (IntKind.bits .u32) p).toNat:Nat)) n (by omega) (by omega)
   exact ⟨s',by simp only [f79_l1_l2,f79_l1_l2_b,f79_l1_l2_j1,f79_l1_l2_j2,decide_eq_true hlt,cond_true,hc,Option.bind_some,hw,e]⟩
  ·rw [Bool.not_eq_true] at hc
   obtain ⟨s',e⟩:=ih (Int.fdiv s (2 ^ (min 1 (IntKind.bits .u32)))) n (by omega) (by omega)
   exact ⟨s',by simp only [f79_l1_l2,f79_l1_l2_b,f79_l1_l2_j1,f79_l1_l2_j3,decide_eq_true hlt,cond_true,cond_false,hc,Option.bind_some,hw,e]⟩
theorem sum32_l1 (k:Nat) (hk:9≤k) (p:Int) (l:List Int) (hl:l.length≤100000):∀ (d i:Nat) (s:Int) (n:Nat),i+d=l.length→d<n→∃ s',f79_l1 k n p s l l.length i=some (.o1 p s' l l.length l.length false):=by
 intro d
 induction d with
 | zero =>
  intro i s n hi hq
  obtain ⟨n,rfl⟩:∃ m,n=m+1:=⟨n - 1,by omega⟩
  have e3:i=l.length:=by omega
  subst e3
  exact ⟨s,by simp [f79_l1,f79_l1_b]⟩
 | succ d ih =>
  intro i s n hi hq
  obtain ⟨n,rfl⟩:∃ m,n=m+1:=⟨n - 1,by omega⟩
  have h1:i<l.length:=by omega
  have g1:l[i]?=some l[i]:=List.getElem?_eq_getElem h1
  have hlt:((i:Int)<(l.length:Int)):=by omega
  have hw:=nextN h1 (by omega)
  obtain ⟨s1,e1⟩:=sum32_l2 k p l l.length i 8 (IntKind.u32.wrap ((BitVec.ofInt (IntKind.bits .u32) s ^^^ BitVec.ofInt (IntKind.bits .u32) (IntKind.u32.wrap l[i])).toNat:Nat)) k (by omega) (by omega)
  rw [show (8:Int) - ((8:Nat):Int)=0 by omega] at e1
  obtain ⟨s',e⟩:=ih (i+1) s1 n (by omega) (by omega)
  exact ⟨s',by simp only [f79_l1,f79_l1_b,f79_l1_j1,f79_l1_j3,decide_eq_true hlt,cond_true,ifE_pos (show (0:Int)≤i by omega),Int.toNat_natCast,g1,Option.bind_some,e1,hw,e]⟩
theorem sum32_ex (k:Nat) (p:Int) (l:List Int) (hl:l.length≤100000) (hk:l.length+12≤k):∃ v,f79 k l p=some (.o0 v):=by
 obtain ⟨k,rfl⟩:∃ m,k=m+1:=⟨k - 1,by omega⟩
 obtain ⟨s',e⟩:=sum32_l1 k (by omega) p l hl l.length 0 (flipI .u32 (IntKind.u32.wrap 0)) k (by omega) (by omega)
 rw [Int.natCast_zero] at e
 exact ⟨flipI .u32 s',by simp only [f79,f79_e,e,Option.bind_some,f79_j2]⟩
theorem seal_l (k:Nat) (x:Int) (w:Nat) (hw8:w≤8):∀ (d i n:Nat) (h:List Int),i+d=w→d<n→h.length+d≤100000→∃ h',f71_l1 k n x w i h=some (.o1 x w w false h')∧h'.length=h.length+d:=by
 intro d
 induction d with
 | zero =>
  intro i n h hi hq _
  obtain ⟨n,rfl⟩:∃ m,n=m+1:=⟨n - 1,by omega⟩
  have e3:i=w:=by omega
  subst e3
  exact ⟨h,by simp [f71_l1,f71_l1_b],rfl⟩
 | succ d ih =>
  intro i n h hi hq hl
  obtain ⟨n,rfl⟩:∃ m,n=m+1:=⟨n - 1,by omega⟩
  have e2:IntKind.i64.wrap ((8:Int) * (i:Int))=((8 * i:Nat):Int):=by rw [wrap_i64 (by omega) (by omega)];simp
  have hlt:((i:Int)<(w:Int)):=by omega
  have hw:=nextN (show i<w by omega) (by omega)
  have hr:h.length+1≤roomy:=by unfold roomy;omega
  obtain ⟨h',e,el⟩:=ih (i+1) n (h++[IntKind.u8.wrap (Int.fdiv x (2 ^ (min (8 * i) (IntKind.bits .u32))))]) (by omega) (by omega) (by rw [List.length_append];simp;omega)
  refine ⟨h',?_,by rw [el,List.length_append];simp;omega⟩
  simp only [f71_l1,f71_l1_b,f71_l1_j1,f71_l1_j2,decide_eq_true hlt,cond_true,e2,ifE_pos (show ¬(((8 * i:Nat):Int)<0) by omega),ifE_pos hr,Int.toNat_natCast,Option.bind_some,hw,e]
theorem seal_ex (k:Nat) (hk:12≤k) (l:List Int) (x:Int) (w:Nat) (hw:w≤8) (hl:l.length≤90000):∃ s,f71 k l x w=some (.o0 s)∧s.length=l.length+w:=by
 obtain ⟨k,rfl⟩:∃ m,k=m+2:=⟨k - 2,by omega⟩
 have hr:l.length * 1≤roomy:=by unfold roomy;omega
 obtain ⟨h',e,el⟩:=seal_l (k+1) x w hw w 0 (k+1) l (by omega) (by omega) (by omega)
 rw [Int.natCast_zero] at e
 exact ⟨h',by simp only [f71,f71_e,f71_j2,f53,ifE_pos hr,Option.bind_some,e],el⟩
theorem seal16_ex (k:Nat) (l:List Int) (hl:l.length≤80000) (hk:l.length+20≤k):∃ s,f60 k l=some (.o0 s)∧s.length=l.length+2:=by
 obtain ⟨k,rfl⟩:∃ m,k=m+2:=⟨k - 2,by omega⟩
 obtain ⟨v,e⟩:=sum16_ex k 33800 l (by omega) (by omega)
 obtain ⟨s,e1,e2⟩:=seal_ex (k+1) (by omega) l (IntKind.u32.wrap v) 2 (by omega) (by omega)
 exact ⟨s,by simp only [f60,f60_e,f72,f72_e,e,Option.bind_some];exact (by rw [show (2:Int)=((2:Nat):Int) from rfl,e1];rfl),e2⟩
theorem seal32_ex (k:Nat) (l:List Int) (hl:l.length≤80000) (hk:l.length+20≤k):∃ s,f62 k l=some (.o0 s)∧s.length=l.length+4:=by
 obtain ⟨k,rfl⟩:∃ m,k=m+2:=⟨k - 2,by omega⟩
 obtain ⟨v,e⟩:=sum32_ex k 2197175160 l (by omega) (by omega)
 obtain ⟨s,e1,e2⟩:=seal_ex (k+1) (by omega) l v 4 (by omega) (by omega)
 exact ⟨s,by simp only [f62,f62_e,f73,f73_e,e,Option.bind_some];exact (by rw [show (4:Int)=((4:Nat):Int) from rfl,e1];rfl),e2⟩
theorem flat_len (c:Nat):∀ (X:List It),(∀ x∈X,(leafB x).length≤c)→(X.flatMap leafB).length≤X.length * c
 | [],_=>by simp
 | x::X,h=>by
  have h1:=h x (List.mem_cons_self ..)
  have h2:=flat_len c X fun y hy=>h y (List.mem_cons_of_mem _ hy)
  rw [List.flatMap_cons,List.length_append,List.length_cons,Nat.add_mul]
  omega
theorem numIt_leaf (n:Int):Leaf2 (numIt n):=⟨rfl,by simp [numIt],.inl ⟨rfl,rfl⟩⟩
theorem numIt_len (n:Int):(leafB (numIt n)).length≤9:=by show (hd 0 _).length≤9;exact hd_len _ _
theorem okL_nums (l:List Int):okL (l.map numIt)=true:=by simp [okL,numIt]
theorem enc_h (k:Nat) (hk:8000≤k) (b:Bun) (hp:b.Payload.length≤5000):∃ A B:List Int,A.length≤20000∧B.length≤20000∧∀ h:Int,
 (∃ e,(e != 0)=true∧f39 k b.Source b.Dest b.Seq b.Created b.Lifetime b.HopLimit h b.Priority b.Offset b.Total b.Payload=some (.o0 [] e)) ∨
 (0≤h∧h≤16∧f39 k b.Source b.Dest b.Seq b.Created b.Lifetime b.HopLimit h b.Priority b.Offset b.Total b.Payload=some (.o1 0 (A++or8 (sh5 0) (IntKind.u8.wrap h)::B))):=by
 obtain ⟨k,rfl⟩:∃ m,k=m+3:=⟨k - 3,by omega⟩
 have hn:=nums_at (k+2) [7,b.Dest,b.Source,IntKind.i64.wrap b.Seq,b.Created,b.Lifetime,b.Offset,b.Total,b.Priority,b.HopLimit] (by simp) (by simp;omega)
 have hl1:(([7,b.Dest,b.Source,IntKind.i64.wrap b.Seq,b.Created,b.Lifetime,b.Offset,b.Total,b.Priority,b.HopLimit].map numIt).flatMap leafB).length≤90:=by
  have:=flat_len 9 ([7,b.Dest,b.Source,IntKind.i64.wrap b.Seq,b.Created,b.Lifetime,b.Offset,b.Total,b.Priority,b.HopLimit].map numIt) (fun x hx=>by obtain ⟨n,_,rfl⟩:=List.mem_map.1 hx;exact numIt_len n)
  simpa using this
 have hL1:∀ x∈[7,b.Dest,b.Source,IntKind.i64.wrap b.Seq,b.Created,b.Lifetime,b.Offset,b.Total,b.Priority,b.HopLimit].map numIt,Leaf2 x:=fun x hx=>by obtain ⟨n,_,rfl⟩:=List.mem_map.1 hx;exact numIt_leaf n
 have he1:=cenc_at (k+2) _ hL1 (by simp) (by omega) (by simp;omega)
 rw [okL_nums,cond_true] at he1
 have hB1:(listB ([7,b.Dest,b.Source,IntKind.i64.wrap b.Seq,b.Created,b.Lifetime,b.Offset,b.Total,b.Priority,b.HopLimit].map numIt)).length≤99:=by
  unfold listB;rw [List.length_append];have:=hd_len 4 (IntKind.u64.wrap ((([7,b.Dest,b.Source,IntKind.i64.wrap b.Seq,b.Created,b.Lifetime,b.Offset,b.Total,b.Priority,b.HopLimit].map numIt).length:Nat):Int));omega
 generalize listB ([7,b.Dest,b.Source,IntKind.i64.wrap b.Seq,b.Created,b.Lifetime,b.Offset,b.Total,b.Priority,b.HopLimit].map numIt)=first at he1 hB1
 generalize [7,b.Dest,b.Source,IntKind.i64.wrap b.Seq,b.Created,b.Lifetime,b.Offset,b.Total,b.Priority,b.HopLimit].map numIt=X1 at hn he1
 obtain ⟨s1,hs1,ls1⟩:=seal16_ex (k+2) first (by omega) (by omega)
 obtain ⟨s2,hs2,ls2⟩:=seal32_ex (k+2) b.Payload (by omega) (by omega)
 have c1:s1.length * 1≤roomy:=by unfold roomy;omega
 have c2:s2.length * 1≤roomy:=by unfold roomy;omega
 have l1:=hd_len 2 (IntKind.u64.wrap (s1.length:Int))
 have l2:=hd_len 2 (IntKind.u64.wrap (s2.length:Int))
 have l3:=hd_len 4 (IntKind.u64.wrap (3:Int))
 refine ⟨hd 4 (IntKind.u64.wrap 3)++(hd 2 (IntKind.u64.wrap (s1.length:Int))++s1),hd 2 (IntKind.u64.wrap (s2.length:Int))++s2,?_,?_,fun h => ?_⟩
 ·rw [List.length_append,List.length_append];omega
 ·rw [List.length_append];omega
 have hc:=bchk_at (k+2) (by omega) { b with Hops:=h }
 by_cases hok:okP { b with Hops:=h }
 ·rw [if_pos hok] at hc
  have hh:0≤h∧h≤16:=by unfold okP at hok;simp only at hok;omega
  have hL2:∀ x∈[(⟨2,0,s1,[]⟩:It),numIt h,⟨2,0,s2,[]⟩],Leaf2 x:=by
   intro x hx
   simp only [List.mem_cons,List.not_mem_nil,or_false] at hx
   rcases hx with rfl | rfl | rfl
   ·exact ⟨rfl,by show s1.length≤6000;omega,.inr ⟨rfl,rfl⟩⟩
   ·exact numIt_leaf h
   ·exact ⟨rfl,by show s2.length≤6000;omega,.inr ⟨rfl,rfl⟩⟩
  have hli:=list_at (k+2) [(⟨2,0,s1,[]⟩:It),numIt h,⟨2,0,s2,[]⟩] (fun x hx=>⟨(hL2 x hx).1,by have:=(hL2 x hx).2.1;omega⟩) (by simp) (by simp;omega)
  have hl2:=flat_len 6009 [(⟨2,0,s1,[]⟩:It),numIt h,⟨2,0,s2,[]⟩] fun x hx=>leafB_len (hL2 x hx)
  have he2:=cenc_at (k+2) _ hL2 (by simp) (by simp only [List.length_cons,List.length_nil] at hl2;omega) (by simp;omega)
  have hw:IntKind.u64.wrap h=h:=wrap_u64 (by omega) (by omega)
  have hbytes:listB [(⟨2,0,s1,[]⟩:It),numIt h,⟨2,0,s2,[]⟩]=(hd 4 (IntKind.u64.wrap 3)++(hd 2 (IntKind.u64.wrap (s1.length:Int))++s1))++or8 (sh5 0) (IntKind.u8.wrap h)::(hd 2 (IntKind.u64.wrap (s2.length:Int))++s2):=by
   have e0:hd 0 (IntKind.u64.wrap h)=[or8 (sh5 0) (IntKind.u8.wrap h)]:=by rw [hw];unfold hd;rw [decide_eq_true (show h<24 by omega),cond_true]
   simp [listB,leafB,numIt,e0]
  simp only [numIt] at hli he2 hbytes
  cases hol:okL [(⟨2,0,s1,[]⟩:It),⟨1,IntKind.u64.wrap h,[],[]⟩,⟨2,0,s2,[]⟩]<;>rw [hol] at he2<;>simp only [cond_true,cond_false] at he2
  ·refine .inl ⟨190,rfl,?_⟩
   simp only [f39,f39_e,f39_j1,f39_j5,hc,Option.bind_some,bne_self_eq_false,cond_false,hn,he1,hs1,hs2,f59,f59_e,f53,ifE_pos c1,ifE_pos c2,f61,f61_e,hli,he2]
   rfl
  ·refine .inr ⟨hh.1,hh.2,?_⟩
   rw [hbytes] at he2
   simp only [f39,f39_e,f39_j1,f39_j5,f39_j4,hc,Option.bind_some,bne_self_eq_false,cond_false,hn,he1,hs1,hs2,f59,f59_e,f53,ifE_pos c1,ifE_pos c2,f61,f61_e,hli,he2]
 ·rw [if_neg hok] at hc
  refine .inl ⟨190,rfl,?_⟩
  simp only [f39,f39_e,hc,Option.bind_some]
  rfl
theorem size_at (k:Nat) (hk:8001≤k) (b:Bun) (hp:b.Payload.length≤5000):∃ n:Nat,n≤50000∧f15 k b.Source b.Dest b.Seq b.Created b.Lifetime b.HopLimit b.Hops b.Priority b.Offset b.Total b.Payload=some (.o0 n):=by
 obtain ⟨k,rfl⟩:∃ m,k=m+1:=⟨k - 1,by omega⟩
 obtain ⟨A,B,hA,hB,h⟩:=enc_h k (by omega) b hp
 rcases h b.Hops with ⟨e,_,he⟩ | ⟨_,_,he⟩
 ·exact ⟨0,by omega,by simp only [f15,f15_e,he,Option.bind_some];rfl⟩
 ·exact ⟨(A++or8 (sh5 0) (IntKind.u8.wrap b.Hops)::B).length,by rw [List.length_append,List.length_cons];omega,by simp only [f15,f15_e,he,Option.bind_some]⟩
end Go.Proofs.YtiompmmbjpjjeaaDoorV