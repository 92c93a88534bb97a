/- What was decoded is encoded into the bytes that it took. -/
import Derived.Test.YtlelaenalbkbmaaDoorVPFwd
namespace Go.Proofs.YtlelaenalbkbmaaDoorV
open Go
set_option linter.unusedVariables false
set_option linter.unusedSimpArgs false
theorem numB_fold (l:List Int):∀ x:Nat,l.foldl (fun x c=>x * 256+c.toNat) x=x * 256 ^ l.length+numB l:=by
 induction l with
 | nil=>intro x;simp [numB]
 | cons c l ih =>
  intro x
  have h0:numB (c::l)=(0 * 256+c.toNat) * 256 ^ l.length+numB l:=by
   show l.foldl (fun x c=>x * 256+c.toNat) (0 * 256+c.toNat)=_
   exact ih _
  rw [List.foldl_cons,ih,h0,List.length_cons,Nat.pow_succ,Nat.add_mul,Nat.add_mul,Nat.mul_assoc,Nat.mul_comm 256 (256 ^ l.length)]
  omega
theorem numB_cons (c:Int) (l:List Int):numB (c::l)=c.toNat * 256 ^ l.length+numB l:=by
 show l.foldl (fun x c=>x * 256+c.toNat) (0 * 256+c.toNat)=_
 rw [numB_fold,Nat.zero_mul,Nat.zero_add]
theorem beL_low (a y n:Nat) (hn:n≤8):∀ m,m≤n→beL ((a * 256 ^ n+y:Nat):Int) m=beL (y:Int) m
 | 0,_=>rfl
 | m+1,h=>by
  have e:a * 256 ^ n+y=y+256 ^ m * (256 * (a * 256 ^ (n - m - 1))):=by
   have h1:256 ^ n=256 ^ m * (256 * 256 ^ (n - m - 1)):=by
    rw [←Nat.pow_succ',←Nat.pow_add]
    congr 1
    omega
   rw [h1,Nat.add_comm,Nat.mul_left_comm,Nat.mul_left_comm a 256]
  rw [beL,beL,beL_byte _ m (by omega),beL_byte _ m (by omega),beL_low a y n hn m (by omega),e,Nat.add_mul_div_left _ _ (Nat.pos_of_ne_zero (by simp)),Nat.add_mul_mod_self_left]
theorem beL_numB:∀ l:List Int,By l→l.length≤8→beL (numB l:Int) l.length=l
 | [],_,_=>rfl
 | c::l,hb,hl=>by
  have hc:=hb c (by simp)
  have hb':By l:=fun x hx=>hb x (List.mem_cons_of_mem _ hx)
  have hl':l.length≤7:=by simpa using hl
  have hlt:=numB_lt hb'
  rw [List.length_cons,beL,numB_cons,beL_byte _ _ hl',beL_low _ _ _ (by omega) _ (Nat.le_refl _),beL_numB l hb' (by omega),Nat.add_comm,Nat.add_mul_div_right _ _ (Nat.pos_of_ne_zero (by simp)),Nat.div_eq_of_lt hlt,Nat.zero_add,Nat.mod_eq_of_lt (by omega)]
  congr 1
  omega
theorem hd_of_arg {f:Int} (hf:0≤f∧f<256) (ht:f / 32=0∨f / 32=2∨f / 32=3∨f / 32=4) (hlow:f % 32≤27) {r:List Int} (hr:By r) {m j:Nat} (h:argD (f % 32) r=.ok m j):j≤r.length∧m<18446744073709551616∧hd (f / 32) m=f::r.take j:=by
 rw [argD] at h
 split at h
 ·cases h
  have e:(((f % 32).toNat:Nat):Int)=f % 32:=by omega
  refine ⟨by omega,by omega,?_⟩
  rw [hd_24 (by omega),fb ht (by omega),e,List.take_zero,show 32 * (f / 32)+f % 32=f by omega]
 rename_i h24
 split at h
 ·cases h
 rename_i hk
 split at h
 ·rename_i hc
  cases h
  have low:f % 32=24∨f % 32=25∨f % 32=26∨f % 32=27:=by omega
  have big:∀ (k:Nat),k=2∨k=4∨k=8→k≤r.length→beL (numB (r.take k):Int) k=r.take k∧numB (r.take k)<256 ^ k:=fun k hk hkl=>by
   have hl:(r.take k).length=k:=by rw [List.length_take];omega
   have h1:=beL_numB (r.take k) (hr.take k) (by omega)
   have h2:=numB_lt (hr.take k)
   rw [hl] at h1 h2
   exact ⟨h1,h2⟩
  rcases low with e | e | e | e
  ·rw [e] at hk hc ⊢
   have hk1:¬r.length<1:=hk
   have hc1:cn 1 (numB (r.take 1))=true:=hc
   show 1≤r.length∧numB (r.take 1)<_∧hd (f / 32) (numB (r.take 1))=f::r.take 1
   match r,hr with
   | [],_=>simp at hk1
   | c::r',hr =>
    have hcb:=hr c (by simp)
    have e1:numB ((c::r').take 1)=c.toNat:=by simp [numB]
    rw [e1] at hc1 ⊢
    have h24':24≤c.toNat:=by simpa [cn] using hc1
    refine ⟨by simp,by omega,?_⟩
    rw [hd_256 h24' (by omega),show (24:Int)=((24:Nat):Int) from rfl,fb ht (by omega)]
    simp
    omega
  ·rw [e] at hk hc ⊢
   have hk1:¬r.length<2:=hk
   have hc1:cn 2 (numB (r.take 2))=true:=hc
   show 2≤r.length∧numB (r.take 2)<_∧hd (f / 32) (numB (r.take 2))=f::r.take 2
   obtain ⟨h1,h2⟩:=big 2 (.inl rfl) (by omega)
   have h3:256≤numB (r.take 2):=by simpa [cn] using hc1
   refine ⟨by omega,by omega,?_⟩
   rw [hd_16 h3 (by omega),show (25:Int)=((25:Nat):Int) from rfl,fb ht (by omega),h1]
   congr 1
   omega
  ·rw [e] at hk hc ⊢
   have hk1:¬r.length<4:=hk
   have hc1:cn 4 (numB (r.take 4))=true:=hc
   show 4≤r.length∧numB (r.take 4)<_∧hd (f / 32) (numB (r.take 4))=f::r.take 4
   obtain ⟨h1,h2⟩:=big 4 (.inr (.inl rfl)) (by omega)
   have h3:65536≤numB (r.take 4):=by simpa [cn] using hc1
   refine ⟨by omega,by omega,?_⟩
   rw [hd_32 h3 (by omega),show (26:Int)=((26:Nat):Int) from rfl,fb ht (by omega),h1]
   congr 1
   omega
  ·rw [e] at hk hc ⊢
   have hk1:¬r.length<8:=hk
   have hc1:cn 8 (numB (r.take 8))=true:=hc
   show 8≤r.length∧numB (r.take 8)<_∧hd (f / 32) (numB (r.take 8))=f::r.take 8
   obtain ⟨h1,h2⟩:=big 8 (.inr (.inr rfl)) (by omega)
   have h3:4294967296≤numB (r.take 8):=by simpa [cn] using hc1
   refine ⟨by omega,by omega,?_⟩
   rw [hd_64 h3,show (27:Int)=((27:Nat):Int) from rfl,fb ht (by omega),h1]
   congr 1
   omega
 ·cases h
theorem hd_len9 (t n:Int):(hd t n).length≤9:=by
 unfold hd
 cases decide (n<24)<;>cases decide (n<256)<;>cases decide (n<65536)<;>cases decide (n<4294967296)<;>simp [beL_len]
theorem types_at (k:Nat) (hk:1≤k) (x:Int) (h:x=1∨x=2∨x=3∨x=4):f34 k x=some (.o0 (if x=1 then 0 else x)):=by
 obtain ⟨k,rfl⟩:∃ m,k=m+1:=⟨k - 1,by omega⟩
 rcases h with rfl | rfl | rfl | rfl<;>simp [f34,f34_e,ifE]
def EncOk (left:Nat) (x:It) (w:List Int):Prop :=
 (∀ k,700+left≤k→f25 k x.Kind x.Num x.Bytes x.Items left=some (.o0 true))∧(∀ k e,700+left≤k→e.length+w.length≤70000→f22b k x.Kind x.Num x.Bytes x.Items e=some (.o0 (e++w)))∧∀ k,700+left≤k→w.length≤70000→f22a k x.Kind x.Num x.Bytes x.Items=some (.o0 w)
theorem items_enc (left:Nat) (hD:∀ (l:List Int) (x:It) (n:Nat),By l→dec left l=.ok x n→n≤l.length∧EncOk left x (l.take n)):∀ (m:Nat) (s:List Int) (acc:List It) (x:It) (n:Nat),By s→itemsD (dec left) m s acc=.ok x n →
 ∃ ys:List It,x=⟨4,0,[],acc++ys⟩∧ys.length=m∧n≤s.length∧(∀ y∈ys,∀ k,700+left≤k→f25 k y.Kind y.Num y.Bytes y.Items left=some (.o0 true)) ∧
  ∀ (k:Nat) (pre:List It) (e:List Int) (c:Nat),700+left≤k→m<c→pre.length+m≤64→e.length+n≤70000 →
   f22b_l1 k (f22b k) c (pre++ys) (pre++ys).length pre.length e=some (.o1 (pre++ys) (pre++ys).length (pre++ys).length false (e++s.take n)) ∧
   f22a_l1 k c (pre++ys) (pre++ys).length pre.length e=some (.o1 (pre++ys) (pre++ys).length (pre++ys).length false (e++s.take n)):=by
 intro m
 induction m with
 | zero =>
  intro s acc x n hb h
  rw [itemsD] at h
  cases h
  refine ⟨[],by rw [List.append_nil],rfl,by omega,(by intro y hy;cases hy),fun k pre e c hk hc _ _ => ?_⟩
  obtain ⟨c,rfl⟩:∃ m,c=m+1:=⟨c - 1,by omega⟩
  rw [List.append_nil,List.take_zero,List.append_nil]
  exact ⟨by simp only [f22b_l1,f22b_l1_b,decide_eq_false (Int.lt_irrefl _),cond_false,Option.bind_some],by simp only [f22a_l1,f22a_l1_b,decide_eq_false (Int.lt_irrefl _),cond_false,Option.bind_some]⟩
 | succ m ih =>
  intro s acc x n hb h
  rw [itemsD] at h
  cases hz:dec left s with
  | err e=>rw [hz] at h;cases h
  | ok z j =>
   rw [hz] at h
   dsimp only at h
   obtain ⟨hj,hz1,hz2,hz3⟩:=hD s z j hb hz
   cases hi:itemsD (dec left) m (s.drop j) (acc++[z]) with
   | err e=>rw [hi] at h;cases h
   | ok w i =>
    rw [hi] at h
    cases h
    obtain ⟨ys,y1,y2,y3,y4,y5⟩:=ih (s.drop j) (acc++[z]) _ i (hb.drop j) hi
    rw [List.length_drop] at y3
    have ht:s.take (j+i)=s.take j++(s.drop j).take i:=List.take_add
    refine ⟨z::ys,by rw [y1,List.append_assoc];rfl,by simp [y2],by omega,fun y hy => ?_,fun k pre e c hk hc hp he => ?_⟩
    ·rcases List.mem_cons.1 hy with rfl | hy
     ·exact hz1
     ·exact y4 y hy
    obtain ⟨c,rfl⟩:∃ m,c=m+1:=⟨c - 1,by omega⟩
    have hl:(pre++z::ys).length=pre.length+(m+1):=by simp [y2]
    have g1:(pre++z::ys)[pre.length]?=some z:=by simp
    have hlt:=decide_eq_true (show (pre.length:Int)<((pre++z::ys).length:Int) by omega)
    have hw:IntKind.i64.wrap ((pre.length:Int)+1)=((pre.length+1:Nat):Int):=by rw [wrap_i64 (by omega) (by omega)];omega
    have hzl:(s.take j).length=j:=by rw [List.length_take];omega
    have hput:=hz2 k e hk (by omega)
    obtain ⟨a1,a2⟩:=y5 k (pre++[z]) (e++s.take j) c hk (by omega) (by simp;omega) (by rw [List.length_append];omega)
    have ea:(pre++[z])++ys=pre++z::ys:=by simp
    have eb:(pre++[z]).length=pre.length+1:=by simp
    rw [ea,eb,List.append_assoc,←ht] at a1 a2
    constructor
    ·simp only [f22b_l1,f22b_l1_b,hlt,cond_true,f22b_l1_j1,ifE_pos (show (0:Int)≤(pre.length:Int) by omega),Int.toNat_natCast,g1,Option.bind_some,hput,f22b_l1_j2,hw]
     exact a1
    ·simp only [f22a_l1,f22a_l1_b,hlt,cond_true,f22a_l1_j1,ifE_pos (show (0:Int)≤(pre.length:Int) by omega),Int.toNat_natCast,g1,Option.bind_some,hput,f22a_l1_j2,hw]
     exact a2
theorem may_items (k left:Nat) (hleft:left≤100) (X:List It) (hX:X.length≤64) (h:∀ y∈X,f25 k y.Kind y.Num y.Bytes y.Items left=some (.o0 true)):∀ (d i n:Nat),i+d=X.length→d<n →
 f25_l2 k (f25 k) n ((left+1:Nat):Int) X X.length i=some (.o2 ((left+1:Nat):Int) X X.length X.length false):=by
 intro d
 induction d with
 | zero =>
  intro i n hi hn
  obtain ⟨n,rfl⟩:∃ m,n=m+1:=⟨n - 1,by omega⟩
  have e:i=X.length:=by omega
  subst e
  simp only [f25_l2,f25_l2_b,decide_eq_false (Int.lt_irrefl _),cond_false,Option.bind_some]
 | succ d ih =>
  intro i n hi hn
  obtain ⟨n,rfl⟩:∃ m,n=m+1:=⟨n - 1,by omega⟩
  have h1:i<X.length:=by omega
  have g1:X[i]?=some X[i]:=List.getElem?_eq_getElem h1
  have hm:=h X[i] (List.getElem_mem h1)
  have hw:IntKind.i64.wrap (((left+1:Nat):Int) - 1)=(left:Int):=by rw [wrap_i64 (by omega) (by omega)];omega
  have hw2:IntKind.i64.wrap ((i:Int)+1)=((i+1:Nat):Int):=by rw [wrap_i64 (by omega) (by omega)];omega
  have ih':=ih (i+1) n (by omega) (by omega)
  simp only [f25_l2,f25_l2_b,decide_eq_true (show (i:Int)<(X.length:Int) by omega),cond_true,f25_l2_j1,ifE_pos (show (0:Int)≤(i:Int) by omega),Int.toNat_natCast,g1,Option.bind_some,hw,hm,Bool.not_true,cond_false,f25_l2_j2,hw2,ih']
theorem enc_dec:∀ (left:Nat) (hleft:left≤100) (l:List Int) (x:It) (n:Nat),By l→dec left l=.ok x n→n≤l.length∧EncOk left x (l.take n):=by
 intro left
 induction left with
 | zero=>intro _ l x n hb h;cases l<;>simp [dec] at h
 | succ left ih =>
  intro hleft l x n hb h
  cases l with
  | nil=>simp [dec] at h
  | cons f r =>
   have hf:=hb f (by simp)
   have hr:By r:=fun y hy=>hb y (List.mem_cons_of_mem _ hy)
   rw [dec,bodyD] at h
   split at h
   ·cases h
   rename_i hbad
   have hbad1:¬f / 32=1:=fun e=>hbad (.inl e)
   have hbad2:¬f / 32>4:=fun e=>hbad (.inr (.inl e))
   have hbad3:¬f % 32>27:=fun e=>hbad (.inr (.inr e))
   have ht:f / 32=0∨f / 32=2∨f / 32=3∨f / 32=4:=by omega
   cases ha:argD (f % 32) r with
   | err e=>rw [ha] at h;cases h
   | ok m j =>
    rw [ha] at h
    dsimp only at h
    obtain ⟨hj,hm,hhd⟩:=hd_of_arg hf ht (by omega) hr ha
    have htake:∀ i,(f::r).take (1+j+i)=hd (f / 32) m++(r.drop j).take i:=fun i=>by
     rw [hhd,show 1+j+i=(j+i)+1 by omega,List.take_succ_cons,List.take_add];rfl
    have hhl:=hd_len9 (f / 32) m
    have hx1:(((left+1:Nat):Int)==0)=false:=by rw [beq_eq_false_iff_ne];omega
    cases htl:tailD (dec left) (f / 32) m (r.drop j) with
    | err e=>rw [htl] at h;cases h
    | ok z i =>
     rw [htl] at h
     cases h
     rw [htake]
     rw [tailD] at htl
     split at htl
     ·rename_i t0
      cases htl
      refine ⟨by simp;omega,fun k hk => ?_,fun k e hk he => ?_,fun k hk he => ?_⟩
      ·obtain ⟨k,rfl⟩:∃ m,k=m+1:=⟨k - 1,by omega⟩
       have hl:=may_items k left (by omega) [] (by simp) (by intro y hy;cases hy) 0 0 k rfl (by omega)
       have hpl:f37 k 1 m [] []=some (.o0 true):=by obtain ⟨k,rfl⟩:∃ m,k=m+1:=⟨k - 1,by omega⟩;simp [f37,f37_e,f37_j1]
       simp only [f25,f25_e,hx1,cond_false,hpl,Option.bind_some,Bool.not_true,List.length_nil,Int.natCast_zero,show decide ((0:Int)>512)=false from rfl,show decide ((0:Int)>64)=false from rfl,show ((1:Int)==3)=false from rfl,f25_j1]
       simp only [List.length_nil,Int.natCast_zero] at hl
       simp only [hl,Option.bind_some,f25_j3]
      ·obtain ⟨k,rfl⟩:∃ m,k=m+1:=⟨k - 1,by omega⟩
       have hh:=head_at k (by omega) 0 m e (by omega)
       have hty:=types_at k (by omega) 1 (.inl rfl)
       rw [if_pos rfl] at hty
       rw [t0,List.take_zero,List.append_nil]
       simp only [f22b,f22b_e,hty,Option.bind_some,show ((1:Int)==1)=true from rfl,cond_true,hh]
      ·obtain ⟨k,rfl⟩:∃ m,k=m+1:=⟨k - 1,by omega⟩
       have hh:=head_at k (by omega) 0 m [] (by simp)
       have hty:=types_at k (by omega) 1 (.inl rfl)
       rw [if_pos rfl] at hty
       rw [t0,List.take_zero,List.append_nil]
       simp only [f22a,f22a_e,hty,Option.bind_some,show ((1:Int)==1)=true from rfl,cond_true,hh,List.nil_append]
     rename_i t0
     split at htl
     ·rename_i t4
      split at htl
      ·cases htl
      rename_i h64
      obtain ⟨ys,rfl,y2,y3,y4,y5⟩:=items_enc left (fun l x n=>ih (by omega) l x n) m (r.drop j) [] _ i (hr.drop j) htl
      rw [List.length_drop] at y3
      have hil:((r.drop j).take i).length=i:=by rw [List.length_take,List.length_drop];omega
      have hwm:IntKind.u64.wrap ((ys.length:Nat):Int)=(m:Int):=by rw [y2];exact wrap_u64 (by omega) (by omega)
      refine ⟨by simp;omega,fun k hk => ?_,fun k e hk he => ?_,fun k hk he => ?_⟩
      ·obtain ⟨k,rfl⟩:∃ m,k=m+1:=⟨k - 1,by omega⟩
       have hl:=may_items k left (by omega) ys (by omega) (fun y hy=>y4 y hy k (by omega)) ys.length 0 k (by omega) (by omega)
       rw [Int.natCast_zero] at hl
       have hpl:f37 k 4 0 [] ys=some (.o0 true):=by obtain ⟨k,rfl⟩:∃ m,k=m+1:=⟨k - 1,by omega⟩;simp [f37,f37_e,f37_j1,f37_j2]
       simp only [List.nil_append,f25,f25_e,hx1,cond_false,hpl,Option.bind_some,Bool.not_true,List.length_nil,Int.natCast_zero,show decide ((0:Int)>512)=false from rfl,decide_eq_false (show ¬(ys.length:Int)>64 by omega),show ((4:Int)==3)=false from rfl,f25_j1,hl,f25_j3]
      ·obtain ⟨k,rfl⟩:∃ m,k=m+1:=⟨k - 1,by omega⟩
       rw [List.length_append,hil] at he
       have hh:=head_at k (by omega) 4 m e (by omega)
       have hty:=types_at k (by omega) 4 (.inr (.inr (.inr rfl)))
       rw [if_neg (by decide)] at hty
       obtain ⟨a1,_⟩:=y5 k [] (e++hd 4 m) k (by omega) (by omega) (by simp;omega) (by rw [List.length_append];rw [t4] at he;omega)
       simp only [List.nil_append,List.length_nil,Int.natCast_zero] at a1
       rw [t4]
       simp only [List.nil_append,f22b,f22b_e,hty,Option.bind_some,show ((4:Int)==1)=false from rfl,show ((4:Int)==4)=true from rfl,cond_true,cond_false,hwm,hh,a1,f22b_j2,List.append_assoc]
      ·obtain ⟨k,rfl⟩:∃ m,k=m+1:=⟨k - 1,by omega⟩
       rw [List.length_append,hil] at he
       have hh:=head_at k (by omega) 4 m [] (by simp)
       have hty:=types_at k (by omega) 4 (.inr (.inr (.inr rfl)))
       rw [if_neg (by decide)] at hty
       obtain ⟨_,a1⟩:=y5 k [] ([]++hd 4 m) k (by omega) (by omega) (by simp;omega) (by rw [List.length_append];rw [t4] at he;simp;omega)
       simp only [List.nil_append,List.length_nil,Int.natCast_zero] at a1 hh
       rw [t4]
       simp only [List.nil_append,f22a,f22a_e,hty,Option.bind_some,show ((4:Int)==1)=false from rfl,show ((4:Int)==4)=true from rfl,cond_true,cond_false,hwm,hh,a1,f22a_j2]
     rename_i t4
     split at htl
     ·cases htl
     rename_i h512
     split at htl
     ·cases htl
     rename_i hlen
     split at htl
     ·cases htl
     rename_i hval
     cases htl
     have ht23:f / 32=2∨f / 32=3:=by omega
     have hwl:((r.drop j).take m).length=m:=by rw [List.length_take];omega
     have hwb:By ((r.drop j).take m):=(hr.drop j).take m
     generalize f / 32=t at *
     generalize hw:(r.drop j).take m=w at *
     have hwm:IntKind.u64.wrap ((w.length:Nat):Int)=(m:Int):=by rw [hwl];exact wrap_u64 (by omega) (by omega)
     refine ⟨by simp at hlen ⊢;omega,fun k hk => ?_,fun k e hk he => ?_,fun k hk he => ?_⟩
     ·obtain ⟨k,rfl⟩:∃ m,k=m+1:=⟨k - 1,by omega⟩
      have hl:=may_items k left (by omega) [] (by simp) (by intro y hy;cases hy) 0 0 k rfl (by omega)
      simp only [List.length_nil,Int.natCast_zero] at hl
      have hv:=val_at k w (by omega) hwb
      rcases ht23 with rfl | rfl
      ·have hpl:f37 k 2 0 w []=some (.o0 true):=by obtain ⟨k,rfl⟩:∃ m,k=m+1:=⟨k - 1,by omega⟩;simp [f37,f37_e,f37_j1,f37_j2]
       simp only [f25,f25_e,hx1,cond_false,hpl,Option.bind_some,Bool.not_true,decide_eq_false (show ¬(w.length:Int)>512 by omega),List.length_nil,Int.natCast_zero,show decide ((0:Int)>64)=false from rfl,show ((2:Int)==3)=false from rfl,f25_j1,hl,f25_j3]
      ·have hvb:vB w=true:=by
        cases hq:vB w
        ·exact absurd ⟨rfl,hq⟩ hval
        ·rfl
       rw [hvb] at hv
       have hpl:f37 k 3 0 w []=some (.o0 true):=by obtain ⟨k,rfl⟩:∃ m,k=m+1:=⟨k - 1,by omega⟩;simp [f37,f37_e,f37_j1,f37_j2]
       simp only [f25,f25_e,hx1,cond_false,hpl,Option.bind_some,Bool.not_true,decide_eq_false (show ¬(w.length:Int)>512 by omega),List.length_nil,Int.natCast_zero,show decide ((0:Int)>64)=false from rfl,show ((3:Int)==3)=true from rfl,cond_true,hv,f25_j1,hl,f25_j3]
     ·obtain ⟨k,rfl⟩:∃ m,k=m+1:=⟨k - 1,by omega⟩
      rw [List.length_append] at he
      have hh:=head_at k (by omega) t m e (by omega)
      have hr1:(e++hd t m).length+w.length≤roomy:=by rw [List.length_append];unfold roomy;omega
      have hty:=types_at k (by omega) t (by omega)
      rw [if_neg (by omega)] at hty
      rcases ht23 with rfl | rfl
      ·simp only [f22b,f22b_e,hty,Option.bind_some,show ((2:Int)==1)=false from rfl,show ((2:Int)==4)=false from rfl,cond_false,f22b_j3,hwm,hh,ifE_pos hr1,List.append_assoc]
      ·simp only [f22b,f22b_e,hty,Option.bind_some,show ((3:Int)==1)=false from rfl,show ((3:Int)==4)=false from rfl,cond_false,f22b_j3,hwm,hh,ifE_pos hr1,List.append_assoc]
     ·obtain ⟨k,rfl⟩:∃ m,k=m+1:=⟨k - 1,by omega⟩
      rw [List.length_append] at he
      have hh:=head_at k (by omega) t m [] (by simp)
      rw [List.nil_append] at hh
      have hr1:(hd t m).length+w.length≤roomy:=by unfold roomy;omega
      have hty:=types_at k (by omega) t (by omega)
      rw [if_neg (by omega)] at hty
      rcases ht23 with rfl | rfl
      ·simp only [f22a,f22a_e,hty,Option.bind_some,show ((2:Int)==1)=false from rfl,show ((2:Int)==4)=false from rfl,cond_false,f22a_j3,hwm,hh,Option.bind_some,ifE_pos hr1]
      ·simp only [f22a,f22a_e,hty,Option.bind_some,show ((3:Int)==1)=false from rfl,show ((3:Int)==4)=false from rfl,cond_false,f22a_j3,hwm,hh,Option.bind_some,ifE_pos hr1]
theorem cenc_dec (k:Nat) (hk:710≤k) (b:List Int) (hb:By b) (hl:b.length≤60000) (x:It) (n:Nat) (h:dec 4 b=.ok x n):n≤b.length∧f10 k x.Kind x.Num x.Bytes x.Items=some (.o1 0 (b.take n)):=by
 obtain ⟨k,rfl⟩:∃ m,k=m+2:=⟨k - 2,by omega⟩
 obtain ⟨hn,h1,_,h3⟩:=enc_dec 4 (by omega) b x n hb h
 have hm:=h1 k (by omega)
 have hp:=h3 (k+1) (by omega) (by rw [List.length_take];omega)
 rw [show ((4:Nat):Int)=4 from rfl] at hm
 refine ⟨hn,?_⟩
 simp only [f10,f10_e,f13,f13_e,hm,Option.bind_some,Bool.not_true,cond_false,f13_j1,bne_self_eq_false,f10_j1,hp]
end Go.Proofs.YtlelaenalbkbmaaDoorV