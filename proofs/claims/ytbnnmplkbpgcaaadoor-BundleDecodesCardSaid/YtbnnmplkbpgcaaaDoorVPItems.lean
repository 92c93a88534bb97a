/- Items of cbor without parts of their own: their copies,lists of them,lists of numbers. -/
import Derived.Test.YtbnnmplkbpgcaaaDoorVPWords
import Derived.Test.YtbnnmplkbpgcaaaDoorVP16
namespace Go.Proofs.YtbnnmplkbpgcaaaDoorV
open Go
set_option linter.unusedVariables false
set_option linter.unusedSimpArgs false
abbrev It:=T50
def Leaf (x:It):Prop:=x.Items=[]∧x.Bytes.length≤100000
def numIt (n:Int):It:=⟨1,IntKind.u64.wrap n,[],[]⟩
theorem it_eta (x:It) (h:x.Items=[]):(T50.mk x.Kind x.Num x.Bytes []:It)=x:=by cases x;cases h;rfl
theorem nextN {i n:Nat} (h:i<n) (hn:n<4611686018427387904):IntKind.i64.wrap ((i:Int)+1)=((i+1:Nat):Int):=by rw [wrap_i64 (by omega) (by omega)];rfl
theorem own_at (k:Nat) (hk:3≤k) (a b:Int) (l:List Int) (hl:l.length≤100000):f52 k a b l []=some (.o0 a b l []):=by
 obtain ⟨k,rfl⟩:∃ m,k=m+2:=⟨k - 2,by omega⟩
 have hr:l.length≤roomy:=by unfold roomy;omega
 simp [f52,f52_e,f53,ifE_pos hr,f52_l1,f52_l1_b,f52_j2]
theorem list_l (k:Nat) (hk:3≤k) (X:List It) (hX:∀ x∈X,Leaf x) (hn:X.length≤1000):∀ (d i n:Nat) (acc:List It),i+d=X.length→d<n→acc.length=i →
 f33_l1 k n X X.length i 0 0 [] [] 4 0 [] acc=some (.o1 X X.length X.length false 0 0 [] [] 4 0 [] (acc++X.drop i)):=by
 intro d
 induction d with
 | zero =>
  intro i n acc hi hq ha
  obtain ⟨n,rfl⟩:∃ m,n=m+1:=⟨n - 1,by omega⟩
  have e3:i=X.length:=by omega
  subst e3
  simp [f33_l1,f33_l1_b]
 | succ d ih =>
  intro i n acc hi hq ha
  obtain ⟨n,rfl⟩:∃ m,n=m+1:=⟨n - 1,by omega⟩
  have h1:i<X.length:=by omega
  have g1:X[i]?=some X[i]:=List.getElem?_eq_getElem h1
  have hlt:((i:Int)<(X.length:Int)):=by omega
  have hw:=nextN h1 (by omega)
  obtain ⟨l1,l2⟩:=hX X[i] (List.getElem_mem h1)
  have ho:=own_at k hk X[i].Kind X[i].Num X[i].Bytes l2
  have hr:(acc.length+1) * 64≤roomy:=by unfold roomy;omega
  have ih':=ih (i+1) n (acc++[X[i]]) (by omega) (by omega) (by rw [List.length_append,ha];rfl)
  have hx:(T50.mk X[i].Kind X[i].Num X[i].Bytes []:It)=X[i]:=it_eta _ l1
  rw [List.append_assoc,List.singleton_append,←List.drop_eq_getElem_cons h1] at ih'
  simp only [f33_l1,f33_l1_b,f33_l1_j1,f33_l1_j2,decide_eq_true hlt,cond_true,ifE_pos (show (0:Int)≤i by omega),Int.toNat_natCast,g1,Option.bind_some,l1,ho,ifE_pos hr,hx,hw,ih']
theorem list_at (k:Nat) (X:List It) (hX:∀ x∈X,Leaf x) (hn:X.length≤1000) (hk:X.length+4≤k):f33 k X=some (.o0 4 0 [] X):=by
 obtain ⟨k,rfl⟩:∃ m,k=m+1:=⟨k - 1,by omega⟩
 have h:=list_l k (by omega) X hX hn X.length 0 k [] (by omega) (by omega) rfl
 rw [List.drop_zero,List.nil_append,Int.natCast_zero] at h
 simp only [f33,f33_e,f33_j2,h,Option.bind_some]
theorem nums_l (k:Nat) (hk:3≤k) (l:List Int) (hn:l.length≤1000):∀ (d i n:Nat) (acc:List It),i+d=l.length→d<n→acc.length=i →
 f32_l1 k n l l.length i 0 0 [] [] acc=some (.o1 l l.length l.length false 0 0 [] [] (acc++(l.drop i).map numIt)):=by
 intro d
 induction d with
 | zero =>
  intro i n acc hi hq ha
  obtain ⟨n,rfl⟩:∃ m,n=m+1:=⟨n - 1,by omega⟩
  have e3:i=l.length:=by omega
  subst e3
  simp [f32_l1,f32_l1_b]
 | succ d ih =>
  intro i n acc hi hq ha
  obtain ⟨n,rfl⟩:∃ m,n=m+1:=⟨n - 1,by omega⟩
  obtain ⟨k,rfl⟩:∃ m,k=m+1:=⟨k - 1,by omega⟩
  have h1:i<l.length:=by omega
  have g1:l[i]?=some l[i]:=List.getElem?_eq_getElem h1
  have hlt:((i:Int)<(l.length:Int)):=by omega
  have hw:=nextN h1 (by omega)
  have hr:(acc.length+1) * 64≤roomy:=by unfold roomy;omega
  have ih':=ih (i+1) n (acc++[numIt l[i]]) (by omega) (by omega) (by rw [List.length_append,ha];rfl)
  rw [List.append_assoc,List.singleton_append,←List.map_cons,←List.drop_eq_getElem_cons h1] at ih'
  simp only [numIt] at ih'
  simp only [f32_l1,f32_l1_b,f32_l1_j1,f32_l1_j2,f36,f36_e,decide_eq_true hlt,cond_true,ifE_pos (show (0:Int)≤i by omega),Int.toNat_natCast,g1,Option.bind_some,ifE_pos hr,hw,ih',numIt]
theorem nums_at (k:Nat) (l:List Int) (hn:l.length≤1000) (hk:l.length+5≤k):f32 k l=some (.o0 4 0 [] (l.map numIt)):=by
 obtain ⟨k,rfl⟩:∃ m,k=m+1:=⟨k - 1,by omega⟩
 have h:=nums_l k (by omega) l hn l.length 0 k [] (by omega) (by omega) rfl
 rw [List.drop_zero,List.nil_append,Int.natCast_zero] at h
 have hL:=list_at k (l.map numIt) (fun x hx=>by obtain ⟨n,_,rfl⟩:=List.mem_map.1 hx;exact ⟨rfl,by simp [numIt]⟩) (by rw [List.length_map];exact hn) (by rw [List.length_map];omega)
 simp only [f32,f32_e,f32_j2,h,hL,Option.bind_some]
end Go.Proofs.YtbnnmplkbpgcaaaDoorV