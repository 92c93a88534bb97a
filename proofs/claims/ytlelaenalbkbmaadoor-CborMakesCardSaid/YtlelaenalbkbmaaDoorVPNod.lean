/- Items with all their parts;what is built of a row. -/
import Derived.Test.YtlelaenalbkbmaaDoorVPItems
import Derived.Test.YtlelaenalbkbmaaDoorHViBP
namespace Go.Proofs.YtlelaenalbkbmaaDoorV
open Go
set_option linter.unusedVariables false
set_option linter.unusedSimpArgs false
theorem it_ext' {x y:It} (h1:x.Kind=y.Kind) (h2:x.Num=y.Num) (h3:x.Bytes=y.Bytes) (h4:x.Items=y.Items):x=y:=by cases x;cases y;simp_all
mutual
def nodes:It→List It
 | ⟨a,b,c,l⟩=>⟨a,b,c,l⟩::nodesL l
def nodesL:List It→List It
 | []=>[]
 | x::r=>nodes x++nodesL r
end
theorem nodes_eq (x:It):nodes x=x::nodesL x.Items:=by cases x;rw [nodes]
theorem nodesL_app:∀ (a b:List It),nodesL (a++b)=nodesL a++nodesL b
 | [],b=>by simp [nodesL]
 | x::r,b=>by rw [List.cons_append,nodesL,nodesL,nodesL_app r b,List.append_assoc]
theorem nodesL_one (x:It):nodesL [x]=nodes x:=by simp [nodesL]
theorem nodesL_sub {y:It}:∀ {l:List It},y∈l→(∀ z∈nodes y,z∈nodesL l)∧(nodes y).length≤(nodesL l).length
 | [],h=>by cases h
 | x::r,h=>by
  rw [nodesL,List.length_append]
  rcases List.mem_cons.1 h with rfl | h
  ·exact ⟨fun z hz=>List.mem_append_left _ hz,by omega⟩
  ·obtain ⟨h1,h2⟩:=nodesL_sub h
   exact ⟨fun z hz=>List.mem_append_right _ (h1 z hz),by omega⟩
theorem nodesL_len:∀ l:List It,l.length≤(nodesL l).length
 | []=>by simp
 | x::r=>by
  have:=nodesL_len r
  rw [nodesL,List.length_append,List.length_cons,nodes_eq,List.length_cons]
  omega
structure Wf (B:Nat) (x:It):Prop where
 num:0≤x.Num∧x.Num<18446744073709551616
 by':∀ c∈x.Bytes,0≤c∧c<256
 len:x.Bytes.length≤B
def Fit (B:Nat) (x:It):Prop:=(nodes x).length≤120∧∀ y∈nodes x,Wf B y
theorem Fit.top {B:Nat} {x:It} (h:Fit B x):Wf B x:=h.2 x (by rw [nodes_eq];exact List.mem_cons_self ..)
theorem item_lt {x y:It} (hy:y∈x.Items):(nodes y).length<(nodes x).length:=by
 have:=(nodesL_sub hy).2
 rw [nodes_eq x,List.length_cons]
 omega
theorem Fit.item {B:Nat} {x y:It} (h:Fit B x) (hy:y∈x.Items):Fit B y :=
 ⟨Nat.le_trans (Nat.le_of_lt (item_lt hy)) h.1,fun z hz=>h.2 z (by rw [nodes_eq];exact List.mem_cons_of_mem _ ((nodesL_sub hy).1 z hz))⟩
theorem Fit.items {B:Nat} {x:It} (h:Fit B x):x.Items.length≤119:=by
 have:=nodesL_len x.Items
 have h1:=h.1
 rw [nodes_eq,List.length_cons] at h1
 omega
def cnt (Y:List (List It)):Nat:=(Y.map fun y=>(nodesL y).length).sum
def AllW (B:Nat) (Y:List (List It)):Prop:=∀ y∈Y,∀ z∈nodesL y,Wf B z
def FOk (B:Nat) (f:T49):Prop:=(0≤f.Item_Num∧f.Item_Num<18446744073709551616)∧(∀ c∈f.Item_Bytes,0≤c∧c<256)∧f.Item_Bytes.length≤B
theorem leaf_wf {B:Nat} {f:T49} (h:FOk B f):∀ z∈nodesL [(⟨f.Item_Kind,f.Item_Num,f.Item_Bytes,[]⟩:It)],Wf B z:=by
 intro z hz
 rw [nodesL_one,nodes_eq] at hz
 simp only [nodesL,List.mem_singleton] at hz
 subst hz
 exact ⟨h.1,h.2.1,h.2.2⟩
theorem list_wf {B:Nat} {y:List It} (h:∀ z∈nodesL y,Wf B z):∀ z∈nodes (⟨4,0,[],y⟩:It),Wf B z:=by
 intro z hz
 rw [nodes_eq] at hz
 rcases List.mem_cons.1 hz with rfl | hz
 ·exact ⟨by simp,by simp,by simp⟩
 ·exact h z hz
theorem bstep_fit {B:Nat} (f:T49) (hf:FOk B f):∀ Y:List (List It),AllW B Y→AllW B (bstep f Y)∧cnt (bstep f Y)≤cnt Y+1:=by
 have add:∀ (y:List It) (r:List (List It)),AllW B (y::r)→AllW B ((y++[⟨f.Item_Kind,f.Item_Num,f.Item_Bytes,[]⟩])::r)∧cnt ((y++[⟨f.Item_Kind,f.Item_Num,f.Item_Bytes,[]⟩])::r)≤cnt (y::r)+1:=fun y r h=>by
  refine ⟨fun u hu z hz => ?_,?_⟩
  ·rcases List.mem_cons.1 hu with rfl | hu
   ·rw [nodesL_app] at hz
    rcases List.mem_append.1 hz with hz | hz
    ·exact h y (by simp) z hz
    ·exact leaf_wf hf z hz
   ·exact h u (List.mem_cons_of_mem _ hu) z hz
  ·simp only [cnt,List.map_cons,List.sum_cons,nodesL_app,nodesL_one,List.length_append,nodes_eq,nodesL,List.length_cons,List.length_nil]
   omega
 have opn:∀ (Y:List (List It)),AllW B Y→AllW B ([]::Y)∧cnt ([]::Y)≤cnt Y+1:=fun Y h=>by
  refine ⟨fun u hu z hz => ?_,?_⟩
  ·rcases List.mem_cons.1 hu with rfl | hu
   ·simp [nodesL] at hz
   ·exact h u hu z hz
  ·simp [cnt,nodesL]
 intro Y h
 match Y,h with
 | [],h=>exact ⟨h,by simp [bstep]⟩
 | [y],h =>
  unfold bstep
  cases f.Open
  ·exact add y [] h
  ·exact opn [y] h
 | y::p::r,h =>
  unfold bstep
  cases f.Close
  ·simp only [cond_false]
   cases f.Open&&decide (r.length<5)
   ·exact add y (p::r) h
   ·exact opn (y::p::r) h
  ·simp only [cond_true]
   refine ⟨fun u hu z hz => ?_,?_⟩
   ·rcases List.mem_cons.1 hu with rfl | hu
    ·rw [nodesL_app] at hz
     rcases List.mem_append.1 hz with hz | hz
     ·exact h p (by simp) z hz
     ·rw [nodesL_one] at hz
      exact list_wf (h y (by simp)) z hz
    ·exact h u (by simp [hu]) z hz
   ·simp only [cnt,List.map_cons,List.sum_cons,nodesL_app,nodesL_one,List.length_append,nodes_eq,List.length_cons]
    omega
theorem bfold_fit {B:Nat}:∀ (l:List T49) (Y:List (List It)),(∀ f∈l,FOk B f)→AllW B Y→1≤Y.length→Y.length≤7 →
 AllW B (bfold l Y)∧cnt (bfold l Y)≤cnt Y+l.length∧1≤(bfold l Y).length∧(bfold l Y).length≤7
 | [],Y,_,h,h1,h7=>⟨h,by simp [bfold],h1,h7⟩
 | f::l,Y,hl,h,h1,h7=>by
  obtain ⟨a1,a2⟩:=bstep_fit f (hl f (by simp)) Y h
  obtain ⟨b1,b2,_⟩:=bstep_len f Y h1 h7
  obtain ⟨c1,c2,c3⟩:=bfold_fit l (bstep f Y) (fun g hg=>hl g (by simp [hg])) a1 b1 b2
  rw [bfold]
  exact ⟨c1,by rw [List.length_cons];omega,c3⟩
theorem bdown_fit {B:Nat}:∀ (n:Nat) (Y:List (List It)),Y.length=n+1→AllW B Y→(nodesL (bdown Y)).length≤cnt Y+n∧∀ z∈nodesL (bdown Y),Wf B z
 | 0,Y,hn,h=>by
  match Y,hn,h with
  | [y],_,h =>
   rw [show bdown [y]=y by simp [bdown]]
   exact ⟨by simp [cnt],h y (by simp)⟩
 | n+1,Y,hn,h=>by
  match Y,hn,h with
  | y::p::r,hn,h =>
   rw [bdown]
   obtain ⟨a1,a2⟩:=bdown_fit (B:=B) n ((p++[⟨4,0,[],y⟩])::r) (by simpa using hn) fun u hu z hz=>by
    rcases List.mem_cons.1 hu with rfl | hu
    ·rw [nodesL_app] at hz
     rcases List.mem_append.1 hz with hz | hz
     ·exact h p (by simp) z hz
     ·rw [nodesL_one] at hz
      exact list_wf (h y (by simp)) z hz
    ·exact h u (by simp [hu]) z hz
   refine ⟨Nat.le_trans a1 ?_,a2⟩
   simp only [cnt,List.map_cons,List.sum_cons,nodesL_app,nodesL_one,List.length_append,nodes_eq,List.length_cons]
   omega
theorem built_fit {B:Nat} {l:List T49} (hl:∀ f∈l,FOk B f):Fit B (builtT l):=by
 obtain ⟨a1,a2,a3,a4⟩:=bfold_fit (B:=B) (l.take 100) [[]] (fun f hf=>hl f (List.mem_of_mem_take hf)) (fun y hy z hz=>by simp at hy;subst hy;simp [nodesL] at hz) (by simp) (by simp)
 have hlen:(l.take 100).length≤100:=by rw [List.length_take];omega
 have hc:cnt [([]:List It)]=0:=by simp [cnt,nodesL]
 obtain ⟨b1,b2⟩:=bdown_fit (B:=B) ((bfold (l.take 100) [[]]).length - 1) _ (by omega) a1
 unfold builtT
 generalize bdown (bfold (l.take 100) [[]])=X at b1 b2
 have gen:Fit B (⟨4,0,[],X⟩:It):=⟨by rw [nodes_eq,List.length_cons];show (nodesL X).length+1≤120;omega,list_wf b2⟩
 match X,b1,b2,gen with
 | [y],b1,b2,_=>rw [nodesL_one] at b1 b2;exact ⟨by show (nodes y).length≤120;omega,b2⟩
 | [],_,_,gen=>exact gen
 | _::_::_,_,_,gen=>exact gen
theorem built_at (k:Nat) (hk:200≤k) (l:List T49):f9 k l=some (.o0 (builtT l).Kind (builtT l).Num (builtT l).Bytes (builtT l).Items):=by
 simp only [f9,builtF,if_pos hk,Option.map_some]
theorem flat_ok {B:Nat} {f:T49} (h1:(Lit.int .u64 f.Item_Num).wf=true) (h2:∀ y∈f.Item_Bytes,(Lit.int .u8 y).wf=true) (h3:f.Item_Bytes.length≤B):FOk B f :=
 ⟨wf_u64 h1,fun c hc=>wf_u8 (h2 c hc),h3⟩
def bnd:List T49→Nat
 | []=>0
 | f::l=>max f.Item_Bytes.length (bnd l)
theorem bnd_le:∀ {l:List T49} {f:T49},f∈l→f.Item_Bytes.length≤bnd l
 | g::l,f,h=>by
  rw [bnd]
  rcases List.mem_cons.1 h with rfl | h
  ·omega
  ·have:=bnd_le h
   omega
theorem bnd_bound {M:Nat}:∀ {l:List T49},(∀ f∈l,f.Item_Bytes.length≤M)→bnd l≤M
 | [],_=>Nat.zero_le _
 | f::l,h=>by
  have h1:=h f (by simp)
  have h2:=bnd_bound (l:=l) fun g hg=>h g (by simp [hg])
  rw [bnd];omega
end Go.Proofs.YtlelaenalbkbmaaDoorV