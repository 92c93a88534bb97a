/- The item of a row,told plainly;and that the interpreter answers it. -/
import Derived.Test.YtlelaenalbkbmaaDoorHViB
namespace Go.Proofs.YtlelaenalbkbmaaDoorV
open Go
set_option linter.unusedVariables false
set_option linter.unusedSimpArgs false
def bstep (f:T49):List (List T28)→List (List T28)
 | []=>[]
 | [y]=>bif f.Open then [[],y] else [y++[⟨f.Item_Kind,f.Item_Num,f.Item_Bytes,[]⟩]]
 | y::p::r=>bif f.Close then (p++[⟨4,0,[],y⟩])::r else bif f.Open&&decide (r.length<5) then []::y::p::r else (y++[⟨f.Item_Kind,f.Item_Num,f.Item_Bytes,[]⟩])::p::r
def bfold:List T49→List (List T28)→List (List T28)
 | [],Y=>Y
 | f::l,Y=>bfold l (bstep f Y)
def bdown:List (List T28)→List T28
 | []=>[]
 | [y]=>y
 | y::p::r=>bdown ((p++[⟨4,0,[],y⟩])::r)
termination_by Y=>Y.length
def bone:List T28→T28
 | [y]=>y
 | x=>⟨4,0,[],x⟩
def builtT (l:List T49):T28:=bone (bdown (bfold (l.take 100) [[]]))
def builtF (k:Nat) (l:List T49):Option T28:=if 200≤k then some (builtT l) else none
def tot (Y:List (List T28)):Nat:=(Y.map List.length).sum
theorem tot_mem {y:List T28}:∀ {Y:List (List T28)},y∈Y→y.length≤tot Y
 | [],h=>by cases h
 | z::r,h=>by
   rcases List.mem_cons.1 h with rfl | h
   ·simp [tot]
   ·have:=tot_mem h
    simp [tot] at this ⊢
    omega
theorem bstep_len (f:T49):∀ Y:List (List T28),1≤Y.length→Y.length≤7→1≤(bstep f Y).length∧(bstep f Y).length≤7∧tot (bstep f Y)≤tot Y+1
 | [],h,_=>by simp at h
 | [y],_,_=>by
   unfold bstep
   cases f.Open<;>simp [tot]
 | y::p::r,_,h7=>by
   unfold bstep
   simp only [List.length_cons] at h7
   cases f.Close
   ·simp only [cond_false]
    cases f.Open
    ·simp [tot];omega
    ·by_cases h:r.length<5
     ·simp [tot,h];omega
     ·simp [tot,h];omega
   ·simp [tot];omega
theorem room {n:Nat} (h:n≤300):(n+1) * 64≤roomy:=by unfold roomy;omega
theorem ba1 (k n:Nat) (l:List T49) (i:Nat) (f:T49) (hi:l[i]?=some f) (hlt:(i:Int)<(l.length:Int)) (h0:(0:Int)≤(i:Int)) (hn:((i:Int)==(100:Int))=false) (hw:IntKind.i64.wrap ((i:Int)+1)=((i+1:Nat):Int)) (x0:List T28) (ht:tot [x0]≤200):LP 9 k (nav B9 [1,2,2,1,2,2]) (n+2) (bst l i [x0])=LP 9 k (nav B9 [1,2,2,1,2,2]) (n+1) (bst l (i+1) (bstep f [x0]).reverse):=by
 have r_x0:=room (Nat.le_trans (tot_mem (Y:=[x0]) (y:=x0) (by simp)) (Nat.le_trans ht (by decide)))
 cases ho:f.Open
 ·rw [show (bstep f [x0]).reverse=[x0++[⟨f.Item_Kind,f.Item_Num,f.Item_Bytes,[]⟩]] by simp [bstep,ho]]
  exact bs_d1 k (n+1) l i f hi hlt h0 hn hw x0 f.Close rfl ho r_x0
 ·rw [show (bstep f [x0]).reverse=[x0,[]] by simp [bstep,ho]]
  exact (bs_o1 k (n+1) l i f hi hlt h0 hn hw x0 f.Close rfl ho).trans (cn_o1 k n l (i+1) x0)
theorem ba2 (k n:Nat) (l:List T49) (i:Nat) (f:T49) (hi:l[i]?=some f) (hlt:(i:Int)<(l.length:Int)) (h0:(0:Int)≤(i:Int)) (hn:((i:Int)==(100:Int))=false) (hw:IntKind.i64.wrap ((i:Int)+1)=((i+1:Nat):Int)) (x0 x1:List T28) (ht:tot [x1,x0]≤200):LP 9 k (nav B9 [1,2,2,1,2,2]) (n+2) (bst l i [x0,x1])=LP 9 k (nav B9 [1,2,2,1,2,2]) (n+1) (bst l (i+1) (bstep f [x1,x0]).reverse):=by
 have r_x1:=room (Nat.le_trans (tot_mem (Y:=[x1,x0]) (y:=x1) (by simp)) (Nat.le_trans ht (by decide)))
 have r_x0:=room (Nat.le_trans (tot_mem (Y:=[x1,x0]) (y:=x0) (by simp)) (Nat.le_trans ht (by decide)))
 cases hc:f.Close
 ·cases ho:f.Open
  ·rw [show (bstep f [x1,x0]).reverse=[x0,x1++[⟨f.Item_Kind,f.Item_Num,f.Item_Bytes,[]⟩]] by simp [bstep,hc,ho]]
   exact bs_d2 k (n+1) l i f hi hlt h0 hn hw x0 x1 hc ho r_x1
  ·rw [show (bstep f [x1,x0]).reverse=[x0,x1,[]] by simp [bstep,hc,ho]]
   exact (bs_o2 k (n+1) l i f hi hlt h0 hn hw x0 x1 hc ho).trans (cn_o2 k n l (i+1) x0 x1)
 ·rw [show (bstep f [x1,x0]).reverse=[x0++[⟨4,0,[],x1⟩]] by simp [bstep,hc]]
  exact (bs_c2 k (n+1) l i f hi hlt h0 hn hw x0 x1 hc r_x0).trans (cn_c2 k n l (i+1) (x0++[⟨4,0,[],x1⟩]))
theorem ba3 (k n:Nat) (l:List T49) (i:Nat) (f:T49) (hi:l[i]?=some f) (hlt:(i:Int)<(l.length:Int)) (h0:(0:Int)≤(i:Int)) (hn:((i:Int)==(100:Int))=false) (hw:IntKind.i64.wrap ((i:Int)+1)=((i+1:Nat):Int)) (x0 x1 x2:List T28) (ht:tot [x2,x1,x0]≤200):LP 9 k (nav B9 [1,2,2,1,2,2]) (n+2) (bst l i [x0,x1,x2])=LP 9 k (nav B9 [1,2,2,1,2,2]) (n+1) (bst l (i+1) (bstep f [x2,x1,x0]).reverse):=by
 have r_x2:=room (Nat.le_trans (tot_mem (Y:=[x2,x1,x0]) (y:=x2) (by simp)) (Nat.le_trans ht (by decide)))
 have r_x1:=room (Nat.le_trans (tot_mem (Y:=[x2,x1,x0]) (y:=x1) (by simp)) (Nat.le_trans ht (by decide)))
 cases hc:f.Close
 ·cases ho:f.Open
  ·rw [show (bstep f [x2,x1,x0]).reverse=[x0,x1,x2++[⟨f.Item_Kind,f.Item_Num,f.Item_Bytes,[]⟩]] by simp [bstep,hc,ho]]
   exact bs_d3 k (n+1) l i f hi hlt h0 hn hw x0 x1 x2 hc ho r_x2
  ·rw [show (bstep f [x2,x1,x0]).reverse=[x0,x1,x2,[]] by simp [bstep,hc,ho]]
   exact (bs_o3 k (n+1) l i f hi hlt h0 hn hw x0 x1 x2 hc ho).trans (cn_o3 k n l (i+1) x0 x1 x2)
 ·rw [show (bstep f [x2,x1,x0]).reverse=[x0,x1++[⟨4,0,[],x2⟩]] by simp [bstep,hc]]
  exact (bs_c3 k (n+1) l i f hi hlt h0 hn hw x0 x1 x2 hc r_x1).trans (cn_c3 k n l (i+1) x0 (x1++[⟨4,0,[],x2⟩]))
theorem ba4 (k n:Nat) (l:List T49) (i:Nat) (f:T49) (hi:l[i]?=some f) (hlt:(i:Int)<(l.length:Int)) (h0:(0:Int)≤(i:Int)) (hn:((i:Int)==(100:Int))=false) (hw:IntKind.i64.wrap ((i:Int)+1)=((i+1:Nat):Int)) (x0 x1 x2 x3:List T28) (ht:tot [x3,x2,x1,x0]≤200):LP 9 k (nav B9 [1,2,2,1,2,2]) (n+2) (bst l i [x0,x1,x2,x3])=LP 9 k (nav B9 [1,2,2,1,2,2]) (n+1) (bst l (i+1) (bstep f [x3,x2,x1,x0]).reverse):=by
 have r_x3:=room (Nat.le_trans (tot_mem (Y:=[x3,x2,x1,x0]) (y:=x3) (by simp)) (Nat.le_trans ht (by decide)))
 have r_x2:=room (Nat.le_trans (tot_mem (Y:=[x3,x2,x1,x0]) (y:=x2) (by simp)) (Nat.le_trans ht (by decide)))
 cases hc:f.Close
 ·cases ho:f.Open
  ·rw [show (bstep f [x3,x2,x1,x0]).reverse=[x0,x1,x2,x3++[⟨f.Item_Kind,f.Item_Num,f.Item_Bytes,[]⟩]] by simp [bstep,hc,ho]]
   exact bs_d4 k (n+1) l i f hi hlt h0 hn hw x0 x1 x2 x3 hc ho r_x3
  ·rw [show (bstep f [x3,x2,x1,x0]).reverse=[x0,x1,x2,x3,[]] by simp [bstep,hc,ho]]
   exact (bs_o4 k (n+1) l i f hi hlt h0 hn hw x0 x1 x2 x3 hc ho).trans (cn_o4 k n l (i+1) x0 x1 x2 x3)
 ·rw [show (bstep f [x3,x2,x1,x0]).reverse=[x0,x1,x2++[⟨4,0,[],x3⟩]] by simp [bstep,hc]]
  exact (bs_c4 k (n+1) l i f hi hlt h0 hn hw x0 x1 x2 x3 hc r_x2).trans (cn_c4 k n l (i+1) x0 x1 (x2++[⟨4,0,[],x3⟩]))
theorem ba5 (k n:Nat) (l:List T49) (i:Nat) (f:T49) (hi:l[i]?=some f) (hlt:(i:Int)<(l.length:Int)) (h0:(0:Int)≤(i:Int)) (hn:((i:Int)==(100:Int))=false) (hw:IntKind.i64.wrap ((i:Int)+1)=((i+1:Nat):Int)) (x0 x1 x2 x3 x4:List T28) (ht:tot [x4,x3,x2,x1,x0]≤200):LP 9 k (nav B9 [1,2,2,1,2,2]) (n+2) (bst l i [x0,x1,x2,x3,x4])=LP 9 k (nav B9 [1,2,2,1,2,2]) (n+1) (bst l (i+1) (bstep f [x4,x3,x2,x1,x0]).reverse):=by
 have r_x4:=room (Nat.le_trans (tot_mem (Y:=[x4,x3,x2,x1,x0]) (y:=x4) (by simp)) (Nat.le_trans ht (by decide)))
 have r_x3:=room (Nat.le_trans (tot_mem (Y:=[x4,x3,x2,x1,x0]) (y:=x3) (by simp)) (Nat.le_trans ht (by decide)))
 cases hc:f.Close
 ·cases ho:f.Open
  ·rw [show (bstep f [x4,x3,x2,x1,x0]).reverse=[x0,x1,x2,x3,x4++[⟨f.Item_Kind,f.Item_Num,f.Item_Bytes,[]⟩]] by simp [bstep,hc,ho]]
   exact bs_d5 k (n+1) l i f hi hlt h0 hn hw x0 x1 x2 x3 x4 hc ho r_x4
  ·rw [show (bstep f [x4,x3,x2,x1,x0]).reverse=[x0,x1,x2,x3,x4,[]] by simp [bstep,hc,ho]]
   exact (bs_o5 k (n+1) l i f hi hlt h0 hn hw x0 x1 x2 x3 x4 hc ho).trans (cn_o5 k n l (i+1) x0 x1 x2 x3 x4)
 ·rw [show (bstep f [x4,x3,x2,x1,x0]).reverse=[x0,x1,x2,x3++[⟨4,0,[],x4⟩]] by simp [bstep,hc]]
  exact (bs_c5 k (n+1) l i f hi hlt h0 hn hw x0 x1 x2 x3 x4 hc r_x3).trans (cn_c5 k n l (i+1) x0 x1 x2 (x3++[⟨4,0,[],x4⟩]))
theorem ba6 (k n:Nat) (l:List T49) (i:Nat) (f:T49) (hi:l[i]?=some f) (hlt:(i:Int)<(l.length:Int)) (h0:(0:Int)≤(i:Int)) (hn:((i:Int)==(100:Int))=false) (hw:IntKind.i64.wrap ((i:Int)+1)=((i+1:Nat):Int)) (x0 x1 x2 x3 x4 x5:List T28) (ht:tot [x5,x4,x3,x2,x1,x0]≤200):LP 9 k (nav B9 [1,2,2,1,2,2]) (n+2) (bst l i [x0,x1,x2,x3,x4,x5])=LP 9 k (nav B9 [1,2,2,1,2,2]) (n+1) (bst l (i+1) (bstep f [x5,x4,x3,x2,x1,x0]).reverse):=by
 have r_x5:=room (Nat.le_trans (tot_mem (Y:=[x5,x4,x3,x2,x1,x0]) (y:=x5) (by simp)) (Nat.le_trans ht (by decide)))
 have r_x4:=room (Nat.le_trans (tot_mem (Y:=[x5,x4,x3,x2,x1,x0]) (y:=x4) (by simp)) (Nat.le_trans ht (by decide)))
 cases hc:f.Close
 ·cases ho:f.Open
  ·rw [show (bstep f [x5,x4,x3,x2,x1,x0]).reverse=[x0,x1,x2,x3,x4,x5++[⟨f.Item_Kind,f.Item_Num,f.Item_Bytes,[]⟩]] by simp [bstep,hc,ho]]
   exact bs_d6 k (n+1) l i f hi hlt h0 hn hw x0 x1 x2 x3 x4 x5 hc ho r_x5
  ·rw [show (bstep f [x5,x4,x3,x2,x1,x0]).reverse=[x0,x1,x2,x3,x4,x5,[]] by simp [bstep,hc,ho]]
   exact (bs_o6 k (n+1) l i f hi hlt h0 hn hw x0 x1 x2 x3 x4 x5 hc ho).trans (cn_o6 k n l (i+1) x0 x1 x2 x3 x4 x5)
 ·rw [show (bstep f [x5,x4,x3,x2,x1,x0]).reverse=[x0,x1,x2,x3,x4++[⟨4,0,[],x5⟩]] by simp [bstep,hc]]
  exact (bs_c6 k (n+1) l i f hi hlt h0 hn hw x0 x1 x2 x3 x4 x5 hc r_x4).trans (cn_c6 k n l (i+1) x0 x1 x2 x3 (x4++[⟨4,0,[],x5⟩]))
theorem ba7 (k n:Nat) (l:List T49) (i:Nat) (f:T49) (hi:l[i]?=some f) (hlt:(i:Int)<(l.length:Int)) (h0:(0:Int)≤(i:Int)) (hn:((i:Int)==(100:Int))=false) (hw:IntKind.i64.wrap ((i:Int)+1)=((i+1:Nat):Int)) (x0 x1 x2 x3 x4 x5 x6:List T28) (ht:tot [x6,x5,x4,x3,x2,x1,x0]≤200):LP 9 k (nav B9 [1,2,2,1,2,2]) (n+2) (bst l i [x0,x1,x2,x3,x4,x5,x6])=LP 9 k (nav B9 [1,2,2,1,2,2]) (n+1) (bst l (i+1) (bstep f [x6,x5,x4,x3,x2,x1,x0]).reverse):=by
 have r_x6:=room (Nat.le_trans (tot_mem (Y:=[x6,x5,x4,x3,x2,x1,x0]) (y:=x6) (by simp)) (Nat.le_trans ht (by decide)))
 have r_x5:=room (Nat.le_trans (tot_mem (Y:=[x6,x5,x4,x3,x2,x1,x0]) (y:=x5) (by simp)) (Nat.le_trans ht (by decide)))
 cases hc:f.Close
 ·rw [show (bstep f [x6,x5,x4,x3,x2,x1,x0]).reverse=[x0,x1,x2,x3,x4,x5,x6++[⟨f.Item_Kind,f.Item_Num,f.Item_Bytes,[]⟩]] by simp [bstep,hc]]
  exact bs_d7 k (n+1) l i f hi hlt h0 hn hw x0 x1 x2 x3 x4 x5 x6 hc f.Open rfl r_x6
 ·rw [show (bstep f [x6,x5,x4,x3,x2,x1,x0]).reverse=[x0,x1,x2,x3,x4,x5++[⟨4,0,[],x6⟩]] by simp [bstep,hc]]
  exact (bs_c7 k (n+1) l i f hi hlt h0 hn hw x0 x1 x2 x3 x4 x5 x6 hc r_x5).trans (cn_c7 k n l (i+1) x0 x1 x2 x3 x4 (x5++[⟨4,0,[],x6⟩]))
theorem ba (k n:Nat) (l:List T49) (i:Nat) (f:T49) (hi:l[i]?=some f) (hlt:(i:Int)<(l.length:Int)) (h0:(0:Int)≤(i:Int)) (hn:((i:Int)==(100:Int))=false) (hw:IntKind.i64.wrap ((i:Int)+1)=((i+1:Nat):Int)) (Y:List (List T28)) (h1:1≤Y.length) (h7:Y.length≤7) (ht:tot Y≤200):LP 9 k (nav B9 [1,2,2,1,2,2]) (n+2) (bst l i Y.reverse)=LP 9 k (nav B9 [1,2,2,1,2,2]) (n+1) (bst l (i+1) (bstep f Y).reverse):=by
 match Y,h1,h7,ht with
 | [x0],_,_,ht=>exact ba1 k n l i f hi hlt h0 hn hw x0 ht
 | [x1,x0],_,_,ht=>exact ba2 k n l i f hi hlt h0 hn hw x0 x1 ht
 | [x2,x1,x0],_,_,ht=>exact ba3 k n l i f hi hlt h0 hn hw x0 x1 x2 ht
 | [x3,x2,x1,x0],_,_,ht=>exact ba4 k n l i f hi hlt h0 hn hw x0 x1 x2 x3 ht
 | [x4,x3,x2,x1,x0],_,_,ht=>exact ba5 k n l i f hi hlt h0 hn hw x0 x1 x2 x3 x4 ht
 | [x5,x4,x3,x2,x1,x0],_,_,ht=>exact ba6 k n l i f hi hlt h0 hn hw x0 x1 x2 x3 x4 x5 ht
 | [x6,x5,x4,x3,x2,x1,x0],_,_,ht=>exact ba7 k n l i f hi hlt h0 hn hw x0 x1 x2 x3 x4 x5 x6 ht
 | [],h,_,_=>exact absurd h (by simp)
 | _::_::_::_::_::_::_::_::_,_,h,_=>exact absurd h (by simp only [List.length_cons];omega)
theorem dn1 (k n:Nat) (x0:List T28) (ht:tot [x0]+1≤300):finK Tryd.prog Tryd.f9 0 (seqK Tryd.prog (callV Tryd.prog ctx hints k) hints 9 k (nav B9 [2,2,2,2]) (blockK 3 (LP 9 k (nav B9 [1,2,2,1,2,2,2]) (n+1) (st2 30001 1 [x0]))))=some (V.agg [V.p (.int .i64 (bone (bdown [x0])).Kind),V.p (.int .u64 (bone (bdown [x0])).Num),V.sl 1 (rowsOf (encI .u8) (bone (bdown [x0])).Bytes),V.sl 4 (rowsOf encT28 (bone (bdown [x0])).Items)],[],[]):=by
 rw [show bdown [x0]=x0 by simp [bdown]]
 match x0 with
 | [y]=>exact e1 k n y
 | []=>exact e2 k n [] rfl
 | y::z::r=>exact e2 k n (y::z::r) (by simp;omega)
theorem dn2 (k n:Nat) (x0 x1:List T28) (ht:tot [x1,x0]+2≤300):finK Tryd.prog Tryd.f9 0 (seqK Tryd.prog (callV Tryd.prog ctx hints k) hints 9 k (nav B9 [2,2,2,2]) (blockK 3 (LP 9 k (nav B9 [1,2,2,1,2,2,2]) (n+2) (st2 30001 2 [x0,x1]))))=some (V.agg [V.p (.int .i64 (bone (bdown [x1,x0])).Kind),V.p (.int .u64 (bone (bdown [x1,x0])).Num),V.sl 1 (rowsOf (encI .u8) (bone (bdown [x1,x0])).Bytes),V.sl 4 (rowsOf encT28 (bone (bdown [x1,x0])).Items)],[],[]):=by
 have hr:=room (Nat.le_trans (tot_mem (Y:=[x1,x0]) (y:=x0) (by simp)) (by omega))
 rw [show bdown [x1,x0]=bdown [(x0++[⟨4,0,[],x1⟩])] by simp only [bdown]]
 have e:LP 9 k (nav B9 [1,2,2,1,2,2,2]) (n+2) (st2 30001 2 [x0,x1])=LP 9 k (nav B9 [1,2,2,1,2,2,2]) (n+1) (st2 30001 1 [(x0++[⟨4,0,[],x1⟩])]):=(l2_2 k (n+1) x0 x1 hr).trans (c2_2 k (n+0) (x0++[⟨4,0,[],x1⟩]))
 rw [e]
 exact dn1 k n (x0++[⟨4,0,[],x1⟩]) (by simp [tot] at ht ⊢;omega)
theorem dn3 (k n:Nat) (x0 x1 x2:List T28) (ht:tot [x2,x1,x0]+3≤300):finK Tryd.prog Tryd.f9 0 (seqK Tryd.prog (callV Tryd.prog ctx hints k) hints 9 k (nav B9 [2,2,2,2]) (blockK 3 (LP 9 k (nav B9 [1,2,2,1,2,2,2]) (n+3) (st2 30001 3 [x0,x1,x2]))))=some (V.agg [V.p (.int .i64 (bone (bdown [x2,x1,x0])).Kind),V.p (.int .u64 (bone (bdown [x2,x1,x0])).Num),V.sl 1 (rowsOf (encI .u8) (bone (bdown [x2,x1,x0])).Bytes),V.sl 4 (rowsOf encT28 (bone (bdown [x2,x1,x0])).Items)],[],[]):=by
 have hr:=room (Nat.le_trans (tot_mem (Y:=[x2,x1,x0]) (y:=x1) (by simp)) (by omega))
 rw [show bdown [x2,x1,x0]=bdown [(x1++[⟨4,0,[],x2⟩]),x0] by simp only [bdown]]
 have e:LP 9 k (nav B9 [1,2,2,1,2,2,2]) (n+3) (st2 30001 3 [x0,x1,x2])=LP 9 k (nav B9 [1,2,2,1,2,2,2]) (n+2) (st2 30001 2 [x0,(x1++[⟨4,0,[],x2⟩])]):=(l2_3 k (n+2) x0 x1 x2 hr).trans (c2_3 k (n+1) x0 (x1++[⟨4,0,[],x2⟩]))
 rw [e]
 exact dn2 k n x0 (x1++[⟨4,0,[],x2⟩]) (by simp [tot] at ht ⊢;omega)
theorem dn4 (k n:Nat) (x0 x1 x2 x3:List T28) (ht:tot [x3,x2,x1,x0]+4≤300):finK Tryd.prog Tryd.f9 0 (seqK Tryd.prog (callV Tryd.prog ctx hints k) hints 9 k (nav B9 [2,2,2,2]) (blockK 3 (LP 9 k (nav B9 [1,2,2,1,2,2,2]) (n+4) (st2 30001 4 [x0,x1,x2,x3]))))=some (V.agg [V.p (.int .i64 (bone (bdown [x3,x2,x1,x0])).Kind),V.p (.int .u64 (bone (bdown [x3,x2,x1,x0])).Num),V.sl 1 (rowsOf (encI .u8) (bone (bdown [x3,x2,x1,x0])).Bytes),V.sl 4 (rowsOf encT28 (bone (bdown [x3,x2,x1,x0])).Items)],[],[]):=by
 have hr:=room (Nat.le_trans (tot_mem (Y:=[x3,x2,x1,x0]) (y:=x2) (by simp)) (by omega))
 rw [show bdown [x3,x2,x1,x0]=bdown [(x2++[⟨4,0,[],x3⟩]),x1,x0] by simp only [bdown]]
 have e:LP 9 k (nav B9 [1,2,2,1,2,2,2]) (n+4) (st2 30001 4 [x0,x1,x2,x3])=LP 9 k (nav B9 [1,2,2,1,2,2,2]) (n+3) (st2 30001 3 [x0,x1,(x2++[⟨4,0,[],x3⟩])]):=(l2_4 k (n+3) x0 x1 x2 x3 hr).trans (c2_4 k (n+2) x0 x1 (x2++[⟨4,0,[],x3⟩]))
 rw [e]
 exact dn3 k n x0 x1 (x2++[⟨4,0,[],x3⟩]) (by simp [tot] at ht ⊢;omega)
theorem dn5 (k n:Nat) (x0 x1 x2 x3 x4:List T28) (ht:tot [x4,x3,x2,x1,x0]+5≤300):finK Tryd.prog Tryd.f9 0 (seqK Tryd.prog (callV Tryd.prog ctx hints k) hints 9 k (nav B9 [2,2,2,2]) (blockK 3 (LP 9 k (nav B9 [1,2,2,1,2,2,2]) (n+5) (st2 30001 5 [x0,x1,x2,x3,x4]))))=some (V.agg [V.p (.int .i64 (bone (bdown [x4,x3,x2,x1,x0])).Kind),V.p (.int .u64 (bone (bdown [x4,x3,x2,x1,x0])).Num),V.sl 1 (rowsOf (encI .u8) (bone (bdown [x4,x3,x2,x1,x0])).Bytes),V.sl 4 (rowsOf encT28 (bone (bdown [x4,x3,x2,x1,x0])).Items)],[],[]):=by
 have hr:=room (Nat.le_trans (tot_mem (Y:=[x4,x3,x2,x1,x0]) (y:=x3) (by simp)) (by omega))
 rw [show bdown [x4,x3,x2,x1,x0]=bdown [(x3++[⟨4,0,[],x4⟩]),x2,x1,x0] by simp only [bdown]]
 have e:LP 9 k (nav B9 [1,2,2,1,2,2,2]) (n+5) (st2 30001 5 [x0,x1,x2,x3,x4])=LP 9 k (nav B9 [1,2,2,1,2,2,2]) (n+4) (st2 30001 4 [x0,x1,x2,(x3++[⟨4,0,[],x4⟩])]):=(l2_5 k (n+4) x0 x1 x2 x3 x4 hr).trans (c2_5 k (n+3) x0 x1 x2 (x3++[⟨4,0,[],x4⟩]))
 rw [e]
 exact dn4 k n x0 x1 x2 (x3++[⟨4,0,[],x4⟩]) (by simp [tot] at ht ⊢;omega)
theorem dn6 (k n:Nat) (x0 x1 x2 x3 x4 x5:List T28) (ht:tot [x5,x4,x3,x2,x1,x0]+6≤300):finK Tryd.prog Tryd.f9 0 (seqK Tryd.prog (callV Tryd.prog ctx hints k) hints 9 k (nav B9 [2,2,2,2]) (blockK 3 (LP 9 k (nav B9 [1,2,2,1,2,2,2]) (n+6) (st2 30001 6 [x0,x1,x2,x3,x4,x5]))))=some (V.agg [V.p (.int .i64 (bone (bdown [x5,x4,x3,x2,x1,x0])).Kind),V.p (.int .u64 (bone (bdown [x5,x4,x3,x2,x1,x0])).Num),V.sl 1 (rowsOf (encI .u8) (bone (bdown [x5,x4,x3,x2,x1,x0])).Bytes),V.sl 4 (rowsOf encT28 (bone (bdown [x5,x4,x3,x2,x1,x0])).Items)],[],[]):=by
 have hr:=room (Nat.le_trans (tot_mem (Y:=[x5,x4,x3,x2,x1,x0]) (y:=x4) (by simp)) (by omega))
 rw [show bdown [x5,x4,x3,x2,x1,x0]=bdown [(x4++[⟨4,0,[],x5⟩]),x3,x2,x1,x0] by simp only [bdown]]
 have e:LP 9 k (nav B9 [1,2,2,1,2,2,2]) (n+6) (st2 30001 6 [x0,x1,x2,x3,x4,x5])=LP 9 k (nav B9 [1,2,2,1,2,2,2]) (n+5) (st2 30001 5 [x0,x1,x2,x3,(x4++[⟨4,0,[],x5⟩])]):=(l2_6 k (n+5) x0 x1 x2 x3 x4 x5 hr).trans (c2_6 k (n+4) x0 x1 x2 x3 (x4++[⟨4,0,[],x5⟩]))
 rw [e]
 exact dn5 k n x0 x1 x2 x3 (x4++[⟨4,0,[],x5⟩]) (by simp [tot] at ht ⊢;omega)
theorem dn7 (k n:Nat) (x0 x1 x2 x3 x4 x5 x6:List T28) (ht:tot [x6,x5,x4,x3,x2,x1,x0]+7≤300):finK Tryd.prog Tryd.f9 0 (seqK Tryd.prog (callV Tryd.prog ctx hints k) hints 9 k (nav B9 [2,2,2,2]) (blockK 3 (LP 9 k (nav B9 [1,2,2,1,2,2,2]) (n+7) (st2 30001 7 [x0,x1,x2,x3,x4,x5,x6]))))=some (V.agg [V.p (.int .i64 (bone (bdown [x6,x5,x4,x3,x2,x1,x0])).Kind),V.p (.int .u64 (bone (bdown [x6,x5,x4,x3,x2,x1,x0])).Num),V.sl 1 (rowsOf (encI .u8) (bone (bdown [x6,x5,x4,x3,x2,x1,x0])).Bytes),V.sl 4 (rowsOf encT28 (bone (bdown [x6,x5,x4,x3,x2,x1,x0])).Items)],[],[]):=by
 have hr:=room (Nat.le_trans (tot_mem (Y:=[x6,x5,x4,x3,x2,x1,x0]) (y:=x5) (by simp)) (by omega))
 rw [show bdown [x6,x5,x4,x3,x2,x1,x0]=bdown [(x5++[⟨4,0,[],x6⟩]),x4,x3,x2,x1,x0] by simp only [bdown]]
 have e:LP 9 k (nav B9 [1,2,2,1,2,2,2]) (n+7) (st2 30001 7 [x0,x1,x2,x3,x4,x5,x6])=LP 9 k (nav B9 [1,2,2,1,2,2,2]) (n+6) (st2 30001 6 [x0,x1,x2,x3,x4,(x5++[⟨4,0,[],x6⟩])]):=(l2_7 k (n+6) x0 x1 x2 x3 x4 x5 x6 hr).trans (c2_7 k (n+5) x0 x1 x2 x3 x4 (x5++[⟨4,0,[],x6⟩]))
 rw [e]
 exact dn6 k n x0 x1 x2 x3 x4 (x5++[⟨4,0,[],x6⟩]) (by simp [tot] at ht ⊢;omega)
theorem bx (k n:Nat) (hk:7≤k) (l:List T49) (i:Nat) (hx:(¬((i:Int)<(l.length:Int)))∨(i=100∧i<l.length)) (Y:List (List T28)) (h1:1≤Y.length) (h7:Y.length≤7) (ht:tot Y≤200):finK Tryd.prog Tryd.f9 0 (seqK Tryd.prog (callV Tryd.prog ctx hints k) hints 9 k (nav B9 [2,2,2]) (blockK 0 (LP 9 k (nav B9 [1,2,2,1,2,2]) (n+1) (bst l i Y.reverse))))=some (V.agg [V.p (.int .i64 (bone (bdown Y)).Kind),V.p (.int .u64 (bone (bdown Y)).Num),V.sl 1 (rowsOf (encI .u8) (bone (bdown Y)).Bytes),V.sl 4 (rowsOf encT28 (bone (bdown Y)).Items)],[],[]):=by
 match Y,h1,h7,ht with
 | [x0],_,_,ht =>
   have e:seqK Tryd.prog (callV Tryd.prog ctx hints k) hints 9 k (nav B9 [2,2,2]) (blockK 0 (LP 9 k (nav B9 [1,2,2,1,2,2]) (n+1) (bst l i [x0])))=seqK Tryd.prog (callV Tryd.prog ctx hints k) hints 9 k (nav B9 [2,2,2,2]) (blockK 3 (LP 9 k (nav B9 [1,2,2,1,2,2,2]) k (st2 30001 1 [x0]))):=by
    rcases hx with hx | ⟨rfl,hx⟩
    ·exact xl_1 k n l i hx x0
    ·exact xh_1 k n l l[100] (List.getElem?_eq_getElem hx) (by omega) x0
   show finK _ _ _ (seqK _ _ _ _ _ _ (blockK 0 (LP 9 k (nav B9 [1,2,2,1,2,2]) (n+1) (bst l i [x0]))))=_
   rw [e]
   have:=dn1 k (k - 1) x0 (by omega)
   rwa [Nat.sub_add_cancel (by omega)] at this
 | [x1,x0],_,_,ht =>
   have e:seqK Tryd.prog (callV Tryd.prog ctx hints k) hints 9 k (nav B9 [2,2,2]) (blockK 0 (LP 9 k (nav B9 [1,2,2,1,2,2]) (n+1) (bst l i [x0,x1])))=seqK Tryd.prog (callV Tryd.prog ctx hints k) hints 9 k (nav B9 [2,2,2,2]) (blockK 3 (LP 9 k (nav B9 [1,2,2,1,2,2,2]) k (st2 30001 2 [x0,x1]))):=by
    rcases hx with hx | ⟨rfl,hx⟩
    ·exact xl_2 k n l i hx x0 x1
    ·exact xh_2 k n l l[100] (List.getElem?_eq_getElem hx) (by omega) x0 x1
   show finK _ _ _ (seqK _ _ _ _ _ _ (blockK 0 (LP 9 k (nav B9 [1,2,2,1,2,2]) (n+1) (bst l i [x0,x1]))))=_
   rw [e]
   have:=dn2 k (k - 2) x0 x1 (by omega)
   rwa [Nat.sub_add_cancel (by omega)] at this
 | [x2,x1,x0],_,_,ht =>
   have e:seqK Tryd.prog (callV Tryd.prog ctx hints k) hints 9 k (nav B9 [2,2,2]) (blockK 0 (LP 9 k (nav B9 [1,2,2,1,2,2]) (n+1) (bst l i [x0,x1,x2])))=seqK Tryd.prog (callV Tryd.prog ctx hints k) hints 9 k (nav B9 [2,2,2,2]) (blockK 3 (LP 9 k (nav B9 [1,2,2,1,2,2,2]) k (st2 30001 3 [x0,x1,x2]))):=by
    rcases hx with hx | ⟨rfl,hx⟩
    ·exact xl_3 k n l i hx x0 x1 x2
    ·exact xh_3 k n l l[100] (List.getElem?_eq_getElem hx) (by omega) x0 x1 x2
   show finK _ _ _ (seqK _ _ _ _ _ _ (blockK 0 (LP 9 k (nav B9 [1,2,2,1,2,2]) (n+1) (bst l i [x0,x1,x2]))))=_
   rw [e]
   have:=dn3 k (k - 3) x0 x1 x2 (by omega)
   rwa [Nat.sub_add_cancel (by omega)] at this
 | [x3,x2,x1,x0],_,_,ht =>
   have e:seqK Tryd.prog (callV Tryd.prog ctx hints k) hints 9 k (nav B9 [2,2,2]) (blockK 0 (LP 9 k (nav B9 [1,2,2,1,2,2]) (n+1) (bst l i [x0,x1,x2,x3])))=seqK Tryd.prog (callV Tryd.prog ctx hints k) hints 9 k (nav B9 [2,2,2,2]) (blockK 3 (LP 9 k (nav B9 [1,2,2,1,2,2,2]) k (st2 30001 4 [x0,x1,x2,x3]))):=by
    rcases hx with hx | ⟨rfl,hx⟩
    ·exact xl_4 k n l i hx x0 x1 x2 x3
    ·exact xh_4 k n l l[100] (List.getElem?_eq_getElem hx) (by omega) x0 x1 x2 x3
   show finK _ _ _ (seqK _ _ _ _ _ _ (blockK 0 (LP 9 k (nav B9 [1,2,2,1,2,2]) (n+1) (bst l i [x0,x1,x2,x3]))))=_
   rw [e]
   have:=dn4 k (k - 4) x0 x1 x2 x3 (by omega)
   rwa [Nat.sub_add_cancel (by omega)] at this
 | [x4,x3,x2,x1,x0],_,_,ht =>
   have e:seqK Tryd.prog (callV Tryd.prog ctx hints k) hints 9 k (nav B9 [2,2,2]) (blockK 0 (LP 9 k (nav B9 [1,2,2,1,2,2]) (n+1) (bst l i [x0,x1,x2,x3,x4])))=seqK Tryd.prog (callV Tryd.prog ctx hints k) hints 9 k (nav B9 [2,2,2,2]) (blockK 3 (LP 9 k (nav B9 [1,2,2,1,2,2,2]) k (st2 30001 5 [x0,x1,x2,x3,x4]))):=by
    rcases hx with hx | ⟨rfl,hx⟩
    ·exact xl_5 k n l i hx x0 x1 x2 x3 x4
    ·exact xh_5 k n l l[100] (List.getElem?_eq_getElem hx) (by omega) x0 x1 x2 x3 x4
   show finK _ _ _ (seqK _ _ _ _ _ _ (blockK 0 (LP 9 k (nav B9 [1,2,2,1,2,2]) (n+1) (bst l i [x0,x1,x2,x3,x4]))))=_
   rw [e]
   have:=dn5 k (k - 5) x0 x1 x2 x3 x4 (by omega)
   rwa [Nat.sub_add_cancel (by omega)] at this
 | [x5,x4,x3,x2,x1,x0],_,_,ht =>
   have e:seqK Tryd.prog (callV Tryd.prog ctx hints k) hints 9 k (nav B9 [2,2,2]) (blockK 0 (LP 9 k (nav B9 [1,2,2,1,2,2]) (n+1) (bst l i [x0,x1,x2,x3,x4,x5])))=seqK Tryd.prog (callV Tryd.prog ctx hints k) hints 9 k (nav B9 [2,2,2,2]) (blockK 3 (LP 9 k (nav B9 [1,2,2,1,2,2,2]) k (st2 30001 6 [x0,x1,x2,x3,x4,x5]))):=by
    rcases hx with hx | ⟨rfl,hx⟩
    ·exact xl_6 k n l i hx x0 x1 x2 x3 x4 x5
    ·exact xh_6 k n l l[100] (List.getElem?_eq_getElem hx) (by omega) x0 x1 x2 x3 x4 x5
   show finK _ _ _ (seqK _ _ _ _ _ _ (blockK 0 (LP 9 k (nav B9 [1,2,2,1,2,2]) (n+1) (bst l i [x0,x1,x2,x3,x4,x5]))))=_
   rw [e]
   have:=dn6 k (k - 6) x0 x1 x2 x3 x4 x5 (by omega)
   rwa [Nat.sub_add_cancel (by omega)] at this
 | [x6,x5,x4,x3,x2,x1,x0],_,_,ht =>
   have e:seqK Tryd.prog (callV Tryd.prog ctx hints k) hints 9 k (nav B9 [2,2,2]) (blockK 0 (LP 9 k (nav B9 [1,2,2,1,2,2]) (n+1) (bst l i [x0,x1,x2,x3,x4,x5,x6])))=seqK Tryd.prog (callV Tryd.prog ctx hints k) hints 9 k (nav B9 [2,2,2,2]) (blockK 3 (LP 9 k (nav B9 [1,2,2,1,2,2,2]) k (st2 30001 7 [x0,x1,x2,x3,x4,x5,x6]))):=by
    rcases hx with hx | ⟨rfl,hx⟩
    ·exact xl_7 k n l i hx x0 x1 x2 x3 x4 x5 x6
    ·exact xh_7 k n l l[100] (List.getElem?_eq_getElem hx) (by omega) x0 x1 x2 x3 x4 x5 x6
   show finK _ _ _ (seqK _ _ _ _ _ _ (blockK 0 (LP 9 k (nav B9 [1,2,2,1,2,2]) (n+1) (bst l i [x0,x1,x2,x3,x4,x5,x6]))))=_
   rw [e]
   have:=dn7 k (k - 7) x0 x1 x2 x3 x4 x5 x6 (by omega)
   rwa [Nat.sub_add_cancel (by omega)] at this
 | [],h,_,_=>exact absurd h (by simp)
 | _::_::_::_::_::_::_::_::_,_,h,_=>exact absurd h (by simp only [List.length_cons];omega)
theorem bloop (k:Nat) (hk:7≤k) (l:List T49):∀ (d i n:Nat) (Y:List (List T28)),i+d=min l.length 100→d<n→1≤Y.length→Y.length≤7→tot Y≤i →
  finK Tryd.prog Tryd.f9 0 (seqK Tryd.prog (callV Tryd.prog ctx hints k) hints 9 k (nav B9 [2,2,2]) (blockK 0 (LP 9 k (nav B9 [1,2,2,1,2,2]) (n) (bst l i Y.reverse))))=some (V.agg [V.p (.int .i64 (bone (bdown (bfold ((l.take 100).drop i) Y))).Kind),V.p (.int .u64 (bone (bdown (bfold ((l.take 100).drop i) Y))).Num),V.sl 1 (rowsOf (encI .u8) (bone (bdown (bfold ((l.take 100).drop i) Y))).Bytes),V.sl 4 (rowsOf encT28 (bone (bdown (bfold ((l.take 100).drop i) Y))).Items)],[],[])
 | 0,i,n,Y,hi,hn,h1,h7,ht=>by
   obtain ⟨n,rfl⟩:∃ m,n=m+1:=⟨n - 1,by omega⟩
   rw [show (l.take 100).drop i=[] from List.drop_eq_nil_of_le (by rw [List.length_take];omega)]
   exact bx k n hk l i (by omega) Y h1 h7 (by omega)
 | d+1,i,n,Y,hi,hn,h1,h7,ht=>by
   obtain ⟨n,rfl⟩:∃ m,n=m+2:=⟨n - 2,by omega⟩
   have hl:i<l.length:=by omega
   have hf:l[i]?=some l[i]:=List.getElem?_eq_getElem hl
   have h100:((i:Int)==(100:Int))=false:=by simp;omega
   have e:=ba k n l i l[i] hf (by omega) (by omega) h100 (by rw [wrap_i64 (by omega) (by omega)];omega) Y h1 h7 (by omega)
   rw [e]
   obtain ⟨a1,a2,a3⟩:=bstep_len l[i] Y h1 h7
   have ih:=bloop k hk l d (i+1) (n+1) (bstep l[i] Y) (by omega) (by omega) a1 a2 (by omega)
   have hd:(l.take 100).drop i=l[i]::(l.take 100).drop (i+1):=by
    rw [List.drop_eq_getElem_cons (by rw [List.length_take];omega),List.getElem_take]
   rw [hd,bfold]
   exact ih
theorem built_ok (k:Nat) (l:List T49) (x:T28) (h:builtF k l=some x):CV k 9 [V.sl 6 (rowsOf encT49 l)] []=some (V.agg [V.p (.int .i64 x.Kind),V.p (.int .u64 x.Num),V.sl 1 (rowsOf (encI .u8) x.Bytes),V.sl 4 (rowsOf encT28 x.Items)],[],[]):=by
 unfold builtF at h
 split at h<;>simp at h
 rename_i hk
 subst h
 obtain ⟨k,rfl⟩:∃ m,k=m+1:=⟨k - 1,by omega⟩
 obtain ⟨m,rfl⟩:∃ m,k=m+1:=⟨k - 1,by omega⟩
 rw [b_call,b_st0]
 have:=bloop (m+1) (by omega) l (min l.length 100) 0 (m+1) [[]] (by omega) (by omega) (by simp) (by simp) (by simp [tot])
 rw [List.drop_zero] at this
 exact this
end Go.Proofs.YtlelaenalbkbmaaDoorV