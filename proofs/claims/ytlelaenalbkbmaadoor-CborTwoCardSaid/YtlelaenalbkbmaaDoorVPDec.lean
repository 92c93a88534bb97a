/- cbor's decoder: what the program's answers,told plainly (dec). -/
import Derived.Test.YtlelaenalbkbmaaDoorVPItems
import Derived.Test.YtlelaenalbkbmaaDoorVPValid
namespace Go.Proofs.YtlelaenalbkbmaaDoorV
open Go
set_option linter.unusedVariables false
set_option linter.unusedSimpArgs false
inductive Dr where
 | err (e:Int)
 | ok (x:It) (n:Nat)
inductive Ar where
 | err (e:Int)
 | ok (n j:Nat)
def addN (c:Nat):Dr→Dr
 | .err e=>.err e
 | .ok x n=>.ok x (c+n)
def numB (l:List Int):Nat:=l.foldl (fun x c=>x * 256+c.toNat) 0
def cn (k n:Nat):Bool:=if k=1 then decide (24≤n) else decide (2 ^ (4 * k)≤n)
def argD (low:Int) (r:List Int):Ar :=
 if low<24 then .ok low.toNat 0 else
 if r.length<2 ^ (low - 24).toNat then .err 7 else
 if cn (2 ^ (low - 24).toNat) (numB (r.take (2 ^ (low - 24).toNat)))=true then .ok (numB (r.take (2 ^ (low - 24).toNat))) (2 ^ (low - 24).toNat) else .err 170
def itemsD (D:List Int→Dr):Nat→List Int→List It→Dr
 | 0,_,acc=>.ok ⟨4,0,[],acc⟩ 0
 | m+1,s,acc=>match D s with
  | .err e=>.err e
  | .ok x n=>addN n (itemsD D m (s.drop n) (acc++[x]))
noncomputable def tailD (D:List Int→Dr) (t:Int) (n:Nat) (s:List Int):Dr :=
 if t=0 then .ok ⟨1,n,[],[]⟩ 0 else
 if t=4 then (if n>64 then .err 170 else itemsD D n s []) else
 if n>512 then .err 170 else
 if s.length<n then .err 7 else
 if t=3∧vB (s.take n)=false then .err 170 else .ok ⟨t,0,s.take n,[]⟩ n
noncomputable def bodyD (D:List Int→Dr) (f:Int) (r:List Int):Dr :=
 if f / 32=1∨f / 32>4∨f % 32>27 then .err 170 else
 match argD (f % 32) r with
 | .err e=>.err e
 | .ok n j=>addN (1+j) (tailD D (f / 32) n (r.drop j))
noncomputable def dec:Nat→List Int→Dr
 | _,[]=>.err 7
 | 0,_::_=>.err 170
 | left+1,f::r=>bodyD (dec left) f r
end Go.Proofs.YtlelaenalbkbmaaDoorV