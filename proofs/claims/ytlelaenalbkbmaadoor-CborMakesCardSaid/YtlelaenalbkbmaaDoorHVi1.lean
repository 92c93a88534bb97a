/- The value interpreter: what the translated program's code computes,told by values (a readable slice is the list of its elements,a row or a variable of the call's own is an object with a number),with no world. Definitions. -/
import Derived.Orders
import Derived.Control
import Derived.Calls
import Derived.Scope
import Derived.LoopN
import Derived.Laws.AppendOwn
import Derived.Laws.OwnMore
import Derived.Laws.MakeOwn
import Derived.Laws.CopyRow
import Derived.Laws.CopyOwn
import Derived.Laws.Rows
import Derived.Laws.Slices
import Derived.WalkKit
import Derived.KernelRfl
import Derived.OrdersIn
import Derived.LoopNIn
import Derived.OwnWalkIn
import Derived.RangeFuncRecord
import Derived.Lib.LaidU8T
namespace Go.Proofs.YtlelaenalbkbmaaDoorV
open Go
set_option linter.unusedVariables false
inductive V where
 | p (v:Value)
 | nil
 | sl (m:Nat) (rows:List (List V))
 | rpt (cells:List V) (off:Nat)
 | own (id:Nat)
 | cut (id m off n:Nat)
 | ptr (id off:Nat)
 | ept (id m k j:Nat)
 | agg (cells:List V)
 | tup (vs:List V)
 | fn (f:FuncId) (captured:List V)
 | yld (id:Nat)
 | bsl (id m n:Nat)
 | bad
 | coin
 deriving Inhabited
inductive Out where
 | norm
 | exit (id:Nat)
 | goto (l:Nat)
 | ret
 deriving Inhabited
def Out.jump:Out→Option Code
 | .norm=>none
 | .exit i=>some (.exit i)
 | .goto l=>some (.goto l)
 | .ret=>some .ret
def Out.isNorm:Out→Bool
 | .norm=>true
 | _=>false
inductive O where
 | box (ty:TypeId) (cells:List V)
 | row (own:Bool) (m:Nat) (e:TypeId) (rows:List (List V))
 | tab (m:Nat) (e:TypeId) (n:Nat) (cells:List V)
 | lp (fn n:Nat) (F:List (Nat×V)) (ps:List Nat) (asg body:Code) (st:Nat) (out:Out)
 | dead
 deriving Inhabited
structure St where
 n:Nat
 F:List (Nat×V)
 M:List (Nat×O)
 deriving Inhabited
def getF:List (Nat×V)→Nat→V
 | [],_=>.bad
 | (k,v)::r,t=>if k=t then v else getF r t
def getM:List (Nat×O)→Nat→Option O
 | [],_=>none
 | (k,v)::r,t=>if k=t then some v else getM r t
def ofCell:Value→V
 | .slice none 0 0=>.nil
 | v=>.p v
def ofVal1:Value→V
 | .agg cs=>if cs.all Value.oneCell' then .agg (cs.toList.map ofCell) else .bad
 | v=>ofCell v
def ofVal:Value→V
 | .tuple vs=>.tup (vs.toList.map ofVal1)
 | v=>ofVal1 v
def toCell:V→Option Value
 | .p v=>some v
 | .nil=>some (.slice none 0 0)
 | _=>none
def toCells:List V→Option (List Value)
 | []=>some []
 | v::r=>match toCell v,toCells r with
   | some x,some y=>some (x::y)
   | _,_=>none
def toVal:V→Option Value
 | .agg cs=>(toCells cs).map fun l=>.agg l.toArray
 | .tup []=>some (.tuple #[])
 | v=>toCell v
def tabFirst:List Int:=(List.range 256).map fun c=>(Lib.firstT c:Int)
def tabAcc:List Int:=(List.range 32).map fun j=>if j % 2=0 then (Lib.accLo (j / 2):Int) else (Lib.accHi (j / 2):Int)
def lay (g:Nat):Option (List V):=if g=0 then some (tabFirst.map fun n=>.p (.int .u8 n)) else if g=1 then some (tabAcc.map fun n=>.p (.int .u8 n)) else none
def evalV (σ:St):Operand→V
 | .tmp t=>getF σ.F t
 | .const v=>ofVal v
 | .func f=>.p (.func (.func f) #[] #[])
 | .global g=>match lay g with | some cs=>.rpt cs 0 | none=>.bad
def pureRun (P:Program) {α:Type}:Sem α→Option α
 | .pure a=>some a
 | .program k=>pureRun P (k P)
 | _=>none
def isSelect:Op→Bool
 | .select .. => true
 | _=>false
def plainOp (P:Program) (σ:St) (o:Oper):Option V :=
 if isSelect o.op=false∧o.op.operands.all (fun x=>(toVal (evalV σ x)).isSome) then
  match pureRun P (execOp (fun x=>(toVal (evalV σ x)).getD undef) o) with
  | some (.value v)=>some (ofVal v)
  | _=>none
 else none
def isAggD:TypeDesc→Bool
 | .struct _ | .array _ _=>true
 | _=>false
def elemI (P:Program) (t:TypeId):Option (TypeId×TypeInfo) :=
 match P.underlying t with
 | some (.slice e)=>(P.info? e).map fun i=>(e,i)
 | _=>none
def content (σ:St) (m:Nat):V→Option (List (List V))
 | .nil=>some []
 | .sl m' rows=>if m'=m then some rows else none
 | .own id=>match getM σ.M id with
   | some (.row _ m' _ rows)=>if m'=m then some rows else none
   | _=>none
 | .cut id m' off n=>match getM σ.M id with
   | some (.row _ m'' _ rows)=>if m'=m∧m''=m∧off+n≤rows.length then some ((rows.drop off).take n) else none
   | _=>none
 | _=>none
def lenV (σ:St):V→Option Nat
 | .nil=>some 0
 | .sl _ rows=>some rows.length
 | .own id=>match getM σ.M id with
   | some (.row _ _ _ rows)=>some rows.length
   | some (.tab _ _ n _)=>some n
   | _=>none
 | .cut _ _ _ n=>some n
 | .bsl _ _ n=>some n
 | _=>none
def cellsAt (σ:St):V→Option (List V)
 | .rpt cells off=>some (cells.drop off)
 | .ptr id off=>match getM σ.M id with
   | some (.box _ cells)=>some (cells.drop off)
   | _=>none
 | .ept id m k j=>match getM σ.M id with
   | some (.row _ m' _ rows)=>if m'=m then (match rows[k]? with | some r=>some (r.drop j) | none=>none) else none
   | some (.tab m' _ _ cells)=>if m'=m then some (cells.drop (k * m+j)) else none
   | _=>none
 | _=>none
def loadV (P:Program) (σ:St) (t:TypeId) (a:V):Option V :=
 match P.info? t,P.underlying t,cellsAt σ a with
 | some i,some d,some cs =>
   if isAggD d then (if i.size≤cs.length then some (.agg (cs.take i.size)) else none) else cs.head?
 | _,_,_=>none
def cellsOf:V→Option (List V)
 | .agg cs=>some cs
 | .tup _=>none
 | .bad=>none
 | .coin=>none
 | .p v=>if v.oneCell' then some [.p v] else none
 | v=>some [v]
def overlay (cs:List V) (off:Nat) (ns:List V):List V:=cs.take off++(ns++cs.drop (off+ns.length))
def frz (σ:St):V→Option (V×List (Nat×O))
 | .p v=>if v.oneCell' then some (.p v,[]) else none
 | .nil=>some (.nil,[])
 | .sl m rows=>some (.sl m rows,[])
 | .own id=>match getM σ.M id with
   | some (.row _ m e rows)=>some (.sl m rows,[(id,.row false m e rows)])
   | _=>none
 | .cut id m off n=>match getM σ.M id with
   | some (.row _ m' e rows)=>if m'=m∧off+n≤rows.length then some (.sl m ((rows.drop off).take n),[(id,.row false m e rows)]) else none
   | _=>none
 | _=>none
def frzL (σ:St):List V→Option (List V×List (Nat×O))
 | []=>some ([],[])
 | v::r=>match frz σ v,frzL σ r with
   | some (x,u),some (y,u')=>some (x::y,u++u')
   | _,_=>none
def slotMs (P:Program):Nat→TypeId→List Nat
 | 0,_=>[]
 | k+1,t=>match P.underlying t with
   | some (.slice e)=>[match P.info? e with | some i=>i.size | none=>0]
   | some (.struct fs)=>fs.toList.flatMap fun f=>slotMs P k f.type
   | some (.array n e)=>(List.replicate n (slotMs P k e)).flatten
   | _=>[0]
def tell1 (m:Nat):V→V
 | .nil=>if m=0 then .nil else .sl m []
 | x=>x
def tell:List Nat→List V→List V
 | m::ms,v::r=>tell1 m v::tell ms r
 | _,r=>r
def storeV (P:Program) (σ:St) (t:TypeId) (a x:V):Option (List (Nat×O)) :=
 match P.info? t,cellsOf x with
 | some i,some ns =>
   if ns.length=i.size then
    match a with
    | .ptr id off=>match getM σ.M id with
      | some (.box ty cells)=>if off+ns.length≤cells.length then some [(id,.box ty (overlay cells off ns))] else none
      | _=>none
    | .ept id m k j=>match getM σ.M id,frzL σ ns with
      | some (.row true m' e rows),some (ns',u) =>
        if m'=m∧u.all (fun q=>q.1≠id) then
         (match rows[k]? with
         | some r=>if j+ns'.length≤r.length then some ((id,.row true m e (rows.set k (tell (slotMs P 8 e) (overlay r j ns'))))::u) else none
         | none=>none)
        else none
      | some (.tab m' e n cells),_=>if m'=m∧k * m+j+ns.length≤cells.length then some [(id,.tab m' e n (overlay cells (k * m+j) ns))] else none
      | _,_=>none
    | _=>none
   else none
 | _,_=>none
def addOff:V→Nat→Option V
 | .rpt cells off,n=>some (.rpt cells (off+n))
 | .ptr id off,n=>some (.ptr id (off+n))
 | .ept id m k j,n=>some (.ept id m k (j+n))
 | _,_=>none
def fieldAddrV (P:Program) (s:TypeId) (x:V) (f:Nat):Option V :=
 match P.underlying s with
 | some (.struct fields)=>match fields[f]? with
   | some fd=>match P.info? fd.type with
     | some i=>if i.size≠0 then addOff x fd.offset else none
     | none=>none
   | none=>none
 | _=>none
def indexAddrV (P:Program) (σ:St) (t:TypeId) (x ix:V):Option V :=
 match ix with
 | .p (.int _ i) =>
   if 0≤i then
    match P.underlying t with
    | some (.slice e)=>match P.info? e with
      | some inf=>match x with
        | .sl m rows=>if m=inf.size then (match rows[i.toNat]? with | some r=>some (.rpt r 0) | none=>none) else none
        | .own id=>match getM σ.M id with
          | some (.row _ m _ rows)=>if m=inf.size∧i<rows.length then some (.ept id m i.toNat 0) else none
          | some (.tab m _ n _)=>if m=inf.size∧i<n then some (.ept id m i.toNat 0) else none
          | _=>none
        | .cut id m off n=>if m=inf.size∧i<n then some (.ept id m (off+i.toNat) 0) else none
        | .bsl id m n=>if m=inf.size∧i<n then some (.ptr id (i.toNat * m)) else none
        | _=>none
      | none=>none
    | some (.array len e)=>match P.info? e with
      | some inf=>if i<len then addOff x (i.toNat * inf.size) else none
      | none=>none
    | _=>none
   else none
 | _=>none
def bound (σ:St) (o:Option Operand) (dflt:Nat):Option Nat :=
 match o with
 | none=>some dflt
 | some x=>match evalV σ x with
   | .p (.int _ i)=>if 0≤i then some i.toNat else none
   | _=>none
def roomV (σ:St):V→Nat→Nat
 | .cut id _ off n,_=>match getM σ.M id with
   | some (.row _ _ _ rows)=>max n (rows.length - off)
   | _=>n
 | _,len=>len
def sliceV (P:Program) (σ:St) (t:TypeId) (x:V) (lo hi mx:Option Operand):Option V :=
 match elemI P t,lenV σ x with
 | some (_,inf),some len =>
   match bound σ lo 0,bound σ hi len,bound σ mx (roomV σ x len) with
   | some l,some h,some q =>
     if l≤h∧h≤q∧q≤roomV σ x len∧(mx.isSome→hi.isSome) then
      match x with
      | .nil=>some .nil
      | .sl m rows=>if m=inf.size then some (.sl m ((rows.take h).drop l)) else none
      | .own id=>match getM σ.M id with
        | some (.row _ m _ _)=>if m=inf.size then some (if mx.isSome then .bad else .cut id m l (h - l)) else none
        | some (.tab m _ _ _)=>if m=inf.size then some (if mx.isSome then .bad else .cut id m l (h - l)) else none
        | _=>none
      | .cut id m off n=>if m=inf.size then some (if mx.isSome then .bad else .cut id m (off+l) (h - l)) else none
      | _=>none
     else none
   | _,_,_=>none
 | _,_=>none
def zeroRow (i:TypeInfo):Option (List V) :=
 match i.zero with
 | some z=>if z.cells.size=i.size∧0<i.size∧0<i.bytes∧z.cells.all Value.oneCell'∧z.cells.all (fun c=>match c with | .slice (some _) _ _=>false | _=>true) then some (z.cells.toList.map ofCell) else none
 | none=>none
def roomy:Nat:=140737488351232
def isCutV:V→Bool
 | .cut .. => true
 | _=>false
def appendV (P:Program) (σ:St) (d:Nat) (t:TypeId) (s x:V):Option (V×List (Nat×O)) :=
 match elemI P t with
 | some (e,i)=>match zeroRow i,content σ i.size x with
   | some _,some rows2 =>
     if (getM σ.M d).isNone∨isCutV s=true then
      match s with
      | .nil=>if rows2.length * i.bytes≤roomy then some (.own d,[(d,.row true i.size e rows2)]) else none
      | .own id=>match getM σ.M id with
        | some (.row true m e' rows) =>
          if m=i.size∧e'=e∧(rows.length+rows2.length) * i.bytes≤roomy then
           some (.own d,[(d,.row true m e (rows++rows2)),(id,.dead)])
          else none
        | some (.tab m e' n cells) =>
          if m=i.size∧e'=e∧(n+rows2.length) * i.bytes≤roomy then
           some (.own d,[(d,.tab m e (n+rows2.length) (cells++rows2.flatten)),(id,.dead)])
          else none
        | _=>none
      | .cut id m off n=>match getM σ.M id with
        | some (.row true m' e' rows) =>
          if m=m'∧m'=i.size∧off+n+rows2.length≤rows.length∧0<rows2.length then
           some (.cut id m off (n+rows2.length),[(id,.row true m' e' (rows.take (off+n)++(rows2++rows.drop (off+n+rows2.length))))])
          else none
        | _=>none
      | _=>none
     else none
   | _,_=>none
 | none=>none
def copyV (P:Program) (σ:St) (t:TypeId) (d s:V):Option (V×List (Nat×O)) :=
 match elemI P t with
 | some (e,i)=>match content σ i.size s with
   | some rows2 =>
     if i.size=1 then
      match d with
      | .own id=>match getM σ.M id with
        | some (.row true m e' rows) =>
          if m=1 then some (.p (.int .i64 ((rows2.take rows.length).length:Nat)),[(id,.row true m e' (rows2.take rows.length++rows.drop (rows2.take rows.length).length))]) else none
        | _=>none
      | .cut id m off n=>match getM σ.M id with
        | some (.row true m' e' rows) =>
          if m=1∧m'=1∧off+n≤rows.length then
           some (.p (.int .i64 ((rows2.take n).length:Nat)),[(id,.row true m' e' (rows.take off++(rows2.take n++rows.drop (off+(rows2.take n).length))))]) else none
        | _=>none
      | _=>none
     else none
   | none=>none
 | none=>none
def clearV (P:Program) (σ:St) (t:TypeId) (d:V):Option (V×List (Nat×O)) :=
 match elemI P t with
 | some (e,i)=>match zeroRow i with
   | some z=>match d with
     | .nil=>some (.tup [],[])
     | .cut id m off n=>match getM σ.M id with
       | some (.row true m' e' rows) =>
         if m=m'∧m'=i.size∧off+n≤rows.length then
          some (.tup [],[(id,.row true m' e' (rows.take off++(List.replicate n (tell (slotMs P 8 e) z)++rows.drop (off+n))))]) else none
       | _=>none
     | _=>none
   | none=>none
 | none=>none
def intArg:V→Option Int
 | .p (.int _ n)=>some n
 | _=>none
def makeV (P:Program) (σ:St) (d:Nat) (t:TypeId) (l c:V):Option (V×List (Nat×O)) :=
 match elemI P t,intArg l,intArg c with
 | some (e,i),some l,some c=>match zeroRow i with
   | some z=>if 0≤l∧l≤c∧c * i.bytes≤roomy∧(getM σ.M d).isNone then some (.own d,[(d,.row true i.size e (List.replicate l.toNat (tell (slotMs P 8 e) z)))]) else none
   | none=>none
 | _,_,_=>none
def allocV (P:Program) (σ:St) (d:Nat) (t:TypeId):Option (V×List (Nat×O)) :=
 match P.info? t with
 | some i=>match zeroRow i with
   | some z=>if (getM σ.M d).isNone then some (.ptr d 0,[(d,.box t z)]) else none
   | none=>none
 | none=>none
def boxV (σ:St) (d:Nat) (t:TypeId) (x:V):Option (V×List (Nat×O)) :=
 match cellsOf x with
 | some cs=>if (getM σ.M d).isNone then some (.ptr d 0,[(d,.box t cs)]) else none
 | none=>none
def fillV (place:Nat→Option (Nat×Nat)) (cells:List V):List (Nat×V)→Option (List V)
 | []=>some cells
 | (i,v)::rest=>match place i,cellsOf v with
   | some (off,size),some cs=>if cs.length=size∧off+cs.length≤cells.length then fillV place (overlay cells off cs) rest else none
   | _,_=>none
def sizesOf (P:Program):List Field→Option (List (Nat×Nat))
 | []=>some []
 | f::r=>match P.info? f.type,sizesOf P r with
   | some i,some l=>some ((f.offset,i.size)::l)
   | _,_=>none
def buildV (P:Program) (σ:St) (t:TypeId) (parts:List (Nat×Operand)):Option V :=
 match P.info? t with
 | some i=>match zeroRow i,P.underlying t with
   | some z,some (.struct fields)=>match sizesOf P fields.toList with
     | some places=>(fillV (fun k=>places[k]?) z (parts.map fun q=>(q.1,evalV σ q.2))).map .agg
     | none=>none
   | some z,some (.array _ e)=>match P.info? e with
     | some ie=>(fillV (fun k=>some (k * ie.size,ie.size)) z (parts.map fun q=>(q.1,evalV σ q.2))).map .agg
     | none=>none
   | _,_=>none
 | none=>none
def fillRows (σ:St) (m:Nat):List (List V)→List (Nat×V)→Option (List (List V)×List (Nat×O))
 | rows,[]=>some (rows,[])
 | rows,(i,v)::rest=>match cellsOf v with
   | some cs=>match frzL σ cs with
     | some (cs',u)=>if cs'.length=m∧i<rows.length then
       (match fillRows σ m (rows.set i cs') rest with
       | some (rows',u')=>some (rows',u++u')
       | none=>none) else none
     | none=>none
   | none=>none
def buildSliceV (P:Program) (raw:Bool) (σ:St) (d:Nat) (t:TypeId) (len:Nat) (parts:List (Nat×Operand)):Option (V×List (Nat×O)) :=
 match elemI P t with
 | some (e,i)=>match zeroRow i with
   | some z=>if (getM σ.M d).isNone∧len * i.size≤16777216 then
     (match fillRows σ i.size (List.replicate len z) (parts.map fun q=>(q.1,evalV σ q.2)) with
     | some (rows,u)=>some (.own d,(d,.row true i.size e (rows.map (tell (bif raw then [] else slotMs P 8 e))))::u)
     | none=>if 0<len then (fillV (fun k=>some (k * i.size,i.size)) (List.replicate (len * i.size) .bad) (parts.map fun q=>(q.1,evalV σ q.2))).map fun cs=>(.bsl d i.size len,[(d,.box e cs)]) else none) else none
   | none=>none
 | none=>none
def intBin (op:BinOp) (k:IntKind) (a b:Int):Option Value :=
 match op with
 | .add=>some (.int k (k.wrap (a+b)))
 | .sub=>some (.int k (k.wrap (a - b)))
 | .mul=>some (.int k (k.wrap (a * b)))
 | .quo=>if b=0 then none else some (.int k (k.wrap (a.tdiv b)))
 | .rem=>if b=0 then none else some (.int k (a.tmod b))
 | .and=>some (.int k (k.wrap (BitVec.ofInt k.bits a &&& BitVec.ofInt k.bits b).toNat))
 | .or=>some (.int k (k.wrap (BitVec.ofInt k.bits a ||| BitVec.ofInt k.bits b).toNat))
 | .xor=>some (.int k (k.wrap (BitVec.ofInt k.bits a ^^^ BitVec.ofInt k.bits b).toNat))
 | .andNot=>some (.int k (k.wrap (BitVec.ofInt k.bits a &&& ~~~BitVec.ofInt k.bits b).toNat))
 | .eql=>some (.bool (a==b))
 | .neq=>some (.bool (a != b))
 | .lss=>some (.bool (a<b))
 | .leq=>some (.bool (a≤b))
 | .gtr=>some (.bool (a>b))
 | .geq=>some (.bool (a≥b))
 | _=>none
def shiftV (op:BinOp) (k:IntKind) (a b:Int):Option Value :=
 if b<0 then none else
 match op with
 | .shl=>some (.int k (k.wrap (a * 2 ^ min b.toNat k.bits)))
 | .shr=>some (.int k (a.fdiv (2 ^ min b.toNat k.bits)))
 | _=>none
def isShift:BinOp→Bool
 | .shl | .shr=>true
 | _=>false
def isNilP:V→Bool
 | .p (.pointer none)=>true
 | _=>false
def isRef:V→Bool
 | .ptr .. | .ept .. | .rpt .. => true
 | _=>false
def cellEq (d:Option TypeDesc):V→V→Option Bool
 | .p (.int k a),.p (.int k' b)=>match d with
   | some (.int _)=>if k=k' then some (a==b) else none
   | _=>none
 | .p (.bool a),.p (.bool b)=>match d with
   | some .bool=>some (a==b)
   | _=>none
 | .p (.string a),.p (.string b)=>match d with
   | some .string=>some (a.toList==b.toList)
   | _=>none
 | _,_=>none
def flatEq0 (P:Program) (xs ys:List V):List Field→Option Bool
 | []=>some true
 | f :: fs => if f.name ≠ "_" then
    match xs[f.offset]?,ys[f.offset]? with
    | some x,some y=>match cellEq (P.underlying f.type) x y,flatEq0 P xs ys fs with
      | some b,some c=>some (b&&c)
      | _,_=>none
    | _,_=>none
   else none
def andO:Option Bool→Option Bool→Option Bool
 | some b,some c=>some (b&&c)
 | _,_=>none
def fieldEq (P:Program) (xs ys:List V) (f:Field):Option TypeDesc→Option Bool
 | some (.struct gs)=>match P.info? f.type with
   | some i=>if (P.eqGuardType P.depth f.type||P.stoodInHeld f.type)=false then flatEq0 P ((xs.drop f.offset).take i.size) ((ys.drop f.offset).take i.size) gs.toList else none
   | none=>none
 | d=>match xs[f.offset]?,ys[f.offset]? with
   | some x,some y=>cellEq d x y
   | _,_=>none
def flatEq (P:Program) (xs ys:List V):List Field→Option Bool
 | []=>some true
 | f :: fs => if f.name ≠ "_" then andO (fieldEq P xs ys f (P.underlying f.type)) (flatEq P xs ys fs) else none
def aggEqV (P:Program) (op:BinOp) (t:TypeId) (xs ys:List V) (fs:List Field):Option V :=
 if (P.eqGuardType P.depth t||P.stoodInHeld t)=false then
  match flatEq P xs ys fs,op with
  | some b,.eql=>some (.p (.bool b))
  | some b,.neq=>some (.p (.bool (!b)))
  | _,_=>none
 else none
def binV (P:Program) (σ:St) (o:Oper) (op:BinOp) (t:TypeId) (x y:Operand):Option V :=
 match evalV σ x,evalV σ y with
 | .p (.int k a),.p (.int k' b)=>if isShift op then (shiftV op k a b).map .p else if k=k' then (intBin op k a b).map .p else none
 | .p (.bool a),.p (.bool b)=>match P.underlying t,op with
   | some .bool,.eql=>some (.p (.bool (a==b)))
   | some .bool,.neq=>some (.p (.bool (!(a==b))))
   | _,_=>none
 | .p (.string a),.p (.string b)=>match P.underlying t,op with
   | some .string,.eql=>some (.p (.bool (a.toList==b.toList)))
   | some .string,.neq=>some (.p (.bool (!(a.toList==b.toList))))
   | _,_=>plainOp P σ o
 | u,v=>match P.underlying t with
   | some (.pointer _)=>match op with
     | .eql=>if (isRef u&&isNilP v)||(isNilP u&&isRef v) then some (.p (.bool false)) else plainOp P σ o
     | .neq=>if (isRef u&&isNilP v)||(isNilP u&&isRef v) then some (.p (.bool true)) else plainOp P σ o
     | _=>none
   | some (.struct fs)=>match u,v with
     | .agg xs,.agg ys=>aggEqV P op t xs ys fs.toList
     | _,_=>plainOp P σ o
   | _=>plainOp P σ o
def convV (P:Program) (σ:St) (o:Oper) (s d:TypeId) (x:Operand):Option V :=
 match evalV σ x with
 | .p (.int k n)=>match P.underlying s,P.underlying d with
   | some (.int _),some (.int k')=>some (.p (.int k' (k'.wrap n)))
   | _,_=>none
 | _=>plainOp P σ o
def rowByte:List V→Option UInt8
 | [.p (.int .u8 n)]=>some (UInt8.ofNat n.toNat)
 | _=>none
def strRows:List (List V)→Option (List UInt8)
 | []=>some []
 | r::rs=>match rowByte r,strRows rs with
   | some x,some l=>some (x::l)
   | _,_=>none
def strV (P:Program) (σ:St) (s d:TypeId) (x:V):Option V :=
 match P.underlying s,P.underlying d with
 | some (.slice e),some .string=>match P.underlying e,content σ 1 x with
   | some (.int .u8),some rows=>(strRows rows).map fun l=>.p (.string ⟨l.toArray⟩)
   | _,_=>none
 | _,_=>none
def fieldV (P:Program) (σ:St) (o:Oper) (t:TypeId) (x:Operand) (f:Nat):Option V :=
 match evalV σ x,P.underlying t with
 | .agg cs,some (.struct fields)=>match fields[f]? with
   | some fd=>match P.info? fd.type,P.underlying fd.type with
     | some i,some dd=>if isAggD dd then (if fd.offset+i.size≤cs.length then some (.agg ((cs.drop fd.offset).take i.size)) else none) else cs[fd.offset]?
     | _,_=>none
   | none=>none
 | _,_=>none
def arrIdxV (P:Program) (σ:St) (o:Oper) (t:TypeId) (x ix:Operand):Option V :=
 match evalV σ x,evalV σ ix,P.underlying t with
 | .agg cs,.p (.int _ i),some (.array len e)=>match P.info? e,P.underlying e with
   | some inf,some dd=>if 0≤i∧i<len then (if isAggD dd then none else if inf.size=1 then cs[i.toNat]? else none) else none
   | _,_=>none
 | _,_,_=>plainOp P σ o
def minmaxGo (mx:Bool) (k:IntKind) (a:Int):List V→Option Value
 | []=>some (.int k a)
 | .p (.int k' b)::r=>if k=k' then minmaxGo mx k (if mx then (if b>a then b else a) else (if b<a then b else a)) r else none
 | _=>none
def minmaxV (mx:Bool):List V→Option Value
 | .p (.int k a)::r=>minmaxGo mx k a r
 | _=>none
mutual
def V.ids:V→List Nat
 | .own id=>[id]
 | .cut id _ _ _=>[id]
 | .ptr id _=>[id]
 | .ept id _ _ _=>[id]
 | .agg cs=>V.idsL cs
 | .tup vs=>V.idsL vs
 | .fn _ cs=>V.idsL cs
 | .yld id=>[id]
 | .bsl id _ _=>[id]
 | _=>[]
def V.idsL:List V→List Nat
 | []=>[]
 | v::r=>V.ids v++V.idsL r
end
mutual
def V.ren (f:Nat→Nat):V→V
 | .own id=>.own (f id)
 | .cut id m o n=>.cut (f id) m o n
 | .ptr id o=>.ptr (f id) o
 | .ept id m k j=>.ept (f id) m k j
 | .agg cs=>.agg (V.renL f cs)
 | .tup vs=>.tup (V.renL f vs)
 | .fn g cs=>.fn g (V.renL f cs)
 | .yld id=>.yld (f id)
 | .bsl id m n=>.bsl (f id) m n
 | .p v=>.p v
 | .nil=>.nil
 | .sl m rows=>.sl m rows
 | .rpt cs o=>.rpt cs o
 | .bad=>.bad
 | .coin=>.coin
def V.renL (f:Nat→Nat):List V→List V
 | []=>[]
 | v::r=>V.ren f v::V.renL f r
end
def O.ids:O→List Nat
 | .box _ cells=>V.idsL cells
 | .tab _ _ _ cells=>V.idsL cells
 | .lp _ _ F _ _ _ _ _=>V.idsL (F.map (·.2))
 | _=>[]
def O.ren (f:Nat→Nat):O→O
 | .box t cells=>.box t (V.renL f cells)
 | .tab m e n cells=>.tab m e n (V.renL f cells)
 | .lp fn n F ps a b st out=>.lp fn n (F.map fun q=>(q.1,q.2.ren f)) ps a b st out
 | o=>o
def O.isDead:O→Bool
 | .dead=>true
 | _=>false
def reach (M:List (Nat×O)):Nat→List Nat→List Nat→Option (List Nat)
 | _,[],acc=>some acc
 | 0,_::_,_=>none
 | k+1,i::r,acc=>if acc.contains i then reach M k r acc else
   match getM M i with
   | some o=>reach M k (O.ids o++r) (acc++[i])
   | none=>none
def objsOf (M:List (Nat×O)):List Nat→Option (List O)
 | []=>some []
 | i::r=>match getM M i,objsOf M r with
   | some o,some l=>some (o::l)
   | _,_=>none
def idxOf:List Nat→Nat→Option Nat
 | [],_=>none
 | x::r,i=>if x=i then some 0 else (idxOf r i).map (· + 1)
def ExtB:Nat:=1000000
def RetB:Nat:=2000000
def nodupB:List Nat→Bool
 | []=>true
 | x::r => !r.contains x&&nodupB r
def toIdx (base:Nat) (l:List Nat) (i:Nat):Nat:=match idxOf l i with | some k=>base+k | none=>i
def fromIdx (l:List Nat) (i:Nat):Nat:=if RetB≤i then i else if ExtB≤i then l.getD (i - ExtB) i else i
abbrev CallF:=FuncId→List V→List O→Option (V×List O×List O)
def newId (d j:Nat):Nat:=d+10000 * j
def fromCall (ids:List Nat) (d:Nat) (i:Nat):Nat :=
 if RetB≤i then newId d (i - RetB) else if ExtB≤i then ids.getD (i - ExtB) 0 else i
def flatV:V→Bool
 | .p _=>true
 | .tup vs=>vs.all fun v=>match v with | .p _=>true | _=>false
 | _=>false
mutual
def lendV (σ:St):V→Option (V×List (Nat×O))
 | .own id=>frz σ (.own id)
 | .cut id m o n=>frz σ (.cut id m o n)
 | .agg cs=>match lendL σ cs with
   | some (l,u)=>some (.agg l,u)
   | none=>none
 | v=>some (v,[])
def lendL (σ:St):List V→Option (List V×List (Nat×O))
 | []=>some ([],[])
 | v::r=>match lendV σ v,lendL σ r with
   | some (x,u),some (y,u')=>some (x::y,u++u')
   | _,_=>none
end
structure Hints where
 gives:FuncId→Bool
 keep:FuncId→Nat→Option (List Nat)
 head:FuncId→Nat→Option (List Nat)
 canon:FuncId→Nat→List (Nat×Option Nat×Nat×Nat×TypeId)
 frz:FuncId→Nat→List Nat
 soft:FuncId→Nat→List (Nat×Option Nat×Nat×Option (Nat×TypeId))
 raw:List Nat:=[]
def newObjs (d:Nat):Nat→List O→List (Nat×O)
 | _,[]=>[]
 | j,o::r=>(newId d j,o)::newObjs d (j+1) r
def isPV:V→Bool
 | .p _=>true
 | _=>false
def flatO:O→Bool
 | .box _ cs=>cs.all isPV
 | _=>false
def callStep (call:CallF) (h:Hints) (σ:St) (d:Nat) (f:FuncId) (args:List V):Option (V×List (Nat×O)) :=
 match (if h.gives f then some (args,[]) else lendL σ args) with
 | none=>none
 | some (args1,fz) =>
   match reach σ.M 64 (V.idsL args1) [] with
   | none=>none
   | some ids =>
   match objsOf σ.M ids with
   | none=>none
   | some objs =>
     if objs.all (fun o => !o.isDead)∧(V.idsL args1).all ids.contains∧(objs.flatMap O.ids).all ids.contains∧nodupB ids∧ids.length<1000000 then
      match call f (V.renL (toIdx ExtB ids) args1) (objs.map (O.ren (toIdx ExtB ids))) with
      | none=>none
      | some (r,exts,news) =>
        let back:=fromCall ids d
        let nw:=newObjs d 0 (news.map (O.ren back))
        if exts.length=ids.length∧nw.all (fun q=>(getM σ.M q.1).isNone)∧fz.all (fun q => !ids.contains q.1) then
         if fz.isEmpty∨(flatV r∧ids.isEmpty∧news.isEmpty)∨(flatV r∧news.isEmpty∧exts.all flatO) then some (r.ren back,ids.zip (exts.map (O.ren back))++nw)
         else some (r.ren back,ids.zip (exts.map (O.ren back))++(nw++fz))
        else none
     else none
def YB:FuncId:=999999999
def calleeOf (σ:St):Operand→Option (FuncId×List V)
 | .func f=>if f<YB then some (f,[]) else none
 | x=>match evalV σ x with
   | .p (.func (.func f) a b)=>if a.size=0∧b.size=0∧f<YB then some (f,[]) else none
   | .fn f cs=>if f<YB then some (f,cs) else none
   | .yld id=>some (YB,[.yld id])
   | _=>none
def step (P:Program) (call:CallF) (h:Hints) (σ:St) (o:Oper):Option (V×List (Nat×O)) :=
 match o.op with
 | .move x=>some (evalV σ x,[])
 | .assign x=>some (evalV σ x,[])
 | .pick c a b=>match evalV σ c with
   | .p (.bool t)=>some (if t then evalV σ a else evalV σ b,[])
   | _=>none
 | .alloc t=>match o.dst with | some d=>allocV P σ d t | none=>none
 | .box t x=>match o.dst with | some d=>boxV σ d t (evalV σ x) | none=>none
 | .build t ps=>(buildV P σ t ps.toList).map (·,[])
 | .buildSlice t len ps=>match o.dst with | some d=>buildSliceV P (h.raw.contains d) σ d t len ps.toList | none=>none
 | .load t a=>(loadV P σ t (evalV σ a)).map (·,[])
 | .store t a x=>(storeV P σ t (evalV σ a) (evalV σ x)).map (.tup [],·)
 | .nilCheck x=>match evalV σ x with
   | .ptr i k=>some (.ptr i k,[])
   | .ept i m k j=>some (.ept i m k j,[])
   | .rpt cs k=>some (.rpt cs k,[])
   | .fn f cs=>some (.fn f cs,[])
   | .yld id=>some (.yld id,[])
   | .p (.func (.func f) a b)=>some (.p (.func (.func f) a b),[])
   | _=>none
 | .binOp op t x y _=>(binV P σ o op t x y).map (·,[])
 | .convert s t x=>match evalV σ x with
   | .p _=>(convV P σ o s t x).map (·,[])
   | v=>(strV P σ s t v).map (·,[])
 | .slice t x lo hi mx=>match evalV σ x with
   | .p _=>(plainOp P σ o).map (·,[])
   | v=>(sliceV P σ t v lo hi mx).map (·,[])
 | .fieldAddr s x f=>(fieldAddrV P s (evalV σ x) f).map (·,[])
 | .field t x f=>(fieldV P σ o t x f).map (·,[])
 | .indexAddr t x i=>(indexAddrV P σ t (evalV σ x) (evalV σ i)).map (·,[])
 | .index t x i=>(arrIdxV P σ o t x i).map (·,[])
 | .extract t i=>match evalV σ t with
   | .tup vs=>vs[i]?.map (·,[])
   | _=>none
 | .makeFunc (.func f) first captured=>if first.size=0 then some (if captured.size=0 then .p (.func (.func f) #[] #[]) else .fn f (captured.toList.map (evalV σ)),[]) else none
 | .makeSlice t l c=>match o.dst with | some d=>makeV P σ d t (evalV σ l) (evalV σ c) | none=>none
 | .call c=>match c.callee with
   | .value f=>match calleeOf σ f,o.dst with
     | some (g,cs),some d=>callStep call h σ d g (c.args.toList.map (evalV σ)++cs)
     | some (g,cs),none=>callStep call h σ 9999 g (c.args.toList.map (evalV σ)++cs)
     | none,_=>none
   | .builtin .len=>match c.args.toList,c.argTypes.toList with
     | [x],[t]=>match evalV σ x,P.underlying t with
       | .p _,_=>(plainOp P σ o).map (·,[])
       | v,some (.slice _)=>(lenV σ v).map fun (k:Nat)=>(V.p (.int .i64 (k:Int)),([]:List (Nat×O)))
       | _,_=>none
     | _,_=>none
   | .builtin .append=>match c.args.toList.map (evalV σ),c.argTypes.toList,o.dst with
     | [s,x],[t,t'],some d=>if t=t' then appendV P σ d t s x else none
     | _,_,_=>none
   | .builtin .copy=>match c.args.toList.map (evalV σ),c.argTypes.toList with
     | [s,x],[t,t']=>if t=t' then copyV P σ t s x else none
     | _,_=>none
   | .builtin .clear=>match c.args.toList.map (evalV σ),c.argTypes.toList with
     | [s],[t]=>clearV P σ t s
     | _,_=>none
   | .builtin .min=>(minmaxV false (c.args.toList.map (evalV σ))).map fun v=>(.p v,[])
   | .builtin .max=>(minmaxV true (c.args.toList.map (evalV σ))).map fun v=>(.p v,[])
   | _=>none
 | _=>(plainOp P σ o).map (·,[])
end Go.Proofs.YtlelaenalbkbmaaDoorV