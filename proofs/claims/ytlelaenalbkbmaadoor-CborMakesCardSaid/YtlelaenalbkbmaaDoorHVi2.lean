/- The value interpreter: regions,code,calls. Definitions. -/
import Derived.Test.YtlelaenalbkbmaaDoorHVi1
namespace Go.Proofs.YtlelaenalbkbmaaDoorV
open Go
set_option linter.unusedVariables false
noncomputable section
def guardOn (ops:Array Oper) (σ:St) (o:Oper):Option Bool :=
 match o.guard with
 | none=>some true
 | some (j,want)=>match (ops[j]?).bind (·.dst) with
   | some d=>match getF σ.F d with
     | .p (.bool b)=>some (b==want)
     | .p _=>some false
     | .tup _=>some false
     | _=>none
   | none=>some false
def stepG (P:Program) (call:CallF) (h:Hints) (ops:Array Oper) (σ:St) (o:Oper):Option (V×List (Nat×O)) :=
 match guardOn ops σ o with
 | some true=>step P call h σ o
 | some false=>some (.tup [],[])
 | none=>none
def St.put (σ:St) (dst:Option Nat) (v:V) (u:List (Nat×O)):St :=
 { σ with F:=(match dst with | some d=>(d,v)::σ.F | none=>σ.F),M:=u++σ.M }
structure Eff where
 foot:List Nat
 W:List Nat
def isPure:Op→Bool
 | .move _ | .assign _ | .pick .. | .alloc _ | .box .. | .build .. | .nilCheck _ | .binOp .. | .fieldAddr .. | .field .. | .index .. | .extract .. | .makeFunc .. => true
 | _=>false
def slotsOfOp (σ:St) (o:Oper):List Nat:=if isPure o.op then [] else o.op.operands.toList.flatMap fun x=>V.ids (evalV σ x)
def footOf (σ:St) (o:Oper):Option (List Nat):=match o.op with
 | .call c=>match c.callee with
   | .value _=>reach σ.M 64 (slotsOfOp σ o) []
   | _=>some (slotsOfOp σ o)
 | _=>some (slotsOfOp σ o)
def effOf (σ:St) (o:Oper) (u:List (Nat×O)):Option Eff:=(footOf σ o).map fun f=>{ foot:=f,W:=u.map (·.1) }
def dstOk (n:Nat):Option Nat→Bool
 | some d=>d<n
 | none=>true
def execOps (P:Program) (call:CallF) (h:Hints) (ops:Array Oper):List Oper→St→Option (St×List (Option Eff))
 | [],σ=>some (σ,[])
 | o::r,σ=>match stepG P call h ops σ o with
   | some (v,u)=>if dstOk σ.n o.dst then
     (match execOps P call h ops r (σ.put o.dst v u) with
     | some (σ',es)=>some (σ',effOf σ o u::es)
     | none=>none) else none
   | none=>none
def ins1 (x:Nat) (l:List Nat):List Nat:=bif l.contains x then l else x::l
def ddup (l:List Nat):List Nat:=l.foldr ins1 []
def predsGo:List (List Nat)→List Oper→List (List Nat)
 | acc,[]=>acc
 | acc,o::r=>predsGo (acc++[ddup ((o.after.toList.filter (Region.binds .any)).flatMap fun e=>e.on::acc.getD e.on [])]) r
def preds (ops:List Oper):List (List Nat):=predsGo [] ops
def looks (ops:Array Oper) (o:Oper):List Nat:=Oper.looksAt ops o
def slotClash (ops:Array Oper) (a b:Oper):Bool:=!(Oper.apart ops a b)
def slotsOk (ops:Array Oper):Bool :=
 (ops.toList.all fun o => !isSelect o.op) &&
 (ops.toList.zipIdx.all fun (o,i)=>o.after.all fun e => !Region.binds .any e||e.on<i) &&
 (List.range ops.size).all fun j=>(List.range j).all fun i=>((preds ops.toList).getD j []).contains i ||
  (match ops[i]?,ops[j]? with | some a,some b=>Oper.apart ops a b | _,_=>true)
def meets (a b:List Nat):Bool:=a.any b.contains
def effClash (a b:Eff):Bool:=meets a.W b.foot||meets a.W b.W||meets b.W a.foot
def effsOk (ops:Array Oper) (es:List (Option Eff)):Bool :=
 es.all (·.isSome)&&((es.all fun e=>match e with | some a=>a.W.isEmpty | none=>false) ||
 (List.range ops.size).all fun j=>(List.range j).all fun i=>((preds ops.toList).getD j []).contains i ||
  (match es[i]?,es[j]? with | some (some a),some (some b) => !effClash a b | _,_=>true))
def extKeys (M:List (Nat×O)):List Nat:=(M.map (·.1)).filter (ExtB ≤ ·)
def keepTo (ks:List Nat) (σ:St):Option St :=
 let F':=ks.map fun t=>(t,getF σ.F t)
 match reach σ.M 256 (V.idsL (F'.map (·.2))++extKeys σ.M) [] with
 | none=>none
 | some ids =>
 match objsOf σ.M ids with
 | some objs =>
   if (V.idsL (F'.map (·.2))).all ids.contains∧(objs.flatMap O.ids).all ids.contains∧(extKeys σ.M).all ids.contains then some { σ with F:=F',M:=ids.zip objs } else none
 | none=>none
def normR (k:Option (List Nat)) (σ:St):Option St :=
 match k with
 | none=>some σ
 | some ks=>keepTo ks σ
def frzOne (s:Nat) (σ:St):Option St :=
 match getF σ.F s with
 | .ptr id _=>match getM σ.M id with
   | some (.box ty cells)=>match lendL σ cells with
     | some (cells',u)=>if u.all (fun q=>q.1≠id) then some { σ with M:=(id,.box ty cells')::(u++σ.M) } else none
     | none=>none
   | _=>some σ
 | v=>match lendV σ v with
   | some (x,u)=>if s<σ.n then some { σ with F:=(s,x)::σ.F,M:=u++σ.M } else none
   | none=>none
def frzAll:List Nat→St→Option St
 | [],σ=>some σ
 | s::r,σ=>match frzOne s σ with
   | some σ'=>frzAll r σ'
   | none=>none
def softNew (m:Nat):Option (Nat×TypeId)→V
 | none=>.sl m []
 | some (u,_)=>.own u
def softM (m:Nat):Option (Nat×TypeId)→List (Nat×O)
 | none=>[]
 | some (u,e)=>[(u,.row true m e [])]
def softOk (M:List (Nat×O)) (m:Nat):Option (Nat×TypeId)→Bool
 | none=>true
 | some (u,_)=>(getM M u).isNone&&decide (0<m)
def tabOf:O→Option (Nat×TypeId×Nat×List V)
 | .row true m e rows=>some (m,e,rows.length,rows.flatten)
 | .tab m e n cells=>some (m,e,n,cells)
 | _=>none
def softOne (σ:St) (s:Nat) (j:Option Nat) (m:Nat) (w:Option (Nat×TypeId)):Option St :=
 match j with
 | none=>match getF σ.F s with
   | .nil=>if softOk σ.M m w=true∧s<σ.n then some { σ with F:=(s,softNew m w)::σ.F,M:=softM m w++σ.M } else none
   | .cut id m' off n=>match w with
     | some (u,_)=>match getM σ.M id with
       | some (.tab m0 e c cells)=>if off=0∧m'=m0∧0<n∧n≤c∧(getM σ.M u).isNone∧s<σ.n then some { σ with F:=(s,.own u)::σ.F,M:=(u,.tab m0 e n (cells.take (n * m0)))::(id,.dead)::σ.M } else none
       | _=>some σ
     | none=>some σ
   | _=>some σ
 | some j=>match getF σ.F s with
   | .own id=>match getM σ.M id with
     | some o=>match tabOf o with
       | some (m0,e,c,cells)=>match cells[j]? with
         | some .nil=>if softOk σ.M m w=true then some { σ with M:=(id,.tab m0 e c (cells.set j (softNew m w)))::(softM m w++σ.M) } else none
         | _=>some σ
       | none=>some σ
     | none=>some σ
   | .agg cs=>match cs[j]? with
     | some .nil=>if softOk σ.M m w=true∧s<σ.n then some { σ with F:=(s,.agg (cs.set j (softNew m w)))::σ.F,M:=softM m w++σ.M } else none
     | _=>some σ
   | .ptr id off=>match getM σ.M id with
     | some (.box ty cells)=>match cells[off+j]? with
       | some .nil=>if softOk σ.M m w=true then some { σ with M:=(id,.box ty (cells.set (off+j) (softNew m w)))::(softM m w++σ.M) } else none
       | _=>some σ
     | _=>some σ
   | _=>some σ
def softAll:List (Nat×Option Nat×Nat×Option (Nat×TypeId))→St→Option St
 | [],σ=>some σ
 | (s,j,m,w)::r,σ=>match softOne σ s j m w with
   | some σ'=>softAll r σ'
   | none=>none
def endR (fz:List Nat) (sf:List (Nat×Option Nat×Nat×Option (Nat×TypeId))) (k:Option (List Nat)) (σ:St):Option St :=
 match frzAll fz σ with
 | some σ'=>match softAll sf σ' with
   | some σ''=>normR k σ''
   | none=>none
 | none=>none
def canonOne (σ:St) (s:Nat) (j:Option Nat) (u m:Nat) (e:TypeId):Option St :=
 match j with
 | none=>match getF σ.F s with
   | .nil=>if (getM σ.M u).isNone∧0<m∧s<σ.n then some { σ with F:=(s,.own u)::σ.F,M:=(u,.row true m e [])::σ.M } else none
   | _=>some σ
 | some j=>match getF σ.F s with
   | .ptr id off=>match getM σ.M id with
     | some (.box ty cells)=>match cells[off+j]? with
       | some .nil=>if (getM σ.M u).isNone∧0<m then some { σ with M:=(id,.box ty (cells.set (off+j) (.own u)))::(u,.row true m e [])::σ.M } else none
       | _=>some σ
     | _=>some σ
   | _=>some σ
def canonAll:List (Nat×Option Nat×Nat×Nat×TypeId)→St→Option St
 | [],σ=>some σ
 | (s,j,u,m,e)::r,σ=>match canonOne σ s j u m e with
   | some σ'=>canonAll r σ'
   | none=>none
def HeadB:Nat:=30000
def toHead (ids:List Nat) (i:Nat):Nat:=if ExtB≤i then i else toIdx HeadB ids i
def keepCanon (ks:List Nat) (σ:St):Option St :=
 let F':=ks.map fun t=>(t,getF σ.F t)
 match reach σ.M 256 (V.idsL (F'.map (·.2))++extKeys σ.M) [] with
 | none=>none
 | some ids =>
 match objsOf σ.M ids with
 | some objs =>
   if (V.idsL (F'.map (·.2))).all ids.contains∧(objs.flatMap O.ids).all ids.contains∧(extKeys σ.M).all ids.contains∧nodupB ids∧ids.length<900000 then
    some { σ with F:=ks.map fun t=>(t,(getF σ.F t).ren (toHead ids)),M:=(ids.map (toHead ids)).zip (objs.map (O.ren (toHead ids))) } else none
 | none=>none
def headR (k:Option (List Nat)) (c:List (Nat×Option Nat×Nat×Nat×TypeId)) (σ:St):Option St :=
 match canonAll c σ with
 | some σ'=>match k with
   | none=>some σ'
   | some ks=>keepCanon ks σ'
 | none=>none
def iter (f:St→Option (Out×St)):Nat→St→Option (Out×St)
 | 0,_=>none
 | n+1,σ=>match f σ with
   | some (.norm,σ')=>iter f n σ'
   | r=>r
def jumps (f:Nat→St→Option (Out×St)):Nat→Option (Out×St)→Option (Out×St)
 | 0,some (.goto _,_)=>none
 | n+1,some (.goto l,σ)=>jumps f n (f l σ)
 | _,r=>r
def firstReg:Code→Nat
 | .region id _ _=>id
 | .seq a _=>firstReg a
 | .block _ b=>firstReg b
 | .loop b=>firstReg b
 | .scope b=>firstReg b
 | _=>0
def noRange:Code→Bool
 | .seq a b=>noRange a&&noRange b
 | .cond _ a b=>noRange a&&noRange b
 | .block _ b=>noRange b
 | .loop b=>noRange b
 | .scope b=>noRange b
 | .rangeFunc .. => false
 | _=>true
def rangeS (call:CallF) (h:Hints) (fn:FuncId) (σ:St) (g:Operand) (ps:List Nat) (a b:Code):Option (Out×St) :=
 match calleeOf σ g with
 | some (f,cs) =>
   (match h.head fn (1000000+firstReg b) with
   | some ks=>if f<YB∧(getM σ.M (400000+firstReg b)).isNone then
     (match callStep call h { σ with M:=(400000+firstReg b,.lp fn σ.n (ks.map fun t=>(t,getF σ.F t)) ps a b 0 .norm)::σ.M } (500000+firstReg b) f (.yld (400000+firstReg b)::cs) with
     | some (_,u)=>(match getM u (400000+firstReg b) with
       | some (.lp _ _ _ _ _ _ st out)=>if st=1 then none else (normR (h.keep fn (1000000+firstReg b)) { σ with M:=(400000+firstReg b,.dead)::(u++σ.M) }).map (out,·)
       | _=>none)
     | none=>none)
     else none
   | none=>none)
 | none=>none
def bindsOn (e:Array Edge):List Nat:=(e.toList.filter (Region.binds .any)).map (·.on)
def coinD (P:Program) (ops:List Oper):Option (Nat×Nat):=match ops with
 | [⟨some c,.alloc t,_,_,e0,none⟩,⟨none,.store t1 (.tmp c1) (.const (.bool true)),_,_,e1,none⟩,⟨none,.store t2 (.tmp c2) (.const (.bool false)),_,_,e2,none⟩,⟨some d,.load t3 (.tmp c3),_,_,e3,none⟩] =>
   match P.info? t,P.underlying t with
   | some i,some .bool=>match zeroRow i with
     | some [_]=>if t1=t∧t2=t∧t3=t∧c1=c∧c2=c∧c3=c∧c≠d∧i.size=1∧bindsOn e0=[]∧bindsOn e1=[0]∧bindsOn e2=[0]∧bindsOn e3=[0,0,1,2] then
       some (c,d) else none
     | _=>none
   | _,_=>none
 | _=>none
def coinS (σ:St) (c d:Nat):Option St:=if c<σ.n∧d<σ.n∧(getM σ.M c).isNone then some { σ with F:=(d,.coin)::(c,.ptr c 0)::σ.F,M:=(c,.dead)::σ.M } else none
def coinF (P:Program) (draw:Bool) (ops:Array Oper):Option (Nat×Nat):=bif draw then coinD P ops.toList else none
open Classical in
noncomputable def joinR:Option (Out×St)→Option (Out×St)→Option (Out×St)
 | some (o1,σ1),some (o2,σ2)=>match keepCanon (σ1.F.map (·.1)) σ1,keepCanon (σ2.F.map (·.1)) σ2 with
   | some τ1,some τ2=>if (o1,τ1)=(o2,τ2) then some (o1,τ1) else none
   | _,_=>none
 | _,_=>none
def exec (P:Program) (call:CallF) (h:Hints) (fn:FuncId) (fuel:Nat):Option Nat→Code→St→Option (Out×St)
 | none,.skip,σ=>some (.norm,σ)
 | none,.region id ops draw,σ=>match coinF P draw ops with
   | some (c,d)=>(match coinS σ c d with | some σ1=>(endR (h.frz fn id) (h.soft fn id) (h.keep fn id) σ1).map (.norm,·) | none=>none)
   | none=>match execOps P call h ops ops.toList σ with
   | some (σ',es)=>if draw=false∨(slotsOk ops=true∧effsOk ops es=true) then (endR (h.frz fn id) (h.soft fn id) (h.keep fn id) σ').map (.norm,·) else none
   | none=>none
 | none,.seq a b,σ=>match exec P call h fn fuel none a σ with
   | some (.norm,σ')=>exec P call h fn fuel none b σ'
   | r=>r
 | some l,.seq a b,σ=>if (findLabel a l).isSome then
   (match exec P call h fn fuel (some l) a σ with
   | some (.norm,σ')=>exec P call h fn fuel none b σ'
   | r=>r) else exec P call h fn fuel (some l) b σ
 | none,.cond c a b,σ=>match evalV σ c with
   | .p (.bool true)=>exec P call h fn fuel none a σ
   | .p (.bool false)=>exec P call h fn fuel none b σ
   | .coin=>joinR (exec P call h fn fuel none a σ) (exec P call h fn fuel none b σ)
   | _=>none
 | none,.block id a,σ=>match exec P call h fn fuel none a σ with
   | some (.exit i,σ')=>if i=id then some (.norm,σ') else some (.exit i,σ')
   | r=>r
 | none,.loop a,σ=>iter (fun σ=>match headR (h.head fn (firstReg a)) (h.canon fn (firstReg a)) σ with
   | some σ'=>exec P call h fn fuel none a σ'
   | none=>none) fuel σ
 | none,.rangeFunc g ps a b,σ=>rangeS call h fn σ g ps.toList a b
 | none,.exit id,σ=>some (.exit id,σ)
 | none,.goto l,σ=>some (.goto l,σ)
 | none,.label _,σ=>some (.norm,σ)
 | some l,.label l',σ=>if l'=l then some (.norm,σ) else none
 | none,.ret,σ=>some (.ret,σ)
 | none,.scope a,σ=>jumps (fun l σ=>exec P call h fn fuel (some l) a σ) fuel (exec P call h fn fuel none a σ)
 | _,_,_=>none
def resV (P:Program) (σ:St):List ResultVar→Option (List V)
 | []=>some []
 | .tmp t::r=>(resV P σ r).map (getF σ.F t :: ·)
 | .cell a t::r=>match loadV P σ t (getF σ.F a),resV P σ r with
   | some v,some l=>some (v::l)
   | _,_=>none
def oneOf:List V→V
 | [v]=>v
 | l=>.tup l
def idxs:Nat→List O→List (Nat×O)
 | _,[]=>[]
 | i,o::r=>(i,o)::idxs (i+1) r
def params:Nat→List V→List (Nat×V)
 | _,[]=>[]
 | i,v::r=>(i,v)::params (i+1) r
def finishR (r:V) (k:Nat) (σ:St):Option (V×List O×List O) :=
 match objsOf σ.M ((List.range k).map (ExtB + ·)) with
 | some exts =>
   match (reach σ.M 64 (r.ids++exts.flatMap O.ids) []) with
   | none=>none
   | some ids0 =>
   let ids:=ids0.filter (· < ExtB)
   match objsOf σ.M ids with
   | some news =>
     if nodupB ids∧news.all (fun o => !o.isDead)∧((r.ids++exts.flatMap O.ids++news.flatMap O.ids).all fun i=>ids.contains i||(ExtB≤i&&i<ExtB+k)) then
      some (r.ren (toIdx RetB ids),exts.map (O.ren (toIdx RetB ids)),news.map (O.ren (toIdx RetB ids)))
     else none
   | none=>none
 | none=>none
def finish (P:Program) (fn:Func) (k:Nat) (σ:St):Option (V×List O×List O) :=
 match resV P σ fn.results.toList with
 | some l=>finishR (oneOf l) k σ
 | none=>none
def putAll:List Nat→List V→List (Nat×V)→List (Nat×V)
 | p::ps,x::xs,F=>putAll ps xs ((p,x)::F)
 | _,_,F=>F
def roundS (P:Program) (call:CallF) (h:Hints) (k:Nat) (args:List V) (exts:List O):Option (V×List O×List O) :=
 match args.getLast? with
 | some (.yld id)=>match exts[id - ExtB]? with
   | some (.lp fn n F ps a b 0 .norm) =>
     if ExtB≤id∧ps.length+1=args.length∧ps.all (· < n)∧noRange a∧noRange b then
      (match exec P call h fn k none a { n:=n,F:=putAll ps args F,M:=idxs ExtB exts } with
      | some (.norm,σ1)=>(match getM σ1.M id with
        | some (.lp fn1 n1 F1 ps1 a1 b1 0 .norm)=>(match exec P call h fn k none b { σ1 with M:=(id,.lp fn1 n1 F1 ps1 a1 b1 1 .norm)::σ1.M } with
          | some (out,σ2)=>(match getM σ2.M id with
            | some (.lp fn2 n2 F2 ps2 a2 b2 1 .norm)=>finishR (.p (.bool out.isNorm)) exts.length { σ2 with M:=(id,.lp fn2 n2 F2 ps2 a2 b2 (if out.isNorm then 0 else 2) out)::σ2.M }
            | _=>none)
          | none=>none)
        | _=>none)
      | _=>none)
     else none
   | _=>none
 | _=>none
def callV (P:Program) (ctx:FuncId→Option (List V→List O→Option (V×List O×List O))) (h:Hints):Nat→CallF
 | 0=>fun _ _ _=>none
 | k+1=>fun f args exts=>if f=YB then roundS P (callV P ctx h k) h k args exts else match ctx f with
   | some g=>g args exts
   | none=>match P.funcs[f]? with
     | some fn=>match fn.body with
       | some c =>
         if fn.name = "runtime.NumGoroutine" ∨ fn.ntmps < args.length ∨ YB < f + 1 then none else
         match exec P (callV P ctx h k) h f k none c { n:=fn.ntmps,F:=params 0 args,M:=idxs ExtB exts } with
         | some (.norm,σ)=>finish P fn exts.length σ
         | some (.ret,σ)=>finish P fn exts.length σ
         | _=>none
       | none=>none
     | none=>none
end
end Go.Proofs.YtlelaenalbkbmaaDoorV