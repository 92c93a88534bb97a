/- The value interpreter: regions,code,calls. Definitions. -/
import Derived.Test.YtbnnmplkbpgcaaaDoorHVi1
namespace Go.Proofs.YtbnnmplkbpgcaaaDoorV
open Go
set_option linter.unusedVariables false
def guardOn (ops:Array Oper) (σ:St) (o:Oper):Option Bool :=
 match o.guard with
 | none=>some true
 | some (j,want)=>match (ops[j]?).bind (·.dst) with
   | some d=>match getF σ.F d with
     | .p (.bool b)=>some (b==want)
     | .p _=>some false
     | .tup _=>some false
     | _=>none
   | none=>some false
def stepG (P:Program) (call:CallF) (h:Hints) (ops:Array Oper) (σ:St) (o:Oper):Option (V×List (Nat×O)) :=
 match guardOn ops σ o with
 | some true=>step P call h σ o
 | some false=>some (.tup [],[])
 | none=>none
def St.put (σ:St) (dst:Option Nat) (v:V) (u:List (Nat×O)):St :=
 { σ with F:=(match dst with | some d=>(d,v)::σ.F | none=>σ.F),M:=u++σ.M }
structure Eff where
 foot:List Nat
 W:List Nat
def isPure:Op→Bool
 | .move _ | .assign _ | .pick .. | .alloc _ | .box .. | .build .. | .nilCheck _ | .binOp .. | .fieldAddr .. | .field .. | .index .. | .extract .. | .makeFunc .. => true
 | _=>false
def slotsOfOp (σ:St) (o:Oper):List Nat:=if isPure o.op then [] else o.op.operands.toList.flatMap fun x=>V.ids (evalV σ x)
def effOf (σ:St) (o:Oper) (u:List (Nat×O)):Option Eff:=(reach σ.M 64 (slotsOfOp σ o) []).map fun f=>{ foot:=f,W:=u.map (·.1) }
def dstOk (n:Nat):Option Nat→Bool
 | some d=>d<n
 | none=>true
def execOps (P:Program) (call:CallF) (h:Hints) (ops:Array Oper):List Oper→St→Option (St×List (Option Eff))
 | [],σ=>some (σ,[])
 | o::r,σ=>match stepG P call h ops σ o with
   | some (v,u)=>if dstOk σ.n o.dst then
     (match execOps P call h ops r (σ.put o.dst v u) with
     | some (σ',es)=>some (σ',effOf σ o u::es)
     | none=>none) else none
   | none=>none
def ins1 (x:Nat) (l:List Nat):List Nat:=bif l.contains x then l else x::l
def ddup (l:List Nat):List Nat:=l.foldr ins1 []
def predsGo:List (List Nat)→List Oper→List (List Nat)
 | acc,[]=>acc
 | acc,o::r=>predsGo (acc++[ddup ((o.after.toList.filter (Region.binds .any)).flatMap fun e=>e.on::acc.getD e.on [])]) r
def preds (ops:List Oper):List (List Nat):=predsGo [] ops
def looks (ops:Array Oper) (o:Oper):List Nat:=Oper.looksAt ops o
def slotsOk (ops:Array Oper):Bool :=
 (ops.toList.all fun o => !isSelect o.op) &&
 (ops.toList.zipIdx.all fun (o,i)=>o.after.all fun e => !Region.binds .any e||e.on<i) &&
 (List.range ops.size).all fun j=>(List.range j).all fun i=>((preds ops.toList).getD j []).contains i ||
  (match ops[i]?,ops[j]? with | some a,some b=>Oper.apart ops a b | _,_=>true)
def meets (a b:List Nat):Bool:=a.any b.contains
def effClash (a b:Eff):Bool:=meets a.W b.foot||meets a.W b.W||meets b.W a.foot
def effsOk (ops:Array Oper) (es:List (Option Eff)):Bool :=
 es.all (·.isSome)&&((es.all fun e=>match e with | some a=>a.W.isEmpty | none=>false) ||
 (List.range ops.size).all fun j=>(List.range j).all fun i=>((preds ops.toList).getD j []).contains i ||
  (match es[i]?,es[j]? with | some (some a),some (some b) => !effClash a b | _,_=>true))
def extKeys (M:List (Nat×O)):List Nat:=(M.map (·.1)).filter (ExtB ≤ ·)
def keepTo (ks:List Nat) (σ:St):Option St :=
 let F':=ks.map fun t=>(t,getF σ.F t)
 match reach σ.M 256 (V.idsL (F'.map (·.2))++extKeys σ.M) [] with
 | none=>none
 | some ids =>
 match objsOf σ.M ids with
 | some objs =>
   if (V.idsL (F'.map (·.2))).all ids.contains∧(objs.flatMap O.ids).all ids.contains∧(extKeys σ.M).all ids.contains then some { σ with F:=F',M:=ids.zip objs } else none
 | none=>none
def normR (k:Option (List Nat)) (σ:St):Option St :=
 match k with
 | none=>some σ
 | some ks=>keepTo ks σ
def frzOne (s:Nat) (σ:St):Option St :=
 match getF σ.F s with
 | .ptr id _=>match getM σ.M id with
   | some (.box ty cells)=>match lendL σ cells with
     | some (cells',u)=>if u.all (fun q=>q.1≠id) then some { σ with M:=(id,.box ty cells')::(u++σ.M) } else none
     | none=>none
   | _=>some σ
 | v=>match lendV σ v with
   | some (x,u)=>if s<σ.n then some { σ with F:=(s,x)::σ.F,M:=u++σ.M } else none
   | none=>none
def frzAll:List Nat→St→Option St
 | [],σ=>some σ
 | s::r,σ=>match frzOne s σ with
   | some σ'=>frzAll r σ'
   | none=>none
def softNew (m:Nat):Option (Nat×TypeId)→V
 | none=>.sl m []
 | some (u,_)=>.own u
def softM (m:Nat):Option (Nat×TypeId)→List (Nat×O)
 | none=>[]
 | some (u,e)=>[(u,.row true m e [])]
def softOk (M:List (Nat×O)) (m:Nat):Option (Nat×TypeId)→Bool
 | none=>true
 | some (u,_)=>(getM M u).isNone&&decide (0<m)
def softOne (σ:St) (s:Nat) (j:Option Nat) (m:Nat) (w:Option (Nat×TypeId)):Option St :=
 match j with
 | none=>match getF σ.F s with
   | .nil=>if softOk σ.M m w=true∧s<σ.n then some { σ with F:=(s,softNew m w)::σ.F,M:=softM m w++σ.M } else none
   | _=>some σ
 | some j=>match getF σ.F s with
   | .agg cs=>match cs[j]? with
     | some .nil=>if softOk σ.M m w=true∧s<σ.n then some { σ with F:=(s,.agg (cs.set j (softNew m w)))::σ.F,M:=softM m w++σ.M } else none
     | _=>some σ
   | .ptr id off=>match getM σ.M id with
     | some (.box ty cells)=>match cells[off+j]? with
       | some .nil=>if softOk σ.M m w=true then some { σ with M:=(id,.box ty (cells.set (off+j) (softNew m w)))::(softM m w++σ.M) } else none
       | _=>some σ
     | _=>some σ
   | _=>some σ
def softAll:List (Nat×Option Nat×Nat×Option (Nat×TypeId))→St→Option St
 | [],σ=>some σ
 | (s,j,m,w)::r,σ=>match softOne σ s j m w with
   | some σ'=>softAll r σ'
   | none=>none
def endR (fz:List Nat) (sf:List (Nat×Option Nat×Nat×Option (Nat×TypeId))) (k:Option (List Nat)) (σ:St):Option St :=
 match frzAll fz σ with
 | some σ'=>match softAll sf σ' with
   | some σ''=>normR k σ''
   | none=>none
 | none=>none
def canonOne (σ:St) (s:Nat) (j:Option Nat) (u m:Nat) (e:TypeId):Option St :=
 match j with
 | none=>match getF σ.F s with
   | .nil=>if (getM σ.M u).isNone∧0<m∧s<σ.n then some { σ with F:=(s,.own u)::σ.F,M:=(u,.row true m e [])::σ.M } else none
   | _=>some σ
 | some j=>match getF σ.F s with
   | .ptr id off=>match getM σ.M id with
     | some (.box ty cells)=>match cells[off+j]? with
       | some .nil=>if (getM σ.M u).isNone∧0<m then some { σ with M:=(id,.box ty (cells.set (off+j) (.own u)))::(u,.row true m e [])::σ.M } else none
       | _=>some σ
     | _=>some σ
   | _=>some σ
def canonAll:List (Nat×Option Nat×Nat×Nat×TypeId)→St→Option St
 | [],σ=>some σ
 | (s,j,u,m,e)::r,σ=>match canonOne σ s j u m e with
   | some σ'=>canonAll r σ'
   | none=>none
def HeadB:Nat:=30000
def toHead (ids:List Nat) (i:Nat):Nat:=if ExtB≤i then i else toIdx HeadB ids i
def keepCanon (ks:List Nat) (σ:St):Option St :=
 let F':=ks.map fun t=>(t,getF σ.F t)
 match reach σ.M 256 (V.idsL (F'.map (·.2))++extKeys σ.M) [] with
 | none=>none
 | some ids =>
 match objsOf σ.M ids with
 | some objs =>
   if (V.idsL (F'.map (·.2))).all ids.contains∧(objs.flatMap O.ids).all ids.contains∧(extKeys σ.M).all ids.contains∧nodupB ids∧ids.length<900000 then
    some { σ with F:=ks.map fun t=>(t,(getF σ.F t).ren (toHead ids)),M:=(ids.map (toHead ids)).zip (objs.map (O.ren (toHead ids))) } else none
 | none=>none
def headR (k:Option (List Nat)) (c:List (Nat×Option Nat×Nat×Nat×TypeId)) (σ:St):Option St :=
 match canonAll c σ with
 | some σ'=>match k with
   | none=>some σ'
   | some ks=>keepCanon ks σ'
 | none=>none
def iter (f:St→Option (Out×St)):Nat→St→Option (Out×St)
 | 0,_=>none
 | n+1,σ=>match f σ with
   | some (.norm,σ')=>iter f n σ'
   | r=>r
def jumps (f:Nat→St→Option (Out×St)):Nat→Option (Out×St)→Option (Out×St)
 | 0,some (.goto _,_)=>none
 | n+1,some (.goto l,σ)=>jumps f n (f l σ)
 | _,r=>r
def firstReg:Code→Nat
 | .region id _ _=>id
 | .seq a _=>firstReg a
 | .block _ b=>firstReg b
 | .loop b=>firstReg b
 | .scope b=>firstReg b
 | _=>0
def noRange:Code→Bool
 | .seq a b=>noRange a&&noRange b
 | .cond _ a b=>noRange a&&noRange b
 | .block _ b=>noRange b
 | .loop b=>noRange b
 | .scope b=>noRange b
 | .rangeFunc .. => false
 | _=>true
def rangeS (call:CallF) (h:Hints) (fn:FuncId) (σ:St) (g:Operand) (ps:List Nat) (a b:Code):Option (Out×St) :=
 match calleeOf σ g with
 | some (f,cs) =>
   (match h.head fn (1000000+firstReg b) with
   | some ks=>if f<YB∧(getM σ.M (400000+firstReg b)).isNone then
     (match callStep call h { σ with M:=(400000+firstReg b,.lp fn σ.n (ks.map fun t=>(t,getF σ.F t)) ps a b 0 .norm)::σ.M } (500000+firstReg b) f (.yld (400000+firstReg b)::cs) with
     | some (_,u)=>(match getM u (400000+firstReg b) with
       | some (.lp _ _ _ _ _ _ st out)=>if st=1 then none else (normR (h.keep fn (1000000+firstReg b)) { σ with M:=(400000+firstReg b,.dead)::(u++σ.M) }).map (out,·)
       | _=>none)
     | none=>none)
     else none
   | none=>none)
 | none=>none
def exec (P:Program) (call:CallF) (h:Hints) (fn:FuncId) (fuel:Nat):Option Nat→Code→St→Option (Out×St)
 | none,.skip,σ=>some (.norm,σ)
 | none,.region id ops draw,σ=>match execOps P call h ops ops.toList σ with
   | some (σ',es)=>if draw=false∨(slotsOk ops=true∧effsOk ops es=true) then (endR (h.frz fn id) (h.soft fn id) (h.keep fn id) σ').map (.norm,·) else none
   | none=>none
 | none,.seq a b,σ=>match exec P call h fn fuel none a σ with
   | some (.norm,σ')=>exec P call h fn fuel none b σ'
   | r=>r
 | some l,.seq a b,σ=>if (findLabel a l).isSome then
   (match exec P call h fn fuel (some l) a σ with
   | some (.norm,σ')=>exec P call h fn fuel none b σ'
   | r=>r) else exec P call h fn fuel (some l) b σ
 | none,.cond c a b,σ=>match evalV σ c with
   | .p (.bool true)=>exec P call h fn fuel none a σ
   | .p (.bool false)=>exec P call h fn fuel none b σ
   | _=>none
 | none,.block id a,σ=>match exec P call h fn fuel none a σ with
   | some (.exit i,σ')=>if i=id then some (.norm,σ') else some (.exit i,σ')
   | r=>r
 | none,.loop a,σ=>iter (fun σ=>match headR (h.head fn (firstReg a)) (h.canon fn (firstReg a)) σ with
   | some σ'=>exec P call h fn fuel none a σ'
   | none=>none) fuel σ
 | none,.rangeFunc g ps a b,σ=>rangeS call h fn σ g ps.toList a b
 | none,.exit id,σ=>some (.exit id,σ)
 | none,.goto l,σ=>some (.goto l,σ)
 | none,.label _,σ=>some (.norm,σ)
 | some l,.label l',σ=>if l'=l then some (.norm,σ) else none
 | none,.ret,σ=>some (.ret,σ)
 | none,.scope a,σ=>jumps (fun l σ=>exec P call h fn fuel (some l) a σ) fuel (exec P call h fn fuel none a σ)
 | _,_,_=>none
def resV (P:Program) (σ:St):List ResultVar→Option (List V)
 | []=>some []
 | .tmp t::r=>(resV P σ r).map (getF σ.F t :: ·)
 | .cell a t::r=>match loadV P σ t (getF σ.F a),resV P σ r with
   | some v,some l=>some (v::l)
   | _,_=>none
def oneOf:List V→V
 | [v]=>v
 | l=>.tup l
def idxs:Nat→List O→List (Nat×O)
 | _,[]=>[]
 | i,o::r=>(i,o)::idxs (i+1) r
def params:Nat→List V→List (Nat×V)
 | _,[]=>[]
 | i,v::r=>(i,v)::params (i+1) r
def finishR (r:V) (k:Nat) (σ:St):Option (V×List O×List O) :=
 match objsOf σ.M ((List.range k).map (ExtB + ·)) with
 | some exts =>
   match (reach σ.M 64 (r.ids++exts.flatMap O.ids) []) with
   | none=>none
   | some ids0 =>
   let ids:=ids0.filter (· < ExtB)
   match objsOf σ.M ids with
   | some news =>
     if nodupB ids∧news.all (fun o => !o.isDead)∧((r.ids++exts.flatMap O.ids++news.flatMap O.ids).all fun i=>ids.contains i||(ExtB≤i&&i<ExtB+k)) then
      some (r.ren (toIdx RetB ids),exts.map (O.ren (toIdx RetB ids)),news.map (O.ren (toIdx RetB ids)))
     else none
   | none=>none
 | none=>none
def finish (P:Program) (fn:Func) (k:Nat) (σ:St):Option (V×List O×List O) :=
 match resV P σ fn.results.toList with
 | some l=>finishR (oneOf l) k σ
 | none=>none
def putAll:List Nat→List V→List (Nat×V)→List (Nat×V)
 | p::ps,x::xs,F=>putAll ps xs ((p,x)::F)
 | _,_,F=>F
def roundS (P:Program) (call:CallF) (h:Hints) (k:Nat) (args:List V) (exts:List O):Option (V×List O×List O) :=
 match args.getLast? with
 | some (.yld id)=>match exts[id - ExtB]? with
   | some (.lp fn n F ps a b 0 .norm) =>
     if ExtB≤id∧ps.length+1=args.length∧ps.all (· < n)∧noRange a∧noRange b then
      (match exec P call h fn k none a { n:=n,F:=putAll ps args F,M:=idxs ExtB exts } with
      | some (.norm,σ1)=>(match getM σ1.M id with
        | some (.lp fn1 n1 F1 ps1 a1 b1 0 .norm)=>(match exec P call h fn k none b { σ1 with M:=(id,.lp fn1 n1 F1 ps1 a1 b1 1 .norm)::σ1.M } with
          | some (out,σ2)=>(match getM σ2.M id with
            | some (.lp fn2 n2 F2 ps2 a2 b2 1 .norm)=>finishR (.p (.bool out.isNorm)) exts.length { σ2 with M:=(id,.lp fn2 n2 F2 ps2 a2 b2 (if out.isNorm then 0 else 2) out)::σ2.M }
            | _=>none)
          | none=>none)
        | _=>none)
      | _=>none)
     else none
   | _=>none
 | _=>none
def callV (P:Program) (ctx:FuncId→Option (List V→List O→Option (V×List O×List O))) (h:Hints):Nat→CallF
 | 0=>fun _ _ _=>none
 | k+1=>fun f args exts=>if f=YB then roundS P (callV P ctx h k) h k args exts else match ctx f with
   | some g=>g args exts
   | none=>match P.funcs[f]? with
     | some fn=>match fn.body with
       | some c =>
         if fn.name = "runtime.NumGoroutine" ∨ fn.ntmps < args.length ∨ YB < f + 1 then none else
         match exec P (callV P ctx h k) h f k none c { n:=fn.ntmps,F:=params 0 args,M:=idxs ExtB exts } with
         | some (.norm,σ)=>finish P fn exts.length σ
         | some (.ret,σ)=>finish P fn exts.length σ
         | _=>none
       | none=>none
     | none=>none
inductive RepD (w:World) (S:Nat→Prop):V→Value→Prop
 | p (v:Value):RepD w S (.p v) v
 | nil:RepD w S .nil (.slice none 0 0)
 | sl0 (m:Nat) (a:Option Addr) (c:Nat):RepD w S (.sl m []) (.slice a 0 c)
 | sl (m:Nat) (rows:List (List V)) (b off c:Nat) (g:Nat→Nat→Value) (hS:S b) (hc:rows.length≤c) (hw:∀ r∈rows,r.length=m)
   (h1:∀ k r j x,rows[k]?=some r→r[j]?=some x→w.cell? ⟨b,off+k * m+j,none⟩=some (g k j))
   (h2:∀ k r j x,rows[k]?=some r→r[j]?=some x→(g k j).oneCell'=true)
   (h3:∀ k r j x,rows[k]?=some r→r[j]?=some x→RepD w S x (g k j)) :
   RepD w S (.sl m rows) (.slice (some ⟨b,off,none⟩) rows.length c)
inductive Rep (w:World) (β:Nat→Value) (S:Nat→Prop):V→Value→Prop
 | d {x:V} {v:Value} (h:RepD w S x v):Rep w β S x v
 | agg (cs:List V) (arr:Array Value) (hs:arr.size=cs.length) (ho:∀ v∈arr,v.oneCell'=true)
   (h:∀ (i:Nat) x v,cs[i]?=some x→arr[i]?=some v→Rep w β S x v):Rep w β S (.agg cs) (.agg arr)
 | tup (cs:List V) (arr:Array Value) (hs:arr.size=cs.length)
   (h:∀ (i:Nat) x v,cs[i]?=some x→arr[i]?=some v→Rep w β S x v):Rep w β S (.tup cs) (.tuple arr)
 | fn (f:FuncId) (cs:List V) (arr:Array Value) (hs:arr.size=cs.length)
   (h:∀ (i:Nat) x v,cs[i]?=some x→arr[i]?=some v→Rep w β S x v):Rep w β S (.fn f cs) (.func (.func f) #[] arr)
 | rpt (cells:List V) (off b o:Nat) (g:Nat→Value) (hS:S b)
   (h1:∀ j x,cells[j]?=some x→w.cell? ⟨b,o+j,none⟩=some (g j)) (h2:∀ j x,cells[j]?=some x→(g j).oneCell'=true)
   (h3:∀ j x,cells[j]?=some x→RepD w S x (g j)):Rep w β S (.rpt cells off) (.pointer (some ⟨b,o+off,none⟩))
 | own (id:Nat) (ho:(β id).oneCell'=true):Rep w β S (.own id) (β id)
 | cut (id m off n g N C:Nat) (a:Option Addr) (c:Nat) (hβ:β id=.slice (some ⟨g,0,none⟩) N C) (hc:n≤c) (ha:off<N→a=some ⟨g,off * m,none⟩) (hr:N≤off+c) (hn:off+n≤N):Rep w β S (.cut id m off n) (.slice a n c)
 | cut0 (id m off N C:Nat) (a:Option Addr) (c:Nat) (ad:Option Addr) (hβ:β id=.slice ad N C) (hN:N≤off):Rep w β S (.cut id m off 0) (.slice a 0 c)
 | ptr (id off g:Nat) (hβ:β id=.pointer (some ⟨g,0,none⟩)):Rep w β S (.ptr id off) (.pointer (some ⟨g,off,none⟩))
 | ept (id m k j g N C:Nat) (hβ:β id=.slice (some ⟨g,0,none⟩) N C):Rep w β S (.ept id m k j) (.pointer (some ⟨g,k * m+j,none⟩))
 | yld (id l:Nat) (hβ:β id=.func (.yield l) #[] #[]):Rep w β S (.yld id) (.func (.yield l) #[] #[])
 | bsl (id m n g:Nat) (hβ:β id=.pointer (some ⟨g,0,none⟩)):Rep w β S (.bsl id m n) (.slice (some ⟨g,0,none⟩) n n)
 | bad (v:Value):Rep w β S .bad v
theorem cell_of {w w':World} {a:Addr} (h:w'.heap[a.block]?=w.heap[a.block]?):w'.cell? a=w.cell? a:=by simp [World.cell?,h]
theorem RepD.mono {w w':World} {S S':Nat→Prop} (hw:∀ b,S b→w'.heap[b]?=w.heap[b]?) (hS:∀ b,S b→S' b) {x:V} {v:Value} (h:RepD w S x v):RepD w' S' x v:=by
 induction h with
 | p v=>exact .p v
 | nil=>exact .nil
 | sl0 m a c=>exact .sl0 m a c
 | sl m rows b off c g hSb hc hwd h1 h2 h3 ih=>exact .sl m rows b off c g (hS b hSb) hc hwd (fun k r j x hk hj=>(cell_of (hw b hSb)).trans (h1 k r j x hk hj)) h2 ih
theorem Rep.mono {w w':World} {β β':Nat→Value} {S S':Nat→Prop} (hw:∀ b,S b→w'.heap[b]?=w.heap[b]?) (hS:∀ b,S b→S' b) {x:V} {v:Value} (h:Rep w β S x v) :
  (∀ id∈x.ids,β' id=β id)→Rep w' β' S' x v:=by
 have mem:∀ (cs:List V) (i:Nat) (y:V),cs[i]?=some y→∀ id∈y.ids,id∈V.idsL cs:=by
  intro cs
  induction cs with
  | nil=>intro i y h;simp at h
  | cons c r ih =>
    intro i y h id hid
    rw [V.idsL]
    cases i with
    | zero=>simp at h;subst h;exact List.mem_append_left _ hid
    | succ i=>simp at h;exact List.mem_append_right _ (ih i y h id hid)
 induction h with
 | d h=>intro _;exact .d (h.mono hw hS)
 | agg cs arr hs ho h ih=>intro hβ;exact .agg cs arr hs ho fun i x v h1 h2=>ih i x v h1 h2 fun id hid=>hβ id (by rw [V.ids];exact mem cs i x h1 id hid)
 | tup cs arr hs h ih=>intro hβ;exact .tup cs arr hs fun i x v h1 h2=>ih i x v h1 h2 fun id hid=>hβ id (by rw [V.ids];exact mem cs i x h1 id hid)
 | fn f cs arr hs h ih=>intro hβ;exact .fn f cs arr hs fun i x v h1 h2=>ih i x v h1 h2 fun id hid=>hβ id (by rw [V.ids];exact mem cs i x h1 id hid)
 | rpt cells off b o g hSb h1 h2 h3=>intro _;exact .rpt cells off b o g (hS b hSb) (fun j x hj=>(cell_of (hw b hSb)).trans (h1 j x hj)) h2 (fun j x hj=>(h3 j x hj).mono hw hS)
 | own id ho=>intro hβ;rw [←hβ id (by simp [V.ids])] at ho ⊢;exact .own id ho
 | cut id m off n g N C a c h hc ha hr hn=>intro hβ;exact .cut id m off n g N C a c ((hβ id (by simp [V.ids])).trans h) hc ha hr hn
 | cut0 id m off N C a c ad h hN=>intro hβ;exact .cut0 id m off N C a c ad ((hβ id (by simp [V.ids])).trans h) hN
 | ptr id off g h=>intro hβ;exact .ptr id off g ((hβ id (by simp [V.ids])).trans h)
 | ept id m k j g N C h=>intro hβ;exact .ept id m k j g N C ((hβ id (by simp [V.ids])).trans h)
 | yld id l h=>intro hβ;exact .yld id l ((hβ id (by simp [V.ids])).trans h)
 | bsl id m n g h=>intro hβ;exact .bsl id m n g ((hβ id (by simp [V.ids])).trans h)
 | bad v=>intro _;exact .bad v
theorem idsL_mem {cs:List V} {i:Nat} {y:V} (h:cs[i]?=some y) {id:Nat} (hid:id∈y.ids):id∈V.idsL cs:=by
 induction cs generalizing i with
 | nil=>simp at h
 | cons c r ih =>
   rw [V.idsL]
   cases i with
   | zero=>simp at h;subst h;exact List.mem_append_left _ hid
   | succ i=>simp at h;exact List.mem_append_right _ (ih h)
def blk:Value→Option Nat
 | .pointer (some a)=>some a.block
 | .slice (some a) _ _=>some a.block
 | .func (.yield l) _ _=>some l
 | _=>none
def O.isOwn:O→Bool
 | .box .. => true
 | .row o .. => o
 | .lp .. => true
 | .dead=>false
def lpState:Nat→LoopState
 | 0=>.ready
 | 1=>.busy
 | 2=>.done
 | _=>.exhausted
def ORep (w:World) (β:Nat→Value) (S:Nat→Prop) (id:Nat):O→Prop
 | .box ty cells=>∃ g arr,β id=.pointer (some ⟨g,0,none⟩)∧w.heap[g]?=some (.cells arr ty (0,0))∧arr.size=cells.length∧(∀ v∈arr,v.oneCell'=true) ∧
   ∀ (i:Nat) x v,cells[i]?=some x→arr[i]?=some v→Rep w β S x v
 | .row _ m e rows=>0<m∧(∀ r∈rows,r.length=m)∧∃ xs,w.ownsRow 0 e m (β id) rows.length xs∧(∀ v∈xs,v.oneCell'=true) ∧
   ∀ (k:Nat) r (j:Nat) x,rows[k]?=some r→r[j]?=some x→∃ v,xs[k * m+j]?=some v∧RepD w S x v
 | .lp _ n F ps asg body st out=>∃ l r,β id=.func (.yield l) #[] #[]∧w.heap[l]?=some (.loop r)∧r.params.toList=ps∧r.assign=asg∧r.body=body∧r.state=lpState st∧r.pending=out.jump∧r.tmps.size=n ∧
   ∀ t,Rep w β S (getF F t) (r.tmps.getD t undef)
 | .dead=>True
theorem getF_ids {F:List (Nat×V)} {t id:Nat} (h:id∈(getF F t).ids):id∈V.idsL (F.map (·.2)):=by
 induction F with
 | nil=>simp [getF,V.ids] at h
 | cons q r ih =>
   obtain ⟨k,v⟩:=q
   simp only [getF] at h
   rw [List.map_cons,V.idsL]
   split at h
   ·exact List.mem_append_left _ h
   ·exact List.mem_append_right _ (ih h)
def Marks (w0 w:World) (S:Nat→Prop) (ds:List Deferred):Prop :=
 ∃ Ds:List Nat,ds=Ds.map (fun D=>{ target:=.collected D,args:=#[] })∧Ds.Nodup∧∀ D∈Ds,w0.heap.size≤D∧w.heap[D]?=some (.deferred (some []))∧¬S D
theorem Marks.nil {w0 w:World} {S:Nat→Prop}:Marks w0 w S []:=⟨[],rfl,List.nodup_nil,by simp⟩
theorem ownsRow_same {w w':World} {e:TypeId} {m:Nat} {v:Value} {n:Nat} {xs:List Value} (h:w.ownsRow 0 e m v n xs) (hb:∀ g,blk v=some g→w'.heap[g]?=w.heap[g]?):w'.ownsRow 0 e m v n xs:=by
 refine ⟨h.1,?_⟩
 rcases h.2 with h2 | ⟨g,cap,cur,hv,hg,hh,r⟩
 ·exact .inl h2
 ·refine .inr ⟨g,cap,cur,hv,hg,?_,r⟩
  rw [hb g (by rw [hv];rfl)]
  exact hh
theorem ownsRow_lt {w:World} {e:TypeId} {m:Nat} {v:Value} {n:Nat} {xs:List Value} (h:w.ownsRow 0 e m v n xs) {g:Nat} (hg:blk v=some g):g<w.heap.size:=by
 rcases h.2 with ⟨hv,_⟩ | ⟨g',cap,cur,hv,_,hh,_⟩
 ·rw [hv] at hg;cases hg
 ·rw [hv] at hg;cases hg
  exact (Array.getElem?_eq_some_iff.1 hh).1
theorem ORep.mono {w w':World} {β β':Nat→Value} {S S':Nat→Prop} (hw:∀ b,S b→w'.heap[b]?=w.heap[b]?) (hS:∀ b,S b→S' b) {id:Nat} {o:O} (h:ORep w β S id o)
  (hb:∀ g,blk (β id)=some g→o.isDead=false→w'.heap[g]?=w.heap[g]?) (hid:β' id=β id) (hβ:∀ i∈o.ids,β' i=β i):ORep w' β' S' id o:=by
 cases o with
 | box ty cells =>
   obtain ⟨g,arr,h1,h2,h3,h4,h5⟩:=h
   exact ⟨g,arr,hid.trans h1,(hb g (by rw [h1];rfl) rfl).trans h2,h3,h4,fun i x v hx hv=>(h5 i x v hx hv).mono hw hS fun i' hi'=>hβ i' (idsL_mem hx hi')⟩
 | row o m e rows =>
   obtain ⟨h0,h1,xs,h2,h3,h4⟩:=h
   refine ⟨h0,h1,xs,?_,h3,fun k r j x hk hj => ?_⟩
   ·rw [hid]
    exact ownsRow_same h2 fun g hg=>hb g hg rfl
   ·obtain ⟨v,hv,hr⟩:=h4 k r j x hk hj
    exact ⟨v,hv,hr.mono hw hS⟩
 | lp fn n F ps asg body st out =>
   obtain ⟨l,r,h1,h2,h3,h4,h5,h6,h7,h8,h9⟩:=h
   exact ⟨l,r,hid.trans h1,(hb l (by rw [h1];rfl) rfl).trans h2,h3,h4,h5,h6,h7,h8,fun t=>(h9 t).mono hw hS fun i hi=>hβ i (getF_ids hi)⟩
 | dead=>trivial
theorem own_cells {w:World} {β:Nat→Value} {S:Nat→Prop} {id:Nat} {o:O} (h:ORep w β S id o) (hown:o.isOwn=true) {g:Nat} (hg:blk (β id)=some g):g<w.heap.size∧w.heap[g]?≠some (.deferred (some [])):=by
 cases o with
 | box ty cells =>
   obtain ⟨g',arr,h1,h2,_⟩:=h
   rw [h1] at hg;cases hg
   exact ⟨(Array.getElem?_eq_some_iff.1 h2).1,by rw [h2];simp⟩
 | row o m e rows =>
   obtain ⟨_,_,xs,h2,_⟩:=h
   rcases h2.2 with ⟨hv,_⟩ | ⟨g',cap,cur,hv,_,hh,_⟩
   ·rw [hv] at hg;cases hg
   ·rw [hv] at hg;cases hg
    exact ⟨(Array.getElem?_eq_some_iff.1 hh).1,by rw [hh];simp⟩
 | lp fn n F ps asg body st out =>
   obtain ⟨l,r,h1,h2,_⟩:=h
   rw [h1] at hg;cases hg
   exact ⟨(Array.getElem?_eq_some_iff.1 h2).1,by rw [h2];simp⟩
 | dead=>cases hown
structure Base where
 S:Nat→Prop
 k:Nat
 β:Nat→Value
structure Inv (w0:World) (fp:Nat→Prop) (S0:Base) (σ:St) (a:Act) (w:World) (β:Nat→Value) (S:Nat→Prop):Prop where
 defers:Marks w0 w S a.defers
 size:a.tmps.size=σ.n
 slots:∀ t,Rep w β S (getF σ.F t) (a.tmps.getD t undef)
 objs:∀ id o,getM σ.M id=some o→ORep w β S id o
 own:∀ id o g,getM σ.M id=some o→o.isOwn=true→blk (β id)=some g→¬S g∧(fp g∨w0.heap.size≤g)
 fro:∀ id m e rows g,getM σ.M id=some (.row false m e rows)→blk (β id)=some g→S g
 inj:∀ i j o o' g,getM σ.M i=some o→getM σ.M j=some o'→o.isOwn=true→o'.isOwn=true→blk (β i)=some g→blk (β j)=some g→i=j
 closedF:∀ t,∀ id∈(getF σ.F t).ids,(getM σ.M id).isSome=true
 closedM:∀ i o,getM σ.M i=some o→∀ id∈o.ids,(getM σ.M id).isSome=true
 Slt:∀ b,S b→b<w.heap.size
 S0S:∀ b,S0.S b→S b
 SIn:∀ b,S b→S0.S b∨fp b∨w0.heap.size≤b
 ext:∀ i,i<S0.k→(getM σ.M (ExtB+i)).isSome=true∧β (ExtB+i)=S0.β i
 os:w.os=w0.os
 tape:w.tape=w0.tape
 output:w.output=w0.output
 grow:w0.heap.size≤w.heap.size
 kept:∀ b,b<w0.heap.size→¬fp b→w.heap[b]?=w0.heap[b]?
 laid:∀ g cs,lay g=some cs→V.idsL cs=[]∧∀ β,Rep w β S (.rpt cs 0) ((⟨#[],[]⟩:Act).eval (.global g))
theorem getM_append (u M:List (Nat×O)) (i:Nat):getM (u++M) i=match getM u i with | some o=>some o | none=>getM M i:=by
 induction u with
 | nil=>rfl
 | cons q r ih=>obtain ⟨k,o⟩:=q;simp only [List.cons_append,getM];split<;>simp_all
theorem getM_keys {u:List (Nat×O)} {i:Nat}:(getM u i).isSome=true↔i∈u.map (·.1):=by
 induction u with
 | nil=>simp [getM]
 | cons q r ih =>
   obtain ⟨k,o⟩:=q
   simp only [getM,List.map_cons,List.mem_cons]
   split
   ·rename_i h;simp [h]
   ·rename_i h;rw [ih];constructor
    ·exact .inr
    ·rintro (h2 | h2)
     ·exact absurd h2.symm h
     ·exact h2
structure UpdOk (w0:World) (fp:Nat→Prop) (σ:St) (w:World) (β:Nat→Value) (S:Nat→Prop) (v:V) (u:List (Nat×O)) (v':Value) (w':World) (β':Nat→Value) (S':Nat→Prop):Prop where
 new:∀ id,β' id=β id∨getM σ.M id=none
 os:w'.os=w.os
 tape:w'.tape=w.tape
 output:w'.output=w.output
 grow:w.heap.size≤w'.heap.size
 touch:∀ b,b<w.heap.size→w'.heap[b]?=w.heap[b]?∨∃ id o,getM σ.M id=some o∧o.isOwn=true∧blk (β id)=some b∧(getM u id).isSome=true
 S1:∀ b,S b→S' b
 S2:∀ b,S' b→b<w'.heap.size
 S4:∀ b,S' b→S b∨w.heap.size≤b∨∃ id o,getM σ.M id=some o∧o.isOwn=true∧blk (β id)=some b∧(getM u id).isSome=true
 objs:∀ id o,getM u id=some o→ORep w' β' S' id o
 own:∀ id o g,getM u id=some o→o.isOwn=true→blk (β' id)=some g→¬S' g∧(w.heap.size≤g∨∃ id o,getM σ.M id=some o∧o.isOwn=true∧blk (β id)=some g∧(getM u id).isSome=true)
 fro:∀ id m e rows g,getM u id=some (.row false m e rows)→blk (β' id)=some g→S' g
 inj:∀ i j o o' g,getM u i=some o→getM u j=some o'→o.isOwn=true→o'.isOwn=true→blk (β' i)=some g→blk (β' j)=some g→i=j
 closedM:∀ i o,getM u i=some o→∀ id∈o.ids,(getM u id).isSome=true∨(getM σ.M id).isSome=true
 rep:Rep w' β' S' v v'
 closedV:∀ id∈v.ids,(getM u id).isSome=true∨(getM σ.M id).isSome=true
theorem getD_set {α:Type} (a:Array α) (d t:Nat) (v x:α) (h:d<a.size):(a.setIfInBounds d v).getD t x=if d=t then v else a.getD t x:=by
 simp only [Array.getD_eq_getD_getElem?,Array.getElem?_setIfInBounds]
 split<;>simp_all
theorem Inv.upd {w0:World} {fp:Nat→Prop} {S0:Base} {σ:St} {a:Act} {w:World} {β:Nat→Value} {S:Nat→Prop} (I:Inv w0 fp S0 σ a w β S)
  {v:V} {u:List (Nat×O)} {v':Value} {w':World} {β':Nat→Value} {S':Nat→Prop} (U:UpdOk w0 fp σ w β S v u v' w' β' S') {dst:Option Nat} (hd:dstOk σ.n dst=true) :
  Inv w0 fp S0 (σ.put dst v u) (a.put dst v') w' β' S':=by
 have hSh:∀ b,S b→w'.heap[b]?=w.heap[b]?:=fun b hb=>by
  rcases U.touch b (I.Slt b hb) with h | ⟨id,o,h1,h2,h3,_⟩
  ·exact h
  ·exact absurd hb (I.own id o b h1 h2 h3).1
 have hβs:∀ id,(getM σ.M id).isSome=true→β' id=β id:=fun id h=>(U.new id).resolve_right fun e=>by rw [e] at h;cases h
 have hlift:∀ {x:V} {y:Value},Rep w β S x y→(∀ id∈x.ids,(getM σ.M id).isSome=true)→Rep w' β' S' x y:=fun h hc=>h.mono hSh U.S1 fun id hid=>hβs id (hc id hid)
 have fpOf:∀ id o g,getM σ.M id=some o→o.isOwn=true→blk (β id)=some g→fp g∨w0.heap.size≤g:=fun id o g h1 h2 h3=>(I.own id o g h1 h2 h3).2
 have objOf:∀ id o,getM u id=none→getM σ.M id=some o→ORep w' β' S' id o:=fun id o hu ho=>by
  refine (I.objs id o ho).mono hSh U.S1 (fun g hg hdead => ?_) (hβs id (by rw [ho];rfl)) fun i hi=>hβs i (I.closedM id o ho i hi)
  cases hown:o.isOwn with
  | true =>
    have hlt:g<w.heap.size:=(own_cells (I.objs id _ ho) hown hg).1
    rcases U.touch g hlt with h | ⟨id',o',h1,h2,h3,h4⟩
    ·exact h
    ·have:=I.inj id id' o o' g ho h1 hown h2 hg h3
     subst this
     rw [hu] at h4;cases h4
  | false =>
    cases o with
    | box ty cells=>cases hown
    | row o m e rows=>cases o with
      | true=>cases hown
      | false=>exact hSh g (I.fro id m e rows g ho hg)
    | lp=>cases hown
    | dead=>cases hdead
 have keyOwn:∀ i o g,getM u i=none→getM σ.M i=some o→o.isOwn=true→blk (β i)=some g→g<w.heap.size:=fun id o g hu ho hown hg=>(own_cells (I.objs id _ ho) hown hg).1
 have hmark:Marks w0 w' S' a.defers:=by
  obtain ⟨Ds,h1,h2,h3⟩:=I.defers
  refine ⟨Ds,h1,h2,fun D hD => ?_⟩
  obtain ⟨m1,m2,m3⟩:=h3 D hD
  have hlt:D<w.heap.size:=(Array.getElem?_eq_some_iff.1 m2).1
  have hno:¬ ∃ id o,getM σ.M id=some o∧o.isOwn=true∧blk (β id)=some D∧(getM u id).isSome=true:=by
   rintro ⟨id,o,q1,q2,q3,_⟩
   exact (own_cells (I.objs id o q1) q2 q3).2 m2
  refine ⟨m1,((U.touch D hlt).resolve_right hno).trans m2,fun hS => ?_⟩
  rcases U.S4 D hS with q | q | q
  ·exact m3 q
  ·omega
  ·exact hno q
 refine { defers:=?_,size:=?_,slots:=?_,objs:=?_,own:=?_,fro:=?_,inj:=?_,closedF:=?_,closedM:=?_,Slt:=U.S2,S0S:=fun b h=>U.S1 b (I.S0S b h),SIn:=?_,ext:=?_,os:=U.os.trans I.os,tape:=U.tape.trans I.tape,output:=U.output.trans I.output,grow:=Nat.le_trans I.grow U.grow,kept:=?_,laid:=?_ }
 ·cases dst<;>exact hmark
 ·cases dst<;>simp [Act.put,St.put,I.size]
 ·intro t
  cases dst with
  | none=>exact hlift (I.slots t) (I.closedF t)
  | some d =>
    have hlt:d<a.tmps.size:=by rw [I.size];simpa [dstOk] using hd
    simp only [St.put,getF,Act.put,getD_set _ _ _ _ _ hlt]
    split
    ·exact U.rep
    ·exact hlift (I.slots t) (I.closedF t)
 ·intro id o ho
  simp only [St.put,getM_append] at ho
  cases hu:getM u id with
  | some o'=>simp only [hu] at ho;cases ho;exact U.objs id _ hu
  | none=>simp only [hu] at ho;exact objOf id o hu ho
 ·intro id o g ho hown hg
  simp only [St.put,getM_append] at ho
  cases hu:getM u id with
  | some o' =>
    simp only [hu] at ho;cases ho
    obtain ⟨h1,h2⟩:=U.own id _ g hu hown hg
    refine ⟨h1,?_⟩
    rcases h2 with h2 | ⟨i,o2,h3,h4,h5,_⟩
    ·exact .inr (Nat.le_trans I.grow h2)
    ·exact fpOf i o2 g h3 h4 h5
  | none =>
    simp only [hu] at ho
    rw [hβs id (by rw [ho];rfl)] at hg
    refine ⟨fun hS => ?_,fpOf id o g ho hown hg⟩
    rcases U.S4 g hS with h | h | ⟨i,o2,h3,h4,h5,h6⟩
    ·exact (I.own id o g ho hown hg).1 h
    ·have:=keyOwn id o g hu ho hown hg;omega
    ·have:=I.inj id i o o2 g ho h3 hown h4 hg h5
     subst this
     rw [hu] at h6;cases h6
 ·intro id m e rows g ho hg
  simp only [St.put,getM_append] at ho
  cases hu:getM u id with
  | some o'=>simp only [hu] at ho;cases ho;exact U.fro id m e rows g hu hg
  | none =>
    simp only [hu] at ho
    rw [hβs id (by rw [ho];rfl)] at hg
    exact U.S1 g (I.fro id m e rows g ho hg)
 ·have half:∀ i j o o' g,getM u i=some o→getM u j=none→getM σ.M j=some o'→o.isOwn=true→o'.isOwn=true→blk (β' i)=some g→blk (β' j)=some g→i=j:=by
   intro i j o o' g hui huj hj h1 h2 h3 h4
   rw [hβs j (by rw [hj];rfl)] at h4
   rcases (U.own i o g hui h1 h3).2 with h | ⟨k,o2,h5,h6,h7,h8⟩
   ·have:=keyOwn j o' g huj hj h2 h4;omega
   ·have:=I.inj j k o' o2 g hj h5 h2 h6 h4 h7
    subst this
    rw [huj] at h8;cases h8
  intro i j o o' g hi hj h1 h2 h3 h4
  simp only [St.put,getM_append] at hi hj
  cases hui:getM u i with
  | some oi =>
    simp only [hui] at hi;cases hi
    cases huj:getM u j with
    | some oj=>simp only [huj] at hj;cases hj;exact U.inj i j _ _ g hui huj h1 h2 h3 h4
    | none=>simp only [huj] at hj;exact half i j _ _ g hui huj hj h1 h2 h3 h4
  | none =>
    simp only [hui] at hi
    cases huj:getM u j with
    | some oj=>simp only [huj] at hj;cases hj;exact (half j i _ _ g huj hui hi h2 h1 h4 h3).symm
    | none =>
      simp only [huj] at hj
      rw [hβs i (by rw [hi];rfl)] at h3
      rw [hβs j (by rw [hj];rfl)] at h4
      exact I.inj i j o o' g hi hj h1 h2 h3 h4
 ·have some_of:∀ id,((getM u id).isSome=true∨(getM σ.M id).isSome=true)→(getM (u++σ.M) id).isSome=true:=fun id h=>by
   rw [getM_append];cases hu:getM u id with
   | some _=>rfl
   | none => rw [hu] at h;rcases h with h | h;· cases h
             exact h
  intro t id hid
  show (getM (u++σ.M) id).isSome=true
  cases dst with
  | none=>exact some_of id (.inr (I.closedF t id hid))
  | some d =>
    simp only [St.put,getF] at hid
    split at hid
    ·exact some_of id (U.closedV id hid)
    ·exact some_of id (.inr (I.closedF t id hid))
 ·intro i o ho id hid
  have some_of:∀ id,((getM u id).isSome=true∨(getM σ.M id).isSome=true)→(getM (u++σ.M) id).isSome=true:=fun id h=>by
   rw [getM_append];cases hu:getM u id with
   | some _=>rfl
   | none => rw [hu] at h;rcases h with h | h;· cases h
             exact h
  show (getM (u++σ.M) id).isSome=true
  simp only [St.put,getM_append] at ho
  cases hu:getM u i with
  | some o'=>simp only [hu] at ho;cases ho;exact some_of id (U.closedM i _ hu id hid)
  | none=>simp only [hu] at ho;exact some_of id (.inr (I.closedM i o ho id hid))
 ·intro b hb
  rcases U.S4 b hb with h | h | ⟨i,o2,h3,h4,h5,_⟩
  ·exact I.SIn b h
  ·exact .inr (.inr (Nat.le_trans I.grow h))
  ·exact .inr (fpOf i o2 b h3 h4 h5)
 ·intro i hi
  obtain ⟨h1,h2⟩:=I.ext i hi
  refine ⟨?_,(hβs _ h1).trans h2⟩
  show (getM (u++σ.M) (ExtB+i)).isSome=true
  rw [getM_append]
  cases hu:getM u (ExtB+i) with
  | some _=>rfl
  | none=>exact h1
 ·intro b hb hfp
  rcases U.touch b (Nat.lt_of_lt_of_le hb I.grow) with h | ⟨i,o2,h3,h4,h5,_⟩
  ·exact h.trans (I.kept b hb hfp)
  ·rcases fpOf i o2 b h3 h4 h5 with h | h
   ·exact absurd h hfp
   ·omega
 ·intro g cs h
  exact ⟨(I.laid g cs h).1,fun β1=>((I.laid g cs h).2 β1).mono hSh U.S1 (fun _ _=>rfl)⟩
end Go.Proofs.YtbnnmplkbpgcaaaDoorV