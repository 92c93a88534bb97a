/- The value interpreter: laws for stepping through code with what is not known told by names. What comes behind a piece is told as code,never as a function: nothing looks into it before its time. -/
import Derived.Test.YtlelaenalbkbmaaDoorHVi24
namespace Go.Proofs.YtlelaenalbkbmaaDoorV
open Go
set_option linter.unusedVariables false
set_option linter.unusedSimpArgs false
noncomputable section
variable {P:Program} {call:CallF} {h:Hints} {fn fuel:Nat} {σ:St}
def seqK (P:Program) (call:CallF) (h:Hints) (fn fuel:Nat) (b:Code):Option (Out×St)→Option (Out×St)
 | some (.norm,σ)=>exec P call h fn fuel none b σ
 | r=>r
theorem seqK_norm {b:Code}:seqK P call h fn fuel b (some (.norm,σ))=exec P call h fn fuel none b σ:=rfl
theorem seqK_exit {b:Code} {i:Nat}:seqK P call h fn fuel b (some (.exit i,σ))=some (.exit i,σ):=rfl
theorem seqK_goto {b:Code} {i:Nat}:seqK P call h fn fuel b (some (.goto i,σ))=some (.goto i,σ):=rfl
theorem seqK_ret {b:Code}:seqK P call h fn fuel b (some (.ret,σ))=some (.ret,σ):=rfl
theorem seqK_none {b:Code}:seqK P call h fn fuel b none=none:=rfl
def condK (P:Program) (call:CallF) (h:Hints) (fn fuel:Nat) (a b:Code) (σ:St):V→Option (Out×St)
 | .p (.bool true)=>exec P call h fn fuel none a σ
 | .p (.bool false)=>exec P call h fn fuel none b σ
 | .coin=>joinR (exec P call h fn fuel none a σ) (exec P call h fn fuel none b σ)
 | _=>none
theorem condK_coin {a b:Code}:condK P call h fn fuel a b σ .coin=joinR (exec P call h fn fuel none a σ) (exec P call h fn fuel none b σ):=rfl
theorem condK_true {a b:Code}:condK P call h fn fuel a b σ (.p (.bool true))=exec P call h fn fuel none a σ:=rfl
theorem condK_false {a b:Code}:condK P call h fn fuel a b σ (.p (.bool false))=exec P call h fn fuel none b σ:=rfl
def blockK (id:Nat):Option (Out×St)→Option (Out×St)
 | some (.exit i,σ')=>if i=id then some (.norm,σ') else some (.exit i,σ')
 | r=>r
theorem blockK_norm {id:Nat}:blockK id (some (.norm,σ))=some (.norm,σ):=rfl
theorem blockK_ret {id:Nat}:blockK id (some (.ret,σ))=some (.ret,σ):=rfl
theorem blockK_goto {id i:Nat}:blockK id (some (.goto i,σ))=some (.goto i,σ):=rfl
theorem blockK_exit {id i:Nat}:blockK id (some (.exit i,σ))=if i=id then some (.norm,σ) else some (.exit i,σ):=rfl
def headK (P:Program) (call:CallF) (h:Hints) (fn fuel:Nat) (a:Code):Option St→Option (Out×St)
 | some σ=>exec P call h fn fuel none a σ
 | none=>none
theorem headK_some {a:Code}:headK P call h fn fuel a (some σ)=exec P call h fn fuel none a σ:=rfl
@[irreducible] def loopF (P:Program) (call:CallF) (h:Hints) (fn fuel:Nat) (a:Code) (σ:St):Option (Out×St) :=
 headK P call h fn fuel a (headR (h.head fn (firstReg a)) (h.canon fn (firstReg a)) σ)
theorem loopF_eq {a:Code}:loopF P call h fn fuel a σ=headK P call h fn fuel a (headR (h.head fn (firstReg a)) (h.canon fn (firstReg a)) σ):=by rw [loopF]
def loopK (P:Program) (call:CallF) (h:Hints) (fn fuel:Nat) (a:Code) (n:Nat) (σ:St):Option (Out×St):=iter (loopF P call h fn fuel a) n σ
def againK (P:Program) (call:CallF) (h:Hints) (fn fuel:Nat) (a:Code) (n:Nat):Option (Out×St)→Option (Out×St)
 | some (.norm,σ')=>loopK P call h fn fuel a n σ'
 | r=>r
theorem loopK_succ {a:Code} {n:Nat}:loopK P call h fn fuel a (n+1) σ=againK P call h fn fuel a n (headK P call h fn fuel a (headR (h.head fn (firstReg a)) (h.canon fn (firstReg a)) σ)):=by
 rw [←loopF_eq,loopK,iter]
 cases loopF P call h fn fuel a σ with
 | none=>rfl
 | some q=>obtain ⟨o,σ'⟩:=q;cases o<;>rfl
theorem againK_norm {a:Code} {n:Nat}:againK P call h fn fuel a n (some (.norm,σ))=loopK P call h fn fuel a n σ:=rfl
theorem againK_exit {a:Code} {n i:Nat}:againK P call h fn fuel a n (some (.exit i,σ))=some (.exit i,σ):=rfl
theorem againK_goto {a:Code} {n i:Nat}:againK P call h fn fuel a n (some (.goto i,σ))=some (.goto i,σ):=rfl
theorem againK_ret {a:Code} {n:Nat}:againK P call h fn fuel a n (some (.ret,σ))=some (.ret,σ):=rfl
theorem ev_skip:exec P call h fn fuel none .skip σ=some (.norm,σ):=by simp [exec]
theorem ev_exit {i:Nat}:exec P call h fn fuel none (.exit i) σ=some (.exit i,σ):=by simp [exec]
theorem ev_goto {i:Nat}:exec P call h fn fuel none (.goto i) σ=some (.goto i,σ):=by simp [exec]
theorem ev_label {i:Nat}:exec P call h fn fuel none (.label i) σ=some (.norm,σ):=by simp [exec]
theorem ev_ret:exec P call h fn fuel none .ret σ=some (.ret,σ):=by simp [exec]
theorem ev_seq {a b:Code}:exec P call h fn fuel none (.seq a b) σ=seqK P call h fn fuel b (exec P call h fn fuel none a σ):=by
 simp only [exec];rfl
theorem ev_cond {c:Operand} {a b:Code}:exec P call h fn fuel none (.cond c a b) σ=condK P call h fn fuel a b σ (evalV σ c):=by
 simp only [exec];rfl
theorem ev_block {i:Nat} {a:Code}:exec P call h fn fuel none (.block i a) σ=blockK i (exec P call h fn fuel none a σ):=by
 simp only [exec];rfl
theorem ev_loop {a:Code}:exec P call h fn fuel none (.loop a) σ=loopK P call h fn fuel a fuel σ:=by
 have:(loopF P call h fn fuel a)=fun σ=>match headR (h.head fn (firstReg a)) (h.canon fn (firstReg a)) σ with
   | some σ'=>exec P call h fn fuel none a σ'
   | none=>none:=by funext σ;rw [loopF_eq];rfl
 rw [loopK,this];simp only [exec];rfl
def runOpsE (P:Program) (call:CallF) (h:Hints) (ops:Array Oper):List Oper→St→List (Option Eff)→Option (St×List (Option Eff))
 | [],σ,es=>some (σ,es.reverse)
 | o::r,σ,es=>match stepG P call h ops σ o with
   | some (v,u)=>if dstOk σ.n o.dst then runOpsE P call h ops r (σ.put o.dst v u) (effOf σ o u::es) else none
   | none=>none
theorem runOpsE_eq {ops:Array Oper}:∀ (l:List Oper) (σ:St) (es:List (Option Eff)),(execOps P call h ops l σ).map (fun q=>(q.1,es.reverse++q.2))=runOpsE P call h ops l σ es
 | [],σ,es=>by simp [execOps,runOpsE]
 | o::r,σ,es=>by
   simp only [execOps,runOpsE]
   cases stepG P call h ops σ o with
   | none=>rfl
   | some q =>
     obtain ⟨v,u⟩:=q
     simp only []
     cases dstOk σ.n o.dst with
     | false=>rfl
     | true =>
       simp only [if_true]
       rw [←runOpsE_eq r]
       cases execOps P call h ops r (σ.put o.dst v u)<;>simp
def runOps (P:Program) (call:CallF) (h:Hints) (ops:Array Oper):List Oper→St→Option St
 | [],σ=>some σ
 | o::r,σ=>match stepG P call h ops σ o with
   | some (v,u)=>if dstOk σ.n o.dst then runOps P call h ops r (σ.put o.dst v u) else none
   | none=>none
theorem runOps_eq {ops:Array Oper}:∀ (l:List Oper) (σ:St),(execOps P call h ops l σ).map (·.1)=runOps P call h ops l σ
 | [],σ=>rfl
 | o::r,σ=>by
   simp only [execOps,runOps]
   cases stepG P call h ops σ o with
   | none=>rfl
   | some q =>
     obtain ⟨v,u⟩:=q
     simp only []
     cases dstOk σ.n o.dst with
     | false=>rfl
     | true =>
       simp only [if_true]
       rw [←runOps_eq r]
       cases execOps P call h ops r (σ.put o.dst v u)<;>rfl
def opK (P:Program) (call:CallF) (h:Hints) (ops:Array Oper) (o:Oper) (r:List Oper) (σ:St):Option (V×List (Nat×O))→Option St
 | some (v,u)=>if dstOk σ.n o.dst then runOps P call h ops r (σ.put o.dst v u) else none
 | none=>none
def opEK (P:Program) (call:CallF) (h:Hints) (ops:Array Oper) (o:Oper) (r:List Oper) (σ:St) (es:List (Option Eff)):Option (V×List (Nat×O))→Option (St×List (Option Eff))
 | some (v,u)=>if dstOk σ.n o.dst then runOpsE P call h ops r (σ.put o.dst v u) (effOf σ o u::es) else none
 | none=>none
theorem run_nil {ops:Array Oper}:runOps P call h ops [] σ=some σ:=rfl
theorem run_cons {ops:Array Oper} {o:Oper} {r:List Oper}:runOps P call h ops (o::r) σ=opK P call h ops o r σ (stepG P call h ops σ o):=rfl
def okK (P:Program) (call:CallF) (h:Hints) (ops:Array Oper) (r:List Oper) (σ:St):Bool→Option St
 | true=>runOps P call h ops r σ
 | false=>none
theorem okK_true {ops:Array Oper} {r:List Oper}:okK P call h ops r σ true=runOps P call h ops r σ:=rfl
theorem opK_some {ops:Array Oper} {o:Oper} {r:List Oper} {v:V} {u:List (Nat×O)}:opK P call h ops o r σ (some (v,u))=okK P call h ops r (σ.put o.dst v u) (dstOk σ.n o.dst):=by
 simp only [opK]
 cases dstOk σ.n o.dst<;>rfl
theorem runE_nil {ops:Array Oper} {es:List (Option Eff)}:runOpsE P call h ops [] σ es=some (σ,es.reverse):=rfl
theorem runE_cons {ops:Array Oper} {o:Oper} {r:List Oper} {es:List (Option Eff)}:runOpsE P call h ops (o::r) σ es=opEK P call h ops o r σ es (stepG P call h ops σ o):=rfl
def okEK (P:Program) (call:CallF) (h:Hints) (ops:Array Oper) (r:List Oper) (σ:St) (es:List (Option Eff)):Bool→Option (St×List (Option Eff))
 | true=>runOpsE P call h ops r σ es
 | false=>none
theorem okEK_true {ops:Array Oper} {r:List Oper} {es:List (Option Eff)}:okEK P call h ops r σ es true=runOpsE P call h ops r σ es:=rfl
theorem opEK_some {ops:Array Oper} {o:Oper} {r:List Oper} {v:V} {u:List (Nat×O)} {es:List (Option Eff)}:opEK P call h ops o r σ es (some (v,u))=okEK P call h ops r (σ.put o.dst v u) (effOf σ o u::es) (dstOk σ.n o.dst):=by
 simp only [opEK]
 cases dstOk σ.n o.dst<;>rfl
def endK (fz:List Nat) (sf:List (Nat×Option Nat×Nat×Option (Nat×TypeId))) (kp:Option (List Nat)):Option St→Option (Out×St)
 | some σ=>(endR fz sf kp σ).map (.norm,·)
 | none=>none
theorem endK_some {fz:List Nat} {sf:List (Nat×Option Nat×Nat×Option (Nat×TypeId))} {kp:Option (List Nat)}:endK fz sf kp (some σ)=(endR fz sf kp σ).map (.norm,·):=rfl
theorem ev_region {id:Nat} {ops:Array Oper}:exec P call h fn fuel none (.region id ops false) σ=endK (h.frz fn id) (h.soft fn id) (h.keep fn id) (runOps P call h ops ops.toList σ):=by
 rw [←runOps_eq,exec]
 cases execOps P call h ops ops.toList σ<;>rfl
def KR (b:Bool):Prop:=b=true
theorem KR.intro {b:Bool} (h:b=true):KR b:=h
theorem wrap_i64 {n:Int} (h1 : -9223372036854775808≤n) (h2:n<9223372036854775808):IntKind.i64.wrap n=n:=by
 simp [IntKind.wrap,IntKind.signed,IntKind.bits]
 omega
def ND (k t:Nat):Prop:=k≠t
theorem ND.intro {k t:Nat} (h:k≠t):ND k t:=h
theorem getF_nil {t:Nat}:getF [] t=.bad:=rfl
theorem getF_hit {t:Nat} {v:V} {r:List (Nat×V)}:getF ((t,v)::r) t=v:=by simp [getF]
theorem getF_miss {k t:Nat} {v:V} {r:List (Nat×V)} (hn:ND k t):getF ((k,v)::r) t=getF r t:=by simp [getF,if_neg (show ¬k=t from hn)]
theorem getM_nil {t:Nat}:getM [] t=none:=rfl
theorem getM_hit {t:Nat} {v:O} {r:List (Nat×O)}:getM ((t,v)::r) t=some v:=by simp [getM]
theorem getM_miss {k t:Nat} {v:O} {r:List (Nat×O)} (hn:ND k t):getM ((k,v)::r) t=getM r t:=by simp [getM,if_neg (show ¬k=t from hn)]
theorem oids_box {t:TypeId} {cs:List V}:O.ids (.box t cs)=V.idsL cs:=rfl
theorem oids_row {o:Bool} {m:Nat} {e:TypeId} {rows:List (List V)}:O.ids (.row o m e rows)=[]:=rfl
theorem oids_dead:O.ids .dead=[]:=rfl
theorem oren_box {f:Nat→Nat} {t:TypeId} {cs:List V}:O.ren f (.box t cs)=.box t (V.renL f cs):=rfl
theorem oren_row {f:Nat→Nat} {o:Bool} {m:Nat} {e:TypeId} {rows:List (List V)}:O.ren f (.row o m e rows)=.row o m e rows:=rfl
theorem oren_dead {f:Nat→Nat}:O.ren f .dead=.dead:=rfl
theorem odead_box {t:TypeId} {cs:List V}:O.isDead (.box t cs)=false:=rfl
theorem odead_row {o:Bool} {m:Nat} {e:TypeId} {rows:List (List V)}:O.isDead (.row o m e rows)=false:=rfl
theorem odead_dead:O.isDead .dead=true:=rfl
theorem evalV_tmp {t:Nat}:evalV σ (.tmp t)=getF σ.F t:=rfl
theorem evalV_const {v:Value}:evalV σ (.const v)=ofVal v:=rfl
theorem evalV_func {f:FuncId}:evalV σ (.func f)=.p (.func (.func f) #[] #[]):=rfl
def evL (σ:St):List (Nat×Operand)→List (Nat×V)
 | []=>[]
 | q::r=>(q.1,evalV σ q.2)::evL σ r
theorem evL_eq:∀ ps:List (Nat×Operand),evL σ ps=ps.map fun q=>(q.1,evalV σ q.2)
 | []=>rfl
 | q::r=>by rw [evL,evL_eq r];rfl
theorem evL_nil:evL σ []=[]:=rfl
theorem evL_cons {i:Nat} {x:Operand} {r:List (Nat×Operand)}:evL σ ((i,x)::r)=(i,evalV σ x)::evL σ r:=rfl
def fillK (pl:List (Nat×Nat)) (cells:List V) (rest:List (Nat×V)):Option (Nat×Nat)→Option (List V)→Option (List V)
 | some (off,size),some cs=>if cs.length=size∧off+cs.length≤cells.length then fillV (fun k=>pl[k]?) (overlay cells off cs) rest else none
 | _,_=>none
def fillL (pl:List (Nat×Nat)) (cells:List V) (rest:List (Nat×V)):Option (List V):=fillV (fun k=>pl[k]?) cells rest
theorem fillL_nil {pl:List (Nat×Nat)} {cells:List V}:fillL pl cells []=some cells:=rfl
theorem fillL_cons {pl:List (Nat×Nat)} {cells:List V} {i:Nat} {v:V} {rest:List (Nat×V)}:fillL pl cells ((i,v)::rest)=fillK pl cells rest pl[i]? (cellsOf v):=by
 rw [fillL,fillV]
 cases pl[i]?<;>cases cellsOf v<;>rfl
theorem fillK_some {pl:List (Nat×Nat)} {cells cs:List V} {off size:Nat} {rest:List (Nat×V)}:fillK pl cells rest (some (off,size)) (some cs)=if cs.length=size∧off+cs.length≤cells.length then fillL pl (overlay cells off cs) rest else none:=rfl
theorem build_eval {t:TypeId} {i:TypeInfo} {z:List V} {fs:Array Field} {pl:List (Nat×Nat)} {ps:List (Nat×Operand)} (h1:P.info? t=some i) (h2:zeroRow i=some z) (h3:P.underlying t=some (.struct fs)) (h4:sizesOf P fs.toList=some pl):buildV P σ t ps=(fillL pl z (evL σ ps)).map .agg:=by
 simp only [buildV,h1,h2,h3,h4,evL_eq,fillL]
theorem one_int {k:IntKind} {n:Int}:(Value.int k n).oneCell'=true:=rfl
theorem one_bool {b:Bool}:(Value.bool b).oneCell'=true:=rfl
theorem one_str {b:ByteArray}:(Value.string b).oneCell'=true:=rfl
def coinK (fz:List Nat) (sf:List (Nat×Option Nat×Nat×Option (Nat×TypeId))) (kp:Option (List Nat)):Option St→Option (Out×St)
 | some σ=>(endR fz sf kp σ).map (.norm,·)
 | none=>none
theorem coinK_some {fz:List Nat} {sf:List (Nat×Option Nat×Nat×Option (Nat×TypeId))} {kp:Option (List Nat)}:coinK fz sf kp (some σ)=(endR fz sf kp σ).map (.norm,·):=rfl
def drawK (ops:Array Oper) (fz:List Nat) (sf:List (Nat×Option Nat×Nat×Option (Nat×TypeId))) (kp:Option (List Nat)):Option (St×List (Option Eff))→Option (Out×St)
 | some (σ,es)=>if effsOk ops es=true then (endR fz sf kp σ).map (.norm,·) else none
 | none=>none
theorem drawK_some {ops:Array Oper} {fz:List Nat} {sf:List (Nat×Option Nat×Nat×Option (Nat×TypeId))} {kp:Option (List Nat)} {es:List (Option Eff)} (hf:KR (effsOk ops es)):drawK ops fz sf kp (some (σ,es))=(endR fz sf kp σ).map (.norm,·):=by unfold KR at hf;simp [drawK,hf]
theorem ev_draws {id:Nat} {ops:Array Oper} (hs:KR (slotsOk ops&&(coinD P ops.toList).isNone)):exec P call h fn fuel none (.region id ops true) σ=drawK ops (h.frz fn id) (h.soft fn id) (h.keep fn id) (runOpsE P call h ops ops.toList σ []):=by
 unfold KR at hs
 simp only [Bool.and_eq_true,Option.isNone_iff_eq_none] at hs
 obtain ⟨hs,hc⟩:=hs
 rw [←runOpsE_eq,exec]
 simp only [coinF,cond_true,hc]
 cases execOps P call h ops ops.toList σ with
 | none=>rfl
 | some q=>simp [drawK,hs]
theorem ev_coin {id c d:Nat} {ops:Array Oper} (hc:coinD P ops.toList=some (c,d)):exec P call h fn fuel none (.region id ops true) σ=coinK (h.frz fn id) (h.soft fn id) (h.keep fn id) (coinS σ c d):=by
 rw [exec]
 simp only [coinF,cond_true,hc]
 cases coinS σ c d<;>rfl
def finK (P:Program) (F:Func) (k:Nat):Option (Out×St)→Option (V×List O×List O)
 | some (.norm,σ)=>finish P F k σ
 | some (.ret,σ)=>finish P F k σ
 | _=>none
theorem finK_norm {F:Func} {k:Nat}:finK P F k (some (.norm,σ))=finish P F k σ:=rfl
theorem finK_ret {F:Func} {k:Nat}:finK P F k (some (.ret,σ))=finish P F k σ:=rfl
theorem ev_call {ctx : FuncId → Option (List V → List O → Option (V × List O × List O))} {k : Nat} {f : FuncId} {F : Func} {c : Code} {args : List V} {exts : List O} (hx : ctx f = none) (hf : P.funcs[f]? = some F) (hb : F.body = some c) (hg : (F.name == "runtime.NumGoroutine") = false) (hn : (decide (F.ntmps < args.length)) = false) (hy : decide (f < YB) = true) :
  callV P ctx h (k+1) f args exts=finK P F exts.length (exec P (callV P ctx h k) h f k none c { n:=F.ntmps,F:=params 0 args,M:=idxs ExtB exts }):=by
 have hy:f<YB:=by simpa using hy
 have h1 : ¬ (F.name = "runtime.NumGoroutine" ∨ F.ntmps < args.length ∨ YB < f + 1) := by
  rintro (e | e | e)
  ·rw [e] at hg;simp at hg
  ·simp at hn;omega
  ·exact absurd hy (fun h=>Nat.lt_irrefl _ (Nat.lt_of_lt_of_le e (Nat.succ_le_of_lt h)))
 simp only [callV]
 rw [if_neg (show ¬f=YB from fun e=>Nat.lt_irrefl _ (e▸hy))]
 simp only [hx,hf,hb,if_neg h1];rfl
def roundA2 (P:Program) (call:CallF) (h:Hints) (fn fuel id:Nat) (b:Code) (σ:St):Option O→Option (Out×St)
 | some (.lp f n F ps a1 b1 0 .norm)=>exec P call h fn fuel none b { σ with M:=(id,.lp f n F ps a1 b1 1 .norm)::σ.M }
 | _=>none
def roundA (P:Program) (call:CallF) (h:Hints) (fn fuel id:Nat) (b:Code):Option (Out×St)→Option (Out×St)
 | some (.norm,σ)=>roundA2 P call h fn fuel id b σ (getM σ.M id)
 | _=>none
def roundB2 (id n:Nat) (out:Out) (σ:St):Option O→Option (V×List O×List O)
 | some (.lp f m F ps a b 1 .norm)=>finishR (.p (.bool out.isNorm)) n { σ with M:=(id,.lp f m F ps a b (if out.isNorm then 0 else 2) out)::σ.M }
 | _=>none
def roundB (id n:Nat):Option (Out×St)→Option (V×List O×List O)
 | some (out,σ)=>roundB2 id n out σ (getM σ.M id)
 | none=>none
theorem roundA_norm {id:Nat} {b:Code}:roundA P call h fn fuel id b (some (.norm,σ))=roundA2 P call h fn fuel id b σ (getM σ.M id):=rfl
theorem roundA2_lp {id f n:Nat} {F:List (Nat×V)} {ps:List Nat} {a1 b1 b:Code}:roundA2 P call h fn fuel id b σ (some (.lp f n F ps a1 b1 0 .norm))=exec P call h fn fuel none b { σ with M:=(id,.lp f n F ps a1 b1 1 .norm)::σ.M }:=rfl
theorem roundB_some {id n:Nat} {out:Out}:roundB id n (some (out,σ))=roundB2 id n out σ (getM σ.M id):=rfl
theorem roundB2_lp {id n f m:Nat} {out:Out} {F:List (Nat×V)} {ps:List Nat} {a b:Code}:roundB2 id n out σ (some (.lp f m F ps a b 1 .norm))=finishR (.p (.bool out.isNorm)) n { σ with M:=(id,.lp f m F ps a b (if out.isNorm then 0 else 2) out)::σ.M }:=rfl
theorem ev_round {ctx:FuncId→Option (List V→List O→Option (V×List O×List O))} {k fn n id:Nat} {args:List V} {exts:List O} {F:List (Nat×V)} {ps:List Nat} {a b:Code} (h1:args.getLast?=some (.yld id)) (h2:exts[id - ExtB]?=some (.lp fn n F ps a b 0 .norm))
  (h3:decide (ExtB≤id)=true) (h4:(ps.length+1==args.length)=true) (h5:ps.all (· < n)=true) (h6:noRange a=true) (h7:noRange b=true) :
  callV P ctx h (k+1) 999999999 args exts=roundB id exts.length (roundA P (callV P ctx h k) h fn k id b (exec P (callV P ctx h k) h fn k none a { n:=n,F:=putAll ps args F,M:=idxs ExtB exts })):=by
 have h3:ExtB≤id:=by simpa using h3
 have h4:ps.length+1=args.length:=by simpa using h4
 simp only [callV]
 rw [if_pos (show (999999999:Nat)=YB from rfl),roundS]
 simp only [h1,h2]
 rw [if_pos ⟨h3,h4,by simpa using h5,h6,h7⟩]
 cases e1:exec P (callV P ctx h k) h fn k none a { n:=n,F:=putAll ps args F,M:=idxs ExtB exts } with
 | none=>rfl
 | some q =>
   obtain ⟨o1,σ1⟩:=q
   cases o1 with
   | norm =>
     simp only [roundA_norm]
     unfold roundA2
     split
     ·rename_i f2 n2 F2 ps2 a2 b2 hM
      simp only [hM]
      cases e2:exec P (callV P ctx h k) h fn k none b { σ1 with M:=(id,.lp f2 n2 F2 ps2 a2 b2 1 .norm)::σ1.M } with
      | none=>rfl
      | some q2 =>
        obtain ⟨o2,σ2⟩:=q2
        simp only [roundB_some]
        unfold roundB2
        split
        ·rename_i hM2
         simp only [hM2]
        ·rename_i hne
         split
         ·rename_i hM3
          exact absurd hM3 (hne _ _ _ _ _ _)
         ·rfl
     ·rename_i hne
      split
      ·rename_i hM3
       exact absurd hM3 (hne _ _ _ _ _ _)
      ·rfl
   | exit i=>rfl
   | goto l=>rfl
   | ret=>rfl
def rangeD (kp:Option (List Nat)) (σ:St) (d:Nat) (u:List (Nat×O)):Option O→Option (Out×St)
 | some (.lp _ _ _ _ _ _ st out)=>if st=1 then none else (normR kp { σ with M:=(d,.dead)::(u++σ.M) }).map (out,·)
 | _=>none
def rangeC (kp:Option (List Nat)) (σ:St) (d:Nat):Option (V×List (Nat×O))→Option (Out×St)
 | some (_,u)=>rangeD kp σ d u (getM u d)
 | none=>none
def rangeB (call:CallF) (h:Hints) (fn:FuncId) (σ:St) (r:Nat) (ps:List Nat) (a b:Code) (f:FuncId) (cs:List V):Option (List Nat)→Option (Out×St)
 | some ks=>if (getM σ.M (400000+r)).isNone=true then rangeC (h.keep fn (1000000+r)) σ (400000+r) (callStep call h { σ with M:=(400000+r,.lp fn σ.n (ks.map fun t=>(t,getF σ.F t)) ps a b 0 .norm)::σ.M } (500000+r) f (.yld (400000+r)::cs)) else none
 | none=>none
def rangeA (call:CallF) (h:Hints) (fn:FuncId) (σ:St) (r:Nat) (ps:List Nat) (a b:Code):Option (FuncId×List V)→Option (Out×St)
 | some (f,cs)=>if f<YB then rangeB call h fn σ r ps a b f cs (h.head fn (1000000+r)) else none
 | none=>none
theorem rangeA_some {r:Nat} {ps:List Nat} {a b:Code} {f:FuncId} {cs:List V} (hy:KR (decide (f<YB))):rangeA call h fn σ r ps a b (some (f,cs))=rangeB call h fn σ r ps a b f cs (h.head fn (1000000+r)):=by
 have hy:f<YB:=by simpa [KR] using hy
 rw [rangeA,if_pos hy]
theorem rangeB_some {r:Nat} {ps:List Nat} {a b:Code} {f:FuncId} {cs:List V} {ks:List Nat}:rangeB call h fn σ r ps a b f cs (some ks)=if (getM σ.M (400000+r)).isNone=true then rangeC (h.keep fn (1000000+r)) σ (400000+r) (callStep call h { σ with M:=(400000+r,.lp fn σ.n (ks.map fun t=>(t,getF σ.F t)) ps a b 0 .norm)::σ.M } (500000+r) f (.yld (400000+r)::cs)) else none:=rfl
theorem rangeC_some {kp:Option (List Nat)} {d:Nat} {v:V} {u:List (Nat×O)}:rangeC kp σ d (some (v,u))=rangeD kp σ d u (getM u d):=rfl
theorem rangeD_lp {kp:Option (List Nat)} {d f n st:Nat} {u:List (Nat×O)} {F:List (Nat×V)} {ps:List Nat} {a b:Code} {out:Out}:rangeD kp σ d u (some (.lp f n F ps a b st out))=if st=1 then none else (normR kp { σ with M:=(d,.dead)::(u++σ.M) }).map (out,·):=rfl
theorem ev_range {g:Operand} {ps:Array Tmp} {a b:Code}:exec P call h fn fuel none (.rangeFunc g ps a b) σ=rangeA call h fn σ (firstReg b) ps.toList a b (calleeOf σ g):=by
 rw [show exec P call h fn fuel none (.rangeFunc g ps a b) σ=rangeS call h fn σ g ps.toList a b from by simp [exec],rangeS]
 cases calleeOf σ g with
 | none=>rfl
 | some q =>
   obtain ⟨f,cs⟩:=q
   simp only [rangeA]
   cases e:h.head fn (1000000+firstReg b) with
   | none=>simp [rangeB]
   | some ks =>
     by_cases hy:f<YB
     ·simp only [hy,true_and,if_true,rangeB]
      split
      ·cases callStep call h { σ with M:=(400000+firstReg b,.lp fn σ.n (ks.map fun t=>(t,getF σ.F t)) ps.toList a b 0 .norm)::σ.M } (500000+firstReg b) f (.yld (400000+firstReg b)::cs) with
       | none=>rfl
       | some q =>
         obtain ⟨v,u⟩:=q
         simp only [rangeC]
         unfold rangeD
         split
         ·rename_i hM;simp only [hM]
         ·rename_i hne
          split
          ·rename_i hM;exact absurd hM (hne _ _ _ _ _ _ _ _)
          ·rfl
      ·rfl
     ·simp [hy]
theorem oids_lp {f n st:Nat} {F:List (Nat×V)} {ps:List Nat} {a b:Code} {out:Out}:O.ids (.lp f n F ps a b st out)=V.idsL (F.map (·.2)):=rfl
theorem oren_lp {r:Nat→Nat} {f n st:Nat} {F:List (Nat×V)} {ps:List Nat} {a b:Code} {out:Out}:O.ren r (.lp f n F ps a b st out)=.lp f n (F.map fun q=>(q.1,q.2.ren r)) ps a b st out:=rfl
theorem odead_lp {f n st:Nat} {F:List (Nat×V)} {ps:List Nat} {a b:Code} {out:Out}:O.isDead (.lp f n F ps a b st out)=false:=rfl
theorem callee_func {f:FuncId} (hy:KR (decide (f<YB))):calleeOf σ (.func f)=some (f,[]):=by
 have hy:f<YB:=by simpa [KR] using hy
 simp [calleeOf,hy]
def calleeV:V→Option (FuncId×List V)
 | .p (.func (.func f) a b)=>if a.size=0∧b.size=0∧f<YB then some (f,[]) else none
 | .fn f cs=>if f<YB then some (f,cs) else none
 | .yld id=>some (YB,[.yld id])
 | _=>none
theorem callee_tmp {t:Nat}:calleeOf σ (.tmp t)=calleeV (getF σ.F t):=rfl
theorem callee_const {v:Value}:calleeOf σ (.const v)=calleeV (ofVal v):=rfl
theorem calleeV_p {f:FuncId} (hy:KR (decide (f<YB))):calleeV (.p (.func (.func f) #[] #[]))=some (f,[]):=by
 have hy:f<YB:=by simpa [KR] using hy
 simp [calleeV,hy]
theorem calleeV_fn {f:FuncId} {cs:List V} (hy:KR (decide (f<YB))):calleeV (.fn f cs)=some (f,cs):=by
 have hy:f<YB:=by simpa [KR] using hy
 simp [calleeV,hy]
theorem calleeV_yld {id:Nat}:calleeV (.yld id)=some (999999999,[.yld id]):=rfl
theorem CL:(type_of% @callee_func)∧(type_of% @callee_tmp)∧(type_of% @callee_const)∧(type_of% @calleeV_p)∧(type_of% @calleeV_fn)∧(type_of% @calleeV_yld):=⟨@callee_func,@callee_tmp,@callee_const,@calleeV_p,@calleeV_fn,@calleeV_yld⟩
def Sp (P:Program) (ctx:FuncId→Option (List V→List O→Option (V×List O×List O))) (h:Hints) (f:FuncId) (args:List V) (exts:List O) (r:V×List O×List O):Prop :=
 ∃ K,∀ k,K≤k→callV P ctx h k f args exts=some r
def loopsOf:Code→List Code
 | .loop a=>a::loopsOf a
 | .seq a b=>loopsOf a++loopsOf b
 | .cond _ a b=>loopsOf a++loopsOf b
 | .block _ a=>loopsOf a
 | .scope a=>loopsOf a
 | _=>[]
end
end Go.Proofs.YtlelaenalbkbmaaDoorV