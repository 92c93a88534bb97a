/- The value interpreter: the last operations that change nothing. -/
import Derived.Test.YtlelaenalbkbmaaDoorHVi5
import Derived.Laws.StructEq
namespace Go.Proofs.YtlelaenalbkbmaaDoorV
open Go
set_option linter.unusedVariables false
set_option linter.unusedSimpArgs false
section
variable {P:Program} {w0:World} {fp:Nat→Prop} {S0:Base} {σ:St} {a:Act} {w:World} {β:Nat→Value} {S:Nat→Prop} {o:Oper}
theorem move_ok (I:Inv w0 fp S0 σ a w β S) {x:Operand} (ho:o.op=.move x∨o.op=.assign x):POk P σ a w β S o (evalV σ x):=by
 refine ⟨⟨a.eval x,?_,evalV_rep I x⟩,evalV_closed I x⟩
 rcases ho with ho | ho<;>simp [execOp,ho]
theorem pick_ok (I:Inv w0 fp S0 σ a w β S) {c x y:Operand} {t:Bool} (ho:o.op=.pick c x y) (h:evalV σ c=.p (.bool t)):POk P σ a w β S o (if t then evalV σ x else evalV σ y):=by
 have hc:a.eval c=.bool t:=rep_p (h▸evalV_rep I c)
 cases t with
 | true=>exact ⟨⟨a.eval x,by simp [execOp,ho,hc,asBool],evalV_rep I x⟩,evalV_closed I x⟩
 | false=>exact ⟨⟨a.eval y,by simp [execOp,ho,hc,asBool],evalV_rep I y⟩,evalV_closed I y⟩
theorem ref_val {x:V} (h:isRef x=true) {v:Value} (hr:Rep w β S x v):∃ ad,v=.pointer (some ad):=by
 cases x<;>simp [isRef] at h<;>cases hr<;>first
  | exact ⟨_,rfl⟩
  | (rename_i h2;cases h2)
theorem nilCheck_ok (I:Inv w0 fp S0 σ a w β S) {x:Operand} {v:V} (ho:o.op=.nilCheck x) (h:evalV σ x=v) (hv:isRef v=true∨(∃ f cs,v=.fn f cs)∨(∃ id,v=.yld id)∨∃ f b c,v=.p (.func (.func f) b c)):POk P σ a w β S o v:=by
 have hr:=evalV_rep I x
 have hc:=evalV_closed I x
 rw [h] at hr hc
 refine ⟨⟨a.eval x,?_,hr⟩,hc⟩
 rcases hv with hv | ⟨f,cs,rfl⟩ | ⟨id,rfl⟩ | ⟨f,b,c,rfl⟩
 ·obtain ⟨ad,e⟩:=ref_val hv hr
  simp [execOp,ho,e]
 ·generalize hxv:a.eval x=xv at hr
  cases hr with
  | d hr=>cases hr
  | fn _ _ arr hs h=>simp [execOp,ho,hxv]
 ·generalize hxv:a.eval x=xv at hr
  cases hr with
  | d hr=>cases hr
  | yld _ l h=>simp [execOp,ho,hxv]
 ·have e:=rep_p hr
  simp [execOp,ho,e]
theorem intBin_run {op:BinOp} {k:IntKind} {x y:Int} {v:Value} {t:TypeId} (hs:isShift op=false) (h:intBin op k x y=some v):(binOp op t (.int k x) (.int k y)).run P w=.ok v w:=by
 cases op<;>simp [isShift] at hs<;>simp only [intBin] at h<;>(try (split at h))<;>first
  | (cases h;done)
  | (cases h;simp [binOp,Op.intArith,Op.intBits,Op.intCmp,Op.intDiv];done)
  | (cases h;rename_i hne;simp [binOp,Op.intArith,Op.intBits,Op.intCmp,Op.intDiv,hne];done)
theorem shift_run {op:BinOp} {k k':IntKind} {x y:Int} {v:Value} {t:TypeId} (hs:isShift op=true) (h:shiftV op k x y=some v):(binOp op t (.int k x) (.int k' y)).run P w=.ok v w:=by
 unfold shiftV at h
 split at h<;>try (cases h;done)
 rename_i hne
 cases op<;>simp [isShift] at hs<;>simp at h<;>subst h<;>simp [binOp,Op.shift,hne]
theorem guard_int {op:BinOp} {k k':IntKind} {x y:Int} {t:TypeId} {X Y:Operand}:(eqGuard op t X Y (.int k x) (.int k' y)).run P w=.ok () w:=by
 unfold eqGuard
 split<;>simp
theorem guard_bool {op:BinOp} {x y:Bool} {t:TypeId} {X Y:Operand}:(eqGuard op t X Y (.bool x) (.bool y)).run P w=.ok () w:=by
 unfold eqGuard
 split<;>simp
theorem guard_ptr {op:BinOp} {x y:Option Addr} {t:TypeId} {X Y:Operand}:(eqGuard op t X Y (.pointer x) (.pointer y)).run P w=.ok () w:=by
 unfold eqGuard
 split<;>simp
theorem equal_bool {t:TypeId} (hu:P.underlying t=some .bool) (x y:Bool):(Op.equal t (.bool x) (.bool y)).run P w=.ok (x==y) w:=by
 show (Op.equalIn (9999+1) t (.bool x) (.bool y)).run P w=_
 rw [Op.equalIn]
 simp only [Sem.run_bind,run_underlying hu,Result.andThen_ok,Sem.run_pure]
theorem equal_ptr1 {t e:TypeId} (hu:P.underlying t=some (.pointer e)) (x:Addr):(Op.equal t (.pointer (some x)) (.pointer none)).run P w=.ok false w:=by
 show (Op.equalIn (9999+1) t (.pointer (some x)) (.pointer none)).run P w=_
 rw [Op.equalIn]
 simp only [Sem.run_bind,run_underlying hu,Result.andThen_ok,Sem.run_pure]
theorem equal_ptr2 {t e:TypeId} (hu:P.underlying t=some (.pointer e)) (x:Addr):(Op.equal t (.pointer none) (.pointer (some x))).run P w=.ok false w:=by
 show (Op.equalIn (9999+1) t (.pointer none) (.pointer (some x))).run P w=_
 rw [Op.equalIn]
 simp only [Sem.run_bind,run_underlying hu,Result.andThen_ok,Sem.run_pure,Option.isNone]
theorem eql_run {t:TypeId} {x y:Value} {b:Bool} (h:(Op.equal t x y).run P w=.ok b w) (hx:(∃ c d,x=.bool c∧y=.bool d)∨∃ c d,x=.pointer c∧y=.pointer d):(binOp .eql t x y).run P w=.ok (.bool b) w:=by
 rcases hx with ⟨c,d,rfl,rfl⟩ | ⟨c,d,rfl,rfl⟩
 ·show ((do pure (Value.bool (←Op.equal t (.bool c) (.bool d)))):Sem Value).run P w=_
  simp only [Sem.run_bind,h,Result.andThen_ok,Sem.run_pure]
 ·show ((do pure (Value.bool (←Op.equal t (.pointer c) (.pointer d)))):Sem Value).run P w=_
  simp only [Sem.run_bind,h,Result.andThen_ok,Sem.run_pure]
theorem neq_run {t:TypeId} {x y:Value} {b:Bool} (h:(Op.equal t x y).run P w=.ok b w) (hx:(∃ c d,x=.bool c∧y=.bool d)∨∃ c d,x=.pointer c∧y=.pointer d):(binOp .neq t x y).run P w=.ok (.bool (!b)) w:=by
 rcases hx with ⟨c,d,rfl,rfl⟩ | ⟨c,d,rfl,rfl⟩
 ·show ((do pure (Value.bool (!(←Op.equal t (.bool c) (.bool d))))):Sem Value).run P w=_
  simp only [Sem.run_bind,h,Result.andThen_ok,Sem.run_pure]
 ·show ((do pure (Value.bool (!(←Op.equal t (.pointer c) (.pointer d))))):Sem Value).run P w=_
  simp only [Sem.run_bind,h,Result.andThen_ok,Sem.run_pure]
theorem binOp_exec {op:BinOp} {t t':TypeId} {x y:Operand} {u:Value} (ho:o.op=.binOp op t x y t') (hg:(eqGuard op t x y (a.eval x) (a.eval y)).run P w=.ok () w) (h:(binOp op t (a.eval x) (a.eval y)).run P w=.ok u w) :
  (execOp a.eval o).run P w=.ok (.value u) w:=by
 simp only [execOp,ho,Sem.run_bind,hg,h,Result.andThen_ok,Sem.run_pure]
theorem agg_cells {xs:List V} {xv:Value} (hr:Rep w β S (.agg xs) xv):∃ ax:Array Value,xv=.agg ax∧∀ (i:Nat) v,xs[i]?=some (.p v)→ax[i]?=some v:=by
 cases hr with
 | d h=>cases h
 | agg _ ax hs ho h =>
   refine ⟨ax,rfl,fun i v hi => ?_⟩
   have hlt:i<ax.size:=by rw [hs];exact (List.getElem?_eq_some_iff.1 hi).1
   have:=rep_p (h i _ _ hi (Array.getElem?_eq_getElem hlt))
   rw [Array.getElem?_eq_getElem hlt,this]
theorem cellEq_run {d:Nat} {t:TypeId} {x y:V} {b:Bool} (h:cellEq (P.underlying t) x y=some b):∃ u v,x=.p u∧y=.p v∧(Op.equalIn (d+1) t u v).run P w=.ok b w∧∀ (xs:Array Value) (off:Nat) z,xs[off]?=some z→(part t xs off).run P w=.ok z w:=by
 unfold cellEq at h
 split at h<;>try (cases h;done)
 ·split at h<;>try (cases h;done)
  rename_i q hu
  split at h<;>simp at h
  rename_i e
  subst e;subst h
  exact ⟨_,_,rfl,rfl,run_equalIn_int w d t _ _ _ _ hu,fun xs off z hz=>by simp [part,isAgg,run_underlying hu,hz]⟩
 ·split at h<;>simp at h
  rename_i hu
  subst h
  exact ⟨_,_,rfl,rfl,run_equalIn_bool' w d t _ _ hu,fun xs off z hz=>by simp [part,isAgg,run_underlying hu,hz]⟩
 ·split at h<;>simp at h
  rename_i hu
  subst h
  exact ⟨_,_,rfl,rfl,run_equalIn_string w d t _ _ hu,fun xs off z hz=>by simp [part,isAgg,run_underlying hu,hz]⟩
theorem flatEq0_run (d:Nat) {xs ys:List V} {ax ay:Array Value} (hx:∀ (i:Nat) v,xs[i]?=some (.p v)→ax[i]?=some v) (hy:∀ (i:Nat) v,ys[i]?=some (.p v)→ay[i]?=some v):∀ (fs:List Field) (b:Bool),flatEq0 P xs ys fs=some b→(Op.eqFields (d+1) ax ay fs).run P w=.ok b w
 | [],b,h=>by simp [flatEq0] at h;subst h;simp [Op.eqFields]
 | f::fs,b,h=>by
   simp only [flatEq0] at h
   split at h<;>try (cases h;done)
   rename_i hne
   split at h<;>try (cases h;done)
   rename_i x y ex ey
   split at h<;>simp at h
   rename_i b1 c h1 h2
   subst h
   obtain ⟨u,v,rfl,rfl,h3,h4⟩:=cellEq_run (w:=w) (d:=d) h1
   have ih:=flatEq0_run d hx hy fs c h2
   simp only [Op.eqFields,if_pos hne,Sem.run_bind,h4 _ _ _ (hx _ _ ex),h4 _ _ _ (hy _ _ ey),h3,Result.andThen_ok]
   cases b1
   ·simp
   ·simpa using ih
theorem sub_cells {xs:List V} {ax:Array Value} (hx:∀ (i:Nat) v,xs[i]?=some (.p v)→ax[i]?=some v) (off n:Nat):∀ (i:Nat) v,((xs.drop off).take n)[i]?=some (.p v)→(ax.extract off (off+n))[i]?=some v:=by
 intro i v h
 rw [List.getElem?_take] at h
 split at h<;>try (cases h;done)
 rename_i hi
 rw [List.getElem?_drop] at h
 have h2:=hx _ _ h
 have h3:=(Array.getElem?_eq_some_iff.1 h2).1
 rw [Array.getElem?_extract,if_pos (by omega)]
 exact h2
theorem fieldEq_run (d:Nat) {xs ys:List V} {ax ay:Array Value} (hx:∀ (i:Nat) v,xs[i]?=some (.p v)→ax[i]?=some v) (hy:∀ (i:Nat) v,ys[i]?=some (.p v)→ay[i]?=some v) {f:Field} {b:Bool} (h:fieldEq P xs ys f (P.underlying f.type)=some b) :
  ∃ u v,(part f.type ax f.offset).run P w=.ok u w∧(part f.type ay f.offset).run P w=.ok v w∧(Op.equalIn (d+2) f.type u v).run P w=.ok b w:=by
 unfold fieldEq at h
 split at h
 ·rename_i gs hu
  split at h<;>try (cases h;done)
  rename_i i hi
  split at h<;>try (cases h;done)
  rename_i hc
  rw [Bool.or_eq_false_iff] at hc
  have hfo:P.fieldsOf f.type=gs:=by simp [Program.fieldsOf,hu]
  refine ⟨.agg (ax.extract f.offset (f.offset+i.size)),.agg (ay.extract f.offset (f.offset+i.size)),?_,?_,?_⟩
  ·simp [part,isAgg,run_underlying hu,sizeOf,typeInfo,hi]
  ·simp [part,isAgg,run_underlying hu,sizeOf,typeInfo,hi]
  ·rw [run_equalIn_struct w (d+1) f.type _ _ (by rw [hfo];exact hu) hc.2,hfo]
   exact flatEq0_run d (sub_cells hx _ _) (sub_cells hy _ _) _ _ h
 ·rename_i dd hne
  split at h<;>try (cases h;done)
  rename_i x y ex ey
  obtain ⟨u,v,rfl,rfl,h3,h4⟩:=cellEq_run (w:=w) (d:=d+1) h
  exact ⟨u,v,h4 _ _ _ (hx _ _ ex),h4 _ _ _ (hy _ _ ey),h3⟩
theorem flatEq_run (d:Nat) {xs ys:List V} {ax ay:Array Value} (hx:∀ (i:Nat) v,xs[i]?=some (.p v)→ax[i]?=some v) (hy:∀ (i:Nat) v,ys[i]?=some (.p v)→ay[i]?=some v):∀ (fs:List Field) (b:Bool),flatEq P xs ys fs=some b→(Op.eqFields (d+2) ax ay fs).run P w=.ok b w
 | [],b,h=>by simp [flatEq] at h;subst h;simp [Op.eqFields]
 | f::fs,b,h=>by
   simp only [flatEq] at h
   split at h<;>try (cases h;done)
   rename_i hne
   unfold andO at h
   split at h<;>simp at h
   rename_i b1 c h1 h2
   subst h
   obtain ⟨u,v,e1,e2,e3⟩:=fieldEq_run (w:=w) d hx hy h1
   have ih:=flatEq_run d hx hy fs c h2
   simp only [Op.eqFields,if_pos hne,Sem.run_bind,e1,e2,e3,Result.andThen_ok]
   cases b1
   ·simp
   ·simpa using ih
theorem aggEq_ok (I:Inv w0 fp S0 σ a w β S) {op:BinOp} {t t':TypeId} {x y:Operand} {xs ys:List V} {fs:Array Field} {v:V} (ho:o.op=.binOp op t x y t') (hu:P.underlying t=some (.struct fs)) (ex:evalV σ x=.agg xs) (ey:evalV σ y=.agg ys) (h:aggEqV P op t xs ys fs.toList=some v):POk P σ a w β S o v:=by
 obtain ⟨ax,e1,hx⟩:=agg_cells (ex▸evalV_rep I x)
 obtain ⟨ay,e2,hy⟩:=agg_cells (ey▸evalV_rep I y)
 unfold aggEqV at h
 split at h<;>try (cases h;done)
 rename_i hc
 rw [Bool.or_eq_false_iff] at hc
 have hfo:P.fieldsOf t=fs:=by simp [Program.fieldsOf,hu]
 have key:∀ b,flatEq P xs ys fs.toList=some b→(Op.equalIn 10000 t (.agg ax) (.agg ay)).run P w=.ok b w:=fun b hb=>by
  rw [run_equalIn_struct w 9999 t ax ay (by rw [hfo];exact hu) hc.2,hfo]
  exact flatEq_run 9997 hx hy _ _ hb
 split at h<;>simp at h
 ·rename_i b hb
  subst h
  exact ⟨⟨_,binOp_exec ho (by rw [e1,e2];exact run_eqGuard_agg w _ _ _ _ _ _ hc.1) (by rw [e1,e2,run_eql_struct,key _ hb];rfl),.d (.p _)⟩,by simp [V.ids]⟩
 ·rename_i b hb
  subst h
  exact ⟨⟨_,binOp_exec ho (by rw [e1,e2];exact run_eqGuard_agg w _ _ _ _ _ _ hc.1) (by rw [e1,e2,run_neq_struct,key _ hb];rfl),.d (.p _)⟩,by simp [V.ids]⟩
theorem bin_ok (I:Inv w0 fp S0 σ a w β S) {op:BinOp} {t t':TypeId} {x y:Operand} {v:V} (ho:o.op=.binOp op t x y t') (h:binV P σ o op t x y=some v):POk P σ a w β S o v:=by
 unfold binV at h
 have hx:=evalV_rep I x
 have hy:=evalV_rep I y
 split at h
 ·rename_i k n k' n' e1 e2
  rw [e1] at hx;rw [e2] at hy
  have ex:=rep_p hx
  have ey:=rep_p hy
  split at h
  ·rename_i hs
   simp only [Option.map_eq_some_iff] at h
   obtain ⟨u,hu,rfl⟩:=h
   refine ⟨⟨u,?_,.d (.p u)⟩,by simp [V.ids]⟩
   simp [execOp,ho,ex,ey,guard_int,shift_run hs hu]
  ·rename_i hs
   split at h<;>try (cases h;done)
   rename_i hk
   subst hk
   simp only [Option.map_eq_some_iff] at h
   obtain ⟨u,hu,rfl⟩:=h
   refine ⟨⟨u,?_,.d (.p u)⟩,by simp [V.ids]⟩
   simp [execOp,ho,ex,ey,guard_int,intBin_run (by simpa using hs) hu]
 ·rename_i b b' e1 e2
  rw [e1] at hx;rw [e2] at hy
  have ex:=rep_p hx
  have ey:=rep_p hy
  split at h<;>try (cases h;done)
  all_goals (injection h with h;subst h)
  ·rename_i hu
   exact ⟨⟨_,binOp_exec ho (by rw [ex,ey];exact guard_bool) (by rw [ex,ey];exact eql_run (equal_bool hu _ _) (.inl ⟨_,_,rfl,rfl⟩)),.d (.p _)⟩,by simp [V.ids]⟩
  ·rename_i hu
   exact ⟨⟨_,binOp_exec ho (by rw [ex,ey];exact guard_bool) (by rw [ex,ey];exact neq_run (equal_bool hu _ _) (.inl ⟨_,_,rfl,rfl⟩)),.d (.p _)⟩,by simp [V.ids]⟩
 ·rename_i b b' e1 e2
  rw [e1] at hx;rw [e2] at hy
  have ex:=rep_p hx
  have ey:=rep_p hy
  have hg:(eqGuard op t x y (.string b) (.string b')).run P w=.ok () w:=by cases op<;>simp [eqGuard]
  split at h
  ·rename_i hu
   injection h with h;subst h
   exact ⟨⟨_,binOp_exec ho (by rw [ex,ey];exact hg) (by rw [ex,ey];simp [binOp,Op.stringOp,beq_toListBytes,bne]),.d (.p _)⟩,by simp [V.ids]⟩
  ·rename_i hu
   injection h with h;subst h
   exact ⟨⟨_,binOp_exec ho (by rw [ex,ey];exact hg) (by rw [ex,ey];simp [binOp,Op.stringOp,beq_toListBytes,bne]),.d (.p _)⟩,by simp [V.ids]⟩
  ·exact plainOp_ok I h
 ·rename_i hn1 hn2 hn3
  split at h
  ·rename_i el hu
   have isnil:∀ u:V,isNilP u=true→u=.p (.pointer none):=fun u hu=>by
    unfold isNilP at hu
    split at hu
    ·rfl
    ·cases hu
   have two:(isRef (evalV σ x)&&isNilP (evalV σ y)||isNilP (evalV σ x)&&isRef (evalV σ y))=true→(∃ ad,a.eval x=.pointer (some ad)∧a.eval y=.pointer none)∨(∃ ad,a.eval x=.pointer none∧a.eval y=.pointer (some ad)):=by
    intro hb
    simp only [Bool.or_eq_true,Bool.and_eq_true] at hb
    rcases hb with ⟨h1,h2⟩ | ⟨h1,h2⟩
    ·obtain ⟨ad,e⟩:=ref_val h1 hx
     rw [isnil _ h2] at hy
     exact .inl ⟨ad,e,rep_p hy⟩
    ·obtain ⟨ad,e⟩:=ref_val h2 hy
     rw [isnil _ h1] at hx
     exact .inr ⟨ad,rep_p hx,e⟩
   split at h
   ·split at h
    ·rename_i hb
     simp at h;subst h
     rcases two hb with ⟨ad,ex,ey⟩ | ⟨ad,ex,ey⟩
     ·exact ⟨⟨_,binOp_exec ho (by rw [ex,ey];exact guard_ptr) (by rw [ex,ey];exact eql_run (equal_ptr1 hu _) (.inr ⟨_,_,rfl,rfl⟩)),.d (.p _)⟩,by simp [V.ids]⟩
     ·exact ⟨⟨_,binOp_exec ho (by rw [ex,ey];exact guard_ptr) (by rw [ex,ey];exact eql_run (equal_ptr2 hu _) (.inr ⟨_,_,rfl,rfl⟩)),.d (.p _)⟩,by simp [V.ids]⟩
    ·exact plainOp_ok I h
   ·split at h
    ·rename_i hb
     simp at h;subst h
     rcases two hb with ⟨ad,ex,ey⟩ | ⟨ad,ex,ey⟩
     ·exact ⟨⟨_,binOp_exec ho (by rw [ex,ey];exact guard_ptr) (by rw [ex,ey];exact neq_run (equal_ptr1 hu _) (.inr ⟨_,_,rfl,rfl⟩)),.d (.p _)⟩,by simp [V.ids]⟩
     ·exact ⟨⟨_,binOp_exec ho (by rw [ex,ey];exact guard_ptr) (by rw [ex,ey];exact neq_run (equal_ptr2 hu _) (.inr ⟨_,_,rfl,rfl⟩)),.d (.p _)⟩,by simp [V.ids]⟩
    ·exact plainOp_ok I h
   ·cases h
  ·rename_i fs hu
   split at h
   ·rename_i xs ys ex ey
    exact aggEq_ok I ho hu ex ey h
   ·exact plainOp_ok I h
  ·exact plainOp_ok I h
theorem conv_ok (I:Inv w0 fp S0 σ a w β S) {s d:TypeId} {x:Operand} {v:V} (ho:o.op=.convert s d x) (h:convV P σ o s d x=some v):POk P σ a w β S o v:=by
 unfold convV at h
 have hx:=evalV_rep I x
 split at h
 ·rename_i k n e1
  rw [e1] at hx
  have ex:=rep_p hx
  split at h<;>simp at h
  rename_i k0 k' h1 h2
  subst h
  refine ⟨⟨_,?_,.d (.p _)⟩,by simp [V.ids]⟩
  simp [execOp,ho,ex,convert,run_underlying h1,run_underlying h2,Conv.intToInt]
 ·exact plainOp_ok I h
theorem idsL_drop (n:Nat):∀ (cs:List V) (id:Nat),id∈V.idsL (cs.drop n)→id∈V.idsL cs:=by
 induction n with
 | zero=>intro cs id h;simpa using h
 | succ n ih =>
   intro cs id h
   cases cs with
   | nil=>simpa using h
   | cons c r=>rw [V.idsL];exact List.mem_append_right _ (ih r id (by simpa using h))
theorem field_ok (I:Inv w0 fp S0 σ a w β S) {t:TypeId} {x:Operand} {f:Nat} {v:V} (ho:o.op=.field t x f) (h:fieldV P σ o t x f=some v):POk P σ a w β S o v:=by
 unfold fieldV at h
 have hx:=evalV_rep I x
 have hcl:=evalV_closed I x
 split at h<;>try (cases h;done)
 rename_i cs fields e1 hu
 rw [e1] at hx hcl
 split at h<;>try (cases h;done)
 rename_i fd hf
 split at h<;>try (cases h;done)
 rename_i i dd hi hd
 generalize hv:a.eval x=xv at hx
 cases hx with
 | d hx=>cases hx
 | agg _ arr hs hone hc =>
   split at h
   ·rename_i ha
    split at h<;>simp at h
    rename_i hle
    subst h
    refine ⟨⟨.agg (arr.extract fd.offset (fd.offset+i.size)),?_,?_⟩,?_⟩
    ·simp [execOp,ho,Instr.field,run_underlying hu,hf,hv,asAgg,part,isAgg_run hd,ha,sizeOf,typeInfo,hi]
    ·refine .agg _ _ (by simp;omega) (fun v hv => ?_) fun j y v hy hv => ?_
     ·obtain ⟨j,hj⟩:=Array.getElem?_of_mem hv
      rw [Array.getElem?_extract] at hj
      split at hj<;>try (cases hj;done)
      exact hone v (Array.mem_of_getElem? hj)
     ·rw [List.getElem?_take] at hy
      split at hy<;>try (cases hy;done)
      rename_i hj
      rw [List.getElem?_drop] at hy
      rw [Array.getElem?_extract] at hv
      split at hv<;>try (cases hv;done)
      exact hc _ y v hy hv
    ·intro id hid
     rw [V.ids] at hid
     exact hcl id (by rw [V.ids];exact idsL_drop _ _ id (idsL_take _ _ id hid))
   ·rename_i ha
    have hlt:fd.offset<arr.size:=by rw [hs];exact (List.getElem?_eq_some_iff.1 h).1
    refine ⟨⟨arr[fd.offset],?_,hc _ v _ h (by simp [hlt])⟩,fun id hid=>hcl id (by rw [V.ids];exact idsL_mem h hid)⟩
    simp [execOp,ho,Instr.field,run_underlying hu,hf,hv,asAgg,part,isAgg_run hd,ha,hlt]
theorem arrIdx_ok (I:Inv w0 fp S0 σ a w β S) {t:TypeId} {x ix:Operand} {v:V} (ho:o.op=.index t x ix) (h:arrIdxV P σ o t x ix=some v):POk P σ a w β S o v:=by
 unfold arrIdxV at h
 have hx:=evalV_rep I x
 have hcl:=evalV_closed I x
 split at h
 ·rename_i cs k i len e e1 e2 hu
  rw [e1] at hx hcl
  have ei:a.eval ix=.int k i:=rep_p (e2▸evalV_rep I ix)
  split at h<;>try (cases h;done)
  rename_i inf dd hi hd
  split at h<;>try (cases h;done)
  rename_i hb
  split at h<;>try (cases h;done)
  rename_i ha
  split at h<;>try (cases h;done)
  rename_i h1
  generalize hv:a.eval x=xv at hx
  cases hx with
  | d hx=>cases hx
  | agg _ arr hs hone hc =>
    have hlt:i.toNat<arr.size:=by rw [hs];exact (List.getElem?_eq_some_iff.1 h).1
    refine ⟨⟨arr[i.toNat],?_,hc _ v _ h (by simp [hlt])⟩,fun id hid=>hcl id (by rw [V.ids];exact idsL_mem h hid)⟩
    simp [execOp,ho,Instr.index,run_underlying hu,hv,ei,asIntOf,hb,part,isAgg_run hd,ha,sizeOf,typeInfo,hi,h1,hlt]
 ·exact plainOp_ok I h
theorem extract_ok (I:Inv w0 fp S0 σ a w β S) {x:Operand} {i:Nat} {vs:List V} {v:V} (ho:o.op=.extract x i) (e1:evalV σ x=.tup vs) (h:vs[i]?=some v):POk P σ a w β S o v:=by
 have hx:=evalV_rep I x
 have hcl:=evalV_closed I x
 rw [e1] at hx hcl
 generalize hv:a.eval x=xv at hx
 cases hx with
 | d hx=>cases hx
 | tup _ arr hs hc =>
   have hlt:i<arr.size:=by rw [hs];exact (List.getElem?_eq_some_iff.1 h).1
   refine ⟨⟨arr[i],?_,hc _ v _ h (by simp [hlt])⟩,fun id hid=>hcl id (by rw [V.ids];exact idsL_mem h hid)⟩
   simp [execOp,ho,Instr.extract,hv,hlt]
theorem makeFunc_ok (I:Inv w0 fp S0 σ a w β S) {f:FuncId} {first captured:Array Operand} (ho:o.op=.makeFunc (.func f) first captured) (h:first.size=0) :
  POk P σ a w β S o (if captured.size=0 then .p (.func (.func f) #[] #[]) else .fn f (captured.toList.map (evalV σ))):=by
 have h1:first = #[]:=by simpa using h
 subst h1
 split
 ·rename_i h2
  have h2:captured = #[]:=by simpa using h2
  subst h2
  exact ⟨⟨_,by simp [execOp,ho,Instr.makeFunc],.d (.p _)⟩,by simp [V.ids]⟩
 ·refine ⟨⟨.func (.func f) #[] (captured.map a.eval),by simp [execOp,ho,Instr.makeFunc],.fn f _ _ (by simp) fun i x v hx hv => ?_⟩,?_⟩
  ·rw [List.getElem?_map,Option.map_eq_some_iff] at hx
   obtain ⟨y,hy,rfl⟩:=hx
   rw [Array.getElem?_map,Option.map_eq_some_iff] at hv
   obtain ⟨z,hz,rfl⟩:=hv
   have:y=z:=by
    have:captured[i]?=some y:=by simpa using hy
    rw [hz] at this;exact (Option.some.inj this).symm
   subst this
   exact evalV_rep I y
  ·intro id hid
   rw [V.ids] at hid
   generalize captured.toList=l at hid
   induction l with
   | nil=>simp [V.idsL] at hid
   | cons c r ih =>
     rw [List.map_cons,V.idsL] at hid
     rcases List.mem_append.1 hid with h | h
     ·exact evalV_closed I c id h
     ·exact ih h
theorem len_ok (I:Inv w0 fp S0 σ a w β S) {x:Operand} {t e:TypeId} {n:Nat} {args:Array Operand} {ts:Array TypeId} (ho:o.op=.call { callee:=.builtin .len,args:=args,argTypes:=ts })
  (ha:args.toList=[x]) (ht:ts.toList=[t]) (hu:P.underlying t=some (.slice e)) (h:lenV σ (evalV σ x)=some n):POk P σ a w β S o (.p (.int .i64 (n:Int))):=by
 obtain ⟨ad,c,hv,hc⟩:=len_rep I h (evalV_rep I x)
 have ha:args = #[x]:=by rw [←Array.toArray_toList (xs:=args),ha]
 have ht:ts = #[t]:=by rw [←Array.toArray_toList (xs:=ts),ht]
 subst ha ht
 refine ⟨⟨_,?_,.d (.p _)⟩,by simp [V.ids]⟩
 simp [execOp,ho,resolve,invoke,builtin,Builtin.len_,hv,run_underlying hu,goInt]
theorem min_run {k:IntKind}:∀ (r:List V) (x:Int) (v:Value) (l:List Value),minmaxGo false k x r=some v→l.length=r.length→(∀ (i:Nat) y z,r[i]?=some y→l[i]?=some z→Rep w β S y z)→(l.foldlM Builtin.min2 (.int k x)).run P w=.ok v w
 | [],x,v,l,h,hl,_=>by
   have:l=[]:=List.eq_nil_of_length_eq_zero (by simpa using hl)
   subst this
   simp [minmaxGo] at h;subst h;simp
 | c::r,x,v,l,h,hl,hr=>by
   unfold minmaxGo at h
   split at h<;>try (cases h;done)
   ·rename_i heq;cases heq
   ·rename_i k' b r' heq
    cases heq
    split at h<;>try (cases h;done)
    rename_i hk
    subst hk
    cases l with
    | nil=>simp at hl
    | cons z l =>
      have e:=rep_p (hr 0 (.p (.int k b)) z (by simp) (by simp))
      subst e
      have ih:=min_run r _ v l h (by simpa using hl) fun i y z hy hz=>hr (i+1) y z (by simpa using hy) (by simpa using hz)
      simpa [Builtin.min2] using ih
theorem max_run {k:IntKind}:∀ (r:List V) (x:Int) (v:Value) (l:List Value),minmaxGo true k x r=some v→l.length=r.length→(∀ (i:Nat) y z,r[i]?=some y→l[i]?=some z→Rep w β S y z)→(l.foldlM Builtin.max2 (.int k x)).run P w=.ok v w
 | [],x,v,l,h,hl,_=>by
   have:l=[]:=List.eq_nil_of_length_eq_zero (by simpa using hl)
   subst this
   simp [minmaxGo] at h;subst h;simp
 | c::r,x,v,l,h,hl,hr=>by
   unfold minmaxGo at h
   split at h<;>try (cases h;done)
   ·rename_i heq;cases heq
   ·rename_i k' b r' heq
    cases heq
    split at h<;>try (cases h;done)
    rename_i hk
    subst hk
    cases l with
    | nil=>simp at hl
    | cons z l =>
      have e:=rep_p (hr 0 (.p (.int k b)) z (by simp) (by simp))
      subst e
      have ih:=max_run r _ v l h (by simpa using hl) fun i y z hy hz=>hr (i+1) y z (by simpa using hy) (by simpa using hz)
      simpa [Builtin.max2] using ih
theorem args_rep (I:Inv w0 fp S0 σ a w β S) (l:List Operand):∀ (i:Nat) y z,(l.map (evalV σ))[i]?=some y→(l.map a.eval)[i]?=some z→Rep w β S y z:=fun i y z hy hz=>by
 rw [List.getElem?_map,Option.map_eq_some_iff] at hy hz
 obtain ⟨x,hx,rfl⟩:=hy
 obtain ⟨x',hx',rfl⟩:=hz
 rw [hx] at hx';cases hx'
 exact evalV_rep I x
theorem minmax_ok (I:Inv w0 fp S0 σ a w β S) {mx:Bool} {args:Array Operand} {ts:Array TypeId} {v:Value} (ho:o.op=.call { callee:=.builtin (if mx then .max else .min),args:=args,argTypes:=ts })
  (h:minmaxV mx (args.toList.map (evalV σ))=some v):POk P σ a w β S o (.p v):=by
 refine ⟨⟨v,?_,.d (.p v)⟩,by simp [V.ids]⟩
 unfold minmaxV at h
 split at h<;>try (cases h;done)
 rename_i k x r hr
 cases hargs:args.toList with
 | nil=>rw [hargs] at hr;simp at hr
 | cons c l =>
   rw [hargs] at hr
   simp only [List.map_cons,List.cons.injEq] at hr
   obtain ⟨h1,h2⟩:=hr
   have ec:a.eval c=.int k x:=rep_p (h1▸evalV_rep I c)
   have hrep:=args_rep I l
   rw [h2] at hrep
   cases mx with
   | false =>
     have:=min_run (P:=P) r x v (l.map a.eval) h (by rw [←h2];simp) hrep
     simp [execOp,ho,resolve,invoke,builtin,Builtin.min_,hargs,ec,this]
   | true =>
     have:=max_run (P:=P) r x v (l.map a.eval) h (by rw [←h2];simp) hrep
     simp [execOp,ho,resolve,invoke,builtin,Builtin.max_,hargs,ec,this]
end
end Go.Proofs.YtlelaenalbkbmaaDoorV