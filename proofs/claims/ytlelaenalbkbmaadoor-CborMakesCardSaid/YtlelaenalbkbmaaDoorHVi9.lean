/- The value interpreter: the operations that make or write memory. -/
import Derived.Test.YtlelaenalbkbmaaDoorHVi7
namespace Go.Proofs.YtlelaenalbkbmaaDoorV
open Go
set_option linter.unusedVariables false
set_option linter.unusedSimpArgs false
section
variable {P:Program} {w0:World} {fp:Nat→Prop} {S0:Base} {σ:St} {a:Act} {w:World} {β:Nat→Value} {S:Nat→Prop} {o:Oper}
def FF (ro:Option Nat):Fence:={ Fence.wide with round:=ro }
theorem room_ff (ro:Option Nat) (n:Nat):(FF ro).room n:=room_wide n
theorem value_not_defer {ρ:Operand→Value} {v:Value} {w':World} (h:(execOp ρ o).run P w=.ok (.value v) w'):∀ c,o.op≠.defer c:=by
 intro c hc
 simp only [execOp,hc,Sem.run_bind] at h
 cases hr:(resolve ρ c o.type).run P w<;>rw [hr] at h<;>simp [Result.andThen] at h
theorem skip_not_defer {ρ:Operand→Value} {w':World} (h:(execOp ρ o).run P w=.ok .skip w'):∀ c,o.op≠.defer c:=by
 intro c hc
 simp only [execOp,hc,Sem.run_bind] at h
 cases hr:(resolve ρ c o.type).run P w<;>rw [hr] at h<;>simp [Result.andThen] at h
def OpOk (P:Program) (w0:World) (fp:Nat→Prop) (S0:Base) (σ:St) (a:Act) (w:World) (o:Oper) (v:V) (u:List (Nat×O)):Prop :=
 ∀ (ro:Option Nat) (n:Nat) (K:Act→World→Prop) (Q:Exit→Act→World→Prop),(∀ a' w' β' S',Inv w0 fp S0 (σ.put o.dst v u) a' w' β' S'→K a' w')→o.wpIn (FF ro) n P a w K Q
theorem OpOk.value (I:Inv w0 fp S0 σ a w β S) {v:V} {u:List (Nat×O)} {v':Value} {w':World} {β':Nat→Value} {S':Nat→Prop} (hr:(execOp a.eval o).run P w=.ok (.value v') w') (U:UpdOk w0 fp σ w β S v u v' w' β' S')
  (hd:dstOk σ.n o.dst=true):OpOk P w0 fp S0 σ a w o v u:=fun ro n K Q h=>by
 refine ⟨fun _ _=>trivial,?_⟩
 rw [Oper.semAt_plain _ _ _ (value_not_defer hr),hr]
 exact h _ _ β' S' (I.upd U hd)
theorem OpOk.skip (I:Inv w0 fp S0 σ a w β S) {v:V} {u:List (Nat×O)} {w':World} {β':Nat→Value} {S':Nat→Prop} (hr:(execOp a.eval o).run P w=.ok .skip w') (U:UpdOk w0 fp σ w β S v u undef w' β' S')
  (hd:dstOk σ.n o.dst=true):OpOk P w0 fp S0 σ a w o v u:=fun ro n K Q h=>by
 refine ⟨fun _ _=>trivial,?_⟩
 rw [Oper.semAt_plain _ _ _ (skip_not_defer hr),hr]
 exact h _ _ β' S' (I.upd U hd)
theorem POk.op (I:Inv w0 fp S0 σ a w β S) {v:V} (h:POk P σ a w β S o v) (hd:dstOk σ.n o.dst=true):OpOk P w0 fp S0 σ a w o v []:=by
 obtain ⟨⟨v',h1,h2⟩,h3⟩:=h
 exact OpOk.value I h1 (UpdOk.pure I h2 h3) hd
theorem OpOk.frozen (I:Inv w0 fp S0 σ a w β S) {u1 fz:List (Nat×O)} (hu:FrzOk σ fz) {v:V}
  (h:Inv w0 fp S0 (σ.put none .bad fz) a w β (frS β S fz)→OpOk P w0 fp S0 (σ.put none .bad fz) a w o v u1):OpOk P w0 fp S0 σ a w o v (u1++fz):=fun ro n K Q hk=>by
 have I1:=I.upd (UpdOk.freeze I hu undef) (dst:=none) rfl
 refine h I1 ro n K Q fun a' w' β' S' I'=>hk a' w' β' S' ?_
 have:(σ.put none .bad fz).put o.dst v u1=σ.put o.dst v (u1++fz):=by simp [St.put]
 rwa [this] at I'
def ToldC (x y:V):Prop:=y=x∨(x=.nil∧∃ m,y=.sl m [])
def ToldL (r r':List V):Prop:=r'.length=r.length∧∀ (j:Nat) x,r'[j]?=some x→∃ y,r[j]?=some y∧ToldC y x
def ToldR (rows rows':List (List V)):Prop:=rows'.length=rows.length∧∀ (k:Nat) r',rows'[k]?=some r'→∃ r,rows[k]?=some r∧ToldL r r'
theorem ToldC.rep {S:Nat→Prop} {x y:V} {v:Value} (h:ToldC x y) (hr:RepD w S x v):RepD w S y v:=by
 rcases h with rfl | ⟨rfl,m,rfl⟩
 ·exact hr
 ·cases hr with
  | nil=>exact .sl0 m none 0
theorem ToldL.same (r:List V):ToldL r r:=⟨rfl,fun j x h=>⟨x,h,.inl rfl⟩⟩
theorem tell_told:∀ (ms:List Nat) (r:List V),ToldL r (tell ms r)
 | [],r=>by simp only [tell];exact ToldL.same r
 | m::ms,[]=>by simp only [tell];exact ToldL.same []
 | m::ms,v::r=>by
   obtain ⟨h1,h2⟩:=tell_told ms r
   simp only [tell]
   refine ⟨by simp [h1],fun j x hx => ?_⟩
   cases j with
   | zero =>
     simp at hx
     refine ⟨v,by simp,?_⟩
     subst hx
     unfold tell1
     split
     ·split
      ·exact .inl rfl
      ·exact .inr ⟨rfl,m,rfl⟩
     ·exact .inl rfl
   | succ j=>simp at hx;obtain ⟨y,h3,h4⟩:=h2 j x hx;exact ⟨y,by simpa using h3,h4⟩
theorem told_map (ms:List Nat) (rows:List (List V)):ToldR rows (rows.map (tell ms)):=⟨by simp,fun k r' h=>by
 rw [List.getElem?_map,Option.map_eq_some_iff] at h
 obtain ⟨r,h1,rfl⟩:=h
 exact ⟨r,h1,tell_told ms r⟩⟩
theorem told_set (ms:List Nat) (rows:List (List V)) (k:Nat) (r:List V):ToldR (rows.set k r) (rows.set k (tell ms r)):=⟨by simp,fun i r' h=>by
 rw [List.getElem?_set] at h ⊢
 split at h
 ·split at h
  ·cases h
   rename_i h1 h2
   rw [if_pos h1,if_pos h2]
   exact ⟨r,rfl,tell_told ms r⟩
  ·cases h
 ·rename_i h1
  rw [if_neg h1]
  exact ⟨r',h,ToldL.same r'⟩⟩
theorem Inv.told {d m:Nat} {e:TypeId} {rows rows':List (List V)} {M:List (Nat×O)} (I:Inv w0 fp S0 { σ with M:=(d,.row true m e rows)::M } a w β S) (ht:ToldR rows rows'):Inv w0 fp S0 { σ with M:=(d,.row true m e rows')::M } a w β S:=by
 have key:∀ id o',getM ((d,O.row true m e rows')::M) id=some o'→∃ o,getM ((d,O.row true m e rows)::M) id=some o∧o.isOwn=o'.isOwn∧o'.ids=o.ids∧(ORep w β S id o→ORep w β S id o')∧∀ m e rows,o'=.row false m e rows→o=o':=by
  intro id o' h
  simp only [getM] at h ⊢
  split at h
  ·rename_i h1
   cases h
   refine ⟨.row true m e rows,by rw [if_pos h1],rfl,rfl,fun hr => ?_,fun _ _ _ h=>by cases h⟩
   obtain ⟨r1,r2,xs,r3,r4,r5⟩:=hr
   refine ⟨r1,fun r hr => ?_,xs,by rw [ht.1];exact r3,r4,fun k r j x hk hj => ?_⟩
   ·obtain ⟨k,hk⟩:=List.getElem?_of_mem hr
    obtain ⟨r0,h2,h3⟩:=ht.2 k r hk
    rw [h3.1]
    exact r2 r0 (List.mem_of_getElem? h2)
   ·obtain ⟨r0,h2,h3⟩:=ht.2 k r hk
    obtain ⟨y,h4,h5⟩:=h3.2 j x hj
    obtain ⟨v,h6,h7⟩:=r5 k r0 j y h2 h4
    exact ⟨v,h6,h5.rep h7⟩
  ·rename_i h1
   exact ⟨o',by rw [if_neg h1];exact h,rfl,rfl,fun h=>h,fun _ _ _ _=>rfl⟩
 have some':∀ id,(getM ((d,O.row true m e rows)::M) id).isSome=true→(getM ((d,O.row true m e rows')::M) id).isSome=true:=by
  intro id h
  simp only [getM] at h ⊢
  split
  ·rfl
  ·rename_i h1
   rw [if_neg h1] at h
   exact h
 refine { defers:=I.defers,size:=I.size,slots:=I.slots,objs:=fun id o h => ?_,own:=fun id o g h h1 h2 => ?_,fro:=fun id m e rows g h h1 => ?_,inj:=fun i j o o' g h1 h2 h3 h4 h5 h6 => ?_,closedF:=fun t id hid=>some' id (I.closedF t id hid),closedM:=fun i o h id hid => ?_,Slt:=I.Slt,S0S:=I.S0S,SIn:=I.SIn,ext:=fun i hi=>⟨some' _ (I.ext i hi).1,(I.ext i hi).2⟩,os:=I.os,tape:=I.tape,output:=I.output,grow:=I.grow,kept:=I.kept,laid:=I.laid }
 ·obtain ⟨o0,k1,_,_,k4,_⟩:=key id o h
  exact k4 (I.objs id o0 k1)
 ·obtain ⟨o0,k1,k2,_,_,_⟩:=key id o h
  exact I.own id o0 g k1 (k2.trans h1) h2
 ·obtain ⟨o0,k1,_,_,_,k5⟩:=key id _ h
  have:=k5 m e rows rfl
  subst this
  exact I.fro id m e rows g k1 h1
 ·obtain ⟨o1,k1,k2,_,_,_⟩:=key i o h1
  obtain ⟨o2,l1,l2,_,_,_⟩:=key j o' h2
  exact I.inj i j o1 o2 g k1 l1 (k2.trans h3) (l2.trans h4) h5 h6
 ·obtain ⟨o0,k1,_,k3,_,_⟩:=key i o h
  exact some' id (I.closedM i o0 k1 id (k3▸hid))
theorem OpOk.told {d m:Nat} {e:TypeId} {rows rows':List (List V)} {rest:List (Nat×O)} {v:V} (h:OpOk P w0 fp S0 σ a w o v ((d,.row true m e rows)::rest)) (ht:ToldR rows rows'):OpOk P w0 fp S0 σ a w o v ((d,.row true m e rows')::rest):=fun ro n K Q hk =>
 h ro n K Q fun a' w' β' S' I'=>hk a' w' β' S' (Inv.told (σ:=σ.put o.dst v ((d,.row true m e rows)::rest)) (M:=rest++σ.M) I' ht)
theorem undef_rep:Rep w β S (.tup []) undef:=.tup [] #[] rfl (by simp)
theorem push_old (w:World) (o:Obj) {b:Nat} (h:b<w.heap.size):(w.heap.push o)[b]?=w.heap[b]?:=by
 rw [Array.getElem?_push,if_neg (by omega)]
theorem newBox (I:Inv w0 fp S0 σ a w β S) {d:Nat} {t:TypeId} {cs:List V} {zv:Value} (hd:o.dst=some d) (hM:getM σ.M d=none)
  (hr:(execOp a.eval o).run P w=.ok (.value (.pointer (some ⟨w.heap.size,0,none⟩))) { w with heap:=w.heap.push (.cells zv.cells t) })
  (hc:CRep w β S cs zv.cells.toList) (hcl:∀ id∈V.idsL cs,(getM σ.M id).isSome=true) (hdk:dstOk σ.n o.dst=true):OpOk P w0 fp S0 σ a w o (.ptr d 0) [(d,.box t cs)]:=by
 have hS:∀ b,S b→({ w with heap:=w.heap.push (.cells zv.cells t) }:World).heap[b]?=w.heap[b]?:=fun b hb=>push_old w _ (I.Slt b hb)
 refine OpOk.value I hr (UpdOk.create I hM (o:=.box t cs) (w':={ w with heap:=w.heap.push (.cells zv.cells t) }) (hv:=.pointer (some ⟨w.heap.size,0,none⟩)) rfl rfl rfl (by simp) (fun b hb=>push_old w _ hb) (fun g hg=>by cases hg;exact Nat.le_refl _) rfl ?_ ?_ ?_ ?_) hdk
 ·refine ⟨w.heap.size,zv.cells,upd_same _ _ _,by simp,by have:=hc.len;simpa using this,fun v hv=>hc.one v (by simpa using hv),fun i x v hx hv => ?_⟩
  refine (hc.rep i x v hx (by simpa using hv)).mono hS (fun _ h=>h) fun id hid=>upd_ne _ _ fun e => ?_
  have:=hcl id (idsL_mem hx hid)
  rw [e,hM] at this;cases this
 ·intro id hid;exact hcl id (by simpa [O.ids] using hid)
 ·exact .ptr d 0 w.heap.size (upd_same _ _ _)
 ·intro id hid;exact .inl (by simpa [V.ids] using hid)
theorem alloc_ok (I:Inv w0 fp S0 σ a w β S) {d:Nat} {t:TypeId} {v:V} {u:List (Nat×O)} (ho:o.op=.alloc t) (hd:o.dst=some d) (h:allocV P σ d t=some (v,u)) (hdk:dstOk σ.n o.dst=true):OpOk P w0 fp S0 σ a w o v u:=by
 unfold allocV at h
 split at h<;>try (cases h;done)
 rename_i i hi
 split at h<;>try (cases h;done)
 rename_i z hz
 split at h<;>simp at h
 rename_i hM
 obtain ⟨rfl,rfl⟩:=h
 obtain ⟨zv,h1,h2,h3,h4,h5,rfl⟩:=zeroRow_ok hz
 refine newBox I hd (by simpa using hM) (zv:=zv) ?_ (map_ofCell_rep _ (by simpa using h5)) (by simp [mapCell_ids]) hdk
 simp [execOp,ho,Instr.alloc,zeroValue,typeInfo,hi,h1,newVar,newRow]
theorem box_ok (I:Inv w0 fp S0 σ a w β S) {d:Nat} {t:TypeId} {x:Operand} {v:V} {u:List (Nat×O)} (ho:o.op=.box t x) (hd:o.dst=some d) (h:boxV σ d t (evalV σ x)=some (v,u)) (hdk:dstOk σ.n o.dst=true):OpOk P w0 fp S0 σ a w o v u:=by
 unfold boxV at h
 split at h<;>try (cases h;done)
 rename_i cs hcs
 split at h<;>simp at h
 rename_i hM
 obtain ⟨rfl,rfl⟩:=h
 refine newBox I hd (by simpa using hM) (zv:=a.eval x) ?_ (cellsOf_rep hcs (evalV_rep I x)) (fun id hid=>evalV_closed I x id (cellsOf_ids hcs id hid)) hdk
 simp [execOp,ho,Instr.box,newVar,newRow]
theorem elemI_ok {t e:TypeId} {i:TypeInfo} (h:elemI P t=some (e,i)):P.underlying t=some (.slice e)∧P.info? e=some i:=by
 unfold elemI at h
 split at h<;>simp at h
 rename_i e' hu
 obtain ⟨h1,rfl⟩:=h
 exact ⟨hu,h1⟩
theorem newRow (I:Inv w0 fp S0 σ a w β S) {d:Nat} {e:TypeId} {m:Nat} {rows:List (List V)} (hd:o.dst=some d) (hM:getM σ.M d=none) {hv:Value} {w':World}
  (hr:(execOp a.eval o).run P w=.ok (.value hv) w') (hos:w'.os=w.os) (htape:w'.tape=w.tape) (hout:w'.output=w.output)
  (hgrow:w.heap.size≤w'.heap.size) (hh:∀ b,b<w.heap.size→w'.heap[b]?=w.heap[b]?) (hblk:∀ g,blk hv=some g→w.heap.size≤g) (h1c:hv.oneCell'=true)
  (hrow:0<m∧(∀ r∈rows,r.length=m)∧∃ xs,w'.ownsRow 0 e m hv rows.length xs∧(∀ v∈xs,v.oneCell'=true)∧∀ (k:Nat) r (j:Nat) x,rows[k]?=some r→r[j]?=some x→∃ v,xs[k * m+j]?=some v∧RepD w S x v)
  (hdk:dstOk σ.n o.dst=true):OpOk P w0 fp S0 σ a w o (.own d) [(d,.row true m e rows)]:=by
 have hS:∀ b,S b→w'.heap[b]?=w.heap[b]?:=fun b hb=>hh b (I.Slt b hb)
 obtain ⟨q1,q2,xs,q3,q4,q5⟩:=hrow
 refine OpOk.value I hr (UpdOk.create I hM (o:=.row true m e rows) hos htape hout hgrow hh hblk rfl ⟨q1,q2,xs,by rw [upd_same];exact q3,q4,fun k r j x h1 h2 => ?_⟩ (fun id hid=>by cases hid) ?_ ?_) hdk
 ·obtain ⟨v,hv,hx⟩:=q5 k r j x h1 h2
  exact ⟨v,hv,hx.mono hS fun _ h=>h⟩
 ·have:=Rep.own (w:=w') (β:=upd β d hv) (S:=S) d (by rw [upd_same];exact h1c)
  rwa [upd_same] at this
 ·intro id hid;exact .inl (by simpa [V.ids] using hid)
theorem made_get (z:Array Value) (n j:Nat) (hj:j<n) (hz:0<z.size):(madeCells z n).toList[j]?=some (z[j % z.size]'(Nat.mod_lt _ hz)):=by
 simp [madeCells,hj,Nat.mod_lt _ hz]
theorem make_ok (I:Inv w0 fp S0 σ a w β S) {d:Nat} {t:TypeId} {l c:Operand} {v:V} {u:List (Nat×O)} (ho:o.op=.makeSlice t l c) (hd:o.dst=some d) (h:makeV P σ d t (evalV σ l) (evalV σ c)=some (v,u)) (hdk:dstOk σ.n o.dst=true):OpOk P w0 fp S0 σ a w o v u:=by
 unfold makeV at h
 split at h<;>try (cases h;done)
 rename_i e i L C he hL hC
 obtain ⟨hu,hi⟩:=elemI_ok he
 split at h<;>try (cases h;done)
 rename_i z hz
 split at h<;>simp at h
 rename_i hcond
 obtain ⟨c1,c2,c3,c4⟩:=hcond
 obtain ⟨rfl,rfl⟩:=h
 have hrep':List.replicate L.toNat (tell (slotMs P 8 e) z)=(List.replicate L.toNat z).map (tell (slotMs P 8 e)):=List.map_replicate.symm
 rw [hrep']
 refine OpOk.told ?_ (told_map _ _)
 obtain ⟨zv,h1,h2,h3,h4,h5,rfl⟩:=zeroRow_ok hz
 have intA:∀ {x:Operand} {n:Int},intArg (evalV σ x)=some n→∃ k,a.eval x=.int k n:=by
  intro x n hx
  unfold intArg at hx
  split at hx<;>simp at hx
  subst hx
  rename_i k n e1
  exact ⟨k,rep_p (e1▸evalV_rep I x)⟩
 obtain ⟨kl,el⟩:=intA hL
 obtain ⟨kc,ec⟩:=intA hC
 obtain ⟨L,rfl⟩:=Int.eq_ofNat_of_zero_le c1
 obtain ⟨C,rfl⟩:=Int.eq_ofNat_of_zero_le (Int.le_trans c1 c2)
 have hCb:C * i.bytes≤140737488351232:=by
  have:((C * i.bytes:Nat):Int)≤(140737488351232:Nat):=by simpa [roomy] using c3
  omega
 have hC:C≤140737488351232:=Nat.le_trans (Nat.le_mul_of_pos_right _ h4) hCb
 have hbb:(i.bytes:Int) * (C:Int)≤281474976710656:=by
  have:((i.bytes * C:Nat):Int)≤281474976710656:=by rw [Nat.mul_comm];omega
  rwa [Int.natCast_mul] at this
 have hrun:=run_make (P:=P) w t e i zv hu hi h1 kl kc (L:Int) (C:Int) (by omega) c2 hbb (by omega)
 simp only [Int.toNat_natCast] at hrun
 have hsz:(madeCells zv.cells (C * i.size)).size=C * i.size:=size_madeCells _ _
 refine newRow I hd (by simpa using c4) (hv:=.slice (some ⟨w.heap.size,0,none⟩) L C) (w':=w.alloc (.cells (madeCells zv.cells (C * i.size)) e)) (by simp [execOp,ho,el,ec,hrun]) rfl rfl rfl (by simp) (fun b hb=>push_old w _ hb) (fun g hg=>by cases hg;exact Nat.le_refl _) rfl ?_ hdk
 have hlen:(List.replicate (L:Int).toNat (zv.cells.toList.map ofCell)).length=L:=by simp
 have hLC:L≤C:=by omega
 refine ⟨h3,fun r hr => ?_,(madeCells zv.cells (C * i.size)).toList.take (L * i.size),?_,?_,?_⟩
 ·rw [(List.mem_replicate.1 hr).2];simpa using h2
 ·rw [hlen]
  refine ⟨?_,.inr ⟨w.heap.size,C,madeCells zv.cells (C * i.size),rfl,Nat.zero_le _,heap_alloc_new w _,hLC,by simp only [maxLen];omega,hsz,rfl⟩⟩
  rw [List.length_take,Array.length_toList,hsz]
  exact Nat.min_eq_left (Nat.mul_le_mul_right _ hLC)
 ·intro v hv
  have hv:=List.mem_of_mem_take hv
  obtain ⟨j,hj,rfl⟩:=List.mem_iff_getElem.1 hv
  have hj':j<C * i.size:=by simpa [hsz] using hj
  have:=made_get zv.cells (C * i.size) j hj' (by omega)
  rw [List.getElem?_eq_getElem hj] at this
  rw [Option.some.inj this]
  exact h5 _ (by simp)
 ·intro k r j x hk hj
  have hk1:k<L:=by have:=(List.getElem?_eq_some_iff.1 hk).1;simpa using this
  have hr:r=zv.cells.toList.map ofCell:=by
   have:=(List.getElem?_eq_some_iff.1 hk).2
   rw [←this];simp
  subst hr
  rw [List.getElem?_map,Option.map_eq_some_iff] at hj
  obtain ⟨y,hy,rfl⟩:=hj
  have hjm:j<i.size:=by have:=(List.getElem?_eq_some_iff.1 hy).1;simpa [h2] using this
  have hlt:k * i.size+j<L * i.size:=by
   have:(k+1) * i.size≤L * i.size:=Nat.mul_le_mul_right _ hk1
   rw [Nat.add_mul] at this;omega
  have hlt2:k * i.size+j<C * i.size:=Nat.lt_of_lt_of_le hlt (Nat.mul_le_mul_right _ hLC)
  refine ⟨y,?_,ofCell_rep y⟩
  rw [List.getElem?_take,if_pos hlt,made_get zv.cells _ _ hlt2 (by omega)]
  have hmod:(k * i.size+j) % zv.cells.size=j:=by
   rw [h2,Nat.add_comm,Nat.add_mul_mod_self_right]
   exact Nat.mod_eq_of_lt hjm
  have hy2:zv.cells[j]?=some y:=by simpa using hy
  obtain ⟨hb,hyy⟩:=Array.getElem?_eq_some_iff.1 hy2
  simp only [hmod,hyy]
theorem setRow_size (w:World) (g:Nat) (cs:Array Value):(w.setRow g cs).heap.size=w.heap.size:=by simp [World.setRow]
theorem store_box (I:Inv w0 fp S0 σ a w β S) {t:TypeId} {x y:Operand} {id off:Nat} {ty:TypeId} {cells ns:List V} {i:TypeInfo} (ho:o.op=.store t x y) (hi:P.info? t=some i) (hns:cellsOf (evalV σ y)=some ns) (hlen:ns.length=i.size)
  (hx:evalV σ x=.ptr id off) (hM:getM σ.M id=some (.box ty cells)) (hfit:off+ns.length≤cells.length) (hdk:dstOk σ.n o.dst=true):OpOk P w0 fp S0 σ a w o (.tup []) [(id,.box ty (overlay cells off ns))]:=by
 obtain ⟨g,arr,hβ,hg,hsz,hone,hrep⟩:=I.objs id _ hM
 have hxv:a.eval x=.pointer (some ⟨g,off,none⟩):=by
  have:=evalV_rep I x
  rw [hx] at this
  generalize a.eval x=xv at this
  cases this with
  | d h=>cases h
  | ptr _ _ g' h=>rw [hβ] at h;cases h;rfl
 have hv:=cellsOf_rep hns (evalV_rep I y)
 have hc:CRep w β S cells arr.toList:=⟨by simpa using hsz,fun v hv=>hone v (by simpa using hv),fun i x v hx hv=>hrep i x v hx (by simpa using hv)⟩
 have hvl:(a.eval y).cells.size=i.size:=by have:=hv.len;simp at this;omega
 have hst:=run_storeCells_at P g off ty (a.eval y).cells.toList 0 arr w hg (by simp;rw [hvl,hsz];omega) hv.one
 simp only [Nat.add_zero] at hst
 refine OpOk.skip I (w':=w.setRow g (arr.toList.take off++(a.eval y).cells.toList++arr.toList.drop (off+(a.eval y).cells.toList.length)).toArray) ?_ (UpdOk.write I hM (o1:=.box ty (overlay cells off ns)) (w':=w.setRow g (arr.toList.take off++(a.eval y).cells.toList++arr.toList.drop (off+(a.eval y).cells.toList.length)).toArray) rfl rfl rfl rfl rfl (setRow_size _ _ _) (fun b hb=>setRow_other w g b _ fun e=>hb (by rw [hβ,e];rfl)) ?_ ?_ undef_rep (by simp [V.ids,V.idsL])) hdk
 ·simp [execOp,ho,Instr.storeAt,hxv,Instr.sureAddr,storeVar,sizeOf,typeInfo,hi,hvl,hst]
 ·have hov:=hc.overlay hv (by rw [←hc.len] at hfit;simpa [hc.len] using hfit)
  have hSh:∀ b,S b→(w.setRow g (arr.toList.take off++(a.eval y).cells.toList++arr.toList.drop (off+(a.eval y).cells.toList.length)).toArray).heap[b]?=w.heap[b]?:=fun b hb=>setRow_other w g b _ fun e=>(I.own id _ g hM rfl (by rw [hβ];rfl)).1 (e▸hb)
  refine ⟨g,_,hβ,setRow_heap w g arr _ ty _ hg,?_,?_,?_⟩
  ·have:=hov.len;simpa [List.append_assoc] using this
  ·intro v hv;exact hov.one v (by simpa [List.append_assoc] using hv)
  ·intro i x v hx hv
   exact (hov.rep i x v hx (by simpa [List.append_assoc] using hv)).mono hSh (fun _ h=>h) fun _ _=>rfl
 ·intro i hid
  simp only [O.ids,overlay] at hid
  have app:∀ (a b:List V) (id:Nat),id∈V.idsL (a++b)→id∈V.idsL a∨id∈V.idsL b:=by
   intro a
   induction a with
   | nil=>intro b id h;exact .inr h
   | cons c r ih =>
     intro b id h
     rw [List.cons_append,V.idsL] at h
     rw [V.idsL]
     rcases List.mem_append.1 h with h | h
     ·exact .inl (List.mem_append_left _ h)
     ·exact (ih b id h).imp (List.mem_append_right _) (fun h=>h)
  rcases app _ _ _ hid with h | h
  ·exact I.closedM id _ hM i (by rw [O.ids];exact idsL_take _ _ _ h)
  ·rcases app _ _ _ h with h | h
   ·exact evalV_closed I y i (cellsOf_ids hns i h)
   ·exact I.closedM id _ hM i (by rw [O.ids];exact idsL_drop _ _ _ h)
end
end Go.Proofs.YtlelaenalbkbmaaDoorV