/- What it means that the interpreter's state tells the machine's: values,objects,what stays;and how one operation's effect keeps it. -/
import Derived.Test.YtlelaenalbkbmaaDoorHVi2
namespace Go.Proofs.YtlelaenalbkbmaaDoorV
open Go
set_option linter.unusedVariables false
set_option linter.unusedSimpArgs false
inductive RepD (w:World) (S:Nat→Prop):V→Value→Prop
 | p (v:Value):RepD w S (.p v) v
 | nil:RepD w S .nil (.slice none 0 0)
 | sl0 (m:Nat) (a:Option Addr) (c:Nat):RepD w S (.sl m []) (.slice a 0 c)
 | sl (m:Nat) (rows:List (List V)) (b off c:Nat) (g:Nat→Nat→Value) (hS:S b) (hc:rows.length≤c) (hw:∀ r∈rows,r.length=m)
   (h1:∀ k r j x,rows[k]?=some r→r[j]?=some x→w.cell? ⟨b,off+k * m+j,none⟩=some (g k j))
   (h2:∀ k r j x,rows[k]?=some r→r[j]?=some x→(g k j).oneCell'=true)
   (h3:∀ k r j x,rows[k]?=some r→r[j]?=some x→RepD w S x (g k j)) :
   RepD w S (.sl m rows) (.slice (some ⟨b,off,none⟩) rows.length c)
inductive Rep (w:World) (β:Nat→Value) (S:Nat→Prop):V→Value→Prop
 | d {x:V} {v:Value} (h:RepD w S x v):Rep w β S x v
 | agg (cs:List V) (arr:Array Value) (hs:arr.size=cs.length) (ho:∀ v∈arr,v.oneCell'=true)
   (h:∀ (i:Nat) x v,cs[i]?=some x→arr[i]?=some v→Rep w β S x v):Rep w β S (.agg cs) (.agg arr)
 | tup (cs:List V) (arr:Array Value) (hs:arr.size=cs.length)
   (h:∀ (i:Nat) x v,cs[i]?=some x→arr[i]?=some v→Rep w β S x v):Rep w β S (.tup cs) (.tuple arr)
 | fn (f:FuncId) (cs:List V) (arr:Array Value) (hs:arr.size=cs.length)
   (h:∀ (i:Nat) x v,cs[i]?=some x→arr[i]?=some v→Rep w β S x v):Rep w β S (.fn f cs) (.func (.func f) #[] arr)
 | rpt (cells:List V) (off b o:Nat) (g:Nat→Value) (hS:S b)
   (h1:∀ j x,cells[j]?=some x→w.cell? ⟨b,o+j,none⟩=some (g j)) (h2:∀ j x,cells[j]?=some x→(g j).oneCell'=true)
   (h3:∀ j x,cells[j]?=some x→RepD w S x (g j)):Rep w β S (.rpt cells off) (.pointer (some ⟨b,o+off,none⟩))
 | own (id:Nat) (ho:(β id).oneCell'=true):Rep w β S (.own id) (β id)
 | cut (id m off n g N C:Nat) (a:Option Addr) (c:Nat) (hβ:β id=.slice (some ⟨g,0,none⟩) N C) (hc:n≤c) (ha:off<N→a=some ⟨g,off * m,none⟩) (hr:N≤off+c) (hn:off+n≤N) (hK:off+c=C):Rep w β S (.cut id m off n) (.slice a n c)
 | cut0 (id m off N C:Nat) (a:Option Addr) (c:Nat) (ad:Option Addr) (hβ:β id=.slice ad N C) (hN:N≤off):Rep w β S (.cut id m off 0) (.slice a 0 c)
 | ptr (id off g:Nat) (hβ:β id=.pointer (some ⟨g,0,none⟩)):Rep w β S (.ptr id off) (.pointer (some ⟨g,off,none⟩))
 | ept (id m k j g N C:Nat) (hβ:β id=.slice (some ⟨g,0,none⟩) N C):Rep w β S (.ept id m k j) (.pointer (some ⟨g,k * m+j,none⟩))
 | yld (id l:Nat) (hβ:β id=.func (.yield l) #[] #[]):Rep w β S (.yld id) (.func (.yield l) #[] #[])
 | bsl (id m n g:Nat) (hβ:β id=.pointer (some ⟨g,0,none⟩)):Rep w β S (.bsl id m n) (.slice (some ⟨g,0,none⟩) n n)
 | bad (v:Value):Rep w β S .bad v
 | coin (b:Bool):Rep w β S .coin (.bool b)
theorem cell_of {w w':World} {a:Addr} (h:w'.heap[a.block]?=w.heap[a.block]?):w'.cell? a=w.cell? a:=by simp [World.cell?,h]
theorem RepD.mono {w w':World} {S S':Nat→Prop} (hw:∀ b,S b→w'.heap[b]?=w.heap[b]?) (hS:∀ b,S b→S' b) {x:V} {v:Value} (h:RepD w S x v):RepD w' S' x v:=by
 induction h with
 | p v=>exact .p v
 | nil=>exact .nil
 | sl0 m a c=>exact .sl0 m a c
 | sl m rows b off c g hSb hc hwd h1 h2 h3 ih=>exact .sl m rows b off c g (hS b hSb) hc hwd (fun k r j x hk hj=>(cell_of (hw b hSb)).trans (h1 k r j x hk hj)) h2 ih
theorem Rep.mono {w w':World} {β β':Nat→Value} {S S':Nat→Prop} (hw:∀ b,S b→w'.heap[b]?=w.heap[b]?) (hS:∀ b,S b→S' b) {x:V} {v:Value} (h:Rep w β S x v) :
  (∀ id∈x.ids,β' id=β id)→Rep w' β' S' x v:=by
 have mem:∀ (cs:List V) (i:Nat) (y:V),cs[i]?=some y→∀ id∈y.ids,id∈V.idsL cs:=by
  intro cs
  induction cs with
  | nil=>intro i y h;simp at h
  | cons c r ih =>
    intro i y h id hid
    rw [V.idsL]
    cases i with
    | zero=>simp at h;subst h;exact List.mem_append_left _ hid
    | succ i=>simp at h;exact List.mem_append_right _ (ih i y h id hid)
 induction h with
 | d h=>intro _;exact .d (h.mono hw hS)
 | agg cs arr hs ho h ih=>intro hβ;exact .agg cs arr hs ho fun i x v h1 h2=>ih i x v h1 h2 fun id hid=>hβ id (by rw [V.ids];exact mem cs i x h1 id hid)
 | tup cs arr hs h ih=>intro hβ;exact .tup cs arr hs fun i x v h1 h2=>ih i x v h1 h2 fun id hid=>hβ id (by rw [V.ids];exact mem cs i x h1 id hid)
 | fn f cs arr hs h ih=>intro hβ;exact .fn f cs arr hs fun i x v h1 h2=>ih i x v h1 h2 fun id hid=>hβ id (by rw [V.ids];exact mem cs i x h1 id hid)
 | rpt cells off b o g hSb h1 h2 h3=>intro _;exact .rpt cells off b o g (hS b hSb) (fun j x hj=>(cell_of (hw b hSb)).trans (h1 j x hj)) h2 (fun j x hj=>(h3 j x hj).mono hw hS)
 | own id ho=>intro hβ;rw [←hβ id (by simp [V.ids])] at ho ⊢;exact .own id ho
 | cut id m off n g N C a c h hc ha hr hn hK=>intro hβ;exact .cut id m off n g N C a c ((hβ id (by simp [V.ids])).trans h) hc ha hr hn hK
 | cut0 id m off N C a c ad h hN=>intro hβ;exact .cut0 id m off N C a c ad ((hβ id (by simp [V.ids])).trans h) hN
 | ptr id off g h=>intro hβ;exact .ptr id off g ((hβ id (by simp [V.ids])).trans h)
 | ept id m k j g N C h=>intro hβ;exact .ept id m k j g N C ((hβ id (by simp [V.ids])).trans h)
 | yld id l h=>intro hβ;exact .yld id l ((hβ id (by simp [V.ids])).trans h)
 | bsl id m n g h=>intro hβ;exact .bsl id m n g ((hβ id (by simp [V.ids])).trans h)
 | bad v=>intro _;exact .bad v
 | coin b=>intro _;exact .coin b
theorem idsL_mem {cs:List V} {i:Nat} {y:V} (h:cs[i]?=some y) {id:Nat} (hid:id∈y.ids):id∈V.idsL cs:=by
 induction cs generalizing i with
 | nil=>simp at h
 | cons c r ih =>
   rw [V.idsL]
   cases i with
   | zero=>simp at h;subst h;exact List.mem_append_left _ hid
   | succ i=>simp at h;exact List.mem_append_right _ (ih h)
def blk:Value→Option Nat
 | .pointer (some a)=>some a.block
 | .slice (some a) _ _=>some a.block
 | .func (.yield l) _ _=>some l
 | _=>none
def O.isOwn:O→Bool
 | .box .. => true
 | .row o .. => o
 | .tab .. => true
 | .lp .. => true
 | .dead=>false
def lpState:Nat→LoopState
 | 0=>.ready
 | 1=>.busy
 | 2=>.done
 | _=>.exhausted
def ORep (w:World) (β:Nat→Value) (S:Nat→Prop) (id:Nat):O→Prop
 | .box ty cells=>∃ g arr,β id=.pointer (some ⟨g,0,none⟩)∧w.heap[g]?=some (.cells arr ty (0,0))∧arr.size=cells.length∧(∀ v∈arr,v.oneCell'=true) ∧
   ∀ (i:Nat) x v,cells[i]?=some x→arr[i]?=some v→Rep w β S x v
 | .row _ m e rows=>0<m∧(∀ r∈rows,r.length=m)∧∃ xs,w.ownsRow 0 e m (β id) rows.length xs∧(∀ v∈xs,v.oneCell'=true) ∧
   ∀ (k:Nat) r (j:Nat) x,rows[k]?=some r→r[j]?=some x→∃ v,xs[k * m+j]?=some v∧RepD w S x v
 | .tab m e n cells=>0<m∧cells.length=n * m∧∃ xs,w.ownsRow 0 e m (β id) n xs∧(∀ v∈xs,v.oneCell'=true) ∧
   ∀ (i:Nat) x v,cells[i]?=some x→xs[i]?=some v→Rep w β S x v
 | .lp _ n F ps asg body st out=>∃ l r,β id=.func (.yield l) #[] #[]∧w.heap[l]?=some (.loop r)∧r.params.toList=ps∧r.assign=asg∧r.body=body∧r.state=lpState st∧r.pending=out.jump∧r.tmps.size=n ∧
   ∀ t,Rep w β S (getF F t) (r.tmps.getD t undef)
 | .dead=>True
theorem getF_ids {F:List (Nat×V)} {t id:Nat} (h:id∈(getF F t).ids):id∈V.idsL (F.map (·.2)):=by
 induction F with
 | nil=>simp [getF,V.ids] at h
 | cons q r ih =>
   obtain ⟨k,v⟩:=q
   simp only [getF] at h
   rw [List.map_cons,V.idsL]
   split at h
   ·exact List.mem_append_left _ h
   ·exact List.mem_append_right _ (ih h)
def Marks (w0 w:World) (S:Nat→Prop) (ds:List Deferred):Prop :=
 ∃ Ds:List Nat,ds=Ds.map (fun D=>{ target:=.collected D,args:=#[] })∧Ds.Nodup∧∀ D∈Ds,w0.heap.size≤D∧w.heap[D]?=some (.deferred (some []))∧¬S D
theorem Marks.nil {w0 w:World} {S:Nat→Prop}:Marks w0 w S []:=⟨[],rfl,List.nodup_nil,by simp⟩
theorem ownsRow_same {w w':World} {e:TypeId} {m:Nat} {v:Value} {n:Nat} {xs:List Value} (h:w.ownsRow 0 e m v n xs) (hb:∀ g,blk v=some g→w'.heap[g]?=w.heap[g]?):w'.ownsRow 0 e m v n xs:=by
 refine ⟨h.1,?_⟩
 rcases h.2 with h2 | ⟨g,cap,cur,hv,hg,hh,r⟩
 ·exact .inl h2
 ·refine .inr ⟨g,cap,cur,hv,hg,?_,r⟩
  rw [hb g (by rw [hv];rfl)]
  exact hh
theorem ownsRow_lt {w:World} {e:TypeId} {m:Nat} {v:Value} {n:Nat} {xs:List Value} (h:w.ownsRow 0 e m v n xs) {g:Nat} (hg:blk v=some g):g<w.heap.size:=by
 rcases h.2 with ⟨hv,_⟩ | ⟨g',cap,cur,hv,_,hh,_⟩
 ·rw [hv] at hg;cases hg
 ·rw [hv] at hg;cases hg
  exact (Array.getElem?_eq_some_iff.1 hh).1
theorem ORep.mono {w w':World} {β β':Nat→Value} {S S':Nat→Prop} (hw:∀ b,S b→w'.heap[b]?=w.heap[b]?) (hS:∀ b,S b→S' b) {id:Nat} {o:O} (h:ORep w β S id o)
  (hb:∀ g,blk (β id)=some g→o.isDead=false→w'.heap[g]?=w.heap[g]?) (hid:β' id=β id) (hβ:∀ i∈o.ids,β' i=β i):ORep w' β' S' id o:=by
 cases o with
 | box ty cells =>
   obtain ⟨g,arr,h1,h2,h3,h4,h5⟩:=h
   exact ⟨g,arr,hid.trans h1,(hb g (by rw [h1];rfl) rfl).trans h2,h3,h4,fun i x v hx hv=>(h5 i x v hx hv).mono hw hS fun i' hi'=>hβ i' (idsL_mem hx hi')⟩
 | row o m e rows =>
   obtain ⟨h0,h1,xs,h2,h3,h4⟩:=h
   refine ⟨h0,h1,xs,?_,h3,fun k r j x hk hj => ?_⟩
   ·rw [hid]
    exact ownsRow_same h2 fun g hg=>hb g hg rfl
   ·obtain ⟨v,hv,hr⟩:=h4 k r j x hk hj
    exact ⟨v,hv,hr.mono hw hS⟩
 | tab m e n cells =>
   obtain ⟨h0,h1,xs,h2,h3,h4⟩:=h
   refine ⟨h0,h1,xs,?_,h3,fun i x v hx hv=>(h4 i x v hx hv).mono hw hS fun i' hi'=>hβ i' (idsL_mem hx hi')⟩
   rw [hid]
   exact ownsRow_same h2 fun g hg=>hb g hg rfl
 | lp fn n F ps asg body st out =>
   obtain ⟨l,r,h1,h2,h3,h4,h5,h6,h7,h8,h9⟩:=h
   exact ⟨l,r,hid.trans h1,(hb l (by rw [h1];rfl) rfl).trans h2,h3,h4,h5,h6,h7,h8,fun t=>(h9 t).mono hw hS fun i hi=>hβ i (getF_ids hi)⟩
 | dead=>trivial
theorem own_cells {w:World} {β:Nat→Value} {S:Nat→Prop} {id:Nat} {o:O} (h:ORep w β S id o) (hown:o.isOwn=true) {g:Nat} (hg:blk (β id)=some g):g<w.heap.size∧w.heap[g]?≠some (.deferred (some [])):=by
 cases o with
 | box ty cells =>
   obtain ⟨g',arr,h1,h2,_⟩:=h
   rw [h1] at hg;cases hg
   exact ⟨(Array.getElem?_eq_some_iff.1 h2).1,by rw [h2];simp⟩
 | row o m e rows =>
   obtain ⟨_,_,xs,h2,_⟩:=h
   rcases h2.2 with ⟨hv,_⟩ | ⟨g',cap,cur,hv,_,hh,_⟩
   ·rw [hv] at hg;cases hg
   ·rw [hv] at hg;cases hg
    exact ⟨(Array.getElem?_eq_some_iff.1 hh).1,by rw [hh];simp⟩
 | tab m e n cells =>
   obtain ⟨_,_,xs,h2,_⟩:=h
   rcases h2.2 with ⟨hv,_⟩ | ⟨g',cap,cur,hv,_,hh,_⟩
   ·rw [hv] at hg;cases hg
   ·rw [hv] at hg;cases hg
    exact ⟨(Array.getElem?_eq_some_iff.1 hh).1,by rw [hh];simp⟩
 | lp fn n F ps asg body st out =>
   obtain ⟨l,r,h1,h2,_⟩:=h
   rw [h1] at hg;cases hg
   exact ⟨(Array.getElem?_eq_some_iff.1 h2).1,by rw [h2];simp⟩
 | dead=>cases hown
structure Base where
 S:Nat→Prop
 k:Nat
 β:Nat→Value
structure Inv (w0:World) (fp:Nat→Prop) (S0:Base) (σ:St) (a:Act) (w:World) (β:Nat→Value) (S:Nat→Prop):Prop where
 defers:Marks w0 w S a.defers
 size:a.tmps.size=σ.n
 slots:∀ t,Rep w β S (getF σ.F t) (a.tmps.getD t undef)
 objs:∀ id o,getM σ.M id=some o→ORep w β S id o
 own:∀ id o g,getM σ.M id=some o→o.isOwn=true→blk (β id)=some g→¬S g∧(fp g∨w0.heap.size≤g)
 fro:∀ id m e rows g,getM σ.M id=some (.row false m e rows)→blk (β id)=some g→S g
 inj:∀ i j o o' g,getM σ.M i=some o→getM σ.M j=some o'→o.isOwn=true→o'.isOwn=true→blk (β i)=some g→blk (β j)=some g→i=j
 closedF:∀ t,∀ id∈(getF σ.F t).ids,(getM σ.M id).isSome=true
 closedM:∀ i o,getM σ.M i=some o→∀ id∈o.ids,(getM σ.M id).isSome=true
 Slt:∀ b,S b→b<w.heap.size
 S0S:∀ b,S0.S b→S b
 SIn:∀ b,S b→S0.S b∨fp b∨w0.heap.size≤b
 ext:∀ i,i<S0.k→(getM σ.M (ExtB+i)).isSome=true∧β (ExtB+i)=S0.β i
 os:w.os=w0.os
 tape:w.tape=w0.tape
 output:w.output=w0.output
 grow:w0.heap.size≤w.heap.size
 kept:∀ b,b<w0.heap.size→¬fp b→w.heap[b]?=w0.heap[b]?
 laid:∀ g cs,lay g=some cs→V.idsL cs=[]∧∀ β,Rep w β S (.rpt cs 0) ((⟨#[],[]⟩:Act).eval (.global g))
theorem getM_append (u M:List (Nat×O)) (i:Nat):getM (u++M) i=match getM u i with | some o=>some o | none=>getM M i:=by
 induction u with
 | nil=>rfl
 | cons q r ih=>obtain ⟨k,o⟩:=q;simp only [List.cons_append,getM];split<;>simp_all
theorem getM_keys {u:List (Nat×O)} {i:Nat}:(getM u i).isSome=true↔i∈u.map (·.1):=by
 induction u with
 | nil=>simp [getM]
 | cons q r ih =>
   obtain ⟨k,o⟩:=q
   simp only [getM,List.map_cons,List.mem_cons]
   split
   ·rename_i h;simp [h]
   ·rename_i h;rw [ih];constructor
    ·exact .inr
    ·rintro (h2 | h2)
     ·exact absurd h2.symm h
     ·exact h2
structure UpdOk (w0:World) (fp:Nat→Prop) (σ:St) (w:World) (β:Nat→Value) (S:Nat→Prop) (v:V) (u:List (Nat×O)) (v':Value) (w':World) (β':Nat→Value) (S':Nat→Prop):Prop where
 new:∀ id,β' id=β id∨getM σ.M id=none
 os:w'.os=w.os
 tape:w'.tape=w.tape
 output:w'.output=w.output
 grow:w.heap.size≤w'.heap.size
 touch:∀ b,b<w.heap.size→w'.heap[b]?=w.heap[b]?∨∃ id o,getM σ.M id=some o∧o.isOwn=true∧blk (β id)=some b∧(getM u id).isSome=true
 S1:∀ b,S b→S' b
 S2:∀ b,S' b→b<w'.heap.size
 S4:∀ b,S' b→S b∨w.heap.size≤b∨∃ id o,getM σ.M id=some o∧o.isOwn=true∧blk (β id)=some b∧(getM u id).isSome=true
 objs:∀ id o,getM u id=some o→ORep w' β' S' id o
 own:∀ id o g,getM u id=some o→o.isOwn=true→blk (β' id)=some g→¬S' g∧(w.heap.size≤g∨∃ id o,getM σ.M id=some o∧o.isOwn=true∧blk (β id)=some g∧(getM u id).isSome=true)
 fro:∀ id m e rows g,getM u id=some (.row false m e rows)→blk (β' id)=some g→S' g
 inj:∀ i j o o' g,getM u i=some o→getM u j=some o'→o.isOwn=true→o'.isOwn=true→blk (β' i)=some g→blk (β' j)=some g→i=j
 closedM:∀ i o,getM u i=some o→∀ id∈o.ids,(getM u id).isSome=true∨(getM σ.M id).isSome=true
 rep:Rep w' β' S' v v'
 closedV:∀ id∈v.ids,(getM u id).isSome=true∨(getM σ.M id).isSome=true
theorem getD_set {α:Type} (a:Array α) (d t:Nat) (v x:α) (h:d<a.size):(a.setIfInBounds d v).getD t x=if d=t then v else a.getD t x:=by
 simp only [Array.getD_eq_getD_getElem?,Array.getElem?_setIfInBounds]
 split<;>simp_all
theorem Inv.upd {w0:World} {fp:Nat→Prop} {S0:Base} {σ:St} {a:Act} {w:World} {β:Nat→Value} {S:Nat→Prop} (I:Inv w0 fp S0 σ a w β S)
  {v:V} {u:List (Nat×O)} {v':Value} {w':World} {β':Nat→Value} {S':Nat→Prop} (U:UpdOk w0 fp σ w β S v u v' w' β' S') {dst:Option Nat} (hd:dstOk σ.n dst=true) :
  Inv w0 fp S0 (σ.put dst v u) (a.put dst v') w' β' S':=by
 have hSh:∀ b,S b→w'.heap[b]?=w.heap[b]?:=fun b hb=>by
  rcases U.touch b (I.Slt b hb) with h | ⟨id,o,h1,h2,h3,_⟩
  ·exact h
  ·exact absurd hb (I.own id o b h1 h2 h3).1
 have hβs:∀ id,(getM σ.M id).isSome=true→β' id=β id:=fun id h=>(U.new id).resolve_right fun e=>by rw [e] at h;cases h
 have hlift:∀ {x:V} {y:Value},Rep w β S x y→(∀ id∈x.ids,(getM σ.M id).isSome=true)→Rep w' β' S' x y:=fun h hc=>h.mono hSh U.S1 fun id hid=>hβs id (hc id hid)
 have fpOf:∀ id o g,getM σ.M id=some o→o.isOwn=true→blk (β id)=some g→fp g∨w0.heap.size≤g:=fun id o g h1 h2 h3=>(I.own id o g h1 h2 h3).2
 have objOf:∀ id o,getM u id=none→getM σ.M id=some o→ORep w' β' S' id o:=fun id o hu ho=>by
  refine (I.objs id o ho).mono hSh U.S1 (fun g hg hdead => ?_) (hβs id (by rw [ho];rfl)) fun i hi=>hβs i (I.closedM id o ho i hi)
  cases hown:o.isOwn with
  | true =>
    have hlt:g<w.heap.size:=(own_cells (I.objs id _ ho) hown hg).1
    rcases U.touch g hlt with h | ⟨id',o',h1,h2,h3,h4⟩
    ·exact h
    ·have:=I.inj id id' o o' g ho h1 hown h2 hg h3
     subst this
     rw [hu] at h4;cases h4
  | false =>
    cases o with
    | box ty cells=>cases hown
    | row o m e rows=>cases o with
      | true=>cases hown
      | false=>exact hSh g (I.fro id m e rows g ho hg)
    | tab=>cases hown
    | lp=>cases hown
    | dead=>cases hdead
 have keyOwn:∀ i o g,getM u i=none→getM σ.M i=some o→o.isOwn=true→blk (β i)=some g→g<w.heap.size:=fun id o g hu ho hown hg=>(own_cells (I.objs id _ ho) hown hg).1
 have hmark:Marks w0 w' S' a.defers:=by
  obtain ⟨Ds,h1,h2,h3⟩:=I.defers
  refine ⟨Ds,h1,h2,fun D hD => ?_⟩
  obtain ⟨m1,m2,m3⟩:=h3 D hD
  have hlt:D<w.heap.size:=(Array.getElem?_eq_some_iff.1 m2).1
  have hno:¬ ∃ id o,getM σ.M id=some o∧o.isOwn=true∧blk (β id)=some D∧(getM u id).isSome=true:=by
   rintro ⟨id,o,q1,q2,q3,_⟩
   exact (own_cells (I.objs id o q1) q2 q3).2 m2
  refine ⟨m1,((U.touch D hlt).resolve_right hno).trans m2,fun hS => ?_⟩
  rcases U.S4 D hS with q | q | q
  ·exact m3 q
  ·omega
  ·exact hno q
 refine { defers:=?_,size:=?_,slots:=?_,objs:=?_,own:=?_,fro:=?_,inj:=?_,closedF:=?_,closedM:=?_,Slt:=U.S2,S0S:=fun b h=>U.S1 b (I.S0S b h),SIn:=?_,ext:=?_,os:=U.os.trans I.os,tape:=U.tape.trans I.tape,output:=U.output.trans I.output,grow:=Nat.le_trans I.grow U.grow,kept:=?_,laid:=?_ }
 ·cases dst<;>exact hmark
 ·cases dst<;>simp [Act.put,St.put,I.size]
 ·intro t
  cases dst with
  | none=>exact hlift (I.slots t) (I.closedF t)
  | some d =>
    have hlt:d<a.tmps.size:=by rw [I.size];simpa [dstOk] using hd
    simp only [St.put,getF,Act.put,getD_set _ _ _ _ _ hlt]
    split
    ·exact U.rep
    ·exact hlift (I.slots t) (I.closedF t)
 ·intro id o ho
  simp only [St.put,getM_append] at ho
  cases hu:getM u id with
  | some o'=>simp only [hu] at ho;cases ho;exact U.objs id _ hu
  | none=>simp only [hu] at ho;exact objOf id o hu ho
 ·intro id o g ho hown hg
  simp only [St.put,getM_append] at ho
  cases hu:getM u id with
  | some o' =>
    simp only [hu] at ho;cases ho
    obtain ⟨h1,h2⟩:=U.own id _ g hu hown hg
    refine ⟨h1,?_⟩
    rcases h2 with h2 | ⟨i,o2,h3,h4,h5,_⟩
    ·exact .inr (Nat.le_trans I.grow h2)
    ·exact fpOf i o2 g h3 h4 h5
  | none =>
    simp only [hu] at ho
    rw [hβs id (by rw [ho];rfl)] at hg
    refine ⟨fun hS => ?_,fpOf id o g ho hown hg⟩
    rcases U.S4 g hS with h | h | ⟨i,o2,h3,h4,h5,h6⟩
    ·exact (I.own id o g ho hown hg).1 h
    ·have:=keyOwn id o g hu ho hown hg;omega
    ·have:=I.inj id i o o2 g ho h3 hown h4 hg h5
     subst this
     rw [hu] at h6;cases h6
 ·intro id m e rows g ho hg
  simp only [St.put,getM_append] at ho
  cases hu:getM u id with
  | some o'=>simp only [hu] at ho;cases ho;exact U.fro id m e rows g hu hg
  | none =>
    simp only [hu] at ho
    rw [hβs id (by rw [ho];rfl)] at hg
    exact U.S1 g (I.fro id m e rows g ho hg)
 ·have half:∀ i j o o' g,getM u i=some o→getM u j=none→getM σ.M j=some o'→o.isOwn=true→o'.isOwn=true→blk (β' i)=some g→blk (β' j)=some g→i=j:=by
   intro i j o o' g hui huj hj h1 h2 h3 h4
   rw [hβs j (by rw [hj];rfl)] at h4
   rcases (U.own i o g hui h1 h3).2 with h | ⟨k,o2,h5,h6,h7,h8⟩
   ·have:=keyOwn j o' g huj hj h2 h4;omega
   ·have:=I.inj j k o' o2 g hj h5 h2 h6 h4 h7
    subst this
    rw [huj] at h8;cases h8
  intro i j o o' g hi hj h1 h2 h3 h4
  simp only [St.put,getM_append] at hi hj
  cases hui:getM u i with
  | some oi =>
    simp only [hui] at hi;cases hi
    cases huj:getM u j with
    | some oj=>simp only [huj] at hj;cases hj;exact U.inj i j _ _ g hui huj h1 h2 h3 h4
    | none=>simp only [huj] at hj;exact half i j _ _ g hui huj hj h1 h2 h3 h4
  | none =>
    simp only [hui] at hi
    cases huj:getM u j with
    | some oj=>simp only [huj] at hj;cases hj;exact (half j i _ _ g huj hui hi h2 h1 h4 h3).symm
    | none =>
      simp only [huj] at hj
      rw [hβs i (by rw [hi];rfl)] at h3
      rw [hβs j (by rw [hj];rfl)] at h4
      exact I.inj i j o o' g hi hj h1 h2 h3 h4
 ·have some_of:∀ id,((getM u id).isSome=true∨(getM σ.M id).isSome=true)→(getM (u++σ.M) id).isSome=true:=fun id h=>by
   rw [getM_append];cases hu:getM u id with
   | some _=>rfl
   | none => rw [hu] at h;rcases h with h | h;· cases h
             exact h
  intro t id hid
  show (getM (u++σ.M) id).isSome=true
  cases dst with
  | none=>exact some_of id (.inr (I.closedF t id hid))
  | some d =>
    simp only [St.put,getF] at hid
    split at hid
    ·exact some_of id (U.closedV id hid)
    ·exact some_of id (.inr (I.closedF t id hid))
 ·intro i o ho id hid
  have some_of:∀ id,((getM u id).isSome=true∨(getM σ.M id).isSome=true)→(getM (u++σ.M) id).isSome=true:=fun id h=>by
   rw [getM_append];cases hu:getM u id with
   | some _=>rfl
   | none => rw [hu] at h;rcases h with h | h;· cases h
             exact h
  show (getM (u++σ.M) id).isSome=true
  simp only [St.put,getM_append] at ho
  cases hu:getM u i with
  | some o'=>simp only [hu] at ho;cases ho;exact some_of id (U.closedM i _ hu id hid)
  | none=>simp only [hu] at ho;exact some_of id (.inr (I.closedM i o ho id hid))
 ·intro b hb
  rcases U.S4 b hb with h | h | ⟨i,o2,h3,h4,h5,_⟩
  ·exact I.SIn b h
  ·exact .inr (.inr (Nat.le_trans I.grow h))
  ·exact .inr (fpOf i o2 b h3 h4 h5)
 ·intro i hi
  obtain ⟨h1,h2⟩:=I.ext i hi
  refine ⟨?_,(hβs _ h1).trans h2⟩
  show (getM (u++σ.M) (ExtB+i)).isSome=true
  rw [getM_append]
  cases hu:getM u (ExtB+i) with
  | some _=>rfl
  | none=>exact h1
 ·intro b hb hfp
  rcases U.touch b (Nat.lt_of_lt_of_le hb I.grow) with h | ⟨i,o2,h3,h4,h5,_⟩
  ·exact h.trans (I.kept b hb hfp)
  ·rcases fpOf i o2 b h3 h4 h5 with h | h
   ·exact absurd h hfp
   ·omega
 ·intro g cs h
  exact ⟨(I.laid g cs h).1,fun β1=>((I.laid g cs h).2 β1).mono hSh U.S1 (fun _ _=>rfl)⟩
end Go.Proofs.YtlelaenalbkbmaaDoorV