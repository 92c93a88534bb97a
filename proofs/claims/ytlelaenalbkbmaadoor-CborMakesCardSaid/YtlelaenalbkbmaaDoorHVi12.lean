/- The value interpreter: numbers told otherwise,and what is asked of a call. -/
import Derived.Test.YtlelaenalbkbmaaDoorHVi11
namespace Go.Proofs.YtlelaenalbkbmaaDoorV
open Go
set_option linter.unusedVariables false
set_option linter.unusedSimpArgs false
mutual
theorem ids_ren (f:Nat→Nat):∀ x:V,(V.ren f x).ids=x.ids.map f
 | .own id=>by simp [V.ren,V.ids]
 | .cut id m o n=>by simp [V.ren,V.ids]
 | .ptr id o=>by simp [V.ren,V.ids]
 | .ept id m k j=>by simp [V.ren,V.ids]
 | .agg cs=>by simp [V.ren,V.ids,idsL_renL f cs]
 | .tup cs=>by simp [V.ren,V.ids,idsL_renL f cs]
 | .fn g cs=>by simp [V.ren,V.ids,idsL_renL f cs]
 | .yld id=>by simp [V.ren,V.ids]
 | .bsl id m n=>by simp [V.ren,V.ids]
 | .p v=>by simp [V.ren,V.ids]
 | .nil=>by simp [V.ren,V.ids]
 | .sl m rows=>by simp [V.ren,V.ids]
 | .rpt cs o=>by simp [V.ren,V.ids]
 | .bad=>by simp [V.ren,V.ids]
 | .coin=>by simp [V.ren,V.ids]
theorem idsL_renL (f:Nat→Nat):∀ l:List V,V.idsL (V.renL f l)=(V.idsL l).map f
 | []=>by simp [V.renL,V.idsL]
 | x::r=>by simp [V.renL,V.idsL,ids_ren f x,idsL_renL f r]
end
theorem renL_map (f:Nat→Nat) (l:List V):V.renL f l=l.map (V.ren f):=by
 induction l with
 | nil=>rfl
 | cons c r ih=>simp [V.renL,ih]
theorem renF_snd (f:Nat→Nat) (F:List (Nat×V)):(F.map fun q=>(q.1,q.2.ren f)).map (·.2)=V.renL f (F.map (·.2)):=by
 rw [renL_map,List.map_map,List.map_map];rfl
theorem getF_renF (f:Nat→Nat) (F:List (Nat×V)) (t:Nat):getF (F.map fun q=>(q.1,q.2.ren f)) t=(getF F t).ren f:=by
 induction F with
 | nil=>rfl
 | cons q r ih=>obtain ⟨k,v⟩:=q;simp only [List.map_cons,getF];split<;>simp_all
theorem oids_ren (f:Nat→Nat) (o:O):(o.ren f).ids=o.ids.map f:=by
 cases o with
 | lp fn n F ps asg body st out=>simp only [O.ren,O.ids];rw [renF_snd,idsL_renL]
 | _=>simp [O.ren,O.ids,idsL_renL]
theorem isOwn_ren (f:Nat→Nat) (o:O):(o.ren f).isOwn=o.isOwn:=by cases o<;>rfl
theorem isDead_ren (f:Nat→Nat) (o:O):(o.ren f).isDead=o.isDead:=by cases o<;>rfl
section
variable {P:Program} {w0:World} {fp:Nat→Prop} {S0:Base} {σ:St} {a:Act} {w:World} {β:Nat→Value} {S:Nat→Prop} {o:Oper}
theorem repD_ren {x:V} {v:Value} (h:RepD w S x v) (f:Nat→Nat):x.ren f=x:=by cases h<;>simp [V.ren]
theorem Rep.ren {β':Nat→Value} (f:Nat→Nat) {x:V} {v:Value} (h:Rep w β S x v):(∀ id∈x.ids,β' (f id)=β id)→Rep w β' S (x.ren f) v:=by
 induction h with
 | d h=>intro _;rw [repD_ren h];exact .d h
 | agg cs arr hs ho h ih =>
   intro hβ
   rw [V.ren,renL_map]
   refine .agg _ arr (by simpa using hs) ho fun i x v h1 h2 => ?_
   rw [List.getElem?_map,Option.map_eq_some_iff] at h1
   obtain ⟨y,hy,rfl⟩:=h1
   exact ih i y v hy h2 fun id hid=>hβ id (by rw [V.ids];exact idsL_mem hy hid)
 | tup cs arr hs h ih =>
   intro hβ
   rw [V.ren,renL_map]
   refine .tup _ arr (by simpa using hs) fun i x v h1 h2 => ?_
   rw [List.getElem?_map,Option.map_eq_some_iff] at h1
   obtain ⟨y,hy,rfl⟩:=h1
   exact ih i y v hy h2 fun id hid=>hβ id (by rw [V.ids];exact idsL_mem hy hid)
 | fn g cs arr hs h ih =>
   intro hβ
   rw [V.ren,renL_map]
   refine .fn g _ arr (by simpa using hs) fun i x v h1 h2 => ?_
   rw [List.getElem?_map,Option.map_eq_some_iff] at h1
   obtain ⟨y,hy,rfl⟩:=h1
   exact ih i y v hy h2 fun id hid=>hβ id (by rw [V.ids];exact idsL_mem hy hid)
 | rpt cells off b o g hSb h1 h2 h3=>intro _;rw [V.ren];exact .rpt cells off b o g hSb h1 h2 h3
 | own id ho=>intro hβ;rw [V.ren];rw [←hβ id (by simp [V.ids])] at ho ⊢;exact .own (f id) ho
 | cut id m off n g N C a c h hc ha hr hn hK=>intro hβ;rw [V.ren];exact .cut (f id) m off n g N C a c ((hβ id (by simp [V.ids])).trans h) hc ha hr hn hK
 | cut0 id m off N C a c ad h hN=>intro hβ;rw [V.ren];exact .cut0 (f id) m off N C a c ad ((hβ id (by simp [V.ids])).trans h) hN
 | ptr id off g h=>intro hβ;rw [V.ren];exact .ptr (f id) off g ((hβ id (by simp [V.ids])).trans h)
 | ept id m k j g N C h=>intro hβ;rw [V.ren];exact .ept (f id) m k j g N C ((hβ id (by simp [V.ids])).trans h)
 | yld id l h=>intro hβ;rw [V.ren];exact .yld (f id) l ((hβ id (by simp [V.ids])).trans h)
 | bsl id m n g h=>intro hβ;rw [V.ren];exact .bsl (f id) m n g ((hβ id (by simp [V.ids])).trans h)
 | bad v=>intro _;rw [V.ren];exact .bad v
 | coin b=>intro _;rw [V.ren];exact .coin b
theorem ORep.ren {β':Nat→Value} (f:Nat→Nat) {id:Nat} {o:O} (h:ORep w β S id o) (hid:β' (f id)=β id) (hβ:∀ i∈o.ids,β' (f i)=β i):ORep w β' S (f id) (o.ren f):=by
 cases o with
 | box ty cells =>
   obtain ⟨g,arr,h1,h2,h3,h4,h5⟩:=h
   refine ⟨g,arr,hid.trans h1,h2,by rw [renL_map];simpa using h3,h4,fun i x v hx hv => ?_⟩
   rw [renL_map,List.getElem?_map,Option.map_eq_some_iff] at hx
   obtain ⟨y,hy,rfl⟩:=hx
   exact (h5 i y v hy hv).ren f fun id hid=>hβ id (by rw [O.ids];exact idsL_mem hy hid)
 | row o m e rows =>
   obtain ⟨h0,h1,xs,h2,h3,h4⟩:=h
   exact ⟨h0,h1,xs,by rw [hid];exact h2,h3,h4⟩
 | tab m e n cells =>
   obtain ⟨h0,h1,xs,h2,h3,h4⟩:=h
   refine ⟨h0,by rw [renL_map];simpa using h1,xs,by rw [hid];exact h2,h3,fun i x v hx hv => ?_⟩
   rw [renL_map,List.getElem?_map,Option.map_eq_some_iff] at hx
   obtain ⟨y,hy,rfl⟩:=hx
   exact (h4 i y v hy hv).ren f fun id hid=>hβ id (by rw [O.ids];exact idsL_mem hy hid)
 | lp fn n F ps asg body st out =>
   obtain ⟨l,r,h1,h2,h3,h4,h5,h6,h7,h8,h9⟩:=h
   refine ⟨l,r,hid.trans h1,h2,h3,h4,h5,h6,h7,h8,fun t => ?_⟩
   rw [getF_renF]
   exact (h9 t).ren f fun i hi=>hβ i (getF_ids hi)
 | dead=>trivial
theorem getF_params:∀ (l:List V) (s t:Nat),getF (params s l) t=if s≤t then (l[t - s]?).getD .bad else .bad
 | [],s,t=>by simp [params,getF]
 | x::r,s,t=>by
   simp only [params,getF]
   by_cases h:s=t
   ·subst h;simp
   ·rw [if_neg h,getF_params r (s+1) t]
    by_cases h2:s≤t
    ·rw [if_pos h2,if_pos (by omega)]
     rw [show t - s=(t - (s+1))+1 from by omega,List.getElem?_cons_succ]
    ·rw [if_neg h2,if_neg (by omega)]
theorem getM_idxs:∀ (l:List O) (s t:Nat),getM (idxs s l) t=if s≤t then l[t - s]? else none
 | [],s,t=>by simp [idxs,getM]
 | x::r,s,t=>by
   simp only [idxs,getM]
   by_cases h:s=t
   ·subst h;simp
   ·rw [if_neg h,getM_idxs r (s+1) t]
    by_cases h2:s≤t
    ·rw [if_pos h2,if_pos (by omega)]
     rw [show t - s=(t - (s+1))+1 from by omega,List.getElem?_cons_succ]
    ·rw [if_neg h2,if_neg (by omega)]
theorem objsOf_get {M:List (Nat×O)}:∀ (ids:List Nat) (objs:List O),objsOf M ids=some objs→objs.length=ids.length∧∀ (i:Nat) id,ids[i]?=some id→∃ o,objs[i]?=some o∧getM M id=some o
 | [],objs,h=>by simp [objsOf] at h;subst h;simp
 | x::r,objs,h=>by
   simp only [objsOf] at h
   split at h<;>simp at h
   rename_i o l h1 h2
   subst h
   obtain ⟨e1,e2⟩:=objsOf_get r l h2
   refine ⟨by simp [e1],fun i id hi => ?_⟩
   cases i with
   | zero=>simp at hi;subst hi;exact ⟨o,rfl,h1⟩
   | succ i=>simp at hi;simpa using e2 i id hi
theorem idxOf_get:∀ (l:List Nat) (x:Nat),l.contains x=true→∃ k,idxOf l x=some k∧l[k]?=some x
 | [],x,h=>by simp at h
 | y::r,x,h=>by
   simp only [idxOf]
   by_cases e:y=x
   ·subst e;exact ⟨0,by simp,rfl⟩
   ·rw [if_neg e]
    have hr:r.contains x=true:=by
     simp only [List.contains_cons,Bool.or_eq_true,beq_iff_eq] at h
     rcases h with h | h
     ·exact absurd h.symm e
     ·exact h
    obtain ⟨k,h1,h2⟩:=idxOf_get r x hr
    exact ⟨k+1,by simp [h1],by simpa using h2⟩
theorem nodup_get:∀ (l:List Nat),nodupB l=true→∀ (i j:Nat) x,l[i]?=some x→l[j]?=some x→i=j
 | [],_,i,j,x,hi,_=>by simp at hi
 | y::r,h,i,j,x,hi,hj=>by
   simp only [nodupB,Bool.and_eq_true,Bool.not_eq_true',List.contains_eq_mem] at h
   obtain ⟨h1,h2⟩:=h
   have hn:y ∉ r:=by simpa using h1
   cases i with
   | zero =>
     cases j with
     | zero=>rfl
     | succ j =>
       simp at hi hj
       subst hi
       exact absurd (List.mem_of_getElem? hj) hn
   | succ i =>
     cases j with
     | zero =>
       simp at hi hj
       subst hj
       exact absurd (List.mem_of_getElem? hi) hn
     | succ j =>
       simp at hi hj
       rw [nodup_get r h2 i j x hi hj]
def FnOk (P : Program) (f : FuncId) : Prop := ∃ fn, P.funcs[f]? = some fn ∧ fn.name ≠ "runtime.NumGoroutine" ∧ fn.body.isSome = true
def inSt (args:List V) (exts:List O) (n:Nat):St:={ n:=n,F:=params 0 args,M:=idxs ExtB exts }
def outSt (r:V) (exts news:List O):St:={ n:=1,F:=[(0,r)],M:=idxs ExtB exts++idxs RetB news }
def baseOf (S:Nat→Prop) (β:Nat→Value) (k:Nat):Base:={ S:=S,k:=k,β:=fun i=>β (ExtB+i) }
def Post (w:World) (fp:Nat→Prop) (B:Base) (r:V) (exts news:List O) (e:Ending) (w':World):Prop :=
 ∃ v' β' S',e=.returned v'∧exts.length=B.k∧exts.length<1000000∧Inv w fp B (outSt r exts news) ⟨#[v'],[]⟩ w' β' S'
def Does (P:Program) (g:FuncId) (vals:Array Value) (w:World) (R:Ending→World→Prop):Prop :=
 if g<YB then FnOk P g∧Calls P g vals w R else
  ∃ (l:Nat) (pre:Array Value) (f:FuncId) (tmps:Array Value) (asg body:Code),vals=pre.push (.func (.yield l) #[] #[])∧(Instr.yield l pre).run P w=.ok (.round l f tmps asg body) w∧∀ (ro:Option Nat) (n:Nat),RoundIn (FF ro) n P l f tmps asg body w R
theorem Does.mono {g:FuncId} {vals:Array Value} {R R':Ending→World→Prop} (h:Does P g vals w R) (hr:∀ e w',R e w'→R' e w'):Does P g vals w R':=by
 unfold Does at *
 split
 ·rename_i hg
  rw [if_pos hg] at h
  exact ⟨h.1,h.2.mono hr⟩
 ·rename_i hg
  rw [if_neg hg] at h
  obtain ⟨l,pre,f,tmps,asg,body,h1,h2,h3⟩:=h
  exact ⟨l,pre,f,tmps,asg,body,h1,h2,fun ro n=>(h3 ro n).mono hr⟩
def CallOk (P:Program) (call:CallF):Prop :=
 ∀ f args exts r exts' news,call f args exts=some (r,exts',news) →
  ∀ (w:World) (fp S:Nat→Prop) (β:Nat→Value) (vals:Array Value),vals.size=args.length→exts.length<1000000 →
   Inv w fp (baseOf S β exts.length) (inSt args exts vals.size) ⟨vals,[]⟩ w β S→Does P f vals w (Post w fp (baseOf S β exts.length) r exts' news)
theorem toIdx_mem {ids:List Nat} {base id:Nat} (h:ids.contains id=true):∃ k,toIdx base ids id=base+k∧ids[k]?=some id:=by
 obtain ⟨k,h1,h2⟩:=idxOf_get ids id h
 exact ⟨k,by simp [toIdx,h1],h2⟩
theorem entry_ok (I:Inv w0 fp S0 σ a w β S) {args:List V} {vals:Array Value} (hl:vals.size=args.length) (hrep:∀ (i:Nat) x v,args[i]?=some x→vals[i]?=some v→Rep w β S x v)
  {ids:List Nat} {objs:List O} (hobjs:objsOf σ.M ids=some objs) (hA:(V.idsL args).all ids.contains=true) (hO:(objs.flatMap O.ids).all ids.contains=true) (hnd:nodupB ids=true) :
  Inv w (fun b=>∃ id o,id∈ids∧getM σ.M id=some o∧o.isOwn=true∧blk (β id)=some b) (baseOf S (fun i=>β (ids.getD (i - ExtB) 0)) (objs.map (O.ren (toIdx ExtB ids))).length)
   (inSt (V.renL (toIdx ExtB ids) args) (objs.map (O.ren (toIdx ExtB ids))) vals.size) ⟨vals,[]⟩ w (fun i=>β (ids.getD (i - ExtB) 0)) S:=by
 obtain ⟨hlen,hget⟩:=objsOf_get ids objs hobjs
 have hβ:∀ id,ids.contains id=true→(fun i=>β (ids.getD (i - ExtB) 0)) (toIdx ExtB ids id)=β id:=fun id h=>by
  obtain ⟨k,h1,h2⟩:=toIdx_mem (base:=ExtB) h
  simp only [h1]
  rw [Nat.add_sub_cancel_left,List.getD_eq_getElem?_getD,h2]
  rfl
 have hobj:∀ id o,getM (idxs ExtB (objs.map (O.ren (toIdx ExtB ids)))) id=some o→∃ k id0 o0,id=ExtB+k∧ids[k]?=some id0∧getM σ.M id0=some o0∧o=o0.ren (toIdx ExtB ids)∧o0∈objs∧β (ids.getD (id - ExtB) 0)=β id0∧ids.contains id0=true∧toIdx ExtB ids id0=id:=by
  intro id o h
  rw [getM_idxs] at h
  split at h<;>try (cases h;done)
  rename_i hge
  rw [List.getElem?_map,Option.map_eq_some_iff] at h
  obtain ⟨o0,h1,rfl⟩:=h
  have hlt:id - ExtB<ids.length:=by rw [←hlen];exact (List.getElem?_eq_some_iff.1 h1).1
  obtain ⟨o1,h2,h3⟩:=hget (id - ExtB) ids[id - ExtB] (List.getElem?_eq_getElem hlt)
  rw [h1] at h2;cases h2
  have hc:ids.contains ids[id - ExtB]=true:=by simp
  refine ⟨id - ExtB,ids[id - ExtB],o0,by omega,List.getElem?_eq_getElem hlt,h3,rfl,List.mem_of_getElem? h1,?_,hc,?_⟩
  ·rw [List.getD_eq_getElem?_getD,List.getElem?_eq_getElem hlt];rfl
  ·obtain ⟨k,h4,h5⟩:=toIdx_mem (base:=ExtB) hc
   have:=nodup_get ids hnd k (id - ExtB) _ h5 (List.getElem?_eq_getElem hlt)
   rw [h4,this];omega
 have hsome:∀ id,ids.contains id=true→(getM (idxs ExtB (objs.map (O.ren (toIdx ExtB ids)))) (toIdx ExtB ids id)).isSome=true:=fun id h=>by
  obtain ⟨k,h1,h2⟩:=toIdx_mem (base:=ExtB) h
  rw [h1,getM_idxs,if_pos (by omega),Nat.add_sub_cancel_left]
  obtain ⟨o1,h3,_⟩:=hget k id h2
  simp [h3]
 have hA':∀ id∈V.idsL args,ids.contains id=true:=fun id h=>(List.all_eq_true.1 hA) id h
 have hO':∀ o∈objs,∀ id∈o.ids,ids.contains id=true:=fun o ho id h=>(List.all_eq_true.1 hO) id (List.mem_flatMap.2 ⟨o,ho,h⟩)
 refine { defers:=Marks.nil,size:=rfl,slots:=?_,objs:=?_,own:=?_,fro:=?_,inj:=?_,closedF:=?_,closedM:=?_,Slt:=I.Slt,S0S:=fun _ h=>h,SIn:=fun _ h=>.inl h,ext:=?_,os:=rfl,tape:=rfl,output:=rfl,grow:=Nat.le_refl _,kept:=fun _ _ _=>rfl,laid:=I.laid }
 ·intro t
  simp only [inSt,getF_params,Nat.zero_le,if_true,Nat.sub_zero,renL_map,List.getElem?_map]
  cases hx:args[t]? with
  | none=>exact .bad _
  | some x =>
    have hlt:t<vals.size:=by rw [hl];exact (List.getElem?_eq_some_iff.1 hx).1
    have:=(hrep t x vals[t] hx (by simp [hlt])).ren (β':=fun i=>β (ids.getD (i - ExtB) 0)) (toIdx ExtB ids) fun id hid=>hβ id (hA' id (idsL_mem hx hid))
    simpa [hlt] using this
 ·intro id o h
  obtain ⟨k,id0,o0,rfl,h1,h2,rfl,h3,h4,h5,h6⟩:=hobj id o h
  have:=(I.objs id0 o0 h2).ren (β':=fun i=>β (ids.getD (i - ExtB) 0)) (toIdx ExtB ids) (hβ id0 h5) fun i hi=>hβ i (hO' o0 h3 i hi)
  rwa [h6] at this
 ·intro id o g h hown hg
  obtain ⟨k,id0,o0,rfl,h1,h2,rfl,h3,h4,h5,h6⟩:=hobj id o h
  rw [isOwn_ren] at hown
  simp only [h4] at hg
  exact ⟨(I.own id0 o0 g h2 hown hg).1,.inl ⟨id0,o0,List.mem_of_getElem? h1,h2,hown,hg⟩⟩
 ·intro id m e rows g h hg
  obtain ⟨k,id0,o0,rfl,h1,h2,h7,h3,h4,h5,h6⟩:=hobj id _ h
  simp only [h4] at hg
  cases o0 with
  | box=>cases h7
  | row ow m' e' rows' =>
    simp only [O.ren] at h7
    cases h7
    exact I.fro id0 m e rows g h2 hg
  | tab=>cases h7
  | lp=>cases h7
  | dead=>cases h7
 ·intro i j o1 o2 g h1 h2 h3 h4 h5 h6
  obtain ⟨k1,id1,p1,rfl,a1,a2,rfl,a3,a4,a5,a6⟩:=hobj i o1 h1
  obtain ⟨k2,id2,p2,rfl,b1,b2,rfl,b3,b4,b5,b6⟩:=hobj j o2 h2
  rw [isOwn_ren] at h3 h4
  simp only [a4] at h5
  simp only [b4] at h6
  have:=I.inj id1 id2 p1 p2 g a2 b2 h3 h4 h5 h6
  subst this
  rw [nodup_get ids hnd k1 k2 _ a1 b1]
 ·intro t id hid
  simp only [inSt,getF_params,Nat.zero_le,if_true,Nat.sub_zero,renL_map,List.getElem?_map] at hid
  cases hx:args[t]? with
  | none=>rw [hx] at hid;simp [V.ids] at hid
  | some x =>
    rw [hx] at hid
    simp only [Option.map_some,Option.getD_some,ids_ren,List.mem_map] at hid
    obtain ⟨id0,h1,rfl⟩:=hid
    exact hsome id0 (hA' id0 (idsL_mem hx h1))
 ·intro i o h id hid
  obtain ⟨k,id0,o0,rfl,h1,h2,rfl,h3,h4,h5,h6⟩:=hobj i o h
  rw [oids_ren] at hid
  obtain ⟨id1,h7,rfl⟩:=List.mem_map.1 hid
  exact hsome id1 (hO' o0 h3 id1 h7)
 ·intro i hi
  simp only [baseOf,List.length_map] at hi
  refine ⟨?_,rfl⟩
  simp only [inSt,getM_idxs]
  rw [if_pos (by omega),Nat.add_sub_cancel_left]
  simp [hi]
end
end Go.Proofs.YtlelaenalbkbmaaDoorV