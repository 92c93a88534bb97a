/- The value interpreter: numbers told otherwise,and what is asked of a call. -/
import Derived.Test.YtbnnmplkbpgcaaaDoorHVi11
namespace Go.Proofs.YtbnnmplkbpgcaaaDoorV
open Go
set_option linter.unusedVariables false
set_option linter.unusedSimpArgs false
mutual
theorem ids_ren (f:Nat→Nat):∀ x:V,(V.ren f x).ids=x.ids.map f
 | .own id=>by simp [V.ren,V.ids]
 | .cut id m o n=>by simp [V.ren,V.ids]
 | .ptr id o=>by simp [V.ren,V.ids]
 | .ept id m k j=>by simp [V.ren,V.ids]
 | .agg cs=>by simp [V.ren,V.ids,idsL_renL f cs]
 | .tup cs=>by simp [V.ren,V.ids,idsL_renL f cs]
 | .fn g cs=>by simp [V.ren,V.ids,idsL_renL f cs]
 | .yld id=>by simp [V.ren,V.ids]
 | .bsl id m n=>by simp [V.ren,V.ids]
 | .p v=>by simp [V.ren,V.ids]
 | .nil=>by simp [V.ren,V.ids]
 | .sl m rows=>by simp [V.ren,V.ids]
 | .rpt cs o=>by simp [V.ren,V.ids]
 | .bad=>by simp [V.ren,V.ids]
theorem idsL_renL (f:Nat→Nat):∀ l:List V,V.idsL (V.renL f l)=(V.idsL l).map f
 | []=>by simp [V.renL,V.idsL]
 | x::r=>by simp [V.renL,V.idsL,ids_ren f x,idsL_renL f r]
end
theorem renL_map (f:Nat→Nat) (l:List V):V.renL f l=l.map (V.ren f):=by
 induction l with
 | nil=>rfl
 | cons c r ih=>simp [V.renL,ih]
theorem renF_snd (f:Nat→Nat) (F:List (Nat×V)):(F.map fun q=>(q.1,q.2.ren f)).map (·.2)=V.renL f (F.map (·.2)):=by
 rw [renL_map,List.map_map,List.map_map];rfl
theorem getF_renF (f:Nat→Nat) (F:List (Nat×V)) (t:Nat):getF (F.map fun q=>(q.1,q.2.ren f)) t=(getF F t).ren f:=by
 induction F with
 | nil=>rfl
 | cons q r ih=>obtain ⟨k,v⟩:=q;simp only [List.map_cons,getF];split<;>simp_all
theorem oids_ren (f:Nat→Nat) (o:O):(o.ren f).ids=o.ids.map f:=by
 cases o with
 | lp fn n F ps asg body st out=>simp only [O.ren,O.ids];rw [renF_snd,idsL_renL]
 | _=>simp [O.ren,O.ids,idsL_renL]
theorem isOwn_ren (f:Nat→Nat) (o:O):(o.ren f).isOwn=o.isOwn:=by cases o<;>rfl
section
variable {P:Program} {w0:World} {fp:Nat→Prop} {S0:Base} {σ:St} {a:Act} {w:World} {β:Nat→Value} {S:Nat→Prop} {o:Oper}
theorem repD_ren {x:V} {v:Value} (h:RepD w S x v) (f:Nat→Nat):x.ren f=x:=by cases h<;>simp [V.ren]
theorem Rep.ren {β':Nat→Value} (f:Nat→Nat) {x:V} {v:Value} (h:Rep w β S x v):(∀ id∈x.ids,β' (f id)=β id)→Rep w β' S (x.ren f) v:=by
 induction h with
 | d h=>intro _;rw [repD_ren h];exact .d h
 | agg cs arr hs ho h ih =>
   intro hβ
   rw [V.ren,renL_map]
   refine .agg _ arr (by simpa using hs) ho fun i x v h1 h2 => ?_
   rw [List.getElem?_map,Option.map_eq_some_iff] at h1
   obtain ⟨y,hy,rfl⟩:=h1
   exact ih i y v hy h2 fun id hid=>hβ id (by rw [V.ids];exact idsL_mem hy hid)
 | tup cs arr hs h ih =>
   intro hβ
   rw [V.ren,renL_map]
   refine .tup _ arr (by simpa using hs) fun i x v h1 h2 => ?_
   rw [List.getElem?_map,Option.map_eq_some_iff] at h1
   obtain ⟨y,hy,rfl⟩:=h1
   exact ih i y v hy h2 fun id hid=>hβ id (by rw [V.ids];exact idsL_mem hy hid)
 | fn g cs arr hs h ih =>
   intro hβ
   rw [V.ren,renL_map]
   refine .fn g _ arr (by simpa using hs) fun i x v h1 h2 => ?_
   rw [List.getElem?_map,Option.map_eq_some_iff] at h1
   obtain ⟨y,hy,rfl⟩:=h1
   exact ih i y v hy h2 fun id hid=>hβ id (by rw [V.ids];exact idsL_mem hy hid)
 | rpt cells off b o g hSb h1 h2 h3=>intro _;rw [V.ren];exact .rpt cells off b o g hSb h1 h2 h3
 | own id ho=>intro hβ;rw [V.ren];rw [←hβ id (by simp [V.ids])] at ho ⊢;exact .own (f id) ho
 | cut id m off n g N C a c h hc ha hr hn=>intro hβ;rw [V.ren];exact .cut (f id) m off n g N C a c ((hβ id (by simp [V.ids])).trans h) hc ha hr hn
 | cut0 id m off N C a c ad h hN=>intro hβ;rw [V.ren];exact .cut0 (f id) m off N C a c ad ((hβ id (by simp [V.ids])).trans h) hN
 | ptr id off g h=>intro hβ;rw [V.ren];exact .ptr (f id) off g ((hβ id (by simp [V.ids])).trans h)
 | ept id m k j g N C h=>intro hβ;rw [V.ren];exact .ept (f id) m k j g N C ((hβ id (by simp [V.ids])).trans h)
 | yld id l h=>intro hβ;rw [V.ren];exact .yld (f id) l ((hβ id (by simp [V.ids])).trans h)
 | bsl id m n g h=>intro hβ;rw [V.ren];exact .bsl (f id) m n g ((hβ id (by simp [V.ids])).trans h)
 | bad v=>intro _;rw [V.ren];exact .bad v
theorem ORep.ren {β':Nat→Value} (f:Nat→Nat) {id:Nat} {o:O} (h:ORep w β S id o) (hid:β' (f id)=β id) (hβ:∀ i∈o.ids,β' (f i)=β i):ORep w β' S (f id) (o.ren f):=by
 cases o with
 | box ty cells =>
   obtain ⟨g,arr,h1,h2,h3,h4,h5⟩:=h
   refine ⟨g,arr,hid.trans h1,h2,by rw [renL_map];simpa using h3,h4,fun i x v hx hv => ?_⟩
   rw [renL_map,List.getElem?_map,Option.map_eq_some_iff] at hx
   obtain ⟨y,hy,rfl⟩:=hx
   exact (h5 i y v hy hv).ren f fun id hid=>hβ id (by rw [O.ids];exact idsL_mem hy hid)
 | row o m e rows =>
   obtain ⟨h0,h1,xs,h2,h3,h4⟩:=h
   exact ⟨h0,h1,xs,by rw [hid];exact h2,h3,h4⟩
 | lp fn n F ps asg body st out =>
   obtain ⟨l,r,h1,h2,h3,h4,h5,h6,h7,h8,h9⟩:=h
   refine ⟨l,r,hid.trans h1,h2,h3,h4,h5,h6,h7,h8,fun t => ?_⟩
   rw [getF_renF]
   exact (h9 t).ren f fun i hi=>hβ i (getF_ids hi)
 | dead=>trivial
theorem getF_params:∀ (l:List V) (s t:Nat),getF (params s l) t=if s≤t then (l[t - s]?).getD .bad else .bad
 | [],s,t=>by simp [params,getF]
 | x::r,s,t=>by
   simp only [params,getF]
   by_cases h:s=t
   ·subst h;simp
   ·rw [if_neg h,getF_params r (s+1) t]
    by_cases h2:s≤t
    ·rw [if_pos h2,if_pos (by omega)]
     rw [show t - s=(t - (s+1))+1 from by omega,List.getElem?_cons_succ]
    ·rw [if_neg h2,if_neg (by omega)]
theorem getM_idxs:∀ (l:List O) (s t:Nat),getM (idxs s l) t=if s≤t then l[t - s]? else none
 | [],s,t=>by simp [idxs,getM]
 | x::r,s,t=>by
   simp only [idxs,getM]
   by_cases h:s=t
   ·subst h;simp
   ·rw [if_neg h,getM_idxs r (s+1) t]
    by_cases h2:s≤t
    ·rw [if_pos h2,if_pos (by omega)]
     rw [show t - s=(t - (s+1))+1 from by omega,List.getElem?_cons_succ]
    ·rw [if_neg h2,if_neg (by omega)]
theorem objsOf_get {M:List (Nat×O)}:∀ (ids:List Nat) (objs:List O),objsOf M ids=some objs→objs.length=ids.length∧∀ (i:Nat) id,ids[i]?=some id→∃ o,objs[i]?=some o∧getM M id=some o
 | [],objs,h=>by simp [objsOf] at h;subst h;simp
 | x::r,objs,h=>by
   simp only [objsOf] at h
   split at h<;>simp at h
   rename_i o l h1 h2
   subst h
   obtain ⟨e1,e2⟩:=objsOf_get r l h2
   refine ⟨by simp [e1],fun i id hi => ?_⟩
   cases i with
   | zero=>simp at hi;subst hi;exact ⟨o,rfl,h1⟩
   | succ i=>simp at hi;simpa using e2 i id hi
theorem idxOf_get:∀ (l:List Nat) (x:Nat),l.contains x=true→∃ k,idxOf l x=some k∧l[k]?=some x
 | [],x,h=>by simp at h
 | y::r,x,h=>by
   simp only [idxOf]
   by_cases e:y=x
   ·subst e;exact ⟨0,by simp,rfl⟩
   ·rw [if_neg e]
    have hr:r.contains x=true:=by
     simp only [List.contains_cons,Bool.or_eq_true,beq_iff_eq] at h
     rcases h with h | h
     ·exact absurd h.symm e
     ·exact h
    obtain ⟨k,h1,h2⟩:=idxOf_get r x hr
    exact ⟨k+1,by simp [h1],by simpa using h2⟩
theorem nodup_get:∀ (l:List Nat),nodupB l=true→∀ (i j:Nat) x,l[i]?=some x→l[j]?=some x→i=j
 | [],_,i,j,x,hi,_=>by simp at hi
 | y::r,h,i,j,x,hi,hj=>by
   simp only [nodupB,Bool.and_eq_true,Bool.not_eq_true',List.contains_eq_mem] at h
   obtain ⟨h1,h2⟩:=h
   have hn:y ∉ r:=by simpa using h1
   cases i with
   | zero =>
     cases j with
     | zero=>rfl
     | succ j =>
       simp at hi hj
       subst hi
       exact absurd (List.mem_of_getElem? hj) hn
   | succ i =>
     cases j with
     | zero =>
       simp at hi hj
       subst hj
       exact absurd (List.mem_of_getElem? hi) hn
     | succ j =>
       simp at hi hj
       rw [nodup_get r h2 i j x hi hj]
def FnOk (P : Program) (f : FuncId) : Prop := ∃ fn, P.funcs[f]? = some fn ∧ fn.name ≠ "runtime.NumGoroutine" ∧ fn.body.isSome = true
def inSt (args:List V) (exts:List O) (n:Nat):St:={ n:=n,F:=params 0 args,M:=idxs ExtB exts }
def outSt (r:V) (exts news:List O):St:={ n:=1,F:=[(0,r)],M:=idxs ExtB exts++idxs RetB news }
def baseOf (S:Nat→Prop) (β:Nat→Value) (k:Nat):Base:={ S:=S,k:=k,β:=fun i=>β (ExtB+i) }
def Post (w:World) (fp:Nat→Prop) (B:Base) (r:V) (exts news:List O) (e:Ending) (w':World):Prop :=
 ∃ v' β' S',e=.returned v'∧exts.length=B.k∧exts.length<1000000∧Inv w fp B (outSt r exts news) ⟨#[v'],[]⟩ w' β' S'
def Does (P:Program) (g:FuncId) (vals:Array Value) (w:World) (R:Ending→World→Prop):Prop :=
 if g<YB then FnOk P g∧Calls P g vals w R else
  ∃ (l:Nat) (pre:Array Value) (f:FuncId) (tmps:Array Value) (asg body:Code),vals=pre.push (.func (.yield l) #[] #[])∧(Instr.yield l pre).run P w=.ok (.round l f tmps asg body) w∧∀ (ro:Option Nat) (n:Nat),RoundIn (FF ro) n P l f tmps asg body w R
theorem Does.mono {g:FuncId} {vals:Array Value} {R R':Ending→World→Prop} (h:Does P g vals w R) (hr:∀ e w',R e w'→R' e w'):Does P g vals w R':=by
 unfold Does at *
 split
 ·rename_i hg
  rw [if_pos hg] at h
  exact ⟨h.1,h.2.mono hr⟩
 ·rename_i hg
  rw [if_neg hg] at h
  obtain ⟨l,pre,f,tmps,asg,body,h1,h2,h3⟩:=h
  exact ⟨l,pre,f,tmps,asg,body,h1,h2,fun ro n=>(h3 ro n).mono hr⟩
def CallOk (P:Program) (call:CallF):Prop :=
 ∀ f args exts r exts' news,call f args exts=some (r,exts',news) →
  ∀ (w:World) (fp S:Nat→Prop) (β:Nat→Value) (vals:Array Value),vals.size=args.length→exts.length<1000000 →
   Inv w fp (baseOf S β exts.length) (inSt args exts vals.size) ⟨vals,[]⟩ w β S→Does P f vals w (Post w fp (baseOf S β exts.length) r exts' news)
theorem toIdx_mem {ids:List Nat} {base id:Nat} (h:ids.contains id=true):∃ k,toIdx base ids id=base+k∧ids[k]?=some id:=by
 obtain ⟨k,h1,h2⟩:=idxOf_get ids id h
 exact ⟨k,by simp [toIdx,h1],h2⟩
theorem entry_ok (I:Inv w0 fp S0 σ a w β S) {args:List V} {vals:Array Value} (hl:vals.size=args.length) (hrep:∀ (i:Nat) x v,args[i]?=some x→vals[i]?=some v→Rep w β S x v)
  {ids:List Nat} {objs:List O} (hobjs:objsOf σ.M ids=some objs) (hA:(V.idsL args).all ids.contains=true) (hO:(objs.flatMap O.ids).all ids.contains=true) (hnd:nodupB ids=true) :
  Inv w (fun b=>∃ id o,id∈ids∧getM σ.M id=some o∧o.isOwn=true∧blk (β id)=some b) (baseOf S (fun i=>β (ids.getD (i - ExtB) 0)) (objs.map (O.ren (toIdx ExtB ids))).length)
   (inSt (V.renL (toIdx ExtB ids) args) (objs.map (O.ren (toIdx ExtB ids))) vals.size) ⟨vals,[]⟩ w (fun i=>β (ids.getD (i - ExtB) 0)) S:=by
 obtain ⟨hlen,hget⟩:=objsOf_get ids objs hobjs
 have hβ:∀ id,ids.contains id=true→(fun i=>β (ids.getD (i - ExtB) 0)) (toIdx ExtB ids id)=β id:=fun id h=>by
  obtain ⟨k,h1,h2⟩:=toIdx_mem (base:=ExtB) h
  simp only [h1]
  rw [Nat.add_sub_cancel_left,List.getD_eq_getElem?_getD,h2]
  rfl
 have hobj:∀ id o,getM (idxs ExtB (objs.map (O.ren (toIdx ExtB ids)))) id=some o→∃ k id0 o0,id=ExtB+k∧ids[k]?=some id0∧getM σ.M id0=some o0∧o=o0.ren (toIdx ExtB ids)∧o0∈objs∧β (ids.getD (id - ExtB) 0)=β id0∧ids.contains id0=true∧toIdx ExtB ids id0=id:=by
  intro id o h
  rw [getM_idxs] at h
  split at h<;>try (cases h;done)
  rename_i hge
  rw [List.getElem?_map,Option.map_eq_some_iff] at h
  obtain ⟨o0,h1,rfl⟩:=h
  have hlt:id - ExtB<ids.length:=by rw [←hlen];exact (List.getElem?_eq_some_iff.1 h1).1
  obtain ⟨o1,h2,h3⟩:=hget (id - ExtB) ids[id - ExtB] (List.getElem?_eq_getElem hlt)
  rw [h1] at h2;cases h2
  have hc:ids.contains ids[id - ExtB]=true:=by simp
  refine ⟨id - ExtB,ids[id - ExtB],o0,by omega,List.getElem?_eq_getElem hlt,h3,rfl,List.mem_of_getElem? h1,?_,hc,?_⟩
  ·rw [List.getD_eq_getElem?_getD,List.getElem?_eq_getElem hlt];rfl
  ·obtain ⟨k,h4,h5⟩:=toIdx_mem (base:=ExtB) hc
   have:=nodup_get ids hnd k (id - ExtB) _ h5 (List.getElem?_eq_getElem hlt)
   rw [h4,this];omega
 have hsome:∀ id,ids.contains id=true→(getM (idxs ExtB (objs.map (O.ren (toIdx ExtB ids)))) (toIdx ExtB ids id)).isSome=true:=fun id h=>by
  obtain ⟨k,h1,h2⟩:=toIdx_mem (base:=ExtB) h
  rw [h1,getM_idxs,if_pos (by omega),Nat.add_sub_cancel_left]
  obtain ⟨o1,h3,_⟩:=hget k id h2
  simp [h3]
 have hA':∀ id∈V.idsL args,ids.contains id=true:=fun id h=>(List.all_eq_true.1 hA) id h
 have hO':∀ o∈objs,∀ id∈o.ids,ids.contains id=true:=fun o ho id h=>(List.all_eq_true.1 hO) id (List.mem_flatMap.2 ⟨o,ho,h⟩)
 refine { defers:=Marks.nil,size:=rfl,slots:=?_,objs:=?_,own:=?_,fro:=?_,inj:=?_,closedF:=?_,closedM:=?_,Slt:=I.Slt,S0S:=fun _ h=>h,SIn:=fun _ h=>.inl h,ext:=?_,os:=rfl,tape:=rfl,output:=rfl,grow:=Nat.le_refl _,kept:=fun _ _ _=>rfl,laid:=I.laid }
 ·intro t
  simp only [inSt,getF_params,Nat.zero_le,if_true,Nat.sub_zero,renL_map,List.getElem?_map]
  cases hx:args[t]? with
  | none=>exact .bad _
  | some x =>
    have hlt:t<vals.size:=by rw [hl];exact (List.getElem?_eq_some_iff.1 hx).1
    have:=(hrep t x vals[t] hx (by simp [hlt])).ren (β':=fun i=>β (ids.getD (i - ExtB) 0)) (toIdx ExtB ids) fun id hid=>hβ id (hA' id (idsL_mem hx hid))
    simpa [hlt] using this
 ·intro id o h
  obtain ⟨k,id0,o0,rfl,h1,h2,rfl,h3,h4,h5,h6⟩:=hobj id o h
  have:=(I.objs id0 o0 h2).ren (β':=fun i=>β (ids.getD (i - ExtB) 0)) (toIdx ExtB ids) (hβ id0 h5) fun i hi=>hβ i (hO' o0 h3 i hi)
  rwa [h6] at this
 ·intro id o g h hown hg
  obtain ⟨k,id0,o0,rfl,h1,h2,rfl,h3,h4,h5,h6⟩:=hobj id o h
  rw [isOwn_ren] at hown
  simp only [h4] at hg
  exact ⟨(I.own id0 o0 g h2 hown hg).1,.inl ⟨id0,o0,List.mem_of_getElem? h1,h2,hown,hg⟩⟩
 ·intro id m e rows g h hg
  obtain ⟨k,id0,o0,rfl,h1,h2,h7,h3,h4,h5,h6⟩:=hobj id _ h
  simp only [h4] at hg
  cases o0 with
  | box=>cases h7
  | row ow m' e' rows' =>
    simp only [O.ren] at h7
    cases h7
    exact I.fro id0 m e rows g h2 hg
  | lp=>cases h7
  | dead=>cases h7
 ·intro i j o1 o2 g h1 h2 h3 h4 h5 h6
  obtain ⟨k1,id1,p1,rfl,a1,a2,rfl,a3,a4,a5,a6⟩:=hobj i o1 h1
  obtain ⟨k2,id2,p2,rfl,b1,b2,rfl,b3,b4,b5,b6⟩:=hobj j o2 h2
  rw [isOwn_ren] at h3 h4
  simp only [a4] at h5
  simp only [b4] at h6
  have:=I.inj id1 id2 p1 p2 g a2 b2 h3 h4 h5 h6
  subst this
  rw [nodup_get ids hnd k1 k2 _ a1 b1]
 ·intro t id hid
  simp only [inSt,getF_params,Nat.zero_le,if_true,Nat.sub_zero,renL_map,List.getElem?_map] at hid
  cases hx:args[t]? with
  | none=>rw [hx] at hid;simp [V.ids] at hid
  | some x =>
    rw [hx] at hid
    simp only [Option.map_some,Option.getD_some,ids_ren,List.mem_map] at hid
    obtain ⟨id0,h1,rfl⟩:=hid
    exact hsome id0 (hA' id0 (idsL_mem hx h1))
 ·intro i o h id hid
  obtain ⟨k,id0,o0,rfl,h1,h2,rfl,h3,h4,h5,h6⟩:=hobj i o h
  rw [oids_ren] at hid
  obtain ⟨id1,h7,rfl⟩:=List.mem_map.1 hid
  exact hsome id1 (hO' o0 h3 id1 h7)
 ·intro i hi
  simp only [baseOf,List.length_map] at hi
  refine ⟨?_,rfl⟩
  simp only [inSt,getM_idxs]
  rw [if_pos (by omega),Nat.add_sub_cancel_left]
  simp [hi]
end
theorem getM_zip:∀ (ids:List Nat) (os:List O) (id:Nat) (o:O),getM (ids.zip os) id=some o→∃ i:Nat,ids[i]?=some id∧os[i]?=some o
 | [],os,id,o,h=>by simp [getM] at h
 | x::r,[],id,o,h=>by simp [getM] at h
 | x::r,q::os,id,o,h=>by
   simp only [List.zip_cons_cons,getM] at h
   split at h
   ·rename_i e;cases h;exact ⟨0,by simp [e],by simp⟩
   ·obtain ⟨i,h1,h2⟩:=getM_zip r os id o h
    exact ⟨i+1,by simpa using h1,by simpa using h2⟩
theorem getM_zip_some:∀ (ids:List Nat) (os:List O) (id:Nat),os.length=ids.length→id∈ids→(getM (ids.zip os) id).isSome=true
 | [],os,id,_,h=>by simp at h
 | x::r,[],id,h,_=>by simp at h
 | x::r,q::os,id,hl,h=>by
   simp only [List.zip_cons_cons,getM]
   split
   ·rfl
   ·rename_i e
    exact getM_zip_some r os id (by simpa using hl) ((List.mem_cons.1 h).resolve_left fun h=>e h.symm)
theorem getM_new {d:Nat}:∀ (l:List O) (s id:Nat) (o:O),getM (newObjs d s l) id=some o→∃ j,id=newId d (s+j)∧l[j]?=some o
 | [],s,id,o,h=>by simp [newObjs,getM] at h
 | q::r,s,id,o,h=>by
   simp only [newObjs,getM] at h
   split at h
   ·rename_i e;cases h;exact ⟨0,by simpa using e.symm,by simp⟩
   ·obtain ⟨j,h1,h2⟩:=getM_new r (s+1) id o h
    exact ⟨j+1,by rw [h1];congr 1;omega,by simpa using h2⟩
theorem getM_new_some {d:Nat}:∀ (l:List O) (s j:Nat),j<l.length→(getM (newObjs d s l) (newId d (s+j))).isSome=true
 | [],s,j,h=>by simp at h
 | q::r,s,j,h=>by
   simp only [newObjs,getM]
   split
   ·rfl
   ·rename_i e
    cases j with
    | zero=>exact absurd rfl e
    | succ j =>
      have:=getM_new_some (d:=d) r (s+1) j (by simpa using h)
      rwa [show s+1+j=s+(j+1) from by omega] at this
section
variable {P:Program} {w0:World} {fp:Nat→Prop} {S0:Base} {σ:St} {a:Act} {w:World} {β:Nat→Value} {S:Nat→Prop} {o:Oper}
open Classical in
noncomputable def newβ (β βr:Nat→Value) (d n:Nat):Nat→Value:=fun id=>if ∃ j,j<n∧id=newId d j then βr (RetB+(id - d) / 10000) else β id
theorem newβ_new {β βr:Nat→Value} {d n j:Nat} (h:j<n):newβ β βr d n (newId d j)=βr (RetB+j):=by
 unfold newβ
 rw [if_pos ⟨j,h,rfl⟩]
 congr 2
 simp only [newId]
 omega
theorem newβ_old {β βr:Nat→Value} {d n id:Nat} (h:∀ j,j<n→id≠newId d j):newβ β βr d n id=β id:=by
 unfold newβ
 rw [if_neg]
 rintro ⟨j,h1,h2⟩
 exact h j h1 h2
theorem from_call (I:Inv w0 fp S0 σ a w β S) {ids:List Nat} {objs:List O} (hobjs:objsOf σ.M ids=some objs) (hlt:ids.length<1000000) {d:Nat} {r:V} {exts news:List O} (hel:exts.length=ids.length)
  (hnw:(newObjs d 0 (news.map (O.ren (fromCall ids d)))).all (fun q=>(getM σ.M q.1).isNone)=true) {v':Value} {w':World} {βr:Nat→Value} {S':Nat→Prop}
  (Ir:Inv w (fun b=>∃ id o,id∈ids∧getM σ.M id=some o∧o.isOwn=true∧blk (β id)=some b) (baseOf S (fun i=>β (ids.getD (i - ExtB) 0)) ids.length) (outSt r exts news) ⟨#[v'],[]⟩ w' βr S') :
  UpdOk w0 fp σ w β S (r.ren (fromCall ids d)) (ids.zip (exts.map (O.ren (fromCall ids d)))++newObjs d 0 (news.map (O.ren (fromCall ids d)))) v' w' (newβ β βr d news.length) S':=by
 obtain ⟨hlen,hget⟩:=objsOf_get ids objs hobjs
 have hnone:∀ j,j<news.length→getM σ.M (newId d j)=none:=fun j hj=>by
  have h1:=getM_new_some (d:=d) (news.map (O.ren (fromCall ids d))) 0 j (by simpa using hj)
  rw [Nat.zero_add] at h1
  obtain ⟨q,hq,he⟩:=List.mem_map.1 (getM_keys.1 h1)
  have:=(List.all_eq_true.1 hnw) q hq
  rw [he] at this
  simpa using this
 have hids:∀ id∈ids,(getM σ.M id).isSome=true:=fun id h=>by
  obtain ⟨i,hi,rfl⟩:=List.mem_iff_getElem.1 h
  obtain ⟨o,_,ho⟩:=hget i ids[i] (List.getElem?_eq_getElem hi)
  rw [ho];rfl
 have hnot:∀ id∈ids,∀ j,j<news.length→id≠newId d j:=fun id h j hj e=>by
  have:=hids id h
  rw [e,hnone j hj] at this;cases this
 have outGet:∀ c o,getM (outSt r exts news).M c=some o→(∃ i,c=ExtB+i∧i<ids.length∧exts[i]?=some o)∨∃ j,c=RetB+j∧j<news.length∧news[j]?=some o:=by
  intro c o h
  simp only [outSt,getM_append,getM_idxs] at h
  by_cases hc:ExtB≤c
  ·rw [if_pos hc] at h
   cases he:exts[c - ExtB]? with
   | some o' =>
     simp only [he] at h;cases h
     exact .inl ⟨c - ExtB,by omega,by rw [←hel];exact (List.getElem?_eq_some_iff.1 he).1,he⟩
   | none =>
     simp only [he] at h
     split at h<;>try (cases h;done)
     exact .inr ⟨c - RetB,by omega,(List.getElem?_eq_some_iff.1 h).1,h⟩
  ·rw [if_neg hc] at h
   simp only at h
   split at h<;>try (cases h;done)
   rename_i h2
   simp only [ExtB,RetB] at hc h2
   omega
 have outExt:∀ i,i<ids.length→∃ o,exts[i]?=some o∧getM (outSt r exts news).M (ExtB+i)=some o:=fun i hi=>by
  have hi':i<exts.length:=by omega
  refine ⟨exts[i],List.getElem?_eq_getElem hi',?_⟩
  simp only [outSt,getM_append,getM_idxs]
  rw [if_pos (by omega),Nat.add_sub_cancel_left,List.getElem?_eq_getElem hi']
 have outNew:∀ j,j<news.length→∃ o,news[j]?=some o∧getM (outSt r exts news).M (RetB+j)=some o:=fun j hj=>by
  refine ⟨news[j],List.getElem?_eq_getElem hj,?_⟩
  simp only [outSt,getM_append,getM_idxs]
  rw [if_pos (by simp only [ExtB,RetB];omega)]
  have:exts[RetB+j - ExtB]?=none:=List.getElem?_eq_none (by simp only [ExtB,RetB];omega)
  rw [this]
  simp only
  rw [if_pos (by omega),Nat.add_sub_cancel_left,List.getElem?_eq_getElem hj]
 have backE:∀ i,i<ids.length→fromCall ids d (ExtB+i)=ids.getD i 0:=fun i hi=>by
  unfold fromCall
  rw [if_neg (by simp only [ExtB,RetB];omega),if_pos (by omega),Nat.add_sub_cancel_left]
 have backR:∀ j,fromCall ids d (RetB+j)=newId d j:=fun j=>by
  unfold fromCall
  rw [if_pos (by omega),Nat.add_sub_cancel_left]
 have getD_get:∀ (i:Nat) id,ids[i]?=some id→ids.getD i 0=id:=fun i id h=>by rw [List.getD_eq_getElem?_getD,h];rfl
 have βE:∀ i,i<ids.length→βr (ExtB+i)=β (ids.getD i 0):=fun i hi=>by
  have:=(Ir.ext i hi).2
  rw [this]
  simp only [baseOf,Nat.add_sub_cancel_left]
 have hβ:∀ c,(getM (outSt r exts news).M c).isSome=true→newβ β βr d news.length (fromCall ids d c)=βr c:=fun c hc=>by
  obtain ⟨o,ho⟩:=Option.isSome_iff_exists.1 hc
  rcases outGet c o ho with ⟨i,rfl,hi,_⟩ | ⟨j,rfl,hj,_⟩
  ·rw [backE i hi,βE i hi]
   refine newβ_old (hnot _ ?_)
   rw [List.getD_eq_getElem?_getD,List.getElem?_eq_getElem hi]
   simp
  ·rw [backR j]
   exact newβ_new hj
 have key:∀ id o,getM (ids.zip (exts.map (O.ren (fromCall ids d)))++newObjs d 0 (news.map (O.ren (fromCall ids d)))) id=some o→∃ c o',getM (outSt r exts news).M c=some o'∧o=o'.ren (fromCall ids d)∧fromCall ids d c=id:=by
  intro id o h
  rw [getM_append] at h
  cases hz:getM (ids.zip (exts.map (O.ren (fromCall ids d)))) id with
  | some o' =>
    simp only [hz] at h;cases h
    obtain ⟨i,h1,h2⟩:=getM_zip _ _ _ _ hz
    rw [List.getElem?_map,Option.map_eq_some_iff] at h2
    obtain ⟨q,h3,rfl⟩:=h2
    have hi:i<ids.length:=(List.getElem?_eq_some_iff.1 h1).1
    obtain ⟨q',h4,h5⟩:=outExt i hi
    rw [h3] at h4;cases h4
    exact ⟨ExtB+i,q,h5,rfl,by rw [backE i hi];exact getD_get i id h1⟩
  | none =>
    simp only [hz] at h
    obtain ⟨j,rfl,h2⟩:=getM_new _ _ _ _ h
    rw [List.getElem?_map,Option.map_eq_some_iff] at h2
    obtain ⟨q,h3,rfl⟩:=h2
    obtain ⟨q',h4,h5⟩:=outNew j (List.getElem?_eq_some_iff.1 h3).1
    rw [h3] at h4;cases h4
    exact ⟨RetB+j,q,h5,rfl,by rw [backR j,Nat.zero_add]⟩
 have uSome:∀ c,(getM (outSt r exts news).M c).isSome=true→(getM (ids.zip (exts.map (O.ren (fromCall ids d)))++newObjs d 0 (news.map (O.ren (fromCall ids d)))) (fromCall ids d c)).isSome=true:=fun c hc=>by
  obtain ⟨o,ho⟩:=Option.isSome_iff_exists.1 hc
  rw [getM_append]
  rcases outGet c o ho with ⟨i,rfl,hi,_⟩ | ⟨j,rfl,hj,_⟩
  ·rw [backE i hi]
   have hmem:ids.getD i 0∈ids:=by rw [List.getD_eq_getElem?_getD,List.getElem?_eq_getElem hi];simp
   have:=getM_zip_some ids (exts.map (O.ren (fromCall ids d))) _ (by simpa using hel) hmem
   cases hz:getM (ids.zip (exts.map (O.ren (fromCall ids d)))) (ids.getD i 0) with
   | some _=>rfl
   | none=>rw [hz] at this;cases this
  ·rw [backR j]
   have:=getM_new_some (d:=d) (news.map (O.ren (fromCall ids d))) 0 j (by simpa using hj)
   rw [Nat.zero_add] at this
   cases hz:getM (ids.zip (exts.map (O.ren (fromCall ids d)))) (newId d j) with
   | some _=>rfl
   | none=>exact this
 have uIds:∀ id∈ids,(getM (ids.zip (exts.map (O.ren (fromCall ids d)))++newObjs d 0 (news.map (O.ren (fromCall ids d)))) id).isSome=true:=fun id h=>by
  have:=getM_zip_some ids (exts.map (O.ren (fromCall ids d))) id (by simpa using hel) h
  rw [getM_append]
  cases hz:getM (ids.zip (exts.map (O.ren (fromCall ids d)))) id with
  | some _=>rfl
  | none=>rw [hz] at this;cases this
 have third:∀ b,(∃ id o,id∈ids∧getM σ.M id=some o∧o.isOwn=true∧blk (β id)=some b)→∃ id o,getM σ.M id=some o∧o.isOwn=true∧blk (β id)=some b∧(getM (ids.zip (exts.map (O.ren (fromCall ids d)))++newObjs d 0 (news.map (O.ren (fromCall ids d)))) id).isSome=true:=by
  rintro b ⟨id,o,h1,h2,h3,h4⟩
  exact ⟨id,o,h2,h3,h4,uIds id h1⟩
 refine { new:=?_,os:=Ir.os,tape:=Ir.tape,output:=Ir.output,grow:=Ir.grow,touch:=?_,S1:=Ir.S0S,S2:=Ir.Slt,S4:=?_,objs:=?_,own:=?_,fro:=?_,inj:=?_,closedM:=?_,rep:=?_,closedV:=?_ }
 ·intro id
  by_cases h:∃ j,j<news.length∧id=newId d j
  ·obtain ⟨j,hj,rfl⟩:=h
   exact .inr (hnone j hj)
  ·exact .inl (newβ_old fun j hj e=>h ⟨j,hj,e⟩)
 ·intro b hb
  by_cases h:∃ id o,id∈ids∧getM σ.M id=some o∧o.isOwn=true∧blk (β id)=some b
  ·exact .inr (third b h)
  ·exact .inl (Ir.kept b hb h)
 ·intro b hb
  rcases Ir.SIn b hb with h | h | h
  ·exact .inl h
  ·exact .inr (.inr (third b h))
  ·exact .inr (.inl h)
 ·intro id o h
  obtain ⟨c,o',h1,rfl,rfl⟩:=key id o h
  exact (Ir.objs c o' h1).ren (fromCall ids d) (hβ c (by rw [h1];rfl)) fun i hi=>hβ i (Ir.closedM c o' h1 i hi)
 ·intro id o g h hown hg
  obtain ⟨c,o',h1,rfl,rfl⟩:=key id o h
  rw [isOwn_ren] at hown
  rw [hβ c (by rw [h1];rfl)] at hg
  obtain ⟨h2,h3⟩:=Ir.own c o' g h1 hown hg
  refine ⟨h2,?_⟩
  rcases h3 with h3 | h3
  ·exact .inr (third g h3)
  ·exact .inl h3
 ·intro id m e rows g h hg
  obtain ⟨c,o',h1,h2,rfl⟩:=key id _ h
  rw [hβ c (by rw [h1];rfl)] at hg
  cases o' with
  | box=>cases h2
  | row ow m' e' rows' =>
    simp only [O.ren] at h2
    cases h2
    exact Ir.fro c m e rows g h1 hg
  | lp=>cases h2
  | dead=>cases h2
 ·intro i j o1 o2 g h1 h2 h3 h4 h5 h6
  obtain ⟨c1,p1,a1,rfl,rfl⟩:=key i o1 h1
  obtain ⟨c2,p2,b1,rfl,rfl⟩:=key j o2 h2
  rw [isOwn_ren] at h3 h4
  rw [hβ c1 (by rw [a1];rfl)] at h5
  rw [hβ c2 (by rw [b1];rfl)] at h6
  rw [Ir.inj c1 c2 p1 p2 g a1 b1 h3 h4 h5 h6]
 ·intro i o h id hid
  obtain ⟨c,o',h1,rfl,rfl⟩:=key i o h
  rw [oids_ren] at hid
  obtain ⟨id1,h7,rfl⟩:=List.mem_map.1 hid
  exact .inl (uSome id1 (Ir.closedM c o' h1 id1 h7))
 ·have hs:=Ir.slots 0
  have hcl:=Ir.closedF 0
  simp only [outSt,getF,if_true] at hs hcl
  exact hs.ren (fromCall ids d) fun id hid=>hβ id (hcl id hid)
 ·intro id hid
  have hcl:=Ir.closedF 0
  simp only [outSt,getF,if_true] at hcl
  rw [ids_ren] at hid
  obtain ⟨id1,h7,rfl⟩:=List.mem_map.1 hid
  exact .inl (uSome id1 (hcl id1 h7))
mutual
theorem lendV_ok (I:Inv w0 fp S0 σ a w β S):∀ (x y:V) (u:List (Nat×O)) (v:Value),lendV σ x=some (y,u)→Rep w β S x v→FrzOk σ u∧Rep w β (frS β S u) y v∧∀ id∈y.ids,id∈x.ids
 | .own id,y,u,v,h,hr=>by
   rw [lendV] at h
   obtain ⟨h1,h2,h3⟩:=frz_ok I h hr
   refine ⟨h1,.d h3,fun i hi => ?_⟩
   have:y.ids=[]:=by cases h3<;>simp [V.ids]
   rw [this] at hi;cases hi
 | .cut id m o n,y,u,v,h,hr=>by
   rw [lendV] at h
   obtain ⟨h1,h2,h3⟩:=frz_ok I h hr
   refine ⟨h1,.d h3,fun i hi => ?_⟩
   have:y.ids=[]:=by cases h3<;>simp [V.ids]
   rw [this] at hi;cases hi
 | .agg cs,y,u,v,h,hr=>by
   rw [lendV] at h
   split at h<;>simp at h
   rename_i l u' hl
   obtain ⟨rfl,rfl⟩:=h
   cases hr with
   | d hr=>cases hr
   | agg _ arr hs hone hc =>
     obtain ⟨h1,h2,h3,h4⟩:=lendL_ok I cs l u' arr.toList hl (by simpa using hs) fun i x v hx hv=>hc i x v hx (by simpa using hv)
     exact ⟨h1,.agg l arr (by rw [hs,h2]) hone fun i x v hx hv=>h3 i x v hx (by simpa using hv),fun i hi=>by rw [V.ids] at hi ⊢;exact h4 i hi⟩
 | .p q,y,u,v,h,hr=>by simp only [lendV] at h;cases h;exact ⟨fun _ _ h=>by (cases h),hr.mono (fun _ _=>rfl) (fun _ h=>.inl h) (fun _ _=>rfl),fun _ h=>h⟩
 | .nil,y,u,v,h,hr=>by simp only [lendV] at h;cases h;exact ⟨fun _ _ h=>by (cases h),hr.mono (fun _ _=>rfl) (fun _ h=>.inl h) (fun _ _=>rfl),fun _ h=>h⟩
 | .sl m rows,y,u,v,h,hr=>by simp only [lendV] at h;cases h;exact ⟨fun _ _ h=>by (cases h),hr.mono (fun _ _=>rfl) (fun _ h=>.inl h) (fun _ _=>rfl),fun _ h=>h⟩
 | .rpt cs k,y,u,v,h,hr=>by simp only [lendV] at h;cases h;exact ⟨fun _ _ h=>by (cases h),hr.mono (fun _ _=>rfl) (fun _ h=>.inl h) (fun _ _=>rfl),fun _ h=>h⟩
 | .ptr id k,y,u,v,h,hr=>by simp only [lendV] at h;cases h;exact ⟨fun _ _ h=>by (cases h),hr.mono (fun _ _=>rfl) (fun _ h=>.inl h) (fun _ _=>rfl),fun _ h=>h⟩
 | .ept id m k j,y,u,v,h,hr=>by simp only [lendV] at h;cases h;exact ⟨fun _ _ h=>by (cases h),hr.mono (fun _ _=>rfl) (fun _ h=>.inl h) (fun _ _=>rfl),fun _ h=>h⟩
 | .tup vs,y,u,v,h,hr=>by simp only [lendV] at h;cases h;exact ⟨fun _ _ h=>by (cases h),hr.mono (fun _ _=>rfl) (fun _ h=>.inl h) (fun _ _=>rfl),fun _ h=>h⟩
 | .fn f cs,y,u,v,h,hr=>by simp only [lendV] at h;cases h;exact ⟨fun _ _ h=>by (cases h),hr.mono (fun _ _=>rfl) (fun _ h=>.inl h) (fun _ _=>rfl),fun _ h=>h⟩
 | .yld id,y,u,v,h,hr=>by simp only [lendV] at h;cases h;exact ⟨fun _ _ h=>by (cases h),hr.mono (fun _ _=>rfl) (fun _ h=>.inl h) (fun _ _=>rfl),fun _ h=>h⟩
 | .bsl id m n,y,u,v,h,hr=>by simp only [lendV] at h;cases h;exact ⟨fun _ _ h=>by (cases h),hr.mono (fun _ _=>rfl) (fun _ h=>.inl h) (fun _ _=>rfl),fun _ h=>h⟩
 | .bad,y,u,v,h,hr=>by simp only [lendV] at h;cases h;exact ⟨fun _ _ h=>by (cases h),hr.mono (fun _ _=>rfl) (fun _ h=>.inl h) (fun _ _=>rfl),fun _ h=>h⟩
theorem lendL_ok (I:Inv w0 fp S0 σ a w β S):∀ (cs ys:List V) (u:List (Nat×O)) (l:List Value),lendL σ cs=some (ys,u)→l.length=cs.length→(∀ (i:Nat) x v,cs[i]?=some x→l[i]?=some v→Rep w β S x v) →
  FrzOk σ u∧ys.length=cs.length∧(∀ (i:Nat) y v,ys[i]?=some y→l[i]?=some v→Rep w β (frS β S u) y v)∧∀ id∈V.idsL ys,id∈V.idsL cs
 | [],ys,u,l,h,hl,_=>by
   rw [lendL] at h
   cases h
   exact ⟨fun _ _ h=>by (cases h),rfl,by simp,fun _ h=>h⟩
 | c::r,ys,u,l,h,hl,hr=>by
   cases l with
   | nil=>simp at hl
   | cons v l =>
     rw [lendL] at h
     split at h<;>simp at h
     rename_i x u1 y u2 h1 h2
     obtain ⟨rfl,rfl⟩:=h
     obtain ⟨a1,a2,a3⟩:=lendV_ok I c x u1 v h1 (hr 0 c v (by simp) (by simp))
     obtain ⟨b1,b2,b3,b4⟩:=lendL_ok I r y u2 l h2 (by simpa using hl) fun i x v hx hv=>hr (i+1) x v (by simpa using hx) (by simpa using hv)
     refine ⟨a1.append b1,by simp [b2],fun i z q hz hq => ?_,fun id hid => ?_⟩
     ·cases i with
      | zero=>simp at hz hq;subst hz hq;exact a2.mono (fun _ _=>rfl) frS_left (fun _ _=>rfl)
      | succ i=>simp at hz hq;exact (b3 i z q hz hq).mono (fun _ _=>rfl) frS_right (fun _ _=>rfl)
     ·rw [V.idsL] at hid ⊢
      rcases List.mem_append.1 hid with h | h
      ·exact List.mem_append_left _ (a3 id h)
      ·exact List.mem_append_right _ (b4 id h)
end
theorem flat_rep {r:V} (h:flatV r=true) {v:Value} {w':World} {β':Nat→Value} {S':Nat→Prop} (hr:Rep w β S r v):Rep w' β' S' r v:=by
 cases r<;>simp [flatV] at h
 case p q=>have e:=rep_p hr;subst e;exact .d (.p _)
 case tup vs =>
  cases hr with
  | d hr=>cases hr
  | tup _ arr hs hc =>
    refine .tup vs arr hs fun i x v hx hv => ?_
    have:=h x (List.mem_of_getElem? hx)
    have h2:=hc i x v hx hv
    cases x<;>simp at this
    have e:=rep_p h2
    subst e
    exact .d (.p _)
theorem flat_ids {r:V} (h:flatV r=true):r.ids=[]:=by
 cases r<;>simp [flatV] at h
 case p q=>simp [V.ids]
 case tup vs =>
  rw [V.ids]
  induction vs with
  | nil=>simp [V.idsL]
  | cons c l ih =>
    have h0:=h c (by simp)
    cases c<;>simp at h0
    rw [V.idsL,ih fun x hx=>h x (by simp [hx])]
    simp [V.ids]
theorem flat_ren {r:V} (h:flatV r=true) (f:Nat→Nat):r.ren f=r:=by
 cases r<;>simp [flatV] at h
 case p q=>simp [V.ren]
 case tup vs =>
  rw [V.ren,renL_map]
  congr 1
  conv=>rhs;rw [←List.map_id vs]
  refine List.map_congr_left fun x hx => ?_
  have h0:=h x hx
  cases x<;>simp at h0
  simp [V.ren]
theorem isPV_p {x:V} (h:isPV x=true):∃ q,x=.p q:=by
 cases x<;>simp [isPV] at h
 exact ⟨_,rfl⟩
theorem flatO_box {o:O} (h:flatO o=true):∃ ty cells,o=.box ty cells∧∀ x∈cells,∃ q,x=.p q:=by
 cases o<;>simp [flatO] at h
 exact ⟨_,_,rfl,fun x hx=>isPV_p (h x hx)⟩
theorem flatO_ren {o:O} (h:flatO o=true) (f:Nat→Nat):o.ren f=o:=by
 obtain ⟨ty,cells,rfl,hc⟩:=flatO_box h
 rw [O.ren,renL_map]
 congr 1
 conv=>rhs;rw [←List.map_id cells]
 refine List.map_congr_left fun x hx => ?_
 obtain ⟨q,rfl⟩:=hc x hx
 simp [V.ren]
theorem UpdOk.flat (I:Inv w0 fp S0 σ a w β S) {fz:List (Nat×O)} (f1:FrzOk σ fz) {r:V} {u:List (Nat×O)} {v':Value} {w':World} {β':Nat→Value} {S':Nat→Prop}
  (U:UpdOk w0 fp (σ.put none .bad fz) w β (frS β S fz) r u v' w' β' S') (hr:flatV r=true) (hu:∀ id o,getM u id=some o→∃ ty cells,o=.box ty cells∧∀ x∈cells,∃ q,x=.p q):UpdOk w0 fp σ w β S r u v' w' β' S:=by
 have own':∀ id o,getM (σ.put none .bad fz).M id=some o→o.isOwn=true→getM σ.M id=some o:=fun id o h1 h2=>by
  simp only [St.put,getM_append] at h1
  cases hq:getM fz id with
  | none=>simpa [hq] using h1
  | some o' =>
    rw [hq] at h1
    simp only [Option.some.injEq] at h1
    obtain ⟨own,m,e',r',_,e2⟩:=f1 id o' hq
    rw [←h1,e2] at h2
    cases h2
 refine { new:=fun id=>(U.new id).imp_right fun h => ?_,os:=U.os,tape:=U.tape,output:=U.output,grow:=U.grow,touch:=fun b hb=>(U.touch b hb).imp_right fun ⟨id,o,h1,h2,h3,h4⟩=>⟨id,o,own' id o h1 h2,h2,h3,h4⟩,S1:=fun _ h=>h,S2:=fun b hb=>Nat.lt_of_lt_of_le (I.Slt b hb) U.grow,S4:=fun _ h=>.inl h,objs:=fun id o h => ?_,own:=fun id o g h1 h2 h3 => ?_,fro:=fun id m e rows g h => ?_,inj:=U.inj,closedM:=fun i o h id hid => ?_,rep:=flat_rep hr U.rep,closedV:=fun id hid=>by rw [flat_ids hr] at hid;cases hid }
 ·simp only [St.put,getM_append] at h
  cases hq:getM fz id with
  | none=>simpa [hq] using h
  | some o'=>rw [hq] at h;cases h
 ·obtain ⟨ty,cells,rfl,hc⟩:=hu id o h
  obtain ⟨g,arr,e1,e2,e3,e4,e5⟩:=U.objs id _ h
  refine ⟨g,arr,e1,e2,e3,e4,fun i x v hx hv => ?_⟩
  obtain ⟨q,rfl⟩:=hc x (List.mem_of_getElem? hx)
  have e:=rep_p (e5 i _ v hx hv)
  subst e
  exact .d (.p _)
 ·obtain ⟨q1,q2⟩:=U.own id o g h1 h2 h3
  exact ⟨fun hs=>q1 (U.S1 g (.inl hs)),q2.imp_right fun ⟨id,o,h1,h2,h3,h4⟩=>⟨id,o,own' id o h1 h2,h2,h3,h4⟩⟩
 ·obtain ⟨ty,cells,e,_⟩:=hu _ _ h
  cases e
 ·obtain ⟨ty,cells,rfl,hc⟩:=hu _ _ h
  rw [O.ids] at hid
  exfalso
  clear h
  induction cells with
  | nil=>simp [V.idsL] at hid
  | cons c l ih =>
    obtain ⟨q,rfl⟩:=hc c (by simp)
    rw [V.idsL] at hid
    simp only [V.ids,List.nil_append] at hid
    exact ih (fun x hx=>hc x (by simp [hx])) hid
theorem getM_zip_mem:∀ (ids:List Nat) (os:List O) (id:Nat) (o:O),getM (ids.zip os) id=some o→o∈os
 | [],os,id,o,h=>by simp [getM] at h
 | i::ids,[],id,o,h=>by simp [getM] at h
 | i::ids,q::os,id,o,h=>by
   simp only [List.zip_cons_cons,getM] at h
   split at h
   ·cases h;simp
   ·exact List.mem_cons_of_mem _ (getM_zip_mem ids os id o h)
end
end Go.Proofs.YtbnnmplkbpgcaaaDoorV