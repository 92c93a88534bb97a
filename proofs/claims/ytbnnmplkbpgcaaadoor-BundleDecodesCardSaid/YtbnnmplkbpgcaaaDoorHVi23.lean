/- The value interpreter: the data of a law's parameters,and the law's call. -/
import Derived.WalkSpells
import Derived.Lib.LazyBuf
import Derived.Test.YtbnnmplkbpgcaaaDoorHVi22
import Derived.ProofKit
import Derived.OpenShut
import Derived.SizedLaws
import Derived.Below
namespace Go.Proofs.YtbnnmplkbpgcaaaDoorV
open Go Go.RowKit
open Go.ChangeShapes Go.WideShapes Go.ChangeAt
set_option linter.unusedVariables false
set_option linter.unusedSimpArgs false
def RDs (W:World) (l:List V) (cs:List Value):Prop:=l.length=cs.length∧∀ (i:Nat) x v,l[i]?=some x→cs[i]?=some v→RepD W (fun b=>b<W.heap.size) x v∧v.oneCell'=true
def OpensV {α:Type} (P:Program) (enc:α→List V) (t:TypeId) (G:α→Prop):Prop :=
 (∀ x,(enc x).length=P.cellsOf t)∧∀ {H:Type} {en:TypeId×Value→H} {W:World} {base:Nat} {spare:Nat→Bool} {held:Bool} {fuel:Nat} {cs:List Value} {x:DataW H×List MemPlace},
  DataW.trod en P W base spare held fuel t cs=some x→(∀ n∈x.1.weights P t,n≤140737488351232)→∃ v,RDs W (enc v) cs∧G v
theorem RDs_one {W:World} {x:V} {v:Value} (h:RepD W (fun b=>b<W.heap.size) x v) (h1:v.oneCell'=true):RDs W [x] [v] :=
 ⟨rfl,fun i y u hy hu=>by
  cases i with
  | zero=>simp at hy hu;subst hy hu;exact ⟨h,h1⟩
  | succ i=>simp at hy⟩
theorem OpensV.int {P:Program} {t:TypeId} {k:IntKind} (ht:P.underlying t=some (.int k)) (hc:P.cellsOf t=1):OpensV P (fun n:Int=>[.p (.int k n)]) t (fun n=>(Lit.int k n).wf=true) :=
 ⟨fun _=>hc.symm,fun h _=>by
  obtain ⟨n,rfl,_,hw⟩:=DataW.trod_int ht h
  exact ⟨n,RDs_one (.p _) rfl,hw⟩⟩
theorem OpensV.bool {P:Program} {t:TypeId} (ht:P.underlying t=some .bool) (hc:P.cellsOf t=1):OpensV P (fun b:Bool=>[.p (.bool b)]) t (fun _=>True) :=
 ⟨fun _=>hc.symm,fun h _=>by
  obtain ⟨b,rfl,_⟩:=DataW.trod_bool ht h
  exact ⟨b,RDs_one (.p _) rfl,trivial⟩⟩
theorem OpensV.string {P:Program} {t:TypeId} (ht:P.underlying t=some .string) (hc:P.cellsOf t=1):OpensV P (fun s:ByteArray=>[.p (.string s)]) t (fun s=>s.size≤140737488351232) :=
 ⟨fun _=>hc.symm,fun h hw=>by
  obtain ⟨s,rfl,rfl,hs⟩:=DataW.trod_string ht h
  refine ⟨s,RDs_one (.p _) rfl,?_⟩
  have:=hw s.data.toList.length (by simp [DataW.weights])
  show s.data.size≤_
  rw [←Array.length_toList]
  exact this⟩
theorem rowOf {α:Type} {Q:Nat→α→Prop}:∀ (n:Nat),(∀ i,i<n→∃ v,Q i v)→∃ l:List α,l.length=n∧∀ i v,l[i]?=some v→Q i v
 | 0,_=>⟨[],rfl,by simp⟩
 | n+1,h=>by
   obtain ⟨l,hl,hq⟩:=rowOf n fun i hi=>h i (by omega)
   obtain ⟨v,hv⟩:=h n (by omega)
   refine ⟨l++[v],by simp [hl],fun i u hu => ?_⟩
   by_cases hi:i<l.length
   ·rw [List.getElem?_append_left hi] at hu
    exact hq i u hu
   ·have hlt:=(List.getElem?_eq_some_iff.1 hu).1
    simp at hlt
    obtain rfl:i=n:=by omega
    rw [List.getElem?_append_right (by omega)] at hu
    simp [hl] at hu
    subst hu
    exact hv
theorem weightsAll_mem {H:Type} {P:Program} {e:TypeId}:∀ {ds:List (DataW H)} {d:DataW H},d∈ds→∀ n∈d.weights P e,n∈DataW.weightsAll P e ds
 | d0::ds,d,h,n,hn=>by
   simp only [DataW.weightsAll,List.mem_append]
   rcases List.mem_cons.1 h with h | h
   ·subst h
    exact .inl hn
   ·exact .inr (weightsAll_mem h n hn)
theorem OpensV.slice {α:Type} {P:Program} {enc:α→List V} {t e:TypeId} {G:α→Prop} (m:Nat) (ht:P.underlying t=some (.slice e)) (hc:P.cellsOf t=1) (hm:P.cellsOf e=m) (hm0:0<m) {B:Nat} (hB:P.bytesOf e=B) (h:OpensV P enc e G) :
  OpensV P (fun xs:List α=>[.sl m (xs.map enc)]) t (fun xs=>xs.length≤maxLen∧xs.length * B≤140737488351232∧∀ x∈xs,G x):=by
 subst hm
 refine ⟨fun _=>hc.symm,fun {H en W base spare held fuel cs x} hx hw => ?_⟩
 rcases DataW.trod_slice ht hx with ⟨rfl,rfl⟩ | ⟨a,len,cap,elems,rest,n,_,rfl,rfl,hb,hl,hmx,hlen,hel,hsp,hns⟩
 ·exact ⟨[],RDs_one (.sl0 _ _ _) rfl,by simp,by simp,by simp⟩
 ·simp only [DataW.weights,ht,List.mem_cons,List.mem_append] at hw
  have hsz:=hw _ (.inl rfl)
  rw [hB,List.length_map,hlen] at hsz
  have hsz2:len * B≤140737488351232:=Nat.le_trans (Nat.mul_le_mul_right B (Nat.le_add_right _ _)) hsz
  have each:∀ i,i<len→∃ v,(∃ c,RDs W (enc v) c∧∀ (j:Nat) u,c[j]?=some u→W.cell? (a.add (i * P.cellsOf e+j))=some u)∧G v:=by
   intro i hi
   have hE:=hel i hi
   have hei:elems[i]?=some elems[i]:=List.getElem?_eq_getElem (by omega)
   rw [hei,Option.bind_eq_some_iff] at hE
   obtain ⟨c,hcs,hy⟩:=hE
   obtain ⟨_,hcl,hcell⟩:=World.cells?_some hcs
   obtain ⟨v,hk,hg⟩:=h.2 hy fun n hn=>hw n (.inr (.inl (weightsAll_mem (List.mem_map_of_mem (List.getElem_mem (show i<elems.length by omega))) n hn)))
   refine ⟨v,⟨c,hk,fun j u hu => ?_⟩,hg⟩
   have hj:j<P.cellsOf e:=by
    have:=(List.getElem?_eq_some_iff.1 hu).1
    omega
   have h1:=hcell j hj
   rw [hu] at h1
   rw [Addr.add_add] at h1
   exact h1
  obtain ⟨l,hll,hq⟩:=rowOf (α:=α) len each
  refine ⟨l,?_,by rw [hll];exact Nat.le_trans hl hmx,by rw [hll];exact hsz2,fun x hx => ?_⟩
  ·by_cases h0:len=0
   ·have:l=[]:=List.eq_nil_of_length_eq_zero (by omega)
    subst this
    subst h0
    exact RDs_one (.sl0 _ _ _) rfl
   ·have cells:∀ (k:Nat) p (j:Nat) x,l[k]?=some p→(enc p)[j]?=some x→∃ v,W.cell? (a.add (k * P.cellsOf e+j))=some v∧v.oneCell'=true∧RepD W (fun b=>b<W.heap.size) x v:=fun k p j x hp hx=>by
     obtain ⟨⟨c,hc1,hc2⟩,_⟩:=hq k p hp
     have hjl:j<c.length:=by rw [←hc1.1];exact (List.getElem?_eq_some_iff.1 hx).1
     obtain ⟨hr,ho⟩:=hc1.2 j x c[j] hx (List.getElem?_eq_getElem hjl)
     exact ⟨c[j],hc2 j _ (List.getElem?_eq_getElem hjl),ho,hr⟩
    have hp0:l[0]?=some l[0]:=List.getElem?_eq_getElem (by omega)
    have hx0:(enc l[0])[0]?=some ((enc l[0])[0]'(by rw [h.1];exact hm0)):=List.getElem?_eq_getElem _
    obtain ⟨v0,c0,_⟩:=cells 0 _ 0 _ hp0 hx0
    obtain ⟨b,off,spot⟩:=a
    have hspot:spot=none:=by
     cases spot with
     | none=>rfl
     | some s=>simp [World.cell?,Addr.add] at c0;split at c0<;>simp at c0
    subst hspot
    have hbl:b<W.heap.size:=by
     have:=World.block_lt_of_cell? W _ c0
     simpa [Addr.add_lit] using this
    have hex:∀ kj:Nat×Nat,∃ v:Value,∀ p x,l[kj.1]?=some p→(enc p)[kj.2]?=some x→W.cell? ⟨b,off+kj.1 * P.cellsOf e+kj.2,none⟩=some v∧v.oneCell'=true∧RepD W (fun b=>b<W.heap.size) x v:=fun ⟨k,j⟩=>by
     by_cases hq2:∃ p x,l[k]?=some p∧(enc p)[j]?=some x
     ·obtain ⟨p,x,h1,h2⟩:=hq2
      obtain ⟨v,e1,e2,e3⟩:=cells k p j x h1 h2
      refine ⟨v,fun p' x' h1' h2' => ?_⟩
      simp only at h1' h2'
      rw [h1] at h1';cases h1'
      rw [h2] at h2';cases h2'
      rw [Addr.add_lit] at e1
      exact ⟨by rw [Nat.add_assoc];exact e1,e2,e3⟩
     ·exact ⟨undef,fun p x h1 h2=>absurd ⟨p,x,h1,h2⟩ hq2⟩
    obtain ⟨f,hf⟩:=Classical.axiomOfChoice hex
    have hrow:∀ (k:Nat) r,(l.map enc)[k]?=some r→∃ p,l[k]?=some p∧enc p=r:=fun k r hk=>by
     rw [List.getElem?_map,Option.map_eq_some_iff] at hk
     exact hk
    have:=RepD.sl (w:=W) (S:=fun b=>b<W.heap.size) (P.cellsOf e) (l.map enc) b off cap (fun k j=>f (k,j)) hbl (by simpa [hll] using hl) (fun r hr=>by obtain ⟨p,_,rfl⟩:=List.mem_map.1 hr;exact h.1 p)
     (fun k r j x hk hj=>by obtain ⟨p,h1,rfl⟩:=hrow k r hk;exact (hf (k,j) p x h1 hj).1)
     (fun k r j x hk hj=>by obtain ⟨p,h1,rfl⟩:=hrow k r hk;exact (hf (k,j) p x h1 hj).2.1)
     (fun k r j x hk hj=>by obtain ⟨p,h1,rfl⟩:=hrow k r hk;exact (hf (k,j) p x h1 hj).2.2)
    rw [List.length_map,hll] at this
    exact RDs_one this rfl
  ·obtain ⟨i,hi⟩:=List.getElem?_of_mem hx
   exact (hq i x hi).2
def OpensVF {α:Type} (P:Program) (enc:α→List V) (sz:Nat) (fs:List Field) (o:Nat) (G:α→Prop):Prop :=
 (∀ x,(enc x).length=sz) ∧
 ∀ {H:Type} {en:TypeId×Value→H} {W:World} {base:Nat} {spare:Nat→Bool} {held:Bool} {fuel:Nat} {cs:List Value} {xs:List (DataW H×List MemPlace)},
  o+sz≤cs.length→(∀ (i:Nat) (f:Field),fs[i]?=some f→∃ x,xs[i]?=some x∧DataW.trod en P W base spare held fuel f.type ((cs.drop f.offset).take (P.cellsOf f.type))=some x∧∀ n∈x.1.weights P f.type,n≤140737488351232)→∃ v,RDs W (enc v) ((cs.drop o).take sz)∧G v
theorem OpensVF.one {α:Type} {P:Program} {enc:α→List V} {f:Field} {o:Nat} {G:α→Prop} (ho:f.offset=o) (h:OpensV P enc f.type G):OpensVF P enc (P.cellsOf f.type) [f] o G:=by
 refine ⟨h.1,fun {H en W base spare held fuel cs xs} hl hx => ?_⟩
 obtain ⟨x,_,ht,hw⟩:=hx 0 f rfl
 obtain ⟨v,hk,hg⟩:=h.2 ht hw
 rw [ho] at hk
 exact ⟨v,hk,hg⟩
theorem RDs_append {W:World} {l1 l2:List V} {c1 c2:List Value} (h1:RDs W l1 c1) (h2:RDs W l2 c2):RDs W (l1++l2) (c1++c2):=by
 refine ⟨by rw [List.length_append,List.length_append,h1.1,h2.1],fun i x v hx hv => ?_⟩
 by_cases hi:i<l1.length
 ·rw [List.getElem?_append_left hi] at hx
  rw [List.getElem?_append_left (by rw [←h1.1];exact hi)] at hv
  exact h1.2 i x v hx hv
 ·rw [List.getElem?_append_right (by omega)] at hx
  rw [List.getElem?_append_right (by rw [←h1.1];omega),←h1.1] at hv
  exact h2.2 _ x v hx hv
theorem OpensVF.cons {α β:Type} {P:Program} {ea:α→List V} {eb:β→List V} {f:Field} {fs:List Field} {o sz:Nat} {G:α→Prop} {G':β→Prop} (ho:f.offset=o) (h:OpensV P ea f.type G) (h':OpensVF P eb sz fs (o+P.cellsOf f.type) G') :
  OpensVF P (fun x:α×β=>ea x.1++eb x.2) (P.cellsOf f.type+sz) (f::fs) o (fun x=>G x.1∧G' x.2):=by
 refine ⟨fun x=>by rw [List.length_append,h.1,h'.1],fun {H en W base spare held fuel cs xs} hl hx => ?_⟩
 obtain ⟨x,_,ht,hw⟩:=hx 0 f rfl
 obtain ⟨v,hk,hg⟩:=h.2 ht hw
 rw [ho] at hk
 obtain ⟨v',hk',hg'⟩:=h'.2 (cs:=cs) (xs:=xs.tail) (by omega) fun i g hgi=>by
  obtain ⟨x,hx1,hx2⟩:=hx (i+1) g hgi
  exact ⟨x,by rw [List.getElem?_tail];exact hx1,hx2⟩
 refine ⟨(v,v'),?_,hg,hg'⟩
 rw [List.take_add,List.drop_drop]
 exact RDs_append hk hk'
theorem OpensV.struct {α:Type} {P:Program} {enc:α→List V} {t:TypeId} {fs:Array Field} {sz:Nat} {G:α→Prop} (ht:P.underlying t=some (.struct fs)) (hc:sz=P.cellsOf t) (h:OpensVF P enc sz fs.toList 0 G):OpensV P enc t G:=by
 refine ⟨fun x=>(h.1 x).trans hc,fun {H en W base spare held fuel cs x} hx hw => ?_⟩
 obtain ⟨xs,n,_,rfl,hl,hxl,hf⟩:=DataW.trod_struct ht hx
 simp only [DataW.weights,ht] at hw
 obtain ⟨v,hk,hg⟩:=h.2 (cs:=cs) (xs:=xs) (en:=en) (W:=W) (base:=base) (spare:=spare) (held:=held) (fuel:=n) (by omega) fun i f hfi=>by
  rw [Array.getElem?_toList] at hfi
  have h1:=hf i f hfi
  have hi:i<xs.length:=by
   have:=(Array.getElem?_eq_some_iff.1 hfi).1
   omega
  refine ⟨xs[i],List.getElem?_eq_getElem hi,by rw [h1,List.getElem?_eq_getElem hi],fun m hm=>hw m (DataW.weights_mem_each (j:=i) (t:=f.type) (d:=xs[i].1) ?_ ?_ m hm)⟩
  ·rw [List.getElem?_map,Array.getElem?_toList,hfi];rfl
  ·rw [List.getElem?_map,List.getElem?_eq_getElem hi];rfl
 rw [List.drop_zero,hc,←hl,List.take_length] at hk
 exact ⟨v,hk,hg⟩
theorem OpensV.arg {α:Type} {P:Program} {enc:α→List V} {t:TypeId} {G:α→Prop} (h:OpensV P enc t G) {H:Type} {en:TypeId×Value→H} {W:World} {base:Nat} {spare:Nat→Bool} {held:Bool} {v:Value} {d:DataW H} {p:List MemPlace} {ts:List TypeId} {ds:List (DataW H)} {j:Nat}
  (hsz:(DataW.weightsEach P ts ds).all (· ≤ reachBytes)=true) (ht:ts[j]?=some t) (hd:ds[j]?=some d) (hv:DataW.Trod en P W base spare held t v d p):∃ x,RDs W (enc x) v.cells.toList∧G x:=by
 obtain ⟨fuel,hf⟩:=hv
 refine h.2 hf fun n hn => ?_
 have:=List.all_eq_true.1 hsz n (DataW.weights_mem_each ht hd n hn)
 exact of_decide_eq_true this
theorem RDs.cell {W:World} {x:V} {v:Value} {β:Nat→Value} (h:RDs W [x] v.cells.toList) (h1:v.cells = #[v]):Rep W β (fun b=>b<W.heap.size) x v:=by
 rw [h1] at h
 exact .d (h.2 0 x v rfl rfl).1
theorem does_calls {P:Program} {f:FuncId} {vals:Array Value} {w:World} {R:Ending→World→Prop} (hf:f<YB) (h:Does P f vals w R):FnOk P f∧Calls P f vals w R:=by
 unfold Does at h
 rwa [if_pos hf] at h
theorem law_calls {P:Program} (hm:P.follows .mixedOrders=true) {ctx:FuncId→Option (List V→List O→Option (V×List O×List O))} (hctx:CtxOk P ctx) {h:Hints} {k:Nat} {f:FuncId} {args:List V} {vals:Array Value} {W:World} (hfY:f<YB)
  (hc:callV P ctx h k f args []=some (.p (.bool true),[],[])) (hl:vals.size=args.length) (hr:∀ (i:Nat) x v,args[i]?=some x→vals[i]?=some v→Rep W (fun _=>undef) (fun b=>b<W.heap.size) x v) (hids:V.idsL args=[])
  (hlay:∀ g cs,lay g=some cs→V.idsL cs=[]∧∀ β,Rep W β (fun b=>b<W.heap.size) (.rpt cs 0) ((⟨#[],[]⟩:Act).eval (.global g))) :
  Calls P f vals W fun e W'=>e=.returned (.bool true)∧Below W.heap.size W W':=by
 have I:Inv W (fun _=>False) (baseOf (fun b=>b<W.heap.size) (fun _=>undef) ([]:List O).length) (inSt args [] vals.size) ⟨vals,[]⟩ W (fun _=>undef) (fun b=>b<W.heap.size):=by
  refine { defers:=Marks.nil,size:=rfl,slots:=fun t => ?_,objs:=fun id o h=>(by cases h),own:=fun id o g h=>(by cases h),fro:=fun id m e rows g h=>(by cases h),inj:=fun i j o o' g h=>(by cases h),closedF:=fun t id hid => ?_,closedM:=fun i o h=>(by cases h),Slt:=fun b h=>h,S0S:=fun b h=>h,SIn:=fun b h=>.inl h,ext:=fun i hi=>(by cases hi),os:=rfl,tape:=rfl,output:=rfl,grow:=Nat.le_refl _,kept:=fun _ _ _=>rfl,laid:=hlay }
  ·simp only [inSt,getF_params,Nat.zero_le,if_true,Nat.sub_zero]
   cases hx:args[t]? with
   | none=>exact .bad _
   | some x =>
     have hlt:t<vals.size:=by rw [hl];exact (List.getElem?_eq_some_iff.1 hx).1
     simpa [hlt] using hr t x vals[t] hx (by simp [hlt])
  ·exfalso
   simp only [inSt,getF_params,Nat.zero_le,if_true,Nat.sub_zero] at hid
   cases hx:args[t]? with
   | none=>rw [hx] at hid;simp [V.ids] at hid
   | some x =>
     rw [hx] at hid
     have:=idsL_mem hx hid
     rw [hids] at this
     cases this
 have hd:=(callV_ok hm hctx k) f args [] _ [] [] hc W (fun _=>False) (fun b=>b<W.heap.size) (fun _=>undef) vals hl (by simp) I
 have this:=(does_calls hfY hd).2
 refine this.mono fun e W' hp => ?_
 obtain ⟨v',β',S',rfl,_,_,I'⟩:=hp
 have hs:=I'.slots 0
 simp only [outSt,getF,if_true] at hs
 have hv:v'=.bool true:=by simpa using rep_p hs
 subst hv
 exact ⟨rfl,I'.os,I'.tape,I'.output,I'.grow,fun b hb=>I'.kept b hb (fun h=>h)⟩
open Go Go.RowKit
def cloneS (m:Nat) (e:TypeId) (bytes:Nat):List V→List O→Option (V×List O×List O)
 | [.sl m' rows],[]=>if m'=m∧rows.length * bytes≤roomy then some (.own RetB,[],[.row true m e rows]) else none
 | [.nil],[]=>some (.own RetB,[],[.row true m e []])
 | _,_=>none
def cloneBody (t:TypeId) (p0 p1 p2 p3:String) (b:TypeId) (e2:Array Edge):Code :=
 .seq (.region 0 #[⟨some 2,.assign (.const (.slice none 0 0)),t,p0,#[],none⟩] false)
  (.seq (.seq (.region 1 #[⟨some 3,.move (.tmp 0),t,p1,#[],none⟩,⟨some 4,.binOp .eql t (.tmp 3) (.const (.slice none 0 0)) t,b,p1,#[⟨0,.data⟩],none⟩] false)
   (.cond (.tmp 4) (.seq (.region 2 #[⟨some 2,.assign (.const (.slice none 0 0)),t,p2,#[],none⟩] false) .ret) .skip))
   (.seq (.region 3 #[⟨some 5,.buildSlice t 0 #[],t,p3,#[],none⟩,⟨some 6,.move (.tmp 0),t,p3,#[],none⟩,
    ⟨some 7,.call { callee:=.builtin .append,args:=#[.tmp 5,.tmp 6],argTypes:=#[t,t] },t,p3,#[⟨0,.data⟩,⟨1,.data⟩],none⟩,⟨some 2,.assign (.tmp 7),t,p3,e2,none⟩] false) .ret))
section
variable {P:Program}
def nh:Hints:={ gives:=fun _=>false,keep:=fun _ _=>none,head:=fun _ _=>none,canon:=fun _ _=>[],frz:=fun _ _=>[],soft:=fun _ _=>[] }
theorem post_nil {w:World} {fp:Nat→Prop} {B:Base} (hB:B.k=0) {m:Nat} (hm:0<m) {e:TypeId} {en:Ending} {w':World} (h:Post w fp B .nil [] [] en w'):Post w fp B (.own RetB) [] [.row true m e []] en w':=by
 obtain ⟨v',β',S',rfl,h2,h3,I⟩:=h
 have hv:=I.slots 0
 simp only [outSt,getF,if_true] at hv
 have hv:v'=.slice none 0 0:=by simpa using rep_nil hv
 subst hv
 have hr:Rep w' (upd β' RetB (.slice none 0 0)) S' (.own RetB) (.slice none 0 0):=by
  have:=Rep.own (w:=w') (β:=upd β' RetB (.slice none 0 0)) (S:=S') RetB (by rw [upd_same];rfl)
  rwa [upd_same] at this
 have U:UpdOk w fp (outSt .nil [] []) w' β' S' (.own RetB) [(RetB,.row true m e [])] (.slice none 0 0) w' (upd β' RetB (.slice none 0 0)) S' :=
  UpdOk.create I (by simp [outSt,idxs,getM]) (o:=.row true m e []) (hv:=.slice none 0 0) rfl rfl rfl (Nat.le_refl _) (fun _ _=>rfl) (fun g hg=>by cases hg) rfl ⟨hm,by simp,[],by rw [upd_same];exact World.ownsRow_nil w' 0 e m,by simp,by simp⟩ (fun id hid=>by cases hid) hr (fun id hid=>.inl (by simpa [V.ids] using hid))
 have I2:=I.upd U (dst:=some 0) rfl
 refine ⟨.slice none 0 0,upd β' RetB (.slice none 0 0),S',rfl,h2,h3,?_⟩
 have:(⟨#[.slice none 0 0],[]⟩:Act).put (some 0) (.slice none 0 0)=⟨#[.slice none 0 0],[]⟩:=rfl
 rw [this] at I2
 refine I2.eqv ⟨rfl,fun t => ?_,fun id => ?_⟩
 ·simp only [outSt,St.put,getF]
  split<;>rfl
 ·simp [outSt,St.put,idxs,getM]
theorem wl {ops:Array Oper} {Q:Exit→Act→World→Prop} {o:Oper} {rest:List Oper} {a:Act} {w:World} (hg:o.guard=none) {v:Value} (hr:(execOp a.eval o).run P w=.ok (.value v) w) (h:wpList P ops Q rest (a.put o.dst v) w):wpList P ops Q (o::rest) a w:=by
 unfold wpList
 rw [if_pos (by simp [Region.wanted,hg])]
 refine .inl ?_
 unfold Oper.wp
 rw [hr]
 exact h
theorem clone_ok (hm : P.follows .mixedOrders = true) {f : FuncId} {fn : Func} {t e b : TypeId} {i : TypeInfo} {z : List V} {p0 p1 p2 p3 : String} {e2 : Array Edge} (hfn : P.funcs[f]? = some fn) (hb : fn.body = some (cloneBody t p0 p1 p2 p3 b e2)) (hname : fn.name ≠ "runtime.NumGoroutine") (hn : fn.ntmps = 8) (hres : fn.results = #[.tmp 2])
  (ht:P.underlying t=some (.slice e)) (hi:P.info? e=some i) (hz:zeroRow i=some z):∀ args exts r exts' news,cloneS i.size e i.bytes args exts=some (r,exts',news) →
  FnOk P f∧∀ (w:World) (fp S:Nat→Prop) (β:Nat→Value) (vals:Array Value),vals.size=args.length→exts.length<1000000 →
   Inv w fp (baseOf S β exts.length) (inSt args exts vals.size) ⟨vals,[]⟩ w β S→Calls P f vals w (Post w fp (baseOf S β exts.length) r exts' news):=by
 intro args exts r exts' news hc
 refine ⟨⟨fn,hfn,hname,by rw [hb];rfl⟩,fun w fp S β vals hl hlt I => ?_⟩
 have hel:elemI P t=some (e,i):=by simp [elemI,ht,hi]
 obtain ⟨zv,_,_,h3,_,_,_⟩:=zeroRow_ok hz
 have hcall:CallOk P (callV P (fun _=>none) nh 0):=fun f args exts r exts' news hc=>by simp only [callV] at hc;cases hc
 have run:∀ (c:Code) (σ:St) (out:Out) (σ':St),exec P (callV P (fun _=>none) nh 0) nh 0 0 none c σ=some (out,σ')→∀ {w0:World} {fp:Nat→Prop} {S0:Base} (a:Act) (w:World) (β:Nat→Value) (S:Nat→Prop),Inv w0 fp S0 σ a w β S→c.wp P (XPost w0 fp S0 out σ') a w :=
  fun c σ out σ' he w0 fp S0 a w β S I=>(wpIn_wide (n:=0)).1 ((exec_ok hcall hm (ro:=none) (n0:=0) c (.inl rfl)).1 σ out σ' he a w β S I)
 have main:∀ (x:V) (rows:List (List V)),(x=.nil∧rows=[]∨x=.sl i.size rows∧rows.length * i.bytes≤roomy)→args=[x]→exts=[]→Calls P f vals w (Post w fp (baseOf S β 0) (.own RetB) [] [.row true i.size e rows]):=by
  rintro x rows hx rfl rfl
  refine (callsIn_wide (n:=0)).1 (callsIn_of_wp_marks (F:=Fence.wide) hfn hb trivial ((wpIn_wide (n:=0)).2 ?_))
  rw [hn]
  have hvs:vals.size=1:=by simpa using hl
  obtain ⟨v0,rfl⟩:∃ v0,vals = #[v0]:=by
   obtain ⟨l⟩:=vals
   cases l with
   | nil=>simp at hvs
   | cons q r =>
     have:r=[]:=List.eq_nil_of_length_eq_zero (by simpa using hvs)
     subst this
     exact ⟨q,rfl⟩
  have hv0:=I.slots 0
  simp only [inSt,params,getF,if_true] at hv0
  have hv0:Rep w β S x v0:=by simpa using hv0
  have hxd:RepD w S x v0:=by
   rcases hx with ⟨rfl,_⟩ | ⟨rfl,_⟩<;>cases hv0 with
   | d h=>exact h
  obtain ⟨a,n,c,hsl,hemp⟩:∃ a n c,v0=.slice a n c∧(a=none→rows=[]):=by
   rcases hx with ⟨rfl,rfl⟩ | ⟨rfl,_⟩
   ·cases hxd;exact ⟨_,_,_,rfl,fun _=>rfl⟩
   ·cases hxd with
    | sl0=>exact ⟨_,_,_,rfl,fun _=>rfl⟩
    | sl=>exact ⟨_,_,_,rfl,fun h=>by cases h⟩
  have hids:x.ids=[]:=by rcases hx with ⟨rfl,_⟩ | ⟨rfl,_⟩<;>simp [V.ids]
  have I0:Inv w fp (baseOf S β 0) { n:=8,F:=[(0,x)],M:=[] } { tmps:=#[v0]++Array.replicate (8 - #[v0].size) undef,defers:=[] } w β S:=by
   refine { defers:=Marks.nil,size:=by simp,slots:=fun q => ?_,objs:=fun id o h=>(by cases h),own:=fun id o g h=>(by cases h),fro:=fun id m e rows g h=>(by cases h),inj:=fun i j o o' g h=>(by cases h),closedF:=fun q id hid => ?_,closedM:=fun i o h=>(by cases h),Slt:=I.Slt,S0S:=I.S0S,SIn:=I.SIn,ext:=fun i hi=>(by cases hi),os:=I.os,tape:=I.tape,output:=I.output,grow:=I.grow,kept:=I.kept,laid:=I.laid }
   ·simp only [getF]
    split
    ·rename_i e;subst e;simpa using hv0
    ·exact .bad _
   ·simp only [getF] at hid
    split at hid
    ·rw [hids] at hid;cases hid
    ·simp [V.ids] at hid
  have norm:∀ {σ1:St} {e:Exit} {a1:Act} {w1:World} {K:Act→World→Prop} {Q:Exit→Act→World→Prop},XPost w fp (baseOf S β 0) .norm σ1 e a1 w1→(∀ β1 S1,Inv w fp (baseOf S β 0) σ1 a1 w1 β1 S1→K a1 w1)→Exit.then K Q e a1 w1:=by
   intro σ1 e a1 w1 K Q hx hk
   cases e with
   | normal=>obtain ⟨_,β1,S1,I1⟩:=hx;exact hk β1 S1 I1
   | exit _=>obtain ⟨h,_⟩:=hx;cases h
   | goto _=>obtain ⟨h,_⟩:=hx;cases h
   | ret=>obtain ⟨h,_⟩:=hx;cases h
   | panic _=>exact hx.elim
   | outgrown=>exact hx.elim
  have U1:=I0.upd (UpdOk.pure I0 (v:=.nil) (v':=.slice none 0 0) (.d .nil) (by simp [V.ids])) (dst:=some 2) rfl
  have U2:=U1.upd (UpdOk.pure U1 (v:=x) (v':=v0) (.d hxd) (by rw [hids];simp)) (dst:=some 3) rfl
  have U3:=U2.upd (UpdOk.pure U2 (v:=.p (.bool a.isNone)) (v':=.bool a.isNone) (.d (.p _)) (by simp [V.ids])) (dst:=some 4) rfl
  generalize hA0:({ tmps:=#[v0]++Array.replicate (8 - #[v0].size) undef,defers:=[] }:Act)=A0 at *
  have g0:A0.eval (.tmp 0)=v0:=by subst hA0;rfl
  have g1:(A0.put (some 2) (.slice none 0 0)).eval (.tmp 0)=v0:=by subst hA0;rfl
  have g2:((A0.put (some 2) (.slice none 0 0)).put (some 3) v0).eval (.tmp 3)=v0:=by subst hA0;rfl
  unfold cloneBody
  refine wp_seq (wp_region_list (wl rfl (v:=.slice none 0 0) rfl ?_))
  show (Code.seq _ _).wp P _ (A0.put (some 2) (.slice none 0 0)) w
  refine wp_seq (wp_seq (wp_region_list (wl rfl (v:=v0) (by simp only [execOp,g1];rfl) (wl rfl (v:=.bool a.isNone) ?_ ?_))))
  ·exact binOp_exec (x:=.tmp 3) (y:=.const (.slice none 0 0)) rfl (by show (eqGuard _ _ _ _ _ (Value.slice none 0 0)).run P w=_;rw [g2,hsl];rfl) (by show (binOp _ _ _ (Value.slice none 0 0)).run P w=_;rw [g2,hsl];exact Lib.run_eql_slice_nil w t e a n c 0 0 ht)
  show (Code.cond _ _ _).wp P _ (((A0.put (some 2) (.slice none 0 0)).put (some 3) v0).put (some 4) (.bool a.isNone)) w
  cases hnil:a.isNone with
  | true =>
    rw [hnil] at U3
    have he:rows=[]:=hemp (by simpa using hnil)
    subst he
    have hx1:exec P (callV P (fun _=>none) nh 0) nh 0 0 none (.cond (.tmp 4) (.seq (.region 2 #[⟨some 2,.assign (.const (.slice none 0 0)),t,p2,#[],none⟩] false) .ret) .skip) (((({ n:=8,F:=[(0,x)],M:=[] }:St).put (some 2) .nil []).put (some 3) x []).put (some 4) (.p (.bool true)) [])=some (.ret,(((({ n:=8,F:=[(0,x)],M:=[] }:St).put (some 2) .nil []).put (some 3) x []).put (some 4) (.p (.bool true)) []).put (some 2) .nil []):=by
     simp [exec,execOps,stepG,guardOn,step,evalV,getF,ofVal,ofVal1,ofCell,St.put,dstOk,endR,frzAll,softAll,normR,nh]
    refine wp_mono (run _ _ _ _ hx1 _ w _ _ U3) fun e1 a1 w1 hq => ?_
    cases e1 with
    | ret =>
      obtain ⟨_,β1,S1,I1⟩:=hq
      have hfin:finish P fn 0 ((((({ n:=8,F:=[(0,x)],M:=[] }:St).put (some 2) .nil []).put (some 3) x []).put (some 4) (.p (.bool true)) []).put (some 2) .nil [])=some (.nil,[],[]):=by
       simp [finish,finishR,hres,resV,oneOf,St.put,getF,V.ids,reach,objsOf,nodupB,V.ren]
      refine marks_okR (fun w' I' => ?_) _ _ I1
      obtain ⟨v,h4,h5⟩:=finish_ok (k:=0) rfl (by decide) I' hfin
      exact ⟨v,h4,post_nil rfl h3 h5⟩
    | normal=>obtain ⟨h,_⟩:=hq;cases h
    | exit _=>obtain ⟨h,_⟩:=hq;cases h
    | goto _=>obtain ⟨h,_⟩:=hq;cases h
    | panic _=>exact hq.elim
    | outgrown=>exact hq.elim
  | false =>
    rw [hnil] at U3
    have hx1:exec P (callV P (fun _=>none) nh 0) nh 0 0 none (.cond (.tmp 4) (.seq (.region 2 #[⟨some 2,.assign (.const (.slice none 0 0)),t,p2,#[],none⟩] false) .ret) .skip) (((({ n:=8,F:=[(0,x)],M:=[] }:St).put (some 2) .nil []).put (some 3) x []).put (some 4) (.p (.bool false)) [])=some (.norm,(((({ n:=8,F:=[(0,x)],M:=[] }:St).put (some 2) .nil []).put (some 3) x []).put (some 4) (.p (.bool false)) [])):=by
     simp [exec,evalV,getF,St.put]
    refine wp_mono (run _ _ _ _ hx1 _ w _ _ U3) fun e1 a1 w1 hq=>norm hq fun β1 S1 I1 => ?_
    have hcont:∀ σ,content σ i.size x=some rows:=fun σ=>by
     rcases hx with ⟨rfl,rfl⟩ | ⟨rfl,_⟩<;>simp [content]
    have hroom:rows.length * i.bytes≤roomy:=by
     rcases hx with ⟨_,rfl⟩ | ⟨_,h⟩
     ·simp
     ·exact h
    have hx2:exec P (callV P (fun _=>none) nh 0) nh 0 0 none (.seq (.region 3 #[⟨some 5,.buildSlice t 0 #[],t,p3,#[],none⟩,⟨some 6,.move (.tmp 0),t,p3,#[],none⟩,
     ⟨some 7,.call { callee:=.builtin .append,args:=#[.tmp 5,.tmp 6],argTypes:=#[t,t] },t,p3,#[⟨0,.data⟩,⟨1,.data⟩],none⟩,⟨some 2,.assign (.tmp 7),t,p3,e2,none⟩] false) .ret) (((({ n:=8,F:=[(0,x)],M:=[] }:St).put (some 2) .nil []).put (some 3) x []).put (some 4) (.p (.bool false)) []) =
     some (.ret,{ n:=8,F:=[(2,.own 7),(7,.own 7),(6,x),(5,.own 5),(4,.p (.bool false)),(3,x),(2,.nil),(0,x)],M:=[(7,.row true i.size e rows),(5,.dead),(5,.row true i.size e [])] }):=by
     simp [exec,execOps,stepG,guardOn,step,evalV,getF,ofVal,ofVal1,ofCell,St.put,dstOk,endR,frzAll,softAll,normR,nh,buildSliceV,hel,hz,getM,fillRows,appendV,hcont,hroom]
    refine wp_mono (run _ _ _ _ hx2 _ w1 _ _ I1) fun e2 a2 w2 hq => ?_
    cases e2 with
    | ret =>
      obtain ⟨_,β2,S2,I2⟩:=hq
      have hfin:finish P fn 0 { n:=8,F:=[(2,.own 7),(7,.own 7),(6,x),(5,.own 5),(4,.p (.bool false)),(3,x),(2,.nil),(0,x)],M:=[(7,.row true i.size e rows),(5,.dead),(5,.row true i.size e [])] }=some (.own RetB,[],[.row true i.size e rows]):=by
       simp [finish,finishR,hres,resV,oneOf,getF,V.ids,reach,objsOf,nodupB,V.ren,getM,O.ids,O.ren,O.isDead,toIdx,idxOf,ExtB]
      exact marks_ok (k:=0) rfl (by decide) hfin _ _ I2
    | normal=>obtain ⟨h,_⟩:=hq;cases h
    | exit _=>obtain ⟨h,_⟩:=hq;cases h
    | goto _=>obtain ⟨h,_⟩:=hq;cases h
    | panic _=>exact hq.elim
    | outgrown=>exact hq.elim
 unfold cloneS at hc
 split at hc<;>try (cases hc;done)
 ·rename_i m' rows
  split at hc<;>try (cases hc;done)
  rename_i hcd
  obtain ⟨rfl,hroom⟩:=hcd
  cases hc
  exact main _ rows (.inr ⟨rfl,hroom⟩) rfl rfl
 ·cases hc
  exact main .nil [] (.inl ⟨rfl,rfl⟩) rfl rfl
#print axioms clone_ok
end
end Go.Proofs.YtbnnmplkbpgcaaaDoorV