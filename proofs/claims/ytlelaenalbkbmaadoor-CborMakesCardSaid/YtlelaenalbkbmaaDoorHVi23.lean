/- The value interpreter: the data of a law's parameters,and the law's call. -/
import Derived.Test.YtlelaenalbkbmaaDoorHVi22
import Derived.ProofKit
import Derived.OpenShut
import Derived.SizedLaws
import Derived.Below
namespace Go.Proofs.YtlelaenalbkbmaaDoorV
open Go Go.RowKit
open Go.ChangeShapes Go.WideShapes Go.ChangeAt
set_option linter.unusedVariables false
set_option linter.unusedSimpArgs false
def RDs (W:World) (l:List V) (cs:List Value):Prop:=l.length=cs.length∧∀ (i:Nat) x v,l[i]?=some x→cs[i]?=some v→RepD W (fun b=>b<W.heap.size) x v∧v.oneCell'=true
def OpensN (N:Nat) {α:Type} (P:Program) (enc:α→List V) (t:TypeId) (G:α→Prop):Prop :=
 (∀ x,(enc x).length=P.cellsOf t)∧∀ {H:Type} {en:TypeId×Value→H} {W:World} {base:Nat} {spare:Nat→Bool} {held:Bool} {fuel:Nat} {cs:List Value} {x:DataW H×List MemPlace},
  fuel≤N→DataW.trod en P W base spare held fuel t cs=some x→(∀ n∈x.1.weights P t,n≤140737488351232)→∃ v,RDs W (enc v) cs∧G v
def OpensV {α:Type} (P:Program) (enc:α→List V) (t:TypeId) (G:α→Prop):Prop:=∀ N,OpensN N P enc t G
theorem RDs_one {W:World} {x:V} {v:Value} (h:RepD W (fun b=>b<W.heap.size) x v) (h1:v.oneCell'=true):RDs W [x] [v] :=
 ⟨rfl,fun i y u hy hu=>by
  cases i with
  | zero=>simp at hy hu;subst hy hu;exact ⟨h,h1⟩
  | succ i=>simp at hy⟩
theorem OpensV.int {P:Program} {t:TypeId} {k:IntKind} (ht:P.underlying t=some (.int k)) (hc:P.cellsOf t=1):OpensV P (fun n:Int=>[.p (.int k n)]) t (fun n=>(Lit.int k n).wf=true) :=
 fun N=>⟨fun _=>hc.symm,fun _ h _=>by
  obtain ⟨n,rfl,_,hw⟩:=DataW.trod_int ht h
  exact ⟨n,RDs_one (.p _) rfl,hw⟩⟩
theorem OpensV.bool {P:Program} {t:TypeId} (ht:P.underlying t=some .bool) (hc:P.cellsOf t=1):OpensV P (fun b:Bool=>[.p (.bool b)]) t (fun _=>True) :=
 fun N=>⟨fun _=>hc.symm,fun _ h _=>by
  obtain ⟨b,rfl,_⟩:=DataW.trod_bool ht h
  exact ⟨b,RDs_one (.p _) rfl,trivial⟩⟩
theorem OpensV.string {P:Program} {t:TypeId} (ht:P.underlying t=some .string) (hc:P.cellsOf t=1):OpensV P (fun s:ByteArray=>[.p (.string s)]) t (fun s=>s.size≤140737488351232) :=
 fun N=>⟨fun _=>hc.symm,fun _ h hw=>by
  obtain ⟨s,rfl,rfl,hs⟩:=DataW.trod_string ht h
  refine ⟨s,RDs_one (.p _) rfl,?_⟩
  have:=hw s.data.toList.length (by simp [DataW.weights])
  show s.data.size≤_
  rw [←Array.length_toList]
  exact this⟩
theorem rowOf {α:Type} {Q:Nat→α→Prop}:∀ (n:Nat),(∀ i,i<n→∃ v,Q i v)→∃ l:List α,l.length=n∧∀ i v,l[i]?=some v→Q i v
 | 0,_=>⟨[],rfl,by simp⟩
 | n+1,h=>by
   obtain ⟨l,hl,hq⟩:=rowOf n fun i hi=>h i (by omega)
   obtain ⟨v,hv⟩:=h n (by omega)
   refine ⟨l++[v],by simp [hl],fun i u hu => ?_⟩
   by_cases hi:i<l.length
   ·rw [List.getElem?_append_left hi] at hu
    exact hq i u hu
   ·have hlt:=(List.getElem?_eq_some_iff.1 hu).1
    simp at hlt
    obtain rfl:i=n:=by omega
    rw [List.getElem?_append_right (by omega)] at hu
    simp [hl] at hu
    subst hu
    exact hv
theorem weightsAll_mem {H:Type} {P:Program} {e:TypeId}:∀ {ds:List (DataW H)} {d:DataW H},d∈ds→∀ n∈d.weights P e,n∈DataW.weightsAll P e ds
 | d0::ds,d,h,n,hn=>by
   simp only [DataW.weightsAll,List.mem_append]
   rcases List.mem_cons.1 h with h | h
   ·subst h
    exact .inl hn
   ·exact .inr (weightsAll_mem h n hn)
theorem OpensN.slice {N:Nat} {α:Type} {P:Program} {enc:α→List V} {t e:TypeId} {G:α→Prop} (m:Nat) (ht:P.underlying t=some (.slice e)) (hc:P.cellsOf t=1) (hm:P.cellsOf e=m) (hm0:0<m) {B:Nat} (hB:P.bytesOf e=B) (hlen:∀ x,(enc x).length=P.cellsOf e) (h:∀ M,M<N→OpensN M P enc e G) :
  OpensN N P (fun xs:List α=>[.sl m (xs.map enc)]) t (fun xs=>xs.length≤maxLen∧xs.length * B≤140737488351232∧∀ x∈xs,G x):=by
 subst hm
 have hE0:=hlen
 refine ⟨fun _=>hc.symm,fun {H en W base spare held fuel cs x} hfu hx hw => ?_⟩
 rcases DataW.trod_slice ht hx with ⟨rfl,rfl⟩ | ⟨a,len,cap,elems,rest,n,hn1,rfl,rfl,hb,hl,hmx,hlen,hel,hsp,hns⟩
 ·exact ⟨[],RDs_one (.sl0 _ _ _) rfl,by simp,by simp,by simp⟩
 ·simp only [DataW.weights,ht,List.mem_cons,List.mem_append] at hw
  have hsz:=hw _ (.inl rfl)
  rw [hB,List.length_map,hlen] at hsz
  have hsz2:len * B≤140737488351232:=Nat.le_trans (Nat.mul_le_mul_right B (Nat.le_add_right _ _)) hsz
  have each:∀ i,i<len→∃ v,(∃ c,RDs W (enc v) c∧∀ (j:Nat) u,c[j]?=some u→W.cell? (a.add (i * P.cellsOf e+j))=some u)∧G v:=by
   intro i hi
   have hE:=hel i hi
   have hei:elems[i]?=some elems[i]:=List.getElem?_eq_getElem (by omega)
   rw [hei,Option.bind_eq_some_iff] at hE
   obtain ⟨c,hcs,hy⟩:=hE
   obtain ⟨_,hcl,hcell⟩:=World.cells?_some hcs
   obtain ⟨v,hk,hg⟩:=(h n (by omega)).2 (Nat.le_refl _) hy fun n hn=>hw n (.inr (.inl (weightsAll_mem (List.mem_map_of_mem (List.getElem_mem (show i<elems.length by omega))) n hn)))
   refine ⟨v,⟨c,hk,fun j u hu => ?_⟩,hg⟩
   have hj:j<P.cellsOf e:=by
    have:=(List.getElem?_eq_some_iff.1 hu).1
    omega
   have h1:=hcell j hj
   rw [hu] at h1
   rw [Addr.add_add] at h1
   exact h1
  obtain ⟨l,hll,hq⟩:=rowOf (α:=α) len each
  refine ⟨l,?_,by rw [hll];exact Nat.le_trans hl hmx,by rw [hll];exact hsz2,fun x hx => ?_⟩
  ·by_cases h0:len=0
   ·have:l=[]:=List.eq_nil_of_length_eq_zero (by omega)
    subst this
    subst h0
    exact RDs_one (.sl0 _ _ _) rfl
   ·have cells:∀ (k:Nat) p (j:Nat) x,l[k]?=some p→(enc p)[j]?=some x→∃ v,W.cell? (a.add (k * P.cellsOf e+j))=some v∧v.oneCell'=true∧RepD W (fun b=>b<W.heap.size) x v:=fun k p j x hp hx=>by
     obtain ⟨⟨c,hc1,hc2⟩,_⟩:=hq k p hp
     have hjl:j<c.length:=by rw [←hc1.1];exact (List.getElem?_eq_some_iff.1 hx).1
     obtain ⟨hr,ho⟩:=hc1.2 j x c[j] hx (List.getElem?_eq_getElem hjl)
     exact ⟨c[j],hc2 j _ (List.getElem?_eq_getElem hjl),ho,hr⟩
    have hp0:l[0]?=some l[0]:=List.getElem?_eq_getElem (by omega)
    have hx0:(enc l[0])[0]?=some ((enc l[0])[0]'(by rw [hE0];exact hm0)):=List.getElem?_eq_getElem _
    obtain ⟨v0,c0,_⟩:=cells 0 _ 0 _ hp0 hx0
    obtain ⟨b,off,spot⟩:=a
    have hspot:spot=none:=by
     cases spot with
     | none=>rfl
     | some s=>simp [World.cell?,Addr.add] at c0;split at c0<;>simp at c0
    subst hspot
    have hbl:b<W.heap.size:=by
     have:=World.block_lt_of_cell? W _ c0
     simpa [Addr.add_lit] using this
    have hex:∀ kj:Nat×Nat,∃ v:Value,∀ p x,l[kj.1]?=some p→(enc p)[kj.2]?=some x→W.cell? ⟨b,off+kj.1 * P.cellsOf e+kj.2,none⟩=some v∧v.oneCell'=true∧RepD W (fun b=>b<W.heap.size) x v:=fun ⟨k,j⟩=>by
     by_cases hq2:∃ p x,l[k]?=some p∧(enc p)[j]?=some x
     ·obtain ⟨p,x,h1,h2⟩:=hq2
      obtain ⟨v,e1,e2,e3⟩:=cells k p j x h1 h2
      refine ⟨v,fun p' x' h1' h2' => ?_⟩
      simp only at h1' h2'
      rw [h1] at h1';cases h1'
      rw [h2] at h2';cases h2'
      rw [Addr.add_lit] at e1
      exact ⟨by rw [Nat.add_assoc];exact e1,e2,e3⟩
     ·exact ⟨undef,fun p x h1 h2=>absurd ⟨p,x,h1,h2⟩ hq2⟩
    obtain ⟨f,hf⟩:=Classical.axiomOfChoice hex
    have hrow:∀ (k:Nat) r,(l.map enc)[k]?=some r→∃ p,l[k]?=some p∧enc p=r:=fun k r hk=>by
     rw [List.getElem?_map,Option.map_eq_some_iff] at hk
     exact hk
    have:=RepD.sl (w:=W) (S:=fun b=>b<W.heap.size) (P.cellsOf e) (l.map enc) b off cap (fun k j=>f (k,j)) hbl (by simpa [hll] using hl) (fun r hr=>by obtain ⟨p,_,rfl⟩:=List.mem_map.1 hr;exact hE0 p)
     (fun k r j x hk hj=>by obtain ⟨p,h1,rfl⟩:=hrow k r hk;exact (hf (k,j) p x h1 hj).1)
     (fun k r j x hk hj=>by obtain ⟨p,h1,rfl⟩:=hrow k r hk;exact (hf (k,j) p x h1 hj).2.1)
     (fun k r j x hk hj=>by obtain ⟨p,h1,rfl⟩:=hrow k r hk;exact (hf (k,j) p x h1 hj).2.2)
    rw [List.length_map,hll] at this
    exact RDs_one this rfl
  ·obtain ⟨i,hi⟩:=List.getElem?_of_mem hx
   exact (hq i x hi).2
theorem OpensV.slice {α:Type} {P:Program} {enc:α→List V} {t e:TypeId} {G:α→Prop} (m:Nat) (ht:P.underlying t=some (.slice e)) (hc:P.cellsOf t=1) (hm:P.cellsOf e=m) (hm0:0<m) {B:Nat} (hB:P.bytesOf e=B) (h:OpensV P enc e G) :
  OpensV P (fun xs:List α=>[.sl m (xs.map enc)]) t (fun xs=>xs.length≤maxLen∧xs.length * B≤140737488351232∧∀ x∈xs,G x):=fun N=>OpensN.slice m ht hc hm hm0 hB (h 0).1 fun M _=>h M
theorem OpensN.iso {N:Nat} {α β:Type} {P:Program} {enc:α→List V} {t:TypeId} {G:α→Prop} (h:OpensN N P enc t G) (f:β→α) (g:α→β) (hfg:∀ x,f (g x)=x):OpensN N P (fun y=>enc (f y)) t (fun y=>G (f y)) :=
 ⟨fun x=>h.1 (f x),fun hfu ht hw=>by
  obtain ⟨v,hk,hg⟩:=h.2 hfu ht hw
  exact ⟨g v,by show RDs _ (enc (f (g v))) _;rw [hfg];exact hk,by show G (f (g v));rw [hfg];exact hg⟩⟩
theorem OpensV.iso {α β:Type} {P:Program} {enc:α→List V} {t:TypeId} {G:α→Prop} (h:OpensV P enc t G) (f:β→α) (g:α→β) (hfg:∀ x,f (g x)=x):OpensV P (fun y=>enc (f y)) t (fun y=>G (f y)):=fun N=>(h N).iso f g hfg
theorem OpensN.as {N:Nat} {α:Type} {P:Program} {enc enc':α→List V} {t:TypeId} {G:α→Prop} (h:OpensN N P enc t G) (he:∀ x,enc x=enc' x):OpensN N P enc' t (fun _=>True):=by
 obtain rfl:enc=enc':=funext he
 exact ⟨h.1,fun hfu ht hw=>let ⟨v,hk,_⟩:=h.2 hfu ht hw;⟨v,hk,trivial⟩⟩
def OpensNF (N:Nat) {α:Type} (P:Program) (enc:α→List V) (sz:Nat) (fs:List Field) (o:Nat) (G:α→Prop):Prop :=
 (∀ x,(enc x).length=sz) ∧
 ∀ {H:Type} {en:TypeId×Value→H} {W:World} {base:Nat} {spare:Nat→Bool} {held:Bool} {fuel:Nat} {cs:List Value} {xs:List (DataW H×List MemPlace)},
  fuel≤N→o+sz≤cs.length→(∀ (i:Nat) (f:Field),fs[i]?=some f→∃ x,xs[i]?=some x∧DataW.trod en P W base spare held fuel f.type ((cs.drop f.offset).take (P.cellsOf f.type))=some x∧∀ n∈x.1.weights P f.type,n≤140737488351232)→∃ v,RDs W (enc v) ((cs.drop o).take sz)∧G v
def OpensVF {α:Type} (P:Program) (enc:α→List V) (sz:Nat) (fs:List Field) (o:Nat) (G:α→Prop):Prop:=∀ N,OpensNF N P enc sz fs o G
theorem OpensNF.one {N:Nat} {α:Type} {P:Program} {enc:α→List V} {f:Field} {o:Nat} {G:α→Prop} (ho:f.offset=o) (h:OpensN N P enc f.type G):OpensNF N P enc (P.cellsOf f.type) [f] o G:=by
 refine ⟨h.1,fun {H en W base spare held fuel cs xs} hfu hl hx => ?_⟩
 obtain ⟨x,_,ht,hw⟩:=hx 0 f rfl
 obtain ⟨v,hk,hg⟩:=h.2 hfu ht hw
 rw [ho] at hk
 exact ⟨v,hk,hg⟩
theorem OpensVF.one {α:Type} {P:Program} {enc:α→List V} {f:Field} {o:Nat} {G:α→Prop} (ho:f.offset=o) (h:OpensV P enc f.type G):OpensVF P enc (P.cellsOf f.type) [f] o G:=fun N=>OpensNF.one ho (h N)
theorem RDs_append {W:World} {l1 l2:List V} {c1 c2:List Value} (h1:RDs W l1 c1) (h2:RDs W l2 c2):RDs W (l1++l2) (c1++c2):=by
 refine ⟨by rw [List.length_append,List.length_append,h1.1,h2.1],fun i x v hx hv => ?_⟩
 by_cases hi:i<l1.length
 ·rw [List.getElem?_append_left hi] at hx
  rw [List.getElem?_append_left (by rw [←h1.1];exact hi)] at hv
  exact h1.2 i x v hx hv
 ·rw [List.getElem?_append_right (by omega)] at hx
  rw [List.getElem?_append_right (by rw [←h1.1];omega),←h1.1] at hv
  exact h2.2 _ x v hx hv
theorem OpensNF.cons {N:Nat} {α β:Type} {P:Program} {ea:α→List V} {eb:β→List V} {f:Field} {fs:List Field} {o sz:Nat} {G:α→Prop} {G':β→Prop} (ho:f.offset=o) (h:OpensN N P ea f.type G) (h':OpensNF N P eb sz fs (o+P.cellsOf f.type) G') :
  OpensNF N P (fun x:α×β=>ea x.1++eb x.2) (P.cellsOf f.type+sz) (f::fs) o (fun x=>G x.1∧G' x.2):=by
 refine ⟨fun x=>by rw [List.length_append,h.1,h'.1],fun {H en W base spare held fuel cs xs} hfu hl hx => ?_⟩
 obtain ⟨x,_,ht,hw⟩:=hx 0 f rfl
 obtain ⟨v,hk,hg⟩:=h.2 hfu ht hw
 rw [ho] at hk
 obtain ⟨v',hk',hg'⟩:=h'.2 (cs:=cs) (xs:=xs.tail) hfu (by omega) fun i g hgi=>by
  obtain ⟨x,hx1,hx2⟩:=hx (i+1) g hgi
  exact ⟨x,by rw [List.getElem?_tail];exact hx1,hx2⟩
 refine ⟨(v,v'),?_,hg,hg'⟩
 rw [List.take_add,List.drop_drop]
 exact RDs_append hk hk'
theorem OpensVF.cons {α β:Type} {P:Program} {ea:α→List V} {eb:β→List V} {f:Field} {fs:List Field} {o sz:Nat} {G:α→Prop} {G':β→Prop} (ho:f.offset=o) (h:OpensV P ea f.type G) (h':OpensVF P eb sz fs (o+P.cellsOf f.type) G') :
  OpensVF P (fun x:α×β=>ea x.1++eb x.2) (P.cellsOf f.type+sz) (f::fs) o (fun x=>G x.1∧G' x.2):=fun N=>OpensNF.cons ho (h N) (h' N)
theorem OpensN.struct {N:Nat} {α:Type} {P:Program} {enc:α→List V} {t:TypeId} {fs:Array Field} {sz:Nat} {G:α→Prop} (ht:P.underlying t=some (.struct fs)) (hc:sz=P.cellsOf t) (hlen:∀ x,(enc x).length=sz) (h:∀ M,M<N→OpensNF M P enc sz fs.toList 0 G):OpensN N P enc t G:=by
 refine ⟨fun x=>(hlen x).trans hc,fun {H en W base spare held fuel cs x} hfu hx hw => ?_⟩
 obtain ⟨xs,n,hn1,rfl,hl,hxl,hf⟩:=DataW.trod_struct ht hx
 simp only [DataW.weights,ht] at hw
 obtain ⟨v,hk,hg⟩:=(h n (by omega)).2 (cs:=cs) (xs:=xs) (en:=en) (W:=W) (base:=base) (spare:=spare) (held:=held) (fuel:=n) (Nat.le_refl _) (by omega) fun i f hfi=>by
  rw [Array.getElem?_toList] at hfi
  have h1:=hf i f hfi
  have hi:i<xs.length:=by
   have:=(Array.getElem?_eq_some_iff.1 hfi).1
   omega
  refine ⟨xs[i],List.getElem?_eq_getElem hi,by rw [h1,List.getElem?_eq_getElem hi],fun m hm=>hw m (DataW.weights_mem_each (j:=i) (t:=f.type) (d:=xs[i].1) ?_ ?_ m hm)⟩
  ·rw [List.getElem?_map,Array.getElem?_toList,hfi];rfl
  ·rw [List.getElem?_map,List.getElem?_eq_getElem hi];rfl
 rw [List.drop_zero,hc,←hl,List.take_length] at hk
 exact ⟨v,hk,hg⟩
theorem OpensV.struct {α:Type} {P:Program} {enc:α→List V} {t:TypeId} {fs:Array Field} {sz:Nat} {G:α→Prop} (ht:P.underlying t=some (.struct fs)) (hc:sz=P.cellsOf t) (h:OpensVF P enc sz fs.toList 0 G):OpensV P enc t G:=fun N=>OpensN.struct ht hc (h 0).1 fun M _=>h M
theorem OpensV.arg {α:Type} {P:Program} {enc:α→List V} {t:TypeId} {G:α→Prop} (h:OpensV P enc t G) {H:Type} {en:TypeId×Value→H} {W:World} {base:Nat} {spare:Nat→Bool} {held:Bool} {v:Value} {d:DataW H} {p:List MemPlace} {ts:List TypeId} {ds:List (DataW H)} {j:Nat}
  (hsz:(DataW.weightsEach P ts ds).all (· ≤ reachBytes)=true) (ht:ts[j]?=some t) (hd:ds[j]?=some d) (hv:DataW.Trod en P W base spare held t v d p):∃ x,RDs W (enc x) v.cells.toList∧G x:=by
 obtain ⟨fuel,hf⟩:=hv
 refine (h fuel).2 (Nat.le_refl _) hf fun n hn => ?_
 have:=List.all_eq_true.1 hsz n (DataW.weights_mem_each ht hd n hn)
 exact of_decide_eq_true this
theorem RDs.cell {W:World} {x:V} {v:Value} {β:Nat→Value} (h:RDs W [x] v.cells.toList) (h1:v.cells = #[v]):Rep W β (fun b=>b<W.heap.size) x v:=by
 rw [h1] at h
 exact .d (h.2 0 x v rfl rfl).1
theorem RDs.aggr {W:World} {l:List V} {z:Array Value} {β:Nat→Value} (h:RDs W l (Value.agg z).cells.toList):Rep W β (fun b=>b<W.heap.size) (.agg l) (.agg z) :=
 .agg l z (by have:=h.1;simpa [Value.cells] using this.symm) (fun v hv=>by
  obtain ⟨i,hi⟩:=Array.getElem?_of_mem hv
  have hil:i<l.length:=by rw [h.1];simpa [Value.cells] using (Array.getElem?_eq_some_iff.1 hi).1
  exact (h.2 i l[i] v (List.getElem?_eq_getElem hil) (by simpa [Value.cells] using hi)).2) fun i x v hx hv=>.d (h.2 i x v hx (by simpa [Value.cells] using hv)).1
theorem does_calls {P:Program} {f:FuncId} {vals:Array Value} {w:World} {R:Ending→World→Prop} (hf:f<YB) (h:Does P f vals w R):FnOk P f∧Calls P f vals w R:=by
 unfold Does at h
 rwa [if_pos hf] at h
theorem law_calls {P:Program} (hm:P.follows .mixedOrders=true) {ctx:FuncId→Option (List V→List O→Option (V×List O×List O))} (hctx:CtxOk P ctx) {h:Hints} {k:Nat} {f:FuncId} {args:List V} {vals:Array Value} {W:World} (hfY:f<YB)
  (hc:callV P ctx h k f args []=some (.p (.bool true),[],[])) (hl:vals.size=args.length) (hr:∀ (i:Nat) x v,args[i]?=some x→vals[i]?=some v→Rep W (fun _=>undef) (fun b=>b<W.heap.size) x v) (hids:V.idsL args=[])
  (hlay:∀ g cs,lay g=some cs→V.idsL cs=[]∧∀ β,Rep W β (fun b=>b<W.heap.size) (.rpt cs 0) ((⟨#[],[]⟩:Act).eval (.global g))) :
  Calls P f vals W fun e W'=>e=.returned (.bool true)∧Below W.heap.size W W':=by
 have I:Inv W (fun _=>False) (baseOf (fun b=>b<W.heap.size) (fun _=>undef) ([]:List O).length) (inSt args [] vals.size) ⟨vals,[]⟩ W (fun _=>undef) (fun b=>b<W.heap.size):=by
  refine { defers:=Marks.nil,size:=rfl,slots:=fun t => ?_,objs:=fun id o h=>(by cases h),own:=fun id o g h=>(by cases h),fro:=fun id m e rows g h=>(by cases h),inj:=fun i j o o' g h=>(by cases h),closedF:=fun t id hid => ?_,closedM:=fun i o h=>(by cases h),Slt:=fun b h=>h,S0S:=fun b h=>h,SIn:=fun b h=>.inl h,ext:=fun i hi=>(by cases hi),os:=rfl,tape:=rfl,output:=rfl,grow:=Nat.le_refl _,kept:=fun _ _ _=>rfl,laid:=hlay }
  ·simp only [inSt,getF_params,Nat.zero_le,if_true,Nat.sub_zero]
   cases hx:args[t]? with
   | none=>exact .bad _
   | some x =>
     have hlt:t<vals.size:=by rw [hl];exact (List.getElem?_eq_some_iff.1 hx).1
     simpa [hlt] using hr t x vals[t] hx (by simp [hlt])
  ·exfalso
   simp only [inSt,getF_params,Nat.zero_le,if_true,Nat.sub_zero] at hid
   cases hx:args[t]? with
   | none=>rw [hx] at hid;simp [V.ids] at hid
   | some x =>
     rw [hx] at hid
     have:=idsL_mem hx hid
     rw [hids] at this
     cases this
 have hd:=(callV_ok hm hctx k) f args [] _ [] [] hc W (fun _=>False) (fun b=>b<W.heap.size) (fun _=>undef) vals hl (by simp) I
 have this:=(does_calls hfY hd).2
 refine this.mono fun e W' hp => ?_
 obtain ⟨v',β',S',rfl,_,_,I'⟩:=hp
 have hs:=I'.slots 0
 simp only [outSt,getF,if_true] at hs
 have hv:v'=.bool true:=by simpa using rep_p hs
 subst hv
 exact ⟨rfl,I'.os,I'.tape,I'.output,I'.grow,fun b hb=>I'.kept b hb (fun h=>h)⟩
end Go.Proofs.YtlelaenalbkbmaaDoorV