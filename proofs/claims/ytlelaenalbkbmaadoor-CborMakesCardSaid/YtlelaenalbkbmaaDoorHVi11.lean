/- The value interpreter: append and copy. -/
import Derived.Test.YtlelaenalbkbmaaDoorHVi10
namespace Go.Proofs.YtlelaenalbkbmaaDoorV
open Go
set_option linter.unusedVariables false
set_option linter.unusedSimpArgs false
section
variable {P:Program} {w0:World} {fp:Nat→Prop} {S0:Base} {σ:St} {a:Act} {w:World} {β:Nat→Value} {S:Nat→Prop} {o:Oper}
theorem content_ok (I:Inv w0 fp S0 σ a w β S) {m:Nat} (hm:0<m) {x:V} {rows2:List (List V)} {v:Value} (h:content σ m x=some rows2) (hr:Rep w β S x v) :
  ∃ ad c news,v=.slice ad rows2.length c∧FR w S m rows2 news∧∀ (j:Nat) u,news[j]?=some u→∃ ad',ad=some ad'∧w.cell? (ad'.add j)=some u:=by
 have fr0:FR w S m [] []:=⟨by simp,by simp,by simp,by simp⟩
 cases x<;>simp only [content] at h<;>try (cases h;done)
 case nil=>cases h;exact ⟨none,0,[],rep_nil hr,fr0,by simp⟩
 case sl m' rows =>
  split at h<;>simp at h
  rename_i e
  subst e;subst h
  cases hr with
  | d hr =>
    cases hr with
    | sl0 _ ad c=>exact ⟨ad,c,[],rfl,fr0,by simp⟩
    | sl _ _ b off c g hS hc hw h1 h2 h3 =>
      refine ⟨_,c,(List.range (rows.length * m')).map (fun i=>g (i / m') (i % m')),rfl,⟨by simp,hw,?_,?_⟩,?_⟩
      ·intro v hv
       obtain ⟨i,hi,rfl⟩:=List.mem_map.1 hv
       have hi:=List.mem_range.1 hi
       have hk:i / m'<rows.length:=Nat.div_lt_of_lt_mul (by rwa [Nat.mul_comm])
       have hj:i % m'<(rows[i / m']).length:=by rw [hw _ (by simp)];exact Nat.mod_lt _ hm
       exact h2 _ _ _ _ (List.getElem?_eq_getElem hk) (List.getElem?_eq_getElem hj)
      ·intro k r j x hk hj
       have hkl:=(List.getElem?_eq_some_iff.1 hk).1
       have hjm:j<m':=by rw [←hw r (List.mem_of_getElem? hk)];exact (List.getElem?_eq_some_iff.1 hj).1
       refine ⟨g k j,?_,h3 k r j x hk hj⟩
       rw [List.getElem?_map,List.getElem?_range (idx_lt hkl hjm)]
       have e1:(k * m'+j) / m'=k:=by rw [Nat.add_comm,Nat.add_mul_div_right _ _ hm,Nat.div_eq_of_lt hjm,Nat.zero_add]
       have e2:(k * m'+j) % m'=j:=by rw [Nat.add_comm,Nat.add_mul_mod_self_right,Nat.mod_eq_of_lt hjm]
       simp [e1,e2]
      ·intro i u hu
       rw [List.getElem?_map,Option.map_eq_some_iff] at hu
       obtain ⟨i',hi',rfl⟩:=hu
       obtain ⟨hi,rfl⟩:=List.getElem?_eq_some_iff.1 hi'
       simp only [List.getElem_range,List.length_range] at hi ⊢
       have hk:i / m'<rows.length:=Nat.div_lt_of_lt_mul (by rwa [Nat.mul_comm])
       have hj:i % m'<(rows[i / m']).length:=by rw [hw _ (by simp)];exact Nat.mod_lt _ hm
       refine ⟨_,rfl,?_⟩
       rw [Addr.add_lit]
       have:=h1 _ _ _ _ (List.getElem?_eq_getElem hk) (List.getElem?_eq_getElem hj)
       rw [←this]
       congr 2
       have:=Nat.div_add_mod i m'
       rw [Nat.mul_comm] at this
       omega
 case own id =>
  split at h<;>try (cases h;done)
  rename_i own m' e rows hM
  split at h<;>simp at h
  rename_i e1
  subst e1;subst h
  obtain ⟨hm0,hw,xs,hown,hone,hc⟩:=I.objs id _ hM
  have e:=rep_own hr
  subst e
  rcases hown.2 with ⟨e1,e2⟩ | ⟨g,cap,cur,e1,_,_,hnc,_⟩
  ·have:rows=[]:=List.eq_nil_of_length_eq_zero e2
   subst this
   exact ⟨none,0,[],e1,fr0,by simp⟩
  ·refine ⟨_,cap,xs,e1,⟨hown.1,hw,hone,hc⟩,fun j u hu=>⟨_,rfl,hown.cells (g:=g) (by rw [e1];rfl) j u hu⟩⟩
 case cut id m' off n =>
  split at h<;>try (cases h;done)
  rename_i own m'' e rows hM
  split at h<;>simp at h
  rename_i hc
  obtain ⟨e1,e2,hle⟩:=hc
  subst e1;subst e2;subst h
  obtain ⟨hm0,hw,xs,hown,hone,hc⟩:=I.objs id _ hM
  have hl:((rows.drop off).take n).length=n:=by rw [List.length_take,List.length_drop];omega
  by_cases h0:n=0
  ·subst h0
   cases hr with
   | d hr=>cases hr
   | cut _ _ _ _ g N C ad c hβ hc2 ha hr hn hK=>exact ⟨ad,c,[],by simp,by simpa using fr0,by simp⟩
   | cut0 _ _ _ _ _ ad c=>exact ⟨ad,c,[],by simp,by simpa using fr0,by simp⟩
  ·cases hr with
   | d hr=>cases hr
   | cut0=>exact absurd rfl h0
   | cut _ _ _ _ g N C ad c hβ hc2 ha hr hn hK =>
     have e3:=ha (by omega)
     subst e3
     have hlen:off * m''+n * m''≤xs.length:=by rw [hown.1,←Nat.add_mul];exact Nat.mul_le_mul_right _ hle
     refine ⟨_,c,(xs.drop (off * m'')).take (n * m''),by rw [hl],⟨?_,fun r hr=>hw r (List.mem_of_mem_drop (List.mem_of_mem_take hr)),fun v hv=>hone v (List.mem_of_mem_drop (List.mem_of_mem_take hv)),?_⟩,?_⟩
     ·rw [hl,List.length_take,List.length_drop];omega
     ·intro k r j x hk hj
      rw [List.getElem?_take] at hk
      split at hk<;>try (cases hk;done)
      rename_i hkn
      rw [List.getElem?_drop] at hk
      have hjm:j<m'':=by rw [←hw r (List.mem_of_getElem? hk)];exact (List.getElem?_eq_some_iff.1 hj).1
      obtain ⟨v,hv,hx⟩:=hc (off+k) r j x hk hj
      refine ⟨v,?_,hx⟩
      rw [List.getElem?_take,if_pos (idx_lt hkn hjm),List.getElem?_drop,←hv]
      congr 1
      rw [Nat.add_mul];omega
     ·intro j u hu
      rw [List.getElem?_take] at hu
      split at hu<;>try (cases hu;done)
      rw [List.getElem?_drop] at hu
      refine ⟨_,rfl,?_⟩
      have:=hown.cells (g:=g) (by rw [hβ];rfl) _ u hu
      rw [Addr.add_lit] at this ⊢
      rw [←this]
      congr 2
      omega
theorem flat_len {m:Nat}:∀ {rows:List (List V)},(∀ r∈rows,r.length=m)→rows.flatten.length=rows.length * m
 | [],_=>by simp
 | r::rs,h=>by
   rw [List.flatten_cons,List.length_append,List.length_cons,h r (by simp),flat_len fun q hq=>h q (by simp [hq]),Nat.add_mul,Nat.one_mul,Nat.add_comm]
theorem flat_get {m:Nat} (hm:0<m):∀ {rows:List (List V)},(∀ r∈rows,r.length=m)→∀ {i:Nat} {x:V},rows.flatten[i]?=some x→∃ r,rows[i / m]?=some r∧r[i % m]?=some x
 | [],_,i,x,h=>by simp at h
 | r::rs,hw,i,x,h=>by
   have hr:=hw r (by simp)
   rw [List.flatten_cons,List.getElem?_append,hr] at h
   split at h
   ·rename_i hi
    exact ⟨r,by rw [Nat.div_eq_of_lt hi];rfl,by rw [Nat.mod_eq_of_lt hi];exact h⟩
   ·rename_i hi
    obtain ⟨q,h1,h2⟩:=flat_get hm (fun q hq=>hw q (by simp [hq])) h
    obtain ⟨n,rfl⟩:∃ n,i=m+n:=⟨i - m,by omega⟩
    rw [Nat.add_sub_cancel_left] at h1 h2
    refine ⟨q,?_,?_⟩
    ·rw [Nat.add_comm m n,Nat.add_div_right _ hm];exact h1
    ·rw [Nat.add_mod_left];exact h2
theorem idsL_app {b:List V} {id:Nat}:∀ {a:List V},id∈V.idsL (a++b)→id∈V.idsL a∨id∈V.idsL b
 | [],h=>.inr h
 | c::r,h=>by
   rw [List.cons_append,V.idsL] at h
   rw [V.idsL]
   rcases List.mem_append.1 h with h | h
   ·exact .inl (List.mem_append_left _ h)
   ·exact (idsL_app h).imp (List.mem_append_right _) (fun h=>h)
theorem idsL_none:∀ {cs:List V},(∀ x∈cs,x.ids=[])→V.idsL cs=[]
 | [],_=>by simp [V.idsL]
 | c::r,h=>by rw [V.idsL,h c (by simp),idsL_none fun x hx=>h x (by simp [hx])];rfl
theorem repD_ids {x:V} {v:Value} (h:RepD w S x v):x.ids=[]:=by cases h<;>simp [V.ids]
theorem rows_ids {m:Nat} {rows:List (List V)} {l:List Value} (h:FR w S m rows l):V.idsL rows.flatten=[] :=
 idsL_none fun x hx=>by
  obtain ⟨r,hr,hx⟩:=List.mem_flatten.1 hx
  obtain ⟨k,hk⟩:=List.getElem?_of_mem hr
  obtain ⟨j,hj⟩:=List.getElem?_of_mem hx
  obtain ⟨v,_,hv⟩:=h.rep k r j x hk hj
  exact repD_ids hv
theorem FR.append {m:Nat} {r1 r2:List (List V)} {l1 l2:List Value} (h1:FR w S m r1 l1) (h2:FR w S m r2 l2):FR w S m (r1++r2) (l1++l2):=by
 refine ⟨by rw [List.length_append,List.length_append,h1.len,h2.len,Nat.add_mul],fun r hr=>(List.mem_append.1 hr).elim (h1.wid r) (h2.wid r),fun v hv=>(List.mem_append.1 hv).elim (h1.one v) (h2.one v),fun k r j x hk hj => ?_⟩
 by_cases hkl:k<r1.length
 ·rw [List.getElem?_append_left hkl] at hk
  obtain ⟨v,hv,hx⟩:=h1.rep k r j x hk hj
  exact ⟨v,by rw [List.getElem?_append_left (List.getElem?_eq_some_iff.1 hv).1];exact hv,hx⟩
 ·rw [List.getElem?_append_right (by omega)] at hk
  obtain ⟨v,hv,hx⟩:=h2.rep _ r j x hk hj
  refine ⟨v,?_,hx⟩
  have hle:r1.length * m≤k * m:=Nat.mul_le_mul_right _ (by omega)
  rw [List.getElem?_append_right (by rw [h1.len];omega),h1.len,←hv]
  congr 1
  rw [Nat.sub_mul];omega
theorem FR.take {m:Nat} {rows:List (List V)} {l:List Value} (h:FR w S m rows l) {n:Nat} (hn:n≤rows.length):FR w S m (rows.take n) (l.take (n * m)):=by
 have hle:n * m≤l.length:=by rw [h.len];exact Nat.mul_le_mul_right _ hn
 refine ⟨by rw [List.length_take,List.length_take,Nat.min_eq_left hle,Nat.min_eq_left hn],fun r hr=>h.wid r (List.mem_of_mem_take hr),fun v hv=>h.one v (List.mem_of_mem_take hv),fun k r j x hk hj => ?_⟩
 rw [List.getElem?_take] at hk
 split at hk<;>try (cases hk;done)
 rename_i hkn
 obtain ⟨v,hv,hx⟩:=h.rep k r j x hk hj
 have hjm:j<m:=by
  have h1:=h.wid r (List.mem_of_getElem? hk)
  have h2:=(List.getElem?_eq_some_iff.1 hj).1
  omega
 exact ⟨v,by rw [List.getElem?_take,if_pos (idx_lt hkn hjm)];exact hv,hx⟩
theorem FR.drop {m:Nat} {rows:List (List V)} {l:List Value} (h:FR w S m rows l) {n:Nat}:FR w S m (rows.drop n) (l.drop (n * m)):=by
 refine ⟨by rw [List.length_drop,List.length_drop,h.len,Nat.sub_mul],fun r hr=>h.wid r (List.mem_of_mem_drop hr),fun v hv=>h.one v (List.mem_of_mem_drop hv),fun k r j x hk hj => ?_⟩
 rw [List.getElem?_drop] at hk
 obtain ⟨v,hv,hx⟩:=h.rep _ r j x hk hj
 refine ⟨v,?_,hx⟩
 rw [List.getElem?_drop,←hv]
 congr 1
 rw [Nat.add_mul]
 omega
theorem run_append_row (w:World) (t ty e:TypeId) {i:TypeInfo} (ht:P.underlying t=some (.slice e)) (hi:P.info? e=some i) (g o n c:Nat) (ad:Addr) (m2 c2:Nat) (cur:Array Value) (e':TypeId) (news:List Value)
  (hg:w.heap[g]?=some (.cells cur e' (0,0))) (hl:news.length=m2 * i.size) (hnews:∀ (j:Nat) v,news[j]?=some v→w.cell? (ad.add j)=some v) (h1:∀ v∈news,v.oneCell'=true) (hroom:n+m2≤c) (hfit:o+n * i.size+news.length≤cur.size) :
  (Builtin.append_ #[t,t] ty #[.slice (some ⟨g,o,none⟩) n c,.slice (some ad) m2 c2]).run P w=.ok (.slice (some ⟨g,o,none⟩) (n+m2) c) (w.setRow g (cur.toList.take (o+n * i.size)++news++cur.toList.drop (o+n * i.size+news.length)).toArray):=by
 have hfc:=run_firstCells_some (P:=P) w i.size m2 ad m2 c2 news hl hnews
 have hst:=run_storeCells_at P g (o+n * i.size) e' news 0 cur w hg (by omega) h1
 simp only [Nat.add_zero] at hst
 simp [Builtin.append_,run_underlying ht,sizeOf,typeInfo,hi,Builtin.lenOf,hroom,hfc,Addr.add_lit,hst]
theorem run_app (t ty e:TypeId) (i:TypeInfo) (zv:Value) (ht:P.underlying t=some (.slice e)) (hi:P.info? e=some i) (hz:i.zero=some zv) (hzs:zv.cells.size=i.size) (hsz:0<i.size)
  {v:Value} {n:Nat} {xs:List Value} (hown:w.ownsRow 0 e i.size v n xs) (ad:Option Addr) (m c:Nat) (news:List Value) (hl:news.length=m * i.size) (hnews:∀ (j:Nat) u,news[j]?=some u→∃ ad',ad=some ad'∧w.cell? (ad'.add j)=some u)
  (h1:∀ u∈news,u.oneCell'=true) (h63:n+m≤maxLen) (hbytes:(n+m) * i.bytes≤140737488355328) :
  ∃ v' w',(Builtin.append_ #[t,t] ty #[v,.slice ad m c]).run P w=.ok v' w'∧w'.ownsRow 0 e i.size v' (n+m) (xs++news)∧w.grownBy w' v.ownBlock∧(blk v'=blk v∨∃ g,blk v'=some g∧w.heap.size≤g):=by
 cases ad with
 | none =>
   have hm:m=0:=by
    cases m with
    | zero=>rfl
    | succ m =>
      have:0<news.length:=by rw [hl];exact Nat.mul_pos (Nat.succ_pos _) hsz
      obtain ⟨ad',h,_⟩:=hnews 0 news[0] (List.getElem?_eq_getElem this)
      cases h
   subst hm
   have hn:news=[]:=List.eq_nil_of_length_eq_zero (by simpa using hl)
   subst hn
   refine ⟨v,w,?_,by simpa using hown,⟨rfl,rfl,rfl,Nat.le_refl _,fun _ _ _=>rfl⟩,.inl rfl⟩
   rcases hown.2 with ⟨rfl,rfl⟩ | ⟨g,cap,cur,rfl,_,_,hnc,_⟩
   ·simp [Builtin.append_,run_underlying ht,sizeOf,typeInfo,hi,Builtin.lenOf,Builtin.firstCells]
   ·simp [Builtin.append_,run_underlying ht,sizeOf,typeInfo,hi,Builtin.lenOf,Builtin.firstCells,hnc,storeCells]
 | some ad =>
   have hnews':∀ (j:Nat) u,news[j]?=some u→w.cell? (ad.add j)=some u:=fun j u hu=>by
    obtain ⟨ad',h,h2⟩:=hnews j u hu
    cases h;exact h2
   obtain ⟨v',w',hr,h2,h3,_⟩:=run_append_own (P:=P) w 0 t ty e i zv i.size i.bytes ht hi hz rfl rfl hzs hsz v n xs hown ad m c news hl hnews' h1 h63 hbytes (Nat.zero_le _)
   refine ⟨v',w',hr,h2,h3,?_⟩
   have hsmall:n+m≤9223372036854775807:=by simp only [maxLen] at h63;omega
   rcases hown.2 with ⟨rfl,rfl⟩ | ⟨g,cap,cur,rfl,_,hg,hnc,hcm,hcs,htake⟩
   ·by_cases hm:m=0
    ·subst hm
     rcases h2.2 with ⟨rfl,_⟩ | ⟨g',cap',cur',rfl,_,hg',_⟩
     ·exact .inl rfl
     ·refine .inl ?_
      have hn:news=[]:=List.eq_nil_of_length_eq_zero (by simpa using hl)
      subst hn
      have:(Builtin.append_ #[t,t] ty #[.slice none 0 0,.slice (some ad) 0 c]).run P w=.ok (.slice none 0 0) w:=by
       simp [Builtin.append_,run_underlying ht,sizeOf,typeInfo,hi,Builtin.lenOf,Builtin.firstCells,loadCells,loadCellsFrom]
      rw [this] at hr
      cases hr
    ·have:=run_append_nil (P:=P) w t ty e i zv ht hi hz ad m c news hl hnews' (by omega) (by omega) (by have hb:=hbytes;simp only [Nat.zero_add] at hb;omega)
     rw [this] at hr
     cases hr
     exact .inr ⟨_,rfl,Nat.le_refl _⟩
   ·by_cases hroom:n+m≤cap
    ·have hfit:n * i.size+news.length≤cur.size:=by rw [hl,hcs,←Nat.add_mul];exact Nat.mul_le_mul_right _ hroom
     have:=run_append_room (P:=P) w t ty e i ht hi g n cap cur hg ad m c news hl hnews' h1 hroom hfit
     rw [this] at hr
     cases hr
     exact .inl rfl
    ·have holds:∀ (j:Nat) u,xs[j]?=some u→w.cell? ((⟨g,0,none⟩:Addr).add j)=some u:=hown.cells (g:=g) rfl
     have:=run_append_grow (P:=P) w t ty e i zv ht hi hz ⟨g,0,none⟩ n cap xs hown.1 holds ad m c news hl hnews' (by omega) (by omega) (growslice_fits (by omega) hbytes)
     rw [this] at hr
     cases hr
     exact .inr ⟨_,rfl,Nat.le_refl _⟩
theorem own_of_blk {v:Value} {n:Nat} {xs:List Value} {e:TypeId} {m:Nat} (h:w.ownsRow 0 e m v n xs):v.ownBlock=blk v:=by
 rcases h.2 with ⟨rfl,_⟩ | ⟨g,cap,cur,rfl,_⟩<;>rfl
theorem append_ok (I:Inv w0 fp S0 σ a w β S) {d:Nat} {t:TypeId} {s x:Operand} {v:V} {u:List (Nat×O)} {args:Array Operand} {ts:Array TypeId} (ho:o.op=.call { callee:=.builtin .append,args:=args,argTypes:=ts })
  (hargs:args.toList=[s,x]) (hts:ts.toList=[t,t]) (hd:o.dst=some d) (h:appendV P σ d t (evalV σ s) (evalV σ x)=some (v,u)) (hdk:dstOk σ.n o.dst=true):OpOk P w0 fp S0 σ a w o v u:=by
 have ha:args = #[s,x]:=by rw [←Array.toArray_toList (xs:=args),hargs]
 have ht:ts = #[t,t]:=by rw [←Array.toArray_toList (xs:=ts),hts]
 subst ha ht
 unfold appendV at h
 split at h<;>try (cases h;done)
 rename_i e i he
 obtain ⟨hu,hi⟩:=elemI_ok he
 split at h<;>try (cases h;done)
 rename_i z rows2 hz hc
 obtain ⟨zv,h1,h2,h3,h4,h5,rfl⟩:=zeroRow_ok hz
 split at h<;>try (cases h;done)
 rename_i hMg
 obtain ⟨ad,c,news,hxv,hfr,hnews⟩:=content_ok I h3 hc (evalV_rep I x)
 have small:∀ n:Nat,n * i.bytes≤roomy→n≤140737488351232∧n * i.bytes≤140737488355328:=fun n hn=>by
  have hn:n * i.bytes≤140737488351232:=hn
  exact ⟨Nat.le_trans (Nat.le_mul_of_pos_right _ h4) hn,by omega⟩
 split at h<;>try (cases h;done)
 ·rename_i hs
  have hM:getM σ.M d=none:=by simpa [hs,isCutV] using hMg
  split at h<;>simp at h
  rename_i hroom
  obtain ⟨rfl,rfl⟩:=h
  obtain ⟨b1,b2⟩:=small _ hroom
  have hsv:a.eval s=.slice none 0 0:=by have:=evalV_rep I s;rw [hs] at this;exact rep_nil this
  obtain ⟨v',w',hr,hown,hg,hb⟩:=run_app (P:=P) (w:=w) t o.type e i zv hu hi h1 h2 h3 (World.ownsRow_nil w 0 e i.size) ad rows2.length c news hfr.len hnews hfr.one (by simp only [maxLen];omega) (by simpa using b2)
  simp only [Nat.zero_add,List.nil_append] at hown
  refine newRow I hd hM (hv:=v') (w':=w') ?_ hg.os hg.tape hg.output hg.size (fun b hb=>hg.block b hb (by simp [Value.ownBlock])) (fun g hg' => ?_) ?_ ⟨h3,hfr.wid,news,hown,hfr.one,hfr.rep⟩ hdk
  ·simp [execOp,ho,resolve,invoke,builtin,hsv,hxv,hr]
  ·rcases hb with hb | ⟨g',hb,hle⟩
   ·rw [hb] at hg';cases hg'
   ·rw [hb] at hg';cases hg';exact hle
  ·rcases hown.2 with ⟨rfl,_⟩ | ⟨_,_,_,rfl,_⟩<;>rfl
 ·rename_i id hs
  have hM:getM σ.M d=none:=by simpa [hs,isCutV] using hMg
  split at h<;>try (cases h;done)
  ·rename_i m e' rows hM2
   split at h<;>simp at h
   rename_i hcond
   obtain ⟨rfl,rfl,hroom⟩:=hcond
   obtain ⟨rfl,rfl⟩:=h
   obtain ⟨b1,b2⟩:=small _ hroom
   have hsv:a.eval s=β id:=by have:=evalV_rep I s;rw [hs] at this;exact rep_own this
   obtain ⟨hm0,hw,xs,hown0,hone0,hc0⟩:=I.objs id _ hM2
   obtain ⟨v',w',hr,hown,hg,hb⟩:=run_app (P:=P) (w:=w) t o.type e' i zv hu hi h1 h2 h3 hown0 ad rows2.length c news hfr.len hnews hfr.one (by simp only [maxLen];omega) b2
   have hne:d≠id:=fun e=>by rw [e,hM2] at hM;cases hM
   have hfr2:FR w S i.size (rows++rows2) (xs++news):=FR.append ⟨hown0.1,hw,hone0,hc0⟩ hfr
   have hSh:∀ b,S b→w'.heap[b]?=w.heap[b]?:=fun b hb=>hg.block b (I.Slt b hb) fun e=>by
    rw [own_of_blk hown0] at e
    exact (I.own id _ b hM2 rfl e.symm).1 hb
   have hone1:v'.oneCell'=true:=by rcases hown.2 with ⟨rfl,_⟩ | ⟨_,_,_,rfl,_⟩<;>rfl
   have hget:∀ i' o',getM [(d,O.row true i.size e' (rows++rows2)),(id,O.dead)] i'=some o'→(i'=d∧o'=.row true i.size e' (rows++rows2))∨(i'=id∧o'=.dead):=by
    intro i' o' h
    simp only [getM] at h
    split at h
    ·rename_i e;cases h;exact .inl ⟨e.symm,rfl⟩
    ·split at h<;>simp at h
     rename_i e;exact .inr ⟨e.symm,h.symm⟩
   have hkid:(getM [(d,O.row true i.size e' (rows++rows2)),(id,O.dead)] id).isSome=true:=by simp [getM,hne]
   refine OpOk.value I (v':=v') (w':=w') (β':=upd β d v') (S':=S) (by simp [execOp,ho,resolve,invoke,builtin,hsv,hxv,hr]) ?_ hdk
   refine { new:=?_,os:=hg.os,tape:=hg.tape,output:=hg.output,grow:=hg.size,touch:=?_,S1:=fun _ h=>h,S2:=fun b hb=>Nat.lt_of_lt_of_le (I.Slt b hb) hg.size,S4:=fun _ h=>.inl h,objs:=?_,own:=?_,fro:=?_,inj:=?_,closedM:=?_,rep:=?_,closedV:=?_ }
   ·intro i'
    by_cases h:i'=d
    ·subst h;exact .inr hM
    ·exact .inl (upd_ne β v' h)
   ·intro b hb'
    by_cases hb2:blk (β id)=some b
    ·exact .inr ⟨id,_,hM2,rfl,hb2,hkid⟩
    ·exact .inl (hg.block b hb' fun e=>hb2 (by rw [←own_of_blk hown0];exact e.symm))
   ·intro i' o' h
    rcases hget i' o' h with ⟨rfl,rfl⟩ | ⟨rfl,rfl⟩
    ·refine ⟨h3,hfr2.wid,xs++news,by rw [upd_same,List.length_append];exact hown,hfr2.one,fun k r j x h1 h2 => ?_⟩
     obtain ⟨q,hq,hx⟩:=hfr2.rep k r j x h1 h2
     exact ⟨q,hq,hx.mono hSh fun _ h=>h⟩
    ·trivial
   ·intro i' o' g h h1 h2
    rcases hget i' o' h with ⟨rfl,rfl⟩ | ⟨rfl,rfl⟩
    ·rw [upd_same] at h2
     rcases hb with hb | ⟨g',hb,hle⟩
     ·rw [hb] at h2
      exact ⟨(I.own id _ g hM2 rfl h2).1,.inr ⟨id,_,hM2,rfl,h2,hkid⟩⟩
     ·rw [hb] at h2;cases h2
      exact ⟨fun hS=>by have:=I.Slt g hS;omega,.inl hle⟩
    ·cases h1
   ·intro i' m' e'' rows' g h
    rcases hget i' _ h with ⟨_,h⟩ | ⟨_,h⟩<;>cases h
   ·intro i1 i2 o1 o2 g q1 q2 q3 q4
    rcases hget i1 o1 q1 with ⟨rfl,rfl⟩ | ⟨rfl,rfl⟩
    ·rcases hget i2 o2 q2 with ⟨rfl,rfl⟩ | ⟨rfl,rfl⟩
     ·exact fun _ _=>rfl
     ·cases q4
    ·cases q3
   ·intro i' o' h id' hid
    rcases hget i' o' h with ⟨_,rfl⟩ | ⟨_,rfl⟩<;>cases hid
   ·have:=Rep.own (w:=w') (β:=upd β d v') (S:=S) d (by rw [upd_same];exact hone1)
    rwa [upd_same] at this
   ·intro i' hi'
    have:i'=d:=by simpa [V.ids] using hi'
    subst this
    exact .inl (by simp [getM])
  ·rename_i m e' cn cells hM2
   split at h<;>simp at h
   rename_i hcond
   obtain ⟨rfl,rfl,hroom⟩:=hcond
   obtain ⟨rfl,rfl⟩:=h
   obtain ⟨b1,b2⟩:=small _ hroom
   have hsv:a.eval s=β id:=by have:=evalV_rep I s;rw [hs] at this;exact rep_own this
   obtain ⟨hm0,hl,xs,hown0,hone0,hc0⟩:=I.objs id _ hM2
   obtain ⟨v',w',hr,hown,hg,hb⟩:=run_app (P:=P) (w:=w) t o.type e' i zv hu hi h1 h2 h3 hown0 ad rows2.length c news hfr.len hnews hfr.one (by simp only [maxLen];omega) b2
   have hne:d≠id:=fun e=>by rw [e,hM2] at hM;cases hM
   have hSh:∀ b,S b→w'.heap[b]?=w.heap[b]?:=fun b hb=>hg.block b (I.Slt b hb) fun e=>by
    rw [own_of_blk hown0] at e
    exact (I.own id _ b hM2 rfl e.symm).1 hb
   have hone1:v'.oneCell'=true:=by rcases hown.2 with ⟨rfl,_⟩ | ⟨_,_,_,rfl,_⟩<;>rfl
   have hget:∀ i' o',getM [(d,O.tab i.size e' (cn+rows2.length) (cells++rows2.flatten)),(id,O.dead)] i'=some o'→(i'=d∧o'=.tab i.size e' (cn+rows2.length) (cells++rows2.flatten))∨(i'=id∧o'=.dead):=by
    intro i' o' h
    simp only [getM] at h
    split at h
    ·rename_i e;cases h;exact .inl ⟨e.symm,rfl⟩
    ·split at h<;>simp at h
     rename_i e;exact .inr ⟨e.symm,h.symm⟩
   have hkid:(getM [(d,O.tab i.size e' (cn+rows2.length) (cells++rows2.flatten)),(id,O.dead)] id).isSome=true:=by simp [getM,hne]
   refine OpOk.value I (v':=v') (w':=w') (β':=upd β d v') (S':=S) (by simp [execOp,ho,resolve,invoke,builtin,hsv,hxv,hr]) ?_ hdk
   refine { new:=?_,os:=hg.os,tape:=hg.tape,output:=hg.output,grow:=hg.size,touch:=?_,S1:=fun _ h=>h,S2:=fun b hb=>Nat.lt_of_lt_of_le (I.Slt b hb) hg.size,S4:=fun _ h=>.inl h,objs:=?_,own:=?_,fro:=?_,inj:=?_,closedM:=?_,rep:=?_,closedV:=?_ }
   ·intro i'
    by_cases h:i'=d
    ·subst h;exact .inr hM
    ·exact .inl (upd_ne β v' h)
   ·intro b hb'
    by_cases hb2:blk (β id)=some b
    ·exact .inr ⟨id,_,hM2,rfl,hb2,hkid⟩
    ·exact .inl (hg.block b hb' fun e=>hb2 (by rw [←own_of_blk hown0];exact e.symm))
   ·intro i' o' h
    rcases hget i' o' h with ⟨rfl,rfl⟩ | ⟨rfl,rfl⟩
    ·refine ⟨h3,by rw [List.length_append,hl,flat_len hfr.wid,Nat.add_mul],xs++news,by rw [upd_same];exact hown,fun v hv=>(List.mem_append.1 hv).elim (hone0 v) (hfr.one v),fun k x v h1 h2 => ?_⟩
     rw [List.getElem?_append] at h1 h2
     rw [hown0.1,←hl] at h2
     split at h1
     ·rename_i hk
      rw [if_pos hk] at h2
      exact (hc0 k x v h1 h2).mono hSh (fun _ h=>h) fun id' hid'=>upd_ne _ _ fun e=>by
       have:=I.closedM id _ hM2 id' (by rw [O.ids];exact idsL_mem h1 hid')
       rw [e,hM] at this;cases this
     ·rename_i hk
      rw [if_neg hk] at h2
      obtain ⟨r,hr1,hr2⟩:=flat_get h3 hfr.wid h1
      obtain ⟨q,hq,hx⟩:=hfr.rep _ r _ x hr1 hr2
      rw [Nat.div_add_mod'] at hq
      rw [hq] at h2;cases h2
      exact .d (hx.mono hSh fun _ h=>h)
    ·trivial
   ·intro i' o' g h h1 h2
    rcases hget i' o' h with ⟨rfl,rfl⟩ | ⟨rfl,rfl⟩
    ·rw [upd_same] at h2
     rcases hb with hb | ⟨g',hb,hle⟩
     ·rw [hb] at h2
      exact ⟨(I.own id _ g hM2 rfl h2).1,.inr ⟨id,_,hM2,rfl,h2,hkid⟩⟩
     ·rw [hb] at h2;cases h2
      exact ⟨fun hS=>by have:=I.Slt g hS;omega,.inl hle⟩
    ·cases h1
   ·intro i' m' e'' rows' g h
    rcases hget i' _ h with ⟨_,h⟩ | ⟨_,h⟩<;>cases h
   ·intro i1 i2 o1 o2 g q1 q2 q3 q4
    rcases hget i1 o1 q1 with ⟨rfl,rfl⟩ | ⟨rfl,rfl⟩
    ·rcases hget i2 o2 q2 with ⟨rfl,rfl⟩ | ⟨rfl,rfl⟩
     ·exact fun _ _=>rfl
     ·cases q4
    ·cases q3
   ·intro i' o' h id' hid
    rcases hget i' o' h with ⟨_,rfl⟩ | ⟨_,rfl⟩
    ·rw [O.ids] at hid
     rcases idsL_app hid with h | h
     ·exact .inr (I.closedM id _ hM2 id' (by rw [O.ids];exact h))
     ·exact absurd h (by rw [rows_ids hfr];simp)
    ·cases hid
   ·have:=Rep.own (w:=w') (β:=upd β d v') (S:=S) d (by rw [upd_same];exact hone1)
    rwa [upd_same] at this
   ·intro i' hi'
    have:i'=d:=by simpa [V.ids] using hi'
    subst this
    exact .inl (by simp [getM])
 ·rename_i id m off n hs
  split at h<;>try (cases h;done)
  rename_i m' e' rows hM2
  split at h<;>simp at h
  rename_i hcond
  obtain ⟨rfl,rfl,hle,hpos⟩:=hcond
  obtain ⟨rfl,rfl⟩:=h
  have hd2:=evalV_rep I s
  rw [hs] at hd2
  obtain ⟨hm0,hw,xs,hown,hone,hc0⟩:=I.objs id _ hM2
  generalize hsv:a.eval s=sv at hd2
  rcases own_row I hM2 with ⟨h7,h8⟩ | ⟨g1,cap1,h7,h8⟩
  ·subst h8;rw [List.length_nil] at hle;omega
  ·cases hd2 with
   | d hd2=>cases hd2
   | cut0 _ _ _ N C _ _ ad' hβ hN=>rw [h7] at hβ;cases hβ;omega
   | cut _ _ _ _ g N C ad3 c3 hβ hc ha hr hn hK =>
     rw [h7] at hβ;cases hβ
     have ea:=ha (by omega)
     subst ea
     rcases hown.2 with ⟨e1,_⟩ | ⟨g',cap,cur,e1,_,hg,hnc,hcm,hcs,htake⟩
     ·rw [h7] at e1;cases e1
     ·rw [h7] at e1;cases e1
      have hnl:0<news.length:=by rw [hfr.len];exact Nat.mul_pos hpos h3
      obtain ⟨ad',hadd,_⟩:=hnews 0 news[0] (List.getElem?_eq_getElem hnl)
      subst hadd
      have hmul:off * i.size+n * i.size+news.length≤rows.length * i.size:=by rw [hfr.len,←Nat.add_mul,←Nat.add_mul];exact Nat.mul_le_mul_right _ hle
      have hbc:rows.length * i.size≤cur.size:=by rw [hcs];exact Nat.mul_le_mul_right _ hnc
      have hrun:=run_append_row (P:=P) w t o.type e hu hi g1 (off * i.size) n c3 ad' rows2.length c cur e' news hg hfr.len (fun j u hj=>by
       obtain ⟨a',h,h2⟩:=hnews j u hj
       cases h;exact h2) hfr.one (by omega) (by omega)
      have hfr0:FR w S i.size rows xs:=⟨hown.1,hw,hone,hc0⟩
      have hnew:FR w S i.size (rows.take (off+n)++(rows2++rows.drop (off+n+rows2.length))) (xs.take ((off+n) * i.size)++(news++xs.drop ((off+n+rows2.length) * i.size))):=(hfr0.take (by omega)).append (hfr.append hfr0.drop)
      have hlen2:(rows.take (off+n)++(rows2++rows.drop (off+n+rows2.length))).length=rows.length:=by simp;omega
      have hSh:∀ b,S b→(w.setRow g1 (cur.toList.take (off * i.size+n * i.size)++news++cur.toList.drop (off * i.size+n * i.size+news.length)).toArray).heap[b]?=w.heap[b]?:=fun b hb=>setRow_other w g1 b _ fun e=>(I.own id _ g1 hM2 rfl (by rw [h7];rfl)).1 (e▸hb)
      refine OpOk.value I (v':=.slice (some ⟨g1,off * i.size,none⟩) (n+rows2.length) c3) (by simp [execOp,ho,resolve,invoke,builtin,hsv,hxv,hrun]) (UpdOk.write I hM2 (w':=w.setRow g1 (cur.toList.take (off * i.size+n * i.size)++news++cur.toList.drop (off * i.size+n * i.size+news.length)).toArray) rfl rfl rfl rfl rfl (setRow_size _ _ _) (fun b hb=>setRow_other w g1 b _ fun e=>hb (by rw [h7,e];rfl)) ?_ (fun _ h=>by cases h) (.cut id _ off (n+rows2.length) g1 rows.length cap1 _ c3 h7 (by omega) (fun _=>rfl) hr (by omega) hK) (by simp [V.ids,hM2])) hdk
      refine ⟨hm0,hnew.wid,_,?_,hnew.one,fun k r j x h1 h2=>let ⟨v,h3,h4⟩:=hnew.rep k r j x h1 h2;⟨v,h3,h4.mono hSh fun _ h=>h⟩⟩
      refine ⟨hnew.len,.inr ⟨g1,cap1,_,by rw [h7,hlen2],Nat.zero_le _,setRow_heap w g1 cur _ e' _ hg,by rw [hlen2];exact hnc,hcm,?_,?_⟩⟩
      ·have hcl:cur.toList.length=cur.size:=Array.length_toList
       have:=ov_len (cs:=cur.toList) (ns:=news) (off:=off * i.size+n * i.size) (by rw [hcl];omega)
       simp only [List.append_assoc,List.size_toArray]
       rw [this,hcl,hcs]
      ·simp only [List.append_assoc,hlen2]
       have hcl:cur.toList.length=cur.size:=Array.length_toList
       have:=take_ov cur.toList news (off * i.size+n * i.size) (rows.length * i.size) (by omega) (by rw [hcl];omega)
       rw [this,htake]
       have e9:(off+n+rows2.length) * i.size=off * i.size+n * i.size+news.length:=by rw [hfr.len,Nat.add_mul,Nat.add_mul]
       rw [e9,Nat.add_mul]
theorem copy_core (I:Inv w0 fp S0 σ a w β S) {t:TypeId} {dd s:Operand} {args:Array Operand} {ts:Array TypeId} {e:TypeId} {i:TypeInfo} (ho:o.op=.call { callee:=.builtin .copy,args:=args,argTypes:=ts }) (ha:args = #[dd,s]) (ht:ts = #[t,t])
  (hu:P.underlying t=some (.slice e)) (hi:P.info? e=some i) (h1:i.size=1) {id off n:Nat} {e':TypeId} {rows rows2:List (List V)} (hM:getM σ.M id=some (.row true 1 e' rows)) (hc:content σ i.size (evalV σ s)=some rows2) (hle:off+n≤rows.length)
  (hdv:∃ ad c,a.eval dd=.slice ad n c∧(0<n→∃ g N C,β id=.slice (some ⟨g,0,none⟩) N C∧ad=some ⟨g,off,none⟩)) (hdk:dstOk σ.n o.dst=true) :
  OpOk P w0 fp S0 σ a w o (.p (.int .i64 ((rows2.take n).length:Nat))) [(id,.row true 1 e' (rows.take off++(rows2.take n++rows.drop (off+(rows2.take n).length))))]:=by
 subst ha ht
 rw [h1] at hc
 obtain ⟨ad2,c2,news,hxv,hfr,hnews⟩:=content_ok I Nat.one_pos hc (evalV_rep I s)
 obtain ⟨ad,c,hdv,hda⟩:=hdv
 obtain ⟨hm0,hw,xs,hown,hone,hc0⟩:=I.objs id _ hM
 have hlt:(rows2.take n).length≤n:=List.length_take_le _ _
 by_cases h0:(rows2.take n).length=0
 ·have e1:rows2.take n=[]:=List.eq_nil_of_length_eq_zero h0
  have hmin:Nat.min rows2.length n=0:=by
   rw [List.length_take] at h0
   show min rows2.length n=0
   omega
  have hrun:=run_copy_none (P:=P) w t t o.type e ad ad2 n c rows2.length c2 hu (by rw [hi];simp [h1]) hmin
  rw [e1]
  simp only [List.length_nil,Nat.add_zero,List.nil_append,List.take_append_drop]
  refine OpOk.value I (v':=goInt 0) (by simp [execOp,ho,resolve,invoke,builtin,hdv,hxv,hrun]) (UpdOk.write I hM (o1:=.row true 1 e' rows) (w':=w) rfl rfl rfl rfl rfl rfl (fun _ _=>rfl) (I.objs id _ hM) (fun _ h=>by cases h) (.d (.p _)) (by simp [V.ids])) hdk
 ·have hn0:0<n:=by omega
  obtain ⟨g,N,C,hβ,rfl⟩:=hda hn0
  rcases hown.2 with ⟨e1,_⟩ | ⟨g',cap,cur,e1,_,hg,hnc,hcm,hcs,htake⟩
  ·rw [hβ] at e1;cases e1
  ·rw [hβ] at e1;cases e1
   have hnl:news.length=rows2.length:=by rw [hfr.len];simp
   have hr2:0<rows2.length:=by rw [List.length_take] at h0;omega
   obtain ⟨ad',hadd,_⟩:=hnews 0 news[0] (List.getElem?_eq_getElem (by omega))
   subst hadd
   have hcl:(news.take n).length=(rows2.take n).length:=by rw [List.length_take,List.length_take,hnl]
   have hsz:cur.toList.length=C:=by simpa using hcs
   have hcz:cur.size=C:=by simpa using hcs
   have hfit:off+(news.take n).length≤cur.size:=by omega
   have hrun:=run_copy_row (P:=P) w t t o.type e g off n c ad' rows2.length c2 cur e' (news.take n) hu (by rw [hi];simp [h1]) hg (by rw [List.length_take,hnl];exact Nat.min_comm _ _)
    (fun j u hj=>by
     rw [List.getElem?_take] at hj
     split at hj<;>try (cases hj;done)
     obtain ⟨a',h,h2⟩:=hnews j u hj
     cases h;exact h2) hfit (fun v hv=>hfr.one v (List.mem_of_mem_take hv))
   have hov:off+(rows2.take n).length≤rows.length:=by omega
   have hxl:xs.length=rows.length:=by rw [hown.1];simp
   have hov2:off+(news.take n).length≤xs.length:=by omega
   have hfr1:FR w S 1 (rows.take off++(rows2.take n++rows.drop (off+(rows2.take n).length))) (xs.take off++(news.take n++xs.drop (off+(news.take n).length))):=by
    refine ⟨by rw [ov_len hov2,ov_len hov,hxl];simp,fun r hr => ?_,fun v hv => ?_,fun k r j x hk hj => ?_⟩
    ·simp only [List.mem_append] at hr
     rcases hr with hr | hr | hr
     ·exact hw r (List.mem_of_mem_take hr)
     ·exact hfr.wid r (List.mem_of_mem_take hr)
     ·exact hw r (List.mem_of_mem_drop hr)
    ·simp only [List.mem_append] at hv
     rcases hv with hv | hv | hv
     ·exact hone v (List.mem_of_mem_take hv)
     ·exact hfr.one v (List.mem_of_mem_take hv)
     ·exact hone v (List.mem_of_mem_drop hv)
    ·rw [ov_get hov] at hk
     have hj0:j=0:=by
      have hr:r.length=1:=by
       split at hk
       ·exact hfr.wid r (List.mem_of_mem_take (List.mem_of_getElem? hk))
       ·exact hw r (List.mem_of_getElem? hk)
      have:=(List.getElem?_eq_some_iff.1 hj).1
      omega
     subst hj0
     rw [Nat.mul_one,Nat.add_zero,ov_get hov2,hcl]
     split at hk
     ·rename_i hcnd
      rw [if_pos hcnd]
      rw [List.getElem?_take] at hk
      split at hk<;>try (cases hk;done)
      rename_i hlt2
      obtain ⟨v,hv,hx⟩:=hfr.rep _ r 0 x hk hj
      exact ⟨v,by rw [List.getElem?_take,if_pos hlt2];simpa using hv,hx⟩
     ·rename_i hcnd
      rw [if_neg hcnd]
      obtain ⟨v,hv,hx⟩:=hc0 k r 0 x hk hj
      exact ⟨v,by simpa using hv,hx⟩
   have hSh:∀ b,S b→(w.setRow g (cur.toList.take off++news.take n++cur.toList.drop (off+(news.take n).length)).toArray).heap[b]?=w.heap[b]?:=fun b hb=>setRow_other w g b _ fun e=>(I.own id _ g hM rfl (by rw [hβ];rfl)).1 (e▸hb)
   refine OpOk.value I (v':=goInt (news.take n).length) (by simp [execOp,ho,resolve,invoke,builtin,hdv,hxv,hrun]) (UpdOk.write I hM (w':=w.setRow g (cur.toList.take off++news.take n++cur.toList.drop (off+(news.take n).length)).toArray) rfl rfl rfl rfl rfl (setRow_size _ _ _) (fun b hb=>setRow_other w g b _ fun e=>hb (by rw [hβ,e];rfl)) ?_ (fun _ h=>by cases h) (by rw [hcl];exact .d (.p _)) (by simp [V.ids])) hdk
   have hlen2:(rows.take off++(rows2.take n++rows.drop (off+(rows2.take n).length))).length=rows.length:=ov_len hov
   refine ⟨hm0,hfr1.wid,_,?_,hfr1.one,fun k r j x h1 h2=>let ⟨v,h3,h4⟩:=hfr1.rep k r j x h1 h2;⟨v,h3,h4.mono hSh fun _ h=>h⟩⟩
   refine ⟨hfr1.len,.inr ⟨g,C,_,by rw [hβ,hlen2],Nat.zero_le _,setRow_heap w g cur _ e' _ hg,by rw [hlen2];exact hnc,hcm,?_,?_⟩⟩
   ·simp only [List.append_assoc,List.size_toArray]
    rw [ov_len (by omega),hsz,Nat.mul_one]
   ·simp only [List.append_assoc,hlen2,Nat.mul_one]
    rw [take_ov _ _ _ _ (by omega) (by omega)]
    rw [Nat.mul_one] at htake
    rw [htake]
theorem copy_ok (I:Inv w0 fp S0 σ a w β S) {t:TypeId} {dd s:Operand} {v:V} {u:List (Nat×O)} {args:Array Operand} {ts:Array TypeId} (ho:o.op=.call { callee:=.builtin .copy,args:=args,argTypes:=ts })
  (hargs:args.toList=[dd,s]) (hts:ts.toList=[t,t]) (h:copyV P σ t (evalV σ dd) (evalV σ s)=some (v,u)) (hdk:dstOk σ.n o.dst=true):OpOk P w0 fp S0 σ a w o v u:=by
 have ha:args = #[dd,s]:=by rw [←Array.toArray_toList (xs:=args),hargs]
 have ht:ts = #[t,t]:=by rw [←Array.toArray_toList (xs:=ts),hts]
 unfold copyV at h
 split at h<;>try (cases h;done)
 rename_i e i he
 obtain ⟨hu,hi⟩:=elemI_ok he
 split at h<;>try (cases h;done)
 rename_i rows2 hc
 split at h<;>try (cases h;done)
 rename_i h1
 have hd:=evalV_rep I dd
 split at h<;>try (cases h;done)
 ·rename_i id hdd
  rw [hdd] at hd
  split at h<;>try (cases h;done)
  rename_i m e' rows hM
  split at h<;>simp at h
  rename_i hm
  subst hm
  obtain ⟨rfl,rfl⟩:=h
  have hv:=rep_own hd
  have:=copy_core I ho ha ht hu hi h1 (off:=0) (n:=rows.length) hM hc (by omega) ?_ hdk
  ·simpa using this
  ·rcases own_row I hM with ⟨h3,rfl⟩ | ⟨g,cap,h3,h4⟩
   ·exact ⟨none,0,by simpa using hv.trans h3,fun h=>absurd h (Nat.lt_irrefl _)⟩
   ·exact ⟨_,cap,hv.trans h3,fun _=>⟨g,_,_,h3,rfl⟩⟩
 ·rename_i id m off n hdd
  rw [hdd] at hd
  split at h<;>try (cases h;done)
  rename_i m' e' rows hM
  split at h<;>simp at h
  rename_i hcnd
  obtain ⟨rfl,rfl,hle⟩:=hcnd
  obtain ⟨rfl,rfl⟩:=h
  have:=copy_core I ho ha ht hu hi h1 (off:=off) (n:=n) hM hc hle ?_ hdk
  ·simpa using this
  ·generalize hv:a.eval dd=dv at hd
   cases hd with
   | d hd=>cases hd
   | cut _ _ _ _ g N C ad c hβ hc2 ha2 hr hn hK=>exact ⟨ad,c,rfl,fun h=>⟨g,N,C,hβ,by simpa using ha2 (by omega)⟩⟩
   | cut0 _ _ _ _ _ ad c=>exact ⟨ad,c,rfl,fun h=>absurd h (Nat.lt_irrefl _)⟩
theorem ToldR.append {r1 r2 q1 q2:List (List V)} (h1:ToldR r1 q1) (h2:ToldR r2 q2):ToldR (r1++r2) (q1++q2):=by
 refine ⟨by rw [List.length_append,List.length_append,h1.1,h2.1],fun k r' hk => ?_⟩
 by_cases hlt:k<q1.length
 ·rw [List.getElem?_append_left hlt] at hk
  obtain ⟨r,hr,hx⟩:=h1.2 k r' hk
  exact ⟨r,by rw [List.getElem?_append_left (by have:=h1.1;omega)];exact hr,hx⟩
 ·rw [List.getElem?_append_right (by omega)] at hk
  obtain ⟨r,hr,hx⟩:=h2.2 _ r' hk
  refine ⟨r,?_,hx⟩
  rw [List.getElem?_append_right (by have:=h1.1;omega),←hr]
  congr 1
  have:=h1.1
  omega
theorem ToldR.same (r:List (List V)):ToldR r r:=⟨rfl,fun k r' h=>⟨r',h,ToldL.same r'⟩⟩
theorem run_clear_none (w:World) (t ty e:TypeId) (hu:P.underlying t=some (.slice e)) (ad:Option Addr) (c:Nat):(Builtin.clear_ #[t] ty #[.slice ad 0 c]).run P w=.ok (.tuple #[]) w:=by
 cases ad<;>simp [Builtin.clear_,run_underlying hu]
theorem run_clear_row (w:World) (t ty e:TypeId) {i:TypeInfo} {zv:Value} (hu:P.underlying t=some (.slice e)) (hi:P.info? e=some i) (h1:i.zero=some zv) (g o n c:Nat) (cur:Array Value) (e':TypeId) (hn:0<n) (hz:0<zv.cells.size)
  (hg:w.heap[g]?=some (.cells cur e' (0,0))) (hfit:o+n * zv.cells.size≤cur.size) (hone:∀ v∈zv.cells,v.oneCell'=true) :
  (Builtin.clear_ #[t] ty #[.slice (some ⟨g,o,none⟩) n c]).run P w=.ok (.tuple #[]) (w.setRow g (cur.toList.take o++(madeCells zv.cells (n * zv.cells.size)).toList++cur.toList.drop (o+n * zv.cells.size)).toArray):=by
 have hst:=run_storeCells_at P g o e' (madeCells zv.cells (n * zv.cells.size)).toList 0 cur w hg (by rw [Array.length_toList,size_madeCells];omega) (FR_made w (fun _=>False) zv.cells n hz hone).one
 simp only [Nat.add_zero,Array.length_toList,size_madeCells] at hst
 obtain ⟨m,rfl⟩:∃ m,n=m+1:=⟨n - 1,by omega⟩
 have hzc:Builtin.zeroCells zv.cells (m+1)=madeCells zv.cells ((m+1) * zv.cells.size):=rfl
 simp [Builtin.clear_,run_underlying hu,zeroValue,typeInfo,hi,h1,hzc,hst]
theorem clear_core (I:Inv w0 fp S0 σ a w β S) {t:TypeId} {dd:Operand} {args:Array Operand} {ts:Array TypeId} {e:TypeId} {i:TypeInfo} {z:List V} (ho:o.op=.call { callee:=.builtin .clear,args:=args,argTypes:=ts }) (ha:args = #[dd]) (ht:ts = #[t])
  (hu:P.underlying t=some (.slice e)) (hi:P.info? e=some i) (hz:zeroRow i=some z) {id off n:Nat} {e':TypeId} {rows:List (List V)} (hM:getM σ.M id=some (.row true i.size e' rows)) (hle:off+n≤rows.length)
  (hdv:∃ ad c,a.eval dd=.slice ad n c∧(0<n→∃ g N C,β id=.slice (some ⟨g,0,none⟩) N C∧ad=some ⟨g,off * i.size,none⟩)) (hdk:dstOk σ.n o.dst=true) :
  OpOk P w0 fp S0 σ a w o (.tup []) [(id,.row true i.size e' (rows.take off++(List.replicate n z++rows.drop (off+n))))]:=by
 subst ha ht
 obtain ⟨zv,h1,h2,h3,h4,h5,rfl⟩:=zeroRow_ok hz
 obtain ⟨ad,c,hdv,hda⟩:=hdv
 obtain ⟨hm0,hw,xs,hown,hone,hc0⟩:=I.objs id _ hM
 by_cases h0:n=0
 ·subst h0
  have hrun:=run_clear_none (P:=P) w t o.type e hu ad c
  simp only [List.replicate_zero,List.nil_append,Nat.add_zero,List.take_append_drop]
  exact OpOk.value I (v':=.tuple #[]) (by simp [execOp,ho,resolve,invoke,builtin,hdv,hrun]) (UpdOk.write I hM (o1:=.row true i.size e' rows) (w':=w) rfl rfl rfl rfl rfl rfl (fun _ _=>rfl) (I.objs id _ hM) (fun _ h=>by cases h) (.tup [] #[] rfl (by simp)) (by simp [V.ids,V.idsL])) hdk
 ·obtain ⟨g,N,C,hβ,rfl⟩:=hda (by omega)
  rcases hown.2 with ⟨e1,_⟩ | ⟨g',cap,cur,e1,_,hg,hnc,hcm,hcs,htake⟩
  ·rw [hβ] at e1;cases e1
  ·rw [hβ] at e1;cases e1
   have hz2:zv.cells.size=i.size:=h2
   have hmul:off * i.size+n * i.size≤rows.length * i.size:=by rw [←Nat.add_mul];exact Nat.mul_le_mul_right _ hle
   have hbc:rows.length * i.size≤cur.size:=by rw [hcs];exact Nat.mul_le_mul_right _ hnc
   have hrun:=run_clear_row (P:=P) w t o.type e hu hi h1 g (off * i.size) n c cur e' (by omega) (by omega) hg (by rw [hz2];omega) h5
   rw [hz2] at hrun
   have hmade:=FR_made w S zv.cells n (by omega) h5
   rw [hz2] at hmade
   have hfr:FR w S i.size rows xs:=⟨hown.1,hw,hone,hc0⟩
   have hml:(madeCells zv.cells (n * i.size)).toList.length=n * i.size:=by rw [Array.length_toList,size_madeCells]
   have hnew:FR w S i.size (rows.take off++(List.replicate n (zv.cells.toList.map ofCell)++rows.drop (off+n))) (xs.take (off * i.size)++((madeCells zv.cells (n * i.size)).toList++xs.drop ((off+n) * i.size))):=(hfr.take (by omega)).append (hmade.append hfr.drop)
   have hlen2:(rows.take off++(List.replicate n (zv.cells.toList.map ofCell)++rows.drop (off+n))).length=rows.length:=by simp;omega
   have hSh:∀ b,S b→(w.setRow g (cur.toList.take (off * i.size)++(madeCells zv.cells (n * i.size)).toList++cur.toList.drop (off * i.size+n * i.size)).toArray).heap[b]?=w.heap[b]?:=fun b hb=>setRow_other w g b _ fun e=>(I.own id _ g hM rfl (by rw [hβ];rfl)).1 (e▸hb)
   refine OpOk.value I (v':=.tuple #[]) (by simp [execOp,ho,resolve,invoke,builtin,hdv,hrun]) (UpdOk.write I hM (w':=w.setRow g (cur.toList.take (off * i.size)++(madeCells zv.cells (n * i.size)).toList++cur.toList.drop (off * i.size+n * i.size)).toArray) rfl rfl rfl rfl rfl (setRow_size _ _ _) (fun b hb=>setRow_other w g b _ fun e=>hb (by rw [hβ,e];rfl)) ?_ (fun _ h=>by cases h) (.tup [] #[] rfl (by simp)) (by simp [V.ids,V.idsL])) hdk
   refine ⟨hm0,hnew.wid,_,?_,hnew.one,fun k r j x h1 h2=>let ⟨v,h3,h4⟩:=hnew.rep k r j x h1 h2;⟨v,h3,h4.mono hSh fun _ h=>h⟩⟩
   refine ⟨hnew.len,.inr ⟨g,C,_,by rw [hβ,hlen2],Nat.zero_le _,setRow_heap w g cur _ e' _ hg,by rw [hlen2];exact hnc,hcm,?_,?_⟩⟩
   ·have:=ov_len (cs:=cur.toList) (ns:=(madeCells zv.cells (n * i.size)).toList) (off:=off * i.size) (by rw [hml,Array.length_toList];omega)
    rw [hml] at this
    simp only [List.append_assoc,List.size_toArray]
    rw [this,Array.length_toList,hcs]
   ·simp only [List.append_assoc,hlen2]
    have:=take_ov cur.toList (madeCells zv.cells (n * i.size)).toList (off * i.size) (rows.length * i.size) (by rw [hml];omega) (by rw [Array.length_toList];omega)
    rw [hml] at this
    rw [this,htake,Nat.add_mul]
theorem clear_ok (I:Inv w0 fp S0 σ a w β S) {t:TypeId} {dd:Operand} {v:V} {u:List (Nat×O)} {args:Array Operand} {ts:Array TypeId} (ho:o.op=.call { callee:=.builtin .clear,args:=args,argTypes:=ts })
  (hargs:args.toList=[dd]) (hts:ts.toList=[t]) (h:clearV P σ t (evalV σ dd)=some (v,u)) (hdk:dstOk σ.n o.dst=true):OpOk P w0 fp S0 σ a w o v u:=by
 have ha:args = #[dd]:=by rw [←Array.toArray_toList (xs:=args),hargs]
 have ht:ts = #[t]:=by rw [←Array.toArray_toList (xs:=ts),hts]
 unfold clearV at h
 split at h<;>try (cases h;done)
 rename_i e i he
 obtain ⟨hu,hi⟩:=elemI_ok he
 split at h<;>try (cases h;done)
 rename_i z hz
 have hd:=evalV_rep I dd
 split at h<;>try (cases h;done)
 ·rename_i hdd
  rw [hdd] at hd
  simp at h
  obtain ⟨rfl,rfl⟩:=h
  have hv:=rep_nil hd
  subst ha ht
  have hrun:=run_clear_none (P:=P) w t o.type e hu none 0
  exact OpOk.value I (v':=.tuple #[]) (by simp [execOp,ho,resolve,invoke,builtin,hv,hrun]) (UpdOk.pure I (.tup [] #[] rfl (by simp)) (by simp [V.ids,V.idsL])) hdk
 ·rename_i id m off n hdd
  rw [hdd] at hd
  split at h<;>try (cases h;done)
  rename_i m' e' rows hM
  split at h<;>simp at h
  rename_i hcnd
  obtain ⟨rfl,rfl,hle⟩:=hcnd
  obtain ⟨rfl,rfl⟩:=h
  have hrep':List.replicate n (tell (slotMs P 8 e) z)=(List.replicate n z).map (tell (slotMs P 8 e)):=List.map_replicate.symm
  rw [hrep']
  refine OpOk.told ?_ ((ToldR.same _).append ((told_map _ _).append (ToldR.same _)))
  refine clear_core I ho ha ht hu hi hz hM hle ?_ hdk
  generalize hv:a.eval dd=dv at hd
  cases hd with
  | d hd=>cases hd
  | cut _ _ _ _ g N C ad c hβ hc2 ha2 hr hn hK=>exact ⟨ad,c,rfl,fun h=>⟨g,N,C,hβ,ha2 (by omega)⟩⟩
  | cut0 _ _ _ _ _ ad c=>exact ⟨ad,c,rfl,fun h=>absurd h (Nat.lt_irrefl _)⟩
end
end Go.Proofs.YtlelaenalbkbmaaDoorV