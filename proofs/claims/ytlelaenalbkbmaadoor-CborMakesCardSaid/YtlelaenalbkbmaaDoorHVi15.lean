/- The value interpreter: every operation,and regions. -/
import Derived.Test.YtlelaenalbkbmaaDoorHVi14
namespace Go.Proofs.YtlelaenalbkbmaaDoorV
open Go
set_option linter.unusedVariables false
set_option linter.unusedSimpArgs false
section
variable {P:Program} {w0:World} {fp:Nat→Prop} {S0:Base} {σ:St} {a:Act} {w:World} {β:Nat→Value} {S:Nat→Prop} {o:Oper} {call:CallF} {h:Hints}
theorem map_nil {α:Type} {x:Option V} {v:V} {u:List α} (hx:x.map (·,([]:List α))=some (v,u)):x=some v∧u=[]:=by
 cases x<;>simp at hx
 exact ⟨by rw [hx.1],hx.2⟩
theorem store_tab (I:Inv w0 fp S0 σ a w β S) {t:TypeId} {x y:Operand} {id m k j n:Nat} {e:TypeId} {cells ns:List V} {i:TypeInfo} (ho:o.op=.store t x y) (hi:P.info? t=some i) (hns:cellsOf (evalV σ y)=some ns) (hlen:ns.length=i.size)
  (hx:evalV σ x=.ept id m k j) (hM:getM σ.M id=some (.tab m e n cells)) (hfit:k * m+j+ns.length≤cells.length) (hdk:dstOk σ.n o.dst=true) :
  OpOk P w0 fp S0 σ a w o (.tup []) [(id,.tab m e n (overlay cells (k * m+j) ns))]:=by
 have hv:=cellsOf_rep hns (evalV_rep I y)
 obtain ⟨hm0,hl,xs,hown,hone,hrep⟩:=I.objs id _ hM
 obtain ⟨g,N,C,hβ,hxv⟩:∃ g N C,β id=.slice (some ⟨g,0,none⟩) N C∧a.eval x=.pointer (some ⟨g,k * m+j,none⟩):=by
  have:=evalV_rep I x
  rw [hx] at this
  generalize a.eval x=xv at this
  cases this with
  | d h=>cases h
  | ept _ _ _ _ g N C h=>exact ⟨g,N,C,h,rfl⟩
 generalize k * m+j=off at hfit hxv ⊢
 rcases hown.2 with ⟨e1,_⟩ | ⟨g',cap,cur,e1,_,hg,hnc,hcm,hcs,htake⟩
 ·rw [hβ] at e1;cases e1
 ·rw [hβ] at e1;cases e1
  have hc:CRep w β S cells xs:=⟨by rw [hown.1,hl],hone,hrep⟩
  have hvl:(a.eval y).cells.size=i.size:=by have:=hv.len;simp at this;omega
  have hb:off+(a.eval y).cells.toList.length≤n * m:=by rw [hv.len,←hl];exact hfit
  have hbc:n * m≤cur.size:=by rw [hcs];exact Nat.mul_le_mul_right _ hnc
  have hst:=run_storeCells_at P g off e (a.eval y).cells.toList 0 cur w hg (by omega) hv.one
  simp only [Nat.add_zero] at hst
  have hov:=hc.overlay hv hfit
  have hSh:∀ b,S b→(w.setRow g (cur.toList.take off++(a.eval y).cells.toList++cur.toList.drop (off+(a.eval y).cells.toList.length)).toArray).heap[b]?=w.heap[b]?:=fun b hb=>setRow_other w g b _ fun e=>(I.own id _ g hM rfl (by rw [hβ];rfl)).1 (e▸hb)
  refine OpOk.skip I (w':=w.setRow g (cur.toList.take off++(a.eval y).cells.toList++cur.toList.drop (off+(a.eval y).cells.toList.length)).toArray) ?_ (UpdOk.write I hM (o1:=.tab m e n (overlay cells off ns)) (w':=w.setRow g (cur.toList.take off++(a.eval y).cells.toList++cur.toList.drop (off+(a.eval y).cells.toList.length)).toArray) rfl rfl rfl rfl rfl (setRow_size _ _ _) (fun b hb=>setRow_other w g b _ fun e=>hb (by rw [hβ,e];rfl)) ?_ ?_ undef_rep (by simp [V.ids,V.idsL])) hdk
  ·simp [execOp,ho,Instr.storeAt,hxv,Instr.sureAddr,storeVar,sizeOf,typeInfo,hi,hvl,hst]
  ·refine ⟨hm0,?_,_,?_,hov.one,fun i x v hx hv=>(hov.rep i x v hx hv).mono hSh (fun _ h=>h) fun _ _=>rfl⟩
   ·unfold overlay;rw [ov_len hfit];exact hl
   refine ⟨?_,.inr ⟨g,C,_,hβ,Nat.zero_le _,setRow_heap w g cur _ e _ hg,hnc,hcm,?_,?_⟩⟩
   ·rw [hov.len];unfold overlay;rw [ov_len hfit];exact hl
   ·simp only [List.append_assoc,List.size_toArray]
    rw [ov_len (by have:cur.toList.length=cur.size:=Array.length_toList;omega),Array.length_toList,hcs]
   ·simp only [List.append_assoc]
    rw [take_ov _ _ _ _ hb (by rw [Array.length_toList];exact hbc),htake]
  ·intro i hid
   simp only [O.ids,overlay] at hid
   rcases idsL_app hid with h | h
   ·exact I.closedM id _ hM i (by rw [O.ids];exact idsL_take _ _ _ h)
   ·rcases idsL_app h with h | h
    ·exact evalV_closed I y i (cellsOf_ids hns i h)
    ·exact I.closedM id _ hM i (by rw [O.ids];exact idsL_drop _ _ _ h)
theorem store_ok (I:Inv w0 fp S0 σ a w β S) {t:TypeId} {x y:Operand} {u:List (Nat×O)} (ho:o.op=.store t x y) (hs:storeV P σ t (evalV σ x) (evalV σ y)=some u) (hdk:dstOk σ.n o.dst=true):OpOk P w0 fp S0 σ a w o (.tup []) u:=by
 unfold storeV at hs
 split at hs<;>try (cases hs;done)
 rename_i i ns hi hns
 split at hs<;>try (cases hs;done)
 rename_i hlen
 split at hs<;>try (cases hs;done)
 ·rename_i id off hx
  split at hs<;>try (cases hs;done)
  rename_i ty cells hM
  split at hs<;>simp at hs
  rename_i hfit
  subst hs
  exact store_box I ho hi hns hlen hx hM hfit hdk
 ·rename_i id m k j hx
  split at hs<;>try (cases hs;done)
  ·rename_i m' e rows ns' fz hM hfz
   split at hs<;>try (cases hs;done)
   rename_i hc
   obtain ⟨rfl,hne⟩:=hc
   split at hs<;>try (cases hs;done)
   rename_i r hk
   split at hs<;>simp at hs
   rename_i hfit
   subst hs
   refine OpOk.told (store_row I ho hi hns hlen hx hM hfz ?_ hk hfit hdk) (told_set _ _ _ _)
   cases hq:getM fz id with
   | none=>rfl
   | some o' =>
     obtain ⟨q,hq1,hq2⟩:=List.mem_map.1 (getM_keys.1 (show (getM fz id).isSome=true by rw [hq];rfl))
     have:=(List.all_eq_true.1 hne) q hq1
     simp [hq2] at this
  ·rename_i m' e n cells _ hM
   split at hs<;>simp at hs
   rename_i hc
   obtain ⟨rfl,hfit⟩:=hc
   subst hs
   exact store_tab I ho hi hns hlen hx hM hfit hdk
def strCells:List Value→Option (List UInt8)
 | []=>some []
 | c::rs=>match rowByte [.p c],strCells rs with
   | some x,some l=>some (x::l)
   | _,_=>none
theorem rowByte_eq {r:List V} {x:UInt8} (h:rowByte r=some x):∃ n,r=[.p (.int .u8 n)]∧x=UInt8.ofNat n.toNat:=by
 unfold rowByte at h
 split at h<;>simp at h
 exact ⟨_,rfl,h.symm⟩
theorem strRows_cells:∀ (rows:List (List V)) (news:List Value) (l:List UInt8),strRows rows=some l→FR w S 1 rows news→strCells news=some l
 | [],news,l,h,hf=>by
   have:news=[]:=List.eq_nil_of_length_eq_zero (by simpa using hf.len)
   subst this
   simpa [strRows,strCells] using h
 | r::rows,news,l,h,hf=>by
   obtain ⟨c,rest,rfl⟩:∃ c rest,news=c::rest:=by
    cases news with
    | nil=>have:=hf.len;simp at this
    | cons c rest=>exact ⟨c,rest,rfl⟩
   simp only [strRows] at h
   split at h<;>simp at h
   rename_i x l' h0 h1
   subst h
   obtain ⟨n,rfl,rfl⟩:=rowByte_eq h0
   obtain ⟨v,h2,h3⟩:=hf.rep 0 _ 0 _ rfl rfl
   simp at h2
   subst h2
   cases h3
   have:=strRows_cells rows rest l' h1 ⟨by have:=hf.len;simp at this ⊢;omega,fun r hr=>hf.wid r (by simp [hr]),fun v hv=>hf.one v (by simp [hv]),fun k r j x hk hj=>by
    obtain ⟨v,h4,h5⟩:=hf.rep (k+1) r j x (by simpa using hk) hj
    refine ⟨v,?_,h5⟩
    rw [show (k+1) * 1+j=(k * 1+j)+1 from by omega] at h4
    simpa using h4⟩
   simp [strCells,rowByte,this]
theorem push_data:∀ (l:List UInt8) (s:ByteArray),l.foldl ByteArray.push s=⟨s.data++l.toArray⟩
 | [],s=>by simp
 | c::r,s=>by rw [List.foldl_cons,push_data r];congr 1;simp [ByteArray.push]
theorem str_run {s d:TypeId} {e:TypeId} (h1:P.underlying s=some (.slice e)) (h2:P.underlying d=some .string) (h3:P.underlying e=some (.int .u8)) {ad:Option Addr} {n c:Nat} {news:List Value} {l:List UInt8} (hl:strCells news=some l) (hn:news.length=n)
  (hc:∀ (j:Nat) u,news[j]?=some u→∃ ad',ad=some ad'∧w.cell? (ad'.add j)=some u):(convert s d (.slice ad n c)).run P w=.ok (.string ⟨l.toArray⟩) w:=by
 cases ad with
 | none =>
   have:news=[]:=by
    cases news with
    | nil=>rfl
    | cons x r=>obtain ⟨_,h,_⟩:=hc 0 x rfl;cases h
   subst this
   simp [strCells] at hl
   subst hl
   simp [convert,run_underlying h1,run_underlying h2,run_underlying h3,Conv.bytesToString]
   rfl
 | some ad =>
   have hload:=run_loadCells_list (P:=P) w ad news fun j v hj=>by
    obtain ⟨ad',h4,h5⟩:=hc j v hj
    cases h4
    exact h5
   rw [hn] at hload
   have loop:∀ (g:Value→ByteArray→Sem (ForInStep ByteArray)),(∀ n s,g (.int .u8 n) s=pure (.yield (s.push (UInt8.ofNat n.toNat))))→∀ (news:List Value) (l:List UInt8) (s:ByteArray),strCells news=some l →
    (forIn (m:=Sem) news s g).run P w=.ok (l.foldl ByteArray.push s) w:=by
    intro g hg news
    induction news with
    | nil=>intro l s h;simp [strCells] at h;subst h;simp
    | cons c r ih =>
      intro l s h
      simp only [strCells] at h
      split at h<;>simp at h
      rename_i x l' h0 h1
      subst h
      obtain ⟨n,e,rfl⟩:=rowByte_eq h0
      cases e
      simp [hg,ih l' _ h1]
   simp only [convert,run_underlying h1,run_underlying h2,run_underlying h3,Conv.bytesToString,hload,Sem.run_bind,Result.andThen_ok]
   rw [Array.forIn_toList.symm]
   rw [loop _ (fun n s=>by simp) news l .empty hl,push_data]
   simp
theorem str_ok (I:Inv w0 fp S0 σ a w β S) {s d:TypeId} {x:Operand} {v:V} (ho:o.op=.convert s d x) (h:strV P σ s d (evalV σ x)=some v):POk P σ a w β S o v:=by
 unfold strV at h
 split at h<;>try (cases h;done)
 rename_i e h1 h2
 split at h<;>simp at h
 rename_i rows h3 h4
 obtain ⟨l,h5,rfl⟩:=h
 obtain ⟨ad,c,news,h6,h7,h8⟩:=content_ok I (by decide) h4 (evalV_rep I x)
 refine ⟨⟨.string ⟨l.toArray⟩,?_,.d (.p _)⟩,by simp [V.ids]⟩
 have:=str_run (P:=P) h1 h2 h3 (c:=c) (n:=rows.length) (strRows_cells rows news l h5 h7) (by have:=h7.len;omega) h8
 simp [execOp,ho,h6,this]
theorem step_ok (hcall:CallOk P call) (I:Inv w0 fp S0 σ a w β S) {v:V} {u:List (Nat×O)} (hs:step P call h σ o=some (v,u)) (hdk:dstOk σ.n o.dst=true):OpOk P w0 fp S0 σ a w o v u:=by
 unfold step at hs
 split at hs
 case h_1 x ho=>cases hs;exact (move_ok I (.inl ho)).op I hdk
 case h_2 x ho=>cases hs;exact (move_ok I (.inr ho)).op I hdk
 case h_3 c x y ho =>
  split at hs<;>try (cases hs;done)
  rename_i t hc
  cases hs
  exact (pick_ok I ho hc).op I hdk
 case h_4 t ho =>
  split at hs<;>try (cases hs;done)
  rename_i d hd
  exact alloc_ok I ho hd hs hdk
 case h_5 t x ho =>
  split at hs<;>try (cases hs;done)
  rename_i d hd
  exact box_ok I ho hd hs hdk
 case h_6 t ps ho=>obtain ⟨h1,rfl⟩:=map_nil hs;exact (build_ok I ho h1).op I hdk
 case h_7 t len ps ho =>
  split at hs<;>try (cases hs;done)
  rename_i d hd
  exact buildSlice_ok I ho hd hs hdk
 case h_8 t x ho=>obtain ⟨h1,rfl⟩:=map_nil hs;exact (load_ok I ho h1).op I hdk
 case h_9 t x y ho =>
  rw [Option.map_eq_some_iff] at hs
  obtain ⟨u',h1,h2⟩:=hs
  cases h2
  exact store_ok I ho h1 hdk
 case h_10 x ho =>
  split at hs<;>try (cases hs;done)
  all_goals
   rename_i hx
   cases hs
  ·exact (nilCheck_ok I ho hx (.inl rfl)).op I hdk
  ·exact (nilCheck_ok I ho hx (.inl rfl)).op I hdk
  ·exact (nilCheck_ok I ho hx (.inl rfl)).op I hdk
  ·exact (nilCheck_ok I ho hx (.inr (.inl ⟨_,_,rfl⟩))).op I hdk
  ·exact (nilCheck_ok I ho hx (.inr (.inr (.inl ⟨_,rfl⟩)))).op I hdk
  ·exact (nilCheck_ok I ho hx (.inr (.inr (.inr ⟨_,_,_,rfl⟩)))).op I hdk
 case h_11 op t x y t' ho=>obtain ⟨h1,rfl⟩:=map_nil hs;exact (bin_ok I ho h1).op I hdk
 case h_12 s t x ho =>
  split at hs
  ·obtain ⟨h1,rfl⟩:=map_nil hs;exact (conv_ok I ho h1).op I hdk
  ·obtain ⟨h1,rfl⟩:=map_nil hs;exact (str_ok I ho h1).op I hdk
 case h_13 t x lo hi mx ho =>
  split at hs
  ·obtain ⟨h1,rfl⟩:=map_nil hs;exact (plainOp_ok I h1).op I hdk
  ·obtain ⟨h1,rfl⟩:=map_nil hs;exact (slice_ok I ho h1).op I hdk
 case h_14 s x f ho=>obtain ⟨h1,rfl⟩:=map_nil hs;exact (fieldAddr_ok I ho h1).op I hdk
 case h_15 t x f ho=>obtain ⟨h1,rfl⟩:=map_nil hs;exact (field_ok I ho h1).op I hdk
 case h_16 t x i ho=>obtain ⟨h1,rfl⟩:=map_nil hs;exact (indexAddr_ok I ho h1).op I hdk
 case h_17 t x i ho=>obtain ⟨h1,rfl⟩:=map_nil hs;exact (arrIdx_ok I ho h1).op I hdk
 case h_18 t i ho =>
  split at hs<;>try (cases hs;done)
  rename_i vs hx
  obtain ⟨h1,rfl⟩:=map_nil hs
  exact (extract_ok I ho hx h1).op I hdk
 case h_19 f first captured ho =>
  split at hs<;>simp at hs
  rename_i hz
  obtain ⟨rfl,rfl⟩:=hs
  simpa using (makeFunc_ok I ho hz).op I hdk
 case h_20 t l c ho =>
  split at hs<;>try (cases hs;done)
  rename_i d hd
  exact make_ok I ho hd hs hdk
 case h_21 c ho =>
  obtain ⟨callee,args,ts⟩:=c
  dsimp only at hs
  split at hs
  ·split at hs<;>try (cases hs;done)
   ·rename_i hc hd
    exact callStep_ok hcall I ho hc hs hdk
   ·rename_i hc hd
    exact callStep_ok hcall I ho hc hs hdk
  ·split at hs<;>try (cases hs;done)
   rename_i x t ha ht
   split at hs<;>try (cases hs;done)
   ·obtain ⟨h1,rfl⟩:=map_nil hs;exact (plainOp_ok I h1).op I hdk
   ·rename_i e hu _
    rw [Option.map_eq_some_iff] at hs
    obtain ⟨n,h1,h2⟩:=hs
    cases h2
    exact (len_ok I ho ha ht hu h1).op I hdk
  ·split at hs<;>try (cases hs;done)
   rename_i s x t t' d ha ht hd
   split at hs<;>try (cases hs;done)
   rename_i ht2
   subst ht2
   cases hal:args.toList with
   | nil=>rw [hal] at ha;simp at ha
   | cons s1 r1 =>
     cases r1 with
     | nil=>rw [hal] at ha;simp at ha
     | cons s2 r2 =>
       cases r2 with
       | cons _ _=>rw [hal] at ha;simp at ha
       | nil =>
         rw [hal] at ha
         simp only [List.map_cons,List.map_nil,List.cons.injEq,and_true] at ha
         obtain ⟨rfl,rfl⟩:=ha
         exact append_ok I ho hal ht hd hs hdk
  ·split at hs<;>try (cases hs;done)
   rename_i s x t t' ha ht
   split at hs<;>try (cases hs;done)
   rename_i ht2
   subst ht2
   cases hal:args.toList with
   | nil=>rw [hal] at ha;simp at ha
   | cons s1 r1 =>
     cases r1 with
     | nil=>rw [hal] at ha;simp at ha
     | cons s2 r2 =>
       cases r2 with
       | cons _ _=>rw [hal] at ha;simp at ha
       | nil =>
         rw [hal] at ha
         simp only [List.map_cons,List.map_nil,List.cons.injEq,and_true] at ha
         obtain ⟨rfl,rfl⟩:=ha
         exact copy_ok I ho hal ht hs hdk
  ·split at hs<;>try (cases hs;done)
   rename_i s t ha ht
   cases hal:args.toList with
   | nil=>rw [hal] at ha;simp at ha
   | cons s1 r1 =>
     cases r1 with
     | cons _ _=>rw [hal] at ha;simp at ha
     | nil =>
       rw [hal] at ha
       simp only [List.map_cons,List.map_nil,List.cons.injEq,and_true] at ha
       subst ha
       exact clear_ok I ho hal ht hs hdk
  ·rw [Option.map_eq_some_iff] at hs
   obtain ⟨q,h1,h2⟩:=hs
   cases h2
   exact (minmax_ok (mx:=false) I ho h1).op I hdk
  ·rw [Option.map_eq_some_iff] at hs
   obtain ⟨q,h1,h2⟩:=hs
   cases h2
   exact (minmax_ok (mx:=true) I ho h1).op I hdk
  ·cases hs
 case h_22=>obtain ⟨h1,rfl⟩:=map_nil hs;exact (plainOp_ok I h1).op I hdk
end
end Go.Proofs.YtlelaenalbkbmaaDoorV