/- The value interpreter: more operations that change nothing. -/
import Derived.Test.YtlelaenalbkbmaaDoorHVi4
namespace Go.Proofs.YtlelaenalbkbmaaDoorV
open Go
set_option linter.unusedVariables false
set_option linter.unusedSimpArgs false
section
variable {P:Program} {w0:World} {fp:Nat→Prop} {S0:Base} {σ:St} {a:Act} {w:World} {β:Nat→Value} {S:Nat→Prop} {o:Oper}
theorem addOff_ok {x y:V} {n:Nat} {v:Value} (h:addOff x n=some y) (hr:Rep w β S x v):∃ b off,v=.pointer (some ⟨b,off,none⟩)∧Rep w β S y (.pointer (some ⟨b,off+n,none⟩))∧y.ids=x.ids:=by
 cases x<;>simp only [addOff] at h<;>try (cases h;done)
 case rpt cells off =>
  cases h
  cases hr with
  | d h=>cases h
  | rpt _ _ b o g hS h1 h2 h3=>exact ⟨b,o+off,rfl,by rw [Nat.add_assoc];exact .rpt cells (off+n) b o g hS h1 h2 h3,by simp [V.ids]⟩
 case ptr id off =>
  cases h
  cases hr with
  | d h=>cases h
  | ptr _ _ g hβ=>exact ⟨g,off,rfl,.ptr id (off+n) g hβ,by simp [V.ids]⟩
 case ept id m k j =>
  cases h
  cases hr with
  | d h=>cases h
  | ept _ _ _ _ g N C hβ=>exact ⟨g,k * m+j,rfl,by rw [Nat.add_assoc];exact .ept id m k (j+n) g N C hβ,by simp [V.ids]⟩
theorem fieldAddr_ok (I:Inv w0 fp S0 σ a w β S) {s:TypeId} {x:Operand} {f:Nat} {v:V} (ho:o.op=.fieldAddr s x f) (h:fieldAddrV P s (evalV σ x) f=some v):POk P σ a w β S o v:=by
 unfold fieldAddrV at h
 split at h<;>try (cases h;done)
 rename_i fields hu
 split at h<;>try (cases h;done)
 rename_i fd hf
 split at h<;>try (cases h;done)
 rename_i i hi
 split at h<;>try (cases h;done)
 rename_i hne
 obtain ⟨b,off,h1,h2,h3⟩:=addOff_ok h (evalV_rep I x)
 refine ⟨⟨_,?_,h2⟩,fun id hid=>evalV_closed I x id (h3▸hid)⟩
 simp [execOp,ho,Instr.fieldAt,run_underlying hu,hf,Instr.sureAddr,h1,fieldPlace,sizeOf,typeInfo,hi,hne,Addr.add_lit]
theorem own_row (I:Inv w0 fp S0 σ a w β S) {id:Nat} {own:Bool} {m:Nat} {e:TypeId} {rows:List (List V)} (h:getM σ.M id=some (.row own m e rows)) :
  (β id=.slice none 0 0∧rows=[])∨∃ g cap,β id=.slice (some ⟨g,0,none⟩) rows.length cap∧rows.length≤cap:=by
 obtain ⟨hm0,hw,xs,hown,hone,hc⟩:=I.objs id _ h
 rcases hown.2 with ⟨h1,h2⟩ | ⟨g,cap,cur,h1,_,_,h2,_⟩
 ·exact .inl ⟨h1,List.eq_nil_of_length_eq_zero h2⟩
 ·exact .inr ⟨g,cap,h1,h2⟩
theorem own_tab (I:Inv w0 fp S0 σ a w β S) {id m n:Nat} {e:TypeId} {cells:List V} (h:getM σ.M id=some (.tab m e n cells)) :
  (β id=.slice none 0 0∧n=0)∨∃ g cap,β id=.slice (some ⟨g,0,none⟩) n cap∧n≤cap:=by
 obtain ⟨hm0,hl,xs,hown,hone,hc⟩:=I.objs id _ h
 rcases hown.2 with ⟨h1,h2⟩ | ⟨g,cap,cur,h1,_,_,h2,_⟩
 ·exact .inl ⟨h1,h2⟩
 ·exact .inr ⟨g,cap,h1,h2⟩
theorem rep_own {id:Nat} {v:Value} (h:Rep w β S (.own id) v):v=β id:=by
 cases h with
 | d h=>cases h
 | own=>rfl
theorem indexAddr_ok (I:Inv w0 fp S0 σ a w β S) {t:TypeId} {x ix:Operand} {v:V} (ho:o.op=.indexAddr t x ix) (h:indexAddrV P σ t (evalV σ x) (evalV σ ix)=some v):POk P σ a w β S o v:=by
 unfold indexAddrV at h
 split at h<;>try (cases h;done)
 rename_i k i hix
 have ei:a.eval ix=.int k i:=rep_p (hix▸evalV_rep I ix)
 split at h<;>try (cases h;done)
 rename_i h0
 obtain ⟨n,rfl⟩:=Int.eq_ofNat_of_zero_le h0
 have hr:=evalV_rep I x
 have hcl:=evalV_closed I x
 split at h<;>try (cases h;done)
 ·rename_i e hu
  split at h<;>try (cases h;done)
  rename_i inf hinf
  have goal:∀ (b off len c:Nat) (y:V),a.eval x=.slice (some ⟨b,off,none⟩) len c→n<len→Rep w β S y (.pointer (some ⟨b,off+n * inf.size,none⟩))→(∀ id∈y.ids,(getM σ.M id).isSome=true)→POk P σ a w β S o y:=by
   intro b off len c y hx hlt hy hc
   refine ⟨⟨_,?_,hy⟩,hc⟩
   have hn:((n:Int)<(len:Int)):=by omega
   simp [execOp,ho,Instr.indexAt,ei,asIntOf,hx,run_underlying hu,sizeOf,typeInfo,hinf,Addr.add_lit,hn,hlt]
  split at h<;>try (cases h;done)
  ·rename_i m rows hx
   split at h<;>try (cases h;done)
   rename_i hm
   subst hm
   rw [Int.toNat_natCast] at h
   split at h<;>simp at h
   rename_i r hk
   subst h
   rw [hx] at hr
   have hlt:n<rows.length:=(List.getElem?_eq_some_iff.1 hk).1
   cases hr with
   | d hr =>
     generalize hv:a.eval x=xv at hr
     cases hr with
     | sl0=>simp at hlt
     | sl _ _ b off c g hS hc hw h1 h2 h3 =>
       refine goal b off rows.length c _ hv hlt ?_ (by simp [V.ids])
       exact .rpt r 0 b (off+n * inf.size) (g n) hS (fun j y hj=>h1 n r j y hk hj) (fun j y hj=>h2 n r j y hk hj) (fun j y hj=>h3 n r j y hk hj)
  ·rename_i id hx
   split at h<;>try (cases h;done)
   ·rename_i own m e' rows hM
    split at h<;>try (cases h;done)
    rename_i hc
    obtain ⟨rfl,hlt⟩:=hc
    simp at h
    subst h
    rw [hx] at hr
    have hv:=rep_own hr
    rcases own_row I hM with ⟨_,h2⟩ | ⟨g,cap,h1,h2⟩
    ·subst h2;simp at hlt;omega
    ·refine goal g 0 rows.length cap _ (hv.trans h1) (by omega) ?_ (by simp [V.ids,hM])
     simpa using Rep.ept (w:=w) (S:=S) id inf.size n 0 g rows.length cap h1
   ·rename_i m e' c cells hM
    split at h<;>try (cases h;done)
    rename_i hc
    obtain ⟨rfl,hlt⟩:=hc
    simp at h
    subst h
    rw [hx] at hr
    have hv:=rep_own hr
    rcases own_tab I hM with ⟨_,h2⟩ | ⟨g,cap,h1,h2⟩
    ·omega
    ·refine goal g 0 c cap _ (hv.trans h1) (by omega) ?_ (by simp [V.ids,hM])
     simpa using Rep.ept (w:=w) (S:=S) id inf.size n 0 g c cap h1
  ·rename_i id m off n' hx
   split at h<;>try (cases h;done)
   rename_i hc
   obtain ⟨rfl,hlt⟩:=hc
   simp at h
   subst h
   rw [hx] at hr hcl
   generalize hv:a.eval x=xv at hr
   cases hr with
   | d hr=>cases hr
   | cut _ _ _ _ g N C ad c hβ hc ha hr hn hK =>
     rw [ha (by omega)] at hv
     refine goal g (off * inf.size) n' c _ hv (by omega) ?_ (fun i hi=>hcl i (by simpa [V.ids] using hi))
     simpa [Nat.add_mul] using Rep.ept (w:=w) (S:=S) id inf.size (off+n) 0 g N C hβ
   | cut0=>simp at hlt;omega
  ·rename_i id m n' hx
   split at h<;>try (cases h;done)
   rename_i hc
   obtain ⟨rfl,hlt⟩:=hc
   simp at h
   subst h
   rw [hx] at hr hcl
   generalize hv:a.eval x=xv at hr
   cases hr with
   | d hr=>cases hr
   | bsl _ _ _ g hβ =>
     refine goal g 0 n' n' _ hv (by omega) ?_ (fun i hi=>hcl i (by simpa [V.ids] using hi))
     simpa using Rep.ptr (w:=w) (S:=S) id (n * inf.size) g hβ
 ·rename_i len e hu
  split at h<;>try (cases h;done)
  rename_i inf hinf
  split at h<;>try (cases h;done)
  rename_i hlt
  rw [Int.toNat_natCast] at h
  obtain ⟨b,off,h1,h2,h3⟩:=addOff_ok h hr
  refine ⟨⟨_,?_,h2⟩,fun id hid=>hcl id (h3▸hid)⟩
  have hlt':n<len:=by omega
  simp [execOp,ho,Instr.indexAt,ei,asIntOf,h1,run_underlying hu,sizeOf,typeInfo,hinf,Addr.add_lit,hlt,hlt',Instr.sureAddr]
theorem bound_ok (I:Inv w0 fp S0 σ a w β S) {x:Option Operand} {d n:Nat} (h:bound σ x d=some n):(x=none∧n=d)∨∃ y k,x=some y∧a.eval y=.int k (n:Int):=by
 unfold bound at h
 split at h
 ·simp at h;exact .inl ⟨rfl,h.symm⟩
 ·rename_i y
  split at h<;>try (cases h;done)
  rename_i k i hy
  split at h<;>simp at h
  rename_i h0
  subst h
  refine .inr ⟨y,k,rfl,?_⟩
  rw [Int.toNat_of_nonneg h0]
  exact rep_p (hy▸evalV_rep I y)
theorem sliceBounds_run (I:Inv w0 fp S0 σ a w β S) {lo hi mx:Option Operand} {len room cap l h q:Nat} (h1:bound σ lo 0=some l) (h2:bound σ hi len=some h) (h3:bound σ mx room=some q)
  (hle:l≤h∧h≤q∧q≤room) (hmx:mx.isSome→hi.isSome) (hc:room≤cap) :
  ∃ m,(Instr.sliceBounds true len cap (lo.map a.eval) (hi.map a.eval) (mx.map a.eval)).run P w=.ok (l,h,m) w∧h≤m∧m≤cap∧(mx=none→m=cap):=by
 obtain ⟨a1,a2,a3⟩:=hle
 have one:∀ (y:Operand) (k:IntKind) (n b:Nat) (code:BoundsCode),a.eval y=.int k (n:Int)→n≤b→(Instr.sliceBound (a.eval y) b code).run P w=.ok n w:=by
  intro y k n b code hy hn
  have:((n:Int)≤(b:Int)):=by omega
  simp [Instr.sliceBound,hy,asIntOf,this,hn]
 rcases bound_ok I h1 with ⟨rfl,rfl⟩ | ⟨y1,k1,rfl,e1⟩<;>rcases bound_ok I h2 with ⟨rfl,rfl⟩ | ⟨y2,k2,rfl,e2⟩<;>rcases bound_ok I h3 with ⟨rfl,rfl⟩ | ⟨y3,k3,rfl,e3⟩<;>simp at hmx
 ·exact ⟨cap,by simp [Instr.sliceBounds],by omega,by omega,fun _=>rfl⟩
 ·exact ⟨cap,by simp [Instr.sliceBounds,one y2 k2 h cap _ e2 (by omega)],by omega,by omega,fun _=>rfl⟩
 ·exact ⟨q,by simp [Instr.sliceBounds,one y3 k3 q cap _ e3 (by omega),one y2 k2 h q _ e2 (by omega)],by omega,by omega,fun h=>by cases h⟩
 ·exact ⟨cap,by simp [Instr.sliceBounds,one y1 k1 l _ _ e1 (by omega)],by omega,by omega,fun _=>rfl⟩
 ·exact ⟨cap,by simp [Instr.sliceBounds,one y2 k2 h cap _ e2 (by omega),one y1 k1 l h _ e1 (by omega)],by omega,by omega,fun _=>rfl⟩
 ·exact ⟨q,by simp [Instr.sliceBounds,one y3 k3 q cap _ e3 (by omega),one y2 k2 h q _ e2 (by omega),one y1 k1 l h _ e1 (by omega)],by omega,by omega,fun h=>by cases h⟩
theorem len_rep (I:Inv w0 fp S0 σ a w β S) {x:V} {n:Nat} {v:Value} (h:lenV σ x=some n) (hr:Rep w β S x v):∃ ad c,v=.slice ad n c∧n≤c:=by
 cases x<;>simp only [lenV] at h<;>try (cases h;done)
 case nil=>cases h;exact ⟨none,0,rep_nil hr,Nat.le_refl _⟩
 case sl m rows =>
  cases h
  cases hr with
  | d h =>
    cases h with
    | sl0 _ ad c=>exact ⟨ad,c,rfl,Nat.zero_le _⟩
    | sl _ _ b off c g hS hc=>exact ⟨_,c,rfl,hc⟩
 case own id =>
  split at h<;>try (cases h;done)
  ·rename_i own m e rows hM
   cases h
   have hv:=rep_own hr
   rcases own_row I hM with ⟨h1,rfl⟩ | ⟨g,cap,h1,h2⟩
   ·exact ⟨none,0,hv.trans h1,Nat.le_refl _⟩
   ·exact ⟨_,cap,hv.trans h1,h2⟩
  ·rename_i m e c cells hM
   cases h
   have hv:=rep_own hr
   rcases own_tab I hM with ⟨h1,h2⟩ | ⟨g,cap,h1,h2⟩
   ·subst h2;exact ⟨none,0,hv.trans h1,Nat.le_refl _⟩
   ·exact ⟨_,cap,hv.trans h1,h2⟩
 case cut id m off n' =>
  cases h
  cases hr with
  | d h=>cases h
  | cut _ _ _ _ g N C ad c hβ hc ha hr hn hK=>exact ⟨ad,c,rfl,hc⟩
  | cut0 _ _ _ _ _ ad c=>exact ⟨ad,c,rfl,Nat.zero_le _⟩
 case bsl id m n' =>
  cases h
  cases hr with
  | d h=>cases h
  | bsl _ _ _ g hβ=>exact ⟨_,_,rfl,Nat.le_refl _⟩
theorem slice_ok (I:Inv w0 fp S0 σ a w β S) {t:TypeId} {x:Operand} {lo hi mx:Option Operand} {v:V} (ho:o.op=.slice t x lo hi mx) (h:sliceV P σ t (evalV σ x) lo hi mx=some v):POk P σ a w β S o v:=by
 unfold sliceV at h
 split at h<;>try (cases h;done)
 rename_i e inf len he hlen
 unfold elemI at he
 split at he<;>simp at he
 rename_i e' hu
 obtain ⟨hinf,rfl⟩:=he
 split at h<;>try (cases h;done)
 rename_i l hh q hl hhi hq
 split at h<;>try (cases h;done)
 rename_i hcond
 obtain ⟨c1,c2,c3,c4⟩:=hcond
 have hr:=evalV_rep I x
 have hcl:=evalV_closed I x
 obtain ⟨ad,cap,hv,hcap⟩:=len_rep I hlen hr
 have hroom:roomV σ (evalV σ x) len≤cap:=by
  cases hx:evalV σ x<;>simp only [roomV]<;>try exact hcap
  rename_i id mm off n
  rw [hx] at hr hlen
  simp [lenV] at hlen
  subst hlen
  split
  ·rename_i own m2 e2 rows hM
   rw [hv] at hr
   cases hr with
   | d hr=>cases hr
   | cut _ _ _ _ g N C _ _ hβ hc ha hr hn hK =>
     rcases own_row I hM with ⟨h1,_⟩ | ⟨g',cap',h1,h2⟩
     ·rw [hβ] at h1;cases h1
     ·rw [hβ] at h1;cases h1
      omega
   | cut0 _ _ _ N C _ _ ad' hβ hN =>
     rcases own_row I hM with ⟨h1,h2⟩ | ⟨g',cap',h1,h2⟩
     ·subst h2;simp
     ·rw [hβ] at h1;cases h1
      omega
  ·exact hcap
 obtain ⟨m,hrun,hm1,hm2,hm3⟩:=sliceBounds_run (P:=P) I hl hhi hq ⟨c1,c2,c3⟩ c4 hroom
 have run:(execOp a.eval o).run P w=.ok (.value (.slice (if m=l then ad else ad.map (·.add (l * inf.size))) (hh - l) (m - l))) w:=by
  simp [execOp,ho,Instr.sliceAt,Instr.slice,run_underlying hu,hv,hrun,sizeOf,typeInfo,hinf]
 have goal:∀ y:V,Rep w β S y (.slice (if m=l then ad else ad.map (·.add (l * inf.size))) (hh - l) (m - l))→(∀ id∈y.ids,(getM σ.M id).isSome=true)→POk P σ a w β S o y:=fun y h1 h2=>⟨⟨_,run,h1⟩,h2⟩
 split at h<;>try (cases h;done)
 ·rename_i hx
  rw [hx] at hr hlen c3
  simp only [roomV] at c3
  cases h
  simp [lenV] at hlen
  have:=rep_nil hr
  rw [hv] at this
  cases this
  have e1:hh - l=0:=by omega
  have e2:m - l=0:=by omega
  refine goal _ ?_ (by simp [V.ids])
  rw [e1,e2]
  have:(if m=l then (none:Option Addr) else Option.map (fun (a:Addr)=>a.add (l * inf.size)) none)=none:=by split<;>rfl
  rw [this]
  exact .d .nil
 ·rename_i mm rows hx
  split at h<;>simp at h
  rename_i hmm
  subst hmm
  subst h
  rw [hx] at hr hlen c3
  simp only [roomV] at c3
  simp [lenV] at hlen
  refine goal _ ?_ (by simp [V.ids])
  rw [hv] at hr
  have hlen2:((rows.take hh).drop l).length=hh - l:=by simp;omega
  by_cases h0:hh - l=0
  ·have:(rows.take hh).drop l=[]:=List.eq_nil_of_length_eq_zero (by omega)
   rw [this,h0]
   exact .d (.sl0 _ _ _)
  ·have hml:m≠l:=by omega
   cases hr with
   | d hr =>
     cases hr with
     | sl0=>simp at hlen;omega
     | sl _ _ b off c g hS hc hw h1 h2 h3 =>
       rw [if_neg hml]
       simp only [Option.map_some,Addr.add_lit]
       rw [←hlen2]
       have key:∀ (k:Nat) r,((rows.take hh).drop l)[k]?=some r→rows[l+k]?=some r:=fun k r hk=>by
        rw [List.getElem?_drop,List.getElem?_take] at hk
        split at hk
        ·exact hk
        ·cases hk
       refine .d (.sl _ _ b (off+l * inf.size) _ (fun k j=>g (l+k) j) hS (by omega) (fun r hr=>hw r (List.mem_of_mem_take (List.mem_of_mem_drop hr))) ?_ ?_ ?_)
       ·intro k r j y hk hj
        have:=h1 (l+k) r j y (key k r hk) hj
        rw [Nat.add_mul] at this
        rw [←this]
        congr 2
        omega
       ·intro k r j y hk hj;exact h2 (l+k) r j y (key k r hk) hj
       ·intro k r j y hk hj;exact h3 (l+k) r j y (key k r hk) hj
 ·rename_i id hx
  split at h<;>try (cases h;done)
  ·rename_i own mm e2 rows hM
   split at h<;>try (cases h;done)
   rename_i hmm
   subst hmm
   rw [hx] at hr hlen c3
   simp only [roomV] at c3
   cases hmx:mx with
   | some y =>
     rw [hmx] at h
     cases h
     exact goal _ (.bad _) (by simp [V.ids])
   | none =>
   rw [hmx] at h
   cases h
   have hmc:=hm3 hmx
   simp [lenV,hM] at hlen
   refine goal _ ?_ (by simp [V.ids,hM])
   have hv2:=rep_own hr
   rw [hv] at hv2
   rcases own_row I hM with ⟨h1,h2⟩ | ⟨g,cap',h1,h2⟩
   ·subst h2
    simp at hlen
    have h0:hh - l=0:=by omega
    rw [h0]
    exact .cut0 id _ l 0 0 _ _ none h1 (by omega)
   ·rw [h1] at hv2;cases hv2
    by_cases hlN:l<rows.length
    ·rw [if_neg (show ¬m=l by omega)]
     exact .cut id _ l (hh - l) g rows.length _ _ _ h1 (by omega) (fun _=>by simp [Addr.add_lit]) (by omega) (by omega) (by omega)
    ·have h0:hh - l=0:=by omega
     rw [h0]
     exact .cut0 id _ l rows.length _ _ _ _ h1 (by omega)
  ·rename_i mm e2 cN cells hM
   split at h<;>try (cases h;done)
   rename_i hmm
   subst hmm
   rw [hx] at hr hlen c3
   simp only [roomV] at c3
   cases hmx:mx with
   | some y =>
     rw [hmx] at h
     cases h
     exact goal _ (.bad _) (by simp [V.ids])
   | none =>
   rw [hmx] at h
   cases h
   have hmc:=hm3 hmx
   simp [lenV,hM] at hlen
   refine goal _ ?_ (by simp [V.ids,hM])
   have hv2:=rep_own hr
   rw [hv] at hv2
   rcases own_tab I hM with ⟨h1,h2⟩ | ⟨g,cap',h1,h2⟩
   ·subst h2
    have h0:hh - l=0:=by omega
    rw [h0]
    exact .cut0 id _ l 0 0 _ _ none h1 (by omega)
   ·rw [h1] at hv2;cases hv2
    by_cases hlN:l<len
    ·rw [if_neg (show ¬m=l by omega)]
     exact .cut id _ l (hh - l) g len _ _ _ h1 (by omega) (fun _=>by simp [Addr.add_lit]) (by omega) (by omega) (by omega)
    ·have h0:hh - l=0:=by omega
     rw [h0]
     exact .cut0 id _ l len _ _ _ _ h1 (by omega)
 ·rename_i id mm off n hx
  split at h<;>try (cases h;done)
  rename_i hmm
  subst hmm
  rw [hx] at hr hlen hcl c3
  cases hmx:mx with
  | some y =>
    rw [hmx] at h
    cases h
    exact goal _ (.bad _) (by simp [V.ids])
  | none =>
  rw [hmx] at h
  cases h
  have hmc:=hm3 hmx
  simp [lenV] at hlen
  refine goal _ ?_ (fun i hi=>hcl i (by simpa [V.ids] using hi))
  rw [hv] at hr
  have hsz:∀ g N C,β id=.slice (some ⟨g,0,none⟩) N C→off+n≤N→off+hh≤N:=fun g N C hβ hn=>by
   simp only [roomV] at c3
   split at c3
   ·rename_i own m2 e2 rows hM
    rcases own_row I hM with ⟨h1,_⟩ | ⟨g',cap',h1,h2⟩
    ·rw [hβ] at h1;cases h1
    ·rw [hβ] at h1;cases h1
     omega
   ·omega
  have hs0:∀ ad' N C,β id=.slice ad' N C→N≤off→n=0→hh=0:=fun ad' N C hβ hN hn0=>by
   simp only [roomV] at c3
   split at c3
   ·rename_i own m2 e2 rows hM
    rcases own_row I hM with ⟨h1,h2⟩ | ⟨g',cap',h1,h2⟩
    ·subst h2;simp at c3;omega
    ·rw [hβ] at h1;cases h1
     omega
   ·omega
  cases hr with
  | d hr=>cases hr
  | cut _ _ _ _ g N C _ c hβ hc ha hr hn hK =>
    have hh2:=hsz g N C hβ hn
    by_cases hlN:off+l<N
    ·rw [if_neg (show ¬m=l by omega),ha (by omega)]
     exact .cut id _ (off+l) (hh - l) g N C _ _ hβ (by omega) (fun _=>by simp [Addr.add_lit,Nat.add_mul]) (by omega) (by omega) (by omega)
    ·have h0:hh - l=0:=by omega
     rw [h0]
     exact .cut0 id _ (off+l) N C _ _ _ hβ (by omega)
  | cut0 _ _ _ N C _ _ ad' hβ hN =>
    have hh2:=hs0 ad' N C hβ hN rfl
    have h0:hh - l=0:=by omega
    rw [h0]
    exact .cut0 id _ (off+l) N C _ _ ad' hβ (by omega)
end
end Go.Proofs.YtlelaenalbkbmaaDoorV