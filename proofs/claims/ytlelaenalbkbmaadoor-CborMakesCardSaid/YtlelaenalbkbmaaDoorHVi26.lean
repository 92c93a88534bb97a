/- The value interpreter: words of the plain functions printed out of it,and of their proofs. -/
import Derived.Test.YtlelaenalbkbmaaDoorHVi25
import Derived.Lib.BitFns
namespace Go.Proofs.YtlelaenalbkbmaaDoorV
open Go
set_option linter.unusedVariables false
set_option linter.unusedSimpArgs false
set_option linter.unnecessarySimpa false
def seqL:Code→Code | .seq a _=>a | c=>c
def seqR:Code→Code | .seq _ b=>b | c=>c
def condL:Code→Code | .cond _ a _=>a | c=>c
def condR:Code→Code | .cond _ _ b=>b | c=>c
def blockC:Code→Code | .block _ a=>a | c=>c
def loopC:Code→Code | .loop a=>a | c=>c
def scopeC:Code→Code | .scope a=>a | c=>c
theorem mk_get {α:Type} {l:List α} {i:Nat}:(Array.mk l)[i]?=l[i]?:=by simp
def rowsOf {α:Type} (enc:α→List V) (l:List α):List (List V):=l.map enc
theorem rowsOf_nil {α:Type} {enc:α→List V}:rowsOf enc []=[]:=rfl
theorem rowsOf_append {α:Type} {enc:α→List V} {l l':List α}:rowsOf enc l++rowsOf enc l'=rowsOf enc (l++l'):=List.map_append.symm
theorem rowsOf_take {α:Type} {enc:α→List V} {l:List α} {n:Nat}:List.take n (rowsOf enc l)=rowsOf enc (List.take n l):=List.map_take.symm
theorem rowsOf_drop {α:Type} {enc:α→List V} {l:List α} {n:Nat}:List.drop n (rowsOf enc l)=rowsOf enc (List.drop n l):=List.map_drop.symm
theorem rowsOf_length {α:Type} {enc:α→List V} {l:List α}:(rowsOf enc l).length=l.length:=List.length_map _
theorem rowsOf_get {α:Type} {enc:α→List V} {l:List α} {i:Nat}:(rowsOf enc l)[i]?=l[i]?.map enc:=List.getElem?_map
theorem rowsOf_set {α:Type} {enc:α→List V} {l:List α} {i:Nat} {x:α}:rowsOf enc (List.set l i x)=List.set (rowsOf enc l) i (enc x):=List.map_set
theorem rowsOf_replicate {α:Type} {enc:α→List V} {n:Nat} {x:α}:rowsOf enc (List.replicate n x)=List.replicate n (enc x):=List.map_replicate
def encI (k:IntKind) (n:Int):List V:=[V.p (Value.int k n)]
theorem encI_eq {k:IntKind} {n:Int}:encI k n=[V.p (Value.int k n)]:=rfl
def encB (b:Bool):List V:=[V.p (Value.bool b)]
theorem encB_eq {b:Bool}:encB b=[V.p (Value.bool b)]:=rfl
def encS (b:ByteArray):List V:=[V.p (Value.string b)]
theorem encS_eq {b:ByteArray}:encS b=[V.p (Value.string b)]:=rfl
def encL {α:Type} (m:Nat) (enc:α→List V) (l:List α):List V:=[V.sl m (rowsOf enc l)]
theorem encL_eq {α:Type} {m:Nat} {enc:α→List V} {l:List α}:encL m enc l=[V.sl m (rowsOf enc l)]:=rfl
def ifE {α:Type} (p:Prop) [Decidable p] (o:Option α):Option α:=if p then o else none
theorem ifE_some {α:Type} {p:Prop} [Decidable p] {o:Option α} {r:α}:ifE p o=some r↔p∧o=some r:=by
 unfold ifE
 split<;>simp_all
theorem cond_some {α:Type} {b:Bool} {x y:Option α} {r:α} (h:cond b x y=some r):(b=true∧x=some r)∨(b=false∧y=some r):=by
 cases b
 ·exact .inr ⟨rfl,h⟩
 ·exact .inl ⟨rfl,h⟩
def strOf (l:List Int):ByteArray:=⟨(l.map fun n=>UInt8.ofNat n.toNat).toArray⟩
theorem strOf_fold {l:List Int}:(⟨(l.map fun n=>UInt8.ofNat n.toNat).toArray⟩:ByteArray)=strOf l:=rfl
theorem strRows_map (l:List Int):strRows (rowsOf (encI .u8) l)=some (l.map fun n=>UInt8.ofNat n.toNat):=by
 induction l with
 | nil=>rfl
 | cons x l ih=>rw [show rowsOf (encI .u8) (x::l)=encI .u8 x::rowsOf (encI .u8) l from rfl];simp only [List.map_cons,strRows,ih];rfl
noncomputable section
variable {P:Program} {call call':CallF} {h:Hints} {fn fuel:Nat} {σ:St}
def Leq (c c':CallF):Prop:=∀ f a e r,c f a e=some r→c' f a e=some r
theorem callStep_mono (hc:Leq call call') {d:Nat} {f:FuncId} {args:List V} {r:V×List (Nat×O)} (hs:callStep call h σ d f args=some r):callStep call' h σ d f args=some r:=by
 unfold callStep at hs ⊢
 split at hs<;>try (cases hs;done)
 rename_i args1 fz e1
 split at hs<;>try (cases hs;done)
 rename_i ids e2
 split at hs<;>try (cases hs;done)
 rename_i objs e3
 split at hs<;>try (cases hs;done)
 rename_i e4
 rw [if_pos e4]
 split at hs<;>try (cases hs;done)
 rename_i q1 q2 q3 e5
 rw [hc _ _ _ _ e5]
 exact hs
theorem step_mono (hc:Leq call call') {o:Oper} {r:V×List (Nat×O)} (hs:step P call h σ o=some r):step P call' h σ o=some r:=by
 unfold step at hs ⊢
 split at hs
 all_goals first
  | exact hs
  | (rename_i c hop
     split at hs
     ·split at hs
      ·exact callStep_mono hc hs
      ·exact callStep_mono hc hs
      ·cases hs
     all_goals exact hs)
theorem execOps_mono (hc:Leq call call') {ops:Array Oper}:∀ (l:List Oper) (σ:St) (r:St×List (Option Eff)),execOps P call h ops l σ=some r→execOps P call' h ops l σ=some r
 | [],σ,r,hs=>hs
 | o::l,σ,r,hs=>by
   unfold execOps at hs ⊢
   split at hs<;>try (cases hs;done)
   rename_i v u e1
   have e1':stepG P call' h ops σ o=some (v,u):=by
    unfold stepG at e1 ⊢
    split at e1
    ·exact step_mono hc e1
    ·exact e1
    ·cases e1
   rw [e1']
   simp only at hs ⊢
   split at hs<;>try (cases hs;done)
   rename_i hd
   rw [if_pos hd]
   split at hs<;>try (cases hs;done)
   rename_i σ' es e2
   rw [execOps_mono hc l _ _ e2]
   exact hs
theorem iter_mono {f f':St→Option (Out×St)} (hf:∀ σ r,f σ=some r→f' σ=some r):∀ (n m:Nat),n≤m→∀ σ r,iter f n σ=some r→iter f' m σ=some r
 | 0,m,_,σ,r,hs=>by cases hs
 | n+1,m,hm,σ,r,hs=>by
   obtain ⟨m,rfl⟩:∃ k,m=k+1:=⟨m - 1,by omega⟩
   unfold iter at hs ⊢
   cases e:f σ with
   | none=>rw [e] at hs;cases hs
   | some q =>
     rw [e] at hs
     rw [hf _ _ e]
     obtain ⟨o,σ'⟩:=q
     cases o with
     | norm=>exact iter_mono hf n m (by omega) σ' r hs
     | exit i=>exact hs
     | goto i=>exact hs
     | ret=>exact hs
theorem jumps_mono {f f':Nat→St→Option (Out×St)} (hf:∀ l σ r,f l σ=some r→f' l σ=some r):∀ (n m:Nat),n≤m→∀ q r,jumps f n q=some r→∀ q',(∀ r,q=some r→q'=some r)→jumps f' m q'=some r:=by
 intro n
 induction n with
 | zero =>
   intro m hm q r hs q' hq
   cases q with
   | none=>simp [jumps] at hs
   | some x =>
     obtain ⟨o,σ⟩:=x
     rw [hq _ rfl]
     cases o with
     | goto l=>simp [jumps] at hs
     | norm=>cases m<;>(simp [jumps] at hs ⊢;exact hs)
     | exit i=>cases m<;>(simp [jumps] at hs ⊢;exact hs)
     | ret=>cases m<;>(simp [jumps] at hs ⊢;exact hs)
 | succ n ih =>
   intro m hm q r hs q' hq
   obtain ⟨m,rfl⟩:∃ k,m=k+1:=⟨m - 1,by omega⟩
   cases q with
   | none=>simp [jumps] at hs
   | some x =>
     obtain ⟨o,σ⟩:=x
     rw [hq _ rfl]
     cases o with
     | goto l =>
       simp only [jumps] at hs ⊢
       exact ih m (by omega) _ r hs _ fun r hr=>hf _ _ _ hr
     | norm=>(simp [jumps] at hs ⊢;exact hs)
     | exit i=>(simp [jumps] at hs ⊢;exact hs)
     | ret=>(simp [jumps] at hs ⊢;exact hs)
theorem rangeS_mono (hc:Leq call call') {g:Operand} {ps:List Nat} {a b:Code} {r:Out×St} (hs:rangeS call h fn σ g ps a b=some r):rangeS call' h fn σ g ps a b=some r:=by
 unfold rangeS at hs ⊢
 split at hs<;>try (cases hs;done)
 split at hs<;>try (cases hs;done)
 split at hs<;>try (cases hs;done)
 rename_i hcd
 rw [if_pos hcd]
 split at hs<;>try (cases hs;done)
 rename_i v u e
 rw [callStep_mono hc e]
 exact hs
theorem exec_mono (hc:Leq call call') {fuel':Nat} (hfu:fuel≤fuel'):∀ (c:Code) (l:Option Nat) (σ:St) (r:Out×St),exec P call h fn fuel l c σ=some r→exec P call' h fn fuel' l c σ=some r:=by
 intro c
 induction c with
 | skip=>intro l σ r hs;cases l<;>simpa [exec] using hs
 | region id ops draw =>
   intro l σ r hs
   cases l with
   | some l=>simp [exec] at hs
   | none =>
     unfold exec at hs ⊢
     cases e0:coinF P draw ops with
     | some q=>simp only [e0] at hs ⊢;exact hs
     | none =>
       simp only [e0] at hs ⊢
       split at hs<;>try (cases hs;done)
       rename_i σ' es e
       rw [execOps_mono hc _ _ _ e]
       exact hs
 | seq a b iha ihb =>
   intro l σ r hs
   cases l with
   | none =>
     rw [ev_seq] at hs ⊢
     cases e:exec P call h fn fuel none a σ with
     | none=>rw [e] at hs;cases hs
     | some q =>
       rw [e] at hs
       rw [iha _ _ _ e]
       obtain ⟨o,σ'⟩:=q
       cases o with
       | norm=>exact ihb _ _ _ hs
       | exit i=>exact hs
       | goto i=>exact hs
       | ret=>exact hs
   | some l =>
     unfold exec at hs ⊢
     split at hs
     ·rename_i hl
      rw [if_pos hl]
      split at hs
      ·rename_i σ' e
       rw [iha _ _ _ e]
       exact ihb _ _ _ hs
      ·rename_i hne
       rw [iha _ _ _ hs]
       obtain ⟨o,σ'⟩:=r
       cases o with
       | norm=>exact absurd hs (hne σ')
       | exit i=>rfl
       | goto i=>rfl
       | ret=>rfl
     ·rename_i hl
      rw [if_neg hl]
      exact ihb _ _ _ hs
 | cond c a b iha ihb =>
   intro l σ r hs
   cases l with
   | some l=>simp [exec] at hs
   | none =>
     rw [ev_cond] at hs ⊢
     unfold condK at hs ⊢
     split at hs
     ·exact iha _ _ _ hs
     ·exact ihb _ _ _ hs
     ·rename_i e
      obtain ⟨o,τ⟩:=r
      obtain ⟨σ1,σ2,h1,h2,k1,k2⟩:=joinR_ok hs
      rw [h1,h2] at hs
      rw [iha _ _ _ h1,ihb _ _ _ h2]
      exact hs
     ·cases hs
 | block id a iha =>
   intro l σ r hs
   cases l with
   | some l=>simp [exec] at hs
   | none =>
     rw [ev_block] at hs ⊢
     cases e:exec P call h fn fuel none a σ with
     | none=>rw [e] at hs;cases hs
     | some q=>rw [e] at hs;rw [iha _ _ _ e];exact hs
 | loop a iha =>
   intro l σ r hs
   cases l with
   | some l=>simp [exec] at hs
   | none =>
     unfold exec at hs ⊢
     refine iter_mono (fun σ r hr => ?_) _ _ hfu _ _ hs
     split at hr<;>try (cases hr;done)
     exact iha _ _ _ hr
 | rangeFunc g ps a b _ _ =>
   intro l σ r hs
   cases l with
   | some l=>simp [exec] at hs
   | none=>simp only [exec] at hs ⊢;exact rangeS_mono hc hs
 | exit id=>intro l σ r hs;cases l<;>simpa [exec] using hs
 | goto id=>intro l σ r hs;cases l<;>simpa [exec] using hs
 | label id=>intro l σ r hs;cases l<;>simpa [exec] using hs
 | ret=>intro l σ r hs;cases l<;>simpa [exec] using hs
 | scope a iha =>
   intro l σ r hs
   cases l with
   | some l=>simp [exec] at hs
   | none =>
     unfold exec at hs ⊢
     exact jumps_mono (fun l σ r hr=>iha _ _ _ hr) _ _ hfu _ _ hs _ fun r hr=>iha _ _ _ hr
 | _=>intro l σ r hs;cases l<;>simp [exec] at hs
theorem roundS_mono (hc:Leq call call') {j j':Nat} (hj:j≤j') {args:List V} {exts:List O} {r:V×List O×List O} (hs:roundS P call h j args exts=some r):roundS P call' h j' args exts=some r:=by
 unfold roundS at hs ⊢
 split at hs<;>try (cases hs;done)
 split at hs<;>try (cases hs;done)
 split at hs<;>try (cases hs;done)
 rename_i hcd
 rw [if_pos hcd]
 split at hs<;>try (cases hs;done)
 rename_i σ1 e1
 rw [exec_mono hc hj _ _ _ _ e1]
 simp only
 split at hs<;>try (cases hs;done)
 split at hs<;>try (cases hs;done)
 rename_i out σ2 e2
 rw [exec_mono hc hj _ _ _ _ e2]
 exact hs
theorem callV_mono {ctx:FuncId→Option (List V→List O→Option (V×List O×List O))}:∀ (j:Nat),Leq (callV P ctx h j) (callV P ctx h (j+1))
 | 0=>fun f a e r hs=>by cases hs
 | j+1=>fun f a e r hs=>by
   unfold callV at hs ⊢
   split at hs
   ·rename_i hy
    rw [if_pos hy]
    exact roundS_mono (callV_mono (ctx:=ctx) j) (Nat.le_succ j) hs
   rename_i hy
   rw [if_neg hy]
   split at hs
   ·exact hs
   ·split at hs<;>try (cases hs;done)
    rename_i fn hfn
    split at hs<;>try (cases hs;done)
    rename_i c hb
    split at hs<;>try (cases hs;done)
    rename_i hn
    try rw [if_neg hn]
    have M:=fun r=>exec_mono (P:=P) (h:=h) (fn:=f) (callV_mono (ctx:=ctx) j) (Nat.le_succ j) c none { n:=fn.ntmps,F:=params 0 a,M:=idxs ExtB e } r
    split at hs<;>try (cases hs;done)
    ·rename_i σ e;rw [M _ e];exact hs
    ·rename_i σ e;rw [M _ e];exact hs
theorem range1:List.range 1=[0]:=rfl
theorem range2:List.range 2=[0,1]:=rfl
theorem range3:List.range 3=[0,1,2]:=rfl
theorem range4:List.range 4=[0,1,2,3]:=rfl
theorem range5:List.range 5=[0,1,2,3,4]:=rfl
theorem range6:List.range 6=[0,1,2,3,4,5]:=rfl
theorem range7:List.range 7=[0,1,2,3,4,5,6]:=rfl
theorem range8:List.range 8=[0,1,2,3,4,5,6,7]:=rfl
theorem range9:List.range 9=[0,1,2,3,4,5,6,7,8]:=rfl
theorem range10:List.range 10=[0,1,2,3,4,5,6,7,8,9]:=rfl
theorem range11:List.range 11=[0,1,2,3,4,5,6,7,8,9,10]:=rfl
theorem range12:List.range 12=[0,1,2,3,4,5,6,7,8,9,10,11]:=rfl
theorem range13:List.range 13=[0,1,2,3,4,5,6,7,8,9,10,11,12]:=rfl
theorem range14:List.range 14=[0,1,2,3,4,5,6,7,8,9,10,11,12,13]:=rfl
theorem range15:List.range 15=[0,1,2,3,4,5,6,7,8,9,10,11,12,13,14]:=rfl
theorem range16:List.range 16=[0,1,2,3,4,5,6,7,8,9,10,11,12,13,14,15]:=rfl
theorem range17:List.range 17=[0,1,2,3,4,5,6,7,8,9,10,11,12,13,14,15,16]:=rfl
theorem range18:List.range 18=[0,1,2,3,4,5,6,7,8,9,10,11,12,13,14,15,16,17]:=rfl
theorem range19:List.range 19=[0,1,2,3,4,5,6,7,8,9,10,11,12,13,14,15,16,17,18]:=rfl
theorem range20:List.range 20=[0,1,2,3,4,5,6,7,8,9,10,11,12,13,14,15,16,17,18,19]:=rfl
theorem range21:List.range 21=[0,1,2,3,4,5,6,7,8,9,10,11,12,13,14,15,16,17,18,19,20]:=rfl
theorem range22:List.range 22=[0,1,2,3,4,5,6,7,8,9,10,11,12,13,14,15,16,17,18,19,20,21]:=rfl
theorem range23:List.range 23=[0,1,2,3,4,5,6,7,8,9,10,11,12,13,14,15,16,17,18,19,20,21,22]:=rfl
theorem range24:List.range 24=[0,1,2,3,4,5,6,7,8,9,10,11,12,13,14,15,16,17,18,19,20,21,22,23]:=rfl
theorem range25:List.range 25=[0,1,2,3,4,5,6,7,8,9,10,11,12,13,14,15,16,17,18,19,20,21,22,23,24]:=rfl
theorem range26:List.range 26=[0,1,2,3,4,5,6,7,8,9,10,11,12,13,14,15,16,17,18,19,20,21,22,23,24,25]:=rfl
theorem range27:List.range 27=[0,1,2,3,4,5,6,7,8,9,10,11,12,13,14,15,16,17,18,19,20,21,22,23,24,25,26]:=rfl
theorem range28:List.range 28=[0,1,2,3,4,5,6,7,8,9,10,11,12,13,14,15,16,17,18,19,20,21,22,23,24,25,26,27]:=rfl
theorem range29:List.range 29=[0,1,2,3,4,5,6,7,8,9,10,11,12,13,14,15,16,17,18,19,20,21,22,23,24,25,26,27,28]:=rfl
theorem range30:List.range 30=[0,1,2,3,4,5,6,7,8,9,10,11,12,13,14,15,16,17,18,19,20,21,22,23,24,25,26,27,28,29]:=rfl
theorem range31:List.range 31=[0,1,2,3,4,5,6,7,8,9,10,11,12,13,14,15,16,17,18,19,20,21,22,23,24,25,26,27,28,29,30]:=rfl
theorem range32:List.range 32=[0,1,2,3,4,5,6,7,8,9,10,11,12,13,14,15,16,17,18,19,20,21,22,23,24,25,26,27,28,29,30,31]:=rfl
theorem range33:List.range 33=[0,1,2,3,4,5,6,7,8,9,10,11,12,13,14,15,16,17,18,19,20,21,22,23,24,25,26,27,28,29,30,31,32]:=rfl
theorem range34:List.range 34=[0,1,2,3,4,5,6,7,8,9,10,11,12,13,14,15,16,17,18,19,20,21,22,23,24,25,26,27,28,29,30,31,32,33]:=rfl
theorem range35:List.range 35=[0,1,2,3,4,5,6,7,8,9,10,11,12,13,14,15,16,17,18,19,20,21,22,23,24,25,26,27,28,29,30,31,32,33,34]:=rfl
theorem range36:List.range 36=[0,1,2,3,4,5,6,7,8,9,10,11,12,13,14,15,16,17,18,19,20,21,22,23,24,25,26,27,28,29,30,31,32,33,34,35]:=rfl
theorem range37:List.range 37=[0,1,2,3,4,5,6,7,8,9,10,11,12,13,14,15,16,17,18,19,20,21,22,23,24,25,26,27,28,29,30,31,32,33,34,35,36]:=rfl
theorem range38:List.range 38=[0,1,2,3,4,5,6,7,8,9,10,11,12,13,14,15,16,17,18,19,20,21,22,23,24,25,26,27,28,29,30,31,32,33,34,35,36,37]:=rfl
theorem range39:List.range 39=[0,1,2,3,4,5,6,7,8,9,10,11,12,13,14,15,16,17,18,19,20,21,22,23,24,25,26,27,28,29,30,31,32,33,34,35,36,37,38]:=rfl
theorem range40:List.range 40=[0,1,2,3,4,5,6,7,8,9,10,11,12,13,14,15,16,17,18,19,20,21,22,23,24,25,26,27,28,29,30,31,32,33,34,35,36,37,38,39]:=rfl
theorem ev_ctx {ctx:FuncId→Option (List V→List O→Option (V×List O×List O))} {k:Nat} {f:FuncId} {g:List V→List O→Option (V×List O×List O)} {args:List V} {exts:List O} (hx:ctx f=some g) (hy:(f != 999999999)=true):callV P ctx h (k+1) f args exts=g args exts:=by
 simp only [callV]
 rw [if_neg (show ¬f=YB from by simpa [YB,KR] using hy),hx]
def child:Code→Nat→Code
 | .seq a _,1=>a
 | .seq _ b,2=>b
 | .cond _ a _,2=>a
 | .cond _ _ b,3=>b
 | .block _ a,2=>a
 | .loop a,1=>a
 | .scope a,1=>a
 | .rangeFunc _ _ a _,3=>a
 | .rangeFunc _ _ _ b,4=>b
 | c,_=>c
def nav (c:Code):List Nat→Code
 | []=>c
 | i::p=>child (nav c p) i
inductive Knd where
 | sq
 | cd (t:Nat)
 | bk (i:Nat)
 | lp
 | ex (i:Nat)
 | gt (i:Nat)
 | rt
 | sk
 | lb (i:Nat)
 | sc
 | rf (g:Operand) (ps:List Nat) (r:Nat)
 | ct
 | cf
 | re
def kindOf:Code→Knd
 | .seq _ _=>.sq
 | .cond (.tmp t) _ _=>.cd t
 | .cond (.const (.bool true)) _ _=>.ct
 | .cond (.const (.bool false)) _ _=>.cf
 | .block i _=>.bk i
 | .loop _=>.lp
 | .exit i=>.ex i
 | .goto i=>.gt i
 | .ret=>.rt
 | .skip=>.sk
 | .label i=>.lb i
 | .scope _=>.sc
 | .rangeFunc g ps _ b=>.rf g ps.toList (firstReg b)
 | _=>.re
def xr (P:Program) (call:CallF) (h:Hints) (fn fuel:Nat) (c:Code) (p:List Nat) (σ:St):Knd→Option (Out×St)
 | .sq=>seqK P call h fn fuel (nav c (2::p)) (exec P call h fn fuel none (nav c (1::p)) σ)
 | .cd t=>condK P call h fn fuel (nav c (2::p)) (nav c (3::p)) σ (getF σ.F t)
 | .ct=>exec P call h fn fuel none (nav c (2::p)) σ
 | .cf=>exec P call h fn fuel none (nav c (3::p)) σ
 | .bk i=>blockK i (exec P call h fn fuel none (nav c (2::p)) σ)
 | .lp=>loopK P call h fn fuel (nav c (1::p)) fuel σ
 | .ex i=>some (.exit i,σ)
 | .gt i=>some (.goto i,σ)
 | .rt=>some (.ret,σ)
 | .sk=>some (.norm,σ)
 | .lb _=>some (.norm,σ)
 | .rf g ps r=>rangeA call h fn σ r ps (nav c (3::p)) (nav c (4::p)) (calleeOf σ g)
 | _=>exec P call h fn fuel none (nav c p) σ
theorem xk (c:Code) (p:List Nat) (kd:Knd) (hk:kindOf (nav c p)=kd):exec P call h fn fuel none (nav c p) σ=xr P call h fn fuel c p σ kd:=by
 cases hc:nav c p with
 | seq a b=>rw [hc] at hk;subst hk;simp only [kindOf,xr,nav,child,hc,ev_seq]
 | cond x a b =>
   rw [hc] at hk;subst hk
   cases x with
   | const v =>
     cases v with
     | bool b=>cases b<;>simp only [kindOf,xr,nav,child,hc,ev_cond,evalV,ofVal,ofVal1,ofCell,condK]
     | _=>simp only [kindOf,xr,hc]
   | _=>simp only [kindOf,xr,nav,child,hc,ev_cond,evalV_tmp]
 | block i a=>rw [hc] at hk;subst hk;simp only [kindOf,xr,nav,child,hc,ev_block]
 | loop a=>rw [hc] at hk;subst hk;simp only [kindOf,xr,nav,child,hc,ev_loop]
 | exit i=>rw [hc] at hk;subst hk;simp only [kindOf,xr,ev_exit]
 | goto i=>rw [hc] at hk;subst hk;simp only [kindOf,xr,ev_goto]
 | label i=>rw [hc] at hk;subst hk;simp only [kindOf,xr,ev_label]
 | ret=>rw [hc] at hk;subst hk;simp only [kindOf,xr,ev_ret]
 | skip=>rw [hc] at hk;subst hk;simp only [kindOf,xr,ev_skip]
 | rangeFunc g ps a b=>rw [hc] at hk;subst hk;simp only [kindOf,xr,nav,child,hc,ev_range]
 | _=>rw [hc] at hk;subst hk;simp only [kindOf,xr,hc]
theorem xr_sq {c:Code} {p:List Nat}:xr P call h fn fuel c p σ .sq=seqK P call h fn fuel (nav c (2::p)) (exec P call h fn fuel none (nav c (1::p)) σ):=rfl
theorem xr_cd {c:Code} {p:List Nat} {t:Nat}:xr P call h fn fuel c p σ (.cd t)=condK P call h fn fuel (nav c (2::p)) (nav c (3::p)) σ (getF σ.F t):=rfl
theorem xr_ct {c:Code} {p:List Nat}:xr P call h fn fuel c p σ .ct=exec P call h fn fuel none (nav c (2::p)) σ:=rfl
theorem xr_cf {c:Code} {p:List Nat}:xr P call h fn fuel c p σ .cf=exec P call h fn fuel none (nav c (3::p)) σ:=rfl
theorem xr_bk {c:Code} {p:List Nat} {i:Nat}:xr P call h fn fuel c p σ (.bk i)=blockK i (exec P call h fn fuel none (nav c (2::p)) σ):=rfl
theorem xr_lp {c:Code} {p:List Nat}:xr P call h fn fuel c p σ .lp=loopK P call h fn fuel (nav c (1::p)) fuel σ:=rfl
theorem xr_ex {c:Code} {p:List Nat} {i:Nat}:xr P call h fn fuel c p σ (.ex i)=some (.exit i,σ):=rfl
theorem xr_gt {c:Code} {p:List Nat} {i:Nat}:xr P call h fn fuel c p σ (.gt i)=some (.goto i,σ):=rfl
theorem xr_rt {c:Code} {p:List Nat}:xr P call h fn fuel c p σ .rt=some (.ret,σ):=rfl
theorem xr_sk {c:Code} {p:List Nat}:xr P call h fn fuel c p σ .sk=some (.norm,σ):=rfl
theorem xr_lb {c:Code} {p:List Nat} {i:Nat}:xr P call h fn fuel c p σ (.lb i)=some (.norm,σ):=rfl
theorem xr_rf {c:Code} {p ps:List Nat} {g:Operand} {r:Nat}:xr P call h fn fuel c p σ (.rf g ps r)=rangeA call h fn σ r ps (nav c (3::p)) (nav c (4::p)) (calleeOf σ g):=rfl
theorem D {k t:Nat} (h:k≠t):ND k t:=h
theorem K {b:Bool} (h:b=true):KR b:=h
theorem tell_cons {m:Nat} {ms:List Nat} {v:V} {r:List V}:tell (m::ms) (v::r)=tell1 m v::tell ms r:=rfl
theorem tell_nil {r:List V}:tell [] r=r:=by simp only [tell]
theorem tell_nil2 {ms:List Nat}:tell ms []=[]:=by cases ms<;>simp only [tell]
theorem tell1_p {m:Nat} {v:Value}:tell1 m (.p v)=.p v:=rfl
theorem tell1_sl {m n:Nat} {rows:List (List V)}:tell1 m (.sl n rows)=.sl n rows:=rfl
theorem tell1_nil {m:Nat}:tell1 m .nil=if m=0 then .nil else .sl m []:=rfl
def cI (k:IntKind) (n:Int):V:=V.p (Value.int k n)
def cB (b:Bool):V:=V.p (Value.bool b)
def arrC {α:Type} (c:α→V) (l:List α):List V:=l.map c
theorem arr_len {α:Type} {c:α→V} {l:List α}:(arrC c l).length=l.length:=List.length_map _
theorem arr_take {α:Type} {c:α→V} {l:List α} {n:Nat}:List.take n (arrC c l)=arrC c (List.take n l):=List.map_take.symm
theorem arr_drop {α:Type} {c:α→V} {l:List α} {n:Nat}:List.drop n (arrC c l)=arrC c (List.drop n l):=List.map_drop.symm
theorem arr_head {α:Type} {c:α→V} {l:List α}:(arrC c l).head?=l.head?.map c:=List.head?_map
theorem arr_get {α:Type} {c:α→V} {l:List α} {i:Nat}:(arrC c l)[i]?=l[i]?.map c:=List.getElem?_map
theorem arr_append {α:Type} {c:α→V} {l l':List α}:arrC c l++arrC c l'=arrC c (l++l'):=List.map_append.symm
theorem arrI_cons {k:IntKind} {n:Int} {l:List Int}:V.p (Value.int k n)::arrC (cI k) l=arrC (cI k) (n::l):=rfl
theorem arrB_cons {b:Bool} {l:List Bool}:V.p (Value.bool b)::arrC cB l=arrC cB (b::l):=rfl
theorem arr_ids {c:Int→V} {k:IntKind} {l:List Int}:V.idsL (arrC (cI k) l)=[]:=by
 induction l with
 | nil=>rfl
 | cons x l ih=>rw [←arrI_cons,V.idsL,ih];rfl
theorem arrI_ids {k:IntKind} {l:List Int}:V.idsL (arrC (cI k) l)=[]:=arr_ids (c:=cI k)
theorem arrB_ids {l:List Bool}:V.idsL (arrC cB l)=[]:=by
 induction l with
 | nil=>rfl
 | cons x l ih=>rw [←arrB_cons,V.idsL,ih];rfl
theorem arrI_ren {f:Nat→Nat} {k:IntKind} {l:List Int}:V.renL f (arrC (cI k) l)=arrC (cI k) l:=by
 induction l with
 | nil=>rfl
 | cons x l ih=>rw [←arrI_cons,V.renL,ih];rfl
theorem arrB_ren {f:Nat→Nat} {l:List Bool}:V.renL f (arrC cB l)=arrC cB l:=by
 induction l with
 | nil=>rfl
 | cons x l ih=>rw [←arrB_cons,V.renL,ih];rfl
theorem cI_eq {k:IntKind} {n:Int}:cI k n=V.p (Value.int k n):=rfl
theorem cB_eq {b:Bool}:cB b=V.p (Value.bool b):=rfl
theorem build_evalA {t e:TypeId} {i ie:TypeInfo} {z:List V} {n:Nat} {ps:List (Nat×Operand)} (h1:P.info? t=some i) (h2:zeroRow i=some z) (h3:P.underlying t=some (.array n e)) (h4:P.info? e=some ie):buildV P σ t ps=(fillV (fun k=>some (k * ie.size,ie.size)) z (evL σ ps)).map .agg:=by
 simp only [buildV,h1,h2,h3,h4,evL_eq]
def fillA (cells:List V) (rest:List (Nat×V)):Option (List V):=fillV (fun k=>some (k,1)) cells rest
def fillB (cells:List V) (i:Nat) (rest:List (Nat×V)):Option (List V)→Option (List V)
 | some cs=>if cs.length=1∧i+cs.length≤cells.length then fillA (overlay cells i cs) rest else none
 | none=>none
def fillP (m:Nat) (cells:List V) (rest:List (Nat×V)):Option (List V):=fillV (fun k=>some (k * m,m)) cells rest
def fillPK (m:Nat) (cells:List V) (i:Nat) (rest:List (Nat×V)):Option (List V)→Option (List V)
 | some cs=>if cs.length=m∧i * m+cs.length≤cells.length then fillP m (overlay cells (i * m) cs) rest else none
 | none=>none
theorem fillP_fold {m:Nat} {cells:List V} {rest:List (Nat×V)}:fillV (fun k=>some (k * m,m)) cells rest=fillP m cells rest:=rfl
theorem fillP_nil {m:Nat} {cells:List V}:fillP m cells []=some cells:=rfl
theorem fillP_cons {m:Nat} {cells:List V} {i:Nat} {v:V} {rest:List (Nat×V)}:fillP m cells ((i,v)::rest)=fillPK m cells i rest (cellsOf v):=by
 rw [fillP,fillV]
 cases cellsOf v<;>rfl
theorem fillPK_some {m:Nat} {cells cs:List V} {i:Nat} {rest:List (Nat×V)}:fillPK m cells i rest (some cs)=if cs.length=m∧i * m+cs.length≤cells.length then fillP m (overlay cells (i * m) cs) rest else none:=rfl
theorem fillA_nil {cells:List V}:fillA cells []=some cells:=rfl
theorem fillA_cons {cells:List V} {i:Nat} {v:V} {rest:List (Nat×V)}:fillA cells ((i,v)::rest)=fillB cells i rest (cellsOf v):=by
 rw [fillA,fillV]
 cases cellsOf v<;>rfl
theorem fillB_some {cells cs:List V} {i:Nat} {rest:List (Nat×V)}:fillB cells i rest (some cs)=if cs.length=1∧i+cs.length≤cells.length then fillA (overlay cells i cs) rest else none:=rfl
def jumpsK (P:Program) (call:CallF) (h:Hints) (fn fuel:Nat) (a:Code) (n:Nat) (r:Option (Out×St)):Option (Out×St):=jumps (fun l σ=>exec P call h fn fuel (some l) a σ) n r
theorem ev_scope {a:Code}:exec P call h fn fuel none (.scope a) σ=jumpsK P call h fn fuel a fuel (exec P call h fn fuel none a σ):=by simp only [exec];rfl
theorem jumpsK_norm {a:Code} {n:Nat}:jumpsK P call h fn fuel a n (some (.norm,σ))=some (.norm,σ):=by cases n<;>rfl
theorem jumpsK_ret {a:Code} {n:Nat}:jumpsK P call h fn fuel a n (some (.ret,σ))=some (.ret,σ):=by cases n<;>rfl
theorem jumpsK_exit {a:Code} {n i:Nat}:jumpsK P call h fn fuel a n (some (.exit i,σ))=some (.exit i,σ):=by cases n<;>rfl
theorem jumpsK_goto {a:Code} {n l:Nat}:jumpsK P call h fn fuel a (n+1) (some (.goto l,σ))=jumpsK P call h fn fuel a n (exec P call h fn fuel (some l) a σ):=rfl
theorem ev_lab {l:Nat}:exec P call h fn fuel (some l) (.label l) σ=some (.norm,σ):=by simp [exec]
theorem ev_lab_left {l:Nat} {a b:Code} (hl:(findLabel a l).isSome=true):exec P call h fn fuel (some l) (.seq a b) σ=seqK P call h fn fuel b (exec P call h fn fuel (some l) a σ):=by
 rw [exec,if_pos hl]
 rfl
theorem ev_lab_right {l:Nat} {a b:Code} (hl:(findLabel a l).isSome=false):exec P call h fn fuel (some l) (.seq a b) σ=exec P call h fn fuel (some l) b σ:=by
 rw [exec,if_neg (by rw [hl];decide)]
def idxK (P:Program) (t:TypeId) (s:ByteArray) (v:V):Option V :=
 match toVal v with
 | some w=>match pureRun P (Instr.index t (.string s) w) with
   | some r=>some (ofVal r)
   | none=>none
 | none=>none
theorem pureRun_bind {α β:Type} {x:Sem α} {f:α→Sem β}:pureRun P (x >>= f)=(pureRun P x).bind fun a=>pureRun P (f a):=by
 show pureRun P (Sem.bind x f)=_
 induction x with
 | pure a=>rfl
 | program k ih=>simp only [Sem.bind,pureRun];exact ih P
 | _=>rfl
theorem pureRun_map {α β:Type} {x:Sem α} {f:α→β}:pureRun P (f <$> x)=(pureRun P x).map f:=by
 show pureRun P (Sem.bind x fun a=>.pure (f a))=_
 have:=pureRun_bind (P:=P) (x:=x) (f:=fun a=>Sem.pure (f a))
 refine Eq.trans this ?_
 cases pureRun P x<;>rfl
theorem arrIdx_const {d:Option Nat} {t rt:TypeId} {s:ByteArray} {j:Nat} {pos:String} {af:Array Edge} {g:Option (Nat×Bool)}:arrIdxV P σ ⟨d,.index t (.const (.string s)) (.tmp j),rt,pos,af,g⟩ t (.const (.string s)) (.tmp j)=idxK P t s (getF σ.F j):=by
 have e:arrIdxV P σ ⟨d,.index t (.const (.string s)) (.tmp j),rt,pos,af,g⟩ t (.const (.string s)) (.tmp j)=plainOp P σ ⟨d,.index t (.const (.string s)) (.tmp j),rt,pos,af,g⟩:=by
  unfold arrIdxV
  split<;>simp_all [evalV,ofVal,ofVal1,ofCell]
 rw [e]
 have e1:toVal (evalV σ (.const (.string s)))=some (.string s):=rfl
 have e2:evalV σ (.tmp j)=getF σ.F j:=rfl
 have e3:∀ ρ,execOp ρ ⟨d,.index t (.const (.string s)) (.tmp j),rt,pos,af,g⟩=Next.value <$> Instr.index t (ρ (.const (.string s))) (ρ (.tmp j)):=fun ρ=>rfl
 unfold plainOp idxK
 rw [e3]
 simp only [isSelect,Op.operands,e1,e2]
 cases hx:toVal (getF σ.F j) with
 | none=>simp [e1,e2,hx]
 | some w =>
   simp only [Option.getD_some,pureRun_map]
   rw [if_pos (by simp [e1,e2,hx])]
   cases pureRun P (Instr.index t (.string s) w)<;>rfl
theorem idx_len8 {t:TypeId} {k:IntKind} {i:Int} (ht:P.underlying t=some .string) (h0:0≤i) (h1:i≤255):idxK P t Lib.len8tab (.p (.int k i))=some (.p (.int .u8 (Lib.len8 i))):=by
 have h2:i.toNat<Lib.len8tab.size:=by rw [Lib.len8tab_size];omega
 have h3:Lib.len8tab[i.toNat]?=some Lib.len8tab[i.toNat]:=ByteArray.getElem?_lt' _ _ h2
 have e:pureRun P (Instr.index t (.string Lib.len8tab) (.int k i))=some (.int .u8 (Lib.len8 i)):=by
  unfold Instr.index
  simp only [asIntOf]
  rw [pureRun_bind]
  simp only [pureRun,Pure.pure,Option.bind_some]
  rw [pureRun_bind]
  have:pureRun P (underlying t)=some .string:=by
   show pureRun P (Sem.program _)=_
   simp only [pureRun,Sem.bind,ht]
   rfl
  rw [this]
  simp only [Option.bind_some,if_pos h0,h3]
  simp [pureRun,Lib.len8,h3]
 unfold idxK
 simp only [toVal,toCell,e]
 rfl
theorem callV_le {ctx:FuncId→Option (List V→List O→Option (V×List O×List O))} {f:FuncId} {args:List V} {exts:List O} {r:V×List O×List O} {j k:Nat} (hk:j≤k) (hc:callV P ctx h j f args exts=some r):callV P ctx h k f args exts=some r:=by
 induction hk with
 | refl=>exact hc
 | step _ ih=>exact callV_mono _ _ _ _ _ ih
theorem flatEq_nil {xs ys:List V}:flatEq P xs ys []=some true:=rfl
def flatN:Option Bool→Option Bool→Option Bool
 | some b,some c=>some (b&&c)
 | _,_=>none
def flatM (d:Option TypeDesc) (r:Option Bool):Option V→Option V→Option Bool
 | some x,some y=>flatN (cellEq d x y) r
 | _,_=>none
theorem flatN_some {b c:Bool}:flatN (some b) (some c)=some (b&&c):=rfl
theorem flatM_some {d:Option TypeDesc} {r:Option Bool} {x y:V}:flatM d r (some x) (some y)=flatN (cellEq d x y) r:=rfl
theorem flatEq0_nil {xs ys:List V}:flatEq0 P xs ys []=some true:=rfl
theorem flatEq0_cons {xs ys : List V} {f : Field} {fs : List Field} (hn : KR (f.name != "_")) : flatEq0 P xs ys (f :: fs) = flatM (P.underlying f.type) (flatEq0 P xs ys fs) xs[f.offset]? ys[f.offset]? := by
 have : f.name ≠ "_" := by unfold KR at hn; simpa using hn
 rw [flatEq0,if_pos this]
 cases xs[f.offset]? with
 | none=>rfl
 | some x=>cases ys[f.offset]? with
   | none=>rfl
   | some y =>
     simp only [flatM]
     cases cellEq (P.underlying f.type) x y<;>cases flatEq0 P xs ys fs<;>rfl
def flatQ (P:Program) (xs ys:List V) (f:Field) (r:Option Bool):Option TypeDesc→Option Bool
 | some (.struct gs)=>match P.info? f.type with
   | some i=>if (P.eqGuardType P.depth f.type||P.stoodInHeld f.type)=false then flatN (flatEq0 P ((xs.drop f.offset).take i.size) ((ys.drop f.offset).take i.size) gs.toList) r else none
   | none=>none
 | d=>flatM d r xs[f.offset]? ys[f.offset]?
theorem flatQ_int {xs ys:List V} {f:Field} {r:Option Bool} {k:IntKind}:flatQ P xs ys f r (some (.int k))=flatM (some (.int k)) r xs[f.offset]? ys[f.offset]?:=rfl
theorem flatQ_bool {xs ys:List V} {f:Field} {r:Option Bool}:flatQ P xs ys f r (some .bool)=flatM (some .bool) r xs[f.offset]? ys[f.offset]?:=rfl
theorem flatQ_str {xs ys:List V} {f:Field} {r:Option Bool}:flatQ P xs ys f r (some .string)=flatM (some .string) r xs[f.offset]? ys[f.offset]?:=rfl
theorem flatQ_struct {xs ys:List V} {f:Field} {r:Option Bool} {gs:Array Field}:flatQ P xs ys f r (some (.struct gs))=match P.info? f.type with
  | some i=>if (P.eqGuardType P.depth f.type||P.stoodInHeld f.type)=false then flatN (flatEq0 P ((xs.drop f.offset).take i.size) ((ys.drop f.offset).take i.size) gs.toList) r else none
  | none=>none:=rfl
theorem andO_flatM {d:Option TypeDesc} {r:Option Bool} {x y:Option V}:andO (match x,y with | some x,some y=>cellEq d x y | _,_=>none) r=flatM d r x y:=by
 cases x with
 | none=>rfl
 | some x=>cases y with
   | none=>rfl
   | some y =>
     simp only [flatM]
     cases cellEq d x y<;>cases r<;>rfl
theorem flatEq_cons {xs ys : List V} {f : Field} {fs : List Field} (hn : KR (f.name != "_")) : flatEq P xs ys (f :: fs) = flatQ P xs ys f (flatEq P xs ys fs) (P.underlying f.type) := by
 have : f.name ≠ "_" := by unfold KR at hn; simpa using hn
 rw [flatEq,if_pos this]
 generalize P.underlying f.type=d
 cases d with
 | none=>exact andO_flatM
 | some td =>
   cases td<;>first
    | exact andO_flatM
    | (unfold fieldEq flatQ
       cases P.info? f.type with
       | none=>rfl
       | some i =>
         simp only []
         split
         ·generalize flatEq0 P _ _ _=z
          cases z<;>cases flatEq P xs ys fs<;>rfl
         ·rfl)
def notK (P:Program) (σ:St) (o:Oper):V→Option V
 | .p (.bool b)=>some (.p (.bool !b))
 | _=>plainOp P σ o
theorem notK_bool {o:Oper} {b:Bool}:notK P σ o (.p (.bool b))=some (.p (.bool !b)):=rfl
theorem un_not {d:Option Nat} {t rt:TypeId} {x:Operand} {pos:String} {af:Array Edge} {g:Option (Nat×Bool)}:plainOp P σ ⟨d,.unOp .not t x,rt,pos,af,g⟩=notK P σ ⟨d,.unOp .not t x,rt,pos,af,g⟩ (evalV σ x):=by
 cases hx:evalV σ x with
 | p v =>
   cases v with
   | bool b=>simp [notK,plainOp,isSelect,Op.operands,hx,toVal,toCell,execOp,Op.unary,ofVal,ofVal1,ofCell];rfl
   | _=>rfl
 | _=>rfl
def flipI (k:IntKind) (n:Int):Int:=k.wrap ((BitVec.ofInt k.bits (if k.signed then -1 else k.max) ^^^ BitVec.ofInt k.bits n).toNat:Nat)
def flipK (P:Program) (σ:St) (o:Oper):V→Option V
 | .p (.int k n)=>some (.p (.int k (flipI k n)))
 | _=>plainOp P σ o
theorem flipK_int {o:Oper} {k:IntKind} {n:Int}:flipK P σ o (.p (.int k n))=some (.p (.int k (flipI k n))):=rfl
theorem un_xor {d:Option Nat} {t rt:TypeId} {x:Operand} {pos:String} {af:Array Edge} {g:Option (Nat×Bool)}:plainOp P σ ⟨d,.unOp .xor t x,rt,pos,af,g⟩=flipK P σ ⟨d,.unOp .xor t x,rt,pos,af,g⟩ (evalV σ x):=by
 cases hx:evalV σ x with
 | p v =>
   cases v with
   | int k n=>simp [flipK,plainOp,isSelect,Op.operands,hx,toVal,toCell,execOp,Op.unary,Op.intBits,ofVal,ofVal1,ofCell,flipI];rfl
   | _=>rfl
 | _=>rfl
def negK (P:Program) (σ:St) (o:Oper):V→Option V
 | .p (.int k n)=>some (.p (.int k (k.wrap (0 - n))))
 | _=>plainOp P σ o
theorem negK_int {o:Oper} {k:IntKind} {n:Int}:negK P σ o (.p (.int k n))=some (.p (.int k (k.wrap (0 - n)))):=rfl
theorem un_neg {d:Option Nat} {t rt:TypeId} {x:Operand} {pos:String} {af:Array Edge} {g:Option (Nat×Bool)}:plainOp P σ ⟨d,.unOp .neg t x,rt,pos,af,g⟩=negK P σ ⟨d,.unOp .neg t x,rt,pos,af,g⟩ (evalV σ x):=by
 cases hx:evalV σ x with
 | p v =>
   cases v with
   | int k n=>simp [negK,plainOp,isSelect,Op.operands,hx,toVal,toCell,execOp,Op.unary,Op.intArith,ofVal,ofVal1,ofCell];rfl
   | _=>rfl
 | _=>rfl
theorem EA:(type_of% @arr_len)∧(type_of% @arr_take)∧(type_of% @arr_drop)∧(type_of% @arr_head)∧(type_of% @arr_get)∧(type_of% @arr_append)∧(type_of% @arrI_cons)∧(type_of% @arrB_cons)∧(type_of% @arrI_ids)∧(type_of% @arrB_ids)∧(type_of% @arrI_ren)∧(type_of% @arrB_ren)∧(type_of% @cI_eq)∧(type_of% @cB_eq)∧(type_of% @fillP_fold)∧(type_of% @fillP_nil)∧(type_of% @fillP_cons)∧(type_of% @fillPK_some)∧(type_of% @fillA_nil)∧(type_of% @fillA_cons)∧(type_of% @fillB_some)∧(type_of% @tell_cons)∧(type_of% @tell_nil)∧(type_of% @tell_nil2)∧(type_of% @tell1_p)∧(type_of% @tell1_sl)∧(type_of% @tell1_nil)∧(type_of% @getF_nil)∧(type_of% @getF_hit)∧(type_of% @getM_nil)∧(type_of% @getM_hit)∧(type_of% @xr_ct)∧(type_of% @xr_cf)∧(type_of% @xr_sq)∧(type_of% @xr_cd)∧(type_of% @xr_bk)∧(type_of% @xr_lp)∧(type_of% @xr_ex)∧(type_of% @xr_gt)∧(type_of% @xr_rt)∧(type_of% @xr_sk)∧(type_of% @xr_lb)∧(type_of% @range1)∧(type_of% @range2)∧(type_of% @range3)∧(type_of% @range4)∧(type_of% @range5)∧(type_of% @range6)∧(type_of% @range7)∧(type_of% @range8)∧(type_of% @range9)∧(type_of% @range10)∧(type_of% @range11)∧(type_of% @range12)∧(type_of% @range13)∧(type_of% @range14)∧(type_of% @range15)∧(type_of% @range16)∧(type_of% @range17)∧(type_of% @range18)∧(type_of% @range19)∧(type_of% @range20)∧(type_of% @range21)∧(type_of% @range22)∧(type_of% @range23)∧(type_of% @range24)∧(type_of% @range25)∧(type_of% @range26)∧(type_of% @range27)∧(type_of% @range28)∧(type_of% @range29)∧(type_of% @range30)∧(type_of% @range31)∧(type_of% @range32)∧(type_of% @range33)∧(type_of% @range34)∧(type_of% @range35)∧(type_of% @range36)∧(type_of% @range37)∧(type_of% @range38)∧(type_of% @range39)∧(type_of% @range40)∧(type_of% @flatEq_nil)∧(type_of% @flatEq0_nil)∧(type_of% @flatQ_int)∧(type_of% @flatQ_bool)∧(type_of% @flatQ_str)∧(type_of% @flatQ_struct)∧(type_of% @flatM_some)∧(type_of% @flatN_some)∧(type_of% @un_not)∧(type_of% @notK_bool)∧(type_of% @un_xor)∧(type_of% @flipK_int)∧(type_of% @un_neg)∧(type_of% @negK_int)∧(type_of% @strOf_fold)∧(type_of% @blockK_norm)∧(type_of% @blockK_ret)∧(type_of% @blockK_goto)∧(type_of% @blockK_exit)∧(type_of% @mk_get)∧(type_of% @rowsOf_nil)∧(type_of% @rowsOf_append)∧(type_of% @rowsOf_take)∧(type_of% @rowsOf_drop)∧(type_of% @rowsOf_length)∧(type_of% @rowsOf_get)∧(type_of% @seqK_norm)∧(type_of% @seqK_exit)∧(type_of% @seqK_goto)∧(type_of% @seqK_ret)∧(type_of% @condK_true)∧(type_of% @condK_false)∧(type_of% @headK_some)∧(type_of% @againK_norm)∧(type_of% @againK_exit)∧(type_of% @againK_goto)∧(type_of% @againK_ret)∧(type_of% @ev_region)∧(type_of% @run_nil)∧(type_of% @run_cons)∧(type_of% @opK_some)∧(type_of% @okK_true)∧(type_of% @runE_nil)∧(type_of% @runE_cons)∧(type_of% @opEK_some)∧(type_of% @okEK_true)∧(type_of% @endK_some)∧(type_of% @evalV_tmp)∧(type_of% @evalV_const)∧(type_of% @evalV_func)∧(type_of% @xr_rf)∧(type_of% @oids_lp)∧(type_of% @oren_lp)∧(type_of% @odead_lp)∧(type_of% @roundA_norm)∧(type_of% @roundA2_lp)∧(type_of% @roundB_some)∧(type_of% @roundB2_lp)∧(type_of% @rangeB_some)∧(type_of% @rangeC_some)∧(type_of% @rangeD_lp)∧(type_of% @oids_box)∧(type_of% @oids_row)∧(type_of% @oids_dead)∧(type_of% @oren_box)∧(type_of% @oren_row)∧(type_of% @oren_dead)∧(type_of% @odead_box)∧(type_of% @odead_row)∧(type_of% @odead_dead)∧(type_of% @one_int)∧(type_of% @one_bool)∧(type_of% @one_str)∧(type_of% @evL_nil)∧(type_of% @evL_cons)∧(type_of% @fillL_nil)∧(type_of% @fillL_cons)∧(type_of% @fillK_some) :=
 ⟨@arr_len,@arr_take,@arr_drop,@arr_head,@arr_get,@arr_append,@arrI_cons,@arrB_cons,@arrI_ids,@arrB_ids,@arrI_ren,@arrB_ren,@cI_eq,@cB_eq,@fillP_fold,@fillP_nil,@fillP_cons,@fillPK_some,@fillA_nil,@fillA_cons,@fillB_some,@tell_cons,@tell_nil,@tell_nil2,@tell1_p,@tell1_sl,@tell1_nil,@getF_nil,@getF_hit,@getM_nil,@getM_hit,@xr_ct,@xr_cf,@xr_sq,@xr_cd,@xr_bk,@xr_lp,@xr_ex,@xr_gt,@xr_rt,@xr_sk,@xr_lb,@range1,@range2,@range3,@range4,@range5,@range6,@range7,@range8,@range9,@range10,@range11,@range12,@range13,@range14,@range15,@range16,@range17,@range18,@range19,@range20,@range21,@range22,@range23,@range24,@range25,@range26,@range27,@range28,@range29,@range30,@range31,@range32,@range33,@range34,@range35,@range36,@range37,@range38,@range39,@range40,@flatEq_nil,@flatEq0_nil,@flatQ_int,@flatQ_bool,@flatQ_str,@flatQ_struct,@flatM_some,@flatN_some,@un_not,@notK_bool,@un_xor,@flipK_int,@un_neg,@negK_int,@strOf_fold,@blockK_norm,@blockK_ret,@blockK_goto,@blockK_exit,@mk_get,@rowsOf_nil,@rowsOf_append,@rowsOf_take,@rowsOf_drop,@rowsOf_length,@rowsOf_get,@seqK_norm,@seqK_exit,@seqK_goto,@seqK_ret,@condK_true,@condK_false,@headK_some,@againK_norm,@againK_exit,@againK_goto,@againK_ret,@ev_region,@run_nil,@run_cons,@opK_some,@okK_true,@runE_nil,@runE_cons,@opEK_some,@okEK_true,@endK_some,@evalV_tmp,@evalV_const,@evalV_func,@xr_rf,@oids_lp,@oren_lp,@odead_lp,@roundA_norm,@roundA2_lp,@roundB_some,@roundB2_lp,@rangeB_some,@rangeC_some,@rangeD_lp,@oids_box,@oids_row,@oids_dead,@oren_box,@oren_row,@oren_dead,@odead_box,@odead_row,@odead_dead,@one_int,@one_bool,@one_str,@evL_nil,@evL_cons,@fillL_nil,@fillL_cons,@fillK_some⟩
theorem EG:(type_of% @List.getElem?_cons_zero.{0})∧(type_of% @List.getElem?_cons_succ.{0})∧(type_of% @List.map_cons.{0,0})∧(type_of% @List.map_nil.{0,0})∧(type_of% @List.length_cons.{0})∧(type_of% @List.length_nil.{0})∧(type_of% @List.length_map.{0,0})∧(type_of% @List.nil_append.{0})∧(type_of% @List.cons_append.{0})∧(type_of% @List.append_nil.{0})∧(type_of% @Bool.and_true)∧(type_of% @Bool.true_and)∧(type_of% @Bool.false_and)∧(type_of% @Bool.and_false)∧(type_of% @Bool.not_true)∧(type_of% @Bool.not_false)∧(type_of% @Bool.or_true)∧(type_of% @Bool.or_false)∧(type_of% @Bool.true_or)∧(type_of% @Bool.false_or)∧(type_of% @List.contains_cons.{0})∧(type_of% @List.contains_nil.{0})∧(type_of% @List.all_cons.{0})∧(type_of% @List.all_nil.{0})∧(type_of% @List.any_cons.{0})∧(type_of% @List.any_nil.{0})∧(type_of% @List.flatMap_cons.{0,0})∧(type_of% @List.flatMap_nil.{0,0})∧(type_of% @List.zip_cons_cons.{0,0})∧(type_of% @List.zip_nil_left.{0,0})∧(type_of% @List.take_zero.{0})∧(type_of% @List.take_succ_cons.{0})∧(type_of% @List.drop_zero.{0})∧(type_of% @List.drop_succ_cons.{0})∧(type_of% @List.take_nil.{0})∧(type_of% @List.drop_nil.{0})∧(type_of% @List.head?_cons.{0})∧(type_of% @List.replicate_zero.{0})∧(type_of% @List.replicate_succ.{0})∧(type_of% @List.set_cons_zero.{0})∧(type_of% @List.set_cons_succ.{0})∧(type_of% @List.isEmpty_nil.{0})∧(type_of% @List.isEmpty_cons.{0})∧(type_of% @List.getElem?_map.{0,0})∧(type_of% @List.range_zero)∧(type_of% @List.reverse_cons.{0})∧(type_of% @List.reverse_nil.{0})∧(type_of% @Bool.false_eq_true)∧(type_of% @List.any_append.{0})∧(type_of% @Int.cast_ofNat_Int)∧(type_of% @eq_self.{1})∧(type_of% @Option.map_some.{0,0})∧(type_of% @Option.map_none.{0,0})∧(type_of% @Option.bind_some.{0,0})∧(type_of% @and_true)∧(type_of% @true_and)∧(type_of% @and_false)∧(type_of% @false_and)∧(type_of% @and_self)∧(type_of% @if_true.{1})∧(type_of% @if_false.{1})∧(type_of% @decide_true)∧(type_of% @decide_false)∧(type_of% @beq_self_eq_true.{0})∧(type_of% @bne_self_eq_false.{0})∧(type_of% @not_true_eq_false)∧(type_of% @not_false_eq_true)∧(type_of% @ne_eq.{1})∧(type_of% @Option.isSome_some.{0})∧(type_of% @Option.isSome_none.{0})∧(type_of% @Option.isNone_none.{0})∧(type_of% @Option.isNone_some.{0})∧(type_of% @Nat.zero_add)∧(type_of% @Nat.add_zero)∧(type_of% @Nat.sub_zero)∧(type_of% @Nat.zero_le)∧(type_of% @or_true)∧(type_of% @true_or)∧(type_of% @or_false)∧(type_of% @false_or)∧(type_of% @forall_const.{1})∧(type_of% @forall_const.{0})∧(type_of% @Nat.mul_one)∧(type_of% @Option.isSome_map.{0,0})∧(type_of% @List.filter_cons.{0})∧(type_of% @List.filter_nil.{0})∧(type_of% @List.getElem?_toArray.{0})∧(type_of% @List.toList_toArray.{0})∧(type_of% @Array.getElem?_toList.{0})∧(type_of% @List.size_toArray.{0})∧(type_of% @Option.map_eq_map.{0})∧(type_of% @List.mem_cons.{0})∧(type_of% @List.not_mem_nil.{0})∧(type_of% @List.getElem?_nil.{0})∧(type_of% @Option.getD_some.{0})∧(type_of% @Option.getD_none.{0})∧(type_of% @Nat.le_refl)∧(type_of% @implies_true.{1})∧(type_of% @implies_true.{0})∧(type_of% @false_implies)∧(type_of% @Nat.one_mul)∧(type_of% @Bool.false_beq)∧(type_of% @Bool.true_beq)∧(type_of% @Array.toList_append.{0})∧(type_of% @List.append_eq.{0})∧(type_of% @List.getD_cons_succ.{0})∧(type_of% @List.getD_cons_zero.{0}) :=
 ⟨@List.getElem?_cons_zero.{0},@List.getElem?_cons_succ.{0},@List.map_cons.{0,0},@List.map_nil.{0,0},@List.length_cons.{0},@List.length_nil.{0},@List.length_map.{0,0},@List.nil_append.{0},@List.cons_append.{0},@List.append_nil.{0},@Bool.and_true,@Bool.true_and,@Bool.false_and,@Bool.and_false,@Bool.not_true,@Bool.not_false,@Bool.or_true,@Bool.or_false,@Bool.true_or,@Bool.false_or,@List.contains_cons.{0},@List.contains_nil.{0},@List.all_cons.{0},@List.all_nil.{0},@List.any_cons.{0},@List.any_nil.{0},@List.flatMap_cons.{0,0},@List.flatMap_nil.{0,0},@List.zip_cons_cons.{0,0},@List.zip_nil_left.{0,0},@List.take_zero.{0},@List.take_succ_cons.{0},@List.drop_zero.{0},@List.drop_succ_cons.{0},@List.take_nil.{0},@List.drop_nil.{0},@List.head?_cons.{0},@List.replicate_zero.{0},@List.replicate_succ.{0},@List.set_cons_zero.{0},@List.set_cons_succ.{0},@List.isEmpty_nil.{0},@List.isEmpty_cons.{0},@List.getElem?_map.{0,0},@List.range_zero,@List.reverse_cons.{0},@List.reverse_nil.{0},@Bool.false_eq_true,@List.any_append.{0},@Int.cast_ofNat_Int,@eq_self.{1},@Option.map_some.{0,0},@Option.map_none.{0,0},@Option.bind_some.{0,0},@and_true,@true_and,@and_false,@false_and,@and_self,@if_true.{1},@if_false.{1},@decide_true,@decide_false,@beq_self_eq_true.{0},@bne_self_eq_false.{0},@not_true_eq_false,@not_false_eq_true,@ne_eq.{1},@Option.isSome_some.{0},@Option.isSome_none.{0},@Option.isNone_none.{0},@Option.isNone_some.{0},@Nat.zero_add,@Nat.add_zero,@Nat.sub_zero,@Nat.zero_le,@or_true,@true_or,@or_false,@false_or,@forall_const.{1},@forall_const.{0},@Nat.mul_one,@Option.isSome_map.{0,0},@List.filter_cons.{0},@List.filter_nil.{0},@List.getElem?_toArray.{0},@List.toList_toArray.{0},@Array.getElem?_toList.{0},@List.size_toArray.{0},@Option.map_eq_map.{0},@List.mem_cons.{0},@List.not_mem_nil.{0},@List.getElem?_nil.{0},@Option.getD_some.{0},@Option.getD_none.{0},@Nat.le_refl,@implies_true.{1},@implies_true.{0},@false_implies,@Nat.one_mul,@Bool.false_beq,@Bool.true_beq,@Array.toList_append.{0},@List.append_eq.{0},@List.getD_cons_succ.{0},@List.getD_cons_zero.{0}⟩
theorem effOf_eq (σ:St) (o:Oper) (u:List (Nat×O)):effOf σ o u=Option.map (fun f:List Nat=>(⟨f,u.map fun q=>q.1⟩:Eff)) (match o.op with
 | .call c=>(match c.callee with
   | .value _=>reach σ.M 64 (slotsOfOp σ o) []
   | _=>some (slotsOfOp σ o))
 | _=>some (slotsOfOp σ o)):=rfl
theorem EF:(type_of% @stepG.eq_1)∧(type_of% @guardOn.eq_1)∧(type_of% @step.eq_1)∧(type_of% @St.put.eq_1)∧(type_of% @St.put.eq_2)∧(type_of% @dstOk.eq_1)∧(type_of% @dstOk.eq_2)∧(type_of% @endR.eq_1)∧(type_of% @frzAll.eq_1)∧(type_of% @frzAll.eq_2)∧(type_of% @normR.eq_1)∧(type_of% @normR.eq_2)∧(type_of% @params.eq_1)∧(type_of% @params.eq_2)∧(type_of% @idxs.eq_1)∧(type_of% @idxs.eq_2)∧(type_of% @binV.eq_1)∧(type_of% @keepTo.eq_1)∧(type_of% @reach.eq_1)∧(type_of% @reach.eq_2)∧(type_of% @reach.eq_3)∧(type_of% @V.idsL.eq_1)∧(type_of% @V.idsL.eq_2)∧(type_of% @ExtB.eq_1)∧(type_of% @RetB.eq_1)∧(type_of% @HeadB.eq_1)∧(type_of% @newId.eq_1)∧(type_of% @newObjs.eq_1)∧(type_of% @newObjs.eq_2)∧(type_of% @toHead.eq_1)∧(type_of% @idxOf.eq_1)∧(type_of% @idxOf.eq_2)∧(type_of% @fromCall.eq_1)∧(type_of% @lendL.eq_1)∧(type_of% @lendL.eq_2)∧(type_of% @frzL.eq_1)∧(type_of% @frzL.eq_2)∧(type_of% @V.renL.eq_1)∧(type_of% @V.renL.eq_2)∧(type_of% @V.ren.eq_1)∧(type_of% @V.ren.eq_2)∧(type_of% @V.ren.eq_3)∧(type_of% @V.ren.eq_4)∧(type_of% @V.ren.eq_5)∧(type_of% @V.ren.eq_6)∧(type_of% @V.ren.eq_7)∧(type_of% @V.ren.eq_8)∧(type_of% @V.ren.eq_9)∧(type_of% @V.ren.eq_10)∧(type_of% @V.ren.eq_11)∧(type_of% @V.ren.eq_12)∧(type_of% @V.ren.eq_13)∧(type_of% @V.ren.eq_14)∧(type_of% @boxV.eq_1)∧(type_of% @allocV.eq_1)∧(type_of% @overlay.eq_1)∧(type_of% @storeV.eq_1)∧(type_of% @elemI.eq_1)∧(type_of% @extKeys.eq_1)∧(type_of% @objsOf.eq_1)∧(type_of% @objsOf.eq_2)∧(type_of% @headR.eq_1)∧(type_of% @canonAll.eq_1)∧(type_of% @canonAll.eq_2)∧(type_of% @canonOne.eq_1)∧(type_of% @canonOne.eq_2)∧(type_of% @keepCanon.eq_1)∧(type_of% @finish.eq_1)∧(type_of% @finishR.eq_1)∧(type_of% @resV.eq_1)∧(type_of% @resV.eq_2)∧(type_of% @resV.eq_3)∧(type_of% @nodupB.eq_1)∧(type_of% @nodupB.eq_2)∧(type_of% @toIdx.eq_1)∧(type_of% @loadV.eq_1)∧(type_of% @effOf_eq)∧(type_of% @slotsOfOp.eq_1)∧(type_of% @Go.Op.operands.eq_1)∧(type_of% @Go.Op.operands.eq_2)∧(type_of% @Go.Op.operands.eq_3)∧(type_of% @Go.Op.operands.eq_4)∧(type_of% @Go.Op.operands.eq_5)∧(type_of% @Go.Op.operands.eq_6)∧(type_of% @Go.Op.operands.eq_7)∧(type_of% @Go.Op.operands.eq_8)∧(type_of% @Go.Op.operands.eq_9)∧(type_of% @Go.Op.operands.eq_10)∧(type_of% @Go.Op.operands.eq_11)∧(type_of% @Go.Op.operands.eq_12)∧(type_of% @Go.Op.operands.eq_13)∧(type_of% @Go.Op.operands.eq_14)∧(type_of% @Go.Op.operands.eq_15)∧(type_of% @Go.Op.operands.eq_16)∧(type_of% @Go.Op.operands.eq_17)∧(type_of% @Go.Op.operands.eq_18)∧(type_of% @Go.Op.operands.eq_19)∧(type_of% @Go.Op.operands.eq_20)∧(type_of% @Go.Op.operands.eq_21)∧(type_of% @Go.Op.operands.eq_22)∧(type_of% @Go.Op.operands.eq_23)∧(type_of% @Go.Op.operands.eq_24)∧(type_of% @Go.Op.operands.eq_25)∧(type_of% @Go.Op.operands.eq_26)∧(type_of% @Go.Op.operands.eq_27)∧(type_of% @Go.Op.operands.eq_28)∧(type_of% @Go.Op.operands.eq_29)∧(type_of% @Go.Op.operands.eq_30)∧(type_of% @Go.Op.operands.eq_31)∧(type_of% @Go.Op.operands.eq_32)∧(type_of% @Go.Op.operands.eq_33)∧(type_of% @Go.Op.operands.eq_34)∧(type_of% @Go.Op.operands.eq_35)∧(type_of% @Go.Op.operands.eq_36)∧(type_of% @Go.Op.operands.eq_37)∧(type_of% @Go.Op.operands.eq_38)∧(type_of% @Go.Op.operands.eq_39)∧(type_of% @Go.Op.operands.eq_40)∧(type_of% @Go.Op.operands.eq_41)∧(type_of% @Go.Op.operands.eq_42)∧(type_of% @Go.Op.operands.eq_43)∧(type_of% @Go.Call.operands.eq_1)∧(type_of% @frzOne.eq_1)∧(type_of% @softAll.eq_1)∧(type_of% @softAll.eq_2)∧(type_of% @softOne.eq_1)∧(type_of% @softOne.eq_2)∧(type_of% @softNew.eq_1)∧(type_of% @softNew.eq_2)∧(type_of% @softM.eq_1)∧(type_of% @softM.eq_2)∧(type_of% @softOk.eq_1)∧(type_of% @softOk.eq_2) :=
 ⟨@stepG.eq_1,@guardOn.eq_1,@step.eq_1,@St.put.eq_1,@St.put.eq_2,@dstOk.eq_1,@dstOk.eq_2,@endR.eq_1,@frzAll.eq_1,@frzAll.eq_2,@normR.eq_1,@normR.eq_2,@params.eq_1,@params.eq_2,@idxs.eq_1,@idxs.eq_2,@binV.eq_1,@keepTo.eq_1,@reach.eq_1,@reach.eq_2,@reach.eq_3,@V.idsL.eq_1,@V.idsL.eq_2,@ExtB.eq_1,@RetB.eq_1,@HeadB.eq_1,@newId.eq_1,@newObjs.eq_1,@newObjs.eq_2,@toHead.eq_1,@idxOf.eq_1,@idxOf.eq_2,@fromCall.eq_1,@lendL.eq_1,@lendL.eq_2,@frzL.eq_1,@frzL.eq_2,@V.renL.eq_1,@V.renL.eq_2,@V.ren.eq_1,@V.ren.eq_2,@V.ren.eq_3,@V.ren.eq_4,@V.ren.eq_5,@V.ren.eq_6,@V.ren.eq_7,@V.ren.eq_8,@V.ren.eq_9,@V.ren.eq_10,@V.ren.eq_11,@V.ren.eq_12,@V.ren.eq_13,@V.ren.eq_14,@boxV.eq_1,@allocV.eq_1,@overlay.eq_1,@storeV.eq_1,@elemI.eq_1,@extKeys.eq_1,@objsOf.eq_1,@objsOf.eq_2,@headR.eq_1,@canonAll.eq_1,@canonAll.eq_2,@canonOne.eq_1,@canonOne.eq_2,@keepCanon.eq_1,@finish.eq_1,@finishR.eq_1,@resV.eq_1,@resV.eq_2,@resV.eq_3,@nodupB.eq_1,@nodupB.eq_2,@toIdx.eq_1,@loadV.eq_1,@effOf_eq,@slotsOfOp.eq_1,@Go.Op.operands.eq_1,@Go.Op.operands.eq_2,@Go.Op.operands.eq_3,@Go.Op.operands.eq_4,@Go.Op.operands.eq_5,@Go.Op.operands.eq_6,@Go.Op.operands.eq_7,@Go.Op.operands.eq_8,@Go.Op.operands.eq_9,@Go.Op.operands.eq_10,@Go.Op.operands.eq_11,@Go.Op.operands.eq_12,@Go.Op.operands.eq_13,@Go.Op.operands.eq_14,@Go.Op.operands.eq_15,@Go.Op.operands.eq_16,@Go.Op.operands.eq_17,@Go.Op.operands.eq_18,@Go.Op.operands.eq_19,@Go.Op.operands.eq_20,@Go.Op.operands.eq_21,@Go.Op.operands.eq_22,@Go.Op.operands.eq_23,@Go.Op.operands.eq_24,@Go.Op.operands.eq_25,@Go.Op.operands.eq_26,@Go.Op.operands.eq_27,@Go.Op.operands.eq_28,@Go.Op.operands.eq_29,@Go.Op.operands.eq_30,@Go.Op.operands.eq_31,@Go.Op.operands.eq_32,@Go.Op.operands.eq_33,@Go.Op.operands.eq_34,@Go.Op.operands.eq_35,@Go.Op.operands.eq_36,@Go.Op.operands.eq_37,@Go.Op.operands.eq_38,@Go.Op.operands.eq_39,@Go.Op.operands.eq_40,@Go.Op.operands.eq_41,@Go.Op.operands.eq_42,@Go.Op.operands.eq_43,@Go.Call.operands.eq_1,@frzOne.eq_1,@softAll.eq_1,@softAll.eq_2,@softOne.eq_1,@softOne.eq_2,@softNew.eq_1,@softNew.eq_2,@softM.eq_1,@softM.eq_2,@softOk.eq_1,@softOk.eq_2⟩
theorem k_ofVal_int (k:IntKind) (n:Int):ofVal (.int k n)=.p (.int k n):=rfl
theorem k_ofVal_bool (b:Bool):ofVal (.bool b)=.p (.bool b):=rfl
theorem k_ofVal_str (b:ByteArray):ofVal (.string b)=.p (.string b):=rfl
theorem k_ofVal_nil:ofVal (.slice none 0 0)=.nil:=rfl
theorem k_ofVal_ptr (a:Option Addr):ofVal (.pointer a)=.p (.pointer a):=rfl
theorem k_ofVal_func (f:Fn) (a b:Array Value):ofVal (.func f a b)=.p (.func f a b):=rfl
theorem k_ofVal_nilf:ofVal .nilFunc=.p .nilFunc:=rfl
theorem k_ofVal_tup (vs:Array Value):ofVal (.tuple vs)=.tup (vs.toList.map ofVal1):=rfl
theorem k_ofVal_agg (cs:Array Value):ofVal (.agg cs)=if cs.all Value.oneCell' then .agg (cs.toList.map ofCell) else .bad:=by simp [ofVal,ofVal1,ofCell]
theorem k_ofVal1_int (k:IntKind) (n:Int):ofVal1 (.int k n)=.p (.int k n):=rfl
theorem k_ofVal1_bool (b:Bool):ofVal1 (.bool b)=.p (.bool b):=rfl
theorem k_ofVal1_str (b:ByteArray):ofVal1 (.string b)=.p (.string b):=rfl
theorem k_ofVal1_nil:ofVal1 (.slice none 0 0)=.nil:=rfl
theorem k_ofVal1_ptr (a:Option Addr):ofVal1 (.pointer a)=.p (.pointer a):=rfl
theorem k_ofVal1_func (f:Fn) (a b:Array Value):ofVal1 (.func f a b)=.p (.func f a b):=rfl
theorem k_ofCell_int (k:IntKind) (n:Int):ofCell (.int k n)=.p (.int k n):=rfl
theorem k_ofCell_bool (b:Bool):ofCell (.bool b)=.p (.bool b):=rfl
theorem k_ofCell_str (b:ByteArray):ofCell (.string b)=.p (.string b):=rfl
theorem k_ofCell_nil:ofCell (.slice none 0 0)=.nil:=rfl
theorem k_ofCell_ptr (a:Option Addr):ofCell (.pointer a)=.p (.pointer a):=rfl
theorem k_ofCell_func (f:Fn) (a b:Array Value):ofCell (.func f a b)=.p (.func f a b):=rfl
theorem k_lenV_nil:lenV σ .nil=some 0:=rfl
theorem k_lenV_sl (m:Nat) (rows:List (List V)):lenV σ (.sl m rows)=some rows.length:=rfl
theorem k_lenV_own (id:Nat):lenV σ (.own id)=match getM σ.M id with | some (.row _ _ _ rows)=>some rows.length | some (.tab _ _ n _)=>some n | _=>none:=rfl
theorem k_lenV_cut (a b c n:Nat):lenV σ (.cut a b c n)=some n:=rfl
theorem k_aggEq_eql (t:TypeId) (xs ys:List V) (fs:List Field):aggEqV P .eql t xs ys fs=if (P.eqGuardType P.depth t||P.stoodInHeld t)=false then (match flatEq P xs ys fs with | some b=>some (.p (.bool b)) | none=>none) else none:=by unfold aggEqV;cases flatEq P xs ys fs<;>rfl
theorem k_aggEq_neq (t:TypeId) (xs ys:List V) (fs:List Field):aggEqV P .neq t xs ys fs=if (P.eqGuardType P.depth t||P.stoodInHeld t)=false then (match flatEq P xs ys fs with | some b=>some (.p (.bool (!b))) | none=>none) else none:=by unfold aggEqV;cases flatEq P xs ys fs<;>rfl
theorem k_cellEq_int (k q k':IntKind) (a b:Int):cellEq (some (.int q)) (.p (.int k a)) (.p (.int k' b))=if k=k' then some (a==b) else none:=rfl
theorem k_cellEq_bool (a b:Bool):cellEq (some .bool) (.p (.bool a)) (.p (.bool b))=some (a==b):=rfl
theorem k_cellEq_str (a b:ByteArray):cellEq (some .string) (.p (.string a)) (.p (.string b))=some (a.toList==b.toList):=rfl
theorem k_ib_add (k:IntKind) (a b:Int):intBin .add k a b=some (.int k (k.wrap (a+b))):=rfl
theorem k_ib_sub (k:IntKind) (a b:Int):intBin .sub k a b=some (.int k (k.wrap (a - b))):=rfl
theorem k_ib_mul (k:IntKind) (a b:Int):intBin .mul k a b=some (.int k (k.wrap (a * b))):=rfl
theorem k_ib_quo (k:IntKind) (a b:Int):intBin .quo k a b=if b=0 then none else some (.int k (k.wrap (a.tdiv b))):=rfl
theorem k_ib_rem (k:IntKind) (a b:Int):intBin .rem k a b=if b=0 then none else some (.int k (a.tmod b)):=rfl
theorem k_ib_and (k:IntKind) (a b:Int):intBin .and k a b=some (.int k (k.wrap (BitVec.ofInt k.bits a &&& BitVec.ofInt k.bits b).toNat)):=rfl
theorem k_ib_or (k:IntKind) (a b:Int):intBin .or k a b=some (.int k (k.wrap (BitVec.ofInt k.bits a ||| BitVec.ofInt k.bits b).toNat)):=rfl
theorem k_ib_xor (k:IntKind) (a b:Int):intBin .xor k a b=some (.int k (k.wrap (BitVec.ofInt k.bits a ^^^ BitVec.ofInt k.bits b).toNat)):=rfl
theorem k_ib_andNot (k:IntKind) (a b:Int):intBin .andNot k a b=some (.int k (k.wrap (BitVec.ofInt k.bits a &&& ~~~BitVec.ofInt k.bits b).toNat)):=rfl
theorem k_ib_eql (k:IntKind) (a b:Int):intBin .eql k a b=some (.bool (a==b)):=rfl
theorem k_ib_neq (k:IntKind) (a b:Int):intBin .neq k a b=some (.bool (a != b)):=rfl
theorem k_ib_lss (k:IntKind) (a b:Int):intBin .lss k a b=some (.bool (a<b)):=rfl
theorem k_ib_leq (k:IntKind) (a b:Int):intBin .leq k a b=some (.bool (a≤b)):=rfl
theorem k_ib_gtr (k:IntKind) (a b:Int):intBin .gtr k a b=some (.bool (a>b)):=rfl
theorem k_ib_geq (k:IntKind) (a b:Int):intBin .geq k a b=some (.bool (a≥b)):=rfl
theorem k_sh_add:isShift .add=false:=rfl
theorem k_sh_sub:isShift .sub=false:=rfl
theorem k_sh_mul:isShift .mul=false:=rfl
theorem k_sh_quo:isShift .quo=false:=rfl
theorem k_sh_rem:isShift .rem=false:=rfl
theorem k_sh_and:isShift .and=false:=rfl
theorem k_sh_or:isShift .or=false:=rfl
theorem k_sh_xor:isShift .xor=false:=rfl
theorem k_sh_shl:isShift .shl=true:=rfl
theorem k_sh_shr:isShift .shr=true:=rfl
theorem k_sh_andNot:isShift .andNot=false:=rfl
theorem k_sh_eql:isShift .eql=false:=rfl
theorem k_sh_neq:isShift .neq=false:=rfl
theorem k_sh_lss:isShift .lss=false:=rfl
theorem k_sh_leq:isShift .leq=false:=rfl
theorem k_sh_gtr:isShift .gtr=false:=rfl
theorem k_sh_geq:isShift .geq=false:=rfl
theorem k_ids_p (v:Value):V.ids (.p v)=[]:=by simp only [V.ids]
theorem k_ids_nil:V.ids V.nil=[]:=by simp only [V.ids]
theorem k_ids_sl (m:Nat) (rows:List (List V)):V.ids (.sl m rows)=[]:=by simp only [V.ids]
theorem k_ids_rpt (cs:List V) (o:Nat):V.ids (.rpt cs o)=[]:=by simp only [V.ids]
theorem k_ids_own (id:Nat):V.ids (.own id)=[id]:=by simp only [V.ids]
theorem k_ids_cut (id m o n:Nat):V.ids (.cut id m o n)=[id]:=by simp only [V.ids]
theorem k_ids_ptr (id o:Nat):V.ids (.ptr id o)=[id]:=by simp only [V.ids]
theorem k_ids_ept (id m k j:Nat):V.ids (.ept id m k j)=[id]:=by simp only [V.ids]
theorem k_ids_agg (cs:List V):V.ids (.agg cs)=V.idsL cs:=by simp only [V.ids]
theorem k_ids_tup (vs:List V):V.ids (.tup vs)=V.idsL vs:=by simp only [V.ids]
theorem k_ids_fn (f:FuncId) (cs:List V):V.ids (.fn f cs)=V.idsL cs:=by simp only [V.ids]
theorem k_ids_yld (id:Nat):V.ids (.yld id)=[id]:=by simp only [V.ids]
theorem k_ids_bad:V.ids V.bad=[]:=by simp only [V.ids]
theorem k_lend_p (v:Value):lendV σ (.p v)=some ((.p v),[]):=by simp only [lendV]
theorem k_lend_nil:lendV σ V.nil=some (V.nil,[]):=by simp only [lendV]
theorem k_lend_sl (m:Nat) (rows:List (List V)):lendV σ (.sl m rows)=some ((.sl m rows),[]):=by simp only [lendV]
theorem k_lend_rpt (cs:List V) (o:Nat):lendV σ (.rpt cs o)=some ((.rpt cs o),[]):=by simp only [lendV]
theorem k_lend_own (id:Nat):lendV σ (.own id)=frz σ (.own id):=by simp only [lendV]
theorem k_lend_cut (id m o n:Nat):lendV σ (.cut id m o n)=frz σ (.cut id m o n):=by simp only [lendV]
theorem k_lend_ptr (id o:Nat):lendV σ (.ptr id o)=some ((.ptr id o),[]):=by simp only [lendV]
theorem k_lend_ept (id m k j:Nat):lendV σ (.ept id m k j)=some ((.ept id m k j),[]):=by simp only [lendV]
theorem k_lend_agg (cs:List V):lendV σ (.agg cs)=match lendL σ cs with | some (l,u)=>some (.agg l,u) | none=>none:=by simp only [lendV];rfl
theorem k_lend_tup (vs:List V):lendV σ (.tup vs)=some ((.tup vs),[]):=by simp only [lendV]
theorem k_lend_fn (f:FuncId) (cs:List V):lendV σ (.fn f cs)=some ((.fn f cs),[]):=by simp only [lendV]
theorem k_lend_yld (id:Nat):lendV σ (.yld id)=some ((.yld id),[]):=by simp only [lendV]
theorem k_frz_p (v:Value):frz σ (.p v)=if v.oneCell' then some (.p v,[]) else none:=rfl
theorem k_frz_nil:frz σ .nil=some (.nil,[]):=rfl
theorem k_frz_sl (m:Nat) (rows:List (List V)):frz σ (.sl m rows)=some (.sl m rows,[]):=rfl
theorem k_frz_own (id:Nat):frz σ (.own id)=match getM σ.M id with | some (.row _ m e rows)=>some (.sl m rows,[(id,.row false m e rows)]) | _=>none:=rfl
theorem k_frz_cut (id m off n:Nat):frz σ (.cut id m off n)=match getM σ.M id with | some (.row _ m' e rows)=>if m'=m∧off+n≤rows.length then some (.sl m ((rows.drop off).take n),[(id,.row false m e rows)]) else none | _=>none:=rfl
theorem k_flat_p (v:Value):flatV (.p v)=true:=rfl
theorem k_flat_nil:flatV V.nil=false:=rfl
theorem k_flat_sl (m:Nat) (rows:List (List V)):flatV (.sl m rows)=false:=rfl
theorem k_flat_rpt (cs:List V) (o:Nat):flatV (.rpt cs o)=false:=rfl
theorem k_flat_own (id:Nat):flatV (.own id)=false:=rfl
theorem k_flat_cut (id m o n:Nat):flatV (.cut id m o n)=false:=rfl
theorem k_flat_ptr (id o:Nat):flatV (.ptr id o)=false:=rfl
theorem k_flat_ept (id m k j:Nat):flatV (.ept id m k j)=false:=rfl
theorem k_flat_agg (cs:List V):flatV (.agg cs)=false:=rfl
theorem k_flat_tup (vs:List V):flatV (.tup vs)=vs.all fun v=>match v with | .p _=>true | _=>false:=rfl
theorem k_flat_fn (f:FuncId) (cs:List V):flatV (.fn f cs)=false:=rfl
theorem k_flat_yld (id:Nat):flatV (.yld id)=false:=rfl
theorem k_flat_bad:flatV V.bad=false:=rfl
theorem k_cells_p (v:Value):cellsOf (.p v)=if v.oneCell' then some [.p v] else none:=rfl
theorem k_cells_nil:cellsOf V.nil=some [V.nil]:=rfl
theorem k_cells_sl (m:Nat) (rows:List (List V)):cellsOf (.sl m rows)=some [(.sl m rows)]:=rfl
theorem k_cells_rpt (cs:List V) (o:Nat):cellsOf (.rpt cs o)=some [(.rpt cs o)]:=rfl
theorem k_cells_own (id:Nat):cellsOf (.own id)=some [(.own id)]:=rfl
theorem k_cells_cut (id m o n:Nat):cellsOf (.cut id m o n)=some [(.cut id m o n)]:=rfl
theorem k_cells_ptr (id o:Nat):cellsOf (.ptr id o)=some [(.ptr id o)]:=rfl
theorem k_cells_ept (id m k j:Nat):cellsOf (.ept id m k j)=some [(.ept id m k j)]:=rfl
theorem k_cells_agg (cs:List V):cellsOf (.agg cs)=some cs:=rfl
theorem k_cells_fn (f:FuncId) (cs:List V):cellsOf (.fn f cs)=some [(.fn f cs)]:=rfl
theorem k_cells_yld (id:Nat):cellsOf (.yld id)=some [(.yld id)]:=rfl
theorem k_off_rpt (cs:List V) (o n:Nat):addOff (.rpt cs o) n=some (.rpt cs (o+n)):=rfl
theorem k_off_ptr (id o n:Nat):addOff (.ptr id o) n=some (.ptr id (o+n)):=rfl
theorem k_off_ept (id m k j n:Nat):addOff (.ept id m k j) n=some (.ept id m k (j+n)):=rfl
theorem k_fr_reg (id:Nat) (ops:Array Oper) (d:Bool):firstReg (.region id ops d)=id:=rfl
theorem k_fr_seq (a b:Code):firstReg (.seq a b)=firstReg a:=rfl
theorem k_fr_blk (i:Nat) (b:Code):firstReg (.block i b)=firstReg b:=rfl
theorem k_fr_loop (b:Code):firstReg (.loop b)=firstReg b:=rfl
theorem k_fr_scope (b:Code):firstReg (.scope b)=firstReg b:=rfl
theorem k_one_nil:oneOf []=.tup []:=rfl
theorem k_one_one (v:V):oneOf [v]=v:=rfl
theorem k_one_two (v w:V) (l:List V):oneOf (v::w::l)=.tup (v::w::l):=rfl
theorem k_ca_rpt (cs:List V) (o:Nat):cellsAt σ (.rpt cs o)=some (cs.drop o):=rfl
theorem k_ca_ptr (id o:Nat):cellsAt σ (.ptr id o)=match getM σ.M id with | some (.box _ cells)=>some (cells.drop o) | _=>none:=rfl
theorem k_ca_ept (id m k j:Nat):cellsAt σ (.ept id m k j)=match getM σ.M id with | some (.row _ m' _ rows)=>if m'=m then (match rows[k]? with | some r=>some (r.drop j) | none=>none) else none | some (.tab m' _ _ cells)=>if m'=m then some (cells.drop (k * m+j)) else none | _=>none:=rfl
theorem k_agd_struct (fs:Array Field):isAggD (.struct fs)=true:=rfl
theorem k_agd_array (n:Nat) (e:TypeId):isAggD (.array n e)=true:=rfl
theorem k_agd_int (k:IntKind):isAggD (.int k)=false:=rfl
theorem k_agd_bool:isAggD .bool=false:=rfl
theorem k_agd_str:isAggD .string=false:=rfl
theorem k_agd_slice (e:TypeId):isAggD (.slice e)=false:=rfl
theorem k_agd_ptr (e:TypeId):isAggD (.pointer e)=false:=rfl
theorem k_agd_func (a b:Array TypeId) (v:Bool):isAggD (.func a b v)=false:=rfl
theorem k_pure_move (x:Operand):isPure (.move x)=true:=rfl
theorem k_pure_assign (x:Operand):isPure (.assign x)=true:=rfl
theorem k_pure_pick (c:Operand) (a:Operand) (b:Operand):isPure (.pick c a b)=true:=rfl
theorem k_pure_alloc (t:TypeId):isPure (.alloc t)=true:=rfl
theorem k_pure_box (t:TypeId) (v:Operand):isPure (.box t v)=true:=rfl
theorem k_pure_build (t:TypeId) (ps:Array (Nat×Operand)):isPure (.build t ps)=true:=rfl
theorem k_pure_buildSlice (t:TypeId) (l:Nat) (ps:Array (Nat×Operand)):isPure (.buildSlice t l ps)=false:=rfl
theorem k_pure_load (t:TypeId) (a:Operand):isPure (.load t a)=false:=rfl
theorem k_pure_store (t:TypeId) (a:Operand) (v:Operand):isPure (.store t a v)=false:=rfl
theorem k_pure_nilCheck (x:Operand):isPure (.nilCheck x)=true:=rfl
theorem k_pure_binOp (op:BinOp) (t:TypeId) (x:Operand) (y:Operand) (t2:TypeId):isPure (.binOp op t x y t2)=true:=rfl
theorem k_pure_unOp (op:UnOp) (t:TypeId) (x:Operand):isPure (.unOp op t x)=false:=rfl
theorem k_pure_convert (s:TypeId) (d:TypeId) (x:Operand):isPure (.convert s d x)=false:=rfl
theorem k_pure_makeFunc (fn:Fn) (a:Array Operand) (b:Array Operand):isPure (.makeFunc fn a b)=true:=rfl
theorem k_pure_makeSlice (t:TypeId) (l:Operand) (c:Operand):isPure (.makeSlice t l c)=false:=rfl
theorem k_pure_slice (t:TypeId) (x:Operand) (lo:Option Operand) (hi:Option Operand) (m:Option Operand):isPure (.slice t x lo hi m)=false:=rfl
theorem k_pure_fieldAddr (t:TypeId) (x:Operand) (f:Nat):isPure (.fieldAddr t x f)=true:=rfl
theorem k_pure_field (t:TypeId) (x:Operand) (f:Nat):isPure (.field t x f)=true:=rfl
theorem k_pure_indexAddr (t:TypeId) (x:Operand) (i:Operand):isPure (.indexAddr t x i)=false:=rfl
theorem k_pure_index (t:TypeId) (x:Operand) (i:Operand):isPure (.index t x i)=true:=rfl
theorem k_pure_call (c:Call):isPure (.call c)=false:=rfl
theorem k_pure_extract (t:Operand) (i:Nat):isPure (.extract t i)=true:=rfl
theorem k_norm:Out.isNorm .norm=true:=rfl
theorem k_nret:Out.isNorm .ret=false:=rfl
theorem k_nex (i:Nat):Out.isNorm (.exit i)=false:=rfl
theorem k_ngo (i:Nat):Out.isNorm (.goto i)=false:=rfl
theorem k_put_nil (aq:List V) (F:List (Nat×V)):putAll [] aq F=F:=rfl
theorem k_put_cons (p:Nat) (ps:List Nat) (x:V) (xs:List V) (F:List (Nat×V)):putAll (p::ps) (x::xs) F=putAll ps xs ((p,x)::F):=rfl
theorem k_lenV_bsl (a b n:Nat):lenV σ (.bsl a b n)=some n:=rfl
theorem k_ids_bsl (id m n:Nat):V.ids (.bsl id m n)=[id]:=by simp only [V.ids]
theorem k_lend_bsl (id m n:Nat):lendV σ (.bsl id m n)=some ((.bsl id m n),[]):=by simp only [lendV]
theorem k_frz_ptr (id o:Nat):frz σ (.ptr id o)=none:=rfl
theorem k_frz_ept (id m k j:Nat):frz σ (.ept id m k j)=none:=rfl
theorem k_flat_bsl (id m n:Nat):flatV (.bsl id m n)=false:=rfl
theorem k_cells_bsl (id m n:Nat):cellsOf (.bsl id m n)=some [(.bsl id m n)]:=rfl
theorem k_flatO_box (t:TypeId) (cs:List V):flatO (.box t cs)=cs.all isPV:=rfl
theorem k_flatO_row (b:Bool) (m:Nat) (e:TypeId) (rows:List (List V)):flatO (.row b m e rows)=false:=rfl
theorem k_flatO_dead:flatO .dead=false:=rfl
theorem k_isPV_p (v:Value):isPV (.p v)=true:=rfl
theorem k_isPV_nil:isPV V.nil=false:=rfl
theorem k_isPV_sl (m:Nat) (rows:List (List V)):isPV (.sl m rows)=false:=rfl
theorem k_isPV_own (id:Nat):isPV (.own id)=false:=rfl
theorem k_isPV_cut (id m o n:Nat):isPV (.cut id m o n)=false:=rfl
theorem k_isPV_ptr (id o:Nat):isPV (.ptr id o)=false:=rfl
theorem k_isPV_ept (id m k j:Nat):isPV (.ept id m k j)=false:=rfl
theorem k_isPV_bsl (id m n:Nat):isPV (.bsl id m n)=false:=rfl
theorem k_isPV_fn (f:FuncId) (cs:List V):isPV (.fn f cs)=false:=rfl
theorem k_room_cut (σ:St) (id m off n len:Nat):roomV σ (.cut id m off n) len=(match getM σ.M id with | some (.row _ _ _ rows)=>max n (rows.length - off) | _=>n):=rfl
theorem k_room_own (σ:St) (id len:Nat):roomV σ (.own id) len=len:=rfl
theorem k_room_sl (σ:St) (m len:Nat) (rows:List (List V)):roomV σ (.sl m rows) len=len:=rfl
theorem k_room_nil (σ:St) (len:Nat):roomV σ .nil len=len:=rfl
theorem k_isCut_cut (id m off n:Nat):isCutV (.cut id m off n)=true:=rfl
theorem k_isCut_own (id:Nat):isCutV (.own id)=false:=rfl
theorem k_isCut_sl (m:Nat) (rows:List (List V)):isCutV (.sl m rows)=false:=rfl
theorem k_isCut_nil:isCutV V.nil=false:=rfl
theorem EK:(type_of% @k_room_cut)∧(type_of% @k_room_own)∧(type_of% @k_room_sl)∧(type_of% @k_room_nil)∧(type_of% @k_isCut_cut)∧(type_of% @k_isCut_own)∧(type_of% @k_isCut_sl)∧(type_of% @k_isCut_nil)∧(type_of% @k_flatO_box)∧(type_of% @k_flatO_row)∧(type_of% @k_flatO_dead)∧(type_of% @k_isPV_p)∧(type_of% @k_isPV_nil)∧(type_of% @k_isPV_sl)∧(type_of% @k_isPV_own)∧(type_of% @k_isPV_cut)∧(type_of% @k_isPV_ptr)∧(type_of% @k_isPV_ept)∧(type_of% @k_isPV_bsl)∧(type_of% @k_isPV_fn)∧(type_of% @k_lenV_bsl)∧(type_of% @k_ids_bsl)∧(type_of% @k_lend_bsl)∧(type_of% @k_frz_ptr)∧(type_of% @k_frz_ept)∧(type_of% @k_flat_bsl)∧(type_of% @k_cells_bsl)∧(type_of% @k_ofVal_int)∧(type_of% @k_ofVal_bool)∧(type_of% @k_ofVal_str)∧(type_of% @k_ofVal_nil)∧(type_of% @k_ofVal_ptr)∧(type_of% @k_ofVal_func)∧(type_of% @k_ofVal_nilf)∧(type_of% @k_ofVal_tup)∧(type_of% @k_ofVal_agg)∧(type_of% @k_ofVal1_int)∧(type_of% @k_ofVal1_bool)∧(type_of% @k_ofVal1_str)∧(type_of% @k_ofVal1_nil)∧(type_of% @k_ofVal1_ptr)∧(type_of% @k_ofVal1_func)∧(type_of% @k_ofCell_int)∧(type_of% @k_ofCell_bool)∧(type_of% @k_ofCell_str)∧(type_of% @k_ofCell_nil)∧(type_of% @k_ofCell_ptr)∧(type_of% @k_ofCell_func)∧(type_of% @k_lenV_nil)∧(type_of% @k_lenV_sl)∧(type_of% @k_lenV_own)∧(type_of% @k_lenV_cut)∧(type_of% @k_aggEq_eql)∧(type_of% @k_aggEq_neq)∧(type_of% @k_cellEq_int)∧(type_of% @k_cellEq_bool)∧(type_of% @k_cellEq_str)∧(type_of% @k_ib_add)∧(type_of% @k_ib_sub)∧(type_of% @k_ib_mul)∧(type_of% @k_ib_quo)∧(type_of% @k_ib_rem)∧(type_of% @k_ib_and)∧(type_of% @k_ib_or)∧(type_of% @k_ib_xor)∧(type_of% @k_ib_andNot)∧(type_of% @k_ib_eql)∧(type_of% @k_ib_neq)∧(type_of% @k_ib_lss)∧(type_of% @k_ib_leq)∧(type_of% @k_ib_gtr)∧(type_of% @k_ib_geq)∧(type_of% @k_sh_add)∧(type_of% @k_sh_sub)∧(type_of% @k_sh_mul)∧(type_of% @k_sh_quo)∧(type_of% @k_sh_rem)∧(type_of% @k_sh_and)∧(type_of% @k_sh_or)∧(type_of% @k_sh_xor)∧(type_of% @k_sh_shl)∧(type_of% @k_sh_shr)∧(type_of% @k_sh_andNot)∧(type_of% @k_sh_eql)∧(type_of% @k_sh_neq)∧(type_of% @k_sh_lss)∧(type_of% @k_sh_leq)∧(type_of% @k_sh_gtr)∧(type_of% @k_sh_geq)∧(type_of% @k_ids_p)∧(type_of% @k_ids_nil)∧(type_of% @k_ids_sl)∧(type_of% @k_ids_rpt)∧(type_of% @k_ids_own)∧(type_of% @k_ids_cut)∧(type_of% @k_ids_ptr)∧(type_of% @k_ids_ept)∧(type_of% @k_ids_agg)∧(type_of% @k_ids_tup)∧(type_of% @k_ids_fn)∧(type_of% @k_ids_yld)∧(type_of% @k_ids_bad)∧(type_of% @k_lend_p)∧(type_of% @k_lend_nil)∧(type_of% @k_lend_sl)∧(type_of% @k_lend_rpt)∧(type_of% @k_lend_own)∧(type_of% @k_lend_cut)∧(type_of% @k_lend_ptr)∧(type_of% @k_lend_ept)∧(type_of% @k_lend_agg)∧(type_of% @k_lend_tup)∧(type_of% @k_lend_fn)∧(type_of% @k_lend_yld)∧(type_of% @k_frz_p)∧(type_of% @k_frz_nil)∧(type_of% @k_frz_sl)∧(type_of% @k_frz_own)∧(type_of% @k_frz_cut)∧(type_of% @k_flat_p)∧(type_of% @k_flat_nil)∧(type_of% @k_flat_sl)∧(type_of% @k_flat_rpt)∧(type_of% @k_flat_own)∧(type_of% @k_flat_cut)∧(type_of% @k_flat_ptr)∧(type_of% @k_flat_ept)∧(type_of% @k_flat_agg)∧(type_of% @k_flat_tup)∧(type_of% @k_flat_fn)∧(type_of% @k_flat_yld)∧(type_of% @k_flat_bad)∧(type_of% @k_cells_p)∧(type_of% @k_cells_nil)∧(type_of% @k_cells_sl)∧(type_of% @k_cells_rpt)∧(type_of% @k_cells_own)∧(type_of% @k_cells_cut)∧(type_of% @k_cells_ptr)∧(type_of% @k_cells_ept)∧(type_of% @k_cells_agg)∧(type_of% @k_cells_fn)∧(type_of% @k_cells_yld)∧(type_of% @k_off_rpt)∧(type_of% @k_off_ptr)∧(type_of% @k_off_ept)∧(type_of% @k_fr_reg)∧(type_of% @k_fr_seq)∧(type_of% @k_fr_blk)∧(type_of% @k_fr_loop)∧(type_of% @k_fr_scope)∧(type_of% @k_one_nil)∧(type_of% @k_one_one)∧(type_of% @k_one_two)∧(type_of% @k_ca_rpt)∧(type_of% @k_ca_ptr)∧(type_of% @k_ca_ept)∧(type_of% @k_agd_struct)∧(type_of% @k_agd_array)∧(type_of% @k_agd_int)∧(type_of% @k_agd_bool)∧(type_of% @k_agd_str)∧(type_of% @k_agd_slice)∧(type_of% @k_agd_ptr)∧(type_of% @k_agd_func)∧(type_of% @k_pure_move)∧(type_of% @k_pure_assign)∧(type_of% @k_pure_pick)∧(type_of% @k_pure_alloc)∧(type_of% @k_pure_box)∧(type_of% @k_pure_build)∧(type_of% @k_pure_buildSlice)∧(type_of% @k_pure_load)∧(type_of% @k_pure_store)∧(type_of% @k_pure_nilCheck)∧(type_of% @k_pure_binOp)∧(type_of% @k_pure_unOp)∧(type_of% @k_pure_convert)∧(type_of% @k_pure_makeFunc)∧(type_of% @k_pure_makeSlice)∧(type_of% @k_pure_slice)∧(type_of% @k_pure_fieldAddr)∧(type_of% @k_pure_field)∧(type_of% @k_pure_indexAddr)∧(type_of% @k_pure_index)∧(type_of% @k_pure_call)∧(type_of% @k_pure_extract)∧(type_of% @k_norm)∧(type_of% @k_nret)∧(type_of% @k_nex)∧(type_of% @k_ngo)∧(type_of% @k_put_nil)∧(type_of% @k_put_cons) :=
 ⟨@k_room_cut,@k_room_own,@k_room_sl,@k_room_nil,@k_isCut_cut,@k_isCut_own,@k_isCut_sl,@k_isCut_nil,@k_flatO_box,@k_flatO_row,@k_flatO_dead,@k_isPV_p,@k_isPV_nil,@k_isPV_sl,@k_isPV_own,@k_isPV_cut,@k_isPV_ptr,@k_isPV_ept,@k_isPV_bsl,@k_isPV_fn,@k_lenV_bsl,@k_ids_bsl,@k_lend_bsl,@k_frz_ptr,@k_frz_ept,@k_flat_bsl,@k_cells_bsl,@k_ofVal_int,@k_ofVal_bool,@k_ofVal_str,@k_ofVal_nil,@k_ofVal_ptr,@k_ofVal_func,@k_ofVal_nilf,@k_ofVal_tup,@k_ofVal_agg,@k_ofVal1_int,@k_ofVal1_bool,@k_ofVal1_str,@k_ofVal1_nil,@k_ofVal1_ptr,@k_ofVal1_func,@k_ofCell_int,@k_ofCell_bool,@k_ofCell_str,@k_ofCell_nil,@k_ofCell_ptr,@k_ofCell_func,@k_lenV_nil,@k_lenV_sl,@k_lenV_own,@k_lenV_cut,@k_aggEq_eql,@k_aggEq_neq,@k_cellEq_int,@k_cellEq_bool,@k_cellEq_str,@k_ib_add,@k_ib_sub,@k_ib_mul,@k_ib_quo,@k_ib_rem,@k_ib_and,@k_ib_or,@k_ib_xor,@k_ib_andNot,@k_ib_eql,@k_ib_neq,@k_ib_lss,@k_ib_leq,@k_ib_gtr,@k_ib_geq,@k_sh_add,@k_sh_sub,@k_sh_mul,@k_sh_quo,@k_sh_rem,@k_sh_and,@k_sh_or,@k_sh_xor,@k_sh_shl,@k_sh_shr,@k_sh_andNot,@k_sh_eql,@k_sh_neq,@k_sh_lss,@k_sh_leq,@k_sh_gtr,@k_sh_geq,@k_ids_p,@k_ids_nil,@k_ids_sl,@k_ids_rpt,@k_ids_own,@k_ids_cut,@k_ids_ptr,@k_ids_ept,@k_ids_agg,@k_ids_tup,@k_ids_fn,@k_ids_yld,@k_ids_bad,@k_lend_p,@k_lend_nil,@k_lend_sl,@k_lend_rpt,@k_lend_own,@k_lend_cut,@k_lend_ptr,@k_lend_ept,@k_lend_agg,@k_lend_tup,@k_lend_fn,@k_lend_yld,@k_frz_p,@k_frz_nil,@k_frz_sl,@k_frz_own,@k_frz_cut,@k_flat_p,@k_flat_nil,@k_flat_sl,@k_flat_rpt,@k_flat_own,@k_flat_cut,@k_flat_ptr,@k_flat_ept,@k_flat_agg,@k_flat_tup,@k_flat_fn,@k_flat_yld,@k_flat_bad,@k_cells_p,@k_cells_nil,@k_cells_sl,@k_cells_rpt,@k_cells_own,@k_cells_cut,@k_cells_ptr,@k_cells_ept,@k_cells_agg,@k_cells_fn,@k_cells_yld,@k_off_rpt,@k_off_ptr,@k_off_ept,@k_fr_reg,@k_fr_seq,@k_fr_blk,@k_fr_loop,@k_fr_scope,@k_one_nil,@k_one_one,@k_one_two,@k_ca_rpt,@k_ca_ptr,@k_ca_ept,@k_agd_struct,@k_agd_array,@k_agd_int,@k_agd_bool,@k_agd_str,@k_agd_slice,@k_agd_ptr,@k_agd_func,@k_pure_move,@k_pure_assign,@k_pure_pick,@k_pure_alloc,@k_pure_box,@k_pure_build,@k_pure_buildSlice,@k_pure_load,@k_pure_store,@k_pure_nilCheck,@k_pure_binOp,@k_pure_unOp,@k_pure_convert,@k_pure_makeFunc,@k_pure_makeSlice,@k_pure_slice,@k_pure_fieldAddr,@k_pure_field,@k_pure_indexAddr,@k_pure_index,@k_pure_call,@k_pure_extract,@k_norm,@k_nret,@k_nex,@k_ngo,@k_put_nil,@k_put_cons⟩
theorem oids_tab {m n:Nat} {e:TypeId} {cs:List V}:O.ids (.tab m e n cs)=V.idsL cs:=rfl
theorem oren_tab {f:Nat→Nat} {m n:Nat} {e:TypeId} {cs:List V}:O.ren f (.tab m e n cs)=.tab m e n (V.renL f cs):=rfl
theorem odead_tab {m n:Nat} {e:TypeId} {cs:List V}:O.isDead (.tab m e n cs)=false:=rfl
theorem flatO_tab {m n:Nat} {e:TypeId} {cs:List V}:flatO (.tab m e n cs)=false:=rfl
theorem tabOf_row {m:Nat} {e:TypeId} {rows:List (List V)}:tabOf (.row true m e rows)=some (m,e,rows.length,rows.flatten):=rfl
theorem tabOf_tab {m n:Nat} {e:TypeId} {cs:List V}:tabOf (.tab m e n cs)=some (m,e,n,cs):=rfl
theorem k_ids_coin:V.ids V.coin=[]:=by simp only [V.ids]
theorem k_ren_coin {f:Nat→Nat}:V.ren f V.coin=.coin:=by simp only [V.ren]
theorem coinS_eq {c d:Nat}:coinS σ c d=if c<σ.n∧d<σ.n∧(getM σ.M c).isNone then some { σ with F:=(d,.coin)::(c,.ptr c 0)::σ.F,M:=(c,.dead)::σ.M } else none:=rfl
theorem joinR_same {o:Out} {σ1 σ2 τ:St} (h1:keepCanon (σ1.F.map (·.1)) σ1=some τ) (h2:keepCanon (σ2.F.map (·.1)) σ2=some τ):joinR (some (o,σ1)) (some (o,σ2))=some (o,τ):=by simp [joinR,h1,h2]
theorem ET:(type_of% @oids_tab)∧(type_of% @oren_tab)∧(type_of% @odead_tab)∧(type_of% @flatO_tab)∧(type_of% @tabOf_row)∧(type_of% @tabOf_tab)∧(type_of% @List.flatten_cons.{0})∧(type_of% @List.flatten_nil.{0}):=⟨@oids_tab,@oren_tab,@odead_tab,@flatO_tab,@tabOf_row,@tabOf_tab,@List.flatten_cons.{0},@List.flatten_nil.{0}⟩
theorem NM:(type_of% @rowsOf_nil)∧(type_of% @List.nil_append.{0})∧(type_of% @rowsOf_append)∧(type_of% @rowsOf_take)∧(type_of% @rowsOf_drop)∧(type_of% @rowsOf_length):=⟨@rowsOf_nil,@List.nil_append.{0},@rowsOf_append,@rowsOf_take,@rowsOf_drop,@rowsOf_length⟩
theorem ED:(type_of% @rangeA_some)∧(type_of% @getF_miss)∧(type_of% @getM_miss)∧(type_of% @flatEq_cons)∧(type_of% @flatEq0_cons)∧(type_of% @drawK_some)∧(type_of% @ev_draws):=⟨@rangeA_some,@getF_miss,@getM_miss,@flatEq_cons,@flatEq0_cons,@drawK_some,@ev_draws⟩
theorem E:(type_of% EA)∧(type_of% EG)∧(type_of% EF)∧(type_of% EK)∧(type_of% ED):=⟨EA,EG,EF,EK,ED⟩
end
end Go.Proofs.YtlelaenalbkbmaaDoorV