/- slices.Clone and bytes.Clone: an answer in memory of its own,whatever slice comes in,nil or not. -/
import Derived.Test.YtlelaenalbkbmaaDoorHVi23
import Derived.WalkSpells
import Derived.Lib.LazyBuf
namespace Go.Proofs.YtlelaenalbkbmaaDoorV
open Go Go.RowKit
set_option linter.unusedVariables false
set_option linter.unusedSimpArgs false
def cloneS (m:Nat) (e:TypeId) (bytes:Nat):List V→List O→Option (V×List O×List O)
 | [.sl m' rows],[]=>if m'=m∧rows.length * bytes≤roomy then some (.own RetB,[],[.row true m e rows]) else none
 | [.nil],[]=>some (.own RetB,[],[.row true m e []])
 | _,_=>none
def cloneBody (t:TypeId) (p0 p1 p2 p3:String) (b:TypeId) (e2:Array Edge):Code :=
 .seq (.region 0 #[⟨some 2,.assign (.const (.slice none 0 0)),t,p0,#[],none⟩] false)
  (.seq (.seq (.region 1 #[⟨some 3,.move (.tmp 0),t,p1,#[],none⟩,⟨some 4,.binOp .eql t (.tmp 3) (.const (.slice none 0 0)) t,b,p1,#[⟨0,.data⟩],none⟩] false)
   (.cond (.tmp 4) (.seq (.region 2 #[⟨some 2,.assign (.const (.slice none 0 0)),t,p2,#[],none⟩] false) .ret) .skip))
   (.seq (.region 3 #[⟨some 5,.buildSlice t 0 #[],t,p3,#[],none⟩,⟨some 6,.move (.tmp 0),t,p3,#[],none⟩,
    ⟨some 7,.call { callee:=.builtin .append,args:=#[.tmp 5,.tmp 6],argTypes:=#[t,t] },t,p3,#[⟨0,.data⟩,⟨1,.data⟩],none⟩,⟨some 2,.assign (.tmp 7),t,p3,e2,none⟩] false) .ret))
section
variable {P:Program}
def nh:Hints:={ gives:=fun _=>false,keep:=fun _ _=>none,head:=fun _ _=>none,canon:=fun _ _=>[],frz:=fun _ _=>[],soft:=fun _ _=>[] }
theorem post_nil {w:World} {fp:Nat→Prop} {B:Base} (hB:B.k=0) {m:Nat} (hm:0<m) {e:TypeId} {en:Ending} {w':World} (h:Post w fp B .nil [] [] en w'):Post w fp B (.own RetB) [] [.row true m e []] en w':=by
 obtain ⟨v',β',S',rfl,h2,h3,I⟩:=h
 have hv:=I.slots 0
 simp only [outSt,getF,if_true] at hv
 have hv:v'=.slice none 0 0:=by simpa using rep_nil hv
 subst hv
 have hr:Rep w' (upd β' RetB (.slice none 0 0)) S' (.own RetB) (.slice none 0 0):=by
  have:=Rep.own (w:=w') (β:=upd β' RetB (.slice none 0 0)) (S:=S') RetB (by rw [upd_same];rfl)
  rwa [upd_same] at this
 have U:UpdOk w fp (outSt .nil [] []) w' β' S' (.own RetB) [(RetB,.row true m e [])] (.slice none 0 0) w' (upd β' RetB (.slice none 0 0)) S' :=
  UpdOk.create I (by simp [outSt,idxs,getM]) (o:=.row true m e []) (hv:=.slice none 0 0) rfl rfl rfl (Nat.le_refl _) (fun _ _=>rfl) (fun g hg=>by cases hg) rfl ⟨hm,by simp,[],by rw [upd_same];exact World.ownsRow_nil w' 0 e m,by simp,by simp⟩ (fun id hid=>by cases hid) hr (fun id hid=>.inl (by simpa [V.ids] using hid))
 have I2:=I.upd U (dst:=some 0) rfl
 refine ⟨.slice none 0 0,upd β' RetB (.slice none 0 0),S',rfl,h2,h3,?_⟩
 have:(⟨#[.slice none 0 0],[]⟩:Act).put (some 0) (.slice none 0 0)=⟨#[.slice none 0 0],[]⟩:=rfl
 rw [this] at I2
 refine I2.eqv ⟨rfl,fun t => ?_,fun id => ?_⟩
 ·simp only [outSt,St.put,getF]
  split<;>rfl
 ·simp [outSt,St.put,idxs,getM]
theorem wl {ops:Array Oper} {Q:Exit→Act→World→Prop} {o:Oper} {rest:List Oper} {a:Act} {w:World} (hg:o.guard=none) {v:Value} (hr:(execOp a.eval o).run P w=.ok (.value v) w) (h:wpList P ops Q rest (a.put o.dst v) w):wpList P ops Q (o::rest) a w:=by
 unfold wpList
 rw [if_pos (by simp [Region.wanted,hg])]
 refine .inl ?_
 unfold Oper.wp
 rw [hr]
 exact h
theorem clone_ok (hm : P.follows .mixedOrders = true) {f : FuncId} {fn : Func} {t e b : TypeId} {i : TypeInfo} {z : List V} {p0 p1 p2 p3 : String} {e2 : Array Edge} (hfn : P.funcs[f]? = some fn) (hb : fn.body = some (cloneBody t p0 p1 p2 p3 b e2)) (hname : fn.name ≠ "runtime.NumGoroutine") (hn : fn.ntmps = 8) (hres : fn.results = #[.tmp 2])
  (ht:P.underlying t=some (.slice e)) (hi:P.info? e=some i) (hz:zeroRow i=some z):∀ args exts r exts' news,cloneS i.size e i.bytes args exts=some (r,exts',news) →
  FnOk P f∧∀ (w:World) (fp S:Nat→Prop) (β:Nat→Value) (vals:Array Value),vals.size=args.length→exts.length<1000000 →
   Inv w fp (baseOf S β exts.length) (inSt args exts vals.size) ⟨vals,[]⟩ w β S→Calls P f vals w (Post w fp (baseOf S β exts.length) r exts' news):=by
 intro args exts r exts' news hc
 refine ⟨⟨fn,hfn,hname,by rw [hb];rfl⟩,fun w fp S β vals hl hlt I => ?_⟩
 have hel:elemI P t=some (e,i):=by simp [elemI,ht,hi]
 obtain ⟨zv,_,_,h3,_,_,_⟩:=zeroRow_ok hz
 have hcall:CallOk P (callV P (fun _=>none) nh 0):=fun f args exts r exts' news hc=>by simp only [callV] at hc;cases hc
 have run:∀ (c:Code) (σ:St) (out:Out) (σ':St),exec P (callV P (fun _=>none) nh 0) nh 0 0 none c σ=some (out,σ')→∀ {w0:World} {fp:Nat→Prop} {S0:Base} (a:Act) (w:World) (β:Nat→Value) (S:Nat→Prop),Inv w0 fp S0 σ a w β S→c.wp P (XPost w0 fp S0 out σ') a w :=
  fun c σ out σ' he w0 fp S0 a w β S I=>(wpIn_wide (n:=0)).1 ((exec_ok hcall hm (ro:=none) (n0:=0) c (.inl rfl)).1 σ out σ' he a w β S I)
 have main:∀ (x:V) (rows:List (List V)),(x=.nil∧rows=[]∨x=.sl i.size rows∧rows.length * i.bytes≤roomy)→args=[x]→exts=[]→Calls P f vals w (Post w fp (baseOf S β 0) (.own RetB) [] [.row true i.size e rows]):=by
  rintro x rows hx rfl rfl
  refine (callsIn_wide (n:=0)).1 (callsIn_of_wp_marks (F:=Fence.wide) hfn hb trivial ((wpIn_wide (n:=0)).2 ?_))
  rw [hn]
  have hvs:vals.size=1:=by simpa using hl
  obtain ⟨v0,rfl⟩:∃ v0,vals = #[v0]:=by
   obtain ⟨l⟩:=vals
   cases l with
   | nil=>simp at hvs
   | cons q r =>
     have:r=[]:=List.eq_nil_of_length_eq_zero (by simpa using hvs)
     subst this
     exact ⟨q,rfl⟩
  have hv0:=I.slots 0
  simp only [inSt,params,getF,if_true] at hv0
  have hv0:Rep w β S x v0:=by simpa using hv0
  have hxd:RepD w S x v0:=by
   rcases hx with ⟨rfl,_⟩ | ⟨rfl,_⟩<;>cases hv0 with
   | d h=>exact h
  obtain ⟨a,n,c,hsl,hemp⟩:∃ a n c,v0=.slice a n c∧(a=none→rows=[]):=by
   rcases hx with ⟨rfl,rfl⟩ | ⟨rfl,_⟩
   ·cases hxd;exact ⟨_,_,_,rfl,fun _=>rfl⟩
   ·cases hxd with
    | sl0=>exact ⟨_,_,_,rfl,fun _=>rfl⟩
    | sl=>exact ⟨_,_,_,rfl,fun h=>by cases h⟩
  have hids:x.ids=[]:=by rcases hx with ⟨rfl,_⟩ | ⟨rfl,_⟩<;>simp [V.ids]
  have I0:Inv w fp (baseOf S β 0) { n:=8,F:=[(0,x)],M:=[] } { tmps:=#[v0]++Array.replicate (8 - #[v0].size) undef,defers:=[] } w β S:=by
   refine { defers:=Marks.nil,size:=by simp,slots:=fun q => ?_,objs:=fun id o h=>(by cases h),own:=fun id o g h=>(by cases h),fro:=fun id m e rows g h=>(by cases h),inj:=fun i j o o' g h=>(by cases h),closedF:=fun q id hid => ?_,closedM:=fun i o h=>(by cases h),Slt:=I.Slt,S0S:=I.S0S,SIn:=I.SIn,ext:=fun i hi=>(by cases hi),os:=I.os,tape:=I.tape,output:=I.output,grow:=I.grow,kept:=I.kept,laid:=I.laid }
   ·simp only [getF]
    split
    ·rename_i e;subst e;simpa using hv0
    ·exact .bad _
   ·simp only [getF] at hid
    split at hid
    ·rw [hids] at hid;cases hid
    ·simp [V.ids] at hid
  have norm:∀ {σ1:St} {e:Exit} {a1:Act} {w1:World} {K:Act→World→Prop} {Q:Exit→Act→World→Prop},XPost w fp (baseOf S β 0) .norm σ1 e a1 w1→(∀ β1 S1,Inv w fp (baseOf S β 0) σ1 a1 w1 β1 S1→K a1 w1)→Exit.then K Q e a1 w1:=by
   intro σ1 e a1 w1 K Q hx hk
   cases e with
   | normal=>obtain ⟨_,β1,S1,I1⟩:=hx;exact hk β1 S1 I1
   | exit _=>obtain ⟨h,_⟩:=hx;cases h
   | goto _=>obtain ⟨h,_⟩:=hx;cases h
   | ret=>obtain ⟨h,_⟩:=hx;cases h
   | panic _=>exact hx.elim
   | outgrown=>exact hx.elim
  have U1:=I0.upd (UpdOk.pure I0 (v:=.nil) (v':=.slice none 0 0) (.d .nil) (by simp [V.ids])) (dst:=some 2) rfl
  have U2:=U1.upd (UpdOk.pure U1 (v:=x) (v':=v0) (.d hxd) (by rw [hids];simp)) (dst:=some 3) rfl
  have U3:=U2.upd (UpdOk.pure U2 (v:=.p (.bool a.isNone)) (v':=.bool a.isNone) (.d (.p _)) (by simp [V.ids])) (dst:=some 4) rfl
  generalize hA0:({ tmps:=#[v0]++Array.replicate (8 - #[v0].size) undef,defers:=[] }:Act)=A0 at *
  have g0:A0.eval (.tmp 0)=v0:=by subst hA0;rfl
  have g1:(A0.put (some 2) (.slice none 0 0)).eval (.tmp 0)=v0:=by subst hA0;rfl
  have g2:((A0.put (some 2) (.slice none 0 0)).put (some 3) v0).eval (.tmp 3)=v0:=by subst hA0;rfl
  unfold cloneBody
  refine wp_seq (wp_region_list (wl rfl (v:=.slice none 0 0) rfl ?_))
  show (Code.seq _ _).wp P _ (A0.put (some 2) (.slice none 0 0)) w
  refine wp_seq (wp_seq (wp_region_list (wl rfl (v:=v0) (by simp only [execOp,g1];rfl) (wl rfl (v:=.bool a.isNone) ?_ ?_))))
  ·exact binOp_exec (x:=.tmp 3) (y:=.const (.slice none 0 0)) rfl (by show (eqGuard _ _ _ _ _ (Value.slice none 0 0)).run P w=_;rw [g2,hsl];rfl) (by show (binOp _ _ _ (Value.slice none 0 0)).run P w=_;rw [g2,hsl];exact Lib.run_eql_slice_nil w t e a n c 0 0 ht)
  show (Code.cond _ _ _).wp P _ (((A0.put (some 2) (.slice none 0 0)).put (some 3) v0).put (some 4) (.bool a.isNone)) w
  cases hnil:a.isNone with
  | true =>
    rw [hnil] at U3
    have he:rows=[]:=hemp (by simpa using hnil)
    subst he
    have hx1:exec P (callV P (fun _=>none) nh 0) nh 0 0 none (.cond (.tmp 4) (.seq (.region 2 #[⟨some 2,.assign (.const (.slice none 0 0)),t,p2,#[],none⟩] false) .ret) .skip) (((({ n:=8,F:=[(0,x)],M:=[] }:St).put (some 2) .nil []).put (some 3) x []).put (some 4) (.p (.bool true)) [])=some (.ret,(((({ n:=8,F:=[(0,x)],M:=[] }:St).put (some 2) .nil []).put (some 3) x []).put (some 4) (.p (.bool true)) []).put (some 2) .nil []):=by
     simp [exec,coinF,execOps,stepG,guardOn,step,evalV,getF,ofVal,ofVal1,ofCell,St.put,dstOk,endR,frzAll,softAll,normR,nh]
    refine wp_mono (run _ _ _ _ hx1 _ w _ _ U3) fun e1 a1 w1 hq => ?_
    cases e1 with
    | ret =>
      obtain ⟨_,β1,S1,I1⟩:=hq
      have hfin:finish P fn 0 ((((({ n:=8,F:=[(0,x)],M:=[] }:St).put (some 2) .nil []).put (some 3) x []).put (some 4) (.p (.bool true)) []).put (some 2) .nil [])=some (.nil,[],[]):=by
       simp [finish,finishR,hres,resV,oneOf,St.put,getF,V.ids,reach,objsOf,nodupB,V.ren]
      refine marks_okR (fun w' I' => ?_) _ _ I1
      obtain ⟨v,h4,h5⟩:=finish_ok (k:=0) rfl (by decide) I' hfin
      exact ⟨v,h4,post_nil rfl h3 h5⟩
    | normal=>obtain ⟨h,_⟩:=hq;cases h
    | exit _=>obtain ⟨h,_⟩:=hq;cases h
    | goto _=>obtain ⟨h,_⟩:=hq;cases h
    | panic _=>exact hq.elim
    | outgrown=>exact hq.elim
  | false =>
    rw [hnil] at U3
    have hx1:exec P (callV P (fun _=>none) nh 0) nh 0 0 none (.cond (.tmp 4) (.seq (.region 2 #[⟨some 2,.assign (.const (.slice none 0 0)),t,p2,#[],none⟩] false) .ret) .skip) (((({ n:=8,F:=[(0,x)],M:=[] }:St).put (some 2) .nil []).put (some 3) x []).put (some 4) (.p (.bool false)) [])=some (.norm,(((({ n:=8,F:=[(0,x)],M:=[] }:St).put (some 2) .nil []).put (some 3) x []).put (some 4) (.p (.bool false)) [])):=by
     simp [exec,evalV,getF,St.put]
    refine wp_mono (run _ _ _ _ hx1 _ w _ _ U3) fun e1 a1 w1 hq=>norm hq fun β1 S1 I1 => ?_
    have hcont:∀ σ,content σ i.size x=some rows:=fun σ=>by
     rcases hx with ⟨rfl,rfl⟩ | ⟨rfl,_⟩<;>simp [content]
    have hroom:rows.length * i.bytes≤roomy:=by
     rcases hx with ⟨_,rfl⟩ | ⟨_,h⟩
     ·simp
     ·exact h
    have hx2:exec P (callV P (fun _=>none) nh 0) nh 0 0 none (.seq (.region 3 #[⟨some 5,.buildSlice t 0 #[],t,p3,#[],none⟩,⟨some 6,.move (.tmp 0),t,p3,#[],none⟩,
     ⟨some 7,.call { callee:=.builtin .append,args:=#[.tmp 5,.tmp 6],argTypes:=#[t,t] },t,p3,#[⟨0,.data⟩,⟨1,.data⟩],none⟩,⟨some 2,.assign (.tmp 7),t,p3,e2,none⟩] false) .ret) (((({ n:=8,F:=[(0,x)],M:=[] }:St).put (some 2) .nil []).put (some 3) x []).put (some 4) (.p (.bool false)) []) =
     some (.ret,{ n:=8,F:=[(2,.own 7),(7,.own 7),(6,x),(5,.own 5),(4,.p (.bool false)),(3,x),(2,.nil),(0,x)],M:=[(7,.row true i.size e rows),(5,.dead),(5,.row true i.size e [])] }):=by
     simp [exec,coinF,execOps,stepG,guardOn,step,evalV,getF,ofVal,ofVal1,ofCell,St.put,dstOk,endR,frzAll,softAll,normR,nh,buildSliceV,hel,hz,getM,fillRows,appendV,hcont,hroom]
    refine wp_mono (run _ _ _ _ hx2 _ w1 _ _ I1) fun e2 a2 w2 hq => ?_
    cases e2 with
    | ret =>
      obtain ⟨_,β2,S2,I2⟩:=hq
      have hfin:finish P fn 0 { n:=8,F:=[(2,.own 7),(7,.own 7),(6,x),(5,.own 5),(4,.p (.bool false)),(3,x),(2,.nil),(0,x)],M:=[(7,.row true i.size e rows),(5,.dead),(5,.row true i.size e [])] }=some (.own RetB,[],[.row true i.size e rows]):=by
       simp [finish,finishR,hres,resV,oneOf,getF,V.ids,reach,objsOf,nodupB,V.ren,getM,O.ids,O.ren,O.isDead,toIdx,idxOf,ExtB]
      exact marks_ok (k:=0) rfl (by decide) hfin _ _ I2
    | normal=>obtain ⟨h,_⟩:=hq;cases h
    | exit _=>obtain ⟨h,_⟩:=hq;cases h
    | goto _=>obtain ⟨h,_⟩:=hq;cases h
    | panic _=>exact hq.elim
    | outgrown=>exact hq.elim
 unfold cloneS at hc
 split at hc<;>try (cases hc;done)
 ·rename_i m' rows
  split at hc<;>try (cases hc;done)
  rename_i hcd
  obtain ⟨rfl,hroom⟩:=hcd
  cases hc
  exact main _ rows (.inr ⟨rfl,hroom⟩) rfl rfl
 ·cases hc
  exact main .nil [] (.inl ⟨rfl,rfl⟩) rfl rfl
#print axioms clone_ok
end
end Go.Proofs.YtlelaenalbkbmaaDoorV