/- The tables of unicode/utf8,as the rows lay them,are what the interpreter reads. -/
import Derived.Test.YtlelaenalbkbmaaDoorHVi23
import Derived.Test.YtlelaenalbkbmaaDoorProg
import Derived.Lib.LaidU8T
import Derived.PinnedBridge
import Derived.MakeChecks
namespace Go.Proofs.YtlelaenalbkbmaaDoorV
open Go
theorem layCells {W:World} {g:Nat} {l:List Int} (hl:0<l.length) (h:∀ (j:Nat) x,l[j]?=some x→W.cell? ⟨g,j,none⟩=some (.int .u8 x)) :
  V.idsL (l.map fun n=>V.p (.int .u8 n))=[]∧∀ β,Rep W β (fun b=>b<W.heap.size) (.rpt (l.map fun n=>V.p (.int .u8 n)) 0) (.pointer (some ⟨g,0,none⟩)):=by
 refine ⟨?_,fun β => ?_⟩
 ·clear h hl
  induction l with
  | nil=>rfl
  | cons a r ih=>simp only [List.map_cons,V.idsL,V.ids,ih,List.append_nil]
 ·have h0:=h 0 _ (List.getElem?_eq_getElem hl)
  have hb:g<W.heap.size:=Nat.lt_of_not_le fun hge=>by
   rw [World.cell?,Array.getElem?_eq_none hge] at h0
   cases h0
  refine Rep.rpt _ 0 g 0 (fun j=>.int .u8 (l.getD j 0)) hb (fun j x hj => ?_) (fun j x hj=>rfl) (fun j x hj => ?_)
  ·obtain ⟨n,hn,rfl⟩:=Option.map_eq_some_iff.1 ((List.getElem?_map ..).symm.trans hj)
   rw [Nat.zero_add,h j n hn,List.getD_eq_getElem?_getD,hn];rfl
  ·obtain ⟨n,hn,rfl⟩:=Option.map_eq_some_iff.1 ((List.getElem?_map ..).symm.trans hj)
   simp only [List.getD_eq_getElem?_getD,hn,Option.getD_some]
   exact .p _
theorem layRep {W:World} (hT:Lib.Utf8Tabs 0 1 W):∀ g cs,lay g=some cs→V.idsL cs=[]∧∀ β,Rep W β (fun b=>b<W.heap.size) (.rpt cs 0) ((⟨#[],[]⟩:Act).eval (.global g)):=by
 intro g cs h
 unfold lay at h
 split at h
 ·rename_i hg
  subst hg
  cases h
  refine layCells (by simp [tabFirst]) fun j x hj => ?_
  obtain ⟨hlt,he⟩:=List.getElem?_eq_some_iff.1 hj
  have hlt':j<256:=by simpa [tabFirst] using hlt
  have hx:x=(Lib.firstT j:Int):=by rw [←he];simp [tabFirst]
  rw [hx]
  exact hT.1 j hlt'
 ·split at h
  ·rename_i hg
   subst hg
   cases h
   refine layCells (by simp [tabAcc]) fun j x hj => ?_
   obtain ⟨hlt,he⟩:=List.getElem?_eq_some_iff.1 hj
   have hlt':j<32:=by simpa [tabAcc] using hlt
   have hx:x=(if j % 2=0 then (Lib.accLo (j / 2):Int) else (Lib.accHi (j / 2):Int)):=by rw [←he];simp [tabAcc]
   have h2:=hT.2 (j / 2) (by omega)
   rw [hx]
   by_cases hj2:j % 2=0
   ·rw [if_pos hj2]
    have e:2 * (j / 2)=j:=by omega
    rw [e] at h2
    exact h2.1
   ·rw [if_neg hj2]
    have e:2 * (j / 2)+1=j:=by omega
    rw [e] at h2
    exact h2.2
  ·cases h
def rhoU:Shelf.Ren:=⟨fun x=>x,fun t=>if t=5 then 5 else if t=119 then 81 else if t=138 then 83 else 84,fun g=>if g=3 then 0 else 1⟩
theorem tabsOf {W : World} {laid : List (String × DataW Unit)} (hL : laidMetH Tryd.prog laid W) (hp : (laid.all fun x => x.2.handleName?.isNone) = true) (h1 : ("unicode/utf8.first", Pinned.utf8First) ∈ laid) (h2 : ("unicode/utf8.acceptRanges", Lib.acceptData) ∈ laid) : Lib.Utf8Tabs 0 1 W := by
 rw [MakeChecks.laidMetH_plain _ _ _ hp] at hL
 have r1:=Lib.laidMet.reads hL h1
 rw [Pinned.utf8First_eq] at r1
 exact utf8Tabs_of_readsT (ρ:=rhoU) ⟨by kernel_rfl,by kernel_rfl,by kernel_rfl,by kernel_rfl⟩ ⟨by kernel_rfl,by kernel_rfl,by kernel_rfl,by kernel_rfl,by kernel_rfl,by kernel_rfl,by kernel_rfl⟩ r1 (Lib.laidMet.reads hL h2)
end Go.Proofs.YtlelaenalbkbmaaDoorV