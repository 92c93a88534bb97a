/- What the program's functions answer: plain functions,and that the interpreter answers what they do. Written by a program of this session,out of the translation. -/
import Derived.Test.YtlelaenalbkbmaaDoorHViBP
namespace Go.Proofs.YtlelaenalbkbmaaDoorV
open Go
set_option linter.unusedVariables false
set_option linter.unusedSimpArgs false
set_option maxRecDepth 8000
set_option maxHeartbeats 4000000
-- f8: f8 heliograph/heliographlaw07.wakes
inductive R8 where
 | o0 (y:Bool)
noncomputable def R8.st:R8→V×List O×List O
 | .o0 y=>(.p (.bool y),[],[])
noncomputable def f8 (k:Nat):Option R8:=ifE (100≤k) (some (.o0 true))
theorem f8_ok (k r) (a:f8 k=some r):CV k 8 [] []=some r.st:=by
 obtain ⟨h,a⟩:=ifE_some.1 a
 cases a
 exact callV_le h wakes
-- f9: f9 heliograph/heliographlaw07.built
inductive R9 where
 | o0 (y a:Int) (b:List Int) (c:List T28)
noncomputable def R9.st:R9→V×List O×List O
 | .o0 y a b c=>(.agg [jI y,.p (.int .u64 a),.sl 1 (rowsOf (encI .u8) b),.sl 4 (rowsOf encT28 c)],[],[])
noncomputable def f9 (k:Nat) (a:List T49):Option R9:=(builtF k a).map fun x=>.o0 x.Kind x.Num x.Bytes x.Items
theorem f9_ok (k a r) (b:f9 k a=some r):CV k 9 [.sl 6 (rowsOf encT49 a)] []=some r.st:=by
 obtain ⟨x,hx,rfl⟩:=Option.map_eq_some_iff.1 b
 exact built_ok k a x hx
-- f37: f37 heliograph/cbor.plain
inductive R37 where
 | o0 (y:Bool)
noncomputable def R37.st:R37→V×List O×List O
 | .o0 y=>(.p (.bool y),[],[])
noncomputable def f37_j1 (k:Nat) (g a:Int) (b:List Int) (c:List T28) (h d:Int) (e:List Int) (f:List T28):Option R37 :=
 cond ((a==d))
  (
   cond ((((List.length b):Int)==((List.length e):Int)))
    (some (.o0 ((((List.length c):Int)==((List.length f):Int)))))
    (some (.o0 false)))
  (some (.o0 false))
theorem f37_j1_ok (k j b c d l e f g r) (a:f37_j1 k j b c d l e f g=some r):finK Tryd.prog Tryd.f37 0 (EX 37 k (nav B37 [2,2,2]) (⟨48,[(1,.ptr 1 0),(3,.ptr 3 0)],[(1,.box 28 [jI j,.p (.int .u64 b),.sl 1 (rowsOf (encI .u8) c),.sl 4 (rowsOf encT28 d)]),(3,.box 28 [jI l,.p (.int .u64 e),.sl 1 (rowsOf (encI .u8) f),.sl 4 (rowsOf encT28 g)])]⟩:St))=some r.st:=by
 unfold f37_j1 at a
 simp (disch:=first|apply D;decide|apply K;kernel_rfl) only [E,EE,↓reduceIte,simprocAttr,xk B37 [2,2,2] .sq rfl,rg B37 [1,2,2,2] 11 false rfl,hr 37 11 rfl,fieldAddrV,t_28,t_24]
 rcases cond_some a with ⟨h,a⟩ | ⟨h,a⟩
 ·simp (disch:=first|apply D;decide|apply K;kernel_rfl) only [E,EE,↓reduceIte,simprocAttr,fieldAddrV,t_28,t_25,h]
  rcases cond_some a with ⟨i,a⟩ | ⟨i,a⟩
  ·cases a
   simp (disch:=first|apply D;decide|apply K;kernel_rfl) only [E,EE,↓reduceIte,simprocAttr,fieldAddrV,t_28,t_26,xk B37 [2,2,2,2] .rt rfl,fin37,R37.st,h,i]
  ·cases a
   simp (disch:=first|apply D;decide|apply K;kernel_rfl) only [E,EE,↓reduceIte,simprocAttr,xk B37 [2,2,2,2] .rt rfl,fin37,R37.st,h,i]
 ·cases a
  simp (disch:=first|apply D;decide|apply K;kernel_rfl) only [E,EE,↓reduceIte,simprocAttr,xk B37 [2,2,2,2] .rt rfl,fin37,R37.st,h]
noncomputable def f37_j2 (k:Nat) (j:Int) (g:Bool) (h c:Int) (a:List Int) (b:List T28) (i d:Int) (e:List Int) (f:List T28):Option R37 :=
 cond (g)
  (f37_j1 k h c a b i d a f)
  (
   cond ((j==4))
    (f37_j1 k h c a b i d e b)
    (some (.o0 false)))
theorem f37_j2_ok (k o h j c a b l d e f r) (g:f37_j2 k o h j c a b l d e f=some r):finK Tryd.prog Tryd.f37 0 (SQ 37 k (nav B37 [2,2,2]) (blockK 0 (EX 37 k (nav B37 [2,3,2,2,2,1,2,2]) (⟨48,[(1,.ptr 1 0),(3,.ptr 3 0),(8,jI o),(14,.p (.bool h))],[(1,.box 28 [jI j,.p (.int .u64 c),.sl 1 (rowsOf (encI .u8) a),.sl 4 (rowsOf encT28 b)]),(3,.box 28 [jI l,.p (.int .u64 d),.sl 1 (rowsOf (encI .u8) e),.sl 4 (rowsOf encT28 f)])]⟩:St))))=some r.st:=by
 unfold f37_j2 at g
 simp (disch:=first|apply D;decide|apply K;kernel_rfl) only [E,EE,↓reduceIte,simprocAttr,xk B37 [2,3,2,2,2,1,2,2] (.cd 14) rfl]
 rcases cond_some g with ⟨i,g⟩ | ⟨i,g⟩
 ·have hJ:=f37_j1_ok k j c a b l d a f _ g
  simp (disch:=first|apply D;decide|apply K;kernel_rfl) only [E,EE,↓reduceIte,simprocAttr,rg B37 [2,2,3,2,2,2,1,2,2] 8 false rfl,hr 37 8 rfl,fieldAddrV,t_28,t_25,i]
  try simp only [NM,EE] at hJ
  exact hJ
 ·simp (disch:=first|apply D;decide|apply K;kernel_rfl) only [E,EE,↓reduceIte,simprocAttr,xk B37 [3,2,3,2,2,2,1,2,2] .sq rfl,rg B37 [1,3,2,3,2,2,2,1,2,2] 9 false rfl,hr 37 9 rfl,xk B37 [2,3,2,3,2,2,2,1,2,2] (.cd 20) rfl,i]
  rcases cond_some g with ⟨m,g⟩ | ⟨m,g⟩
  ·have hJ:=f37_j1_ok k j c a b l d e b _ g
   simp (disch:=first|apply D;decide|apply K;kernel_rfl) only [E,EE,↓reduceIte,simprocAttr,rg B37 [2,2,3,2,3,2,2,2,1,2,2] 10 false rfl,hr 37 10 rfl,fieldAddrV,t_28,t_26,i,m]
   try simp only [NM,EE] at hJ
   exact hJ
  ·cases g
   simp (disch:=first|apply D;decide|apply K;kernel_rfl) only [E,EE,↓reduceIte,simprocAttr,xk B37 [3,2,3,2,3,2,2,2,1,2,2] .sq rfl,rg B37 [1,3,2,3,2,3,2,2,2,1,2,2] 3 false rfl,hr 37 3 rfl,xk B37 [2,3,2,3,2,3,2,2,2,1,2,2] .rt rfl,fin37,R37.st,i,m]
noncomputable def f37_e (k:Nat) (b a:Int) (c:List Int) (d:List T28):Option R37 :=
 cond ((b==1))
  (f37_j1 k b a c d b a [] [])
  (
   cond ((b==2))
    (f37_j2 k b true b a c d b 0 [] [])
    (f37_j2 k b (b==3) b a c d b 0 [] []))
theorem f37_e_ok (k d a b c r) (e:f37_e k d a b c=some r):finK Tryd.prog Tryd.f37 0 (EX 37 k (nav B37 []) (⟨48,[(0,.agg [jI d,.p (.int .u64 a),.sl 1 (rowsOf (encI .u8) b),.sl 4 (rowsOf encT28 c)])],[]⟩:St))=some r.st:=by
 unfold f37_e at e
 simp (disch:=first|apply D;decide|apply K;kernel_rfl) only [E,EE,↓reduceIte,simprocAttr,xk B37 [] .sq rfl,rg B37 [1] 0 false rfl,hr 37 0 rfl,xk B37 [2] .sq rfl,rg B37 [1,2] 1 false rfl,hr_37_1,fieldAddrV,t_28,t_3,bl_28,xk B37 [2,2] .sq rfl,xk B37 [1,2,2] .sq rfl,rg B37 [1,1,2,2] 2 false rfl,hr 37 2 rfl,xk B37 [2,1,2,2] (.bk 0) rfl,xk B37 [2,2,1,2,2] .sq rfl,rg B37 [1,2,2,1,2,2] 4 false rfl,hr 37 4 rfl,xk B37 [2,2,2,1,2,2] (.cd 9) rfl]
 rcases cond_some e with ⟨f,e⟩ | ⟨f,e⟩
 ·have hJ:=f37_j1_ok k d a b c d a [] [] _ e
  simp (disch:=first|apply D;decide|apply K;kernel_rfl) only [E,EE,↓reduceIte,simprocAttr,rg B37 [2,2,2,2,1,2,2] 5 false rfl,hr 37 5 rfl,fieldAddrV,t_28,t_24,f]
  try simp only [NM,EE] at hJ
  exact hJ
 ·simp (disch:=first|apply D;decide|apply K;kernel_rfl) only [E,EE,↓reduceIte,simprocAttr,xk B37 [3,2,2,2,1,2,2] .sq rfl,xk B37 [1,3,2,2,2,1,2,2] .sq rfl,rg B37 [1,1,3,2,2,2,1,2,2] 6 false rfl,hr 37 6 rfl,xk B37 [2,1,3,2,2,2,1,2,2] (.cd 14) rfl,f]
  rcases cond_some e with ⟨g,e⟩ | ⟨g,e⟩
  ·have hJ:=f37_j2_ok k d true d a b c d 0 [] [] _ e
   simp (disch:=first|apply D;decide|apply K;kernel_rfl) only [E,EE,↓reduceIte,simprocAttr,xk B37 [2,2,1,3,2,2,2,1,2,2] .sk rfl,f,g]
   try simp only [NM,EE] at hJ
   exact hJ
  ·have hJ:=f37_j2_ok k d (d==3) d a b c d 0 [] [] _ e
   simp (disch:=first|apply D;decide|apply K;kernel_rfl) only [E,EE,↓reduceIte,simprocAttr,rg B37 [3,2,1,3,2,2,2,1,2,2] 7 false rfl,hr 37 7 rfl,f,g]
   try simp only [NM,EE] at hJ
   exact hJ
noncomputable def f37 (k:Nat) (d a:Int) (b:List Int) (c:List T28):Option R37:=match k with | 0=>none | k+1=>f37_e k d a b c
theorem f37_ok (k e a b d r) (f:f37 k e a b d=some r):CV k 37 [.agg [jI e,.p (.int .u64 a),.sl 1 (rowsOf (encI .u8) b),.sl 4 (rowsOf encT28 d)]] []=some r.st:=by
 cases k with
 | zero=>cases f
 | succ k =>
  unfold CV
  rw [ev_call (F:=Tryd.f37) (c:=(nav B37 [])) rfl Tryd.func37 rfl rfl rfl rfl]
  exact f37_e_ok k e a b d r f
-- f47: f47 unicode/utf8.word[[]byte]
inductive R47 where
 | o0 (y:Int)
noncomputable def R47.st:R47→V×List O×List O
 | .o0 y=>(.p (.int .u64 y),[],[])
noncomputable def f47_j1 (k:Nat) (a:List Int):Option R47 :=
 Option.bind (a[0]?) fun e =>
  Option.bind (a[1]?) fun f =>
   Option.bind (a[2]?) fun g =>
    Option.bind (a[3]?) fun h =>
     Option.bind (a[4]?) fun i =>
      Option.bind (a[5]?) fun b =>
       Option.bind (a[6]?) fun c =>
        Option.bind (a[7]?) fun d =>
         some (.o0 ((IntKind.u64.wrap ((BitVec.ofInt (IntKind.bits .u64) (IntKind.u64.wrap ((BitVec.ofInt (IntKind.bits .u64) (IntKind.u64.wrap ((BitVec.ofInt (IntKind.bits .u64) (IntKind.u64.wrap ((BitVec.ofInt (IntKind.bits .u64) (IntKind.u64.wrap ((BitVec.ofInt (IntKind.bits .u64) (IntKind.u64.wrap ((BitVec.ofInt (IntKind.bits .u64) (IntKind.u64.wrap ((BitVec.ofInt (IntKind.bits .u64) (IntKind.u64.wrap e) ||| BitVec.ofInt (IntKind.bits .u64) (IntKind.u64.wrap ((IntKind.u64.wrap f) * 2 ^ (min 8 (IntKind.bits .u64))))).toNat:Nat)) ||| BitVec.ofInt (IntKind.bits .u64) (IntKind.u64.wrap ((IntKind.u64.wrap g) * 2 ^ (min 16 (IntKind.bits .u64))))).toNat:Nat)) ||| BitVec.ofInt (IntKind.bits .u64) (IntKind.u64.wrap ((IntKind.u64.wrap h) * 2 ^ (min 24 (IntKind.bits .u64))))).toNat:Nat)) ||| BitVec.ofInt (IntKind.bits .u64) (IntKind.u64.wrap ((IntKind.u64.wrap i) * 2 ^ (min 32 (IntKind.bits .u64))))).toNat:Nat)) ||| BitVec.ofInt (IntKind.bits .u64) (IntKind.u64.wrap ((IntKind.u64.wrap b) * 2 ^ (min 40 (IntKind.bits .u64))))).toNat:Nat)) ||| BitVec.ofInt (IntKind.bits .u64) (IntKind.u64.wrap ((IntKind.u64.wrap c) * 2 ^ (min 48 (IntKind.bits .u64))))).toNat:Nat)) ||| BitVec.ofInt (IntKind.bits .u64) (IntKind.u64.wrap ((IntKind.u64.wrap d) * 2 ^ (min 56 (IntKind.bits .u64))))).toNat:Nat))))
theorem f47_j1_ok (k f r) (a:f47_j1 k f=some r):finK Tryd.prog Tryd.f47 0 (EX 47 k (nav B47 [2,2]) (⟨71,[(0,.sl 1 (rowsOf (encI .u8) f))],[]⟩:St))=some r.st:=by
 unfold f47_j1 at a
 obtain ⟨p,g,a⟩:=bs a
 obtain ⟨q,h,a⟩:=bs a
 obtain ⟨s,i,a⟩:=bs a
 obtain ⟨t,j,a⟩:=bs a
 obtain ⟨u,b,a⟩:=bs a
 obtain ⟨l,c,a⟩:=bs a
 obtain ⟨m,d,a⟩:=bs a
 obtain ⟨o,e,a⟩:=bs a
 cases a
 simp (disch:=first|apply D;decide|apply K;kernel_rfl) only [E,EE,↓reduceIte,simprocAttr,xk B47 [2,2] .sq rfl,rg B47 [1,2,2] 2 true rfl,hr 47 2 rfl,indexAddrV,t_25,t_5,encI_eq,t_24,convV,shiftV,xk B47 [2,2,2] .rt rfl,fin47,R47.st,g,h,i,j,b,c,d,e]
noncomputable def f47_e (k:Nat) (a:List Int):Option R47 :=
 f47_j1 k a
theorem f47_e_ok (k a r) (b:f47_e k a=some r):finK Tryd.prog Tryd.f47 0 (EX 47 k (nav B47 []) (⟨71,[(0,.sl 1 (rowsOf (encI .u8) a))],[]⟩:St))=some r.st:=by
 unfold f47_e at b
 have hJ:=f47_j1_ok k a _ b
 simp (disch:=first|apply D;decide|apply K;kernel_rfl) only [E,EE,↓reduceIte,simprocAttr,xk B47 [] .sq rfl,rg B47 [1] 0 false rfl,hr 47 0 rfl,xk B47 [2] .sq rfl,xk B47 [1,2] .cf rfl,xk B47 [3,1,2] .sk rfl]
 try simp only [NM,EE] at hJ
 exact hJ
noncomputable def f47 (k:Nat) (a:List Int):Option R47:=match k with | 0=>none | k+1=>f47_e k a
theorem f47_ok (k a r) (b:f47 k a=some r):CV k 47 [.sl 1 (rowsOf (encI .u8) a)] []=some r.st:=by
 cases k with
 | zero=>cases b
 | succ k =>
  unfold CV
  rw [ev_call (F:=Tryd.f47) (c:=(nav B47 [])) rfl Tryd.func47 rfl rfl rfl rfl]
  exact f47_e_ok k a r b
end Go.Proofs.YtlelaenalbkbmaaDoorV