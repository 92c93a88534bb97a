/- Words of the plain laws: what holds from some count of rounds on;numbers in their bounds. -/
import Derived.Test.YtlelaenalbkbmaaDoorVPC
namespace Go.Proofs.YtlelaenalbkbmaaDoorV
open Go
set_option linter.unusedVariables false
def Evn (p:Nat→Prop):Prop:=∃ K,∀ k,K≤k→p k
theorem Evn.of {p:Nat→Prop} (K:Nat) (h:∀ k,K≤k→p k):Evn p:=⟨K,h⟩
theorem Evn.all {p:Nat→Prop} (h:∀ k,p k):Evn p:=⟨0,fun k _=>h k⟩
theorem Evn.mono {p q:Nat→Prop} (h:Evn p) (hq:∀ k,p k→q k):Evn q:=by
 obtain ⟨K,hK⟩:=h
 exact ⟨K,fun k hk=>hq k (hK k hk)⟩
theorem Evn.and {p q:Nat→Prop} (h:Evn p) (h':Evn q):Evn fun k=>p k∧q k:=by
 obtain ⟨K,hK⟩:=h
 obtain ⟨L,hL⟩:=h'
 exact ⟨K+L,fun k hk=>⟨hK k (by omega),hL k (by omega)⟩⟩
theorem Evn.up {p:Nat→Prop} (h:Evn fun k=>p (k+1)):Evn p:=by
 obtain ⟨K,hK⟩:=h
 exact ⟨K+1,fun k hk=>by
  obtain ⟨j,rfl⟩:∃ j,k=j+1:=⟨k - 1,by omega⟩
  exact hK j (by omega)⟩
theorem Evn.ge (n:Nat):Evn fun k=>n≤k:=⟨n,fun _ h=>h⟩
theorem Evn.get {p:Nat→Prop} (h:Evn p):∃ k,p k:=by
 obtain ⟨K,hK⟩:=h
 exact ⟨K,hK K (Nat.le_refl _)⟩
theorem ifE_pos {α:Type} {p:Prop} [Decidable p] {o:Option α} (h:p):ifE p o=o:=by simp [ifE,h]
theorem ifE_neg {α:Type} {p:Prop} [Decidable p] {o:Option α} (h:¬p):ifE p o=none:=by simp [ifE,h]
theorem wrap_u8 {n:Int} (h1:0≤n) (h2:n<256):IntKind.u8.wrap n=n:=by simp [IntKind.wrap,IntKind.signed,IntKind.bits];omega
theorem wrap_u16 {n:Int} (h1:0≤n) (h2:n<65536):IntKind.u16.wrap n=n:=by simp [IntKind.wrap,IntKind.signed,IntKind.bits];omega
theorem wrap_u32 {n:Int} (h1:0≤n) (h2:n<4294967296):IntKind.u32.wrap n=n:=by simp [IntKind.wrap,IntKind.signed,IntKind.bits];omega
theorem wrap_u64 {n:Int} (h1:0≤n) (h2:n<18446744073709551616):IntKind.u64.wrap n=n:=by simp [IntKind.wrap,IntKind.signed,IntKind.bits];omega
theorem wf_i64 {n:Int} (h:(Lit.int .i64 n).wf=true) : -9223372036854775808≤n∧n<9223372036854775808:=by
 simp [Lit.wf,IntKind.min,IntKind.max,IntKind.signed,IntKind.bits] at h
 omega
theorem wf_u8 {n:Int} (h:(Lit.int .u8 n).wf=true):0≤n∧n<256:=by
 simp [Lit.wf,IntKind.min,IntKind.max,IntKind.signed,IntKind.bits] at h
 omega
theorem wf_u32 {n:Int} (h:(Lit.int .u32 n).wf=true):0≤n∧n<4294967296:=by
 simp [Lit.wf,IntKind.min,IntKind.max,IntKind.signed,IntKind.bits] at h
 omega
theorem wf_u64 {n:Int} (h:(Lit.int .u64 n).wf=true):0≤n∧n<18446744073709551616:=by
 simp [Lit.wf,IntKind.min,IntKind.max,IntKind.signed,IntKind.bits] at h
 omega
end Go.Proofs.YtlelaenalbkbmaaDoorV