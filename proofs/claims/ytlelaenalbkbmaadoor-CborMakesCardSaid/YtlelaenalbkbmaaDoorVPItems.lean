/- Items of cbor. -/
import Derived.Test.YtlelaenalbkbmaaDoorVPWords
import Derived.Test.YtlelaenalbkbmaaDoorVP4
namespace Go.Proofs.YtlelaenalbkbmaaDoorV
open Go
set_option linter.unusedVariables false
abbrev It:=T28
def numIt (n:Int):It:=⟨1,IntKind.u64.wrap n,[],[]⟩
theorem nextN {i n:Nat} (h:i<n) (hn:n<4611686018427387904):IntKind.i64.wrap ((i:Int)+1)=((i+1:Nat):Int):=by rw [wrap_i64 (by omega) (by omega)];rfl
end Go.Proofs.YtlelaenalbkbmaaDoorV