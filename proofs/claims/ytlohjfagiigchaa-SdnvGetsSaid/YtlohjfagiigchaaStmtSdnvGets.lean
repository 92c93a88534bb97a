/- For each Go function told here: the plain function of what it answers, and that the translated program's call answers just that, wherever the plain function answers at all. Written by a program of this session, out of the translation. -/
import Derived.Test.YtlohjfagiigchaaPxf3
namespace Go.Proofs.Ytlohjfagiigchaa
def heliographlaw08_SdnvGets.Pure : Prop := ∀ (l0 : List (List Int)), (l0.length ≤ maxLen ∧ l0.length * 24 ≤ 140737488351232 ∧ ∀ yl0 ∈ l0, (yl0.length ≤ maxLen ∧ yl0.length * 1 ≤ 140737488351232 ∧ ∀ yyl0 ∈ yl0, (Lit.int .u8 yyl0).wf = true)) → ∃ k, P.heliographlaw08_SdnvGets.f k l0 = some true
end Go.Proofs.Ytlohjfagiigchaa
