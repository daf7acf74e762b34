import Derived.Test.YtelhmdpejebkoaaGreatDoorI1
set_option linter.unusedVariables false
set_option linter.unusedSimpArgs false
namespace Go.AM.K
open Go Go.Proofs
set_option maxRecDepth 100000
noncomputable section
def good : RV → Bool | .ok (.c (.b true)) _ => true | _ => false
theorem run5 (k i f n : Int) (A B : List Nat) (X : Sc) : good (evCall ft (evS ft 1000000) (.mk .a (.mk .a .a .f)) [.g [.i .i64 k, .i .i64 i, .i .i64 f, .i .i64 n, .s A, .s B, X]] ⟨.q1 .z, .e⟩) = true := by kernel_rfl
end
end Go.AM.K
