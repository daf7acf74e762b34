import Derived.Test.YtelhmdpejebkoaaGreatDoorCards
import Derived.WalkKit
import Derived.ProofKit
import Derived.Stop.Joined
set_option linter.unusedVariables false
set_option linter.unusedSimpArgs false
namespace Go.Proofs.YtelhmdpejebkoaaGreatDoor.fsNone
set_option maxRecDepth 100000
theorem own : ownKnob Tryz.prog.godebug = none := by kernel_rfl
theorem laidOut : laidOutB Tryz.prog = true := by kernel_rfl
theorem rowed : mapsRowed Tryz.prog = true := by kernel_rfl
theorem readable : ∀ t ∈ Tryz.f5.params.toList, Tryz.prog.readableRec t = true ∧ t < Tryz.prog.types.size := by
  rw [Tryz.params5]
  intro t ht
  obtain rfl : t = 49 := by simpa using ht
  exact ⟨by kernel_rfl, of_decide_eq_true (by kernel_rfl)⟩
theorem inPlace : (Rows.fsNoneRow.inPlace == Tryz.prog.inPlace 5) = true := by kernel_rfl
theorem unfollowed : (Rows.fsNoneRow.unfollowed == Tryz.prog.unfollowed 5) = true := by kernel_rfl
theorem recurses : (Rows.fsNoneRow.recurses == Tryz.prog.recurses 5) = true := by kernel_rfl
theorem named : (Rows.fsNoneRow.named == Tryz.prog.varsNamed 5) = true := by kernel_rfl
theorem heard : Tryz.prog.stopsHeard = true := by kernel_rfl
theorem closed : joinedFacts Tryz.prog 5 Tryz.f5 (OpenSpec.ofChange Rows.fsNoneSpec).bare Rows.fsNoneRow = true := by
  unfold joinedFacts
  rw [laidOut, rowed, inPlace, unfollowed, recurses, named, heard]
  kernel_rfl
theorem found : Tryz.prog.funcNamed "onionskin/onionskinlaw30.FsNone" = some 5 := by kernel_rfl
theorem noInit : Tryz.prog.inits.idxOf? 5 = none := by kernel_rfl
theorem wantsNot : Tryz.prog.wantsStandIn 49 = false := by kernel_rfl
theorem looksNot : false = Tryz.prog.looks [] := by kernel_rfl
theorem main : Tryz.prog.mainIs = some (true, "07fa8eb9a56066c426a5ae85ac6dce640227fc06034700ad16d5dbf8455e7ac0".toList) := by kernel_rfl
theorem byText : Rows.fsNoneRow.wfByText (OpenSpec.ofChange Rows.fsNoneSpec) = true := by kernel_rfl
theorem goes : false = Rows.fsNoneRow.goesBy Tryz.prog := by kernel_rfl
theorem inst : Tryz.f5.isInstance Tryz.prog Rows.fsNoneRow.origin Rows.fsNoneRow.targs := of_decide_eq_true (by kernel_rfl)
theorem wrap : Tryz.f5.isWrapper Tryz.prog Rows.fsNoneRow.wrapper Rows.fsNoneRow.mainSum := by
  unfold Func.isWrapper; first | (rw [if_pos (by decide +kernel)]; kernel_rfl) | (rw [if_neg (by decide +kernel)]; exact ⟨rfl, rfl⟩)
end Go.Proofs.YtelhmdpejebkoaaGreatDoor.fsNone
