import Derived.Test.YtelhmdpejebkoaaGreatDoorCards
import Derived.Test.YtelhmdpejebkoaaGreatDoorTie
import Derived.WalkKit
import Derived.ProofKit
import Derived.OpenShut
import Derived.LaidMore
import Derived.Lay
import Derived.SevenTiedAt
import Derived.Stop.Joined
import Derived.Deep.DeepHandedRow
import Derived.Lib.LaidTab
import Derived.Test.YtelhmdpejebkoaaGreatDoorR5
import Derived.Test.YtelhmdpejebkoaaGreatDoorF5
set_option linter.unusedVariables false
set_option linter.unusedSimpArgs false
namespace Go.Proofs.YtelhmdpejebkoaaGreatDoor.fsNone
open Go.ChangeShapes Go.WideShapes Go.ChangeAt Go.RowKit
open Go.AM (RelV RelL All2 Emb Hp AV Sc relH_none calls_of_run law_post slice_name)

set_option maxRecDepth 100000
/-- A deed, as the machine sees it. -/
theorem deed {H : Type} {enc : TypeId × Value → H} {W : World} {v : Value} {d : DataW H} {ps : List MemPlace} (hval : Value.okWide Tryz.prog W .any 0 49 v) (h : DataW.Trod enc Tryz.prog W 0 (fun _ => true) true 49 v d ps) :
    ∃ (k i f n : Int) (A B : List Nat) (X : Go.AM.Id → Sc) (b o : Nat), ∀ (ρ : Emb) (r : Go.AM.Id), ρ r = some (b, o) → RelV ρ (.g [.i .i64 k, .i .i64 i, .i .i64 f, .i .i64 n, .s A, .s B, X r]) v := by
  obtain ⟨⟨cs⟩, rfl, hsz⟩ := okWide_struct Tryz.underlying49 hval
  obtain ⟨fuel, hf⟩ := h
  obtain ⟨xs, n, rfl, _, _, hxl, hfs⟩ := DataW.trod_struct Tryz.underlying49 hf
  have h7 : Tryz.prog.cellsOf 49 = 7 := by kernel_rfl
  have c3 : Tryz.prog.cellsOf 3 = 1 := by kernel_rfl
  have c9 : Tryz.prog.cellsOf 9 = 1 := by kernel_rfl
  have c22 : Tryz.prog.cellsOf 22 = 1 := by kernel_rfl
  have c5 : Tryz.prog.cellsOf 5 ≠ 0 := by rw [show Tryz.prog.cellsOf 5 = 1 by kernel_rfl]; decide
  have hl : cs.length = 7 := by simpa [h7] using hsz
  have hx : xs.length = 7 := hxl
  match cs, hl with
  | [v0, v1, v2, v3, v4, v5, v6], _ =>
  match xs, hx with
  | [x0, x1, x2, x3, x4, x5, x6], _ =>
  have e0 : DataW.trod enc Tryz.prog W 0 (fun _ => true) true n 3 (([v0, v1, v2, v3, v4, v5, v6].drop 0).take (Tryz.prog.cellsOf 3)) = some x0 := hfs 0 _ rfl
  have e1 : DataW.trod enc Tryz.prog W 0 (fun _ => true) true n 3 (([v0, v1, v2, v3, v4, v5, v6].drop 1).take (Tryz.prog.cellsOf 3)) = some x1 := hfs 1 _ rfl
  have e2 : DataW.trod enc Tryz.prog W 0 (fun _ => true) true n 3 (([v0, v1, v2, v3, v4, v5, v6].drop 2).take (Tryz.prog.cellsOf 3)) = some x2 := hfs 2 _ rfl
  have e3 : DataW.trod enc Tryz.prog W 0 (fun _ => true) true n 3 (([v0, v1, v2, v3, v4, v5, v6].drop 3).take (Tryz.prog.cellsOf 3)) = some x3 := hfs 3 _ rfl
  have e4 : DataW.trod enc Tryz.prog W 0 (fun _ => true) true n 9 (([v0, v1, v2, v3, v4, v5, v6].drop 4).take (Tryz.prog.cellsOf 9)) = some x4 := hfs 4 _ rfl
  have e5 : DataW.trod enc Tryz.prog W 0 (fun _ => true) true n 9 (([v0, v1, v2, v3, v4, v5, v6].drop 5).take (Tryz.prog.cellsOf 9)) = some x5 := hfs 5 _ rfl
  have e6 : DataW.trod enc Tryz.prog W 0 (fun _ => true) true n 22 (([v0, v1, v2, v3, v4, v5, v6].drop 6).take (Tryz.prog.cellsOf 22)) = some x6 := hfs 6 _ rfl
  rw [c3] at e0 e1 e2 e3
  rw [c9] at e4 e5
  rw [c22] at e6
  obtain ⟨k, q0, _, _⟩ := DataW.trod_int Tryz.underlying3 e0
  obtain ⟨i, q1, _, _⟩ := DataW.trod_int Tryz.underlying3 e1
  obtain ⟨f, q2, _, _⟩ := DataW.trod_int Tryz.underlying3 e2
  obtain ⟨m, q3, _, _⟩ := DataW.trod_int Tryz.underlying3 e3
  obtain ⟨sa, q4, _, _⟩ := DataW.trod_string Tryz.underlying9 e4
  obtain ⟨sb, q5, _, _⟩ := DataW.trod_string Tryz.underlying9 e5
  obtain ⟨v, X, b, o, q6, _, hX⟩ := slice_name Tryz.underlying22 c5 e6
  cases q0; cases q1; cases q2; cases q3; cases q4; cases q5; cases q6
  refine ⟨k, i, f, m, sa.data.toList.map UInt8.toNat, sb.data.toList.map UInt8.toNat, X, b, o, fun ρ r hr => ?_⟩
  exact ⟨_, rfl, .cons rfl (.cons rfl (.cons rfl (.cons rfl (.cons ⟨sa, rfl, rfl⟩ (.cons ⟨sb, rfl, rfl⟩ (.cons (hX ρ r hr) .nil))))))⟩

theorem good_ok {r : Go.AM.RV} (h : Go.AM.K.good r = true) : ∃ h', r = .ok (.c (.b true)) h' := by
  unfold Go.AM.K.good at h
  split at h
  · exact ⟨_, rfl⟩
  · cases h

/-- THE CONTRACT. -/
theorem contract (H : Type) (enc : TypeId × Value → H) (W : World) (base : Nat) (args : Array Value) (ds gs : List (DataW H)) (before : List MemPlace)
    (hval : ∀ (j : Nat) t v, Tryz.f5.params[j]? = some t → args[j]? = some v → Value.okWide Tryz.prog W .any base t v)
    (hW : DataW.Whole enc Tryz.prog Tryz.f5.params.toList Rows.fsNoneSpec.vars false W args.toList ds gs before) :
    Calls Tryz.prog 5 args W fun e W' => ∃ v, e = .returned v ∧ Rows.fsNoneSpec.post enc Tryz.prog Tryz.f5 false true false false W args v W' := by
  have hW' := hW
  obtain ⟨p, q, hA0, hV, rfl, hfz, hnd⟩ := hW
  have hA : DataW.TrodAll enc Tryz.prog W 0 (fun _ => true) true Tryz.f5.params.toList args.toList ds p := hA0
  rw [Tryz.params5] at hA hval
  obtain ⟨v0, d0, rfl, rfl, h0⟩ := trodAll_one hA
  obtain ⟨k, i, f, n, A, B, X, b, o, hrel⟩ := deed (Value.okWide_any_base (hval 0 49 v0 rfl rfl)) h0
  obtain ⟨H0, s0⟩ := relH_none (P := Tryz.prog) W
  obtain ⟨H1, s1, _⟩ := H0.name s0 b o
  obtain ⟨h', hr⟩ := good_ok (Go.AM.K.run5 k i f n A B (X Hp.none.next))
  refine (calls_of_run (Go.AM.K.calls 1000000) hr s1 H1 (.cons (hrel _ _ (Go.AM.Emb.put_same _ _ _ _)) .nil)).mono fun e W' ⟨he, hB⟩ => ?_
  exact ⟨_, he, law_post laidOut readable rfl rfl (by kernel_rfl) Tryz.underlying4 hW' hB⟩

theorem laid_met (os : Os) (args : Array Value) : laidMetH Tryz.prog Rows.fsNoneRow.laid ((World.laidAll Tryz.prog os Rows.fsNoneRow.laid).forCall (fun _ _ => 0) ⟨#[], args, []⟩).memory := by
  rw [MakeChecks.laidMetH_plain _ _ _ (by kernel_rfl)]
  exact laidMet_laidAll args (by kernel_rfl) (by kernel_rfl)
def arg : Value := .agg #[.int .i64 0, .int .i64 0, .int .i64 0, .int .i64 0, .string ⟨#[]⟩, .string ⟨#[]⟩, .slice none 0 0]
theorem reads (os : Os) {H : Type} (enc : TypeId × Value → H) : ∃ ds places, DataW.whole enc Tryz.prog ((World.laidAll Tryz.prog os Rows.fsNoneRow.laid).forCall (fun _ _ => 0) ⟨#[], #[arg], []⟩).memory Tryz.f5.params.toList Rows.fsNoneSpec.vars false #[arg].toList 8 = some (ds, [], places) :=
  ⟨[.agg [.lit (.int .i64 0), .lit (.int .i64 0), .lit (.int .i64 0), .lit (.int .i64 0), .lit (.string []), .lit (.string []), .nil]], [], by kernel_rfl⟩

set_option maxRecDepth 100000 in
theorem lifted (os : Os) (started : os.Started) (H : Type) (enc : TypeId × Value → H) (F : Stop.Interp) :
    ReturnsInHanded {} Tryz.checked os 5 .any ((OpenSpec.ofChange Rows.fsNoneSpec).preRow enc Tryz.prog Tryz.f5 Rows.fsNoneRow.domain false Rows.fsNoneRow.laid) (((OpenSpec.ofChange Rows.fsNoneSpec).at F).post enc Tryz.prog Tryz.f5 false true false false) := by
  obtain ⟨ds, places, hx⟩ := reads os enc
  refine returnsInHanded_of_row (C := Tryz.checked) (s := OpenSpec.ofChange Rows.fsNoneSpec) own started noInit Tryz.func5
    (witness_row_at (enc := enc) (C := Tryz.checked) false (World.laidAll Tryz.prog os Rows.fsNoneRow.laid) #[arg] (World.laidAll_os _ _ _) (by kernel_rfl) (by kernel_rfl) (by kernel_rfl)
      (OpenSpec.preRow_of_cond 8 hx rfl (fun k hk => by cases hk) (by kernel_rfl) (laid_met os _))) ?_
  intro W base args ds gs before hval hW _ _ _ _ _ _
  exact contract H enc W base args ds gs before hval hW

theorem said : Rows.FsNoneSaid :=
  OpenClaim.holds_of_cond 5 Tryz.f5 rfl rfl rfl rfl rfl rfl rfl ⟨rfl, rfl, rfl, rfl, rfl⟩ rfl rfl rfl rfl rfl found Tryz.func5 closed inst wrap
    (fun os started H enc _ F => by rw [OpenClaim.pre_eq_preRow]; exact lifted os started H enc F)

theorem plain (f : FuncId) (fn : Func) (hf : Tryz.pinned.checked.prog.funcNamed "onionskin/onionskinlaw30.FsNone" = some f) (hfn : Tryz.pinned.checked.prog.funcs[f]? = some fn) :
    false = Tryz.pinned.checked.prog.looks [] ∧ ∀ (j : Nat) t, fn.params[j]? = some t → Tryz.pinned.checked.prog.wantsStandIn t = false := by
  obtain rfl : f = 5 := Option.some.inj (found.symm.trans hf) |>.symm
  obtain rfl : fn = Tryz.f5 := (Option.some.inj (Tryz.func5.symm.trans hfn)).symm
  refine ⟨looksNot, fun j t ht => ?_⟩
  rw [Tryz.params5] at ht
  obtain rfl : t = 49 := by simpa using Array.mem_of_getElem? ht
  exact wantsNot
end Go.Proofs.YtelhmdpejebkoaaGreatDoor.fsNone
namespace Go.Proofs.YtelhmdpejebkoaaGreatDoor
/-- THE CARD. -/
theorem fsNone_card : Rows.FsNoneCardSaid :=
  Claim7.holds_tied_plain_at .later [] _ _ _ _ fsNone.said (fun _ h => by cases h) fsNone.byText (fun _ h => by cases h) fsNone_row_tie rfl ⟨rfl, rfl⟩ fsNone.main rfl fsNone.plain fsNone.goes
end Go.Proofs.YtelhmdpejebkoaaGreatDoor
