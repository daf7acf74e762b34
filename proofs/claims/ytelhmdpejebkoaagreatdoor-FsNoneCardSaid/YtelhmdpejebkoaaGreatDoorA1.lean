import Derived.Shelf.SlIterI.Nil
import Derived.Shelf.SortM.Plain
import Derived.Shelf.SortM.SortNone
import Derived.KernelRfl
import Derived.Test.YtelhmdpejebkoaaGreatDoorProg
set_option linter.unusedVariables false
set_option linter.unusedSimpArgs false
namespace Go.Proofs.YtelhmdpejebkoaaGreatDoor
open Go.RowKit Go.Maps Go.Sort Go.Shelf
def keysA_ren : Ren := { f := fun x => match x with | 7 => 143 | 10 => 215 | n => n, t := fun x => match x with | 23 => 131 | 26 => 3 | 3 => 32 | 28 => 253 | 0 => 0 | 27 => 252 | 33 => 107 | 4 => 4 | n => n, g := fun n => n }
theorem keysA : SlLaysZI.n7 Tryz.prog keysA_ren := {
  mixed := by kernel_rfl, f7 := ⟨ "maps.Keys[map[int]onionskin/disk.Data,int,onionskin/disk.Data]", of_decide_eq_true (id (Eq.refl true)), by kernel_rfl⟩, f10 := ⟨ "maps.Keys[map[int]onionskin/disk.Data,int,onionskin/disk.Data]$1", of_decide_eq_true (id (Eq.refl true)), by kernel_rfl⟩, t0 := Tryz.underlying0, a0 := Tryz.isAgg0, z0 := Tryz.sizeOf0, v0 := Tryz.zeroValue0, t4 := Tryz.underlying4, a4 := Tryz.isAgg4, z4 := Tryz.sizeOf4, v4 := Tryz.zeroValue4, t23 := Tryz.underlying131, a23 := Tryz.isAgg131, z23 := Tryz.sizeOf131, v23 := Tryz.zeroValue131, t26 := Tryz.underlying3, a26 := Tryz.isAgg3, z26 := Tryz.sizeOf3, v26 := Tryz.zeroValue3, t27 := Tryz.underlying252, a27 := Tryz.isAgg252, z27 := Tryz.sizeOf252, v27 := Tryz.zeroValue252, t28 := Tryz.underlying253, a28 := Tryz.isAgg253, z28 := Tryz.sizeOf253, v28 := Tryz.zeroValue253, t33 := Tryz.underlying107, a33 := Tryz.isAgg107, z33 := Tryz.sizeOf107, v33 := Tryz.zeroValue107 }
def sortedA_ren : Ren := { f := fun x => match x with | 6 => 142 | 8 => 213 | 9 => 214 | 11 => 272 | 13 => 97 | 12 => 273 | 23 => 164 | 24 => 165 | 14 => 312 | 15 => 313 | 16 => 314 | 17 => 315 | 18 => 316 | 19 => 317 | 20 => 318 | 21 => 319 | 22 => 320 | 25 => 354 | 26 => 221 | 27 => 222 | 28 => 355 | 29 => 356 | 30 => 98 | 31 => 382 | n => n, t := fun x => match x with | 26 => 3 | 28 => 253 | 24 => 84 | 0 => 0 | 3 => 3 | 37 => 197 | 48 => 109 | 50 => 275 | 4 => 4 | 40 => 268 | 39 => 267 | 45 => 220 | 5 => 5 | 9 => 9 | 51 => 340 | 55 => 344 | 57 => 393 | 58 => 394 | 33 => 107 | n => n, g := fun n => n }
theorem sortedA : SlLaysZI.n6 Tryz.prog sortedA_ren := {
  mixed := by kernel_rfl, f6 := ⟨ "slices.Sorted[int]", of_decide_eq_true (id (Eq.refl true)), by kernel_rfl⟩, f8 := ⟨ "slices.Collect[int]", of_decide_eq_true (id (Eq.refl true)), by kernel_rfl⟩, f11 := ⟨ "slices.AppendSeq[[]int,int]", of_decide_eq_true (id (Eq.refl true)), by kernel_rfl⟩, t0 := Tryz.underlying0, a0 := Tryz.isAgg0, z0 := Tryz.sizeOf0, v0 := Tryz.zeroValue0, t24 := Tryz.underlying84, a24 := Tryz.isAgg84, z24 := Tryz.sizeOf84, v24 := Tryz.zeroValue84, t26 := Tryz.underlying3, a26 := Tryz.isAgg3, z26 := Tryz.sizeOf3, v26 := Tryz.zeroValue3, t28 := Tryz.underlying253, a28 := Tryz.isAgg253, z28 := Tryz.sizeOf253, v28 := Tryz.zeroValue253, i26 := by kernel_rfl }
def sortA_ren : Ren := { f := fun x => match x with | 5 => 214 | 8 => 97 | 7 => 273 | 19 => 164 | 20 => 165 | 10 => 312 | 11 => 313 | 12 => 314 | 13 => 315 | 14 => 316 | 15 => 317 | 16 => 318 | 17 => 319 | 18 => 320 | 30 => 354 | 31 => 221 | 32 => 222 | 33 => 355 | 34 => 356 | 35 => 98 | 40 => 382 | n => n, t := fun x => match x with | 23 => 84 | 25 => 3 | 3 => 3 | 32 => 197 | 22 => 84 | 0 => 0 | 44 => 109 | 46 => 275 | 4 => 4 | 36 => 268 | 35 => 267 | 41 => 220 | 5 => 5 | 9 => 9 | 53 => 340 | 57 => 344 | 63 => 393 | 64 => 394 | n => n, g := fun n => n }
theorem sortA : SlLaysM.n5 Tryz.prog sortA_ren := {
  mixed := by kernel_rfl, f5 := ⟨ "slices.Sort[[]int,int]", of_decide_eq_true (id (Eq.refl true)), by kernel_rfl⟩, f7 := ⟨ "slices.pdqsortOrdered[int]", of_decide_eq_true (id (Eq.refl true)), by kernel_rfl⟩, f8 := by kernel_rfl, f10 := ⟨ "slices.insertionSortOrdered[int]", of_decide_eq_true (id (Eq.refl true)), by kernel_rfl⟩, f11 := ⟨ "slices.heapSortOrdered[int]", of_decide_eq_true (id (Eq.refl true)), by kernel_rfl⟩, f12 := ⟨ "slices.breakPatternsOrdered[int]", of_decide_eq_true (id (Eq.refl true)), by kernel_rfl⟩, f13 := ⟨ "slices.choosePivotOrdered[int]", of_decide_eq_true (id (Eq.refl true)), by kernel_rfl⟩, f14 := ⟨ "slices.reverseRangeOrdered[int]", of_decide_eq_true (id (Eq.refl true)), by kernel_rfl⟩, f15 := ⟨ "slices.partialInsertionSortOrdered[int]", of_decide_eq_true (id (Eq.refl true)), by kernel_rfl⟩, f16 := ⟨ "cmp.Less[int]", of_decide_eq_true (id (Eq.refl true)), by kernel_rfl⟩, f17 := ⟨ "slices.partitionEqualOrdered[int]", of_decide_eq_true (id (Eq.refl true)), by kernel_rfl⟩, f18 := ⟨ "slices.partitionOrdered[int]", of_decide_eq_true (id (Eq.refl true)), by kernel_rfl⟩, f19 := by kernel_rfl, f20 := by kernel_rfl, f30 := ⟨ "slices.siftDownOrdered[int]", of_decide_eq_true (id (Eq.refl true)), by kernel_rfl⟩, f31 := by kernel_rfl, f32 := by kernel_rfl, f33 := ⟨ "slices.medianAdjacentOrdered[int]", of_decide_eq_true (id (Eq.refl true)), by kernel_rfl⟩, f34 := ⟨ "slices.medianOrdered[int]", of_decide_eq_true (id (Eq.refl true)), by kernel_rfl⟩, f35 := ⟨ "cmp.isNaN[int]", of_decide_eq_true (id (Eq.refl true)), by kernel_rfl⟩, f40 := ⟨ "slices.order2Ordered[int]", of_decide_eq_true (id (Eq.refl true)), by kernel_rfl⟩, t0 := Tryz.underlying0, a0 := Tryz.isAgg0, z0 := Tryz.sizeOf0, v0 := Tryz.zeroValue0, t3 := Tryz.underlying3, a3 := Tryz.isAgg3, z3 := Tryz.sizeOf3, v3 := Tryz.zeroValue3, t4 := Tryz.underlying4, a4 := Tryz.isAgg4, z4 := Tryz.sizeOf4, v4 := Tryz.zeroValue4, t5 := Tryz.underlying5, a5 := Tryz.isAgg5, z5 := Tryz.sizeOf5, v5 := Tryz.zeroValue5, t9 := Tryz.underlying9, a9 := Tryz.isAgg9, z9 := Tryz.sizeOf9, v9 := Tryz.zeroValue9, t22 := Tryz.underlying84, a22 := Tryz.isAgg84, z22 := Tryz.sizeOf84, v22 := Tryz.zeroValue84, t23 := Tryz.underlying84, a23 := Tryz.isAgg84, z23 := Tryz.sizeOf84, v23 := Tryz.zeroValue84, t25 := Tryz.underlying3, a25 := Tryz.isAgg3, z25 := Tryz.sizeOf3, v25 := Tryz.zeroValue3, t32 := Tryz.underlying197, a32 := Tryz.isAgg197, z32 := Tryz.sizeOf197, v32 := Tryz.zeroValue197, t35 := Tryz.underlying267, a35 := Tryz.isAgg267, z35 := Tryz.sizeOf267, v35 := Tryz.zeroValue267, t36 := Tryz.underlying268, a36 := Tryz.isAgg268, z36 := Tryz.sizeOf268, v36 := Tryz.zeroValue268, t41 := Tryz.underlying220, a41 := Tryz.isAgg220, z41 := Tryz.sizeOf220, v41 := Tryz.zeroValue220, t44 := Tryz.underlying109, a44 := Tryz.isAgg109, z44 := Tryz.sizeOf109, v44 := Tryz.zeroValue109, t46 := Tryz.underlying275, a46 := Tryz.isAgg275, z46 := Tryz.sizeOf275, v46 := Tryz.zeroValue275, t53 := Tryz.underlying340, a53 := Tryz.isAgg340, z53 := Tryz.sizeOf340, v53 := Tryz.zeroValue340, t57 := Tryz.underlying344, a57 := Tryz.isAgg344, z57 := Tryz.sizeOf344, v57 := Tryz.zeroValue344, t63 := Tryz.underlying393, a63 := Tryz.isAgg393, z63 := Tryz.sizeOf393, v63 := Tryz.zeroValue393, t64 := Tryz.underlying394, a64 := Tryz.isAgg394, z64 := Tryz.sizeOf394, v64 := Tryz.zeroValue394 }


theorem sortsA (m : Nat) : AnyZI.SortsIn Tryz.prog sortedA_ren Fence.wide m :=
  ⟨fun blk off cap ss W hH hblk hsz => callsIn_wide.2 (AnyM.slices_Sort_int sortA blk off cap ss W hH hblk hsz),
   fun p cap W => callsIn_wide.2 (AnyM.slices_Sort_int_none sortA p cap W)⟩

set_option maxHeartbeats 1000000 in
theorem own203 {H : Type} (pb po : Nat) (b nn : Nat) (D0 : DataW H) (R : Value → Option (DataW H × List MemPlace)) (w : World) (hp : w.cell? ⟨pb, po + 1, none⟩ = some (.map (some b))) (hown : w.ownsMap Tryz.prog 3 R b nn D0) (hmax : Maps.size D0 ≤ maxLen) (hbytes : Maps.size D0 * 8 ≤ 140737488355328) :
    Calls Tryz.prog 203 #[.pointer (some ⟨pb, po, none⟩)] w fun e w' => ∃ (v : Value) (ss : List Int), e = .returned v ∧ ss.Perm (intKeys D0) ∧
      w'.ownsRow w.heap.size 3 1 v ss.length ((ss.mergeSort (fun x y => decide (x ≤ y))).map encZ) ∧ (v = .slice none 0 0 ↔ ss = []) ∧ Below w.heap.size w w' := by
  refine (callsIn_wide (n := 6)).1 ?_
  have hbl := hown.lt
  have hseq : SeqGives Fence.wide 2 Tryz.prog 215 #[.pointer (some ⟨w.heap.size, 0, none⟩)] encZ (fun ss => ss.Perm (intKeys D0)) (Maps.size D0) (w.alloc (.cells #[.map (some b)] 131)) :=
    AnyZI.keys_gives (ρ := keysA_ren) { keysA with } Fence.wide _ trivial rfl (by omega) w.heap.size b nn D0 _ (by simp) (by simp) (by
      obtain ⟨es, clock, hb, Ft, hs, hD⟩ := hown
      exact ⟨es, clock, (Below.heap_alloc _ _ b hbl).trans hb, Ft, hs, hD⟩)
  have cK : ∀ mb W, CallsIn Fence.wide 5 Tryz.prog 143 #[.map mb] W fun e w' => e = .returned (.func (.func 215) #[] #[.pointer (some ⟨W.heap.size, 0, none⟩)]) ∧ w' = W.alloc (.cells #[.map mb] 131) := fun mb W => AnyZI.keys_in keysA Fence.wide 5 trivial rfl mb W
  have cS := AnyZI.sorted_in sortedA Fence.wide 5 trivial trivial trivial trivial rfl (by omega) (sortsA _) (enters_of Tryz.func214 (by kernel_rfl) rfl) 215 #[.pointer (some ⟨w.heap.size, 0, none⟩)] trivial (enters_of Tryz.func215 (by kernel_rfl) rfl) _ _ hmax hbytes _ hseq
  change CallsIn _ _ Tryz.prog 142 _ _ _ at cS
  have hfK : Fence.wide.fn 143 := trivial
  have hfS : Fence.wide.fn 142 := trivial
  refine callsIn_of_wp Tryz.func203 rfl trivial ?_ rfl
  simp only [Tryz.ntmps203, List.size_toArray, List.length_cons, List.length_nil, Nat.reduceAdd, Nat.reduceSub, Array.replicate_succ, Array.replicate_zero, List.push_toArray, List.append_toArray, List.nil_append, List.cons_append]
  gi_wp2_with (first
    | (gi_at_call 143; refine (cK _ _).mono ?_; rintro e w' ⟨rfl, rfl⟩)
    | (gi_at_call 142; refine cS.mono ?_; rintro e w' ⟨v, ss, rfl, hS, hrow, hnil, hb⟩))
  go_ret
  exact ⟨v, ss, rfl, hS, ownsRow_base_a hrow (by simp), hnil, ((Below.refl _ w).alloc (Nat.le_refl _) _).trans (hb.mono (by simp))⟩
set_option maxHeartbeats 1000000 in
theorem own80 {H : Type} (pb po : Nat) (b nn : Nat) (D0 : DataW H) (R : Value → Option (DataW H × List MemPlace)) (w : World) (hp : w.cell? ⟨pb, po + 1, none⟩ = some (.map (some b))) (hown : w.ownsMap Tryz.prog 3 R b nn D0) (hmax : Maps.size D0 ≤ maxLen) (hbytes : Maps.size D0 * 8 ≤ 140737488355328) :
    Calls Tryz.prog 80 #[.pointer (some ⟨pb, po, none⟩)] w fun e w' => ∃ (v : Value) (ss : List Int), e = .returned v ∧ ss.Perm (intKeys D0) ∧
      w'.ownsRow w.heap.size 3 1 v ss.length ((ss.mergeSort (fun x y => decide (x ≤ y))).map encZ) ∧ (v = .slice none 0 0 ↔ ss = []) ∧ Below w.heap.size w w' := by
  refine (callsIn_wide (n := 6)).1 ?_
  have hbl := hown.lt
  have hseq : SeqGives Fence.wide 2 Tryz.prog 215 #[.pointer (some ⟨w.heap.size, 0, none⟩)] encZ (fun ss => ss.Perm (intKeys D0)) (Maps.size D0) (w.alloc (.cells #[.map (some b)] 131)) :=
    AnyZI.keys_gives (ρ := keysA_ren) { keysA with } Fence.wide _ trivial rfl (by omega) w.heap.size b nn D0 _ (by simp) (by simp) (by
      obtain ⟨es, clock, hb, Ft, hs, hD⟩ := hown
      exact ⟨es, clock, (Below.heap_alloc _ _ b hbl).trans hb, Ft, hs, hD⟩)
  have cK : ∀ mb W, CallsIn Fence.wide 5 Tryz.prog 143 #[.map mb] W fun e w' => e = .returned (.func (.func 215) #[] #[.pointer (some ⟨W.heap.size, 0, none⟩)]) ∧ w' = W.alloc (.cells #[.map mb] 131) := fun mb W => AnyZI.keys_in keysA Fence.wide 5 trivial rfl mb W
  have cS := AnyZI.sorted_in sortedA Fence.wide 5 trivial trivial trivial trivial rfl (by omega) (sortsA _) (enters_of Tryz.func214 (by kernel_rfl) rfl) 215 #[.pointer (some ⟨w.heap.size, 0, none⟩)] trivial (enters_of Tryz.func215 (by kernel_rfl) rfl) _ _ hmax hbytes _ hseq
  change CallsIn _ _ Tryz.prog 142 _ _ _ at cS
  have hfK : Fence.wide.fn 143 := trivial
  have hfS : Fence.wide.fn 142 := trivial
  refine callsIn_of_wp Tryz.func80 rfl trivial ?_ rfl
  simp only [Tryz.ntmps80, List.size_toArray, List.length_cons, List.length_nil, Nat.reduceAdd, Nat.reduceSub, Array.replicate_succ, Array.replicate_zero, List.push_toArray, List.append_toArray, List.nil_append, List.cons_append]
  gi_wp2_with (first
    | (gi_at_call 143; refine (cK _ _).mono ?_; rintro e w' ⟨rfl, rfl⟩)
    | (gi_at_call 142; refine cS.mono ?_; rintro e w' ⟨v, ss, rfl, hS, hrow, hnil, hb⟩))
  go_ret
  exact ⟨v, ss, rfl, hS, ownsRow_base_a hrow (by simp), hnil, ((Below.refl _ w).alloc (Nat.le_refl _) _).trans (hb.mono (by simp))⟩
end Go.Proofs.YtelhmdpejebkoaaGreatDoor
