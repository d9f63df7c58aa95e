/- The tables of the library that the rows list, laid in a world: one start that fits exists. -/
import Derived.Test.YtacbacbmomhjoaaDoorRows
import Derived.WalkKit
import Derived.ProofKit
import Derived.OpenShut
import Derived.ChangeOld
import Derived.Below
import Derived.SizedLaws
import Derived.JoinedOf
import Derived.ChangeVars
namespace Go.Proofs.YtacbacbmomhjoaaDoor.Laid
open Go.ChangeShapes Go.WideShapes Go.ChangeAt Go.RowKit
theorem g0 : Tryd.prog.globalNamed "unicode/utf8.first" = some 0 := by kernel_rfl
theorem g1 : Tryd.prog.globalNamed "unicode/utf8.acceptRanges" = some 1 := by kernel_rfl
theorem t0 : (Tryd.prog.globals[0]?).map (·.type) = some 58 := by kernel_rfl
theorem t1 : (Tryd.prog.globals[1]?).map (·.type) = some 62 := by kernel_rfl
def cellsFirst : Array Value := (Pinned.utf8FirstZ.map fun n : Nat => Value.int .u8 (n : Int)).toArray
def cellsRanges : Array Value := #[.int .u8 128, .int .u8 191, .int .u8 160, .int .u8 191, .int .u8 128, .int .u8 159, .int .u8 144, .int .u8 191, .int .u8 128, .int .u8 143] ++ Array.replicate 22 (.int .u8 0)
def setC (c : Array Value) : Obj → Obj
  | .cells _ t frozen => .cells c t frozen
  | o => o
noncomputable def laidWorld (os : Os) : World :=
  { World.holding Tryd.prog os ⟨#[], #[], []⟩ with heap := ((World.holding Tryd.prog os ⟨#[], #[], []⟩).heap.modify 0 (setC cellsFirst)).modify 1 (setC cellsRanges) }
theorem s0 : cellsFirst.size = 256 := by kernel_rfl
theorem s1 : cellsRanges.size = 32 := by kernel_rfl
theorem row0 (os : Os) (args : Array Value) : ((laidWorld os).forCall (fun _ _ => 0) ⟨#[], args, []⟩).memory.heap[0]? = some (.cells cellsFirst 58 (0, 0)) := by kernel_rfl
theorem row1 (os : Os) (args : Array Value) : ((laidWorld os).forCall (fun _ _ => 0) ⟨#[], args, []⟩).memory.heap[1]? = some (.cells cellsRanges 62 (0, 0)) := by kernel_rfl
def laidL : List (String × DataW Unit) := [("unicode/utf8.acceptRanges", Rows.laid_unicode_utf8_acceptRanges), ("unicode/utf8.first", Rows.laid_unicode_utf8_first)]
theorem noHandles : (laidL.filter fun x => x.2.handleName?.isSome) = [] := by kernel_rfl
theorem cell0 (os : Os) (args : Array Value) : ((laidWorld os).forCall (fun _ _ => 0) ⟨#[], args, []⟩).memory.var? Tryd.prog "unicode/utf8.first" = some cellsFirst := by kernel_rfl
theorem cell1 (os : Os) (args : Array Value) : ((laidWorld os).forCall (fun _ _ => 0) ⟨#[], args, []⟩).memory.var? Tryd.prog "unicode/utf8.acceptRanges" = some cellsRanges := by kernel_rfl
theorem read0 (W : World) : DataW.trod (fun _ => ()) Tryd.prog W 0 (fun _ => true) false 8 58 cellsFirst.toList = some (Rows.laid_unicode_utf8_first, []) := by kernel_rfl
theorem read1 (W : World) : DataW.trod (fun _ => ()) Tryd.prog W 0 (fun _ => true) false 8 62 cellsRanges.toList = some (Rows.laid_unicode_utf8_acceptRanges, []) := by kernel_rfl
theorem places : MemPlace.row ⟨1, 0, none⟩ 32 ++ [] ++ (MemPlace.row ⟨0, 0, none⟩ 256 ++ [] ++ []) = ((List.range 32).map fun j => MemPlace.cell 1 j) ++ ((List.range 256).map fun j => MemPlace.cell 0 j) := by kernel_rfl
theorem nodup : (((List.range 32).map fun j => MemPlace.cell 1 j) ++ ((List.range 256).map fun j => MemPlace.cell 0 j)).Nodup := by
  rw [List.nodup_append]
  refine ⟨List.pairwise_map.2 (List.nodup_range.imp fun h e => h (by injection e)), List.pairwise_map.2 (List.nodup_range.imp fun h e => h (by injection e)), ?_⟩
  intro a ha b hb e
  obtain ⟨i, _, rfl⟩ := List.mem_map.1 ha
  obtain ⟨j, _, rfl⟩ := List.mem_map.1 hb
  injection e with e1
  cases e1
theorem plain0 : ∀ v ∈ cellsFirst.toList, ∃ k n, v = Value.int k n := by
  intro v hv
  simp only [cellsFirst, List.mem_map] at hv
  obtain ⟨n, _, rfl⟩ := hv
  exact ⟨_, _, rfl⟩
theorem plain1 : ∀ v ∈ cellsRanges.toList, ∃ k n, v = Value.int k n := by
  intro v hv
  simp only [cellsRanges, Array.toList_append, List.mem_append, Array.toList_replicate, List.mem_replicate] at hv
  rcases hv with hv | ⟨_, rfl⟩
  · simp only [List.mem_cons, List.not_mem_nil, or_false] at hv
    rcases hv with rfl | rfl | rfl | rfl | rfl | rfl | rfl | rfl | rfl | rfl <;> exact ⟨_, _, rfl⟩
  · exact ⟨_, _, rfl⟩
theorem met (os : Os) (args : Array Value) : laidMetH Tryd.prog laidL ((laidWorld os).forCall (fun _ _ => 0) ⟨#[], args, []⟩).memory := by
  unfold laidMetH
  rw [noHandles]
  refine ⟨_, ⟨1, 62, cellsRanges, 8, [], _, g1, t1, cell1 os args, read1 _, ⟨0, 58, cellsFirst, 8, [], [], g0, t0, cell0 os args, read0 _, rfl, rfl⟩, rfl⟩, ?_, ?_⟩
  · rw [s0, s1, places]
    exact nodup
  · intro b off h
    rw [s0, s1, places] at h
    have h' := h
    rcases List.mem_append.1 h' with h' | h'
    · obtain ⟨i, _, e⟩ := List.mem_map.1 h'
      injection e with e1 e2
      subst e1
      refine ⟨⟨_, _, row1 os args⟩, fun u v hc => ?_⟩
      simp only [World.cell?, row1 os args] at hc
      have hm : Value.iface u v ∈ cellsRanges.toList := by
        have hc' := hc
        simp at hc'
        exact List.mem_of_getElem? (by simpa using hc')
      obtain ⟨k, n, e⟩ := plain1 _ hm
      cases e
    · obtain ⟨i, _, e⟩ := List.mem_map.1 h'
      injection e with e1 e2
      subst e1
      refine ⟨⟨_, _, row0 os args⟩, fun u v hc => ?_⟩
      simp only [World.cell?, row0 os args] at hc
      have hm : Value.iface u v ∈ cellsFirst.toList := by
        have hc' := hc
        simp at hc'
        exact List.mem_of_getElem? (by simpa using hc')
      obtain ⟨k, n, e⟩ := plain0 _ hm
      cases e
theorem laidMet.heap {P : Program} {w w' : World} {l : List (String × DataW Unit)} (hn : (l.filter fun x => x.2.handleName?.isSome) = []) (hh : w.heap = w'.heap) (h : laidMetH P l w) : laidMetH P l w' := by
  unfold laidMetH at h ⊢
  rw [hn] at h ⊢
  exact h.of_heap hh
end Go.Proofs.YtacbacbmomhjoaaDoor.Laid
