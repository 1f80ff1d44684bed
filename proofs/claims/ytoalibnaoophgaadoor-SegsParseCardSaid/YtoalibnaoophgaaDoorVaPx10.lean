/-
  A part of the proof of segsParse_card (texts of this session, and printed ones, without what it does not use).
-/
import Derived.Test.YtoalibnaoophgaaDoorVaPx0
namespace Foot
end Foot
namespace Go.Proofs
end Go.Proofs
namespace Go.Proofs.YtoalibnaoophgaaDoor
end Go.Proofs.YtoalibnaoophgaaDoor
namespace Go.Proofs.YtoalibnaoophgaaDoor.Each
end Go.Proofs.YtoalibnaoophgaaDoor.Each
namespace Go.Proofs.YtoalibnaoophgaaDoor.Glue
end Go.Proofs.YtoalibnaoophgaaDoor.Glue
namespace Go.Proofs.YtoalibnaoophgaaDoor.Open
end Go.Proofs.YtoalibnaoophgaaDoor.Open
namespace Go.Proofs.YtoalibnaoophgaaDoor.P
end Go.Proofs.YtoalibnaoophgaaDoor.P
namespace Go.Proofs.YtoalibnaoophgaaDoor.segsParse
end Go.Proofs.YtoalibnaoophgaaDoor.segsParse
namespace Go.Proofs.YtoalibnaoophgaaDoorW.PrintLast
end Go.Proofs.YtoalibnaoophgaaDoorW.PrintLast
namespace Go.Proofs.YtoalibnaoophgaaDoorW.PrintMore
end Go.Proofs.YtoalibnaoophgaaDoorW.PrintMore
namespace Go.Proofs.YtoalibnaoophgaaDoorW.PrintWords
end Go.Proofs.YtoalibnaoophgaaDoorW.PrintWords
namespace Kd
end Kd
namespace Go.Proofs.YtoalibnaoophgaaDoor.P
open Go.RowKit Go.Proofs.YtoalibnaoophgaaDoorW.PrintWords Go.Proofs.YtoalibnaoophgaaDoorW.PrintLast Go.Proofs.YtoalibnaoophgaaDoorW.PrintMore
attribute [local go_sem] max2_int max_two -- for this text's walks alone
set_option linter.unusedVariables false
set_option linter.unusedSimpArgs false
def rowsTab : List (Int × Int × Int × Int × Int) := [(0, 127, 0, 0, 1), (194, 223, 128, 191, 2), (224, 224, 160, 191, 3), (225, 236, 128, 191, 3), (237, 237, 128, 159, 3), (238, 239, 128, 191, 3), (240, 240, 144, 191, 4), (241, 243, 128, 191, 4), (244, 244, 128, 143, 4)]
def monikerref02_row.f (a0 : Int) : Option (Int × Int × Int × Int × Int) := if 0 ≤ a0 then rowsTab[a0.toNat]? else none
def rowsCells : Array Value := #[.int .i64 0, .int .i64 127, .int .i64 0, .int .i64 0, .int .i64 1, .int .i64 194, .int .i64 223, .int .i64 128, .int .i64 191, .int .i64 2, .int .i64 224, .int .i64 224, .int .i64 160, .int .i64 191, .int .i64 3, .int .i64 225, .int .i64 236, .int .i64 128, .int .i64 191, .int .i64 3, .int .i64 237, .int .i64 237, .int .i64 128, .int .i64 159, .int .i64 3, .int .i64 238, .int .i64 239, .int .i64 128, .int .i64 191, .int .i64 3, .int .i64 240, .int .i64 240, .int .i64 144, .int .i64 191, .int .i64 4, .int .i64 241, .int .i64 243, .int .i64 128, .int .i64 191, .int .i64 4, .int .i64 244, .int .i64 244, .int .i64 128, .int .i64 143, .int .i64 4]
theorem rowsInfo : (Tryd.prog.info? 146).map (·.size) = some rowsCells.size := by kernel_rfl
set_option maxRecDepth 100000 in
set_option maxHeartbeats 4000000 in
theorem monikerref02_row.at0 (w : World) : Calls Tryd.prog 102 #[.int .i64 0] w fun e w' => e = .returned (.agg #[.int .i64 0, .int .i64 127, .int .i64 0, .int .i64 0, .int .i64 1]) ∧ Below w.heap.size w w' := by
  go_enter Tryd.func102, Tryd.ntmps102
  go_upto_region 1 with (fail)
  refine wp_region_list ?_
  refine wpList_build rfl 126 _ rfl (by kernel_rfl) ?_
  refine wpList_build rfl 126 _ rfl (by kernel_rfl) ?_
  refine wpList_build rfl 126 _ rfl (by kernel_rfl) ?_
  refine wpList_build rfl 126 _ rfl (by kernel_rfl) ?_
  refine wpList_build rfl 126 _ rfl (by kernel_rfl) ?_
  refine wpList_build rfl 126 _ rfl (by kernel_rfl) ?_
  refine wpList_build rfl 126 _ rfl (by kernel_rfl) ?_
  refine wpList_build rfl 126 _ rfl (by kernel_rfl) ?_
  refine wpList_build rfl 126 _ rfl (by kernel_rfl) ?_
  refine wpList_build rfl 146 _ rfl (by kernel_rfl) ?_
  generalize hA : (Act.put _ _ _) = A
  have hA2 : A = { tmps := #[.int .i64 0, undef, .pointer (some ⟨w.heap.size, 0, none⟩), undef, .agg #[.int .i64 0, .int .i64 127, .int .i64 0, .int .i64 0, .int .i64 1], .agg #[.int .i64 194, .int .i64 223, .int .i64 128, .int .i64 191, .int .i64 2], .agg #[.int .i64 224, .int .i64 224, .int .i64 160, .int .i64 191, .int .i64 3], .agg #[.int .i64 225, .int .i64 236, .int .i64 128, .int .i64 191, .int .i64 3], .agg #[.int .i64 237, .int .i64 237, .int .i64 128, .int .i64 159, .int .i64 3], .agg #[.int .i64 238, .int .i64 239, .int .i64 128, .int .i64 191, .int .i64 3], .agg #[.int .i64 240, .int .i64 240, .int .i64 144, .int .i64 191, .int .i64 4], .agg #[.int .i64 241, .int .i64 243, .int .i64 128, .int .i64 191, .int .i64 4], .agg #[.int .i64 244, .int .i64 244, .int .i64 128, .int .i64 143, .int .i64 4], .agg rowsCells, undef, undef, undef], defers := [] } := by rw [← hA]; kernel_rfl
  subst hA2
  clear hA
  refine wpList_plain rfl (fun K hK => ?_)
  go_simp
  refine hK _ _ ?_
  clear hK K
  refine wpList_store_row rfl 146 (.tmp 3) (.tmp 13) rfl (w.heap.size + 1) rowsCells rfl rfl 146 _ (by have := World.alloc_heap_new (w.alloc (.cells #[.int .i64 0, .int .i64 0, .int .i64 0, .int .i64 0, .int .i64 0] 126)) (.cells (Array.replicate 45 (.int .i64 0)) 146); rw [World.size_alloc] at this; exact this) rowsInfo (by kernel_rfl) (by kernel_rfl) ?_
  have hrow := World.setRow_alloc_new (w.alloc (.cells #[.int .i64 0, .int .i64 0, .int .i64 0, .int .i64 0, .int .i64 0] 126)) (Array.replicate 45 (.int .i64 0)) rowsCells 146
  rw [World.size_alloc] at hrow
  refine wpList_nil ?_
  generalize hW : (World.setRow _ _ _) = W2
  rw [show W2 = _ from hW.symm.trans hrow]
  clear hrow hW
  have k0 : rowsCells[0]? = some (.int .i64 0) := rfl
  have k1 : rowsCells[1]? = some (.int .i64 127) := rfl
  have k2 : rowsCells[2]? = some (.int .i64 0) := rfl
  have k3 : rowsCells[3]? = some (.int .i64 0) := rfl
  have k4 : rowsCells[4]? = some (.int .i64 1) := rfl
  go_wp2
  refine bodyPost_ret (v := .agg #[.int .i64 0, .int .i64 127, .int .i64 0, .int .i64 0, .int .i64 1]) ?_ rfl ⟨rfl, ?_⟩
  · simp [results, Tryd.f102, go_sem, Tryd.underlying126]
  · exact ((Below.refl _ w).alloc (Nat.le_refl _) _).alloc (by simp) _
set_option maxRecDepth 100000 in
set_option maxHeartbeats 4000000 in
theorem monikerref02_row.at1 (w : World) : Calls Tryd.prog 102 #[.int .i64 1] w fun e w' => e = .returned (.agg #[.int .i64 194, .int .i64 223, .int .i64 128, .int .i64 191, .int .i64 2]) ∧ Below w.heap.size w w' := by
  go_enter Tryd.func102, Tryd.ntmps102
  go_upto_region 1 with (fail)
  refine wp_region_list ?_
  refine wpList_build rfl 126 _ rfl (by kernel_rfl) ?_
  refine wpList_build rfl 126 _ rfl (by kernel_rfl) ?_
  refine wpList_build rfl 126 _ rfl (by kernel_rfl) ?_
  refine wpList_build rfl 126 _ rfl (by kernel_rfl) ?_
  refine wpList_build rfl 126 _ rfl (by kernel_rfl) ?_
  refine wpList_build rfl 126 _ rfl (by kernel_rfl) ?_
  refine wpList_build rfl 126 _ rfl (by kernel_rfl) ?_
  refine wpList_build rfl 126 _ rfl (by kernel_rfl) ?_
  refine wpList_build rfl 126 _ rfl (by kernel_rfl) ?_
  refine wpList_build rfl 146 _ rfl (by kernel_rfl) ?_
  generalize hA : (Act.put _ _ _) = A
  have hA2 : A = { tmps := #[.int .i64 1, undef, .pointer (some ⟨w.heap.size, 0, none⟩), undef, .agg #[.int .i64 0, .int .i64 127, .int .i64 0, .int .i64 0, .int .i64 1], .agg #[.int .i64 194, .int .i64 223, .int .i64 128, .int .i64 191, .int .i64 2], .agg #[.int .i64 224, .int .i64 224, .int .i64 160, .int .i64 191, .int .i64 3], .agg #[.int .i64 225, .int .i64 236, .int .i64 128, .int .i64 191, .int .i64 3], .agg #[.int .i64 237, .int .i64 237, .int .i64 128, .int .i64 159, .int .i64 3], .agg #[.int .i64 238, .int .i64 239, .int .i64 128, .int .i64 191, .int .i64 3], .agg #[.int .i64 240, .int .i64 240, .int .i64 144, .int .i64 191, .int .i64 4], .agg #[.int .i64 241, .int .i64 243, .int .i64 128, .int .i64 191, .int .i64 4], .agg #[.int .i64 244, .int .i64 244, .int .i64 128, .int .i64 143, .int .i64 4], .agg rowsCells, undef, undef, undef], defers := [] } := by rw [← hA]; kernel_rfl
  subst hA2
  clear hA
  refine wpList_plain rfl (fun K hK => ?_)
  go_simp
  refine hK _ _ ?_
  clear hK K
  refine wpList_store_row rfl 146 (.tmp 3) (.tmp 13) rfl (w.heap.size + 1) rowsCells rfl rfl 146 _ (by have := World.alloc_heap_new (w.alloc (.cells #[.int .i64 0, .int .i64 0, .int .i64 0, .int .i64 0, .int .i64 0] 126)) (.cells (Array.replicate 45 (.int .i64 0)) 146); rw [World.size_alloc] at this; exact this) rowsInfo (by kernel_rfl) (by kernel_rfl) ?_
  have hrow := World.setRow_alloc_new (w.alloc (.cells #[.int .i64 0, .int .i64 0, .int .i64 0, .int .i64 0, .int .i64 0] 126)) (Array.replicate 45 (.int .i64 0)) rowsCells 146
  rw [World.size_alloc] at hrow
  refine wpList_nil ?_
  generalize hW : (World.setRow _ _ _) = W2
  rw [show W2 = _ from hW.symm.trans hrow]
  clear hrow hW
  have k0 : rowsCells[5]? = some (.int .i64 194) := rfl
  have k1 : rowsCells[6]? = some (.int .i64 223) := rfl
  have k2 : rowsCells[7]? = some (.int .i64 128) := rfl
  have k3 : rowsCells[8]? = some (.int .i64 191) := rfl
  have k4 : rowsCells[9]? = some (.int .i64 2) := rfl
  go_wp2
  refine bodyPost_ret (v := .agg #[.int .i64 194, .int .i64 223, .int .i64 128, .int .i64 191, .int .i64 2]) ?_ rfl ⟨rfl, ?_⟩
  · simp [results, Tryd.f102, go_sem, Tryd.underlying126]
  · exact ((Below.refl _ w).alloc (Nat.le_refl _) _).alloc (by simp) _
set_option maxRecDepth 100000 in
set_option maxHeartbeats 4000000 in
theorem monikerref02_row.at2 (w : World) : Calls Tryd.prog 102 #[.int .i64 2] w fun e w' => e = .returned (.agg #[.int .i64 224, .int .i64 224, .int .i64 160, .int .i64 191, .int .i64 3]) ∧ Below w.heap.size w w' := by
  go_enter Tryd.func102, Tryd.ntmps102
  go_upto_region 1 with (fail)
  refine wp_region_list ?_
  refine wpList_build rfl 126 _ rfl (by kernel_rfl) ?_
  refine wpList_build rfl 126 _ rfl (by kernel_rfl) ?_
  refine wpList_build rfl 126 _ rfl (by kernel_rfl) ?_
  refine wpList_build rfl 126 _ rfl (by kernel_rfl) ?_
  refine wpList_build rfl 126 _ rfl (by kernel_rfl) ?_
  refine wpList_build rfl 126 _ rfl (by kernel_rfl) ?_
  refine wpList_build rfl 126 _ rfl (by kernel_rfl) ?_
  refine wpList_build rfl 126 _ rfl (by kernel_rfl) ?_
  refine wpList_build rfl 126 _ rfl (by kernel_rfl) ?_
  refine wpList_build rfl 146 _ rfl (by kernel_rfl) ?_
  generalize hA : (Act.put _ _ _) = A
  have hA2 : A = { tmps := #[.int .i64 2, undef, .pointer (some ⟨w.heap.size, 0, none⟩), undef, .agg #[.int .i64 0, .int .i64 127, .int .i64 0, .int .i64 0, .int .i64 1], .agg #[.int .i64 194, .int .i64 223, .int .i64 128, .int .i64 191, .int .i64 2], .agg #[.int .i64 224, .int .i64 224, .int .i64 160, .int .i64 191, .int .i64 3], .agg #[.int .i64 225, .int .i64 236, .int .i64 128, .int .i64 191, .int .i64 3], .agg #[.int .i64 237, .int .i64 237, .int .i64 128, .int .i64 159, .int .i64 3], .agg #[.int .i64 238, .int .i64 239, .int .i64 128, .int .i64 191, .int .i64 3], .agg #[.int .i64 240, .int .i64 240, .int .i64 144, .int .i64 191, .int .i64 4], .agg #[.int .i64 241, .int .i64 243, .int .i64 128, .int .i64 191, .int .i64 4], .agg #[.int .i64 244, .int .i64 244, .int .i64 128, .int .i64 143, .int .i64 4], .agg rowsCells, undef, undef, undef], defers := [] } := by rw [← hA]; kernel_rfl
  subst hA2
  clear hA
  refine wpList_plain rfl (fun K hK => ?_)
  go_simp
  refine hK _ _ ?_
  clear hK K
  refine wpList_store_row rfl 146 (.tmp 3) (.tmp 13) rfl (w.heap.size + 1) rowsCells rfl rfl 146 _ (by have := World.alloc_heap_new (w.alloc (.cells #[.int .i64 0, .int .i64 0, .int .i64 0, .int .i64 0, .int .i64 0] 126)) (.cells (Array.replicate 45 (.int .i64 0)) 146); rw [World.size_alloc] at this; exact this) rowsInfo (by kernel_rfl) (by kernel_rfl) ?_
  have hrow := World.setRow_alloc_new (w.alloc (.cells #[.int .i64 0, .int .i64 0, .int .i64 0, .int .i64 0, .int .i64 0] 126)) (Array.replicate 45 (.int .i64 0)) rowsCells 146
  rw [World.size_alloc] at hrow
  refine wpList_nil ?_
  generalize hW : (World.setRow _ _ _) = W2
  rw [show W2 = _ from hW.symm.trans hrow]
  clear hrow hW
  have k0 : rowsCells[10]? = some (.int .i64 224) := rfl
  have k1 : rowsCells[11]? = some (.int .i64 224) := rfl
  have k2 : rowsCells[12]? = some (.int .i64 160) := rfl
  have k3 : rowsCells[13]? = some (.int .i64 191) := rfl
  have k4 : rowsCells[14]? = some (.int .i64 3) := rfl
  go_wp2
  refine bodyPost_ret (v := .agg #[.int .i64 224, .int .i64 224, .int .i64 160, .int .i64 191, .int .i64 3]) ?_ rfl ⟨rfl, ?_⟩
  · simp [results, Tryd.f102, go_sem, Tryd.underlying126]
  · exact ((Below.refl _ w).alloc (Nat.le_refl _) _).alloc (by simp) _
set_option maxRecDepth 100000 in
set_option maxHeartbeats 4000000 in
theorem monikerref02_row.at3 (w : World) : Calls Tryd.prog 102 #[.int .i64 3] w fun e w' => e = .returned (.agg #[.int .i64 225, .int .i64 236, .int .i64 128, .int .i64 191, .int .i64 3]) ∧ Below w.heap.size w w' := by
  go_enter Tryd.func102, Tryd.ntmps102
  go_upto_region 1 with (fail)
  refine wp_region_list ?_
  refine wpList_build rfl 126 _ rfl (by kernel_rfl) ?_
  refine wpList_build rfl 126 _ rfl (by kernel_rfl) ?_
  refine wpList_build rfl 126 _ rfl (by kernel_rfl) ?_
  refine wpList_build rfl 126 _ rfl (by kernel_rfl) ?_
  refine wpList_build rfl 126 _ rfl (by kernel_rfl) ?_
  refine wpList_build rfl 126 _ rfl (by kernel_rfl) ?_
  refine wpList_build rfl 126 _ rfl (by kernel_rfl) ?_
  refine wpList_build rfl 126 _ rfl (by kernel_rfl) ?_
  refine wpList_build rfl 126 _ rfl (by kernel_rfl) ?_
  refine wpList_build rfl 146 _ rfl (by kernel_rfl) ?_
  generalize hA : (Act.put _ _ _) = A
  have hA2 : A = { tmps := #[.int .i64 3, undef, .pointer (some ⟨w.heap.size, 0, none⟩), undef, .agg #[.int .i64 0, .int .i64 127, .int .i64 0, .int .i64 0, .int .i64 1], .agg #[.int .i64 194, .int .i64 223, .int .i64 128, .int .i64 191, .int .i64 2], .agg #[.int .i64 224, .int .i64 224, .int .i64 160, .int .i64 191, .int .i64 3], .agg #[.int .i64 225, .int .i64 236, .int .i64 128, .int .i64 191, .int .i64 3], .agg #[.int .i64 237, .int .i64 237, .int .i64 128, .int .i64 159, .int .i64 3], .agg #[.int .i64 238, .int .i64 239, .int .i64 128, .int .i64 191, .int .i64 3], .agg #[.int .i64 240, .int .i64 240, .int .i64 144, .int .i64 191, .int .i64 4], .agg #[.int .i64 241, .int .i64 243, .int .i64 128, .int .i64 191, .int .i64 4], .agg #[.int .i64 244, .int .i64 244, .int .i64 128, .int .i64 143, .int .i64 4], .agg rowsCells, undef, undef, undef], defers := [] } := by rw [← hA]; kernel_rfl
  subst hA2
  clear hA
  refine wpList_plain rfl (fun K hK => ?_)
  go_simp
  refine hK _ _ ?_
  clear hK K
  refine wpList_store_row rfl 146 (.tmp 3) (.tmp 13) rfl (w.heap.size + 1) rowsCells rfl rfl 146 _ (by have := World.alloc_heap_new (w.alloc (.cells #[.int .i64 0, .int .i64 0, .int .i64 0, .int .i64 0, .int .i64 0] 126)) (.cells (Array.replicate 45 (.int .i64 0)) 146); rw [World.size_alloc] at this; exact this) rowsInfo (by kernel_rfl) (by kernel_rfl) ?_
  have hrow := World.setRow_alloc_new (w.alloc (.cells #[.int .i64 0, .int .i64 0, .int .i64 0, .int .i64 0, .int .i64 0] 126)) (Array.replicate 45 (.int .i64 0)) rowsCells 146
  rw [World.size_alloc] at hrow
  refine wpList_nil ?_
  generalize hW : (World.setRow _ _ _) = W2
  rw [show W2 = _ from hW.symm.trans hrow]
  clear hrow hW
  have k0 : rowsCells[15]? = some (.int .i64 225) := rfl
  have k1 : rowsCells[16]? = some (.int .i64 236) := rfl
  have k2 : rowsCells[17]? = some (.int .i64 128) := rfl
  have k3 : rowsCells[18]? = some (.int .i64 191) := rfl
  have k4 : rowsCells[19]? = some (.int .i64 3) := rfl
  go_wp2
  refine bodyPost_ret (v := .agg #[.int .i64 225, .int .i64 236, .int .i64 128, .int .i64 191, .int .i64 3]) ?_ rfl ⟨rfl, ?_⟩
  · simp [results, Tryd.f102, go_sem, Tryd.underlying126]
  · exact ((Below.refl _ w).alloc (Nat.le_refl _) _).alloc (by simp) _
set_option maxRecDepth 100000 in
set_option maxHeartbeats 4000000 in
theorem monikerref02_row.at4 (w : World) : Calls Tryd.prog 102 #[.int .i64 4] w fun e w' => e = .returned (.agg #[.int .i64 237, .int .i64 237, .int .i64 128, .int .i64 159, .int .i64 3]) ∧ Below w.heap.size w w' := by
  go_enter Tryd.func102, Tryd.ntmps102
  go_upto_region 1 with (fail)
  refine wp_region_list ?_
  refine wpList_build rfl 126 _ rfl (by kernel_rfl) ?_
  refine wpList_build rfl 126 _ rfl (by kernel_rfl) ?_
  refine wpList_build rfl 126 _ rfl (by kernel_rfl) ?_
  refine wpList_build rfl 126 _ rfl (by kernel_rfl) ?_
  refine wpList_build rfl 126 _ rfl (by kernel_rfl) ?_
  refine wpList_build rfl 126 _ rfl (by kernel_rfl) ?_
  refine wpList_build rfl 126 _ rfl (by kernel_rfl) ?_
  refine wpList_build rfl 126 _ rfl (by kernel_rfl) ?_
  refine wpList_build rfl 126 _ rfl (by kernel_rfl) ?_
  refine wpList_build rfl 146 _ rfl (by kernel_rfl) ?_
  generalize hA : (Act.put _ _ _) = A
  have hA2 : A = { tmps := #[.int .i64 4, undef, .pointer (some ⟨w.heap.size, 0, none⟩), undef, .agg #[.int .i64 0, .int .i64 127, .int .i64 0, .int .i64 0, .int .i64 1], .agg #[.int .i64 194, .int .i64 223, .int .i64 128, .int .i64 191, .int .i64 2], .agg #[.int .i64 224, .int .i64 224, .int .i64 160, .int .i64 191, .int .i64 3], .agg #[.int .i64 225, .int .i64 236, .int .i64 128, .int .i64 191, .int .i64 3], .agg #[.int .i64 237, .int .i64 237, .int .i64 128, .int .i64 159, .int .i64 3], .agg #[.int .i64 238, .int .i64 239, .int .i64 128, .int .i64 191, .int .i64 3], .agg #[.int .i64 240, .int .i64 240, .int .i64 144, .int .i64 191, .int .i64 4], .agg #[.int .i64 241, .int .i64 243, .int .i64 128, .int .i64 191, .int .i64 4], .agg #[.int .i64 244, .int .i64 244, .int .i64 128, .int .i64 143, .int .i64 4], .agg rowsCells, undef, undef, undef], defers := [] } := by rw [← hA]; kernel_rfl
  subst hA2
  clear hA
  refine wpList_plain rfl (fun K hK => ?_)
  go_simp
  refine hK _ _ ?_
  clear hK K
  refine wpList_store_row rfl 146 (.tmp 3) (.tmp 13) rfl (w.heap.size + 1) rowsCells rfl rfl 146 _ (by have := World.alloc_heap_new (w.alloc (.cells #[.int .i64 0, .int .i64 0, .int .i64 0, .int .i64 0, .int .i64 0] 126)) (.cells (Array.replicate 45 (.int .i64 0)) 146); rw [World.size_alloc] at this; exact this) rowsInfo (by kernel_rfl) (by kernel_rfl) ?_
  have hrow := World.setRow_alloc_new (w.alloc (.cells #[.int .i64 0, .int .i64 0, .int .i64 0, .int .i64 0, .int .i64 0] 126)) (Array.replicate 45 (.int .i64 0)) rowsCells 146
  rw [World.size_alloc] at hrow
  refine wpList_nil ?_
  generalize hW : (World.setRow _ _ _) = W2
  rw [show W2 = _ from hW.symm.trans hrow]
  clear hrow hW
  have k0 : rowsCells[20]? = some (.int .i64 237) := rfl
  have k1 : rowsCells[21]? = some (.int .i64 237) := rfl
  have k2 : rowsCells[22]? = some (.int .i64 128) := rfl
  have k3 : rowsCells[23]? = some (.int .i64 159) := rfl
  have k4 : rowsCells[24]? = some (.int .i64 3) := rfl
  go_wp2
  refine bodyPost_ret (v := .agg #[.int .i64 237, .int .i64 237, .int .i64 128, .int .i64 159, .int .i64 3]) ?_ rfl ⟨rfl, ?_⟩
  · simp [results, Tryd.f102, go_sem, Tryd.underlying126]
  · exact ((Below.refl _ w).alloc (Nat.le_refl _) _).alloc (by simp) _
set_option maxRecDepth 100000 in
set_option maxHeartbeats 4000000 in
theorem monikerref02_row.at5 (w : World) : Calls Tryd.prog 102 #[.int .i64 5] w fun e w' => e = .returned (.agg #[.int .i64 238, .int .i64 239, .int .i64 128, .int .i64 191, .int .i64 3]) ∧ Below w.heap.size w w' := by
  go_enter Tryd.func102, Tryd.ntmps102
  go_upto_region 1 with (fail)
  refine wp_region_list ?_
  refine wpList_build rfl 126 _ rfl (by kernel_rfl) ?_
  refine wpList_build rfl 126 _ rfl (by kernel_rfl) ?_
  refine wpList_build rfl 126 _ rfl (by kernel_rfl) ?_
  refine wpList_build rfl 126 _ rfl (by kernel_rfl) ?_
  refine wpList_build rfl 126 _ rfl (by kernel_rfl) ?_
  refine wpList_build rfl 126 _ rfl (by kernel_rfl) ?_
  refine wpList_build rfl 126 _ rfl (by kernel_rfl) ?_
  refine wpList_build rfl 126 _ rfl (by kernel_rfl) ?_
  refine wpList_build rfl 126 _ rfl (by kernel_rfl) ?_
  refine wpList_build rfl 146 _ rfl (by kernel_rfl) ?_
  generalize hA : (Act.put _ _ _) = A
  have hA2 : A = { tmps := #[.int .i64 5, undef, .pointer (some ⟨w.heap.size, 0, none⟩), undef, .agg #[.int .i64 0, .int .i64 127, .int .i64 0, .int .i64 0, .int .i64 1], .agg #[.int .i64 194, .int .i64 223, .int .i64 128, .int .i64 191, .int .i64 2], .agg #[.int .i64 224, .int .i64 224, .int .i64 160, .int .i64 191, .int .i64 3], .agg #[.int .i64 225, .int .i64 236, .int .i64 128, .int .i64 191, .int .i64 3], .agg #[.int .i64 237, .int .i64 237, .int .i64 128, .int .i64 159, .int .i64 3], .agg #[.int .i64 238, .int .i64 239, .int .i64 128, .int .i64 191, .int .i64 3], .agg #[.int .i64 240, .int .i64 240, .int .i64 144, .int .i64 191, .int .i64 4], .agg #[.int .i64 241, .int .i64 243, .int .i64 128, .int .i64 191, .int .i64 4], .agg #[.int .i64 244, .int .i64 244, .int .i64 128, .int .i64 143, .int .i64 4], .agg rowsCells, undef, undef, undef], defers := [] } := by rw [← hA]; kernel_rfl
  subst hA2
  clear hA
  refine wpList_plain rfl (fun K hK => ?_)
  go_simp
  refine hK _ _ ?_
  clear hK K
  refine wpList_store_row rfl 146 (.tmp 3) (.tmp 13) rfl (w.heap.size + 1) rowsCells rfl rfl 146 _ (by have := World.alloc_heap_new (w.alloc (.cells #[.int .i64 0, .int .i64 0, .int .i64 0, .int .i64 0, .int .i64 0] 126)) (.cells (Array.replicate 45 (.int .i64 0)) 146); rw [World.size_alloc] at this; exact this) rowsInfo (by kernel_rfl) (by kernel_rfl) ?_
  have hrow := World.setRow_alloc_new (w.alloc (.cells #[.int .i64 0, .int .i64 0, .int .i64 0, .int .i64 0, .int .i64 0] 126)) (Array.replicate 45 (.int .i64 0)) rowsCells 146
  rw [World.size_alloc] at hrow
  refine wpList_nil ?_
  generalize hW : (World.setRow _ _ _) = W2
  rw [show W2 = _ from hW.symm.trans hrow]
  clear hrow hW
  have k0 : rowsCells[25]? = some (.int .i64 238) := rfl
  have k1 : rowsCells[26]? = some (.int .i64 239) := rfl
  have k2 : rowsCells[27]? = some (.int .i64 128) := rfl
  have k3 : rowsCells[28]? = some (.int .i64 191) := rfl
  have k4 : rowsCells[29]? = some (.int .i64 3) := rfl
  go_wp2
  refine bodyPost_ret (v := .agg #[.int .i64 238, .int .i64 239, .int .i64 128, .int .i64 191, .int .i64 3]) ?_ rfl ⟨rfl, ?_⟩
  · simp [results, Tryd.f102, go_sem, Tryd.underlying126]
  · exact ((Below.refl _ w).alloc (Nat.le_refl _) _).alloc (by simp) _
set_option maxRecDepth 100000 in
set_option maxHeartbeats 4000000 in
theorem monikerref02_row.at6 (w : World) : Calls Tryd.prog 102 #[.int .i64 6] w fun e w' => e = .returned (.agg #[.int .i64 240, .int .i64 240, .int .i64 144, .int .i64 191, .int .i64 4]) ∧ Below w.heap.size w w' := by
  go_enter Tryd.func102, Tryd.ntmps102
  go_upto_region 1 with (fail)
  refine wp_region_list ?_
  refine wpList_build rfl 126 _ rfl (by kernel_rfl) ?_
  refine wpList_build rfl 126 _ rfl (by kernel_rfl) ?_
  refine wpList_build rfl 126 _ rfl (by kernel_rfl) ?_
  refine wpList_build rfl 126 _ rfl (by kernel_rfl) ?_
  refine wpList_build rfl 126 _ rfl (by kernel_rfl) ?_
  refine wpList_build rfl 126 _ rfl (by kernel_rfl) ?_
  refine wpList_build rfl 126 _ rfl (by kernel_rfl) ?_
  refine wpList_build rfl 126 _ rfl (by kernel_rfl) ?_
  refine wpList_build rfl 126 _ rfl (by kernel_rfl) ?_
  refine wpList_build rfl 146 _ rfl (by kernel_rfl) ?_
  generalize hA : (Act.put _ _ _) = A
  have hA2 : A = { tmps := #[.int .i64 6, undef, .pointer (some ⟨w.heap.size, 0, none⟩), undef, .agg #[.int .i64 0, .int .i64 127, .int .i64 0, .int .i64 0, .int .i64 1], .agg #[.int .i64 194, .int .i64 223, .int .i64 128, .int .i64 191, .int .i64 2], .agg #[.int .i64 224, .int .i64 224, .int .i64 160, .int .i64 191, .int .i64 3], .agg #[.int .i64 225, .int .i64 236, .int .i64 128, .int .i64 191, .int .i64 3], .agg #[.int .i64 237, .int .i64 237, .int .i64 128, .int .i64 159, .int .i64 3], .agg #[.int .i64 238, .int .i64 239, .int .i64 128, .int .i64 191, .int .i64 3], .agg #[.int .i64 240, .int .i64 240, .int .i64 144, .int .i64 191, .int .i64 4], .agg #[.int .i64 241, .int .i64 243, .int .i64 128, .int .i64 191, .int .i64 4], .agg #[.int .i64 244, .int .i64 244, .int .i64 128, .int .i64 143, .int .i64 4], .agg rowsCells, undef, undef, undef], defers := [] } := by rw [← hA]; kernel_rfl
  subst hA2
  clear hA
  refine wpList_plain rfl (fun K hK => ?_)
  go_simp
  refine hK _ _ ?_
  clear hK K
  refine wpList_store_row rfl 146 (.tmp 3) (.tmp 13) rfl (w.heap.size + 1) rowsCells rfl rfl 146 _ (by have := World.alloc_heap_new (w.alloc (.cells #[.int .i64 0, .int .i64 0, .int .i64 0, .int .i64 0, .int .i64 0] 126)) (.cells (Array.replicate 45 (.int .i64 0)) 146); rw [World.size_alloc] at this; exact this) rowsInfo (by kernel_rfl) (by kernel_rfl) ?_
  have hrow := World.setRow_alloc_new (w.alloc (.cells #[.int .i64 0, .int .i64 0, .int .i64 0, .int .i64 0, .int .i64 0] 126)) (Array.replicate 45 (.int .i64 0)) rowsCells 146
  rw [World.size_alloc] at hrow
  refine wpList_nil ?_
  generalize hW : (World.setRow _ _ _) = W2
  rw [show W2 = _ from hW.symm.trans hrow]
  clear hrow hW
  have k0 : rowsCells[30]? = some (.int .i64 240) := rfl
  have k1 : rowsCells[31]? = some (.int .i64 240) := rfl
  have k2 : rowsCells[32]? = some (.int .i64 144) := rfl
  have k3 : rowsCells[33]? = some (.int .i64 191) := rfl
  have k4 : rowsCells[34]? = some (.int .i64 4) := rfl
  go_wp2
  refine bodyPost_ret (v := .agg #[.int .i64 240, .int .i64 240, .int .i64 144, .int .i64 191, .int .i64 4]) ?_ rfl ⟨rfl, ?_⟩
  · simp [results, Tryd.f102, go_sem, Tryd.underlying126]
  · exact ((Below.refl _ w).alloc (Nat.le_refl _) _).alloc (by simp) _
set_option maxRecDepth 100000 in
set_option maxHeartbeats 4000000 in
theorem monikerref02_row.at7 (w : World) : Calls Tryd.prog 102 #[.int .i64 7] w fun e w' => e = .returned (.agg #[.int .i64 241, .int .i64 243, .int .i64 128, .int .i64 191, .int .i64 4]) ∧ Below w.heap.size w w' := by
  go_enter Tryd.func102, Tryd.ntmps102
  go_upto_region 1 with (fail)
  refine wp_region_list ?_
  refine wpList_build rfl 126 _ rfl (by kernel_rfl) ?_
  refine wpList_build rfl 126 _ rfl (by kernel_rfl) ?_
  refine wpList_build rfl 126 _ rfl (by kernel_rfl) ?_
  refine wpList_build rfl 126 _ rfl (by kernel_rfl) ?_
  refine wpList_build rfl 126 _ rfl (by kernel_rfl) ?_
  refine wpList_build rfl 126 _ rfl (by kernel_rfl) ?_
  refine wpList_build rfl 126 _ rfl (by kernel_rfl) ?_
  refine wpList_build rfl 126 _ rfl (by kernel_rfl) ?_
  refine wpList_build rfl 126 _ rfl (by kernel_rfl) ?_
  refine wpList_build rfl 146 _ rfl (by kernel_rfl) ?_
  generalize hA : (Act.put _ _ _) = A
  have hA2 : A = { tmps := #[.int .i64 7, undef, .pointer (some ⟨w.heap.size, 0, none⟩), undef, .agg #[.int .i64 0, .int .i64 127, .int .i64 0, .int .i64 0, .int .i64 1], .agg #[.int .i64 194, .int .i64 223, .int .i64 128, .int .i64 191, .int .i64 2], .agg #[.int .i64 224, .int .i64 224, .int .i64 160, .int .i64 191, .int .i64 3], .agg #[.int .i64 225, .int .i64 236, .int .i64 128, .int .i64 191, .int .i64 3], .agg #[.int .i64 237, .int .i64 237, .int .i64 128, .int .i64 159, .int .i64 3], .agg #[.int .i64 238, .int .i64 239, .int .i64 128, .int .i64 191, .int .i64 3], .agg #[.int .i64 240, .int .i64 240, .int .i64 144, .int .i64 191, .int .i64 4], .agg #[.int .i64 241, .int .i64 243, .int .i64 128, .int .i64 191, .int .i64 4], .agg #[.int .i64 244, .int .i64 244, .int .i64 128, .int .i64 143, .int .i64 4], .agg rowsCells, undef, undef, undef], defers := [] } := by rw [← hA]; kernel_rfl
  subst hA2
  clear hA
  refine wpList_plain rfl (fun K hK => ?_)
  go_simp
  refine hK _ _ ?_
  clear hK K
  refine wpList_store_row rfl 146 (.tmp 3) (.tmp 13) rfl (w.heap.size + 1) rowsCells rfl rfl 146 _ (by have := World.alloc_heap_new (w.alloc (.cells #[.int .i64 0, .int .i64 0, .int .i64 0, .int .i64 0, .int .i64 0] 126)) (.cells (Array.replicate 45 (.int .i64 0)) 146); rw [World.size_alloc] at this; exact this) rowsInfo (by kernel_rfl) (by kernel_rfl) ?_
  have hrow := World.setRow_alloc_new (w.alloc (.cells #[.int .i64 0, .int .i64 0, .int .i64 0, .int .i64 0, .int .i64 0] 126)) (Array.replicate 45 (.int .i64 0)) rowsCells 146
  rw [World.size_alloc] at hrow
  refine wpList_nil ?_
  generalize hW : (World.setRow _ _ _) = W2
  rw [show W2 = _ from hW.symm.trans hrow]
  clear hrow hW
  have k0 : rowsCells[35]? = some (.int .i64 241) := rfl
  have k1 : rowsCells[36]? = some (.int .i64 243) := rfl
  have k2 : rowsCells[37]? = some (.int .i64 128) := rfl
  have k3 : rowsCells[38]? = some (.int .i64 191) := rfl
  have k4 : rowsCells[39]? = some (.int .i64 4) := rfl
  go_wp2
  refine bodyPost_ret (v := .agg #[.int .i64 241, .int .i64 243, .int .i64 128, .int .i64 191, .int .i64 4]) ?_ rfl ⟨rfl, ?_⟩
  · simp [results, Tryd.f102, go_sem, Tryd.underlying126]
  · exact ((Below.refl _ w).alloc (Nat.le_refl _) _).alloc (by simp) _
set_option maxRecDepth 100000 in
set_option maxHeartbeats 4000000 in
theorem monikerref02_row.at8 (w : World) : Calls Tryd.prog 102 #[.int .i64 8] w fun e w' => e = .returned (.agg #[.int .i64 244, .int .i64 244, .int .i64 128, .int .i64 143, .int .i64 4]) ∧ Below w.heap.size w w' := by
  go_enter Tryd.func102, Tryd.ntmps102
  go_upto_region 1 with (fail)
  refine wp_region_list ?_
  refine wpList_build rfl 126 _ rfl (by kernel_rfl) ?_
  refine wpList_build rfl 126 _ rfl (by kernel_rfl) ?_
  refine wpList_build rfl 126 _ rfl (by kernel_rfl) ?_
  refine wpList_build rfl 126 _ rfl (by kernel_rfl) ?_
  refine wpList_build rfl 126 _ rfl (by kernel_rfl) ?_
  refine wpList_build rfl 126 _ rfl (by kernel_rfl) ?_
  refine wpList_build rfl 126 _ rfl (by kernel_rfl) ?_
  refine wpList_build rfl 126 _ rfl (by kernel_rfl) ?_
  refine wpList_build rfl 126 _ rfl (by kernel_rfl) ?_
  refine wpList_build rfl 146 _ rfl (by kernel_rfl) ?_
  generalize hA : (Act.put _ _ _) = A
  have hA2 : A = { tmps := #[.int .i64 8, undef, .pointer (some ⟨w.heap.size, 0, none⟩), undef, .agg #[.int .i64 0, .int .i64 127, .int .i64 0, .int .i64 0, .int .i64 1], .agg #[.int .i64 194, .int .i64 223, .int .i64 128, .int .i64 191, .int .i64 2], .agg #[.int .i64 224, .int .i64 224, .int .i64 160, .int .i64 191, .int .i64 3], .agg #[.int .i64 225, .int .i64 236, .int .i64 128, .int .i64 191, .int .i64 3], .agg #[.int .i64 237, .int .i64 237, .int .i64 128, .int .i64 159, .int .i64 3], .agg #[.int .i64 238, .int .i64 239, .int .i64 128, .int .i64 191, .int .i64 3], .agg #[.int .i64 240, .int .i64 240, .int .i64 144, .int .i64 191, .int .i64 4], .agg #[.int .i64 241, .int .i64 243, .int .i64 128, .int .i64 191, .int .i64 4], .agg #[.int .i64 244, .int .i64 244, .int .i64 128, .int .i64 143, .int .i64 4], .agg rowsCells, undef, undef, undef], defers := [] } := by rw [← hA]; kernel_rfl
  subst hA2
  clear hA
  refine wpList_plain rfl (fun K hK => ?_)
  go_simp
  refine hK _ _ ?_
  clear hK K
  refine wpList_store_row rfl 146 (.tmp 3) (.tmp 13) rfl (w.heap.size + 1) rowsCells rfl rfl 146 _ (by have := World.alloc_heap_new (w.alloc (.cells #[.int .i64 0, .int .i64 0, .int .i64 0, .int .i64 0, .int .i64 0] 126)) (.cells (Array.replicate 45 (.int .i64 0)) 146); rw [World.size_alloc] at this; exact this) rowsInfo (by kernel_rfl) (by kernel_rfl) ?_
  have hrow := World.setRow_alloc_new (w.alloc (.cells #[.int .i64 0, .int .i64 0, .int .i64 0, .int .i64 0, .int .i64 0] 126)) (Array.replicate 45 (.int .i64 0)) rowsCells 146
  rw [World.size_alloc] at hrow
  refine wpList_nil ?_
  generalize hW : (World.setRow _ _ _) = W2
  rw [show W2 = _ from hW.symm.trans hrow]
  clear hrow hW
  have k0 : rowsCells[40]? = some (.int .i64 244) := rfl
  have k1 : rowsCells[41]? = some (.int .i64 244) := rfl
  have k2 : rowsCells[42]? = some (.int .i64 128) := rfl
  have k3 : rowsCells[43]? = some (.int .i64 143) := rfl
  have k4 : rowsCells[44]? = some (.int .i64 4) := rfl
  go_wp2
  refine bodyPost_ret (v := .agg #[.int .i64 244, .int .i64 244, .int .i64 128, .int .i64 143, .int .i64 4]) ?_ rfl ⟨rfl, ?_⟩
  · simp [results, Tryd.f102, go_sem, Tryd.underlying126]
  · exact ((Below.refl _ w).alloc (Nat.le_refl _) _).alloc (by simp) _
theorem monikerref02_row.calls (a0 : Int) (r1 : Int) (r2 : Int) (r3 : Int) (r4 : Int) (r5 : Int) (w : World) (h : monikerref02_row.f a0 = some (r1, r2, r3, r4, r5)) :
    Calls Tryd.prog 102 #[.int .i64 a0] w fun e w' => e = .returned (.agg #[.int .i64 r1, .int .i64 r2, .int .i64 r3, .int .i64 r4, .int .i64 r5]) ∧ Below w.heap.size w w' := by
  unfold monikerref02_row.f at h
  split at h
  case isFalse => cases h
  rename_i h0
  obtain ⟨n, rfl⟩ := Int.eq_ofNat_of_zero_le h0
  rw [Int.toNat_natCast] at h
  have hn : n < 9 := (List.getElem?_eq_some_iff.1 h).1
  match n, hn, h with
  | 0, _, h => simp [rowsTab] at h; obtain ⟨rfl, rfl, rfl, rfl, rfl⟩ := h; exact monikerref02_row.at0 w
  | 1, _, h => simp [rowsTab] at h; obtain ⟨rfl, rfl, rfl, rfl, rfl⟩ := h; exact monikerref02_row.at1 w
  | 2, _, h => simp [rowsTab] at h; obtain ⟨rfl, rfl, rfl, rfl, rfl⟩ := h; exact monikerref02_row.at2 w
  | 3, _, h => simp [rowsTab] at h; obtain ⟨rfl, rfl, rfl, rfl, rfl⟩ := h; exact monikerref02_row.at3 w
  | 4, _, h => simp [rowsTab] at h; obtain ⟨rfl, rfl, rfl, rfl, rfl⟩ := h; exact monikerref02_row.at4 w
  | 5, _, h => simp [rowsTab] at h; obtain ⟨rfl, rfl, rfl, rfl, rfl⟩ := h; exact monikerref02_row.at5 w
  | 6, _, h => simp [rowsTab] at h; obtain ⟨rfl, rfl, rfl, rfl, rfl⟩ := h; exact monikerref02_row.at6 w
  | 7, _, h => simp [rowsTab] at h; obtain ⟨rfl, rfl, rfl, rfl, rfl⟩ := h; exact monikerref02_row.at7 w
  | 8, _, h => simp [rowsTab] at h; obtain ⟨rfl, rfl, rfl, rfl, rfl⟩ := h; exact monikerref02_row.at8 w
mutual
def monikerref02_fits.l0 : Nat → ByteArray → Int → Int → Int → Int → Int → Int → Option (Int)
  | 0, _, _, _, _, _, _, _ => none
  | k + 1, x0, x5, x201000, x201001, x201002, x201003, x201004 => if x5 < (x0.size : Int) then (monikerref02_fits.j1 k x0 x5 (decide (x5 < x201004)) x201000 x201001 x201002 x201003 x201004) else (monikerref02_fits.j1 k x0 x5 false x201000 x201001 x201002 x201003 x201004)
def monikerref02_fits.j1 : Nat → ByteArray → Int → Bool → Int → Int → Int → Int → Int → Option (Int)
  | 0, _, _, _, _, _, _, _, _ => none
  | k + 1, x0, x5, x17, x201000, x201001, x201002, x201003, x201004 => if x17 = true then (if x5 = 0 then (monikerref02_fits.j2 k x0 x5 x201000 x201001 x201000 x201001 x201002 x201003 x201004) else (monikerref02_fits.j2 k x0 x5 128 191 x201000 x201001 x201002 x201003 x201004)) else (some x5)
def monikerref02_fits.j2 : Nat → ByteArray → Int → Int → Int → Int → Int → Int → Int → Int → Option (Int)
  | 0, _, _, _, _, _, _, _, _, _ => none
  | k + 1, x0, x5, x6, x7, x201000, x201001, x201002, x201003, x201004 => if x5 = 1 then (if 0 ≤ x5 then (if x5 < (x0.size : Int) then (if (wrap64 (bt x0 x5)) < x201002 then (some x5) else (if (wrap64 (bt x0 x5)) > x201003 then (some x5) else (monikerref02_fits.l0 k x0 (wrap64 (x5 + 1)) x201000 x201001 x201002 x201003 x201004))) else (none)) else (none)) else (if 0 ≤ x5 then (if x5 < (x0.size : Int) then (if (wrap64 (bt x0 x5)) < x6 then (some x5) else (if (wrap64 (bt x0 x5)) > x7 then (some x5) else (monikerref02_fits.l0 k x0 (wrap64 (x5 + 1)) x201000 x201001 x201002 x201003 x201004))) else (none)) else (none))
end
def monikerref02_fits.f (k : Nat) (a0 : ByteArray) (a1_0 : Int) (a1_1 : Int) (a1_2 : Int) (a1_3 : Int) (a1_4 : Int) : Option (Int) := monikerref02_fits.l0 k a0 0 a1_0 a1_1 a1_2 a1_3 a1_4
set_option maxHeartbeats 8000000 in
set_option maxRecDepth 100000 in
theorem monikerref02_fits.calls (k : Nat) (a0 : ByteArray) (a1_0 : Int) (a1_1 : Int) (a1_2 : Int) (a1_3 : Int) (a1_4 : Int) (r : Int) (w : World) (h : monikerref02_fits.f k a0 a1_0 a1_1 a1_2 a1_3 a1_4 = some r) :
    Calls Tryd.prog 103 #[.string a0, .agg #[.int .i64 a1_0, .int .i64 a1_1, .int .i64 a1_2, .int .i64 a1_3, .int .i64 a1_4]] w fun e w' => e = .returned (.int .i64 r) ∧ Below w.heap.size w w' := by
  have hu126 := Tryd.underlying126
  have HB := Aside0.mk (Below.refl w.heap.size w)
  have H : (monikerref02_fits.l0 k a0 0 a1_0 a1_1 a1_2 a1_3 a1_4) = some r := h
  clear h
  have H' := Aside0.mk H
  clear H
  go_enter Tryd.func103, Tryd.ntmps103
  go_wp2_with (first | ((with_reducible refine gate_dst (N := 3) rfl ?_); refine box_event ?hg (N := 3) ?hd (cs := #[.int .i64 a1_0, .int .i64 a1_1, .int .i64 a1_2, .int .i64 a1_3, .int .i64 a1_4]) (t := 126) ?hr ?_; (case hd => rfl); (case hg => rfl); (case hr => first | (go_simp; done) | (go_simp; rfl)); intro gb200 hg w3 hbox hb; have n0_ := Aside0.mk (below_step (by repeat (first | (with_reducible first | exact HB.out | apply below_alloc | apply pw_below_drewN | apply below_drew1) | exact HB.out)) hb); have n1_ := Aside0.mk (hbox); have n2_ := Aside0.mk ((by rw [hg]; exact (below_size (by repeat (first | (with_reducible first | exact HB.out | apply below_alloc | apply pw_below_drewN | apply below_drew1) | exact HB.out))) : w.heap.size ≤ gb200)); have n3_ := Aside0.mk ((by rw [hg]; exact (below_size (by repeat (first | (with_reducible first | exact HB.out | apply below_alloc | apply pw_below_drewN | apply below_drew1) | exact HB.out))) : w.heap.size ≤ gb200)); clear HB; have HB := n0_; have BK200 := n1_; have GW200 := n2_; have GE200 := n3_; clear n0_ n1_ n2_ n3_; clear hb hbox hg))
  go_loopg [5] k (fun kq v5 w' => ∃ (x5_1 : Int), v5 = .int .i64 x5_1 ∧ Aside0 (monikerref02_fits.l0 kq a0 x5_1 a1_0 a1_1 a1_2 a1_3 a1_4 = some r) ∧ Aside0 (kq ≤ k) ∧ Aside0 (w'.heap[gb200]? = some (.cells #[.int .i64 a1_0, .int .i64 a1_1, .int .i64 a1_2, .int .i64 a1_3, .int .i64 a1_4] 126 (0, 0))) ∧ Aside0 (Below w.heap.size w w'))
  case atStart => exact ⟨(0), (by first | rfl | (simp; done) | (simp [*]; done)), H', ⟨Nat.le_refl _⟩, ⟨by (with_reducible repeat (first | refine blk_drewN ?_ _ | refine blk_drew ?_ | refine blk_alloc ?_ _)); exact BK200.out⟩, ⟨by repeat (first | (with_reducible first | exact HB.out | apply below_alloc | apply pw_below_drewN | apply below_drew1 | refine below_set ?_ GE200.out) | exact HB.out)⟩⟩
  case round =>
    clear H'
    try clear c1
    try clear p2
    obtain ⟨x5_1, rfl, HA, HK1, BK200, HB⟩ := hrel
    cases gk with
    | zero => exact absurd HA.out (by simp [monikerref02_fits.l0])
    | succ k1 =>
      have H := HA.out
      clear HA
      simp only [monikerref02_fits.l0] at H
      have HC4 := Aside0.mk H
      clear H
      go_upto_region 2 with (fail)
      go_cut [17] (fun v17 wc => ∃ (kq : Nat) (x17_3 : Bool), v17 = .bool x17_3 ∧ Aside0 (monikerref02_fits.j1 kq a0 x5_1 x17_3 a1_0 a1_1 a1_2 a1_3 a1_4 = some r) ∧ Aside0 (kq ≤ k1) ∧ Aside0 (wc.heap[gb200]? = some (.cells #[.int .i64 a1_0, .int .i64 a1_1, .int .i64 a1_2, .int .i64 a1_3, .int .i64 a1_4] 126 (0, 0))) ∧ Aside0 (Below w.heap.size w wc))
      case first =>
        have H := HC4.out
        clear HC4
        by_cases c5 : x5_1 < (a0.size : Int)
        · rw [if_pos c5] at H
          have c5b0 : decide (x5_1 < (a0.size : Int)) = true := decide_eq_true c5
          clear c5
          (first | rw [c5b0] | (simp only [i64_w, i32_w]; rw [c5b0]) | skip)
          have H' := Aside0.mk H
          clear H
          have hcz6_0 : wr.cell? ⟨gb200, 0, none⟩ = some (.int .i64 a1_0) := (blk_cell BK200.out 0).trans rfl
          have hcz6_1 : wr.cell? ⟨gb200, 1, none⟩ = some (.int .i64 a1_1) := (blk_cell BK200.out 1).trans rfl
          have hcz6_2 : wr.cell? ⟨gb200, 2, none⟩ = some (.int .i64 a1_2) := (blk_cell BK200.out 2).trans rfl
          have hcz6_3 : wr.cell? ⟨gb200, 3, none⟩ = some (.int .i64 a1_3) := (blk_cell BK200.out 3).trans rfl
          have hcz6_4 : wr.cell? ⟨gb200, 4, none⟩ = some (.int .i64 a1_4) := (blk_cell BK200.out 4).trans rfl
          have hfz6_0 := blk_frozen BK200.out 0
          have hfz6_1 := blk_frozen BK200.out 1
          have hfz6_2 := blk_frozen BK200.out 2
          have hfz6_3 := blk_frozen BK200.out 3
          have hfz6_4 := blk_frozen BK200.out 4
          go_wp2
          go_meet
          case rel => exact ⟨_, (decide (x5_1 < a1_4)), (by first | rfl | (simp; done) | (simp [*]; done)), H', ⟨by have := HK1.out; first | omega | exact Nat.le_refl _⟩, ⟨by (with_reducible repeat (first | refine blk_drewN ?_ _ | refine blk_drew ?_ | refine blk_alloc ?_ _)); exact BK200.out⟩, ⟨by repeat (first | (with_reducible first | exact HB.out | apply below_alloc | apply pw_below_drewN | apply below_drew1 | refine below_set ?_ GE200.out) | exact HB.out)⟩⟩
        · rw [if_neg c5] at H
          have c5b0 : decide (x5_1 < (a0.size : Int)) = false := decide_eq_false c5
          clear c5
          (first | rw [c5b0] | (simp only [i64_w, i32_w]; rw [c5b0]) | skip)
          have H' := Aside0.mk H
          clear H
          go_wp2
          go_meet
          case rel => exact ⟨_, (false), (by first | rfl | (simp; done) | (simp [*]; done)), H', ⟨by have := HK1.out; first | omega | exact Nat.le_refl _⟩, ⟨by (with_reducible repeat (first | refine blk_drewN ?_ _ | refine blk_drew ?_ | refine blk_alloc ?_ _)); exact BK200.out⟩, ⟨by repeat (first | (with_reducible first | exact HB.out | apply below_alloc | apply pw_below_drewN | apply below_drew1 | refine below_set ?_ GE200.out) | exact HB.out)⟩⟩
      case rest =>
        clear HC4
        try clear c1
        try clear p2
        try clear c5
        try clear c5b0
        try clear hcz6_0
        try clear hcz6_1
        try clear hcz6_2
        try clear hcz6_3
        try clear hcz6_4
        try clear hfz6_0
        try clear hfz6_1
        try clear hfz6_2
        try clear hfz6_3
        try clear hfz6_4
        try clear p2
        obtain ⟨kq, x17_3, rfl, HA, HJ3, BK200, HB⟩ := hcut
        cases kq with
        | zero => exact absurd HA.out (by simp [monikerref02_fits.j1])
        | succ kj3 =>
          have H := HA.out
          clear HA
          simp only [monikerref02_fits.j1] at H
          by_cases c7 : x17_3 = true
          · subst c7
            have H1 : (if x5_1 = 0 then (monikerref02_fits.j2 kj3 a0 x5_1 a1_0 a1_1 a1_0 a1_1 a1_2 a1_3 a1_4) else (monikerref02_fits.j2 kj3 a0 x5_1 128 191 a1_0 a1_1 a1_2 a1_3 a1_4)) = some r := by rw [if_pos rfl] at H; exact H
            clear H
            have H := H1
            clear H1
            have HC8 := Aside0.mk H
            clear H
            go_upto_if 19 with (fail)
            go_cut [6, 7] (fun v6 v7 wc => ∃ (kq : Nat) (x6_7 : Int) (x7_7 : Int), v6 = .int .i64 x6_7 ∧ v7 = .int .i64 x7_7 ∧ Aside0 (monikerref02_fits.j2 kq a0 x5_1 x6_7 x7_7 a1_0 a1_1 a1_2 a1_3 a1_4 = some r) ∧ Aside0 (kq ≤ kj3) ∧ Aside0 (wc.heap[gb200]? = some (.cells #[.int .i64 a1_0, .int .i64 a1_1, .int .i64 a1_2, .int .i64 a1_3, .int .i64 a1_4] 126 (0, 0))) ∧ Aside0 (Below w.heap.size w wc))
            case first =>
              have H := HC8.out
              clear HC8
              by_cases c9 : x5_1 = 0
              · rw [if_pos c9] at H
                have c9b0 : (x5_1 == 0) = true := beq_iff_eq.mpr c9
                have c9b1 : (x5_1 != 0) = false := bne_eq_false_iff_eq.mpr c9
                clear c9
                (first | rw [c9b0] | (simp only [i64_w, i32_w]; rw [c9b0]) | skip)
                have H' := Aside0.mk H
                clear H
                have hcz10_0 : wc.cell? ⟨gb200, 0, none⟩ = some (.int .i64 a1_0) := (blk_cell BK200.out 0).trans rfl
                have hcz10_1 : wc.cell? ⟨gb200, 1, none⟩ = some (.int .i64 a1_1) := (blk_cell BK200.out 1).trans rfl
                have hcz10_2 : wc.cell? ⟨gb200, 2, none⟩ = some (.int .i64 a1_2) := (blk_cell BK200.out 2).trans rfl
                have hcz10_3 : wc.cell? ⟨gb200, 3, none⟩ = some (.int .i64 a1_3) := (blk_cell BK200.out 3).trans rfl
                have hcz10_4 : wc.cell? ⟨gb200, 4, none⟩ = some (.int .i64 a1_4) := (blk_cell BK200.out 4).trans rfl
                have hfz10_0 := blk_frozen BK200.out 0
                have hfz10_1 := blk_frozen BK200.out 1
                have hfz10_2 := blk_frozen BK200.out 2
                have hfz10_3 := blk_frozen BK200.out 3
                have hfz10_4 := blk_frozen BK200.out 4
                go_wp2
                go_meet
                case rel => exact ⟨_, (a1_0), (a1_1), (by first | rfl | (simp; done) | (simp [*]; done)), (by first | rfl | (simp; done) | (simp [*]; done)), H', ⟨by have := HK1.out; have := HJ3.out; first | omega | exact Nat.le_refl _⟩, ⟨by (with_reducible repeat (first | refine blk_drewN ?_ _ | refine blk_drew ?_ | refine blk_alloc ?_ _)); exact BK200.out⟩, ⟨by repeat (first | (with_reducible first | exact HB.out | apply below_alloc | apply pw_below_drewN | apply below_drew1 | refine below_set ?_ GE200.out) | exact HB.out)⟩⟩
              · rw [if_neg c9] at H
                have c9b0 : (x5_1 == 0) = false := beq_eq_false_iff_ne.mpr c9
                have c9b1 : (x5_1 != 0) = true := bne_iff_ne.mpr c9
                (first | rw [c9b0] | (simp only [i64_w, i32_w]; rw [c9b0]) | skip)
                have H' := Aside0.mk H
                clear H
                go_wp2
                go_meet
                case rel => exact ⟨_, (128), (191), (by first | rfl | (simp; done) | (simp [*]; done)), (by first | rfl | (simp; done) | (simp [*]; done)), H', ⟨by have := HK1.out; have := HJ3.out; first | omega | exact Nat.le_refl _⟩, ⟨by (with_reducible repeat (first | refine blk_drewN ?_ _ | refine blk_drew ?_ | refine blk_alloc ?_ _)); exact BK200.out⟩, ⟨by repeat (first | (with_reducible first | exact HB.out | apply below_alloc | apply pw_below_drewN | apply below_drew1 | refine below_set ?_ GE200.out) | exact HB.out)⟩⟩
            case rest =>
              clear HC8
              try clear c1
              try clear p2
              try clear c5
              try clear c5b0
              try clear c7
              try clear c9
              try clear c9b0
              try clear c9b1
              try clear c10
              try clear hcz10_0
              try clear hcz10_1
              try clear hcz10_2
              try clear hcz10_3
              try clear hcz10_4
              try clear hcz6_0
              try clear hcz6_1
              try clear hcz6_2
              try clear hcz6_3
              try clear hcz6_4
              try clear hfz10_0
              try clear hfz10_1
              try clear hfz10_2
              try clear hfz10_3
              try clear hfz10_4
              try clear hfz6_0
              try clear hfz6_1
              try clear hfz6_2
              try clear hfz6_3
              try clear hfz6_4
              try clear p2
              obtain ⟨kq, x6_7, x7_7, rfl, rfl, HA, HJ7, BK200, HB⟩ := hcut
              cases kq with
              | zero => exact absurd HA.out (by simp [monikerref02_fits.j2])
              | succ kj7 =>
                have H := HA.out
                clear HA
                simp only [monikerref02_fits.j2] at H
                by_cases c11 : x5_1 = 1
                · rw [if_pos c11] at H
                  have c11b0 : (x5_1 == 1) = true := beq_iff_eq.mpr c11
                  have c11b1 : (x5_1 != 1) = false := bne_eq_false_iff_eq.mpr c11
                  clear c11
                  by_cases c12 : 0 ≤ x5_1
                  · rw [if_pos c12] at H
                    have c12b0 : decide (0 ≤ x5_1) = true := decide_eq_true c12
                    clear c12
                    by_cases c13 : x5_1 < (a0.size : Int)
                    · rw [if_pos c13] at H
                      have c13b0 : decide (x5_1 < (a0.size : Int)) = true := decide_eq_true c13
                      clear c13
                      by_cases c15 : (wrap64 (bt a0 x5_1)) < a1_2
                      · rw [if_pos c15] at H
                        have c15b0 : decide ((wrap64 (bt a0 x5_1)) < a1_2) = true := decide_eq_true c15
                        clear c15
                        obtain rfl := Option.some.inj H
                        have hcz16_0 : wc.cell? ⟨gb200, 0, none⟩ = some (.int .i64 a1_0) := (blk_cell BK200.out 0).trans rfl
                        have hcz16_1 : wc.cell? ⟨gb200, 1, none⟩ = some (.int .i64 a1_1) := (blk_cell BK200.out 1).trans rfl
                        have hcz16_2 : wc.cell? ⟨gb200, 2, none⟩ = some (.int .i64 a1_2) := (blk_cell BK200.out 2).trans rfl
                        have hcz16_3 : wc.cell? ⟨gb200, 3, none⟩ = some (.int .i64 a1_3) := (blk_cell BK200.out 3).trans rfl
                        have hcz16_4 : wc.cell? ⟨gb200, 4, none⟩ = some (.int .i64 a1_4) := (blk_cell BK200.out 4).trans rfl
                        have hfz16_0 := blk_frozen BK200.out 0
                        have hfz16_1 := blk_frozen BK200.out 1
                        have hfz16_2 := blk_frozen BK200.out 2
                        have hfz16_3 := blk_frozen BK200.out 3
                        have hfz16_4 := blk_frozen BK200.out 4
                        have p14 : 0 ≤ (x5_1 : Int) := of_decide_eq_true (by first | (with_reducible assumption) | assumption)
                        have q14 : x5_1 < (a0.size : Int) := of_decide_eq_true (by first | (with_reducible assumption) | assumption)
                        have hx14 := bt_at a0 x5_1
                        replace p14 := eq_true p14
                        replace q14 := eq_true q14
                        go_wp2
                        go_ret
                        exact ⟨by first | rfl | (simp [errW_none, errW_some] <;> rfl) | (simp [*, errW_none, errW_some] <;> rfl) | (simp [*, errW_none, errW_some, Glue.bne_nil] <;> rfl), by repeat (first | (with_reducible first | exact HB.out | apply below_alloc | apply pw_below_drewN | apply below_drew1 | refine below_set ?_ GE200.out) | exact HB.out)⟩
                      · rw [if_neg c15] at H
                        have c15b0 : decide ((wrap64 (bt a0 x5_1)) < a1_2) = false := decide_eq_false c15
                        clear c15
                        by_cases c18 : (wrap64 (bt a0 x5_1)) > a1_3
                        · rw [if_pos c18] at H
                          have c18b0 : decide (a1_3 < (wrap64 (bt a0 x5_1))) = true := decide_eq_true c18
                          clear c18
                          obtain rfl := Option.some.inj H
                          have hcz19_0 : wc.cell? ⟨gb200, 0, none⟩ = some (.int .i64 a1_0) := (blk_cell BK200.out 0).trans rfl
                          have hcz19_1 : wc.cell? ⟨gb200, 1, none⟩ = some (.int .i64 a1_1) := (blk_cell BK200.out 1).trans rfl
                          have hcz19_2 : wc.cell? ⟨gb200, 2, none⟩ = some (.int .i64 a1_2) := (blk_cell BK200.out 2).trans rfl
                          have hcz19_3 : wc.cell? ⟨gb200, 3, none⟩ = some (.int .i64 a1_3) := (blk_cell BK200.out 3).trans rfl
                          have hcz19_4 : wc.cell? ⟨gb200, 4, none⟩ = some (.int .i64 a1_4) := (blk_cell BK200.out 4).trans rfl
                          have hfz19_0 := blk_frozen BK200.out 0
                          have hfz19_1 := blk_frozen BK200.out 1
                          have hfz19_2 := blk_frozen BK200.out 2
                          have hfz19_3 := blk_frozen BK200.out 3
                          have hfz19_4 := blk_frozen BK200.out 4
                          have p14 : 0 ≤ (x5_1 : Int) := of_decide_eq_true (by first | (with_reducible assumption) | assumption)
                          have q14 : x5_1 < (a0.size : Int) := of_decide_eq_true (by first | (with_reducible assumption) | assumption)
                          have hx14 := bt_at a0 x5_1
                          replace p14 := eq_true p14
                          replace q14 := eq_true q14
                          have p17 : 0 ≤ (x5_1 : Int) := of_decide_eq_true (by first | (with_reducible assumption) | assumption)
                          have q17 : x5_1 < (a0.size : Int) := of_decide_eq_true (by first | (with_reducible assumption) | assumption)
                          have hx17 := bt_at a0 x5_1
                          replace p17 := eq_true p17
                          replace q17 := eq_true q17
                          go_wp2
                          go_ret
                          exact ⟨by first | rfl | (simp [errW_none, errW_some] <;> rfl) | (simp [*, errW_none, errW_some] <;> rfl) | (simp [*, errW_none, errW_some, Glue.bne_nil] <;> rfl), by repeat (first | (with_reducible first | exact HB.out | apply below_alloc | apply pw_below_drewN | apply below_drew1 | refine below_set ?_ GE200.out) | exact HB.out)⟩
                        · rw [if_neg c18] at H
                          have c18b0 : decide (a1_3 < (wrap64 (bt a0 x5_1))) = false := decide_eq_false c18
                          clear c18
                          have H' := Aside0.mk H
                          clear H
                          have hcz20_0 : wc.cell? ⟨gb200, 0, none⟩ = some (.int .i64 a1_0) := (blk_cell BK200.out 0).trans rfl
                          have hcz20_1 : wc.cell? ⟨gb200, 1, none⟩ = some (.int .i64 a1_1) := (blk_cell BK200.out 1).trans rfl
                          have hcz20_2 : wc.cell? ⟨gb200, 2, none⟩ = some (.int .i64 a1_2) := (blk_cell BK200.out 2).trans rfl
                          have hcz20_3 : wc.cell? ⟨gb200, 3, none⟩ = some (.int .i64 a1_3) := (blk_cell BK200.out 3).trans rfl
                          have hcz20_4 : wc.cell? ⟨gb200, 4, none⟩ = some (.int .i64 a1_4) := (blk_cell BK200.out 4).trans rfl
                          have hfz20_0 := blk_frozen BK200.out 0
                          have hfz20_1 := blk_frozen BK200.out 1
                          have hfz20_2 := blk_frozen BK200.out 2
                          have hfz20_3 := blk_frozen BK200.out 3
                          have hfz20_4 := blk_frozen BK200.out 4
                          have p14 : 0 ≤ (x5_1 : Int) := of_decide_eq_true (by first | (with_reducible assumption) | assumption)
                          have q14 : x5_1 < (a0.size : Int) := of_decide_eq_true (by first | (with_reducible assumption) | assumption)
                          have hx14 := bt_at a0 x5_1
                          replace p14 := eq_true p14
                          replace q14 := eq_true q14
                          have p17 : 0 ≤ (x5_1 : Int) := of_decide_eq_true (by first | (with_reducible assumption) | assumption)
                          have q17 : x5_1 < (a0.size : Int) := of_decide_eq_true (by first | (with_reducible assumption) | assumption)
                          have hx17 := bt_at a0 x5_1
                          replace p17 := eq_true p17
                          replace q17 := eq_true q17
                          go_wp2
                          go_roundg kj7
                          case measure => have := HK1.out; have := HJ3.out; have := HJ7.out; omega
                          case rel => exact ⟨(wrap64 (x5_1 + 1)), (by first | rfl | (simp; done) | (simp [*]; done)), H', ⟨by have := HK1.out; have := HJ3.out; have := HJ7.out; omega⟩, ⟨by (with_reducible repeat (first | refine blk_drewN ?_ _ | refine blk_drew ?_ | refine blk_alloc ?_ _)); exact BK200.out⟩, ⟨by repeat (first | (with_reducible first | exact HB.out | apply below_alloc | apply pw_below_drewN | apply below_drew1 | refine below_set ?_ GE200.out) | exact HB.out)⟩⟩
                    · rw [if_neg c13] at H
                      exact absurd H (by simp)
                  · rw [if_neg c12] at H
                    exact absurd H (by simp)
                · rw [if_neg c11] at H
                  have c11b0 : (x5_1 == 1) = false := beq_eq_false_iff_ne.mpr c11
                  have c11b1 : (x5_1 != 1) = true := bne_iff_ne.mpr c11
                  by_cases c21 : 0 ≤ x5_1
                  · rw [if_pos c21] at H
                    have c21b0 : decide (0 ≤ x5_1) = true := decide_eq_true c21
                    clear c21
                    by_cases c22 : x5_1 < (a0.size : Int)
                    · rw [if_pos c22] at H
                      have c22b0 : decide (x5_1 < (a0.size : Int)) = true := decide_eq_true c22
                      clear c22
                      by_cases c24 : (wrap64 (bt a0 x5_1)) < x6_7
                      · rw [if_pos c24] at H
                        have c24b0 : decide ((wrap64 (bt a0 x5_1)) < x6_7) = true := decide_eq_true c24
                        clear c24
                        obtain rfl := Option.some.inj H
                        have p23 : 0 ≤ (x5_1 : Int) := of_decide_eq_true (by first | (with_reducible assumption) | assumption)
                        have q23 : x5_1 < (a0.size : Int) := of_decide_eq_true (by first | (with_reducible assumption) | assumption)
                        have hx23 := bt_at a0 x5_1
                        replace p23 := eq_true p23
                        replace q23 := eq_true q23
                        go_wp2
                        go_ret
                        exact ⟨by first | rfl | (simp [errW_none, errW_some] <;> rfl) | (simp [*, errW_none, errW_some] <;> rfl) | (simp [*, errW_none, errW_some, Glue.bne_nil] <;> rfl), by repeat (first | (with_reducible first | exact HB.out | apply below_alloc | apply pw_below_drewN | apply below_drew1 | refine below_set ?_ GE200.out) | exact HB.out)⟩
                      · rw [if_neg c24] at H
                        have c24b0 : decide ((wrap64 (bt a0 x5_1)) < x6_7) = false := decide_eq_false c24
                        clear c24
                        by_cases c26 : (wrap64 (bt a0 x5_1)) > x7_7
                        · rw [if_pos c26] at H
                          have c26b0 : decide (x7_7 < (wrap64 (bt a0 x5_1))) = true := decide_eq_true c26
                          clear c26
                          obtain rfl := Option.some.inj H
                          have p23 : 0 ≤ (x5_1 : Int) := of_decide_eq_true (by first | (with_reducible assumption) | assumption)
                          have q23 : x5_1 < (a0.size : Int) := of_decide_eq_true (by first | (with_reducible assumption) | assumption)
                          have hx23 := bt_at a0 x5_1
                          replace p23 := eq_true p23
                          replace q23 := eq_true q23
                          have p25 : 0 ≤ (x5_1 : Int) := of_decide_eq_true (by first | (with_reducible assumption) | assumption)
                          have q25 : x5_1 < (a0.size : Int) := of_decide_eq_true (by first | (with_reducible assumption) | assumption)
                          have hx25 := bt_at a0 x5_1
                          replace p25 := eq_true p25
                          replace q25 := eq_true q25
                          go_wp2
                          go_ret
                          exact ⟨by first | rfl | (simp [errW_none, errW_some] <;> rfl) | (simp [*, errW_none, errW_some] <;> rfl) | (simp [*, errW_none, errW_some, Glue.bne_nil] <;> rfl), by repeat (first | (with_reducible first | exact HB.out | apply below_alloc | apply pw_below_drewN | apply below_drew1 | refine below_set ?_ GE200.out) | exact HB.out)⟩
                        · rw [if_neg c26] at H
                          have c26b0 : decide (x7_7 < (wrap64 (bt a0 x5_1))) = false := decide_eq_false c26
                          clear c26
                          have H' := Aside0.mk H
                          clear H
                          have p23 : 0 ≤ (x5_1 : Int) := of_decide_eq_true (by first | (with_reducible assumption) | assumption)
                          have q23 : x5_1 < (a0.size : Int) := of_decide_eq_true (by first | (with_reducible assumption) | assumption)
                          have hx23 := bt_at a0 x5_1
                          replace p23 := eq_true p23
                          replace q23 := eq_true q23
                          have p25 : 0 ≤ (x5_1 : Int) := of_decide_eq_true (by first | (with_reducible assumption) | assumption)
                          have q25 : x5_1 < (a0.size : Int) := of_decide_eq_true (by first | (with_reducible assumption) | assumption)
                          have hx25 := bt_at a0 x5_1
                          replace p25 := eq_true p25
                          replace q25 := eq_true q25
                          go_wp2
                          go_roundg kj7
                          case measure => have := HK1.out; have := HJ3.out; have := HJ7.out; omega
                          case rel => exact ⟨(wrap64 (x5_1 + 1)), (by first | rfl | (simp; done) | (simp [*]; done)), H', ⟨by have := HK1.out; have := HJ3.out; have := HJ7.out; omega⟩, ⟨by (with_reducible repeat (first | refine blk_drewN ?_ _ | refine blk_drew ?_ | refine blk_alloc ?_ _)); exact BK200.out⟩, ⟨by repeat (first | (with_reducible first | exact HB.out | apply below_alloc | apply pw_below_drewN | apply below_drew1 | refine below_set ?_ GE200.out) | exact HB.out)⟩⟩
                    · rw [if_neg c22] at H
                      exact absurd H (by simp)
                  · rw [if_neg c21] at H
                    exact absurd H (by simp)
          · replace c7 := Bool.eq_false_iff.mpr c7
            subst c7
            have H1 : (some x5_1) = some r := by rw [if_neg (show ¬ (false = true) by decide)] at H; exact H
            clear H
            have H := H1
            clear H1
            obtain rfl := Option.some.inj H
            go_wp2
            go_ret
            exact ⟨by first | rfl | (simp [errW_none, errW_some] <;> rfl) | (simp [*, errW_none, errW_some] <;> rfl) | (simp [*, errW_none, errW_some, Glue.bne_nil] <;> rfl), by repeat (first | (with_reducible first | exact HB.out | apply below_alloc | apply pw_below_drewN | apply below_drew1 | refine below_set ?_ GE200.out) | exact HB.out)⟩
end Go.Proofs.YtoalibnaoophgaaDoor.P
