/-
  A part of the proof of segsTexts_card (texts of this session, and printed ones, without what it does not use).
-/
import Derived.Test.YtoalibnaoophgaaDoorVbPx0
import Derived.Test.YtoalibnaoophgaaDoorVbPx9
import Derived.Test.YtoalibnaoophgaaDoorVbPx11
import Derived.Test.YtoalibnaoophgaaDoorVbPx12
namespace Foot
end Foot
namespace Go.Proofs
end Go.Proofs
namespace Go.Proofs.YtoalibnaoophgaaDoor
end Go.Proofs.YtoalibnaoophgaaDoor
namespace Go.Proofs.YtoalibnaoophgaaDoor.Each
end Go.Proofs.YtoalibnaoophgaaDoor.Each
namespace Go.Proofs.YtoalibnaoophgaaDoor.Glue
end Go.Proofs.YtoalibnaoophgaaDoor.Glue
namespace Go.Proofs.YtoalibnaoophgaaDoor.Open
end Go.Proofs.YtoalibnaoophgaaDoor.Open
namespace Go.Proofs.YtoalibnaoophgaaDoor.P
end Go.Proofs.YtoalibnaoophgaaDoor.P
namespace Go.Proofs.YtoalibnaoophgaaDoor.segsTexts
end Go.Proofs.YtoalibnaoophgaaDoor.segsTexts
namespace Go.Proofs.YtoalibnaoophgaaDoorW.PrintLast
end Go.Proofs.YtoalibnaoophgaaDoorW.PrintLast
namespace Go.Proofs.YtoalibnaoophgaaDoorW.PrintMore
end Go.Proofs.YtoalibnaoophgaaDoorW.PrintMore
namespace Go.Proofs.YtoalibnaoophgaaDoorW.PrintWords
end Go.Proofs.YtoalibnaoophgaaDoorW.PrintWords
namespace Kd
end Kd
namespace Go.Proofs.YtoalibnaoophgaaDoor.P
open Go.RowKit Go.Proofs.YtoalibnaoophgaaDoorW.PrintWords Go.Proofs.YtoalibnaoophgaaDoorW.PrintLast Go.Proofs.YtoalibnaoophgaaDoorW.PrintMore
attribute [local go_sem] max2_int min2_int max_two min_two -- for this text's walks alone
set_option linter.unusedVariables false
set_option linter.unusedSimpArgs false
def digs16 : ByteArray := ⟨#[48, 49, 50, 51, 52, 53, 54, 55, 56, 57, 65, 66, 67, 68, 69, 70]⟩
def monikerref04_Of.f (a0 : Int) : Option ByteArray := if 0 ≤ a0 ∧ a0 < 256 then some (((⟨#[37]⟩ : ByteArray) ++ digs16.extract (a0 / 16).toNat (a0 / 16 + 1).toNat) ++ digs16.extract (a0 % 16).toNat (a0 % 16 + 1).toNat) else none
theorem digs16_part (i : Int) (h0 : 0 ≤ i) (h1 : i < 16) : (digs16.extract i.toNat (i + 1).toNat).size = 1 := by
  rw [ByteArray.size_extract, show digs16.size = 16 from rfl]
  omega
set_option maxHeartbeats 8000000 in
set_option maxRecDepth 100000 in
theorem monikerref04_Of.calls (a0 : Int) (r : ByteArray) (w : World) (h : monikerref04_Of.f a0 = some r) :
    Calls Tryd.prog 54 #[.int .u8 a0] w fun e w' => e = .returned (.string r) ∧ Drawn0 w w' := by
  unfold monikerref04_Of.f at h
  split at h
  case isFalse => exact absurd h (by simp)
  case isTrue hr =>
  injection h with h
  subst h
  obtain ⟨hi, hhi⟩ : ∃ j, a0 / 16 = j := ⟨_, rfl⟩
  obtain ⟨lo, hlo⟩ : ∃ j, a0 % 16 = j := ⟨_, rfl⟩
  have q1 : IntKind.u8.wrap (a0.tdiv 16) = hi := by rw [Int.tdiv_eq_ediv_of_nonneg hr.1, ← hhi]; simp only [IntKind.wrap, IntKind.signed, IntKind.bits]; simp; omega
  have q2 : a0.tmod 16 = lo := by rw [Int.tmod_eq_emod_of_nonneg hr.1, ← hlo]
  have q3 : IntKind.u8.wrap (hi + 1) = hi + 1 := by simp only [IntKind.wrap, IntKind.signed, IntKind.bits]; simp; omega
  have q4 : IntKind.u8.wrap (lo + 1) = lo + 1 := by simp only [IntKind.wrap, IntKind.signed, IntKind.bits]; simp; omega
  have a1 : decide (0 ≤ hi) = true := decide_eq_true (by omega)
  have a2 : decide (hi ≤ hi + 1) = true := decide_eq_true (by omega)
  have a3 : decide (hi + 1 ≤ 16) = true := decide_eq_true (by omega)
  have a4 : (0 ≤ hi) = True := eq_true (by omega)
  have a5 : (hi ≤ hi + 1) = True := eq_true (by omega)
  have a6 : (hi + 1 ≤ 16) = True := eq_true (by omega)
  have b1 : decide (0 ≤ lo) = true := decide_eq_true (by omega)
  have b2 : decide (lo ≤ lo + 1) = true := decide_eq_true (by omega)
  have b3 : decide (lo + 1 ≤ 16) = true := decide_eq_true (by omega)
  have b4 : (0 ≤ lo) = True := eq_true (by omega)
  have b5 : (lo ≤ lo + 1) = True := eq_true (by omega)
  have b6 : (lo + 1 ≤ 16) = True := eq_true (by omega)
  have s1 := digs16_part hi (by omega) (by omega)
  have s2 := digs16_part lo (by omega) (by omega)
  have hd : (⟨#[48, 49, 50, 51, 52, 53, 54, 55, 56, 57, 65, 66, 67, 68, 69, 70]⟩ : ByteArray) = digs16 := rfl
  have hz : digs16.size = 16 := rfl
  rw [hhi, hlo]
  clear hr hhi hlo
  go_enter Tryd.func54, Tryd.ntmps54
  rw [hd]
  go_wp2
  refine wp_region_quiet_lit (by kernel_rfl) (by kernel_rfl) ?_
  repeat (refine wpQuiet_step (fun K hK => ?_); go_simp; refine hK _ ?_; clear hK K)
  refine wpQuiet_nil ?_
  intro _ hw'
  obtain ⟨nq, hw''⟩ := hw'
  subst hw''
  try go_wp2
  go_ret
  exact ⟨by first | rfl | simp, by repeat (first | exact Drawn0.refl _ | apply Drawn0.step)⟩
end Go.Proofs.YtoalibnaoophgaaDoor.P
