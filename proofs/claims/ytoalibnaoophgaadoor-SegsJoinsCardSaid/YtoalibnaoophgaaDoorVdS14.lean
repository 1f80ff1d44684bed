/-
  A part of the proof of segsJoins_card (texts of this session, and printed ones, without what it does not use).
-/
import Derived.Test.YtoalibnaoophgaaDoorVdS
import Derived.Test.YtoalibnaoophgaaDoorVdPx22
namespace Foot
end Foot
namespace Go.Proofs
end Go.Proofs
namespace Go.Proofs.YtoalibnaoophgaaDoor
end Go.Proofs.YtoalibnaoophgaaDoor
namespace Go.Proofs.YtoalibnaoophgaaDoor.Each
end Go.Proofs.YtoalibnaoophgaaDoor.Each
namespace Go.Proofs.YtoalibnaoophgaaDoor.Glue
end Go.Proofs.YtoalibnaoophgaaDoor.Glue
namespace Go.Proofs.YtoalibnaoophgaaDoor.Open
end Go.Proofs.YtoalibnaoophgaaDoor.Open
namespace Go.Proofs.YtoalibnaoophgaaDoor.P
end Go.Proofs.YtoalibnaoophgaaDoor.P
namespace Go.Proofs.YtoalibnaoophgaaDoor.segsJoins
end Go.Proofs.YtoalibnaoophgaaDoor.segsJoins
namespace Go.Proofs.YtoalibnaoophgaaDoorW.PrintLast
end Go.Proofs.YtoalibnaoophgaaDoorW.PrintLast
namespace Go.Proofs.YtoalibnaoophgaaDoorW.PrintMore
end Go.Proofs.YtoalibnaoophgaaDoorW.PrintMore
namespace Go.Proofs.YtoalibnaoophgaaDoorW.PrintWords
end Go.Proofs.YtoalibnaoophgaaDoorW.PrintWords
namespace Kd
end Kd
set_option linter.unusedVariables false
set_option linter.unusedSimpArgs false
namespace Go.Proofs.YtoalibnaoophgaaDoor.P
open Go.RowKit Go.Proofs.YtoalibnaoophgaaDoorW.PrintWords Go.Proofs.YtoalibnaoophgaaDoorW.PrintLast Go.Proofs.YtoalibnaoophgaaDoorW.PrintMore
theorem wrap_01 : wrap64 ((0 : Int) + 1) = 1 := by rw [w64 _ (by omega) (by omega)]; rfl
theorem wrap_12 : wrap64 ((1 : Int) + 1) = 2 := by rw [w64 _ (by omega) (by omega)]; rfl
theorem wrap_0n (n : Nat) (h : n ≤ 20) : wrap64 ((0 : Int) + (n : Int)) = (n : Int) := by rw [w64 _ (by omega) (by omega)]; omega
theorem wrap_nm (n m : Nat) (h : n ≤ 20) (h2 : m ≤ 20) : wrap64 ((n : Int) + (m : Int)) = ((n + m : Nat) : Int) := by rw [w64 _ (by omega) (by omega)]; omega
theorem grow_ev (n : Nat) (h : n ≤ 40) : slices_Grow_string_string.f (n : Int) = some [] := by
  unfold slices_Grow_string_string.f
  rw [if_pos ⟨by omega, by omega⟩]
theorem concat_l1 (l q : List ByteArray) (hl : l.length ≤ 20) (hq : q.length ≤ 20) : Ev (fun k => slices_Concat_string_string.l1 k [] [l, q] 2 0) (l ++ q) := by
  refine Ev.step (f := fun k => _) (fun k => by simp only [slices_Concat_string_string.l1]; rfl) ?_
  refine Glue.ev_pos (by decide) (Glue.ev_pos (by decide) (Glue.ev_pos (by show (0 : Int) < 2; decide) ?_))
  have r0 : rd_L3 [l, q] 0 = l := rfl
  rw [r0, wrap_01]
  refine Glue.ev_pos (by rw [List.length_nil]; omega) ?_
  refine Ev.step (f := fun k => _) (fun k => by simp only [slices_Concat_string_string.l1]; rfl) ?_
  refine Glue.ev_pos (by decide) (Glue.ev_pos (by decide) (Glue.ev_pos (by show (1 : Int) < 2; decide) ?_))
  have r1 : rd_L3 [l, q] 1 = q := rfl
  rw [r1, wrap_12]
  refine Glue.ev_pos (by rw [List.nil_append]; omega) ?_
  refine Ev.step (f := fun k => _) (fun k => by simp only [slices_Concat_string_string.l1]; rfl) ?_
  exact Glue.ev_neg (by decide) (Ev.now _)
theorem concat_ev (l q : List ByteArray) (hl : l.length ≤ 20) (hq : q.length ≤ 20) : Ev (fun k => slices_Concat_string_string.f k [l, q]) (l ++ q) := by
  have h1 := concat_l1 l q hl hq
  have h2 := grow_ev (l.length + q.length) (by omega)
  have r0 : rd_L3 [l, q] 0 = l := rfl
  have r1 : rd_L3 [l, q] 1 = q := rfl
  show Ev (fun k => slices_Concat_string_string.l0 k [l, q] 0 [l, q] 2 0) (l ++ q)
  refine Ev.step (f := fun k => _) (fun k => by simp only [slices_Concat_string_string.l0]; rfl) ?_
  refine Glue.ev_pos (by decide) (Glue.ev_pos (by decide) (Glue.ev_pos (by show (0 : Int) < 2; decide) ?_))
  rw [r0, wrap_01, wrap_0n _ hl]
  refine Glue.ev_neg (Int.not_lt.2 (Int.natCast_nonneg _)) ?_
  refine Ev.step (f := fun k => _) (fun k => by simp only [slices_Concat_string_string.l0]; rfl) ?_
  refine Glue.ev_pos (by decide) (Glue.ev_pos (by decide) (Glue.ev_pos (by show (1 : Int) < 2; decide) ?_))
  rw [r1, wrap_12, wrap_nm _ _ hl hq]
  refine Glue.ev_neg (Int.not_lt.2 (Int.natCast_nonneg _)) ?_
  refine Ev.step (f := fun k => _) (fun k => by simp only [slices_Concat_string_string.l0]; rfl) ?_
  refine Glue.ev_neg (by decide) ?_
  exact (Glue.ev_const h2).bind h1
theorem join_ev (a : Bool) (l : List ByteArray) (b : Bool) (q : List ByteArray) (hl : l.length ≤ 20) (hq : q.length ≤ 20) : Ev (fun k => segs_Path_Join.f k a l b q) (if b = true then (true, q) else (a, l ++ q)) := by
  unfold segs_Path_Join.f
  by_cases h : b = true
  · rw [if_pos h]
    have hc : slices_Clone_string_string.f q = some q := by
      unfold slices_Clone_string_string.f
      rw [if_pos (by omega)]
    exact Glue.ev_pos h ((Glue.ev_const hc).bind (Ev.now _))
  · rw [if_neg h]
    exact Glue.ev_neg h ((concat_ev l q hl hq).bind (Ev.now _))
theorem under_app (a : Bool) (l q : List ByteArray) (hl : l.length ≤ 20) (hq : q.length ≤ 20) : Ev (fun k => segs_Path_Under.f k a (l ++ q) a l) (decide ((q.length : Int) > 0)) := by
  unfold segs_Path_Under.f
  refine Glue.ev_pos (by simp) ?_
  have e : (l ++ q).length = l.length + q.length := List.length_append
  rcases Nat.eq_zero_or_pos q.length with h | h
  · refine Glue.ev_neg (by rw [e]; omega) (Glue.ev_cast (Ev.now _) ?_)
    rw [h]; rfl
  · refine Glue.ev_pos (by rw [e]; omega) (Glue.ev_pos (by omega) (Glue.ev_pos (by rw [e]; omega) ?_))
    rw [Int.toNat_natCast, List.take_left, decide_eq_true (by omega)]
    refine (slices_Equal_ev l l (by omega)).bind (Glue.ev_cast (Ev.now _) ?_)
    simp
theorem Joins_true (a : Bool) (l : List ByteArray) (b : Bool) (q : List ByteArray) : Ev (fun k => monikerlaw31_SegsJoins.j0 k true a l b q) true := by
  refine Ev.step (f := fun k => _) (fun k => by simp only [monikerlaw31_SegsJoins.j0]; rfl) ?_
  exact Glue.ev_pos (by simp) (awake31.bind (Ev.now _))
theorem Joins_false (a : Bool) (l : List ByteArray) (b : Bool) (q : List ByteArray) (hl : l.length ≤ 20) (hq : q.length ≤ 20) : Ev (fun k => monikerlaw31_SegsJoins.j0 k false a l b q) true := by
  refine Ev.step (f := fun k => _) (fun k => by simp only [monikerlaw31_SegsJoins.j0]; rfl) ?_
  refine Glue.ev_neg (by simp) ?_
  refine (join_ev a l b q hl hq).bind ?_
  cases b with
  | true =>
    refine Glue.ev_pos rfl ?_
    refine (segs_Equal_ev true true q q (by omega)).bind ?_
    exact Glue.ev_pos (by simp) (awake31.bind (Ev.now _))
  | false =>
    refine Glue.ev_neg (by simp) ?_
    refine Glue.ev_pos (by rw [List.length_nil]; omega) ?_
    refine (Ev.now _).bind ?_
    refine Glue.ev_pos (by rw [List.nil_append]; omega) ?_
    refine Glue.ev_pos (by simp) ?_
    refine (r31_Same_ev (l ++ q) (by rw [List.length_append]; omega)).bind ?_
    refine Glue.ev_pos rfl ?_
    refine (under_app a l q hl hq).bind ?_
    exact Glue.ev_pos (by simp) (awake31.bind (Ev.now _))
def SegsJoins_Pure : Prop := ∀ (a : Bool) (l : List ByteArray) (b : Bool) (q : List ByteArray), ∃ k, monikerlaw31_SegsJoins.f k a l b q = some true
theorem SegsJoins_pure : SegsJoins_Pure := by
  intro a l b q
  refine Ev.rounds ?_
  unfold monikerlaw31_SegsJoins.f
  obtain ⟨c, hc, hc2⟩ := long31_ev a l
  refine hc.bind ?_
  cases c with
  | true => exact Glue.ev_pos rfl (Joins_true a l b q)
  | false =>
    refine Glue.ev_neg (by simp) ?_
    obtain ⟨d, hd, hd2⟩ := long31_ev b q
    refine hd.bind ?_
    cases d with
    | true => exact Joins_true a l b q
    | false => exact Joins_false a l b q (hc2 rfl).1 (hd2 rfl).1
end Go.Proofs.YtoalibnaoophgaaDoor.P
