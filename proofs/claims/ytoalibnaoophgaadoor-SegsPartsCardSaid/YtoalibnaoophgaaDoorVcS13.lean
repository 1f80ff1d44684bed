/-
  A part of the proof of segsParts_card (texts of this session, and printed ones, without what it does not use).
-/
import Derived.Test.YtoalibnaoophgaaDoorVcS
import Derived.Test.YtoalibnaoophgaaDoorVcPx20
namespace Foot
end Foot
namespace Go.Proofs
end Go.Proofs
namespace Go.Proofs.YtoalibnaoophgaaDoor
end Go.Proofs.YtoalibnaoophgaaDoor
namespace Go.Proofs.YtoalibnaoophgaaDoor.Each
end Go.Proofs.YtoalibnaoophgaaDoor.Each
namespace Go.Proofs.YtoalibnaoophgaaDoor.Glue
end Go.Proofs.YtoalibnaoophgaaDoor.Glue
namespace Go.Proofs.YtoalibnaoophgaaDoor.Open
end Go.Proofs.YtoalibnaoophgaaDoor.Open
namespace Go.Proofs.YtoalibnaoophgaaDoor.P
end Go.Proofs.YtoalibnaoophgaaDoor.P
namespace Go.Proofs.YtoalibnaoophgaaDoor.segsParts
end Go.Proofs.YtoalibnaoophgaaDoor.segsParts
namespace Go.Proofs.YtoalibnaoophgaaDoorW.PrintLast
end Go.Proofs.YtoalibnaoophgaaDoorW.PrintLast
namespace Go.Proofs.YtoalibnaoophgaaDoorW.PrintMore
end Go.Proofs.YtoalibnaoophgaaDoorW.PrintMore
namespace Go.Proofs.YtoalibnaoophgaaDoorW.PrintWords
end Go.Proofs.YtoalibnaoophgaaDoorW.PrintWords
namespace Kd
end Kd
set_option linter.unusedVariables false
set_option linter.unusedSimpArgs false
namespace Go.Proofs.YtoalibnaoophgaaDoor.P
open Go.RowKit Go.Proofs.YtoalibnaoophgaaDoorW.PrintWords Go.Proofs.YtoalibnaoophgaaDoorW.PrintLast Go.Proofs.YtoalibnaoophgaaDoorW.PrintMore
theorem r31_Ext_l0 (s : ByteArray) (hs : s.size ≤ 140737488355328) : ∀ (d j : Nat), s.size - j ≤ d → 1 ≤ j → (j ≤ s.size ∨ (j = 1 ∧ s.size = 0)) →
    Ev (fun k => monikerref31_Ext.l0 k s (ldot (lst s) j : Int) (j : Int)) (extL s)
  | d, j, hd, h1, hj => by
    rcases Nat.lt_or_ge j s.size with h | h
    · match d, hd with
      | 0, hd => omega
      | d + 1, hd =>
        obtain ⟨c, hc, hb⟩ := bt_lst s j h
        have e1 : wrap64 ((j : Int) + 1) = ((j + 1 : Nat) : Int) := by rw [w64 _ (by omega) (by omega)]; omega
        have ih := r31_Ext_l0 s hs d (j + 1) (by omega) (by omega) (by omega)
        by_cases h46 : c = 46
        · have e2 : ldot (lst s) (j + 1) = j := by rw [ldot, if_pos ⟨by rw [hc, h46], by omega⟩]
          rw [e2] at ih
          exact Ev.step (f := fun k => _) (fun k => by simp only [monikerref31_Ext.l0]; rw [if_pos (show (j : Int) < s.size by omega), if_pos (show (0 : Int) ≤ j by omega), hb, if_pos ((u8_46 c).2 h46), e1]) ih
        · have e2 : ldot (lst s) (j + 1) = ldot (lst s) j := by
            rw [ldot, if_neg (fun h => by rw [hc] at h; exact h46 (Option.some.inj h.1))]
          rw [e2] at ih
          exact Ev.step (f := fun k => _) (fun k => by simp only [monikerref31_Ext.l0]; rw [if_pos (show (j : Int) < s.size by omega), if_pos (show (0 : Int) ≤ j by omega), hb, if_neg (fun h => h46 ((u8_46 c).1 h)), e1]) ih
    · have e : ldot (lst s) j = ldot (lst s) s.size := by
        rcases hj with hj | ⟨hj, h0⟩
        · rw [show j = s.size by omega]
        · subst hj
          rw [h0]
          show (if (lst s)[0]? = some 46 ∧ 0 < 0 then 0 else ldot (lst s) 0) = 0
          rw [if_neg (fun h => by omega)]
          rfl
      rw [e]
      refine Ev.step (f := fun k => _) (fun k => by simp only [monikerref31_Ext.l0]; rw [if_neg (show ¬ (j : Int) < s.size by omega)]) ?_
      have hle := ldot_le (lst s) s.size
      unfold extL
      by_cases hz : ldot (lst s) s.size = 0
      · rw [if_pos hz]
        exact Glue.ev_pos (by omega) (Ev.now _)
      · rw [if_neg hz]
        have e1 : wrap64 ((ldot (lst s) s.size : Int) + 1) = ((ldot (lst s) s.size + 1 : Nat) : Int) := by rw [w64 _ (by omega) (by omega)]; omega
        rw [e1]
        have hlt : ldot (lst s) s.size < s.size := by
          rcases Nat.lt_or_ge (ldot (lst s) s.size) s.size with h | h
          · exact h
          · exfalso
            obtain ⟨n, hn⟩ : ∃ n, s.size = n + 1 := ⟨s.size - 1, by omega⟩
            rw [hn] at h hz
            have := ldot_le (lst s) n
            rw [ldot] at h hz
            split at h <;> omega
        exact Glue.ev_neg (by omega) (Glue.ev_pos (by omega) (Glue.ev_pos (by omega) (Ev.now _)))
theorem r31_Ext_ev (s : ByteArray) (hs : s.size ≤ 140737488355328) : Ev (fun k => monikerref31_Ext.f k s) (extL s) := by
  have h := r31_Ext_l0 s hs s.size 1 (by omega) (by omega) (by omega)
  have e : ldot (lst s) 1 = 0 := by rw [ldot, if_neg (fun h => by omega)]; rfl
  rw [e] at h
  exact h
theorem parent_ev (a : Bool) (l : List ByteArray) (hl : l.length ≤ 20) : segs_Path_Parent.f a l = some (if l.length < 2 then (false, [], false) else (a, l.take (l.length - 1), true)) := by
  unfold segs_Path_Parent.f
  by_cases h : l.length < 2
  · rw [if_pos (by omega), if_pos h]
  · have e1 : wrap64 ((l.length : Int) - 1) = ((l.length - 1 : Nat) : Int) := by rw [w64 _ (by omega) (by omega)]; omega
    rw [if_neg (by omega), if_neg h, e1, if_pos (by omega), if_pos (by omega)]
    unfold slices_Clone_string_string.f
    rw [Int.toNat_natCast, if_pos (by rw [List.length_take]; omega)]
    rfl
theorem under_yes (a : Bool) (l : List ByteArray) (hl : l.length ≤ 20) (h : 2 ≤ l.length) : Ev (fun k => segs_Path_Under.f k a l a (l.take (l.length - 1))) true := by
  unfold segs_Path_Under.f
  have e : (l.take (l.length - 1)).length = l.length - 1 := by rw [List.length_take]; omega
  rw [e]
  refine Glue.ev_pos (by simp) (Glue.ev_pos (by omega) (Glue.ev_pos (by omega) (Glue.ev_pos (by omega) ?_)))
  rw [Int.toNat_natCast]
  refine (slices_Equal_ev _ _ (by rw [e]; omega)).bind (Glue.ev_cast (Ev.now _) ?_)
  simp
theorem under_no (a : Bool) (l : List ByteArray) (hl : l.length ≤ 20) (h : 2 ≤ l.length) : Ev (fun k => segs_Path_Under.f k a (l.take (l.length - 1)) a l) false := by
  unfold segs_Path_Under.f
  have e : (l.take (l.length - 1)).length = l.length - 1 := by rw [List.length_take]; omega
  rw [e]
  exact Glue.ev_pos (by simp) (Glue.ev_neg (by omega) (Ev.now _))
theorem Parts_j1 (a : Bool) (l : List ByteArray) (hl : l.length ≤ 20) :
    Ev (fun k => monikerlaw31_SegsParts.j1 k (l.length : Int) (if l.length < 2 then ((false, [], false) : Bool × List ByteArray × Bool) else (a, l.take (l.length - 1), true)).2.2 false a l (if l.length < 2 then ((false, [], false) : Bool × List ByteArray × Bool) else (a, l.take (l.length - 1), true)).1 (if l.length < 2 then ((false, [], false) : Bool × List ByteArray × Bool) else (a, l.take (l.length - 1), true)).2.1) true := by
  refine Ev.step (f := fun k => _) (fun k => by simp only [monikerlaw31_SegsParts.j1]; rfl) ?_
  refine Glue.ev_neg (by simp) ?_
  by_cases h : l.length < 2
  · rw [if_pos h]
    refine Glue.ev_neg (by simp) (Glue.ev_pos rfl (Glue.ev_neg (by simp) ?_))
    exact awake31.bind (Ev.now _)
  · rw [if_neg h]
    have e1 : wrap64 ((l.length : Int) - 1) = ((l.length - 1 : Nat) : Int) := by rw [w64 _ (by omega) (by omega)]; omega
    rw [e1]
    refine Glue.ev_pos rfl (Glue.ev_pos (by simp) (Glue.ev_pos (by omega) (Glue.ev_pos (by omega) ?_)))
    rw [Int.toNat_natCast]
    refine (r31_Same_ev _ (by rw [List.length_take]; omega)).bind (Glue.ev_pos rfl ?_)
    refine (under_yes a l hl (by omega)).bind (Glue.ev_pos rfl ?_)
    refine (under_no a l hl (by omega)).bind (Glue.ev_neg (by simp) ?_)
    exact awake31.bind (Ev.now _)
theorem Parts_j0 (a : Bool) (l : List ByteArray) (hl : l.length ≤ 20) (hs : (l.getLastD ⟨#[]⟩).size ≤ 140737488355328) : Ev (fun k => monikerlaw31_SegsParts.j0 k (l.length : Int) (l.getLastD ⟨#[]⟩) a l) true := by
  refine Ev.step (f := fun k => _) (fun k => by simp only [monikerlaw31_SegsParts.j0]; rfl) ?_
  refine (Glue.ev_const (parent_ev a l hl)).bind ?_
  refine (Glue.ev_const (base_ev a l hl)).bind ?_
  refine Glue.ev_pos rfl ?_
  refine (ext_ev a l hl hs).bind ?_
  refine (r31_Ext_ev _ hs).bind ?_
  refine Glue.ev_pos rfl ?_
  have e : ((if l.length < 2 then ((false, [], false) : Bool × List ByteArray × Bool) else (a, l.take (l.length - 1), true)).2.2 != decide ((l.length : Int) > 1)) = false := by
    by_cases h : l.length < 2
    · rw [if_pos h, decide_eq_false (by omega)]; rfl
    · rw [if_neg h, decide_eq_true (by omega)]; rfl
  rw [e]
  exact Parts_j1 a l hl
def SegsParts_Pure : Prop := ∀ (a : Bool) (l : List ByteArray), ∃ k, monikerlaw31_SegsParts.f k a l = some true
theorem SegsParts_pure : SegsParts_Pure := by
  intro a l
  refine Ev.rounds ?_
  unfold monikerlaw31_SegsParts.f
  obtain ⟨b, hb, hb2⟩ := long31_ev a l
  refine hb.bind ?_
  cases b with
  | true => exact Glue.ev_pos rfl (awake31.bind (Ev.now _))
  | false =>
    refine Glue.ev_neg (by simp) ?_
    obtain ⟨hl, hs⟩ := hb2 rfl
    rcases Nat.eq_zero_or_pos l.length with h | h
    · obtain rfl := List.eq_nil_of_length_eq_zero h
      exact Glue.ev_neg (by simp) (Parts_j0 a [] (by simp) (by decide))
    · have e1 : wrap64 ((l.length : Int) - 1) = ((l.length - 1 : Nat) : Int) := by rw [w64 _ (by omega) (by omega)]; omega
      have hg := List.getElem?_eq_getElem (show l.length - 1 < l.length by omega)
      have e2 : l[l.length - 1] = l.getLastD ⟨#[]⟩ := by
        rw [List.getLastD_eq_getLast?, List.getLast?_eq_getElem?, hg]
        rfl
      rw [e1, rdOf_get hg, e2]
      refine Glue.ev_pos (by omega) (Glue.ev_pos (by omega) (Glue.ev_pos (by omega) ?_))
      refine Parts_j0 a l hl ?_
      rw [← e2]
      have := hs _ (List.getElem_mem (show l.length - 1 < l.length by omega))
      omega
end Go.Proofs.YtoalibnaoophgaaDoor.P
