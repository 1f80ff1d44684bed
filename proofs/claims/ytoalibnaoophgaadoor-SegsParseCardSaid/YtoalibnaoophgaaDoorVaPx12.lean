/-
  A part of the proof of segsParse_card (texts of this session, and printed ones, without what it does not use).
-/
import Derived.Test.YtoalibnaoophgaaDoorVaPx0
import Derived.Test.YtoalibnaoophgaaDoorVaPx11
namespace Foot
end Foot
namespace Go.Proofs
end Go.Proofs
namespace Go.Proofs.YtoalibnaoophgaaDoor
end Go.Proofs.YtoalibnaoophgaaDoor
namespace Go.Proofs.YtoalibnaoophgaaDoor.Each
end Go.Proofs.YtoalibnaoophgaaDoor.Each
namespace Go.Proofs.YtoalibnaoophgaaDoor.Glue
end Go.Proofs.YtoalibnaoophgaaDoor.Glue
namespace Go.Proofs.YtoalibnaoophgaaDoor.Open
end Go.Proofs.YtoalibnaoophgaaDoor.Open
namespace Go.Proofs.YtoalibnaoophgaaDoor.P
end Go.Proofs.YtoalibnaoophgaaDoor.P
namespace Go.Proofs.YtoalibnaoophgaaDoor.segsParse
end Go.Proofs.YtoalibnaoophgaaDoor.segsParse
namespace Go.Proofs.YtoalibnaoophgaaDoorW.PrintLast
end Go.Proofs.YtoalibnaoophgaaDoorW.PrintLast
namespace Go.Proofs.YtoalibnaoophgaaDoorW.PrintMore
end Go.Proofs.YtoalibnaoophgaaDoorW.PrintMore
namespace Go.Proofs.YtoalibnaoophgaaDoorW.PrintWords
end Go.Proofs.YtoalibnaoophgaaDoorW.PrintWords
namespace Kd
end Kd
namespace Go.Proofs.YtoalibnaoophgaaDoor.P
open Go.RowKit Go.Proofs.YtoalibnaoophgaaDoorW.PrintWords Go.Proofs.YtoalibnaoophgaaDoorW.PrintLast Go.Proofs.YtoalibnaoophgaaDoorW.PrintMore
attribute [local go_sem] max2_int max_two -- for this text's walks alone
set_option linter.unusedVariables false
set_option linter.unusedSimpArgs false
mutual
def monikerref01_Class.j0 : Nat → Int → Int → Option (Int)
  | 0, _, _ => none
  | k + 1, x0, x3 => (monikerref01_In.f k x0 (⟨#[48, 49, 50, 51, 52, 53, 54, 55, 56, 57]⟩ : ByteArray)).bind fun t211 => (if t211 = true then (monikerref01_Class.j1 k x0 (wrap64 (x3 + 2))) else (monikerref01_Class.j1 k x0 x3))
def monikerref01_Class.j1 : Nat → Int → Int → Option (Int)
  | 0, _, _ => none
  | k + 1, x0, x3 => (monikerref01_In.f k x0 (⟨#[45, 46, 95, 126]⟩ : ByteArray)).bind fun t212 => (if t212 = true then (monikerref01_Class.j2 k x0 (wrap64 (x3 + 4))) else (monikerref01_Class.j2 k x0 x3))
def monikerref01_Class.j2 : Nat → Int → Int → Option (Int)
  | 0, _, _ => none
  | k + 1, x0, x3 => (monikerref01_In.f k x0 (⟨#[33, 36, 38, 39, 40, 41, 42, 43, 44, 59, 61]⟩ : ByteArray)).bind fun t213 => (if t213 = true then (monikerref01_Class.j3 k x0 (wrap64 (x3 + 8))) else (monikerref01_Class.j3 k x0 x3))
def monikerref01_Class.j3 : Nat → Int → Int → Option (Int)
  | 0, _, _ => none
  | k + 1, x0, x3 => (monikerref01_In.f k x0 (⟨#[58, 47, 63, 35, 91, 93, 64]⟩ : ByteArray)).bind fun t214 => (if t214 = true then ((monikerref01_In.f k x0 (⟨#[48, 49, 50, 51, 52, 53, 54, 55, 56, 57, 65, 66, 67, 68, 69, 70, 97, 98, 99, 100, 101, 102]⟩ : ByteArray)).bind fun t215 => (if t215 = true then (some (wrap64 ((wrap64 (x3 + 16)) + 32))) else (some (wrap64 (x3 + 16))))) else ((monikerref01_In.f k x0 (⟨#[48, 49, 50, 51, 52, 53, 54, 55, 56, 57, 65, 66, 67, 68, 69, 70, 97, 98, 99, 100, 101, 102]⟩ : ByteArray)).bind fun t216 => (if t216 = true then (some (wrap64 (x3 + 32))) else (some x3))))
end
def monikerref01_Class.f (k : Nat) (a0 : Int) : Option (Int) := (monikerref01_In.f k a0 (⟨#[65, 66, 67, 68, 69, 70, 71, 72, 73, 74, 75, 76, 77, 78, 79, 80, 81, 82, 83, 84, 85, 86, 87, 88, 89, 90, 97, 98, 99, 100, 101, 102, 103, 104, 105, 106, 107, 108, 109, 110, 111, 112, 113, 114, 115, 116, 117, 118, 119, 120, 121, 122]⟩ : ByteArray)).bind fun t210 => (if t210 = true then (monikerref01_Class.j0 k a0 (0 + 1)) else (monikerref01_Class.j0 k a0 0))
theorem monikerref01_Class.mono_l : ∀ k, (∀ y0 y1, LeO (monikerref01_Class.j0 k y0 y1) (monikerref01_Class.j0 (k + 1) y0 y1)) ∧ (∀ y0 y1, LeO (monikerref01_Class.j1 k y0 y1) (monikerref01_Class.j1 (k + 1) y0 y1)) ∧ (∀ y0 y1, LeO (monikerref01_Class.j2 k y0 y1) (monikerref01_Class.j2 (k + 1) y0 y1)) ∧ (∀ y0 y1, LeO (monikerref01_Class.j3 k y0 y1) (monikerref01_Class.j3 (k + 1) y0 y1))
  | 0 => ⟨fun _ _ r h => by simp [monikerref01_Class.j0] at h, fun _ _ r h => by simp [monikerref01_Class.j1] at h, fun _ _ r h => by simp [monikerref01_Class.j2] at h, fun _ _ r h => by simp [monikerref01_Class.j3] at h⟩
  | k + 1 => by
    obtain ⟨ih0, ih1, ih2, ih3⟩ := monikerref01_Class.mono_l k
    refine ⟨?_, ?_, ?_, ?_⟩
    · intro y0 y1
      unfold monikerref01_Class.j0
      repeat' first
      | (with_reducible exact ih0 _ _)
      | (with_reducible exact ih1 _ _)
      | (with_reducible exact ih2 _ _)
      | (with_reducible exact ih3 _ _)
      | (with_reducible exact monikerref01_In.mono _ _ _)
      | (with_reducible exact LeO.refl _)
      | (with_reducible exact LeO.none _)
      | (with_reducible refine LeO.ite ?_ ?_)
      | (with_reducible refine LeO.bind ?_ (fun _ => ?_))
      | exact ih0 _ _
      | exact ih1 _ _
      | exact ih2 _ _
      | exact ih3 _ _
      | exact monikerref01_In.mono _ _ _
      | exact LeO.none _
      | refine LeO.ite ?_ ?_
      | refine LeO.bind ?_ (fun _ => ?_)
    · intro y0 y1
      unfold monikerref01_Class.j1
      repeat' first
      | (with_reducible exact ih0 _ _)
      | (with_reducible exact ih1 _ _)
      | (with_reducible exact ih2 _ _)
      | (with_reducible exact ih3 _ _)
      | (with_reducible exact monikerref01_In.mono _ _ _)
      | (with_reducible exact LeO.refl _)
      | (with_reducible exact LeO.none _)
      | (with_reducible refine LeO.ite ?_ ?_)
      | (with_reducible refine LeO.bind ?_ (fun _ => ?_))
      | exact ih0 _ _
      | exact ih1 _ _
      | exact ih2 _ _
      | exact ih3 _ _
      | exact monikerref01_In.mono _ _ _
      | exact LeO.none _
      | refine LeO.ite ?_ ?_
      | refine LeO.bind ?_ (fun _ => ?_)
    · intro y0 y1
      unfold monikerref01_Class.j2
      repeat' first
      | (with_reducible exact ih0 _ _)
      | (with_reducible exact ih1 _ _)
      | (with_reducible exact ih2 _ _)
      | (with_reducible exact ih3 _ _)
      | (with_reducible exact monikerref01_In.mono _ _ _)
      | (with_reducible exact LeO.refl _)
      | (with_reducible exact LeO.none _)
      | (with_reducible refine LeO.ite ?_ ?_)
      | (with_reducible refine LeO.bind ?_ (fun _ => ?_))
      | exact ih0 _ _
      | exact ih1 _ _
      | exact ih2 _ _
      | exact ih3 _ _
      | exact monikerref01_In.mono _ _ _
      | exact LeO.none _
      | refine LeO.ite ?_ ?_
      | refine LeO.bind ?_ (fun _ => ?_)
    · intro y0 y1
      unfold monikerref01_Class.j3
      repeat' first
      | (with_reducible exact ih0 _ _)
      | (with_reducible exact ih1 _ _)
      | (with_reducible exact ih2 _ _)
      | (with_reducible exact ih3 _ _)
      | (with_reducible exact monikerref01_In.mono _ _ _)
      | (with_reducible exact LeO.refl _)
      | (with_reducible exact LeO.none _)
      | (with_reducible refine LeO.ite ?_ ?_)
      | (with_reducible refine LeO.bind ?_ (fun _ => ?_))
      | exact ih0 _ _
      | exact ih1 _ _
      | exact ih2 _ _
      | exact ih3 _ _
      | exact monikerref01_In.mono _ _ _
      | exact LeO.none _
      | refine LeO.ite ?_ ?_
      | refine LeO.bind ?_ (fun _ => ?_)
theorem monikerref01_Class.mono : ∀ a0 k, LeO (monikerref01_Class.f k a0) (monikerref01_Class.f (k + 1) a0) := by
  intro a0 k
  obtain ⟨ih0, ih1, ih2, ih3⟩ := monikerref01_Class.mono_l k
  unfold monikerref01_Class.f
  repeat' first
      | (with_reducible exact ih0 _ _)
      | (with_reducible exact ih1 _ _)
      | (with_reducible exact ih2 _ _)
      | (with_reducible exact ih3 _ _)
      | (with_reducible exact monikerref01_In.mono _ _ _)
      | (with_reducible exact LeO.refl _)
      | (with_reducible exact LeO.none _)
      | (with_reducible refine LeO.ite ?_ ?_)
      | (with_reducible refine LeO.bind ?_ (fun _ => ?_))
      | exact ih0 _ _
      | exact ih1 _ _
      | exact ih2 _ _
      | exact ih3 _ _
      | exact monikerref01_In.mono _ _ _
      | exact LeO.none _
      | refine LeO.ite ?_ ?_
      | refine LeO.bind ?_ (fun _ => ?_)
set_option maxHeartbeats 8000000 in
set_option maxRecDepth 100000 in
theorem monikerref01_Class.calls (k : Nat) (a0 : Int) (r : Int) (w : World) (h : monikerref01_Class.f k a0 = some r) :
    Calls Tryd.prog 53 #[.int .u8 a0] w fun e w' => e = .returned (.int .i64 r) ∧ Drawn0 w w' := by
  have H : ((monikerref01_In.f k a0 (⟨#[65, 66, 67, 68, 69, 70, 71, 72, 73, 74, 75, 76, 77, 78, 79, 80, 81, 82, 83, 84, 85, 86, 87, 88, 89, 90, 97, 98, 99, 100, 101, 102, 103, 104, 105, 106, 107, 108, 109, 110, 111, 112, 113, 114, 115, 116, 117, 118, 119, 120, 121, 122]⟩ : ByteArray)).bind fun t210 => (if t210 = true then (monikerref01_Class.j0 k a0 (0 + 1)) else (monikerref01_Class.j0 k a0 0))) = some r := h
  clear h
  replace H := Option.bind_eq_some_iff.mp H
  obtain ⟨t210, A20, H⟩ := H
  replace H : (if t210 = true then (monikerref01_Class.j0 k a0 (0 + 1)) else (monikerref01_Class.j0 k a0 0)) = some r := H
  have A2 := Aside0.mk A20
  clear A20
  have HC3 := Aside0.mk H
  clear H
  go_enter Tryd.func53, Tryd.ntmps53
  go_upto_if 5 with (first | ((with_reducible refine gate_callee (f := 83) rfl ?_); refine goesL_ (some 5) rfl rfl Tryd.func83 (by kernel_rfl) rfl #[.int .u8 a0, .string (⟨#[65, 66, 67, 68, 69, 70, 71, 72, 73, 74, 75, 76, 77, 78, 79, 80, 81, 82, 83, 84, 85, 86, 87, 88, 89, 90, 97, 98, 99, 100, 101, 102, 103, 104, 105, 106, 107, 108, 109, 110, 111, 112, 113, 114, 115, 116, 117, 118, 119, 120, 121, 122]⟩ : ByteArray)] rfl (by (try simp only [List.map_toArray, List.map_cons, List.map_nil]); first | done | rfl | (simp only [List.length_drop, List.length_take]; rfl)) ?_; (with_reducible refine (monikerref01_In.calls k a0 (⟨#[65, 66, 67, 68, 69, 70, 71, 72, 73, 74, 75, 76, 77, 78, 79, 80, 81, 82, 83, 84, 85, 86, 87, 88, 89, 90, 97, 98, 99, 100, 101, 102, 103, 104, 105, 106, 107, 108, 109, 110, 111, 112, 113, 114, 115, 116, 117, 118, 119, 120, 121, 122]⟩ : ByteArray) t210 _ A2.out).mono ?_); rintro e w' ⟨rfl, ⟨nd, rfl⟩⟩; refine ⟨_, rfl, ?_⟩))
  (try simp only [Act.put, List.setIfInBounds_toArray, List.set_cons_zero, List.set_cons_succ])
  go_cut [3] (fun v3 wc => ∃ (kq : Nat) (x3_2 : Int), v3 = .int .i64 x3_2 ∧ Aside0 (monikerref01_Class.j0 kq a0 x3_2 = some r) ∧ Aside0 (kq ≤ k) ∧ Drawn0 w wc)
  case first =>
    have H := HC3.out
    clear HC3
    by_cases c4 : t210 = true
    · subst c4
      have H1 : (monikerref01_Class.j0 k a0 (0 + 1)) = some r := by rw [if_pos rfl] at H; exact H
      clear H
      have H := H1
      clear H1
      have H' := Aside0.mk H
      clear H
      go_wp2
      go_meet
      case rel => exact ⟨_, (0 + 1), (by first | rfl | (simp; done) | (simp [*]; done)), H', ⟨by first | omega | exact Nat.le_refl _⟩, by repeat (first | exact Drawn0.refl _ | apply Drawn0.step)⟩
    · replace c4 := Bool.eq_false_iff.mpr c4
      subst c4
      have H1 : (monikerref01_Class.j0 k a0 0) = some r := by rw [if_neg (show ¬ (false = true) by decide)] at H; exact H
      clear H
      have H := H1
      clear H1
      have H' := Aside0.mk H
      clear H
      go_wp2
      go_meet
      case rel => exact ⟨_, (0), (by first | rfl | (simp; done) | (simp [*]; done)), H', ⟨by first | omega | exact Nat.le_refl _⟩, by repeat (first | exact Drawn0.refl _ | apply Drawn0.step)⟩
  case rest =>
    clear HC3
    try clear p2
    try clear c4
    obtain ⟨kq, x3_2, rfl, HA, HJ2, ⟨mc2, rfl⟩⟩ := hcut
    cases kq with
    | zero => exact absurd HA.out (by simp [monikerref01_Class.j0])
    | succ kj2 =>
      have H := HA.out
      clear HA
      simp only [monikerref01_Class.j0] at H
      replace H := Option.bind_eq_some_iff.mp H
      obtain ⟨t211, A50, H⟩ := H
      replace H : (if t211 = true then (monikerref01_Class.j1 kj2 a0 (wrap64 (x3_2 + 2))) else (monikerref01_Class.j1 kj2 a0 x3_2)) = some r := H
      have A5 := Aside0.mk A50
      clear A50
      have HC6 := Aside0.mk H
      clear H
      go_upto_if 9 with (first | ((with_reducible refine gate_callee (f := 83) rfl ?_); refine goesL_ (some 9) rfl rfl Tryd.func83 (by kernel_rfl) rfl #[.int .u8 a0, .string (⟨#[48, 49, 50, 51, 52, 53, 54, 55, 56, 57]⟩ : ByteArray)] rfl (by (try simp only [List.map_toArray, List.map_cons, List.map_nil]); first | done | rfl | (simp only [List.length_drop, List.length_take]; rfl)) ?_; (with_reducible refine (monikerref01_In.calls kj2 a0 (⟨#[48, 49, 50, 51, 52, 53, 54, 55, 56, 57]⟩ : ByteArray) t211 _ A5.out).mono ?_); rintro e w' ⟨rfl, ⟨nd, rfl⟩⟩; refine ⟨_, rfl, ?_⟩))
      (try simp only [Act.put, List.setIfInBounds_toArray, List.set_cons_zero, List.set_cons_succ])
      go_cut [3] (fun v3 wc => ∃ (kq : Nat) (x3_5 : Int), v3 = .int .i64 x3_5 ∧ Aside0 (monikerref01_Class.j1 kq a0 x3_5 = some r) ∧ Aside0 (kq ≤ kj2) ∧ Drawn0 w wc)
      case first =>
        have H := HC6.out
        clear HC6
        by_cases c7 : t211 = true
        · subst c7
          have H1 : (monikerref01_Class.j1 kj2 a0 (wrap64 (x3_2 + 2))) = some r := by rw [if_pos rfl] at H; exact H
          clear H
          have H := H1
          clear H1
          have H' := Aside0.mk H
          clear H
          go_wp2
          go_meet
          case rel => exact ⟨_, (wrap64 (x3_2 + 2)), (by first | rfl | (simp; done) | (simp [*]; done)), H', ⟨by have := HJ2.out; first | omega | exact Nat.le_refl _⟩, by repeat (first | exact Drawn0.refl _ | apply Drawn0.step)⟩
        · replace c7 := Bool.eq_false_iff.mpr c7
          subst c7
          have H1 : (monikerref01_Class.j1 kj2 a0 x3_2) = some r := by rw [if_neg (show ¬ (false = true) by decide)] at H; exact H
          clear H
          have H := H1
          clear H1
          have H' := Aside0.mk H
          clear H
          go_wp2
          go_meet
          case rel => exact ⟨_, (x3_2), (by first | rfl | (simp; done) | (simp [*]; done)), H', ⟨by have := HJ2.out; first | omega | exact Nat.le_refl _⟩, by repeat (first | exact Drawn0.refl _ | apply Drawn0.step)⟩
      case rest =>
        clear HC6
        try clear c2
        try clear p2
        try clear c4
        try clear c5
        try clear p6
        try clear c7
        try clear p2
        obtain ⟨kq, x3_5, rfl, HA, HJ5, ⟨mc5, rfl⟩⟩ := hcut
        cases kq with
        | zero => exact absurd HA.out (by simp [monikerref01_Class.j1])
        | succ kj5 =>
          have H := HA.out
          clear HA
          simp only [monikerref01_Class.j1] at H
          replace H := Option.bind_eq_some_iff.mp H
          obtain ⟨t212, A80, H⟩ := H
          replace H : (if t212 = true then (monikerref01_Class.j2 kj5 a0 (wrap64 (x3_5 + 4))) else (monikerref01_Class.j2 kj5 a0 x3_5)) = some r := H
          have A8 := Aside0.mk A80
          clear A80
          have HC9 := Aside0.mk H
          clear H
          go_upto_if 13 with (first | ((with_reducible refine gate_callee (f := 83) rfl ?_); refine goesL_ (some 13) rfl rfl Tryd.func83 (by kernel_rfl) rfl #[.int .u8 a0, .string (⟨#[45, 46, 95, 126]⟩ : ByteArray)] rfl (by (try simp only [List.map_toArray, List.map_cons, List.map_nil]); first | done | rfl | (simp only [List.length_drop, List.length_take]; rfl)) ?_; (with_reducible refine (monikerref01_In.calls kj5 a0 (⟨#[45, 46, 95, 126]⟩ : ByteArray) t212 _ A8.out).mono ?_); rintro e w' ⟨rfl, ⟨nd, rfl⟩⟩; refine ⟨_, rfl, ?_⟩))
          (try simp only [Act.put, List.setIfInBounds_toArray, List.set_cons_zero, List.set_cons_succ])
          go_cut [3] (fun v3 wc => ∃ (kq : Nat) (x3_8 : Int), v3 = .int .i64 x3_8 ∧ Aside0 (monikerref01_Class.j2 kq a0 x3_8 = some r) ∧ Aside0 (kq ≤ kj5) ∧ Drawn0 w wc)
          case first =>
            have H := HC9.out
            clear HC9
            by_cases c10 : t212 = true
            · subst c10
              have H1 : (monikerref01_Class.j2 kj5 a0 (wrap64 (x3_5 + 4))) = some r := by rw [if_pos rfl] at H; exact H
              clear H
              have H := H1
              clear H1
              have H' := Aside0.mk H
              clear H
              go_wp2
              go_meet
              case rel => exact ⟨_, (wrap64 (x3_5 + 4)), (by first | rfl | (simp; done) | (simp [*]; done)), H', ⟨by have := HJ2.out; have := HJ5.out; first | omega | exact Nat.le_refl _⟩, by repeat (first | exact Drawn0.refl _ | apply Drawn0.step)⟩
            · replace c10 := Bool.eq_false_iff.mpr c10
              subst c10
              have H1 : (monikerref01_Class.j2 kj5 a0 x3_5) = some r := by rw [if_neg (show ¬ (false = true) by decide)] at H; exact H
              clear H
              have H := H1
              clear H1
              have H' := Aside0.mk H
              clear H
              go_wp2
              go_meet
              case rel => exact ⟨_, (x3_5), (by first | rfl | (simp; done) | (simp [*]; done)), H', ⟨by have := HJ2.out; have := HJ5.out; first | omega | exact Nat.le_refl _⟩, by repeat (first | exact Drawn0.refl _ | apply Drawn0.step)⟩
          case rest =>
            clear HC9
            try clear c1
            try clear c2
            try clear p2
            try clear c4
            try clear c5
            try clear p6
            try clear c7
            try clear c8
            try clear c10
            try clear p2
            try clear p6
            obtain ⟨kq, x3_8, rfl, HA, HJ8, ⟨mc8, rfl⟩⟩ := hcut
            cases kq with
            | zero => exact absurd HA.out (by simp [monikerref01_Class.j2])
            | succ kj8 =>
              have H := HA.out
              clear HA
              simp only [monikerref01_Class.j2] at H
              replace H := Option.bind_eq_some_iff.mp H
              obtain ⟨t213, A110, H⟩ := H
              replace H : (if t213 = true then (monikerref01_Class.j3 kj8 a0 (wrap64 (x3_8 + 8))) else (monikerref01_Class.j3 kj8 a0 x3_8)) = some r := H
              have A11 := Aside0.mk A110
              clear A110
              have HC12 := Aside0.mk H
              clear H
              go_upto_if 17 with (first | ((with_reducible refine gate_callee (f := 83) rfl ?_); refine goesL_ (some 17) rfl rfl Tryd.func83 (by kernel_rfl) rfl #[.int .u8 a0, .string (⟨#[33, 36, 38, 39, 40, 41, 42, 43, 44, 59, 61]⟩ : ByteArray)] rfl (by (try simp only [List.map_toArray, List.map_cons, List.map_nil]); first | done | rfl | (simp only [List.length_drop, List.length_take]; rfl)) ?_; (with_reducible refine (monikerref01_In.calls kj8 a0 (⟨#[33, 36, 38, 39, 40, 41, 42, 43, 44, 59, 61]⟩ : ByteArray) t213 _ A11.out).mono ?_); rintro e w' ⟨rfl, ⟨nd, rfl⟩⟩; refine ⟨_, rfl, ?_⟩))
              (try simp only [Act.put, List.setIfInBounds_toArray, List.set_cons_zero, List.set_cons_succ])
              go_cut [3] (fun v3 wc => ∃ (kq : Nat) (x3_11 : Int), v3 = .int .i64 x3_11 ∧ Aside0 (monikerref01_Class.j3 kq a0 x3_11 = some r) ∧ Aside0 (kq ≤ kj8) ∧ Drawn0 w wc)
              case first =>
                have H := HC12.out
                clear HC12
                by_cases c13 : t213 = true
                · subst c13
                  have H1 : (monikerref01_Class.j3 kj8 a0 (wrap64 (x3_8 + 8))) = some r := by rw [if_pos rfl] at H; exact H
                  clear H
                  have H := H1
                  clear H1
                  have H' := Aside0.mk H
                  clear H
                  go_wp2
                  go_meet
                  case rel => exact ⟨_, (wrap64 (x3_8 + 8)), (by first | rfl | (simp; done) | (simp [*]; done)), H', ⟨by have := HJ2.out; have := HJ5.out; have := HJ8.out; first | omega | exact Nat.le_refl _⟩, by repeat (first | exact Drawn0.refl _ | apply Drawn0.step)⟩
                · replace c13 := Bool.eq_false_iff.mpr c13
                  subst c13
                  have H1 : (monikerref01_Class.j3 kj8 a0 x3_8) = some r := by rw [if_neg (show ¬ (false = true) by decide)] at H; exact H
                  clear H
                  have H := H1
                  clear H1
                  have H' := Aside0.mk H
                  clear H
                  go_wp2
                  go_meet
                  case rel => exact ⟨_, (x3_8), (by first | rfl | (simp; done) | (simp [*]; done)), H', ⟨by have := HJ2.out; have := HJ5.out; have := HJ8.out; first | omega | exact Nat.le_refl _⟩, by repeat (first | exact Drawn0.refl _ | apply Drawn0.step)⟩
              case rest =>
                clear HC12
                try clear c1
                try clear c2
                try clear p2
                try clear c4
                try clear c5
                try clear p6
                try clear c7
                try clear c8
                try clear c10
                try clear c13
                try clear p2
                try clear p6
                obtain ⟨kq, x3_11, rfl, HA, HJ11, ⟨mc11, rfl⟩⟩ := hcut
                cases kq with
                | zero => exact absurd HA.out (by simp [monikerref01_Class.j3])
                | succ kj11 =>
                  have H := HA.out
                  clear HA
                  simp only [monikerref01_Class.j3] at H
                  replace H := Option.bind_eq_some_iff.mp H
                  obtain ⟨t214, A140, H⟩ := H
                  replace H : (if t214 = true then ((monikerref01_In.f kj11 a0 (⟨#[48, 49, 50, 51, 52, 53, 54, 55, 56, 57, 65, 66, 67, 68, 69, 70, 97, 98, 99, 100, 101, 102]⟩ : ByteArray)).bind fun t215 => (if t215 = true then (some (wrap64 ((wrap64 (x3_11 + 16)) + 32))) else (some (wrap64 (x3_11 + 16))))) else ((monikerref01_In.f kj11 a0 (⟨#[48, 49, 50, 51, 52, 53, 54, 55, 56, 57, 65, 66, 67, 68, 69, 70, 97, 98, 99, 100, 101, 102]⟩ : ByteArray)).bind fun t216 => (if t216 = true then (some (wrap64 (x3_11 + 32))) else (some x3_11)))) = some r := H
                  have A14 := Aside0.mk A140
                  clear A140
                  by_cases c15 : t214 = true
                  · subst c15
                    have H1 : ((monikerref01_In.f kj11 a0 (⟨#[48, 49, 50, 51, 52, 53, 54, 55, 56, 57, 65, 66, 67, 68, 69, 70, 97, 98, 99, 100, 101, 102]⟩ : ByteArray)).bind fun t215 => (if t215 = true then (some (wrap64 ((wrap64 (x3_11 + 16)) + 32))) else (some (wrap64 (x3_11 + 16))))) = some r := by rw [if_pos rfl] at H; exact H
                    clear H
                    have H := H1
                    clear H1
                    replace H := Option.bind_eq_some_iff.mp H
                    obtain ⟨t215, A160, H⟩ := H
                    replace H : (if t215 = true then (some (wrap64 ((wrap64 (x3_11 + 16)) + 32))) else (some (wrap64 (x3_11 + 16)))) = some r := H
                    have A16 := Aside0.mk A160
                    clear A160
                    by_cases c17 : t215 = true
                    · subst c17
                      have H1 : (some (wrap64 ((wrap64 (x3_11 + 16)) + 32))) = some r := by rw [if_pos rfl] at H; exact H
                      clear H
                      have H := H1
                      clear H1
                      obtain rfl := Option.some.inj H
                      go_wp2_with (first | ((with_reducible refine gate_callee (f := 83) rfl ?_); refine goesL_ (some 21) rfl rfl Tryd.func83 (by kernel_rfl) rfl #[.int .u8 a0, .string (⟨#[58, 47, 63, 35, 91, 93, 64]⟩ : ByteArray)] rfl (by (try simp only [List.map_toArray, List.map_cons, List.map_nil]); first | done | rfl | (simp only [List.length_drop, List.length_take]; rfl)) ?_; (with_reducible refine (monikerref01_In.calls kj11 a0 (⟨#[58, 47, 63, 35, 91, 93, 64]⟩ : ByteArray) true _ A14.out).mono ?_); rintro e w' ⟨rfl, ⟨nd, rfl⟩⟩; refine ⟨_, rfl, ?_⟩) | ((with_reducible refine gate_callee (f := 83) rfl ?_); refine goesL_ (some 25) rfl rfl Tryd.func83 (by kernel_rfl) rfl #[.int .u8 a0, .string (⟨#[48, 49, 50, 51, 52, 53, 54, 55, 56, 57, 65, 66, 67, 68, 69, 70, 97, 98, 99, 100, 101, 102]⟩ : ByteArray)] rfl (by (try simp only [List.map_toArray, List.map_cons, List.map_nil]); first | done | rfl | (simp only [List.length_drop, List.length_take]; rfl)) ?_; (with_reducible refine (monikerref01_In.calls kj11 a0 (⟨#[48, 49, 50, 51, 52, 53, 54, 55, 56, 57, 65, 66, 67, 68, 69, 70, 97, 98, 99, 100, 101, 102]⟩ : ByteArray) true _ A16.out).mono ?_); rintro e w' ⟨rfl, ⟨nd, rfl⟩⟩; refine ⟨_, rfl, ?_⟩))
                      go_ret
                      exact ⟨by first | rfl | (simp; done) | (simp [*]; done), by repeat (first | exact Drawn0.refl _ | apply Drawn0.step)⟩
                    · replace c17 := Bool.eq_false_iff.mpr c17
                      subst c17
                      have H1 : (some (wrap64 (x3_11 + 16))) = some r := by rw [if_neg (show ¬ (false = true) by decide)] at H; exact H
                      clear H
                      have H := H1
                      clear H1
                      obtain rfl := Option.some.inj H
                      go_wp2_with (first | ((with_reducible refine gate_callee (f := 83) rfl ?_); refine goesL_ (some 21) rfl rfl Tryd.func83 (by kernel_rfl) rfl #[.int .u8 a0, .string (⟨#[58, 47, 63, 35, 91, 93, 64]⟩ : ByteArray)] rfl (by (try simp only [List.map_toArray, List.map_cons, List.map_nil]); first | done | rfl | (simp only [List.length_drop, List.length_take]; rfl)) ?_; (with_reducible refine (monikerref01_In.calls kj11 a0 (⟨#[58, 47, 63, 35, 91, 93, 64]⟩ : ByteArray) true _ A14.out).mono ?_); rintro e w' ⟨rfl, ⟨nd, rfl⟩⟩; refine ⟨_, rfl, ?_⟩) | ((with_reducible refine gate_callee (f := 83) rfl ?_); refine goesL_ (some 25) rfl rfl Tryd.func83 (by kernel_rfl) rfl #[.int .u8 a0, .string (⟨#[48, 49, 50, 51, 52, 53, 54, 55, 56, 57, 65, 66, 67, 68, 69, 70, 97, 98, 99, 100, 101, 102]⟩ : ByteArray)] rfl (by (try simp only [List.map_toArray, List.map_cons, List.map_nil]); first | done | rfl | (simp only [List.length_drop, List.length_take]; rfl)) ?_; (with_reducible refine (monikerref01_In.calls kj11 a0 (⟨#[48, 49, 50, 51, 52, 53, 54, 55, 56, 57, 65, 66, 67, 68, 69, 70, 97, 98, 99, 100, 101, 102]⟩ : ByteArray) false _ A16.out).mono ?_); rintro e w' ⟨rfl, ⟨nd, rfl⟩⟩; refine ⟨_, rfl, ?_⟩))
                      go_ret
                      exact ⟨by first | rfl | (simp; done) | (simp [*]; done), by repeat (first | exact Drawn0.refl _ | apply Drawn0.step)⟩
                  · replace c15 := Bool.eq_false_iff.mpr c15
                    subst c15
                    have H1 : ((monikerref01_In.f kj11 a0 (⟨#[48, 49, 50, 51, 52, 53, 54, 55, 56, 57, 65, 66, 67, 68, 69, 70, 97, 98, 99, 100, 101, 102]⟩ : ByteArray)).bind fun t216 => (if t216 = true then (some (wrap64 (x3_11 + 32))) else (some x3_11))) = some r := by rw [if_neg (show ¬ (false = true) by decide)] at H; exact H
                    clear H
                    have H := H1
                    clear H1
                    replace H := Option.bind_eq_some_iff.mp H
                    obtain ⟨t216, A180, H⟩ := H
                    replace H : (if t216 = true then (some (wrap64 (x3_11 + 32))) else (some x3_11)) = some r := H
                    have A18 := Aside0.mk A180
                    clear A180
                    by_cases c19 : t216 = true
                    · subst c19
                      have H1 : (some (wrap64 (x3_11 + 32))) = some r := by rw [if_pos rfl] at H; exact H
                      clear H
                      have H := H1
                      clear H1
                      obtain rfl := Option.some.inj H
                      go_wp2_with (first | ((with_reducible refine gate_callee (f := 83) rfl ?_); refine goesL_ (some 21) rfl rfl Tryd.func83 (by kernel_rfl) rfl #[.int .u8 a0, .string (⟨#[58, 47, 63, 35, 91, 93, 64]⟩ : ByteArray)] rfl (by (try simp only [List.map_toArray, List.map_cons, List.map_nil]); first | done | rfl | (simp only [List.length_drop, List.length_take]; rfl)) ?_; (with_reducible refine (monikerref01_In.calls kj11 a0 (⟨#[58, 47, 63, 35, 91, 93, 64]⟩ : ByteArray) false _ A14.out).mono ?_); rintro e w' ⟨rfl, ⟨nd, rfl⟩⟩; refine ⟨_, rfl, ?_⟩) | ((with_reducible refine gate_callee (f := 83) rfl ?_); refine goesL_ (some 25) rfl rfl Tryd.func83 (by kernel_rfl) rfl #[.int .u8 a0, .string (⟨#[48, 49, 50, 51, 52, 53, 54, 55, 56, 57, 65, 66, 67, 68, 69, 70, 97, 98, 99, 100, 101, 102]⟩ : ByteArray)] rfl (by (try simp only [List.map_toArray, List.map_cons, List.map_nil]); first | done | rfl | (simp only [List.length_drop, List.length_take]; rfl)) ?_; (with_reducible refine (monikerref01_In.calls kj11 a0 (⟨#[48, 49, 50, 51, 52, 53, 54, 55, 56, 57, 65, 66, 67, 68, 69, 70, 97, 98, 99, 100, 101, 102]⟩ : ByteArray) true _ A18.out).mono ?_); rintro e w' ⟨rfl, ⟨nd, rfl⟩⟩; refine ⟨_, rfl, ?_⟩))
                      go_ret
                      exact ⟨by first | rfl | (simp; done) | (simp [*]; done), by repeat (first | exact Drawn0.refl _ | apply Drawn0.step)⟩
                    · replace c19 := Bool.eq_false_iff.mpr c19
                      subst c19
                      have H1 : (some x3_11) = some r := by rw [if_neg (show ¬ (false = true) by decide)] at H; exact H
                      clear H
                      have H := H1
                      clear H1
                      obtain rfl := Option.some.inj H
                      go_wp2_with (first | ((with_reducible refine gate_callee (f := 83) rfl ?_); refine goesL_ (some 21) rfl rfl Tryd.func83 (by kernel_rfl) rfl #[.int .u8 a0, .string (⟨#[58, 47, 63, 35, 91, 93, 64]⟩ : ByteArray)] rfl (by (try simp only [List.map_toArray, List.map_cons, List.map_nil]); first | done | rfl | (simp only [List.length_drop, List.length_take]; rfl)) ?_; (with_reducible refine (monikerref01_In.calls kj11 a0 (⟨#[58, 47, 63, 35, 91, 93, 64]⟩ : ByteArray) false _ A14.out).mono ?_); rintro e w' ⟨rfl, ⟨nd, rfl⟩⟩; refine ⟨_, rfl, ?_⟩) | ((with_reducible refine gate_callee (f := 83) rfl ?_); refine goesL_ (some 25) rfl rfl Tryd.func83 (by kernel_rfl) rfl #[.int .u8 a0, .string (⟨#[48, 49, 50, 51, 52, 53, 54, 55, 56, 57, 65, 66, 67, 68, 69, 70, 97, 98, 99, 100, 101, 102]⟩ : ByteArray)] rfl (by (try simp only [List.map_toArray, List.map_cons, List.map_nil]); first | done | rfl | (simp only [List.length_drop, List.length_take]; rfl)) ?_; (with_reducible refine (monikerref01_In.calls kj11 a0 (⟨#[48, 49, 50, 51, 52, 53, 54, 55, 56, 57, 65, 66, 67, 68, 69, 70, 97, 98, 99, 100, 101, 102]⟩ : ByteArray) false _ A18.out).mono ?_); rintro e w' ⟨rfl, ⟨nd, rfl⟩⟩; refine ⟨_, rfl, ?_⟩))
                      go_ret
                      exact ⟨by first | rfl | (simp; done) | (simp [*]; done), by repeat (first | exact Drawn0.refl _ | apply Drawn0.step)⟩
def monikerref18_Plain.j0 : Nat → Int → Int → Bool → ByteArray → ByteArray → ByteArray → ByteArray → ByteArray → ByteArray → ByteArray → ByteArray → Option (Bool)
  | 0, _, _, _, _, _, _, _, _, _, _, _ => none
  | k + 1, x0, x1, x12, x218000, x218001, x218002, x218003, x218004, x218005, x218006, x218007 => if x12 = true then (some false) else ((monikerref01_Class.f k x1).bind fun t218 => (if (Go.bits .and .i64 t218 15) = 0 then (if 0 ≤ x0 then (if x0 < 8 then (if x0 = 0 then ((monikerref01_In.f k x1 x218000).bind fun t219 => (some t219)) else (if x0 = 1 then ((monikerref01_In.f k x1 x218001).bind fun t220 => (some t220)) else (if x0 = 2 then ((monikerref01_In.f k x1 x218002).bind fun t221 => (some t221)) else (if x0 = 3 then ((monikerref01_In.f k x1 x218003).bind fun t222 => (some t222)) else (if x0 = 4 then ((monikerref01_In.f k x1 x218004).bind fun t223 => (some t223)) else (if x0 = 5 then ((monikerref01_In.f k x1 x218005).bind fun t224 => (some t224)) else (if x0 = 6 then ((monikerref01_In.f k x1 x218006).bind fun t225 => (some t225)) else (if x0 = 7 then ((monikerref01_In.f k x1 x218007).bind fun t226 => (some t226)) else (none))))))))) else (none)) else (none)) else (some true)))
def monikerref18_Plain.f (k : Nat) (a0 : Int) (a1 : Int) : Option (Bool) := if a0 < 1 then (monikerref18_Plain.j0 k a0 a1 true (⟨#[]⟩ : ByteArray) (⟨#[58]⟩ : ByteArray) (⟨#[]⟩ : ByteArray) (⟨#[58, 64]⟩ : ByteArray) (⟨#[64]⟩ : ByteArray) (⟨#[58, 64, 47]⟩ : ByteArray) (⟨#[58, 64, 47, 63]⟩ : ByteArray) (⟨#[58, 64, 47, 63]⟩ : ByteArray)) else (monikerref18_Plain.j0 k a0 a1 (decide (a0 > 7)) (⟨#[]⟩ : ByteArray) (⟨#[58]⟩ : ByteArray) (⟨#[]⟩ : ByteArray) (⟨#[58, 64]⟩ : ByteArray) (⟨#[64]⟩ : ByteArray) (⟨#[58, 64, 47]⟩ : ByteArray) (⟨#[58, 64, 47, 63]⟩ : ByteArray) (⟨#[58, 64, 47, 63]⟩ : ByteArray))
theorem monikerref18_Plain.mono_l : ∀ k, (∀ y0 y1 y2 y3 y4 y5 y6 y7 y8 y9 y10, LeO (monikerref18_Plain.j0 k y0 y1 y2 y3 y4 y5 y6 y7 y8 y9 y10) (monikerref18_Plain.j0 (k + 1) y0 y1 y2 y3 y4 y5 y6 y7 y8 y9 y10))
  | 0 => fun _ _ _ _ _ _ _ _ _ _ _ r h => by simp [monikerref18_Plain.j0] at h
  | k + 1 => by
    have ih0 := monikerref18_Plain.mono_l k
    · intro y0 y1 y2 y3 y4 y5 y6 y7 y8 y9 y10
      unfold monikerref18_Plain.j0
      repeat' first
      | (with_reducible exact ih0 _ _ _ _ _ _ _ _ _ _ _)
      | (with_reducible exact monikerref01_Class.mono _ _)
      | (with_reducible exact monikerref01_In.mono _ _ _)
      | (with_reducible exact LeO.refl _)
      | (with_reducible exact LeO.none _)
      | (with_reducible refine LeO.ite ?_ ?_)
      | (with_reducible refine LeO.bind ?_ (fun _ => ?_))
      | exact ih0 _ _ _ _ _ _ _ _ _ _ _
      | exact monikerref01_Class.mono _ _
      | exact monikerref01_In.mono _ _ _
      | exact LeO.none _
      | refine LeO.ite ?_ ?_
      | refine LeO.bind ?_ (fun _ => ?_)
theorem monikerref18_Plain.mono : ∀ a0 a1 k, LeO (monikerref18_Plain.f k a0 a1) (monikerref18_Plain.f (k + 1) a0 a1) := by
  intro a0 a1 k
  have ih0 := monikerref18_Plain.mono_l k
  unfold monikerref18_Plain.f
  repeat' first
      | (with_reducible exact ih0 _ _ _ _ _ _ _ _ _ _ _)
      | (with_reducible exact monikerref01_Class.mono _ _)
      | (with_reducible exact monikerref01_In.mono _ _ _)
      | (with_reducible exact LeO.refl _)
      | (with_reducible exact LeO.none _)
      | (with_reducible refine LeO.ite ?_ ?_)
      | (with_reducible refine LeO.bind ?_ (fun _ => ?_))
      | exact ih0 _ _ _ _ _ _ _ _ _ _ _
      | exact monikerref01_Class.mono _ _
      | exact monikerref01_In.mono _ _ _
      | exact LeO.none _
      | refine LeO.ite ?_ ?_
      | refine LeO.bind ?_ (fun _ => ?_)
set_option maxHeartbeats 8000000 in
set_option maxRecDepth 100000 in
theorem monikerref18_Plain.calls (k : Nat) (a0 : Int) (a1 : Int) (r : Bool) (w : World) (h : monikerref18_Plain.f k a0 a1 = some r) :
    Calls Tryd.prog 105 #[.int .i64 a0, .int .u8 a1] w fun e w' => e = .returned (.bool r) ∧ Below w.heap.size w w' := by
  have hu147 := Tryd.underlying147
  have HB := Aside0.mk (Below.refl w.heap.size w)
  have H : (if a0 < 1 then (monikerref18_Plain.j0 k a0 a1 true (⟨#[]⟩ : ByteArray) (⟨#[58]⟩ : ByteArray) (⟨#[]⟩ : ByteArray) (⟨#[58, 64]⟩ : ByteArray) (⟨#[64]⟩ : ByteArray) (⟨#[58, 64, 47]⟩ : ByteArray) (⟨#[58, 64, 47, 63]⟩ : ByteArray) (⟨#[58, 64, 47, 63]⟩ : ByteArray)) else (monikerref18_Plain.j0 k a0 a1 (decide (a0 > 7)) (⟨#[]⟩ : ByteArray) (⟨#[58]⟩ : ByteArray) (⟨#[]⟩ : ByteArray) (⟨#[58, 64]⟩ : ByteArray) (⟨#[64]⟩ : ByteArray) (⟨#[58, 64, 47]⟩ : ByteArray) (⟨#[58, 64, 47, 63]⟩ : ByteArray) (⟨#[58, 64, 47, 63]⟩ : ByteArray))) = some r := h
  clear h
  have HC3 := Aside0.mk H
  clear H
  go_enter Tryd.func105, Tryd.ntmps105
  go_upto_region 2 with (first | ((with_reducible refine gate_dst (N := 5) rfl ?_); refine box_event ?hg (N := 5) ?hd (cs := #[.string (⟨#[]⟩ : ByteArray), .string (⟨#[]⟩ : ByteArray), .string (⟨#[]⟩ : ByteArray), .string (⟨#[]⟩ : ByteArray), .string (⟨#[]⟩ : ByteArray), .string (⟨#[]⟩ : ByteArray), .string (⟨#[]⟩ : ByteArray), .string (⟨#[]⟩ : ByteArray)]) (t := 147) ?hr ?_; (case hd => rfl); (case hg => rfl); (case hr => first | (go_simp; done) | (go_simp; rfl)); intro gb217 hg w4 hbox hb; have n0_ := Aside0.mk (below_step (by repeat (first | (with_reducible first | exact HB.out | apply below_alloc | apply pw_below_drewN | apply below_drew1) | exact HB.out)) hb); have n1_ := Aside0.mk (hbox); have n2_ := Aside0.mk ((by rw [hg]; exact (below_size (by repeat (first | (with_reducible first | exact HB.out | apply below_alloc | apply pw_below_drewN | apply below_drew1) | exact HB.out))) : w.heap.size ≤ gb217)); have n3_ := Aside0.mk ((by rw [hg]; exact (below_size (by repeat (first | (with_reducible first | exact HB.out | apply below_alloc | apply pw_below_drewN | apply below_drew1) | exact HB.out))) : w.heap.size ≤ gb217)); clear HB; have HB := n0_; have BK217 := n1_; have GW217 := n2_; have GE217 := n3_; clear n0_ n1_ n2_ n3_; clear hb hbox hg; have hcz5_0 : w4.cell? ⟨gb217, 0, none⟩ = some (.string (⟨#[]⟩ : ByteArray)) := (blk_cell BK217.out 0).trans rfl; have hcz5_1 : w4.cell? ⟨gb217, 1, none⟩ = some (.string (⟨#[]⟩ : ByteArray)) := (blk_cell BK217.out 1).trans rfl; have hcz5_2 : w4.cell? ⟨gb217, 2, none⟩ = some (.string (⟨#[]⟩ : ByteArray)) := (blk_cell BK217.out 2).trans rfl; have hcz5_3 : w4.cell? ⟨gb217, 3, none⟩ = some (.string (⟨#[]⟩ : ByteArray)) := (blk_cell BK217.out 3).trans rfl; have hcz5_4 : w4.cell? ⟨gb217, 4, none⟩ = some (.string (⟨#[]⟩ : ByteArray)) := (blk_cell BK217.out 4).trans rfl; have hcz5_5 : w4.cell? ⟨gb217, 5, none⟩ = some (.string (⟨#[]⟩ : ByteArray)) := (blk_cell BK217.out 5).trans rfl; have hcz5_6 : w4.cell? ⟨gb217, 6, none⟩ = some (.string (⟨#[]⟩ : ByteArray)) := (blk_cell BK217.out 6).trans rfl; have hcz5_7 : w4.cell? ⟨gb217, 7, none⟩ = some (.string (⟨#[]⟩ : ByteArray)) := (blk_cell BK217.out 7).trans rfl; have hfz5_0 := blk_frozen BK217.out 0; have hfz5_1 := blk_frozen BK217.out 1; have hfz5_2 := blk_frozen BK217.out 2; have hfz5_3 := blk_frozen BK217.out 3; have hfz5_4 := blk_frozen BK217.out 4; have hfz5_5 := blk_frozen BK217.out 5; have hfz5_6 := blk_frozen BK217.out 6; have hfz5_7 := blk_frozen BK217.out 7))
  (try simp only [Act.put, List.setIfInBounds_toArray, List.set_cons_zero, List.set_cons_succ])
  go_cut [12] (fun v12 wc => ∃ (kq : Nat) (x12_2 : Bool), v12 = .bool x12_2 ∧ Aside0 (monikerref18_Plain.j0 kq a0 a1 x12_2 (⟨#[]⟩ : ByteArray) (⟨#[58]⟩ : ByteArray) (⟨#[]⟩ : ByteArray) (⟨#[58, 64]⟩ : ByteArray) (⟨#[64]⟩ : ByteArray) (⟨#[58, 64, 47]⟩ : ByteArray) (⟨#[58, 64, 47, 63]⟩ : ByteArray) (⟨#[58, 64, 47, 63]⟩ : ByteArray) = some r) ∧ Aside0 (kq ≤ k) ∧ Aside0 (wc.heap[gb217]? = some (.cells #[.string (⟨#[]⟩ : ByteArray), .string (⟨#[58]⟩ : ByteArray), .string (⟨#[]⟩ : ByteArray), .string (⟨#[58, 64]⟩ : ByteArray), .string (⟨#[64]⟩ : ByteArray), .string (⟨#[58, 64, 47]⟩ : ByteArray), .string (⟨#[58, 64, 47, 63]⟩ : ByteArray), .string (⟨#[58, 64, 47, 63]⟩ : ByteArray)] 147 (0, 0))) ∧ Aside0 (Below w.heap.size w wc))
  case first =>
    have H := HC3.out
    clear HC3
    by_cases c6 : a0 < 1
    · rw [if_pos c6] at H
      have c6b0 : decide (a0 < 1) = true := decide_eq_true c6
      clear c6
      (first | rw [c6b0] | (simp only [i64_w, i32_w]; rw [c6b0]) | skip)
      have H' := Aside0.mk H
      clear H
      go_wp2
      go_meet
      case rel => exact ⟨_, (true), (by first | rfl | (simp; done) | (simp [*]; done)), H', ⟨by first | omega | exact Nat.le_refl _⟩, ⟨by (with_reducible repeat (first | refine blk_drewN ?_ _ | refine blk_drew ?_ | refine blk_alloc ?_ _)); refine blk_put (cs := #[.string (⟨#[]⟩ : ByteArray), .string (⟨#[58]⟩ : ByteArray), .string (⟨#[]⟩ : ByteArray), .string (⟨#[58, 64]⟩ : ByteArray), .string (⟨#[64]⟩ : ByteArray), .string (⟨#[58, 64, 47]⟩ : ByteArray), .string (⟨#[58, 64, 47, 63]⟩ : ByteArray), .string (⟨#[]⟩ : ByteArray)]) ?_ 7 _ rfl; (with_reducible repeat (first | refine blk_drewN ?_ _ | refine blk_drew ?_ | refine blk_alloc ?_ _)); refine blk_put (cs := #[.string (⟨#[]⟩ : ByteArray), .string (⟨#[58]⟩ : ByteArray), .string (⟨#[]⟩ : ByteArray), .string (⟨#[58, 64]⟩ : ByteArray), .string (⟨#[64]⟩ : ByteArray), .string (⟨#[58, 64, 47]⟩ : ByteArray), .string (⟨#[]⟩ : ByteArray), .string (⟨#[]⟩ : ByteArray)]) ?_ 6 _ rfl; (with_reducible repeat (first | refine blk_drewN ?_ _ | refine blk_drew ?_ | refine blk_alloc ?_ _)); refine blk_put (cs := #[.string (⟨#[]⟩ : ByteArray), .string (⟨#[58]⟩ : ByteArray), .string (⟨#[]⟩ : ByteArray), .string (⟨#[58, 64]⟩ : ByteArray), .string (⟨#[64]⟩ : ByteArray), .string (⟨#[]⟩ : ByteArray), .string (⟨#[]⟩ : ByteArray), .string (⟨#[]⟩ : ByteArray)]) ?_ 5 _ rfl; (with_reducible repeat (first | refine blk_drewN ?_ _ | refine blk_drew ?_ | refine blk_alloc ?_ _)); refine blk_put (cs := #[.string (⟨#[]⟩ : ByteArray), .string (⟨#[58]⟩ : ByteArray), .string (⟨#[]⟩ : ByteArray), .string (⟨#[58, 64]⟩ : ByteArray), .string (⟨#[]⟩ : ByteArray), .string (⟨#[]⟩ : ByteArray), .string (⟨#[]⟩ : ByteArray), .string (⟨#[]⟩ : ByteArray)]) ?_ 4 _ rfl; (with_reducible repeat (first | refine blk_drewN ?_ _ | refine blk_drew ?_ | refine blk_alloc ?_ _)); refine blk_put (cs := #[.string (⟨#[]⟩ : ByteArray), .string (⟨#[58]⟩ : ByteArray), .string (⟨#[]⟩ : ByteArray), .string (⟨#[]⟩ : ByteArray), .string (⟨#[]⟩ : ByteArray), .string (⟨#[]⟩ : ByteArray), .string (⟨#[]⟩ : ByteArray), .string (⟨#[]⟩ : ByteArray)]) ?_ 3 _ rfl; (with_reducible repeat (first | refine blk_drewN ?_ _ | refine blk_drew ?_ | refine blk_alloc ?_ _)); refine blk_put (cs := #[.string (⟨#[]⟩ : ByteArray), .string (⟨#[58]⟩ : ByteArray), .string (⟨#[]⟩ : ByteArray), .string (⟨#[]⟩ : ByteArray), .string (⟨#[]⟩ : ByteArray), .string (⟨#[]⟩ : ByteArray), .string (⟨#[]⟩ : ByteArray), .string (⟨#[]⟩ : ByteArray)]) ?_ 2 _ rfl; (with_reducible repeat (first | refine blk_drewN ?_ _ | refine blk_drew ?_ | refine blk_alloc ?_ _)); refine blk_put (cs := #[.string (⟨#[]⟩ : ByteArray), .string (⟨#[]⟩ : ByteArray), .string (⟨#[]⟩ : ByteArray), .string (⟨#[]⟩ : ByteArray), .string (⟨#[]⟩ : ByteArray), .string (⟨#[]⟩ : ByteArray), .string (⟨#[]⟩ : ByteArray), .string (⟨#[]⟩ : ByteArray)]) ?_ 1 _ rfl; (with_reducible repeat (first | refine blk_drewN ?_ _ | refine blk_drew ?_ | refine blk_alloc ?_ _)); refine blk_put (cs := #[.string (⟨#[]⟩ : ByteArray), .string (⟨#[]⟩ : ByteArray), .string (⟨#[]⟩ : ByteArray), .string (⟨#[]⟩ : ByteArray), .string (⟨#[]⟩ : ByteArray), .string (⟨#[]⟩ : ByteArray), .string (⟨#[]⟩ : ByteArray), .string (⟨#[]⟩ : ByteArray)]) ?_ 0 _ rfl; (with_reducible repeat (first | refine blk_drewN ?_ _ | refine blk_drew ?_ | refine blk_alloc ?_ _)); exact BK217.out⟩, ⟨by repeat (first | (with_reducible first | exact HB.out | apply below_alloc | apply pw_below_drewN | apply below_drew1 | refine below_set ?_ GE217.out) | exact HB.out)⟩⟩
    · rw [if_neg c6] at H
      have c6b0 : decide (a0 < 1) = false := decide_eq_false c6
      clear c6
      (first | rw [c6b0] | (simp only [i64_w, i32_w]; rw [c6b0]) | skip)
      have H' := Aside0.mk H
      clear H
      go_wp2
      go_meet
      case rel => exact ⟨_, (decide (a0 > 7)), (by first | rfl | (simp; done) | (simp [*]; done)), H', ⟨by first | omega | exact Nat.le_refl _⟩, ⟨by (with_reducible repeat (first | refine blk_drewN ?_ _ | refine blk_drew ?_ | refine blk_alloc ?_ _)); refine blk_put (cs := #[.string (⟨#[]⟩ : ByteArray), .string (⟨#[58]⟩ : ByteArray), .string (⟨#[]⟩ : ByteArray), .string (⟨#[58, 64]⟩ : ByteArray), .string (⟨#[64]⟩ : ByteArray), .string (⟨#[58, 64, 47]⟩ : ByteArray), .string (⟨#[58, 64, 47, 63]⟩ : ByteArray), .string (⟨#[]⟩ : ByteArray)]) ?_ 7 _ rfl; (with_reducible repeat (first | refine blk_drewN ?_ _ | refine blk_drew ?_ | refine blk_alloc ?_ _)); refine blk_put (cs := #[.string (⟨#[]⟩ : ByteArray), .string (⟨#[58]⟩ : ByteArray), .string (⟨#[]⟩ : ByteArray), .string (⟨#[58, 64]⟩ : ByteArray), .string (⟨#[64]⟩ : ByteArray), .string (⟨#[58, 64, 47]⟩ : ByteArray), .string (⟨#[]⟩ : ByteArray), .string (⟨#[]⟩ : ByteArray)]) ?_ 6 _ rfl; (with_reducible repeat (first | refine blk_drewN ?_ _ | refine blk_drew ?_ | refine blk_alloc ?_ _)); refine blk_put (cs := #[.string (⟨#[]⟩ : ByteArray), .string (⟨#[58]⟩ : ByteArray), .string (⟨#[]⟩ : ByteArray), .string (⟨#[58, 64]⟩ : ByteArray), .string (⟨#[64]⟩ : ByteArray), .string (⟨#[]⟩ : ByteArray), .string (⟨#[]⟩ : ByteArray), .string (⟨#[]⟩ : ByteArray)]) ?_ 5 _ rfl; (with_reducible repeat (first | refine blk_drewN ?_ _ | refine blk_drew ?_ | refine blk_alloc ?_ _)); refine blk_put (cs := #[.string (⟨#[]⟩ : ByteArray), .string (⟨#[58]⟩ : ByteArray), .string (⟨#[]⟩ : ByteArray), .string (⟨#[58, 64]⟩ : ByteArray), .string (⟨#[]⟩ : ByteArray), .string (⟨#[]⟩ : ByteArray), .string (⟨#[]⟩ : ByteArray), .string (⟨#[]⟩ : ByteArray)]) ?_ 4 _ rfl; (with_reducible repeat (first | refine blk_drewN ?_ _ | refine blk_drew ?_ | refine blk_alloc ?_ _)); refine blk_put (cs := #[.string (⟨#[]⟩ : ByteArray), .string (⟨#[58]⟩ : ByteArray), .string (⟨#[]⟩ : ByteArray), .string (⟨#[]⟩ : ByteArray), .string (⟨#[]⟩ : ByteArray), .string (⟨#[]⟩ : ByteArray), .string (⟨#[]⟩ : ByteArray), .string (⟨#[]⟩ : ByteArray)]) ?_ 3 _ rfl; (with_reducible repeat (first | refine blk_drewN ?_ _ | refine blk_drew ?_ | refine blk_alloc ?_ _)); refine blk_put (cs := #[.string (⟨#[]⟩ : ByteArray), .string (⟨#[58]⟩ : ByteArray), .string (⟨#[]⟩ : ByteArray), .string (⟨#[]⟩ : ByteArray), .string (⟨#[]⟩ : ByteArray), .string (⟨#[]⟩ : ByteArray), .string (⟨#[]⟩ : ByteArray), .string (⟨#[]⟩ : ByteArray)]) ?_ 2 _ rfl; (with_reducible repeat (first | refine blk_drewN ?_ _ | refine blk_drew ?_ | refine blk_alloc ?_ _)); refine blk_put (cs := #[.string (⟨#[]⟩ : ByteArray), .string (⟨#[]⟩ : ByteArray), .string (⟨#[]⟩ : ByteArray), .string (⟨#[]⟩ : ByteArray), .string (⟨#[]⟩ : ByteArray), .string (⟨#[]⟩ : ByteArray), .string (⟨#[]⟩ : ByteArray), .string (⟨#[]⟩ : ByteArray)]) ?_ 1 _ rfl; (with_reducible repeat (first | refine blk_drewN ?_ _ | refine blk_drew ?_ | refine blk_alloc ?_ _)); refine blk_put (cs := #[.string (⟨#[]⟩ : ByteArray), .string (⟨#[]⟩ : ByteArray), .string (⟨#[]⟩ : ByteArray), .string (⟨#[]⟩ : ByteArray), .string (⟨#[]⟩ : ByteArray), .string (⟨#[]⟩ : ByteArray), .string (⟨#[]⟩ : ByteArray), .string (⟨#[]⟩ : ByteArray)]) ?_ 0 _ rfl; (with_reducible repeat (first | refine blk_drewN ?_ _ | refine blk_drew ?_ | refine blk_alloc ?_ _)); exact BK217.out⟩, ⟨by repeat (first | (with_reducible first | exact HB.out | apply below_alloc | apply pw_below_drewN | apply below_drew1 | refine below_set ?_ GE217.out) | exact HB.out)⟩⟩
  case rest =>
    clear HC3
    try clear c1
    try clear p2
    try clear c6
    try clear c6b0
    try clear hcz5_0
    try clear hcz5_1
    try clear hcz5_2
    try clear hcz5_3
    try clear hcz5_4
    try clear hcz5_5
    try clear hcz5_6
    try clear hcz5_7
    try clear hfz5_0
    try clear hfz5_1
    try clear hfz5_2
    try clear hfz5_3
    try clear hfz5_4
    try clear hfz5_5
    try clear hfz5_6
    try clear hfz5_7
    obtain ⟨kq, x12_2, rfl, HA, HJ2, BK217, HB⟩ := hcut
    cases kq with
    | zero => exact absurd HA.out (by simp [monikerref18_Plain.j0])
    | succ kj2 =>
      have H := HA.out
      clear HA
      simp only [monikerref18_Plain.j0] at H
      by_cases c7 : x12_2 = true
      · subst c7
        have H1 : (some false) = some r := by rw [if_pos rfl] at H; exact H
        clear H
        have H := H1
        clear H1
        obtain rfl := Option.some.inj H
        go_wp2
        go_ret
        exact ⟨by first | rfl | (simp [errW_none, errW_some] <;> rfl) | (simp [*, errW_none, errW_some] <;> rfl) | (simp [*, errW_none, errW_some, Glue.bne_nil] <;> rfl), by repeat (first | (with_reducible first | exact HB.out | apply below_alloc | apply pw_below_drewN | apply below_drew1 | refine below_set ?_ GE217.out) | exact HB.out)⟩
      · replace c7 := Bool.eq_false_iff.mpr c7
        subst c7
        have H1 : ((monikerref01_Class.f kj2 a1).bind fun t218 => (if (Go.bits .and .i64 t218 15) = 0 then (if 0 ≤ a0 then (if a0 < 8 then (if a0 = 0 then ((monikerref01_In.f kj2 a1 (⟨#[]⟩ : ByteArray)).bind fun t219 => (some t219)) else (if a0 = 1 then ((monikerref01_In.f kj2 a1 (⟨#[58]⟩ : ByteArray)).bind fun t220 => (some t220)) else (if a0 = 2 then ((monikerref01_In.f kj2 a1 (⟨#[]⟩ : ByteArray)).bind fun t221 => (some t221)) else (if a0 = 3 then ((monikerref01_In.f kj2 a1 (⟨#[58, 64]⟩ : ByteArray)).bind fun t222 => (some t222)) else (if a0 = 4 then ((monikerref01_In.f kj2 a1 (⟨#[64]⟩ : ByteArray)).bind fun t223 => (some t223)) else (if a0 = 5 then ((monikerref01_In.f kj2 a1 (⟨#[58, 64, 47]⟩ : ByteArray)).bind fun t224 => (some t224)) else (if a0 = 6 then ((monikerref01_In.f kj2 a1 (⟨#[58, 64, 47, 63]⟩ : ByteArray)).bind fun t225 => (some t225)) else (if a0 = 7 then ((monikerref01_In.f kj2 a1 (⟨#[58, 64, 47, 63]⟩ : ByteArray)).bind fun t226 => (some t226)) else (none))))))))) else (none)) else (none)) else (some true))) = some r := by rw [if_neg (show ¬ (false = true) by decide)] at H; exact H
        clear H
        have H := H1
        clear H1
        replace H := Option.bind_eq_some_iff.mp H
        obtain ⟨t218, A80, H⟩ := H
        replace H : (if (Go.bits .and .i64 t218 15) = 0 then (if 0 ≤ a0 then (if a0 < 8 then (if a0 = 0 then ((monikerref01_In.f kj2 a1 (⟨#[]⟩ : ByteArray)).bind fun t219 => (some t219)) else (if a0 = 1 then ((monikerref01_In.f kj2 a1 (⟨#[58]⟩ : ByteArray)).bind fun t220 => (some t220)) else (if a0 = 2 then ((monikerref01_In.f kj2 a1 (⟨#[]⟩ : ByteArray)).bind fun t221 => (some t221)) else (if a0 = 3 then ((monikerref01_In.f kj2 a1 (⟨#[58, 64]⟩ : ByteArray)).bind fun t222 => (some t222)) else (if a0 = 4 then ((monikerref01_In.f kj2 a1 (⟨#[64]⟩ : ByteArray)).bind fun t223 => (some t223)) else (if a0 = 5 then ((monikerref01_In.f kj2 a1 (⟨#[58, 64, 47]⟩ : ByteArray)).bind fun t224 => (some t224)) else (if a0 = 6 then ((monikerref01_In.f kj2 a1 (⟨#[58, 64, 47, 63]⟩ : ByteArray)).bind fun t225 => (some t225)) else (if a0 = 7 then ((monikerref01_In.f kj2 a1 (⟨#[58, 64, 47, 63]⟩ : ByteArray)).bind fun t226 => (some t226)) else (none))))))))) else (none)) else (none)) else (some true)) = some r := H
        have A8 := Aside0.mk A80
        clear A80
        by_cases c9 : (Go.bits .and .i64 t218 15) = 0
        · rw [if_pos c9] at H
          have c9b0 : ((Go.bits .and .i64 t218 15) == 0) = true := beq_iff_eq.mpr c9
          have c9b1 : ((Go.bits .and .i64 t218 15) != 0) = false := bne_eq_false_iff_eq.mpr c9
          clear c9
          by_cases c10 : 0 ≤ a0
          · rw [if_pos c10] at H
            have c10b0 : decide (0 ≤ a0) = true := decide_eq_true c10
            clear c10
            by_cases c11 : a0 < 8
            · rw [if_pos c11] at H
              have c11b0 : decide (a0 < 8) = true := decide_eq_true c11
              clear c11
              by_cases c12 : a0 = 0
              · subst c12
                have H1 : ((monikerref01_In.f kj2 a1 (⟨#[]⟩ : ByteArray)).bind fun t219 => (some t219)) = some r := by rw [if_pos rfl] at H; exact H
                clear H
                have H := H1
                clear H1
                replace H := Option.bind_eq_some_iff.mp H
                obtain ⟨t219, A130, H⟩ := H
                replace H : (some t219) = some r := H
                have A13 := Aside0.mk A130
                clear A130
                obtain rfl := Option.some.inj H
                go_wp2_with (first | ((with_reducible refine gate_callee (f := 53) rfl ?_); refine goesL_ (some 14) rfl rfl Tryd.func53 (by kernel_rfl) rfl #[.int .u8 a1] rfl (by (try simp only [List.map_toArray, List.map_cons, List.map_nil]); first | done | rfl | (simp only [List.length_drop, List.length_take]; rfl)) ?_; (with_reducible refine (monikerref01_Class.calls kj2 a1 t218 _ A8.out).mono ?_); rintro e w' ⟨rfl, ⟨nd, rfl⟩⟩; refine ⟨_, rfl, ?_⟩; have hcz14_0 : wc.cell? ⟨gb217, 0, none⟩ = some (.string (⟨#[]⟩ : ByteArray)) := (blk_cell BK217.out 0).trans rfl; have hcz14_1 : wc.cell? ⟨gb217, 1, none⟩ = some (.string (⟨#[58]⟩ : ByteArray)) := (blk_cell BK217.out 1).trans rfl; have hcz14_2 : wc.cell? ⟨gb217, 2, none⟩ = some (.string (⟨#[]⟩ : ByteArray)) := (blk_cell BK217.out 2).trans rfl; have hcz14_3 : wc.cell? ⟨gb217, 3, none⟩ = some (.string (⟨#[58, 64]⟩ : ByteArray)) := (blk_cell BK217.out 3).trans rfl; have hcz14_4 : wc.cell? ⟨gb217, 4, none⟩ = some (.string (⟨#[64]⟩ : ByteArray)) := (blk_cell BK217.out 4).trans rfl; have hcz14_5 : wc.cell? ⟨gb217, 5, none⟩ = some (.string (⟨#[58, 64, 47]⟩ : ByteArray)) := (blk_cell BK217.out 5).trans rfl; have hcz14_6 : wc.cell? ⟨gb217, 6, none⟩ = some (.string (⟨#[58, 64, 47, 63]⟩ : ByteArray)) := (blk_cell BK217.out 6).trans rfl; have hcz14_7 : wc.cell? ⟨gb217, 7, none⟩ = some (.string (⟨#[58, 64, 47, 63]⟩ : ByteArray)) := (blk_cell BK217.out 7).trans rfl; have hfz14_0 := blk_frozen BK217.out 0; have hfz14_1 := blk_frozen BK217.out 1; have hfz14_2 := blk_frozen BK217.out 2; have hfz14_3 := blk_frozen BK217.out 3; have hfz14_4 := blk_frozen BK217.out 4; have hfz14_5 := blk_frozen BK217.out 5; have hfz14_6 := blk_frozen BK217.out 6; have hfz14_7 := blk_frozen BK217.out 7) | (go_at_call 83; (with_reducible refine (monikerref01_In.calls kj2 a1 (⟨#[]⟩ : ByteArray) t219 _ A13.out).mono ?_); rintro e w' ⟨rfl, ⟨nd, rfl⟩⟩))
                go_ret
                exact ⟨by first | rfl | (simp [errW_none, errW_some] <;> rfl) | (simp [*, errW_none, errW_some] <;> rfl) | (simp [*, errW_none, errW_some, Glue.bne_nil] <;> rfl), by repeat (first | (with_reducible first | exact HB.out | apply below_alloc | apply pw_below_drewN | apply below_drew1 | refine below_set ?_ GE217.out) | exact HB.out)⟩
              · rw [if_neg c12] at H
                by_cases c15 : a0 = 1
                · subst c15
                  have H1 : ((monikerref01_In.f kj2 a1 (⟨#[58]⟩ : ByteArray)).bind fun t220 => (some t220)) = some r := by rw [if_pos rfl] at H; exact H
                  clear H
                  have H := H1
                  clear H1
                  replace H := Option.bind_eq_some_iff.mp H
                  obtain ⟨t220, A160, H⟩ := H
                  replace H : (some t220) = some r := H
                  have A16 := Aside0.mk A160
                  clear A160
                  obtain rfl := Option.some.inj H
                  go_wp2_with (first | ((with_reducible refine gate_callee (f := 53) rfl ?_); refine goesL_ (some 14) rfl rfl Tryd.func53 (by kernel_rfl) rfl #[.int .u8 a1] rfl (by (try simp only [List.map_toArray, List.map_cons, List.map_nil]); first | done | rfl | (simp only [List.length_drop, List.length_take]; rfl)) ?_; (with_reducible refine (monikerref01_Class.calls kj2 a1 t218 _ A8.out).mono ?_); rintro e w' ⟨rfl, ⟨nd, rfl⟩⟩; refine ⟨_, rfl, ?_⟩; have hcz17_0 : wc.cell? ⟨gb217, 0, none⟩ = some (.string (⟨#[]⟩ : ByteArray)) := (blk_cell BK217.out 0).trans rfl; have hcz17_1 : wc.cell? ⟨gb217, 1, none⟩ = some (.string (⟨#[58]⟩ : ByteArray)) := (blk_cell BK217.out 1).trans rfl; have hcz17_2 : wc.cell? ⟨gb217, 2, none⟩ = some (.string (⟨#[]⟩ : ByteArray)) := (blk_cell BK217.out 2).trans rfl; have hcz17_3 : wc.cell? ⟨gb217, 3, none⟩ = some (.string (⟨#[58, 64]⟩ : ByteArray)) := (blk_cell BK217.out 3).trans rfl; have hcz17_4 : wc.cell? ⟨gb217, 4, none⟩ = some (.string (⟨#[64]⟩ : ByteArray)) := (blk_cell BK217.out 4).trans rfl; have hcz17_5 : wc.cell? ⟨gb217, 5, none⟩ = some (.string (⟨#[58, 64, 47]⟩ : ByteArray)) := (blk_cell BK217.out 5).trans rfl; have hcz17_6 : wc.cell? ⟨gb217, 6, none⟩ = some (.string (⟨#[58, 64, 47, 63]⟩ : ByteArray)) := (blk_cell BK217.out 6).trans rfl; have hcz17_7 : wc.cell? ⟨gb217, 7, none⟩ = some (.string (⟨#[58, 64, 47, 63]⟩ : ByteArray)) := (blk_cell BK217.out 7).trans rfl; have hfz17_0 := blk_frozen BK217.out 0; have hfz17_1 := blk_frozen BK217.out 1; have hfz17_2 := blk_frozen BK217.out 2; have hfz17_3 := blk_frozen BK217.out 3; have hfz17_4 := blk_frozen BK217.out 4; have hfz17_5 := blk_frozen BK217.out 5; have hfz17_6 := blk_frozen BK217.out 6; have hfz17_7 := blk_frozen BK217.out 7) | (go_at_call 83; (with_reducible refine (monikerref01_In.calls kj2 a1 (⟨#[58]⟩ : ByteArray) t220 _ A16.out).mono ?_); rintro e w' ⟨rfl, ⟨nd, rfl⟩⟩))
                  go_ret
                  exact ⟨by first | rfl | (simp [errW_none, errW_some] <;> rfl) | (simp [*, errW_none, errW_some] <;> rfl) | (simp [*, errW_none, errW_some, Glue.bne_nil] <;> rfl), by repeat (first | (with_reducible first | exact HB.out | apply below_alloc | apply pw_below_drewN | apply below_drew1 | refine below_set ?_ GE217.out) | exact HB.out)⟩
                · rw [if_neg c15] at H
                  by_cases c18 : a0 = 2
                  · subst c18
                    have H1 : ((monikerref01_In.f kj2 a1 (⟨#[]⟩ : ByteArray)).bind fun t221 => (some t221)) = some r := by rw [if_pos rfl] at H; exact H
                    clear H
                    have H := H1
                    clear H1
                    replace H := Option.bind_eq_some_iff.mp H
                    obtain ⟨t221, A190, H⟩ := H
                    replace H : (some t221) = some r := H
                    have A19 := Aside0.mk A190
                    clear A190
                    obtain rfl := Option.some.inj H
                    go_wp2_with (first | ((with_reducible refine gate_callee (f := 53) rfl ?_); refine goesL_ (some 14) rfl rfl Tryd.func53 (by kernel_rfl) rfl #[.int .u8 a1] rfl (by (try simp only [List.map_toArray, List.map_cons, List.map_nil]); first | done | rfl | (simp only [List.length_drop, List.length_take]; rfl)) ?_; (with_reducible refine (monikerref01_Class.calls kj2 a1 t218 _ A8.out).mono ?_); rintro e w' ⟨rfl, ⟨nd, rfl⟩⟩; refine ⟨_, rfl, ?_⟩; have hcz20_0 : wc.cell? ⟨gb217, 0, none⟩ = some (.string (⟨#[]⟩ : ByteArray)) := (blk_cell BK217.out 0).trans rfl; have hcz20_1 : wc.cell? ⟨gb217, 1, none⟩ = some (.string (⟨#[58]⟩ : ByteArray)) := (blk_cell BK217.out 1).trans rfl; have hcz20_2 : wc.cell? ⟨gb217, 2, none⟩ = some (.string (⟨#[]⟩ : ByteArray)) := (blk_cell BK217.out 2).trans rfl; have hcz20_3 : wc.cell? ⟨gb217, 3, none⟩ = some (.string (⟨#[58, 64]⟩ : ByteArray)) := (blk_cell BK217.out 3).trans rfl; have hcz20_4 : wc.cell? ⟨gb217, 4, none⟩ = some (.string (⟨#[64]⟩ : ByteArray)) := (blk_cell BK217.out 4).trans rfl; have hcz20_5 : wc.cell? ⟨gb217, 5, none⟩ = some (.string (⟨#[58, 64, 47]⟩ : ByteArray)) := (blk_cell BK217.out 5).trans rfl; have hcz20_6 : wc.cell? ⟨gb217, 6, none⟩ = some (.string (⟨#[58, 64, 47, 63]⟩ : ByteArray)) := (blk_cell BK217.out 6).trans rfl; have hcz20_7 : wc.cell? ⟨gb217, 7, none⟩ = some (.string (⟨#[58, 64, 47, 63]⟩ : ByteArray)) := (blk_cell BK217.out 7).trans rfl; have hfz20_0 := blk_frozen BK217.out 0; have hfz20_1 := blk_frozen BK217.out 1; have hfz20_2 := blk_frozen BK217.out 2; have hfz20_3 := blk_frozen BK217.out 3; have hfz20_4 := blk_frozen BK217.out 4; have hfz20_5 := blk_frozen BK217.out 5; have hfz20_6 := blk_frozen BK217.out 6; have hfz20_7 := blk_frozen BK217.out 7) | (go_at_call 83; (with_reducible refine (monikerref01_In.calls kj2 a1 (⟨#[]⟩ : ByteArray) t221 _ A19.out).mono ?_); rintro e w' ⟨rfl, ⟨nd, rfl⟩⟩))
                    go_ret
                    exact ⟨by first | rfl | (simp [errW_none, errW_some] <;> rfl) | (simp [*, errW_none, errW_some] <;> rfl) | (simp [*, errW_none, errW_some, Glue.bne_nil] <;> rfl), by repeat (first | (with_reducible first | exact HB.out | apply below_alloc | apply pw_below_drewN | apply below_drew1 | refine below_set ?_ GE217.out) | exact HB.out)⟩
                  · rw [if_neg c18] at H
                    by_cases c21 : a0 = 3
                    · subst c21
                      have H1 : ((monikerref01_In.f kj2 a1 (⟨#[58, 64]⟩ : ByteArray)).bind fun t222 => (some t222)) = some r := by rw [if_pos rfl] at H; exact H
                      clear H
                      have H := H1
                      clear H1
                      replace H := Option.bind_eq_some_iff.mp H
                      obtain ⟨t222, A220, H⟩ := H
                      replace H : (some t222) = some r := H
                      have A22 := Aside0.mk A220
                      clear A220
                      obtain rfl := Option.some.inj H
                      go_wp2_with (first | ((with_reducible refine gate_callee (f := 53) rfl ?_); refine goesL_ (some 14) rfl rfl Tryd.func53 (by kernel_rfl) rfl #[.int .u8 a1] rfl (by (try simp only [List.map_toArray, List.map_cons, List.map_nil]); first | done | rfl | (simp only [List.length_drop, List.length_take]; rfl)) ?_; (with_reducible refine (monikerref01_Class.calls kj2 a1 t218 _ A8.out).mono ?_); rintro e w' ⟨rfl, ⟨nd, rfl⟩⟩; refine ⟨_, rfl, ?_⟩; have hcz23_0 : wc.cell? ⟨gb217, 0, none⟩ = some (.string (⟨#[]⟩ : ByteArray)) := (blk_cell BK217.out 0).trans rfl; have hcz23_1 : wc.cell? ⟨gb217, 1, none⟩ = some (.string (⟨#[58]⟩ : ByteArray)) := (blk_cell BK217.out 1).trans rfl; have hcz23_2 : wc.cell? ⟨gb217, 2, none⟩ = some (.string (⟨#[]⟩ : ByteArray)) := (blk_cell BK217.out 2).trans rfl; have hcz23_3 : wc.cell? ⟨gb217, 3, none⟩ = some (.string (⟨#[58, 64]⟩ : ByteArray)) := (blk_cell BK217.out 3).trans rfl; have hcz23_4 : wc.cell? ⟨gb217, 4, none⟩ = some (.string (⟨#[64]⟩ : ByteArray)) := (blk_cell BK217.out 4).trans rfl; have hcz23_5 : wc.cell? ⟨gb217, 5, none⟩ = some (.string (⟨#[58, 64, 47]⟩ : ByteArray)) := (blk_cell BK217.out 5).trans rfl; have hcz23_6 : wc.cell? ⟨gb217, 6, none⟩ = some (.string (⟨#[58, 64, 47, 63]⟩ : ByteArray)) := (blk_cell BK217.out 6).trans rfl; have hcz23_7 : wc.cell? ⟨gb217, 7, none⟩ = some (.string (⟨#[58, 64, 47, 63]⟩ : ByteArray)) := (blk_cell BK217.out 7).trans rfl; have hfz23_0 := blk_frozen BK217.out 0; have hfz23_1 := blk_frozen BK217.out 1; have hfz23_2 := blk_frozen BK217.out 2; have hfz23_3 := blk_frozen BK217.out 3; have hfz23_4 := blk_frozen BK217.out 4; have hfz23_5 := blk_frozen BK217.out 5; have hfz23_6 := blk_frozen BK217.out 6; have hfz23_7 := blk_frozen BK217.out 7) | (go_at_call 83; (with_reducible refine (monikerref01_In.calls kj2 a1 (⟨#[58, 64]⟩ : ByteArray) t222 _ A22.out).mono ?_); rintro e w' ⟨rfl, ⟨nd, rfl⟩⟩))
                      go_ret
                      exact ⟨by first | rfl | (simp [errW_none, errW_some] <;> rfl) | (simp [*, errW_none, errW_some] <;> rfl) | (simp [*, errW_none, errW_some, Glue.bne_nil] <;> rfl), by repeat (first | (with_reducible first | exact HB.out | apply below_alloc | apply pw_below_drewN | apply below_drew1 | refine below_set ?_ GE217.out) | exact HB.out)⟩
                    · rw [if_neg c21] at H
                      by_cases c24 : a0 = 4
                      · subst c24
                        have H1 : ((monikerref01_In.f kj2 a1 (⟨#[64]⟩ : ByteArray)).bind fun t223 => (some t223)) = some r := by rw [if_pos rfl] at H; exact H
                        clear H
                        have H := H1
                        clear H1
                        replace H := Option.bind_eq_some_iff.mp H
                        obtain ⟨t223, A250, H⟩ := H
                        replace H : (some t223) = some r := H
                        have A25 := Aside0.mk A250
                        clear A250
                        obtain rfl := Option.some.inj H
                        go_wp2_with (first | ((with_reducible refine gate_callee (f := 53) rfl ?_); refine goesL_ (some 14) rfl rfl Tryd.func53 (by kernel_rfl) rfl #[.int .u8 a1] rfl (by (try simp only [List.map_toArray, List.map_cons, List.map_nil]); first | done | rfl | (simp only [List.length_drop, List.length_take]; rfl)) ?_; (with_reducible refine (monikerref01_Class.calls kj2 a1 t218 _ A8.out).mono ?_); rintro e w' ⟨rfl, ⟨nd, rfl⟩⟩; refine ⟨_, rfl, ?_⟩; have hcz26_0 : wc.cell? ⟨gb217, 0, none⟩ = some (.string (⟨#[]⟩ : ByteArray)) := (blk_cell BK217.out 0).trans rfl; have hcz26_1 : wc.cell? ⟨gb217, 1, none⟩ = some (.string (⟨#[58]⟩ : ByteArray)) := (blk_cell BK217.out 1).trans rfl; have hcz26_2 : wc.cell? ⟨gb217, 2, none⟩ = some (.string (⟨#[]⟩ : ByteArray)) := (blk_cell BK217.out 2).trans rfl; have hcz26_3 : wc.cell? ⟨gb217, 3, none⟩ = some (.string (⟨#[58, 64]⟩ : ByteArray)) := (blk_cell BK217.out 3).trans rfl; have hcz26_4 : wc.cell? ⟨gb217, 4, none⟩ = some (.string (⟨#[64]⟩ : ByteArray)) := (blk_cell BK217.out 4).trans rfl; have hcz26_5 : wc.cell? ⟨gb217, 5, none⟩ = some (.string (⟨#[58, 64, 47]⟩ : ByteArray)) := (blk_cell BK217.out 5).trans rfl; have hcz26_6 : wc.cell? ⟨gb217, 6, none⟩ = some (.string (⟨#[58, 64, 47, 63]⟩ : ByteArray)) := (blk_cell BK217.out 6).trans rfl; have hcz26_7 : wc.cell? ⟨gb217, 7, none⟩ = some (.string (⟨#[58, 64, 47, 63]⟩ : ByteArray)) := (blk_cell BK217.out 7).trans rfl; have hfz26_0 := blk_frozen BK217.out 0; have hfz26_1 := blk_frozen BK217.out 1; have hfz26_2 := blk_frozen BK217.out 2; have hfz26_3 := blk_frozen BK217.out 3; have hfz26_4 := blk_frozen BK217.out 4; have hfz26_5 := blk_frozen BK217.out 5; have hfz26_6 := blk_frozen BK217.out 6; have hfz26_7 := blk_frozen BK217.out 7) | (go_at_call 83; (with_reducible refine (monikerref01_In.calls kj2 a1 (⟨#[64]⟩ : ByteArray) t223 _ A25.out).mono ?_); rintro e w' ⟨rfl, ⟨nd, rfl⟩⟩))
                        go_ret
                        exact ⟨by first | rfl | (simp [errW_none, errW_some] <;> rfl) | (simp [*, errW_none, errW_some] <;> rfl) | (simp [*, errW_none, errW_some, Glue.bne_nil] <;> rfl), by repeat (first | (with_reducible first | exact HB.out | apply below_alloc | apply pw_below_drewN | apply below_drew1 | refine below_set ?_ GE217.out) | exact HB.out)⟩
                      · rw [if_neg c24] at H
                        by_cases c27 : a0 = 5
                        · subst c27
                          have H1 : ((monikerref01_In.f kj2 a1 (⟨#[58, 64, 47]⟩ : ByteArray)).bind fun t224 => (some t224)) = some r := by rw [if_pos rfl] at H; exact H
                          clear H
                          have H := H1
                          clear H1
                          replace H := Option.bind_eq_some_iff.mp H
                          obtain ⟨t224, A280, H⟩ := H
                          replace H : (some t224) = some r := H
                          have A28 := Aside0.mk A280
                          clear A280
                          obtain rfl := Option.some.inj H
                          go_wp2_with (first | ((with_reducible refine gate_callee (f := 53) rfl ?_); refine goesL_ (some 14) rfl rfl Tryd.func53 (by kernel_rfl) rfl #[.int .u8 a1] rfl (by (try simp only [List.map_toArray, List.map_cons, List.map_nil]); first | done | rfl | (simp only [List.length_drop, List.length_take]; rfl)) ?_; (with_reducible refine (monikerref01_Class.calls kj2 a1 t218 _ A8.out).mono ?_); rintro e w' ⟨rfl, ⟨nd, rfl⟩⟩; refine ⟨_, rfl, ?_⟩; have hcz29_0 : wc.cell? ⟨gb217, 0, none⟩ = some (.string (⟨#[]⟩ : ByteArray)) := (blk_cell BK217.out 0).trans rfl; have hcz29_1 : wc.cell? ⟨gb217, 1, none⟩ = some (.string (⟨#[58]⟩ : ByteArray)) := (blk_cell BK217.out 1).trans rfl; have hcz29_2 : wc.cell? ⟨gb217, 2, none⟩ = some (.string (⟨#[]⟩ : ByteArray)) := (blk_cell BK217.out 2).trans rfl; have hcz29_3 : wc.cell? ⟨gb217, 3, none⟩ = some (.string (⟨#[58, 64]⟩ : ByteArray)) := (blk_cell BK217.out 3).trans rfl; have hcz29_4 : wc.cell? ⟨gb217, 4, none⟩ = some (.string (⟨#[64]⟩ : ByteArray)) := (blk_cell BK217.out 4).trans rfl; have hcz29_5 : wc.cell? ⟨gb217, 5, none⟩ = some (.string (⟨#[58, 64, 47]⟩ : ByteArray)) := (blk_cell BK217.out 5).trans rfl; have hcz29_6 : wc.cell? ⟨gb217, 6, none⟩ = some (.string (⟨#[58, 64, 47, 63]⟩ : ByteArray)) := (blk_cell BK217.out 6).trans rfl; have hcz29_7 : wc.cell? ⟨gb217, 7, none⟩ = some (.string (⟨#[58, 64, 47, 63]⟩ : ByteArray)) := (blk_cell BK217.out 7).trans rfl; have hfz29_0 := blk_frozen BK217.out 0; have hfz29_1 := blk_frozen BK217.out 1; have hfz29_2 := blk_frozen BK217.out 2; have hfz29_3 := blk_frozen BK217.out 3; have hfz29_4 := blk_frozen BK217.out 4; have hfz29_5 := blk_frozen BK217.out 5; have hfz29_6 := blk_frozen BK217.out 6; have hfz29_7 := blk_frozen BK217.out 7) | (go_at_call 83; (with_reducible refine (monikerref01_In.calls kj2 a1 (⟨#[58, 64, 47]⟩ : ByteArray) t224 _ A28.out).mono ?_); rintro e w' ⟨rfl, ⟨nd, rfl⟩⟩))
                          go_ret
                          exact ⟨by first | rfl | (simp [errW_none, errW_some] <;> rfl) | (simp [*, errW_none, errW_some] <;> rfl) | (simp [*, errW_none, errW_some, Glue.bne_nil] <;> rfl), by repeat (first | (with_reducible first | exact HB.out | apply below_alloc | apply pw_below_drewN | apply below_drew1 | refine below_set ?_ GE217.out) | exact HB.out)⟩
                        · rw [if_neg c27] at H
                          by_cases c30 : a0 = 6
                          · subst c30
                            have H1 : ((monikerref01_In.f kj2 a1 (⟨#[58, 64, 47, 63]⟩ : ByteArray)).bind fun t225 => (some t225)) = some r := by rw [if_pos rfl] at H; exact H
                            clear H
                            have H := H1
                            clear H1
                            replace H := Option.bind_eq_some_iff.mp H
                            obtain ⟨t225, A310, H⟩ := H
                            replace H : (some t225) = some r := H
                            have A31 := Aside0.mk A310
                            clear A310
                            obtain rfl := Option.some.inj H
                            go_wp2_with (first | ((with_reducible refine gate_callee (f := 53) rfl ?_); refine goesL_ (some 14) rfl rfl Tryd.func53 (by kernel_rfl) rfl #[.int .u8 a1] rfl (by (try simp only [List.map_toArray, List.map_cons, List.map_nil]); first | done | rfl | (simp only [List.length_drop, List.length_take]; rfl)) ?_; (with_reducible refine (monikerref01_Class.calls kj2 a1 t218 _ A8.out).mono ?_); rintro e w' ⟨rfl, ⟨nd, rfl⟩⟩; refine ⟨_, rfl, ?_⟩; have hcz32_0 : wc.cell? ⟨gb217, 0, none⟩ = some (.string (⟨#[]⟩ : ByteArray)) := (blk_cell BK217.out 0).trans rfl; have hcz32_1 : wc.cell? ⟨gb217, 1, none⟩ = some (.string (⟨#[58]⟩ : ByteArray)) := (blk_cell BK217.out 1).trans rfl; have hcz32_2 : wc.cell? ⟨gb217, 2, none⟩ = some (.string (⟨#[]⟩ : ByteArray)) := (blk_cell BK217.out 2).trans rfl; have hcz32_3 : wc.cell? ⟨gb217, 3, none⟩ = some (.string (⟨#[58, 64]⟩ : ByteArray)) := (blk_cell BK217.out 3).trans rfl; have hcz32_4 : wc.cell? ⟨gb217, 4, none⟩ = some (.string (⟨#[64]⟩ : ByteArray)) := (blk_cell BK217.out 4).trans rfl; have hcz32_5 : wc.cell? ⟨gb217, 5, none⟩ = some (.string (⟨#[58, 64, 47]⟩ : ByteArray)) := (blk_cell BK217.out 5).trans rfl; have hcz32_6 : wc.cell? ⟨gb217, 6, none⟩ = some (.string (⟨#[58, 64, 47, 63]⟩ : ByteArray)) := (blk_cell BK217.out 6).trans rfl; have hcz32_7 : wc.cell? ⟨gb217, 7, none⟩ = some (.string (⟨#[58, 64, 47, 63]⟩ : ByteArray)) := (blk_cell BK217.out 7).trans rfl; have hfz32_0 := blk_frozen BK217.out 0; have hfz32_1 := blk_frozen BK217.out 1; have hfz32_2 := blk_frozen BK217.out 2; have hfz32_3 := blk_frozen BK217.out 3; have hfz32_4 := blk_frozen BK217.out 4; have hfz32_5 := blk_frozen BK217.out 5; have hfz32_6 := blk_frozen BK217.out 6; have hfz32_7 := blk_frozen BK217.out 7) | (go_at_call 83; (with_reducible refine (monikerref01_In.calls kj2 a1 (⟨#[58, 64, 47, 63]⟩ : ByteArray) t225 _ A31.out).mono ?_); rintro e w' ⟨rfl, ⟨nd, rfl⟩⟩))
                            go_ret
                            exact ⟨by first | rfl | (simp [errW_none, errW_some] <;> rfl) | (simp [*, errW_none, errW_some] <;> rfl) | (simp [*, errW_none, errW_some, Glue.bne_nil] <;> rfl), by repeat (first | (with_reducible first | exact HB.out | apply below_alloc | apply pw_below_drewN | apply below_drew1 | refine below_set ?_ GE217.out) | exact HB.out)⟩
                          · rw [if_neg c30] at H
                            by_cases c33 : a0 = 7
                            · subst c33
                              have H1 : ((monikerref01_In.f kj2 a1 (⟨#[58, 64, 47, 63]⟩ : ByteArray)).bind fun t226 => (some t226)) = some r := by rw [if_pos rfl] at H; exact H
                              clear H
                              have H := H1
                              clear H1
                              replace H := Option.bind_eq_some_iff.mp H
                              obtain ⟨t226, A340, H⟩ := H
                              replace H : (some t226) = some r := H
                              have A34 := Aside0.mk A340
                              clear A340
                              obtain rfl := Option.some.inj H
                              go_wp2_with (first | ((with_reducible refine gate_callee (f := 53) rfl ?_); refine goesL_ (some 14) rfl rfl Tryd.func53 (by kernel_rfl) rfl #[.int .u8 a1] rfl (by (try simp only [List.map_toArray, List.map_cons, List.map_nil]); first | done | rfl | (simp only [List.length_drop, List.length_take]; rfl)) ?_; (with_reducible refine (monikerref01_Class.calls kj2 a1 t218 _ A8.out).mono ?_); rintro e w' ⟨rfl, ⟨nd, rfl⟩⟩; refine ⟨_, rfl, ?_⟩; have hcz35_0 : wc.cell? ⟨gb217, 0, none⟩ = some (.string (⟨#[]⟩ : ByteArray)) := (blk_cell BK217.out 0).trans rfl; have hcz35_1 : wc.cell? ⟨gb217, 1, none⟩ = some (.string (⟨#[58]⟩ : ByteArray)) := (blk_cell BK217.out 1).trans rfl; have hcz35_2 : wc.cell? ⟨gb217, 2, none⟩ = some (.string (⟨#[]⟩ : ByteArray)) := (blk_cell BK217.out 2).trans rfl; have hcz35_3 : wc.cell? ⟨gb217, 3, none⟩ = some (.string (⟨#[58, 64]⟩ : ByteArray)) := (blk_cell BK217.out 3).trans rfl; have hcz35_4 : wc.cell? ⟨gb217, 4, none⟩ = some (.string (⟨#[64]⟩ : ByteArray)) := (blk_cell BK217.out 4).trans rfl; have hcz35_5 : wc.cell? ⟨gb217, 5, none⟩ = some (.string (⟨#[58, 64, 47]⟩ : ByteArray)) := (blk_cell BK217.out 5).trans rfl; have hcz35_6 : wc.cell? ⟨gb217, 6, none⟩ = some (.string (⟨#[58, 64, 47, 63]⟩ : ByteArray)) := (blk_cell BK217.out 6).trans rfl; have hcz35_7 : wc.cell? ⟨gb217, 7, none⟩ = some (.string (⟨#[58, 64, 47, 63]⟩ : ByteArray)) := (blk_cell BK217.out 7).trans rfl; have hfz35_0 := blk_frozen BK217.out 0; have hfz35_1 := blk_frozen BK217.out 1; have hfz35_2 := blk_frozen BK217.out 2; have hfz35_3 := blk_frozen BK217.out 3; have hfz35_4 := blk_frozen BK217.out 4; have hfz35_5 := blk_frozen BK217.out 5; have hfz35_6 := blk_frozen BK217.out 6; have hfz35_7 := blk_frozen BK217.out 7) | (go_at_call 83; (with_reducible refine (monikerref01_In.calls kj2 a1 (⟨#[58, 64, 47, 63]⟩ : ByteArray) t226 _ A34.out).mono ?_); rintro e w' ⟨rfl, ⟨nd, rfl⟩⟩))
                              go_ret
                              exact ⟨by first | rfl | (simp [errW_none, errW_some] <;> rfl) | (simp [*, errW_none, errW_some] <;> rfl) | (simp [*, errW_none, errW_some, Glue.bne_nil] <;> rfl), by repeat (first | (with_reducible first | exact HB.out | apply below_alloc | apply pw_below_drewN | apply below_drew1 | refine below_set ?_ GE217.out) | exact HB.out)⟩
                            · rw [if_neg c33] at H
                              exact absurd H (by simp)
            · rw [if_neg c11] at H
              exact absurd H (by simp)
          · rw [if_neg c10] at H
            exact absurd H (by simp)
        · rw [if_neg c9] at H
          have c9b0 : ((Go.bits .and .i64 t218 15) == 0) = false := beq_eq_false_iff_ne.mpr c9
          have c9b1 : ((Go.bits .and .i64 t218 15) != 0) = true := bne_iff_ne.mpr c9
          obtain rfl := Option.some.inj H
          go_wp2_with (first | ((with_reducible refine gate_callee (f := 53) rfl ?_); refine goesL_ (some 14) rfl rfl Tryd.func53 (by kernel_rfl) rfl #[.int .u8 a1] rfl (by (try simp only [List.map_toArray, List.map_cons, List.map_nil]); first | done | rfl | (simp only [List.length_drop, List.length_take]; rfl)) ?_; (with_reducible refine (monikerref01_Class.calls kj2 a1 t218 _ A8.out).mono ?_); rintro e w' ⟨rfl, ⟨nd, rfl⟩⟩; refine ⟨_, rfl, ?_⟩))
          go_ret
          exact ⟨by first | rfl | (simp [errW_none, errW_some] <;> rfl) | (simp [*, errW_none, errW_some] <;> rfl) | (simp [*, errW_none, errW_some, Glue.bne_nil] <;> rfl), by repeat (first | (with_reducible first | exact HB.out | apply below_alloc | apply pw_below_drewN | apply below_drew1 | refine below_set ?_ GE217.out) | exact HB.out)⟩
end Go.Proofs.YtoalibnaoophgaaDoor.P
