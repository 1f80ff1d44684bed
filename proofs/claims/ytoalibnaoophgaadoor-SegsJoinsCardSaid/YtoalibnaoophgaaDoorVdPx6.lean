/-
  A part of the proof of segsJoins_card (texts of this session, and printed ones, without what it does not use).
-/
import Derived.Test.YtoalibnaoophgaaDoorVdPx0
import Derived.Test.YtoalibnaoophgaaDoorVdPx1
import Derived.Test.YtoalibnaoophgaaDoorVdPx2
import Derived.Test.YtoalibnaoophgaaDoorVdPx3
import Derived.Test.YtoalibnaoophgaaDoorVdPx4
import Derived.Test.YtoalibnaoophgaaDoorVdPx5
namespace Foot
end Foot
namespace Go.Proofs
end Go.Proofs
namespace Go.Proofs.YtoalibnaoophgaaDoor
end Go.Proofs.YtoalibnaoophgaaDoor
namespace Go.Proofs.YtoalibnaoophgaaDoor.Each
end Go.Proofs.YtoalibnaoophgaaDoor.Each
namespace Go.Proofs.YtoalibnaoophgaaDoor.Glue
end Go.Proofs.YtoalibnaoophgaaDoor.Glue
namespace Go.Proofs.YtoalibnaoophgaaDoor.Open
end Go.Proofs.YtoalibnaoophgaaDoor.Open
namespace Go.Proofs.YtoalibnaoophgaaDoor.P
end Go.Proofs.YtoalibnaoophgaaDoor.P
namespace Go.Proofs.YtoalibnaoophgaaDoor.segsJoins
end Go.Proofs.YtoalibnaoophgaaDoor.segsJoins
namespace Go.Proofs.YtoalibnaoophgaaDoorW.PrintLast
end Go.Proofs.YtoalibnaoophgaaDoorW.PrintLast
namespace Go.Proofs.YtoalibnaoophgaaDoorW.PrintMore
end Go.Proofs.YtoalibnaoophgaaDoorW.PrintMore
namespace Go.Proofs.YtoalibnaoophgaaDoorW.PrintWords
end Go.Proofs.YtoalibnaoophgaaDoorW.PrintWords
namespace Kd
end Kd
namespace Go.Proofs.YtoalibnaoophgaaDoor.P
open Go.RowKit Go.Proofs.YtoalibnaoophgaaDoorW.PrintWords Go.Proofs.YtoalibnaoophgaaDoorW.PrintLast Go.Proofs.YtoalibnaoophgaaDoorW.PrintMore
attribute [local go_sem] max2_int min2_int max_two min_two -- for this text's walks alone
set_option linter.unusedVariables false
set_option linter.unusedSimpArgs false
mutual
def lexis_May.j0 : Nat → Int → Bool → Int → Bool → Option (Bool)
  | 0, _, _, _, _ => none
  | k + 1, x0, x1, x2, x14 => if x14 = true then ((lexis_Plain.f k x0 ((x2) % 256)).bind fun t123 => (some t123)) else ((lexis_extra.f x0).bind fun bt124 => (if bt124.2 = true then (lexis_May.j1 k x0 x2 (!x1)) else (lexis_May.j1 k x0 x2 true)))
def lexis_May.j1 : Nat → Int → Int → Bool → Option (Bool)
  | 0, _, _, _ => none
  | k + 1, x0, x2, x29 => if x29 = true then (some false) else ((lexis_Common.f k x2).bind fun t126 => (if t126 = true then (some true) else (if x0 = 6 then ((lexis_Private.f x2).bind fun t127 => (some t127)) else (some false))))
end
def lexis_May.f (k : Nat) (a0 : Int) (a1 : Bool) (a2 : Int) : Option (Bool) := if a2 ≥ 0 then (lexis_May.j0 k a0 a1 a2 (decide (a2 < 128))) else (lexis_May.j0 k a0 a1 a2 false)
set_option maxHeartbeats 8000000 in
set_option maxRecDepth 100000 in
theorem lexis_May.calls (k : Nat) (a0 : Int) (a1 : Bool) (a2 : Int) (r : Bool) (w : World) (h : lexis_May.f k a0 a1 a2 = some r) :
    Calls Tryd.prog 96 #[.int .i64 a0, .bool a1, .int .i32 a2] w fun e w' => e = .returned (.bool r) ∧ Below w.heap.size w w' := by
  have HB := Aside0.mk (Below.refl w.heap.size w)
  have H : (if a2 ≥ 0 then (lexis_May.j0 k a0 a1 a2 (decide (a2 < 128))) else (lexis_May.j0 k a0 a1 a2 false)) = some r := h
  clear h
  have HC4 := Aside0.mk H
  clear H
  go_enter Tryd.func96, Tryd.ntmps96
  go_upto_region 1 with (fail)
  go_cut [14] (fun v14 wc => ∃ (kq : Nat) (x14_3 : Bool), v14 = .bool x14_3 ∧ Aside0 (lexis_May.j0 kq a0 a1 a2 x14_3 = some r) ∧ Aside0 (kq ≤ k) ∧ Aside0 (Below w.heap.size w wc))
  case first =>
    have H := HC4.out
    clear HC4
    by_cases c5 : a2 ≥ 0
    · rw [if_pos c5] at H
      have c5b0 : decide (0 ≤ a2) = true := decide_eq_true c5
      clear c5
      (first | rw [c5b0] | (simp only [i64_w, i32_w]; rw [c5b0]) | skip)
      have H' := Aside0.mk H
      clear H
      go_wp2
      go_meet
      case rel => exact ⟨_, (decide (a2 < 128)), (by first | rfl | (simp; done) | (simp [*]; done)), H', ⟨by first | omega | exact Nat.le_refl _⟩, ⟨by repeat (first | (with_reducible first | exact HB.out | apply below_alloc | apply pw_below_drewN | apply below_drew1) | exact HB.out)⟩⟩
    · rw [if_neg c5] at H
      have c5b0 : decide (0 ≤ a2) = false := decide_eq_false c5
      clear c5
      (first | rw [c5b0] | (simp only [i64_w, i32_w]; rw [c5b0]) | skip)
      have H' := Aside0.mk H
      clear H
      go_wp2
      go_meet
      case rel => exact ⟨_, (false), (by first | rfl | (simp; done) | (simp [*]; done)), H', ⟨by first | omega | exact Nat.le_refl _⟩, ⟨by repeat (first | (with_reducible first | exact HB.out | apply below_alloc | apply pw_below_drewN | apply below_drew1) | exact HB.out)⟩⟩
  case rest =>
    clear HC4
    try clear p2
    try clear c5
    try clear c5b0
    obtain ⟨kq, x14_3, rfl, HA, HJ3, HB⟩ := hcut
    cases kq with
    | zero => exact absurd HA.out (by simp [lexis_May.j0])
    | succ kj3 =>
      have H := HA.out
      clear HA
      simp only [lexis_May.j0] at H
      by_cases c6 : x14_3 = true
      · subst c6
        have H1 : ((lexis_Plain.f kj3 a0 ((a2) % 256)).bind fun t123 => (some t123)) = some r := by rw [if_pos rfl] at H; exact H
        clear H
        have H := H1
        clear H1
        replace H := Option.bind_eq_some_iff.mp H
        obtain ⟨t123, A70, H⟩ := H
        replace H : (some t123) = some r := H
        have A7 := Aside0.mk A70
        clear A70
        obtain rfl := Option.some.inj H
        go_wp2_with (first | ((with_reducible refine gate_callee (f := 119) rfl ?_); refine goesL_ (some 18) rfl rfl Tryd.func119 (by kernel_rfl) rfl #[.int .i64 a0, .int .u8 ((a2) % 256)] rfl (by (try simp only [List.map_toArray, List.map_cons, List.map_nil]); first | done | rfl | (simp only [List.length_drop, List.length_take]; rfl)) ?_; (with_reducible refine (lexis_Plain.calls kj3 a0 ((a2) % 256) t123 _ A7.out).mono ?_); rintro e w8 ⟨rfl, hb⟩; refine ⟨_, rfl, ?_⟩; have n0_ := Aside0.mk (below_step (by repeat (first | (with_reducible first | exact HB.out | apply below_alloc | apply pw_below_drewN | apply below_drew1) | exact HB.out)) hb); clear HB; have HB := n0_; clear n0_; (try clear hb); (try clear hb2); (try clear hk); (try clear hi)))
        go_ret
        exact ⟨by first | rfl | (simp [errW_none, errW_some] <;> rfl) | (simp [*, errW_none, errW_some] <;> rfl) | (simp [*, errW_none, errW_some, Glue.bne_nil] <;> rfl), by repeat (first | (with_reducible first | exact HB.out | apply below_alloc | apply pw_below_drewN | apply below_drew1) | exact HB.out)⟩
      · replace c6 := Bool.eq_false_iff.mpr c6
        subst c6
        have H1 : ((lexis_extra.f a0).bind fun bt124 => (if bt124.2 = true then (lexis_May.j1 kj3 a0 a2 (!a1)) else (lexis_May.j1 kj3 a0 a2 true))) = some r := by rw [if_neg (show ¬ (false = true) by decide)] at H; exact H
        clear H
        have H := H1
        clear H1
        replace H := Option.bind_eq_some_iff.mp H
        obtain ⟨⟨t124, t125⟩, A90, H⟩ := H
        replace H : (if t125 = true then (lexis_May.j1 kj3 a0 a2 (!a1)) else (lexis_May.j1 kj3 a0 a2 true)) = some r := H
        have A9 := Aside0.mk A90
        clear A90
        have HC10 := Aside0.mk H
        clear H
        go_upto_region 4 with (first | ((with_reducible refine gate_callee (f := 93) rfl ?_); refine goesL_ (some 21) rfl rfl Tryd.func93 (by kernel_rfl) rfl #[.int .i64 a0] rfl (by (try simp only [List.map_toArray, List.map_cons, List.map_nil]); first | done | rfl | (simp only [List.length_drop, List.length_take]; rfl)) ?_; (with_reducible refine (lexis_extra.calls a0 t124 t125 _ A9.out).mono ?_); rintro e w' ⟨rfl, ⟨nd, rfl⟩⟩; refine ⟨_, rfl, ?_⟩))
        (try simp only [Act.put, List.setIfInBounds_toArray, List.set_cons_zero, List.set_cons_succ])
        go_cut [29] (fun v29 wc => ∃ (kq : Nat) (x29_9 : Bool), v29 = .bool x29_9 ∧ Aside0 (lexis_May.j1 kq a0 a2 x29_9 = some r) ∧ Aside0 (kq ≤ kj3) ∧ Aside0 (Below w.heap.size w wc))
        case first =>
          have H := HC10.out
          clear HC10
          by_cases c11 : t125 = true
          · subst c11
            have H1 : (lexis_May.j1 kj3 a0 a2 (!a1)) = some r := by rw [if_pos rfl] at H; exact H
            clear H
            have H := H1
            clear H1
            have H' := Aside0.mk H
            clear H
            go_wp2
            go_meet
            case rel => exact ⟨_, (!a1), (by first | rfl | (simp; done) | (simp [*]; done)), H', ⟨by have := HJ3.out; first | omega | exact Nat.le_refl _⟩, ⟨by repeat (first | (with_reducible first | exact HB.out | apply below_alloc | apply pw_below_drewN | apply below_drew1) | exact HB.out)⟩⟩
          · replace c11 := Bool.eq_false_iff.mpr c11
            subst c11
            have H1 : (lexis_May.j1 kj3 a0 a2 true) = some r := by rw [if_neg (show ¬ (false = true) by decide)] at H; exact H
            clear H
            have H := H1
            clear H1
            have H' := Aside0.mk H
            clear H
            go_wp2
            go_meet
            case rel => exact ⟨_, (true), (by first | rfl | (simp; done) | (simp [*]; done)), H', ⟨by have := HJ3.out; first | omega | exact Nat.le_refl _⟩, ⟨by repeat (first | (with_reducible first | exact HB.out | apply below_alloc | apply pw_below_drewN | apply below_drew1) | exact HB.out)⟩⟩
        case rest =>
          clear HC10
          try clear c1
          try clear p2
          try clear c5
          try clear c5b0
          try clear c6
          try clear c9
          try clear c11
          try clear p2
          obtain ⟨kq, x29_9, rfl, HA, HJ9, HB⟩ := hcut
          cases kq with
          | zero => exact absurd HA.out (by simp [lexis_May.j1])
          | succ kj9 =>
            have H := HA.out
            clear HA
            simp only [lexis_May.j1] at H
            by_cases c12 : x29_9 = true
            · subst c12
              have H1 : (some false) = some r := by rw [if_pos rfl] at H; exact H
              clear H
              have H := H1
              clear H1
              obtain rfl := Option.some.inj H
              go_wp2
              go_ret
              exact ⟨by first | rfl | (simp [errW_none, errW_some] <;> rfl) | (simp [*, errW_none, errW_some] <;> rfl) | (simp [*, errW_none, errW_some, Glue.bne_nil] <;> rfl), by repeat (first | (with_reducible first | exact HB.out | apply below_alloc | apply pw_below_drewN | apply below_drew1) | exact HB.out)⟩
            · replace c12 := Bool.eq_false_iff.mpr c12
              subst c12
              have H1 : ((lexis_Common.f kj9 a2).bind fun t126 => (if t126 = true then (some true) else (if a0 = 6 then ((lexis_Private.f a2).bind fun t127 => (some t127)) else (some false)))) = some r := by rw [if_neg (show ¬ (false = true) by decide)] at H; exact H
              clear H
              have H := H1
              clear H1
              replace H := Option.bind_eq_some_iff.mp H
              obtain ⟨t126, A130, H⟩ := H
              replace H : (if t126 = true then (some true) else (if a0 = 6 then ((lexis_Private.f a2).bind fun t127 => (some t127)) else (some false))) = some r := H
              have A13 := Aside0.mk A130
              clear A130
              by_cases c14 : t126 = true
              · subst c14
                have H1 : (some true) = some r := by rw [if_pos rfl] at H; exact H
                clear H
                have H := H1
                clear H1
                obtain rfl := Option.some.inj H
                go_wp2_with (first | ((with_reducible refine gate_callee (f := 120) rfl ?_); refine goesL_ (some 31) rfl rfl Tryd.func120 (by kernel_rfl) rfl #[.int .i32 a2] rfl (by (try simp only [List.map_toArray, List.map_cons, List.map_nil]); first | done | rfl | (simp only [List.length_drop, List.length_take]; rfl)) ?_; (with_reducible refine (lexis_Common.calls kj9 a2 true _ A13.out).mono ?_); rintro e w' ⟨rfl, ⟨nd, rfl⟩⟩; refine ⟨_, rfl, ?_⟩))
                go_ret
                exact ⟨by first | rfl | (simp [errW_none, errW_some] <;> rfl) | (simp [*, errW_none, errW_some] <;> rfl) | (simp [*, errW_none, errW_some, Glue.bne_nil] <;> rfl), by repeat (first | (with_reducible first | exact HB.out | apply below_alloc | apply pw_below_drewN | apply below_drew1) | exact HB.out)⟩
              · replace c14 := Bool.eq_false_iff.mpr c14
                subst c14
                have H1 : (if a0 = 6 then ((lexis_Private.f a2).bind fun t127 => (some t127)) else (some false)) = some r := by rw [if_neg (show ¬ (false = true) by decide)] at H; exact H
                clear H
                have H := H1
                clear H1
                by_cases c15 : a0 = 6
                · rw [if_pos c15] at H
                  have c15b0 : (a0 == 6) = true := beq_iff_eq.mpr c15
                  have c15b1 : (a0 != 6) = false := bne_eq_false_iff_eq.mpr c15
                  clear c15
                  replace H := Option.bind_eq_some_iff.mp H
                  obtain ⟨t127, A160, H⟩ := H
                  replace H : (some t127) = some r := H
                  have A16 := Aside0.mk A160
                  clear A160
                  obtain rfl := Option.some.inj H
                  go_wp2_with (first | ((with_reducible refine gate_callee (f := 120) rfl ?_); refine goesL_ (some 31) rfl rfl Tryd.func120 (by kernel_rfl) rfl #[.int .i32 a2] rfl (by (try simp only [List.map_toArray, List.map_cons, List.map_nil]); first | done | rfl | (simp only [List.length_drop, List.length_take]; rfl)) ?_; (with_reducible refine (lexis_Common.calls kj9 a2 false _ A13.out).mono ?_); rintro e w' ⟨rfl, ⟨nd, rfl⟩⟩; refine ⟨_, rfl, ?_⟩) | (go_at_call 121; (with_reducible refine (lexis_Private.calls a2 t127 _ A16.out).mono ?_); rintro e w' ⟨rfl, ⟨nd, rfl⟩⟩))
                  go_ret
                  exact ⟨by first | rfl | (simp [errW_none, errW_some] <;> rfl) | (simp [*, errW_none, errW_some] <;> rfl) | (simp [*, errW_none, errW_some, Glue.bne_nil] <;> rfl), by repeat (first | (with_reducible first | exact HB.out | apply below_alloc | apply pw_below_drewN | apply below_drew1) | exact HB.out)⟩
                · rw [if_neg c15] at H
                  have c15b0 : (a0 == 6) = false := beq_eq_false_iff_ne.mpr c15
                  have c15b1 : (a0 != 6) = true := bne_iff_ne.mpr c15
                  obtain rfl := Option.some.inj H
                  go_wp2_with (first | ((with_reducible refine gate_callee (f := 120) rfl ?_); refine goesL_ (some 31) rfl rfl Tryd.func120 (by kernel_rfl) rfl #[.int .i32 a2] rfl (by (try simp only [List.map_toArray, List.map_cons, List.map_nil]); first | done | rfl | (simp only [List.length_drop, List.length_take]; rfl)) ?_; (with_reducible refine (lexis_Common.calls kj9 a2 false _ A13.out).mono ?_); rintro e w' ⟨rfl, ⟨nd, rfl⟩⟩; refine ⟨_, rfl, ?_⟩))
                  go_ret
                  exact ⟨by first | rfl | (simp [errW_none, errW_some] <;> rfl) | (simp [*, errW_none, errW_some] <;> rfl) | (simp [*, errW_none, errW_some, Glue.bne_nil] <;> rfl), by repeat (first | (with_reducible first | exact HB.out | apply below_alloc | apply pw_below_drewN | apply below_drew1) | exact HB.out)⟩
def lexis_Span.l0 : Nat → Int → Bool → ByteArray → Int → Option (Int)
  | 0, _, _, _, _ => none
  | k + 1, x0, x1, x2, x7 => if x7 < (x2.size : Int) then ((lexis_extra.f x0).bind fun bt128 => (if bt128.2 = true then ((escape_At.f k x2 x7).bind fun bt130 => (if bt130.2 = true then (lexis_Span.l0 k x0 x1 x2 (wrap64 (x7 + 3))) else (if 0 ≤ x7 then (if x7 ≤ (x2.size : Int) then ((utf_Decode.f k (x2.extract (x7 : Int).toNat x2.size)).bind fun bt132 => (if bt132.2.2 = true then ((lexis_May.f k x0 x1 bt132.1).bind fun t135 => (if t135 = true then (lexis_Span.l0 k x0 x1 x2 (wrap64 (x7 + bt132.2.1))) else (some x7))) else (some x7))) else (none)) else (none)))) else (some 0))) else (some x7)
def lexis_Span.f (k : Nat) (a0 : Int) (a1 : Bool) (a2 : ByteArray) : Option (Int) := lexis_Span.l0 k a0 a1 a2 0
set_option maxHeartbeats 8000000 in
set_option maxRecDepth 100000 in
theorem lexis_Span.calls (k : Nat) (a0 : Int) (a1 : Bool) (a2 : ByteArray) (r : Int) (w : World) (h : lexis_Span.f k a0 a1 a2 = some r) :
    Calls Tryd.prog 70 #[.int .i64 a0, .bool a1, .string a2] w fun e w' => e = .returned (.int .i64 r) ∧ Below w.heap.size w w' := by
  have HB := Aside0.mk (Below.refl w.heap.size w)
  have H : (lexis_Span.l0 k a0 a1 a2 0) = some r := h
  clear h
  have H' := Aside0.mk H
  clear H
  go_enter Tryd.func70, Tryd.ntmps70
  go_wp2
  go_loopg [7] k (fun kq v7 w' => ∃ (x7_1 : Int), v7 = .int .i64 x7_1 ∧ Aside0 (lexis_Span.l0 kq a0 a1 a2 x7_1 = some r) ∧ Aside0 (kq ≤ k) ∧ Aside0 (Below w.heap.size w w'))
  case atStart => exact ⟨(0), (by first | rfl | (simp; done) | (simp [*]; done)), H', ⟨Nat.le_refl _⟩, ⟨by repeat (first | (with_reducible first | exact HB.out | apply below_alloc | apply pw_below_drewN | apply below_drew1) | exact HB.out)⟩⟩
  case round =>
    clear H'
    try clear p2
    obtain ⟨x7_1, rfl, HA, HK1, HB⟩ := hrel
    cases gk with
    | zero => exact absurd HA.out (by simp [lexis_Span.l0])
    | succ k1 =>
      have H := HA.out
      clear HA
      simp only [lexis_Span.l0] at H
      by_cases c4 : x7_1 < (a2.size : Int)
      · rw [if_pos c4] at H
        have c4b0 : decide (x7_1 < (a2.size : Int)) = true := decide_eq_true c4
        clear c4
        replace H := Option.bind_eq_some_iff.mp H
        obtain ⟨⟨t128, t129⟩, A50, H⟩ := H
        replace H : (if t129 = true then ((escape_At.f k1 a2 x7_1).bind fun bt130 => (if bt130.2 = true then (lexis_Span.l0 k1 a0 a1 a2 (wrap64 (x7_1 + 3))) else (if 0 ≤ x7_1 then (if x7_1 ≤ (a2.size : Int) then ((utf_Decode.f k1 (a2.extract (x7_1 : Int).toNat a2.size)).bind fun bt132 => (if bt132.2.2 = true then ((lexis_May.f k1 a0 a1 bt132.1).bind fun t135 => (if t135 = true then (lexis_Span.l0 k1 a0 a1 a2 (wrap64 (x7_1 + bt132.2.1))) else (some x7_1))) else (some x7_1))) else (none)) else (none)))) else (some 0)) = some r := H
        have A5 := Aside0.mk A50
        clear A50
        by_cases c6 : t129 = true
        · subst c6
          have H1 : ((escape_At.f k1 a2 x7_1).bind fun bt130 => (if bt130.2 = true then (lexis_Span.l0 k1 a0 a1 a2 (wrap64 (x7_1 + 3))) else (if 0 ≤ x7_1 then (if x7_1 ≤ (a2.size : Int) then ((utf_Decode.f k1 (a2.extract (x7_1 : Int).toNat a2.size)).bind fun bt132 => (if bt132.2.2 = true then ((lexis_May.f k1 a0 a1 bt132.1).bind fun t135 => (if t135 = true then (lexis_Span.l0 k1 a0 a1 a2 (wrap64 (x7_1 + bt132.2.1))) else (some x7_1))) else (some x7_1))) else (none)) else (none)))) = some r := by rw [if_pos rfl] at H; exact H
          clear H
          have H := H1
          clear H1
          replace H := Option.bind_eq_some_iff.mp H
          obtain ⟨⟨t130, t131⟩, A70, H⟩ := H
          replace H : (if t131 = true then (lexis_Span.l0 k1 a0 a1 a2 (wrap64 (x7_1 + 3))) else (if 0 ≤ x7_1 then (if x7_1 ≤ (a2.size : Int) then ((utf_Decode.f k1 (a2.extract (x7_1 : Int).toNat a2.size)).bind fun bt132 => (if bt132.2.2 = true then ((lexis_May.f k1 a0 a1 bt132.1).bind fun t135 => (if t135 = true then (lexis_Span.l0 k1 a0 a1 a2 (wrap64 (x7_1 + bt132.2.1))) else (some x7_1))) else (some x7_1))) else (none)) else (none))) = some r := H
          have A7 := Aside0.mk A70
          clear A70
          by_cases c8 : t131 = true
          · subst c8
            have H1 : (lexis_Span.l0 k1 a0 a1 a2 (wrap64 (x7_1 + 3))) = some r := by rw [if_pos rfl] at H; exact H
            clear H
            have H := H1
            clear H1
            have H' := Aside0.mk H
            clear H
            go_wp2_with (first | ((with_reducible refine gate_callee (f := 93) rfl ?_); refine goesL_ (some 21) rfl rfl Tryd.func93 (by kernel_rfl) rfl #[.int .i64 a0] rfl (by (try simp only [List.map_toArray, List.map_cons, List.map_nil]); first | done | rfl | (simp only [List.length_drop, List.length_take]; rfl)) ?_; (with_reducible refine (lexis_extra.calls a0 t128 true _ A5.out).mono ?_); rintro e w' ⟨rfl, ⟨nd, rfl⟩⟩; refine ⟨_, rfl, ?_⟩) | ((with_reducible refine gate_callee (f := 94) rfl ?_); refine goesL_ (some 29) rfl rfl Tryd.func94 (by kernel_rfl) rfl #[.string a2, .int .i64 x7_1] rfl (by (try simp only [List.map_toArray, List.map_cons, List.map_nil]); first | done | rfl | (simp only [List.length_drop, List.length_take]; rfl)) ?_; (with_reducible refine (escape_At.calls k1 a2 x7_1 t130 true _ A7.out).mono ?_); rintro e w' ⟨rfl, ⟨nd, rfl⟩⟩; refine ⟨_, rfl, ?_⟩))
            go_roundg k1
            case measure => have := HK1.out; omega
            case rel => exact ⟨(wrap64 (x7_1 + 3)), (by first | rfl | (simp; done) | (simp [*]; done)), H', ⟨by have := HK1.out; omega⟩, ⟨by repeat (first | (with_reducible first | exact HB.out | apply below_alloc | apply pw_below_drewN | apply below_drew1) | exact HB.out)⟩⟩
          · replace c8 := Bool.eq_false_iff.mpr c8
            subst c8
            have H1 : (if 0 ≤ x7_1 then (if x7_1 ≤ (a2.size : Int) then ((utf_Decode.f k1 (a2.extract (x7_1 : Int).toNat a2.size)).bind fun bt132 => (if bt132.2.2 = true then ((lexis_May.f k1 a0 a1 bt132.1).bind fun t135 => (if t135 = true then (lexis_Span.l0 k1 a0 a1 a2 (wrap64 (x7_1 + bt132.2.1))) else (some x7_1))) else (some x7_1))) else (none)) else (none)) = some r := by rw [if_neg (show ¬ (false = true) by decide)] at H; exact H
            clear H
            have H := H1
            clear H1
            by_cases c9 : 0 ≤ x7_1
            · rw [if_pos c9] at H
              have c9b0 := eq_true c9
              have c9b1 : decide (0 ≤ x7_1) = true := decide_eq_true c9
              clear c9
              by_cases c10 : x7_1 ≤ (a2.size : Int)
              · rw [if_pos c10] at H
                have c10b0 := eq_true c10
                have c10b1 : decide (x7_1 ≤ (a2.size : Int)) = true := decide_eq_true c10
                clear c10
                replace H := Option.bind_eq_some_iff.mp H
                obtain ⟨⟨t132, t133, t134⟩, A110, H⟩ := H
                replace H : (if t134 = true then ((lexis_May.f k1 a0 a1 t132).bind fun t135 => (if t135 = true then (lexis_Span.l0 k1 a0 a1 a2 (wrap64 (x7_1 + t133))) else (some x7_1))) else (some x7_1)) = some r := H
                have A11 := Aside0.mk A110
                clear A110
                by_cases c12 : t134 = true
                · subst c12
                  have H1 : ((lexis_May.f k1 a0 a1 t132).bind fun t135 => (if t135 = true then (lexis_Span.l0 k1 a0 a1 a2 (wrap64 (x7_1 + t133))) else (some x7_1))) = some r := by rw [if_pos rfl] at H; exact H
                  clear H
                  have H := H1
                  clear H1
                  replace H := Option.bind_eq_some_iff.mp H
                  obtain ⟨t135, A130, H⟩ := H
                  replace H : (if t135 = true then (lexis_Span.l0 k1 a0 a1 a2 (wrap64 (x7_1 + t133))) else (some x7_1)) = some r := H
                  have A13 := Aside0.mk A130
                  clear A130
                  by_cases c14 : t135 = true
                  · subst c14
                    have H1 : (lexis_Span.l0 k1 a0 a1 a2 (wrap64 (x7_1 + t133))) = some r := by rw [if_pos rfl] at H; exact H
                    clear H
                    have H := H1
                    clear H1
                    have H' := Aside0.mk H
                    clear H
                    go_wp2_with (first | ((with_reducible refine gate_callee (f := 93) rfl ?_); refine goesL_ (some 21) rfl rfl Tryd.func93 (by kernel_rfl) rfl #[.int .i64 a0] rfl (by (try simp only [List.map_toArray, List.map_cons, List.map_nil]); first | done | rfl | (simp only [List.length_drop, List.length_take]; rfl)) ?_; (with_reducible refine (lexis_extra.calls a0 t128 true _ A5.out).mono ?_); rintro e w' ⟨rfl, ⟨nd, rfl⟩⟩; refine ⟨_, rfl, ?_⟩) | ((with_reducible refine gate_callee (f := 94) rfl ?_); refine goesL_ (some 29) rfl rfl Tryd.func94 (by kernel_rfl) rfl #[.string a2, .int .i64 x7_1] rfl (by (try simp only [List.map_toArray, List.map_cons, List.map_nil]); first | done | rfl | (simp only [List.length_drop, List.length_take]; rfl)) ?_; (with_reducible refine (escape_At.calls k1 a2 x7_1 t130 false _ A7.out).mono ?_); rintro e w' ⟨rfl, ⟨nd, rfl⟩⟩; refine ⟨_, rfl, ?_⟩) | ((with_reducible refine gate_callee (f := 95) rfl ?_); refine goesL_ (some 39) rfl rfl Tryd.func95 (by kernel_rfl) rfl #[.string (a2.extract (x7_1 : Int).toNat a2.size)] rfl (by (try simp only [List.map_toArray, List.map_cons, List.map_nil]); first | done | rfl | (simp only [List.length_drop, List.length_take]; rfl)) ?_; (with_reducible refine (utf_Decode.calls k1 (a2.extract (x7_1 : Int).toNat a2.size) t132 t133 true _ A11.out).mono ?_); rintro e w15 ⟨rfl, hb⟩; refine ⟨_, rfl, ?_⟩; have n0_ := Aside0.mk (below_step (by repeat (first | (with_reducible first | exact HB.out | apply below_alloc | apply pw_below_drewN | apply below_drew1) | exact HB.out)) hb); clear HB; have HB := n0_; clear n0_; (try clear hb); (try clear hb2); (try clear hk); (try clear hi)) | (go_at_call 96; (with_reducible refine (lexis_May.calls k1 a0 a1 t132 true _ A13.out).mono ?_); rintro e w16 ⟨rfl, hb⟩; have n0_ := Aside0.mk (below_step (by repeat (first | (with_reducible first | exact HB.out | apply below_alloc | apply pw_below_drewN | apply below_drew1) | exact HB.out)) hb); clear HB; have HB := n0_; clear n0_; (try clear hb); (try clear hb2); (try clear hk); (try clear hi)))
                    go_roundg k1
                    case measure => have := HK1.out; omega
                    case rel => exact ⟨(wrap64 (x7_1 + t133)), (by first | rfl | (simp; done) | (simp [*]; done)), H', ⟨by have := HK1.out; omega⟩, ⟨by repeat (first | (with_reducible first | exact HB.out | apply below_alloc | apply pw_below_drewN | apply below_drew1) | exact HB.out)⟩⟩
                  · replace c14 := Bool.eq_false_iff.mpr c14
                    subst c14
                    have H1 : (some x7_1) = some r := by rw [if_neg (show ¬ (false = true) by decide)] at H; exact H
                    clear H
                    have H := H1
                    clear H1
                    obtain rfl := Option.some.inj H
                    go_wp2_with (first | ((with_reducible refine gate_callee (f := 93) rfl ?_); refine goesL_ (some 21) rfl rfl Tryd.func93 (by kernel_rfl) rfl #[.int .i64 a0] rfl (by (try simp only [List.map_toArray, List.map_cons, List.map_nil]); first | done | rfl | (simp only [List.length_drop, List.length_take]; rfl)) ?_; (with_reducible refine (lexis_extra.calls a0 t128 true _ A5.out).mono ?_); rintro e w' ⟨rfl, ⟨nd, rfl⟩⟩; refine ⟨_, rfl, ?_⟩) | ((with_reducible refine gate_callee (f := 94) rfl ?_); refine goesL_ (some 29) rfl rfl Tryd.func94 (by kernel_rfl) rfl #[.string a2, .int .i64 x7_1] rfl (by (try simp only [List.map_toArray, List.map_cons, List.map_nil]); first | done | rfl | (simp only [List.length_drop, List.length_take]; rfl)) ?_; (with_reducible refine (escape_At.calls k1 a2 x7_1 t130 false _ A7.out).mono ?_); rintro e w' ⟨rfl, ⟨nd, rfl⟩⟩; refine ⟨_, rfl, ?_⟩) | ((with_reducible refine gate_callee (f := 95) rfl ?_); refine goesL_ (some 39) rfl rfl Tryd.func95 (by kernel_rfl) rfl #[.string (a2.extract (x7_1 : Int).toNat a2.size)] rfl (by (try simp only [List.map_toArray, List.map_cons, List.map_nil]); first | done | rfl | (simp only [List.length_drop, List.length_take]; rfl)) ?_; (with_reducible refine (utf_Decode.calls k1 (a2.extract (x7_1 : Int).toNat a2.size) t132 t133 true _ A11.out).mono ?_); rintro e w17 ⟨rfl, hb⟩; refine ⟨_, rfl, ?_⟩; have n0_ := Aside0.mk (below_step (by repeat (first | (with_reducible first | exact HB.out | apply below_alloc | apply pw_below_drewN | apply below_drew1) | exact HB.out)) hb); clear HB; have HB := n0_; clear n0_; (try clear hb); (try clear hb2); (try clear hk); (try clear hi)) | (go_at_call 96; (with_reducible refine (lexis_May.calls k1 a0 a1 t132 false _ A13.out).mono ?_); rintro e w18 ⟨rfl, hb⟩; have n0_ := Aside0.mk (below_step (by repeat (first | (with_reducible first | exact HB.out | apply below_alloc | apply pw_below_drewN | apply below_drew1) | exact HB.out)) hb); clear HB; have HB := n0_; clear n0_; (try clear hb); (try clear hb2); (try clear hk); (try clear hi)))
                    go_ret
                    exact ⟨by first | rfl | (simp [errW_none, errW_some] <;> rfl) | (simp [*, errW_none, errW_some] <;> rfl) | (simp [*, errW_none, errW_some, Glue.bne_nil] <;> rfl), by repeat (first | (with_reducible first | exact HB.out | apply below_alloc | apply pw_below_drewN | apply below_drew1) | exact HB.out)⟩
                · replace c12 := Bool.eq_false_iff.mpr c12
                  subst c12
                  have H1 : (some x7_1) = some r := by rw [if_neg (show ¬ (false = true) by decide)] at H; exact H
                  clear H
                  have H := H1
                  clear H1
                  obtain rfl := Option.some.inj H
                  go_wp2_with (first | ((with_reducible refine gate_callee (f := 93) rfl ?_); refine goesL_ (some 21) rfl rfl Tryd.func93 (by kernel_rfl) rfl #[.int .i64 a0] rfl (by (try simp only [List.map_toArray, List.map_cons, List.map_nil]); first | done | rfl | (simp only [List.length_drop, List.length_take]; rfl)) ?_; (with_reducible refine (lexis_extra.calls a0 t128 true _ A5.out).mono ?_); rintro e w' ⟨rfl, ⟨nd, rfl⟩⟩; refine ⟨_, rfl, ?_⟩) | ((with_reducible refine gate_callee (f := 94) rfl ?_); refine goesL_ (some 29) rfl rfl Tryd.func94 (by kernel_rfl) rfl #[.string a2, .int .i64 x7_1] rfl (by (try simp only [List.map_toArray, List.map_cons, List.map_nil]); first | done | rfl | (simp only [List.length_drop, List.length_take]; rfl)) ?_; (with_reducible refine (escape_At.calls k1 a2 x7_1 t130 false _ A7.out).mono ?_); rintro e w' ⟨rfl, ⟨nd, rfl⟩⟩; refine ⟨_, rfl, ?_⟩) | ((with_reducible refine gate_callee (f := 95) rfl ?_); refine goesL_ (some 39) rfl rfl Tryd.func95 (by kernel_rfl) rfl #[.string (a2.extract (x7_1 : Int).toNat a2.size)] rfl (by (try simp only [List.map_toArray, List.map_cons, List.map_nil]); first | done | rfl | (simp only [List.length_drop, List.length_take]; rfl)) ?_; (with_reducible refine (utf_Decode.calls k1 (a2.extract (x7_1 : Int).toNat a2.size) t132 t133 false _ A11.out).mono ?_); rintro e w19 ⟨rfl, hb⟩; refine ⟨_, rfl, ?_⟩; have n0_ := Aside0.mk (below_step (by repeat (first | (with_reducible first | exact HB.out | apply below_alloc | apply pw_below_drewN | apply below_drew1) | exact HB.out)) hb); clear HB; have HB := n0_; clear n0_; (try clear hb); (try clear hb2); (try clear hk); (try clear hi)))
                  go_ret
                  exact ⟨by first | rfl | (simp [errW_none, errW_some] <;> rfl) | (simp [*, errW_none, errW_some] <;> rfl) | (simp [*, errW_none, errW_some, Glue.bne_nil] <;> rfl), by repeat (first | (with_reducible first | exact HB.out | apply below_alloc | apply pw_below_drewN | apply below_drew1) | exact HB.out)⟩
              · rw [if_neg c10] at H
                exact absurd H (by simp)
            · rw [if_neg c9] at H
              exact absurd H (by simp)
        · replace c6 := Bool.eq_false_iff.mpr c6
          subst c6
          have H1 : (some 0) = some r := by rw [if_neg (show ¬ (false = true) by decide)] at H; exact H
          clear H
          have H := H1
          clear H1
          obtain rfl := Option.some.inj H
          go_wp2_with (first | ((with_reducible refine gate_callee (f := 93) rfl ?_); refine goesL_ (some 21) rfl rfl Tryd.func93 (by kernel_rfl) rfl #[.int .i64 a0] rfl (by (try simp only [List.map_toArray, List.map_cons, List.map_nil]); first | done | rfl | (simp only [List.length_drop, List.length_take]; rfl)) ?_; (with_reducible refine (lexis_extra.calls a0 t128 false _ A5.out).mono ?_); rintro e w' ⟨rfl, ⟨nd, rfl⟩⟩; refine ⟨_, rfl, ?_⟩))
          go_ret
          exact ⟨by first | rfl | (simp [errW_none, errW_some] <;> rfl) | (simp [*, errW_none, errW_some] <;> rfl) | (simp [*, errW_none, errW_some, Glue.bne_nil] <;> rfl), by repeat (first | (with_reducible first | exact HB.out | apply below_alloc | apply pw_below_drewN | apply below_drew1) | exact HB.out)⟩
      · rw [if_neg c4] at H
        have c4b0 : decide (x7_1 < (a2.size : Int)) = false := decide_eq_false c4
        clear c4
        obtain rfl := Option.some.inj H
        go_wp2
        go_ret
        exact ⟨by first | rfl | (simp [errW_none, errW_some] <;> rfl) | (simp [*, errW_none, errW_some] <;> rfl) | (simp [*, errW_none, errW_some, Glue.bne_nil] <;> rfl), by repeat (first | (with_reducible first | exact HB.out | apply below_alloc | apply pw_below_drewN | apply below_drew1) | exact HB.out)⟩
def lexis_All.f (k : Nat) (a0 : Int) (a1 : Bool) (a2 : ByteArray) : Option (Bool) := (lexis_Span.f k a0 a1 a2).bind fun t136 => (some (t136 == (a2.size : Int)))
set_option maxHeartbeats 8000000 in
set_option maxRecDepth 100000 in
theorem lexis_All.calls (k : Nat) (a0 : Int) (a1 : Bool) (a2 : ByteArray) (r : Bool) (w : World) (h : lexis_All.f k a0 a1 a2 = some r) :
    Calls Tryd.prog 44 #[.int .i64 a0, .bool a1, .string a2] w fun e w' => e = .returned (.bool r) ∧ Below w.heap.size w w' := by
  have HB := Aside0.mk (Below.refl w.heap.size w)
  have H : ((lexis_Span.f k a0 a1 a2).bind fun t136 => (some (t136 == (a2.size : Int)))) = some r := h
  clear h
  replace H := Option.bind_eq_some_iff.mp H
  obtain ⟨t136, A40, H⟩ := H
  replace H : (some (t136 == (a2.size : Int))) = some r := H
  have A4 := Aside0.mk A40
  clear A40
  obtain rfl := Option.some.inj H
  go_enter Tryd.func44, Tryd.ntmps44
  go_wp2_with (first | ((with_reducible refine gate_callee (f := 70) rfl ?_); refine goesL_ (some 10) rfl rfl Tryd.func70 (by kernel_rfl) rfl #[.int .i64 a0, .bool a1, .string a2] rfl (by (try simp only [List.map_toArray, List.map_cons, List.map_nil]); first | done | rfl | (simp only [List.length_drop, List.length_take]; rfl)) ?_; (with_reducible refine (lexis_Span.calls k a0 a1 a2 t136 _ A4.out).mono ?_); rintro e w5 ⟨rfl, hb⟩; refine ⟨_, rfl, ?_⟩; have n0_ := Aside0.mk (below_step (by repeat (first | (with_reducible first | exact HB.out | apply below_alloc | apply pw_below_drewN | apply below_drew1) | exact HB.out)) hb); clear HB; have HB := n0_; clear n0_; (try clear hb); (try clear hb2); (try clear hk); (try clear hi)))
  go_ret
  exact ⟨by first | rfl | (simp [errW_none, errW_some] <;> rfl) | (simp [*, errW_none, errW_some] <;> rfl) | (simp [*, errW_none, errW_some, Glue.bne_nil] <;> rfl), by repeat (first | (with_reducible first | exact HB.out | apply below_alloc | apply pw_below_drewN | apply below_drew1) | exact HB.out)⟩
def strings_genSplit.f (a0 : ByteArray) (a1 : ByteArray) (a2 : Int) (a3 : Int) : Option (List ByteArray) :=
  if a0.size < 4294967281 ∧ a1.size = 1 ∧ a2 = 0 ∧ a3 = -1 then some (Lib.splitB a1 0 (Lib.countB a0 a1) a0) else none
theorem strings_genSplit.info : (Tryd.prog.info? 9).map (fun i => (i.zero, i.size, i.bytes)) = some (some (.string ByteArray.empty), 1, 16) := by kernel_rfl
set_option maxHeartbeats 1000000 in
theorem strings_genSplit.calls (a0 : ByteArray) (a1 : ByteArray) (a2 : Int) (a3 : Int) (r : List ByteArray) (w : World) (h : strings_genSplit.f a0 a1 a2 a3 = some r) :
    Calls Tryd.prog 71 #[.string a0, .string a1, .int .i64 a2, .int .i64 a3] w fun e w' => ∃ v0_ : Value, e = .returned (v0_) ∧ Kd.R Kd.string 9 w' w.heap.size (fun _ => True) v0_ r ∧ Below w.heap.size w w' := by
  unfold strings_genSplit.f at h
  split at h
  case isFalse => cases h
  rename_i hc
  obtain ⟨hs, h1, rfl, rfl⟩ := hc
  obtain rfl := Option.some.inj h
  have h1' : 1 ≤ a1.size := by omega
  have hle := Lib.countB_le a1 h1' a0.size a0 (Nat.le_refl _)
  have hlen := Lib.splitB_all a1 h1' 0 _ a0 rfl
  obtain ⟨c, hc⟩ := Glue.one_byte h1
  have c0 := Any.strings_genSplit_core Tryd.lays221 strings_genSplit.info a0 a1 0 (-1) (Lib.countB a0 a1 + 1) w hs h1' (Nat.zero_le _)
    (fun x cs hx => by
      have := Tryd.strings_Index_one x c (w.alloc (.cells cs 9))
      rw [← hc] at this
      refine this.mono ?_
      rintro e w' ⟨rfl, rfl⟩
      refine ⟨?_, rfl⟩
      rw [hc]
      show _ = Ending.returned (Value.int .i64 (Lib.index x.data.toList [c]))
      rw [Lib.index_one])
    (by
      have := Tryd.strings_Count_one a0 c w
      rw [← hc] at this
      refine this.mono ?_
      rintro e w' ⟨rfl, rfl⟩
      refine ⟨?_, rfl⟩
      rw [hc]
      show _ = Ending.returned (Value.int .i64 ((Lib.count a0.data.toList [c] : Nat) : Int))
      rw [Lib.count_one]
      rfl) (by decide) (by decide) (by rw [if_pos (by decide)]; omega)
  rw [Nat.add_sub_cancel, hlen] at c0
  have e2 : Lib.cellsOf (Lib.splitB a1 0 (Lib.countB a0 a1) a0) (Lib.countB a0 a1 + 1) = ((Lib.splitB a1 0 (Lib.countB a0 a1) a0).map Value.string).toArray := by rw [← hlen]; exact Lib.cellsOf_full _
  rw [e2] at c0
  refine c0.mono ?_
  rintro e w' ⟨rfl, rfl⟩
  refine ⟨_, rfl, Glue.str_own (n := Lib.countB a0 a1 + 1) ?_ hlen.symm, (Below.refl _ w).alloc (Nat.le_refl _) _⟩
  refine ⟨by simp [hlen], .inr ⟨w.heap.size, Lib.countB a0 a1 + 1, _, rfl, Nat.le_refl _, World.alloc_heap_new _ _, Nat.le_refl _, ?_, ?_, ?_⟩⟩
  · unfold maxLen; omega
  · simp [hlen]
  · rw [List.toList_toArray, List.take_of_length_le (by simp [hlen])]
def strings_Split.f (a0 : ByteArray) (a1 : ByteArray) : Option (List ByteArray) := (strings_genSplit.f a0 a1 0 (-1)).bind fun t137 => (some t137)
set_option maxHeartbeats 8000000 in
set_option maxRecDepth 100000 in
theorem strings_Split.calls (a0 : ByteArray) (a1 : ByteArray) (r : List ByteArray) (w : World) (h : strings_Split.f a0 a1 = some r) :
    Calls Tryd.prog 45 #[.string a0, .string a1] w fun e w' => ∃ v0_ : Value, e = .returned (v0_) ∧ Kd.R Kd.string 9 w' w.heap.size (fun _ => True) v0_ r ∧ Below w.heap.size w w' := by
  have HB := Aside0.mk (Below.refl w.heap.size w)
  have H : ((strings_genSplit.f a0 a1 0 (-1)).bind fun t137 => (some t137)) = some r := h
  clear h
  replace H := Option.bind_eq_some_iff.mp H
  obtain ⟨t137, A30, H⟩ := H
  replace H : (some t137) = some r := H
  have A3 := Aside0.mk A30
  clear A30
  obtain rfl := Option.some.inj H
  go_enter Tryd.func45, Tryd.ntmps45
  go_wp2_with (first | ((with_reducible refine gate_callee (f := 71) rfl ?_); refine goesL_ (some 7) rfl rfl Tryd.func71 (by kernel_rfl) rfl #[.string a0, .string a1, .int .i64 0, .int .i64 (-1)] rfl (by (try simp only [List.map_toArray, List.map_cons, List.map_nil]); first | done | rfl | (simp only [List.length_drop, List.length_take]; rfl)) ?_; (with_reducible refine (strings_genSplit.calls a0 a1 0 (-1) t137 _ A3.out).mono ?_); rintro e w4 ⟨v138, rfl, ho0, hb⟩; refine ⟨_, rfl, ?_⟩; have n0_ := Aside0.mk (Kd.R_lower ho0 (below_size (by repeat (first | (with_reducible first | exact HB.out | apply below_alloc | apply pw_below_drewN | apply below_drew1) | exact HB.out)))); have n1_ := Aside0.mk (below_step (by repeat (first | (with_reducible first | exact HB.out | apply below_alloc | apply pw_below_drewN | apply below_drew1) | exact HB.out)) hb); clear HB; have HO139 := n0_; have HB := n1_; clear n0_ n1_; (try clear hb); (try clear hb2); (try clear hk); (try clear hi); (try clear ho0)))
  go_ret
  exact ⟨_, by first | rfl | (simp [errW_none, errW_some] <;> rfl) | (simp [*, errW_none, errW_some] <;> rfl) | (simp [*, errW_none, errW_some, Glue.bne_nil] <;> rfl), by (with_reducible repeat (first | apply Kd.R_alloc | apply Kd.R_drewN | apply Kd.R_drew)); exact HO139.out, by repeat (first | (with_reducible first | exact HB.out | apply below_alloc | apply pw_below_drewN | apply below_drew1) | exact HB.out)⟩
def escsN (s : ByteArray) : Nat → Int → List (Int × Int)
  | 0, _ => []
  | n + 1, i => if i < (s.size : Int) then (match escAt s i with | some v => (i, v) :: escsN s n (i + 3) | none => escsN s n (i + 1)) else []
theorem escsN_more (s : ByteArray) : ∀ (n m : Nat) (i : Int), 0 ≤ i → (s.size : Int) - i < n → (s.size : Int) - i < m → escsN s n i = escsN s m i
  | 0, 0, _, _, _, _ => rfl
  | 0, m + 1, i, h0, h1, _ => by simp only [escsN]; rw [if_neg (by omega)]
  | n + 1, 0, i, h0, _, h2 => by simp only [escsN]; rw [if_neg (by omega)]
  | n + 1, m + 1, i, h0, h1, h2 => by
    simp only [escsN]
    by_cases h : i < (s.size : Int)
    · rw [if_pos h, if_pos h]
      cases he : escAt s i with
      | some v => simp only; rw [escsN_more s n m (i + 3) (by omega) (by omega) (by omega)]
      | none => simp only; rw [escsN_more s n m (i + 1) (by omega) (by omega) (by omega)]
    · rw [if_neg h, if_neg h]
def escsFrom (s : ByteArray) (i : Int) : List (Int × Int) := escsN s (s.size + 1) i
theorem escsFrom_end (s : ByteArray) (i : Int) (h : ¬ i < (s.size : Int)) : escsFrom s i = [] := by simp only [escsFrom, escsN]; rw [if_neg h]
theorem escsFrom_some (s : ByteArray) (i v : Int) (h0 : 0 ≤ i) (h : i < (s.size : Int)) (he : escAt s i = some v) : escsFrom s i = (i, v) :: escsFrom s (i + 3) := by
  unfold escsFrom
  conv => lhs; unfold escsN
  rw [if_pos h, he]
  simp only
  rw [escsN_more s s.size (s.size + 1) (i + 3) (by omega) (by omega) (by omega)]
theorem escsFrom_none (s : ByteArray) (i : Int) (h0 : 0 ≤ i) (h : i < (s.size : Int)) (he : escAt s i = none) : escsFrom s i = escsFrom s (i + 1) := by
  unfold escsFrom
  conv => lhs; unfold escsN
  rw [if_pos h, he]
  simp only
  rw [escsN_more s s.size (s.size + 1) (i + 1) (by omega) (by omega) (by omega)]
def escs (s : ByteArray) : List (Int × Int) := escsFrom s 0
def encE (x : Int × Int) : Array Value := #[.int .i64 x.1, .int .u8 x.2]
theorem escape_At_some (s : ByteArray) (hs : s.size ≤ 140737488355328) (i v : Int) (h0 : 0 ≤ i) (h1 : i < s.size) (he : escAt s i = some v) (w : World) :
    Calls Tryd.prog 94 #[.string s, .int .i64 i] w fun e w' => e = .returned (.tuple #[.int .u8 v, .bool true]) ∧ Drawn0 w w' := by
  have h := escape_At_spec s hs i h0 h1 10 (Nat.le_refl _)
  rw [he] at h
  exact escape_At.calls 10 s i v true w h
theorem escape_At_none (s : ByteArray) (hs : s.size ≤ 140737488355328) (i : Int) (h0 : 0 ≤ i) (h1 : i < s.size) (he : escAt s i = none) (w : World) :
    Calls Tryd.prog 94 #[.string s, .int .i64 i] w fun e w' => e = .returned (.tuple #[.int .u8 0, .bool false]) ∧ Drawn0 w w' := by
  have h := escape_At_spec s hs i h0 h1 10 (Nat.le_refl _)
  rw [he] at h
  exact escape_At.calls 10 s i 0 false w h
set_option maxRecDepth 100000 in
set_option maxHeartbeats 1000000 in
theorem escape_All1_gives (n : Nat) (hn : 1 ≤ n) (s : ByteArray) (hs : s.size ≤ 140737488355328) (Bn : Nat) (w0 : World) (hBw : Bn < w0.heap.size) (hc : w0.cell? ⟨Bn, 0, none⟩ = some (.string s)) :
    Each.Gives Tryd.prog n 125 #[.pointer (some ⟨Bn, 0, none⟩)] encE (escs s) (Each.KeepCell Bn) w0 := by
  intro l J Jx W hW hJ hY h0
  have hcW := (hW.cell (p := ⟨Bn, 0, none⟩) hBw).trans hc
  refine callsIn_of_wp Tryd.func125 rfl trivial ?_ rfl
  simp only [Tryd.ntmps125, List.size_toArray, List.length_cons, List.length_nil, Nat.reduceAdd, Nat.reduceSub, Array.replicate_succ, Array.replicate_zero, List.push_toArray, List.append_toArray, List.nil_append, List.cons_append]
  gi_wp2
  gi_loopw [3] (fun v wr => ∃ (i : Int) (k : Nat), v = .int .i64 i ∧ 0 ≤ i ∧ i ≤ (s.size : Int) + 3 ∧ Aside0 (escs s = (escs s).take k ++ escsFrom s i) ∧ Aside0 (k ≤ (escs s).length) ∧ Aside0 (J k wr) ∧ wr.cell? ⟨Bn, 0, none⟩ = some (.string s))
    (fun v _ => ((s.size : Int) + 3 - intOf v).toNat)
  case atStart => exact ⟨0, 0, rfl, by omega, by omega, ⟨rfl⟩, ⟨Nat.zero_le _⟩, ⟨h0⟩, hcW⟩
  case round =>
    obtain ⟨i, k, rfl, h0i, hi3, hx, hk, hJk, hc1⟩ := hrel
    by_cases hlt : i < (s.size : Int)
    · cases he : escAt s i with
      | none =>
        have hx2 : Aside0 (escs s = (escs s).take k ++ escsFrom s (i + 1)) := ⟨by rw [← escsFrom_none s i h0i hlt he]; exact hx.out⟩
        have hcall := Aside0.mk (escape_At_none s hs i h0i hlt he)
        clear he
        gi_wp2_with (refine ⟨trivial, ?_⟩; gi_at_call 94; refine (callsIn_wide.2 (hcall.out _)).mono ?_; rintro e w' ⟨rfl, ⟨nd, rfl⟩⟩; have hJ1 := Aside0.mk (hJ k wr (wr.drewN nd) hJk.out ⟨⟨nd, rfl⟩⟩))
        go_roundw
        case rel => exact ⟨i + 1, k, by go_num, by omega, by omega, hx2, hk, hJ1, by simpa using hc1⟩
        case measure => simp [intOf]; omega
      | some v =>
        have hr := escAt_range he
        have hgk : (escs s)[k]? = some (i, v) := by
          rw [hx.out, escsFrom_some s i v h0i hlt he, List.getElem?_append_right (by simp; omega)]
          simp [Nat.min_eq_left hk.out]
        have hk1 : Aside0 (k + 1 ≤ (escs s).length) := ⟨(List.getElem?_eq_some_iff.1 hgk).1⟩
        have hx2 : Aside0 (escs s = (escs s).take (k + 1) ++ escsFrom s (i + 3)) := ⟨by
          rw [List.take_add_one, hgk]
          have := hx.out
          rw [escsFrom_some s i v h0i hlt he] at this
          simpa using this⟩
        have hg := Aside0.mk hgk
        have hcall := Aside0.mk (escape_At_some s hs i v h0i hlt he)
        clear he hgk
        obtain ⟨hr1, hr2, hr3⟩ := hr
        gi_wp2_with (refine ⟨trivial, ?_⟩; gi_at_call 94; refine (callsIn_wide.2 (hcall.out _)).mono ?_; rintro e w' ⟨rfl, ⟨nd, rfl⟩⟩; obtain ⟨fn, tmps, assign, body, hy, hR⟩ := hY k (i, v) (wr.drewN nd) (hJ k wr (wr.drewN nd) hJk.out ⟨⟨nd, rfl⟩⟩) hg.out; dsimp only [encE] at hy)
        refine hR.mono ?_
        rintro e W3 (⟨rfl, hJ3, hk3⟩ | ⟨rfl, hJx3⟩)
        · have hc3 : W3.cell? ⟨Bn, 0, none⟩ = some (.string s) := Eq.trans hk3 (by simpa using hc1)
          have hJ4 := Aside0.mk hJ3
          clear hJ3 hy
          gi_wp2
          go_roundw
          case rel => exact ⟨i + 3, k + 1, by go_num, by omega, by omega, hx2, hk1, hJ4, hc3⟩
          case measure => simp [intOf]; omega
        · clear hy
          gi_wp2
          refine bodyPost_ret (results_none rfl _ _ _) rfl ?_
          exact ⟨⟨_, rfl⟩, .inr hJx3⟩
    · have hx2 : Aside0 ((escs s).length = k) := ⟨by
        have := hx.out
        rw [escsFrom_end s i hlt, List.append_nil] at this
        have h2 := congrArg List.length this
        rw [List.length_take] at h2
        have := hk.out
        omega⟩
      gi_wp2
      go_end0
      refine ⟨⟨_, rfl⟩, .inl ?_⟩
      rw [hx2.out]
      exact hJk.out
theorem escape_All_calls (s : ByteArray) (w : World) :
    Calls Tryd.prog 100 #[.string s] w fun e w' => e = .returned (.func (.func 125) #[] #[.pointer (some ⟨w.heap.size, 0, none⟩)]) ∧ w' = w.alloc (.cells #[.string s] 9) := by
  go_enter Tryd.func100, Tryd.ntmps100
  go_wp2
  go_ret
  exact ⟨rfl, rfl⟩
end Go.Proofs.YtoalibnaoophgaaDoor.P
