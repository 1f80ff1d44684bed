/-
  A part of the proof of segsJoins_card (texts of this session, and printed ones, without what it does not use).
-/
import Derived.Test.YtoalibnaoophgaaDoorVdPx18
import Derived.Laws.BitsLemmas
import Derived.Laws.BitsAllLaws
namespace Foot
end Foot
namespace Go.Proofs
end Go.Proofs
namespace Go.Proofs.YtoalibnaoophgaaDoor
end Go.Proofs.YtoalibnaoophgaaDoor
namespace Go.Proofs.YtoalibnaoophgaaDoor.Each
end Go.Proofs.YtoalibnaoophgaaDoor.Each
namespace Go.Proofs.YtoalibnaoophgaaDoor.Glue
end Go.Proofs.YtoalibnaoophgaaDoor.Glue
namespace Go.Proofs.YtoalibnaoophgaaDoor.Open
end Go.Proofs.YtoalibnaoophgaaDoor.Open
namespace Go.Proofs.YtoalibnaoophgaaDoor.P
end Go.Proofs.YtoalibnaoophgaaDoor.P
namespace Go.Proofs.YtoalibnaoophgaaDoor.segsJoins
end Go.Proofs.YtoalibnaoophgaaDoor.segsJoins
namespace Go.Proofs.YtoalibnaoophgaaDoorW.PrintLast
end Go.Proofs.YtoalibnaoophgaaDoorW.PrintLast
namespace Go.Proofs.YtoalibnaoophgaaDoorW.PrintMore
end Go.Proofs.YtoalibnaoophgaaDoorW.PrintMore
namespace Go.Proofs.YtoalibnaoophgaaDoorW.PrintWords
end Go.Proofs.YtoalibnaoophgaaDoorW.PrintWords
namespace Kd
end Kd
set_option linter.unusedVariables false
set_option linter.unusedSimpArgs false
namespace Go.Proofs.YtoalibnaoophgaaDoor.P
open Go.RowKit Go.Proofs.YtoalibnaoophgaaDoorW.PrintWords Go.Proofs.YtoalibnaoophgaaDoorW.PrintLast Go.Proofs.YtoalibnaoophgaaDoorW.PrintMore
theorem ev_mono {α : Type} {g : Nat → Option α} (m : ∀ k, LeO (g k) (g (k + 1))) {K : Nat} {r : α} (h : g K = some r) : Ev g r := Ev.of m h
theorem fin_byte {P : Int → Prop} (h : ∀ b : Fin 256, P (b.val : Int)) {b : Int} (h0 : 0 ≤ b) (h1 : b < 256) : P b := by
  have := h ⟨b.toNat, by omega⟩
  rwa [show (((⟨b.toNat, by omega⟩ : Fin 256).val : Nat) : Int) = b from Int.toNat_of_nonneg h0] at this
def cls (b : Int) : Int := (octet_Class.f 8 b).getD 0
theorem octet_Class_all : ∀ b : Fin 256, octet_Class.f 8 (b.val : Int) = some (cls b.val) := by decide +kernel
theorem octet_Class_ev {b : Int} (h0 : 0 ≤ b) (h1 : b < 256) : Ev (fun k => octet_Class.f k b) (cls b) :=
  ev_mono (octet_Class.mono b) (fin_byte (P := fun b => octet_Class.f 8 b = some (cls b)) octet_Class_all h0 h1)
def isC (b m : Int) : Bool := Go.bits .and .i64 (cls b) m != 0
theorem octet_Is_ev {b : Int} (m : Int) (h0 : 0 ≤ b) (h1 : b < 256) : Ev (fun k => octet_Is.f k b m) (isC b m) := by
  unfold octet_Is.f
  exact (octet_Class_ev h0 h1).bind (Ev.now _)
def ofB (b : Int) : ByteArray := (escape_Of.f 8 b).getD ByteArray.empty
theorem escape_Of_all : ∀ b : Fin 256, escape_Of.f 8 (b.val : Int) = some (ofB b.val) := by decide +kernel
theorem escape_Of_ev {b : Int} (h0 : 0 ≤ b) (h1 : b < 256) : Ev (fun k => escape_Of.f k b) (ofB b) :=
  ev_mono (escape_Of.mono b) (fin_byte (P := fun b => escape_Of.f 8 b = some (ofB b)) escape_Of_all h0 h1)
def plainB (p b : Int) : Bool := (lexis_Plain.f 100 p b).getD false
theorem lexis_Plain_all : ∀ p : Fin 8, ∀ b : Fin 256, lexis_Plain.f 100 (p.val : Int) (b.val : Int) = some (plainB p.val b.val) := by decide +kernel
theorem lexis_Plain_ev {p b : Int} (hp : 0 ≤ p) (hp1 : p < 8) (h0 : 0 ≤ b) (h1 : b < 256) : Ev (fun k => lexis_Plain.f k p b) (plainB p b) := by
  refine ev_mono (lexis_Plain.mono p b) (K := 100) ?_
  have := lexis_Plain_all ⟨p.toNat, by omega⟩ ⟨b.toNat, by omega⟩
  simpa only [Int.toNat_of_nonneg hp, Int.toNat_of_nonneg h0] using this
theorem ofB_size_all : ∀ b : Fin 256, (ofB b.val).size = 3 := by decide +kernel
theorem ofB_size {b : Int} (h0 : 0 ≤ b) (h1 : b < 256) : (ofB b).size = 3 := fin_byte (P := fun b => (ofB b).size = 3) ofB_size_all h0 h1
attribute [irreducible] cls plainB ofB
theorem w64 (n : Int) (h0 : -9223372036854775808 ≤ n) (h1 : n ≤ 9223372036854775807) : wrap64 n = n := by unfold wrap64; omega
theorem w32 (n : Int) (h0 : -2147483648 ≤ n) (h1 : n ≤ 2147483647) : wrap32 n = n := by unfold wrap32; omega
theorem i32_and65535 (n : Int) : Go.bits .and .i32 n 65535 = n % 65536 := by
  have h127 : (BitVec.ofInt 32 65535).toNat = 2 ^ 16 - 1 := by decide
  have key : (BitVec.ofInt 32 n &&& BitVec.ofInt 32 65535).toNat = (n % ((2 ^ 32 : Nat) : Int)).toNat % 2 ^ 16 := by
    rw [BitVec.toNat_and, BitVec.toNat_ofInt, h127, Nat.and_two_pow_sub_one_eq_mod]
  show IntKind.i32.wrap ((BitVec.ofInt 32 n &&& BitVec.ofInt 32 65535).toNat : Nat) = n % 65536
  rw [key]
  simp only [IntKind.wrap, IntKind.bits, IntKind.signed]
  simp
  omega
def comB (r : Int) : Bool := decide (160 ≤ r ∧ r ≤ 55295 ∨ 63744 ≤ r ∧ r ≤ 64975 ∨ 65008 ≤ r ∧ r ≤ 65519 ∨ 65536 ≤ r ∧ r < 917504 ∧ r % 65536 ≤ 65533 ∨ 921600 ≤ r ∧ r ≤ 983037)
theorem lexis_Common_ev (r : Int) : Ev (fun k => lexis_Common.f k r) (comB r) := by
  refine ev_mono (lexis_Common.mono r) (K := 1) ?_
  unfold lexis_Common.f comB
  simp only [lexis_Common.j0, i32_and65535]
  repeat' split
  all_goals (rw [Option.some.injEq, Bool.eq_iff_iff]; simp only [decide_eq_true_eq, Bool.false_eq_true, true_iff, false_iff, iff_false, iff_true] at * <;> omega)
def privB (r : Int) : Bool := decide (57344 ≤ r ∧ r ≤ 63743 ∨ 983040 ≤ r ∧ r ≤ 1048573 ∨ 1048576 ≤ r ∧ r ≤ 1114109)
theorem lexis_Private_ev (r : Int) : Ev (fun _ => lexis_Private.f r) (privB r) := by
  refine ev_mono (fun _ => LeO.refl _) (K := 1) ?_
  unfold lexis_Private.f privB
  repeat' split
  all_goals (rw [Option.some.injEq, Bool.eq_iff_iff]; simp only [decide_eq_true_eq, Bool.false_eq_true, true_iff, false_iff, iff_false, iff_true] at * <;> omega)
abbrev Row5 := Int × Int × Int × Int × Int
def fitJ (t : ByteArray) (x : Row5) (j : Int) : Prop :=
  j < t.size ∧ (if j = 0 then x.1 ≤ bt t 0 ∧ bt t 0 ≤ x.2.1 else if j = 1 then x.2.2.1 ≤ bt t 1 ∧ bt t 1 ≤ x.2.2.2.1 else 128 ≤ bt t j ∧ bt t j ≤ 191)
instance (t : ByteArray) (x : Row5) (j : Int) : Decidable (fitJ t x j) := by unfold fitJ; infer_instance
def fitR (t : ByteArray) (x : Row5) : Prop := ∀ j, 0 ≤ j → j < x.2.2.2.2 → fitJ t x j
def Fits (t : ByteArray) (x : Row5) (i : Int) (v : Int) : Prop := i ≤ v ∧ v ≤ x.2.2.2.2 ∧ v ≤ t.size ∧ (∀ j, i ≤ j → j < v → fitJ t x j) ∧ (v < x.2.2.2.2 → ¬ fitJ t x v)
theorem fits_all {t : ByteArray} {x : Row5} {v : Int} (h : Fits t x 0 v) : v = x.2.2.2.2 ↔ fitR t x := by
  obtain ⟨a1, a2, a3, a4, a5⟩ := h
  constructor
  · rintro rfl; exact fun j h0 h1 => a4 j h0 h1
  · intro hr
    rcases Int.lt_or_eq_of_le a2 with h | h
    · exact absurd (hr v a1 h) (a5 h)
    · exact h
def valU (t : ByteArray) (n : Int) : Int :=
  if n = 1 then bt t 0 else if n = 2 then (bt t 0 - 192) * 64 + bt t 1 - 128
  else if n = 3 then ((bt t 0 - 224) * 64 + bt t 1 - 128) * 64 + bt t 2 - 128
  else (((bt t 0 - 240) * 64 + bt t 1 - 128) * 64 + bt t 2 - 128) * 64 + bt t 3 - 128
def fitB (t : ByteArray) (x : Row5) : Bool := (List.range 4).all fun j => decide ((j : Int) < x.2.2.2.2 → fitJ t x j)
theorem fitB_iff {t : ByteArray} {x : Row5} (hn : x.2.2.2.2 ≤ 4) : fitB t x = true ↔ fitR t x := by
  unfold fitB fitR
  rw [List.all_eq_true]
  constructor
  · intro h j h0 h1
    have := h j.toNat (by rw [List.mem_range]; omega)
    rw [decide_eq_true_eq, Int.toNat_of_nonneg h0] at this
    exact this h1
  · intro h j hj
    rw [decide_eq_true_eq]
    exact fun h1 => h j (by omega) h1
def decO (t : ByteArray) : Option (Int × Int) := (rowsTab.find? (fitB t)).map fun x => (valU t x.2.2.2.2, x.2.2.2.2)
theorem rows_n : ∀ x ∈ rowsTab, 1 ≤ x.2.2.2.2 ∧ x.2.2.2.2 ≤ 4 := by decide
theorem fitJ_size {t : ByteArray} {x : Row5} (h : fitR t x) (h0 : 1 ≤ x.2.2.2.2) : x.2.2.2.2 ≤ t.size := by
  have := (h (x.2.2.2.2 - 1) (by omega) (by omega)).1
  omega
def ansU (o : Option (Int × Int)) (m : Int) : Int × Int × Bool := match o with
  | some x => (x.1, x.2, true)
  | none => (0, m, false)
def shB (b : Int) : Int × Int × Int := (utf_shape.f 5 b).getD (0, 0, 0)
theorem utf_shape_all : ∀ b : Fin 256, utf_shape.f 5 (b.val : Int) = some (shB b.val) := by decide +kernel
theorem utf_shape_ev {b : Int} (h0 : 0 ≤ b) (h1 : b < 256) : Ev (fun k => utf_shape.f k b) (shB b) :=
  ev_mono (utf_shape.mono b) (fin_byte (P := fun b => utf_shape.f 5 b = some (shB b)) utf_shape_all h0 h1)
theorem shB_row_all : ∀ b : Fin 256, ∀ x ∈ rowsTab, x.1 ≤ (b.val : Int) → (b.val : Int) ≤ x.2.1 → shB b.val = (x.2.2.2.2, x.2.2.1, x.2.2.2.1) := by decide +kernel
theorem shB_row {b : Int} (h0 : 0 ≤ b) (h1 : b < 256) {x : Row5} (hx : x ∈ rowsTab) (h2 : x.1 ≤ b) (h3 : b ≤ x.2.1) : shB b = (x.2.2.2.2, x.2.2.1, x.2.2.2.1) :=
  fin_byte (P := fun b => ∀ x ∈ rowsTab, x.1 ≤ b → b ≤ x.2.1 → shB b = (x.2.2.2.2, x.2.2.1, x.2.2.2.1)) shB_row_all h0 h1 x hx h2 h3
theorem row_shB_all : ∀ b : Fin 256, shB b.val = (0, 0, 0) ∨ ∃ x ∈ rowsTab, x.1 ≤ (b.val : Int) ∧ (b.val : Int) ≤ x.2.1 := by decide +kernel
theorem row_shB {b : Int} (h0 : 0 ≤ b) (h1 : b < 256) : shB b = (0, 0, 0) ∨ ∃ x ∈ rowsTab, x.1 ≤ b ∧ b ≤ x.2.1 :=
  fin_byte (P := fun b => shB b = (0, 0, 0) ∨ ∃ x ∈ rowsTab, x.1 ≤ b ∧ b ≤ x.2.1) row_shB_all h0 h1
theorem front_l0 (t : ByteArray) (x : Row5) (hn : x.2.2.2.2 ≤ 4) : ∀ (d : Nat) (i lo hi : Int), x.2.2.2.2 - i = d → 1 ≤ i → i ≤ t.size → (i < x.2.2.2.2 → (i < t.size → (fitJ t x i ↔ lo ≤ bt t i ∧ bt t i ≤ hi))) →
    ∃ v, Fits t x i v ∧ Ev (fun k => utf_front.l0 k t x.2.2.2.2 lo hi i) (v, x.2.2.2.2)
  | 0, i, lo, hi, hd, h0, hi', _ => by
    refine ⟨i, ⟨by omega, by omega, hi', fun j h1 h2 => by omega, fun h => by omega⟩, ?_⟩
    exact Ev.step (f := fun k => _) (fun k => by simp only [utf_front.l0]; rw [if_neg (by omega)]) (Ev.now _)
  | d + 1, i, lo, hi, hd, h0, hi', ht => by
    have no (hf : ¬ fitJ t x i) : Fits t x i i := ⟨by omega, by omega, by omega, fun j h1 h2 => by omega, fun _ => hf⟩
    by_cases hs : i < (t.size : Int)
    · have ht := ht (by omega) hs
      have step (r : Int × Int) (h : Ev (fun k => if bt t i ≥ lo then (if bt t i ≤ hi then utf_front.l0 k t x.2.2.2.2 128 191 (i + 1) else some (i, x.2.2.2.2)) else some (i, x.2.2.2.2)) r) : Ev (fun k => utf_front.l0 k t x.2.2.2.2 lo hi i) r := by
        refine Ev.step (f := fun k => _) (fun k => by simp only [utf_front.l0]; rw [if_pos (by omega), if_pos hs, if_pos (by omega), w64 (i + 1) (by omega) (by omega)]) h
      by_cases h1 : bt t i ≥ lo
      · by_cases h2 : bt t i ≤ hi
        · obtain ⟨v, hv, he⟩ := front_l0 t x hn d (i + 1) 128 191 (by omega) (by omega) (by omega) (fun _ h => by unfold fitJ; rw [if_neg (by omega), if_neg (by omega)]; simp only [h, true_and])
          refine ⟨v, ?_, step _ (Glue.ev_pos h1 (Glue.ev_pos h2 he))⟩
          obtain ⟨a1, a2, a3, a4, a5⟩ := hv
          refine ⟨by omega, a2, a3, fun j h3 h4 => ?_, a5⟩
          rcases Int.lt_or_eq_of_le h3 with h | h
          · exact a4 j (by omega) h4
          · exact h ▸ ht.2 ⟨h1, h2⟩
        · exact ⟨i, no (by rw [ht]; omega), step _ (Glue.ev_pos h1 (Glue.ev_neg h2 (Ev.now _)))⟩
      · exact ⟨i, no (by rw [ht]; omega), step _ (Glue.ev_neg h1 (Ev.now _))⟩
    · refine ⟨i, no (fun h => hs h.1), ?_⟩
      exact Ev.step (f := fun k => _) (fun k => by simp only [utf_front.l0]; rw [if_pos (by omega), if_neg hs]) (Ev.now _)
theorem or_step_all : ∀ b : Fin 64, wrap32 (Go.bits .and .u8 ((b.val : Int) + 128) 63) = b.val := by decide +kernel
theorem or_step (r b : Int) (h0 : 0 ≤ r) (h1 : r < 2097152) (hb : 128 ≤ b) (hb1 : b ≤ 191) : Go.bits .or .i32 (wrap32 (r * 64)) (wrap32 (Go.bits .and .u8 b 63)) = r * 64 + b - 128 := by
  have e := or_step_all ⟨(b - 128).toNat, by omega⟩
  simp only [Int.toNat_of_nonneg (show 0 ≤ b - 128 by omega)] at e
  rw [show b - 128 + 128 = b by omega] at e
  rw [e, w32 _ (by omega) (by omega), bits_join .i32 31 (by decide) wraps_i32 6 (r * 64) (b - 128) (by omega) (by omega) (by omega) (by omega) (by omega) (by omega)]
  omega
theorem utfD_end (t : ByteArray) (r n i : Int) (h : ¬ i < n) : Ev (fun k => utf_Decode.l0 k t r n i) (r, n, true) :=
  Ev.step (f := fun k => _) (fun k => by simp only [utf_Decode.l0]; rw [if_neg h]) (Ev.now _)
theorem utfD_step (t : ByteArray) (r n i : Int) (res : Int × Int × Bool) (h : i < n) (h0 : 0 ≤ i) (hi : i ≤ 4) (hs : i < t.size) (hr0 : 0 ≤ r) (hr1 : r < 2097152) (hb : 128 ≤ bt t i ∧ bt t i ≤ 191)
    (g : Ev (fun k => utf_Decode.l0 k t (r * 64 + bt t i - 128) n (i + 1)) res) : Ev (fun k => utf_Decode.l0 k t r n i) res :=
  Ev.step (f := fun k => _) (fun k => by simp only [utf_Decode.l0]; rw [if_pos h, if_pos h0, if_pos hs, or_step r _ hr0 hr1 hb.1 hb.2, w64 (i + 1) (by omega) (by omega)]) g
theorem first_all : ∀ b : Fin 256, ∀ x ∈ rowsTab, x.1 ≤ (b.val : Int) → (b.val : Int) ≤ x.2.1 →
    (x.2.2.2.2 = 1 → wrap32 (Go.bits .and .u8 b.val 127) = b.val) ∧ (x.2.2.2.2 = 2 → wrap32 (Go.bits .and .u8 b.val 31) = b.val - 192 ∧ 192 ≤ (b.val : Int) ∧ (b.val : Int) < 224)
      ∧ (x.2.2.2.2 = 3 → wrap32 (Go.bits .and .u8 b.val 15) = b.val - 224 ∧ 224 ≤ (b.val : Int) ∧ (b.val : Int) < 240) ∧ (x.2.2.2.2 = 4 → wrap32 (Go.bits .and .u8 b.val 7) = b.val - 240 ∧ 240 ≤ (b.val : Int) ∧ (b.val : Int) < 245) := by decide +kernel
theorem rows_sec : ∀ x ∈ rowsTab, 2 ≤ x.2.2.2.2 → 128 ≤ x.2.2.1 ∧ x.2.2.2.1 ≤ 191 := by decide
theorem utfD_fit (t : ByteArray) (x : Row5) (hx : x ∈ rowsTab) (hf : fitR t x) : Ev (fun k => utf_Decode.j0 k t x.2.2.2.2 x.2.2.2.2 false) (valU t x.2.2.2.2, x.2.2.2.2, true) := by
  obtain ⟨n0, n1⟩ := rows_n x hx
  have hsz := fitJ_size hf n0
  have h0 := hf 0 (by omega) (by omega)
  have hb0 := bt_range t 0
  unfold fitJ at h0
  rw [if_pos rfl] at h0
  obtain ⟨p1, p2, p3, p4⟩ := fin_byte (P := fun b => ∀ x ∈ rowsTab, x.1 ≤ b → b ≤ x.2.1 →
    (x.2.2.2.2 = 1 → wrap32 (Go.bits .and .u8 b 127) = b) ∧ (x.2.2.2.2 = 2 → wrap32 (Go.bits .and .u8 b 31) = b - 192 ∧ 192 ≤ b ∧ b < 224)
      ∧ (x.2.2.2.2 = 3 → wrap32 (Go.bits .and .u8 b 15) = b - 224 ∧ 224 ≤ b ∧ b < 240) ∧ (x.2.2.2.2 = 4 → wrap32 (Go.bits .and .u8 b 7) = b - 240 ∧ 240 ≤ b ∧ b < 245)) first_all hb0.1 hb0.2 x hx h0.2.1 h0.2.2
  have con (j : Int) (h1 : 1 ≤ j) (h2 : j < x.2.2.2.2) : 128 ≤ bt t j ∧ bt t j ≤ 191 := by
    have hj := hf j (by omega) h2
    unfold fitJ at hj
    rw [if_neg (by omega)] at hj
    by_cases e : j = 1
    · subst e
      rw [if_pos rfl] at hj
      have := rows_sec x hx (by omega)
      omega
    · rw [if_neg e] at hj
      exact hj.2
  have hp : (0 : Int) < t.size := by omega
  obtain h | h | h | h : x.2.2.2.2 = 1 ∨ x.2.2.2.2 = 2 ∨ x.2.2.2.2 = 3 ∨ x.2.2.2.2 = 4 := by omega
  · rw [h]
    refine Ev.step (f := fun k => _) (fun k => by simp only [utf_Decode.j0]; rw [if_neg (by simp), if_pos hp, if_pos (by omega), if_pos (by omega), if_neg (by omega), if_pos trivial, p1 h]) ?_
    refine Glue.ev_cast (utfD_end t _ _ _ (by omega)) (by simp [valU])
  · rw [h] at con
    have c1 := con 1 (by omega) (by omega)
    obtain ⟨e, e1, e2⟩ := p2 h
    rw [h]
    refine Ev.step (f := fun k => _) (fun k => by simp only [utf_Decode.j0]; rw [if_neg (by simp), if_pos hp, if_pos (by omega), if_pos (by omega), if_neg (by omega), if_neg (by omega), if_pos trivial, e]) ?_
    refine utfD_step t _ _ _ _ (by omega) (by omega) (by omega) (by omega) (by omega) (by omega) c1 ?_
    refine Glue.ev_cast (utfD_end t _ _ _ (by omega)) (by simp [valU])
  · rw [h] at con
    have c1 := con 1 (by omega) (by omega)
    have c2 := con 2 (by omega) (by omega)
    obtain ⟨e, e1, e2⟩ := p3 h
    rw [h]
    refine Ev.step (f := fun k => _) (fun k => by simp only [utf_Decode.j0]; rw [if_neg (by simp), if_pos hp, if_pos (by omega), if_pos (by omega), if_neg (by omega), if_neg (by omega), if_neg (by omega), if_pos trivial, e]) ?_
    refine utfD_step t _ _ _ _ (by omega) (by omega) (by omega) (by omega) (by omega) (by omega) c1 ?_
    refine utfD_step t _ _ _ _ (by omega) (by omega) (by omega) (by omega) (by omega) (by omega) c2 ?_
    refine Glue.ev_cast (utfD_end t _ _ _ (by omega)) (by simp [valU])
  · rw [h] at con
    have c1 := con 1 (by omega) (by omega)
    have c2 := con 2 (by omega) (by omega)
    have c3 := con 3 (by omega) (by omega)
    obtain ⟨e, e1, e2⟩ := p4 h
    rw [h]
    refine Ev.step (f := fun k => _) (fun k => by simp only [utf_Decode.j0]; rw [if_neg (by simp), if_pos hp, if_pos (by omega), if_pos (by omega), if_neg (by omega), if_neg (by omega), if_neg (by omega), if_neg (by omega), if_pos trivial, e]) ?_
    refine utfD_step t _ _ _ _ (by omega) (by omega) (by omega) (by omega) (by omega) (by omega) c1 ?_
    refine utfD_step t _ _ _ _ (by omega) (by omega) (by omega) (by omega) (by omega) (by omega) c2 ?_
    rw [show (1 : Int) + 1 = 2 from rfl]
    refine utfD_step t _ _ _ _ (by omega) (by omega) (by omega) (by omega) (by omega) (by omega) c3 ?_
    refine Glue.ev_cast (utfD_end t _ _ _ (by omega)) (by simp [valU])
theorem fitR_shB {t : ByteArray} {x : Row5} (hx : x ∈ rowsTab) (hf : fitR t x) : shB (bt t 0) = (x.2.2.2.2, x.2.2.1, x.2.2.2.1) := by
  have h0 := hf 0 (by omega) (by have := rows_n x hx; omega)
  unfold fitJ at h0
  rw [if_pos rfl] at h0
  exact shB_row (bt_range t 0).1 (bt_range t 0).2 hx h0.2.1 h0.2.2
theorem decO_of {t : ByteArray} {x : Row5} (hx : x ∈ rowsTab) (hf : fitR t x) : decO t = some (valU t x.2.2.2.2, x.2.2.2.2) := by
  unfold decO
  cases h : rowsTab.find? (fitB t) with
  | none =>
    exact absurd ((fitB_iff (rows_n x hx).2).2 hf) (by simpa using List.find?_eq_none.1 h x hx)
  | some y =>
    have hy := List.mem_of_find?_eq_some h
    have hfy := (fitB_iff (rows_n y hy).2).1 (List.find?_some h)
    have e := (fitR_shB hx hf).symm.trans (fitR_shB hy hfy)
    have e1 : x.2.2.2.2 = y.2.2.2.2 := (Prod.mk.inj e).1
    rw [Option.map_some, e1]
theorem decO_none {t : ByteArray} (h : ∀ x ∈ rowsTab, ¬ fitR t x) : decO t = none := by
  unfold decO
  rw [List.find?_eq_none.2 (fun x hx hf => h x hx ((fitB_iff (rows_n x hx).2).1 hf))]
  rfl
theorem utf_Decode_ev (t : ByteArray) : ∃ m, Ev (fun k => utf_Decode.f k t) (ansU (decO t) m) := by
  unfold utf_Decode.f utf_front.f
  have hb0 := bt_range t 0
  have bad (m n : Int) : Ev (fun k => utf_Decode.j0 k t m n true) (0, m, false) := Ev.step (f := fun k => _) (fun k => by simp only [utf_Decode.j0]; rw [if_pos trivial]) (Ev.now _)
  by_cases hz : (t.size : Int) = 0
  · have hn : decO t = none := decO_none (fun x hx hf => by have := fitJ_size hf (rows_n x hx).1; have := (rows_n x hx).1; omega)
    rw [hn]
    refine ⟨0, (Glue.ev_pos hz (Ev.now (0, 0))).bind ?_⟩
    exact Glue.ev_pos rfl (bad 0 0)
  · have hp : (0 : Int) < t.size := by omega
    rcases row_shB hb0.1 hb0.2 with h | ⟨x, hx, h1, h2⟩
    · have hn : decO t = none := decO_none (fun x hx hf => by
        have e := (fitR_shB hx hf).symm.trans h
        have := (Prod.mk.inj e).1
        have := (rows_n x hx).1
        omega)
      rw [hn]
      refine ⟨1, Ev.bind (a := (1, 0)) (Glue.ev_neg hz (Glue.ev_pos hp ((utf_shape_ev hb0.1 hb0.2).bind ?_))) ?_⟩
      · rw [h]
        exact Glue.ev_pos rfl (Ev.now _)
      · exact Glue.ev_pos rfl (bad 1 0)
    · have hs := shB_row hb0.1 hb0.2 hx h1 h2
      obtain ⟨n0, n1⟩ := rows_n x hx
      have f0 : fitJ t x 0 := by
        unfold fitJ
        rw [if_pos rfl]
        exact ⟨hp, h1, h2⟩
      obtain ⟨v, hv, he⟩ := front_l0 t x n1 (x.2.2.2.2 - 1).toNat 1 x.2.2.1 x.2.2.2.1 (by omega) (by omega) (by omega) (fun _ h => by unfold fitJ; rw [if_neg (by omega), if_pos rfl]; simp only [h, true_and])
      have hv0 : Fits t x 0 v := by
        obtain ⟨a1, a2, a3, a4, a5⟩ := hv
        refine ⟨by omega, a2, a3, fun j h3 h4 => ?_, a5⟩
        rcases Int.lt_or_eq_of_le h3 with h | h
        · exact a4 j (by omega) h4
        · exact h ▸ f0
      have hfr : Ev (fun k => if (t.size : Int) = 0 then some ((0 : Int), (0 : Int)) else if 0 < (t.size : Int) then (utf_shape.f k (bt t 0)).bind fun bt110 => (if bt110.1 = 0 then (some (1, 0)) else (utf_front.l0 k t bt110.1 bt110.2.1 bt110.2.2 1)) else none) (v, x.2.2.2.2) := by
        refine Glue.ev_neg hz (Glue.ev_pos hp ((utf_shape_ev hb0.1 hb0.2).bind ?_))
        rw [hs]
        exact Glue.ev_neg (by simp only; omega) he
      by_cases hc : v = x.2.2.2.2
      · have hf := (fits_all hv0).1 hc
        rw [decO_of hx hf]
        refine ⟨0, hfr.bind (Glue.ev_neg (by simp only; omega) ?_)⟩
        simp only
        rw [decide_eq_false (by omega), hc]
        exact utfD_fit t x hx hf
      · have hn : decO t = none := decO_none (fun y hy hf => hc ((fits_all hv0).2 (by
          have e := hs.symm.trans (fitR_shB hy hf)
          have e1 : x.2.2.2.2 = y.2.2.2.2 := (Prod.mk.inj e).1
          have e2 := (Prod.mk.inj e).2
          have e3 : x.2.2.1 = y.2.2.1 := (Prod.mk.inj e2).1
          have e4 : x.2.2.2.1 = y.2.2.2.1 := (Prod.mk.inj e2).2
          intro j hj0 hj1
          have := hf j hj0 (by omega)
          unfold fitJ at this ⊢
          rw [e3, e4]
          by_cases hj : j = 0
          · subst hj
            exact f0
          · rw [if_neg hj] at this ⊢
            exact this)))
        rw [hn]
        have hlt : v < x.2.2.2.2 := by have := hv.2.1; omega
        refine ⟨v, hfr.bind (Glue.ev_neg (by simp only; omega) ?_)⟩
        simp only
        rw [decide_eq_true hlt]
        exact bad v _
abbrev Bs := List UInt8
abbrev lst (s : ByteArray) : Bs := s.data.toList
theorem lst_length (s : ByteArray) : (lst s).length = s.size := by unfold lst; rw [Array.length_toList]; rfl
theorem lst_inj {a b : ByteArray} (h : lst a = lst b) : a = b := by
  obtain ⟨⟨a⟩⟩ := a
  obtain ⟨⟨b⟩⟩ := b
  have h : a = b := h
  subst h
  rfl
theorem lst_append (a b : ByteArray) : lst (a ++ b) = lst a ++ lst b := by simp [lst]
theorem lst_extract (s : ByteArray) (a b : Nat) : lst (s.extract a b) = ((lst s).drop a).take (b - a) := by
  obtain ⟨⟨l⟩⟩ := s
  rw [ByteArray.extract_mk]
theorem lst_tail (s : ByteArray) (a : Nat) : lst (s.extract a s.size) = (lst s).drop a := by
  rw [lst_extract, List.take_of_length_le]
  rw [List.length_drop, lst_length]
  omega
theorem lst_toList (s : ByteArray) : s.toList = lst s := ByteArray.toList_eq s
theorem bt_lst (s : ByteArray) (j : Nat) (h : j < s.size) : ∃ c : UInt8, (lst s)[j]? = some c ∧ bt s (j : Int) = (c.toNat : Int) :=
  ⟨(lst s)[j]'(by rw [lst_length]; exact h), List.getElem?_eq_getElem _, bt_list s j h⟩
theorem drop_cons {l : Bs} {j : Nat} {c : UInt8} (h : l[j]? = some c) : l.drop j = c :: l.drop (j + 1) := by
  obtain ⟨hlt, rfl⟩ := List.getElem?_eq_some_iff.1 h
  exact List.drop_eq_getElem_cons hlt
def hexL (c : UInt8) : Option Nat := (hexv (c.toNat : Int)).map Int.toNat
def escL : Bs → Option UInt8
  | p :: a :: b :: _ => if p = 37 then (hexL a).bind fun x => (hexL b).map fun y => UInt8.ofNat (16 * x + y) else none
  | _ => none
theorem escL_three {l : Bs} {b : UInt8} (h : escL l = some b) : ∃ x y r, l = 37 :: x :: y :: r ∧ (hexL x).isSome = true ∧ (hexL y).isSome = true := by
  unfold escL at h
  split at h
  · rename_i p x y r
    split at h
    · rename_i hp
      subst hp
      refine ⟨x, y, r, rfl, ?_⟩
      cases hx : hexL x with
      | none => rw [hx] at h; cases h
      | some a =>
        cases hy : hexL y with
        | none => rw [hx, hy] at h; cases h
        | some b => exact ⟨rfl, rfl⟩
    · cases h
  · cases h
theorem u8_37 (c : UInt8) : ((c.toNat : Int) = 37) ↔ c = 37 := by
  constructor
  · intro h
    have : c.toNat = (37 : UInt8).toNat := by
      have : (37 : UInt8).toNat = 37 := rfl
      omega
    exact UInt8.toNat_inj.1 this
  · rintro rfl; rfl
theorem hexv_hexL (c : UInt8) : hexv (c.toNat : Int) = (hexL c).map (fun (n : Nat) => (n : Int)) := by
  unfold hexL
  cases h : hexv (c.toNat : Int) with
  | none => rfl
  | some v =>
    have := hexv_range (by omega) (by have := c.toNat_lt; omega) h
    simp only [Option.map_some, Option.some.injEq]
    omega
theorem hexL_range {c : UInt8} {n : Nat} (h : hexL c = some n) : n < 16 := by
  have e := hexv_hexL c
  rw [h] at e
  have := (hexv_range (by omega) (by have := c.toNat_lt; omega) e).2
  simp only at this
  omega
theorem escAt_lst (s : ByteArray) (j : Nat) : escAt s (j : Int) = (escL ((lst s).drop j)).map fun b => (b.toNat : Int) := by
  unfold escAt
  rcases Nat.lt_or_ge s.size (j + 3) with h | h
  · rw [if_neg (by omega)]
    have : ((lst s).drop j).length < 3 := by rw [List.length_drop, lst_length]; omega
    unfold escL
    split
    · rename_i e; rw [e] at this; simp at this; omega
    · rfl
  · obtain ⟨p, h0, b0⟩ := bt_lst s j (by omega)
    obtain ⟨a, h1, b1⟩ := bt_lst s (j + 1) (by omega)
    obtain ⟨b, h2, b2⟩ := bt_lst s (j + 2) (by omega)
    rw [drop_cons h0, drop_cons h1, drop_cons h2]
    have e1 : bt s ((j : Int) + 1) = a.toNat := b1
    have e2 : bt s ((j : Int) + 2) = b.toNat := b2
    rw [b0, e1, e2]
    unfold escL
    simp only
    by_cases hp : p = 37
    · rw [if_pos ⟨by omega, (u8_37 p).2 hp⟩, if_pos hp, hexv_hexL, hexv_hexL]
      cases ha : hexL a with
      | none => rfl
      | some x =>
        cases hb : hexL b with
        | none => rfl
        | some y =>
          have := hexL_range ha
          have := hexL_range hb
          simp only [Option.map_some, Option.bind_some, Option.some.injEq, UInt8.toNat_ofNat']
          omega
    · rw [if_neg (fun h => hp ((u8_37 p).1 h.2)), if_neg hp]
      rfl
def subL (T : UInt8 → Bs → Bs) : Bs → Bs
  | [] => []
  | c :: r => match escL (c :: r) with
    | some b => T b ((c :: r).take 3) ++ subL T (r.drop 2)
    | none => c :: subL T r
termination_by l => l.length
decreasing_by all_goals simp only [List.length_drop, List.length_cons]; omega
theorem subL_nil (T : UInt8 → Bs → Bs) : subL T [] = [] := by unfold subL; rfl
theorem subL_some (T : UInt8 → Bs → Bs) {l : Bs} {b : UInt8} (h : escL l = some b) : subL T l = T b (l.take 3) ++ subL T (l.drop 3) := by
  cases l with
  | nil => cases h
  | cons c r =>
    rw [subL]
    split
    · rename_i x hx
      rw [h] at hx
      injection hx with hx
      subst hx
      rfl
    · rename_i hx; rw [h] at hx; cases hx
theorem subL_none (T : UInt8 → Bs → Bs) {c : UInt8} {r : Bs} (h : escL (c :: r) = none) : subL T (c :: r) = c :: subL T r := by
  rw [subL]
  split
  · rename_i x hx; rw [h] at hx; cases hx
  · rfl
def decL (l : Bs) : Bs := subL (fun b _ => [b]) l
def rightL : Bs → Bool
  | [] => true
  | c :: r => if c = 37 then (escL (c :: r)).isSome && rightL (r.drop 2) else rightL r
termination_by l => l.length
decreasing_by all_goals simp only [List.length_drop, List.length_cons]; omega
theorem rightL_nil : rightL [] = true := by unfold rightL; rfl
theorem rightL_pct (r : Bs) : rightL (37 :: r) = ((escL (37 :: r)).isSome && rightL (r.drop 2)) := by rw [rightL, if_pos rfl]
theorem rightL_other {c : UInt8} (r : Bs) (h : c ≠ 37) : rightL (c :: r) = rightL r := by rw [rightL, if_neg h]
theorem rightI_lst (s : ByteArray) : ∀ (d j : Nat), s.size - j ≤ d → j ≤ s.size → rightI s (j : Int) = rightL ((lst s).drop j)
  | d, j, hd, hj => by
    rcases Nat.lt_or_ge j s.size with h | h
    · obtain ⟨c, hc, hb⟩ := bt_lst s j h
      rw [rightI_step s j (by omega), drop_cons hc, hb]
      match d, hd with
      | 0, hd => omega
      | d + 1, hd =>
        by_cases hp : c = 37
        · subst hp
          rw [if_pos (show ((37 : UInt8).toNat : Int) = 37 from rfl), rightL_pct, escAt_lst, drop_cons hc, Option.isSome_map, List.drop_drop]
          cases he : escL (37 :: (lst s).drop (j + 1)) with
          | none => rfl
          | some b =>
            have h3 : j + 3 ≤ s.size := by
              obtain ⟨x, y, r, e, _⟩ := escL_three he
              have := congrArg List.length e
              simp only [List.length_cons, List.length_drop, lst_length] at this
              omega
            have := rightI_lst s d (j + 3) (by omega) h3
            rw [show j + 1 + 2 = j + 3 by omega, ← this]
            rfl
        · rw [if_neg (fun e => hp ((u8_37 c).1 e)), rightL_other _ hp]
          exact rightI_lst s d (j + 1) (by omega) h
    · rw [rightI_end s j (by omega), List.drop_eq_nil_of_le (by rw [lst_length]; exact h), rightL_nil]
theorem right_lst (s : ByteArray) : right s = rightL (lst s) := by
  have := rightI_lst s s.size 0 (by omega) (by omega)
  unfold right
  simpa using this
def subT (T : Int → ByteArray × Bool) (b : UInt8) (raw : Bs) : Bs := if (T b.toNat).2 = true then lst (T b.toNat).1 else raw
theorem seg_more (L : Bs) (a i n : Nat) (ha : a ≤ i) : (L.drop a).take (i + n - a) = (L.drop a).take (i - a) ++ (L.drop i).take n := by
  rw [show i + n - a = (i - a) + n by omega, List.take_add, List.drop_drop, show a + (i - a) = i by omega]
theorem replF_fold (T : Int → ByteArray × Bool) (s : ByteArray) : ∀ (d i a : Nat) (out : Bs), s.size - i ≤ d → a ≤ i → i ≤ s.size →
    (let r := (escsFrom s (i : Int)).foldl (replStep T s) (out, (a : Int)); r.1 ++ lst (s.extract r.2.toNat s.size)) = out ++ ((lst s).drop a).take (i - a) ++ subL (subT T) ((lst s).drop i)
  | d, i, a, out, hd, ha, hi => by
    rcases Nat.lt_or_ge i s.size with h | h
    · match d, hd with
      | 0, hd => omega
      | d + 1, hd =>
        obtain ⟨c, hc, hb⟩ := bt_lst s i h
        cases he : escL ((lst s).drop i) with
        | some b =>
          have hat : escAt s (i : Int) = some (b.toNat : Int) := by rw [escAt_lst, he]; rfl
          have h3 : i + 3 ≤ s.size := by have := (escAt_range hat).2.2; omega
          rw [escsFrom_some s i b.toNat (by omega) (by omega) hat, List.foldl_cons]
          have step : replStep T s (out, (a : Int)) ((i : Int), (b.toNat : Int)) = if (T b.toNat).2 = true then (out ++ ((lst s).drop a).take (i - a) ++ lst (T b.toNat).1, ((i + 3 : Nat) : Int)) else (out, (a : Int)) := by
            unfold replStep
            simp only [Int.toNat_natCast]
            split
            · rw [show (s.extract a i).data.toList = lst (s.extract a i) from rfl, lst_extract]
              rfl
            · rfl
          rw [step, show ((i : Int) + 3) = ((i + 3 : Nat) : Int) by omega, subL_some _ he, List.drop_drop]
          by_cases hT : (T b.toNat).2 = true
          · rw [if_pos hT, replF_fold T s d (i + 3) (i + 3) _ (by omega) (by omega) h3]
            simp only [Nat.sub_self, List.take_zero, List.append_nil, subT, if_pos hT, List.append_assoc]
          · rw [if_neg hT, replF_fold T s d (i + 3) a _ (by omega) (by omega) h3]
            simp only [subT, if_neg hT]
            rw [seg_more _ a i 3 ha]
            simp only [List.append_assoc]
        | none =>
          have hat : escAt s (i : Int) = none := by rw [escAt_lst, he]; rfl
          rw [escsFrom_none s i (by omega) (by omega) hat, show ((i : Int) + 1) = ((i + 1 : Nat) : Int) by omega, replF_fold T s d (i + 1) a _ (by omega) (by omega) (by omega), seg_more _ a i 1 ha]
          rw [drop_cons hc] at he ⊢
          rw [subL_none _ he]
          simp
    · have : i = s.size := by omega
      subst this
      have e0 : (lst s).drop s.size = [] := List.drop_eq_nil_of_le (by rw [lst_length]; exact Nat.le_refl _)
      rw [escsFrom_end s _ (by omega), e0, subL_nil]
      simp only [List.foldl_nil, Int.toNat_natCast, List.append_nil]
      rw [lst_tail, List.take_of_length_le]
      rw [List.length_drop, lst_length]
      omega
theorem replF_lst (T : Int → ByteArray × Bool) (s : ByteArray) : lst (replF T s) = subL (subT T) (lst s) := by
  have := replF_fold T s s.size 0 0 [] (by omega) (by omega) (by omega)
  simp only [List.nil_append, List.drop_zero, Nat.sub_self, List.take_zero] at this
  rw [← this]
  unfold replF replTo escs
  rw [List.take_length]
  rfl
theorem strOfNums_one (b : UInt8) : lst (strOfNums [(b.toNat : Int)]) = [b] := by
  have := strOfNums_bytes [b]
  simp only [List.map_cons, List.map_nil] at this
  rw [this]
theorem decT_lst : subT decT = fun b _ => [b] := by
  funext b raw
  unfold subT decT
  rw [if_pos rfl, strOfNums_one]
def mkB (l : Bs) : ByteArray := ⟨l.toArray⟩
theorem lst_mkB (l : Bs) : lst (mkB l) = l := rfl
theorem mkB_lst (s : ByteArray) : mkB (lst s) = s := lst_inj (lst_mkB _)
theorem mkB_eq {s : ByteArray} {l : Bs} (h : lst s = l) : s = mkB l := lst_inj h
theorem size_lst (s : ByteArray) : s.size = (lst s).length := (lst_length s).symm
theorem w64_3 (j : Nat) (h : j ≤ 140737488355328) : wrap64 ((j : Int) + 3) = ((j + 3 : Nat) : Int) := by rw [w64 _ (by omega) (by omega)]; omega
def splitW (c : UInt8) : Bs → Bs → List Bs
  | a, [] => [a]
  | a, x :: r => if x = c then a :: splitW c [] r else splitW c (a ++ [x]) r
def splitL (c : UInt8) (l : Bs) : List Bs := splitW c [] l
theorem splitW_begun (c : UInt8) : ∀ (l a b : Bs), ∃ h t, splitW c b l = (b ++ h) :: t ∧ splitW c (a ++ b) l = (a ++ (b ++ h)) :: t
  | [], a, b => ⟨[], [], by simp [splitW], by simp [splitW]⟩
  | x :: r, a, b => by
    unfold splitW
    by_cases h : x = c
    · rw [if_pos h, if_pos h]
      exact ⟨[], _, by simp; rfl, by simp⟩
    · rw [if_neg h, if_neg h]
      obtain ⟨h1, t1, e1, e2⟩ := splitW_begun c r a (b ++ [x])
      exact ⟨x :: h1, t1, by rw [e1]; simp, by rw [List.append_assoc, e2]; simp⟩
theorem index_one_hit (c : UInt8) (r : Bs) : Lib.index (c :: r) [c] = 0 := by simp [Lib.index]
theorem index_one_miss {b c : UInt8} (r : Bs) (h : b ≠ c) : Lib.index (b :: r) [c] = if Lib.index r [c] = -1 then -1 else Lib.index r [c] + 1 := by
  have : (List.isPrefixOf [c] (b :: r)) = false := by simp [List.isPrefixOf]; exact fun e => h e.symm
  rw [Lib.index, if_neg (by rw [this]; simp)]
  simp only [beq_iff_eq]
theorem splitK_one (c : UInt8) : ∀ (s : Bs), Lib.splitK [c] 0 (Lib.count s [c]) s = splitL c s
  | [] => by
    rw [Lib.count_miss (by simp [Lib.index])]
    rfl
  | b :: r => by
    have ih := splitK_one c r
    unfold splitL at ih ⊢
    by_cases h : b = c
    · subst h
      rw [Lib.count_hit (i := 0) (by simp) (index_one_hit b r), Nat.add_comm, Lib.splitK, index_one_hit]
      rw [if_neg (by simp)]
      rw [splitW, if_pos rfl]
      simp only [Nat.zero_add, List.length_cons, List.length_nil, List.drop_succ_cons, List.drop_zero, Int.toNat_zero, Nat.add_zero, List.take_zero]
      rw [ih]
    · rw [splitW, if_neg h, List.nil_append]
      have e1 := index_one_miss r h
      by_cases hm : Lib.index r [c] = -1
      · rw [if_pos hm] at e1
        rw [Lib.count_miss e1]
        rw [Lib.count_miss hm] at ih
        obtain ⟨x, t, e2, e3⟩ := splitW_begun c r [b] []
        rw [e2] at ih
        simp only [List.append_nil, List.nil_append] at e3 ih
        have ih : [r] = x :: t := ih
        injection ih with i1 i2
        subst i1
        subst i2
        rw [e3]
        rfl
      · rw [if_neg hm] at e1
        have hge := Lib.index_ge r [c]
        obtain ⟨i, hi⟩ : ∃ i : Nat, Lib.index r [c] = i := ⟨(Lib.index r [c]).toNat, by omega⟩
        rw [hi] at e1
        have e1' : Lib.index (b :: r) [c] = ((i + 1 : Nat) : Int) := by rw [e1]; omega
        rw [Lib.count_hit (by simp) e1', Nat.add_comm, Lib.splitK, e1', if_neg (by simp <;> omega)]
        rw [Lib.count_hit (by simp) hi, Nat.add_comm, Lib.splitK, hi, if_neg (by simp <;> omega)] at ih
        obtain ⟨x, t, e2, e3⟩ := splitW_begun c r [b] []
        rw [e2] at ih
        simp only [List.append_nil, List.nil_append, Int.toNat_natCast, Nat.add_zero, List.length_cons, List.length_nil] at e3 ih ⊢
        injection ih with i1 i2
        rw [e3]
        rw [List.take_succ_cons, i1, ← i2]
        rfl
theorem splitB_lst (c : UInt8) (s sep : ByteArray) (hs : lst sep = [c]) : (Lib.splitB sep 0 (Lib.countB s sep) s).map lst = splitL c (lst s) := by
  rw [← splitK_one, ← hs]
  exact Lib.splitB_data sep 0 _ s
def mayB (p : Int) (iri : Bool) (r : Int) : Bool := if 0 ≤ r ∧ r < 128 then plainB p r else iri && (comB r || (decide (p = 6) && privB r))
theorem extra_ok {p : Int} (h0 : 1 ≤ p) (h1 : p < 8) : ∃ x, lexis_extra.f p = some (x, true) := by
  unfold lexis_extra.f
  repeat' split
  all_goals first | exact ⟨_, rfl⟩ | omega
theorem lexis_May_ev {p : Int} (h0 : 1 ≤ p) (h1 : p < 8) (iri : Bool) (r : Int) : Ev (fun k => lexis_May.f k p iri r) (mayB p iri r) := by
  obtain ⟨x, hx⟩ := extra_ok h0 h1
  have far (h : ¬ (0 ≤ r ∧ r < 128)) : Ev (fun k => lexis_May.j0 k p iri r false) (mayB p iri r) := by
    unfold mayB
    rw [if_neg h]
    refine Ev.step (f := fun k => _) (fun k => by simp only [lexis_May.j0]; rw [if_neg (by simp), hx, Option.bind_some, if_pos rfl]) ?_
    cases iri with
    | false => exact Ev.step (f := fun k => _) (fun k => by simp only [lexis_May.j1]; rw [if_pos (by rfl)]; rfl) (Ev.now _)
    | true =>
      refine Ev.step (f := fun k => _) (fun k => by simp only [lexis_May.j1]; rw [if_neg (by simp)]) ?_
      refine (lexis_Common_ev r).bind ?_
      cases comB r with
      | true => exact Glue.ev_pos rfl (Ev.now _)
      | false =>
        refine Glue.ev_neg (by simp) ?_
        by_cases h6 : p = 6
        · exact Glue.ev_pos h6 ((lexis_Private_ev r).bind (Glue.ev_cast (Ev.now _) (by simp [h6])))
        · exact Glue.ev_neg h6 (Glue.ev_cast (Ev.now _) (by simp [h6]))
  unfold lexis_May.f
  by_cases h : r ≥ 0
  · refine Glue.ev_pos h ?_
    by_cases h2 : r < 128
    · rw [decide_eq_true h2]
      refine Ev.step (f := fun k => _) (fun k => by simp only [lexis_May.j0]; rw [if_pos trivial, show r % 256 = r by omega]) ?_
      refine (lexis_Plain_ev (p := p) (b := r) (by omega) h1 h (by omega)).bind (Glue.ev_cast (Ev.now _) ?_)
      unfold mayB
      rw [if_pos ⟨h, h2⟩]
    · rw [decide_eq_false h2]
      exact far (by omega)
  · exact Glue.ev_neg h (far (by omega))
theorem decO_range {t : ByteArray} {r n : Int} (h : decO t = some (r, n)) : 1 ≤ n ∧ n ≤ 4 ∧ n ≤ t.size := by
  unfold decO at h
  cases hf : rowsTab.find? (fitB t) with
  | none => rw [hf] at h; cases h
  | some x =>
    rw [hf] at h
    have hx := List.mem_of_find?_eq_some hf
    have hr := rows_n x hx
    have hs := fitJ_size ((fitB_iff hr.2).1 (List.find?_some hf)) hr.1
    simp only [Option.map_some, Option.some.injEq, Prod.mk.injEq] at h
    omega
def stepL (p : Int) (iri : Bool) (l : Bs) : Nat := match escL l with
  | some _ => 3
  | none => match decO (mkB l) with
    | some x => if mayB p iri x.1 = true then x.2.toNat else 0
    | none => 0
theorem stepL_le (p : Int) (iri : Bool) (l : Bs) : stepL p iri l ≤ l.length := by
  unfold stepL
  split
  · rename_i b h
    obtain ⟨x, y, r, e, _⟩ := escL_three h
    rw [e]
    simp
  · split
    · rename_i x h
      have := decO_range (r := x.1) (n := x.2) h
      have e : (mkB l).size = l.length := by rw [size_lst]; rfl
      split <;> omega
    · omega
def spanL (p : Int) (iri : Bool) (l : Bs) : Nat := if h : 0 < stepL p iri l then stepL p iri l + spanL p iri (l.drop (stepL p iri l)) else 0
termination_by l.length
decreasing_by
  have := stepL_le p iri l
  rw [List.length_drop]
  omega
theorem spanL_go {p : Int} {iri : Bool} {l : Bs} (h : 0 < stepL p iri l) : spanL p iri l = stepL p iri l + spanL p iri (l.drop (stepL p iri l)) := by
  rw [spanL, dif_pos h]
theorem spanL_stop {p : Int} {iri : Bool} {l : Bs} (h : ¬ 0 < stepL p iri l) : spanL p iri l = 0 := by
  rw [spanL, dif_neg h]
theorem stepL_nil (p : Int) (iri : Bool) : stepL p iri [] = 0 := by
  have := stepL_le p iri []
  simpa using this
theorem tail_mkB (s : ByteArray) (j : Nat) : s.extract ((j : Int)).toNat s.size = mkB ((lst s).drop j) := by
  rw [Int.toNat_natCast]
  exact mkB_eq (lst_tail s j)
theorem lexis_Span_l0 {p : Int} (h0 : 1 ≤ p) (h1 : p < 8) (iri : Bool) (s : ByteArray) (hs : s.size ≤ 140737488355328) : ∀ (d j : Nat), s.size - j ≤ d → j ≤ s.size →
    Ev (fun k => lexis_Span.l0 k p iri s (j : Int)) ((j + spanL p iri ((lst s).drop j) : Nat) : Int)
  | d, j, hd, hj => by
    rcases Nat.lt_or_ge j s.size with h | h
    · match d, hd with
      | 0, hd => omega
      | d + 1, hd =>
        obtain ⟨x, hx⟩ := extra_ok h0 h1
        refine Ev.step (f := fun k => _) (fun k => by simp only [lexis_Span.l0]; rw [if_pos (by omega), hx, Option.bind_some, if_pos rfl]) ?_
        refine Ev.bind (Glue.ev_at (K := 10) (fun k hk => escape_At_spec s hs (j : Int) (by omega) (by omega) k hk)) ?_
        have hat := escAt_lst s j
        cases he : escL ((lst s).drop j) with
        | some b =>
          rw [he] at hat
          have h3 := (escAt_range hat).2.2
          rw [hat]
          simp only [Option.map_some]
          refine Glue.ev_pos trivial ?_
          rw [w64_3 j (by omega)]
          have st : stepL p iri ((lst s).drop j) = 3 := by unfold stepL; rw [he]
          refine Glue.ev_cast (lexis_Span_l0 h0 h1 iri s hs d (j + 3) (by omega) (by omega)) ?_
          rw [spanL_go (l := (lst s).drop j) (by omega), st, List.drop_drop]
          omega
        | none =>
          rw [he] at hat
          rw [hat]
          simp only [Option.map_none]
          refine Glue.ev_neg (by simp) (Glue.ev_pos (by omega) (Glue.ev_pos (by omega) ?_))
          rw [tail_mkB]
          obtain ⟨m, hm⟩ := utf_Decode_ev (mkB ((lst s).drop j))
          refine hm.bind ?_
          cases hdc : decO (mkB ((lst s).drop j)) with
          | none =>
            refine Glue.ev_neg (by simp [ansU]) (Glue.ev_cast (Ev.now _) ?_)
            have st : stepL p iri ((lst s).drop j) = 0 := by unfold stepL; rw [he]; simp only [hdc]
            rw [spanL_stop (by omega)]
            rfl
          | some x =>
            obtain ⟨n1, n2, n3⟩ := decO_range (r := x.1) (n := x.2) hdc
            have e : ((mkB ((lst s).drop j)).size : Int) = s.size - j := by
              rw [size_lst, lst_mkB, List.length_drop, lst_length]
              omega
            refine Glue.ev_pos (by simp [ansU]) ((lexis_May_ev h0 h1 iri x.1).bind ?_)
            cases hmay : mayB p iri x.1 with
            | false =>
              refine Glue.ev_neg (by simp) (Glue.ev_cast (Ev.now _) ?_)
              have st : stepL p iri ((lst s).drop j) = 0 := by unfold stepL; rw [he]; simp only [hdc, hmay]; simp
              rw [spanL_stop (by omega)]
              rfl
            | true =>
              refine Glue.ev_pos rfl ?_
              have st : stepL p iri ((lst s).drop j) = x.2.toNat := by unfold stepL; rw [he]; simp only [hdc, hmay]; simp
              have w : wrap64 ((j : Int) + (ansU (some x) m).2.1) = ((j + x.2.toNat : Nat) : Int) := by
                show wrap64 ((j : Int) + x.2) = _
                rw [w64 _ (by omega) (by omega)]
                omega
              rw [w]
              refine Glue.ev_cast (lexis_Span_l0 h0 h1 iri s hs d (j + x.2.toNat) (by omega) (by omega)) ?_
              rw [spanL_go (l := (lst s).drop j) (by omega), st, List.drop_drop]
              omega
    · have : j = s.size := by omega
      subst this
      have e0 : (lst s).drop s.size = [] := List.drop_eq_nil_of_le (by rw [lst_length]; exact Nat.le_refl _)
      rw [e0, spanL_stop (by rw [stepL_nil]; omega)]
      exact Ev.step (f := fun k => _) (fun k => by simp only [lexis_Span.l0]; rw [if_neg (by omega)]; rfl) (Ev.now _)
theorem lexis_Span_ev {p : Int} (h0 : 1 ≤ p) (h1 : p < 8) (iri : Bool) (s : ByteArray) (hs : s.size ≤ 140737488355328) : Ev (fun k => lexis_Span.f k p iri s) (spanL p iri (lst s) : Int) := by
  have := lexis_Span_l0 h0 h1 iri s hs s.size 0 (by omega) (by omega)
  rw [Nat.zero_add, List.drop_zero] at this
  exact this
theorem lexis_All_ev {p : Int} (h0 : 1 ≤ p) (h1 : p < 8) (iri : Bool) (s : ByteArray) (hs : s.size ≤ 140737488355328) : Ev (fun k => lexis_All.f k p iri s) (decide (spanL p iri (lst s) = s.size)) := by
  unfold lexis_All.f
  refine (lexis_Span_ev h0 h1 iri s hs).bind (Glue.ev_cast (Ev.now _) ?_)
  rw [Bool.eq_iff_iff, beq_iff_eq, decide_eq_true_eq]
  omega
theorem plain_pct_all : ∀ p : Fin 8, plainB p.val 37 = false := by decide +kernel
theorem plain_pct {p : Int} (h0 : 0 ≤ p) (h1 : p < 8) : plainB p 37 = false := by
  have := plain_pct_all ⟨p.toNat, by omega⟩
  simpa only [Int.toNat_of_nonneg h0] using this
theorem row_first : ∀ x ∈ rowsTab, (x.2.2.2.2 = 1 ∧ x.2.1 = 127) ∨ 128 ≤ x.1 := by decide
theorem decO_bytes {t : ByteArray} {r n : Int} (h : decO t = some (r, n)) : (n = 1 ∧ r = bt t 0 ∧ bt t 0 < 128) ∨ ∀ j, 0 ≤ j → j < n → 128 ≤ bt t j := by
  unfold decO at h
  cases hf : rowsTab.find? (fitB t) with
  | none => rw [hf] at h; cases h
  | some x =>
    rw [hf] at h
    have hx := List.mem_of_find?_eq_some hf
    have hr := rows_n x hx
    have hfit := (fitB_iff hr.2).1 (List.find?_some hf)
    simp only [Option.map_some, Option.some.injEq, Prod.mk.injEq] at h
    obtain ⟨rfl, rfl⟩ := h
    have h0 := hfit 0 (by omega) (by omega)
    unfold fitJ at h0
    rw [if_pos rfl] at h0
    rcases row_first x hx with ⟨h1, h2⟩ | h1
    · refine .inl ⟨h1, ?_, by omega⟩
      unfold valU
      rw [if_pos h1]
    · refine .inr (fun j hj0 hj1 => ?_)
      have hj := hfit j hj0 hj1
      unfold fitJ at hj
      by_cases e : j = 0
      · subst e
        omega
      · rw [if_neg e] at hj
        by_cases e1 : j = 1
        · subst e1
          rw [if_pos rfl] at hj
          have := rows_sec x hx (by omega)
          omega
        · rw [if_neg e1] at hj
          omega
theorem bt_mkB (l : Bs) (j : Nat) (h : j < l.length) : bt (mkB l) (j : Int) = ((l[j]'h).toNat : Int) := bt_list (mkB l) j h
theorem rightL_skip : ∀ (n : Nat) (l : Bs), n ≤ l.length → (∀ j (h : j < l.length), j < n → l[j] ≠ 37) → rightL l = rightL (l.drop n)
  | 0, l, _, _ => rfl
  | n + 1, [], h, _ => absurd h (by simp)
  | n + 1, c :: r, h, hn => by
    have h0 : c ≠ 37 := hn 0 (by simp) (by omega)
    rw [rightL_other r h0, List.drop_succ_cons]
    exact rightL_skip n r (by simpa using h) (fun j hj hjn => by have := hn (j + 1) (by simpa using hj) (by omega); simpa using this)
theorem span_right {p : Int} (h0 : 1 ≤ p) (h1 : p < 8) (iri : Bool) : ∀ (d : Nat) (l : Bs), l.length ≤ d → spanL p iri l = l.length → rightL l = true
  | d, [], _, _ => rightL_nil
  | 0, c :: r, hd, _ => absurd hd (by simp)
  | d + 1, c :: r, hd, h => by
    by_cases hz : 0 < stepL p iri (c :: r)
    · have hle := stepL_le p iri (c :: r)
      rw [spanL_go hz] at h
      have ih := span_right h0 h1 iri d ((c :: r).drop (stepL p iri (c :: r))) (by rw [List.length_drop]; simp at hd ⊢; omega) (by rw [List.length_drop]; omega)
      cases he : escL (c :: r) with
      | some b =>
        have st : stepL p iri (c :: r) = 3 := by unfold stepL; rw [he]
        rw [st] at ih
        obtain ⟨x, y, q, e, _⟩ := escL_three he
        injection e with e1 e2
        subst e1
        rw [rightL_pct, he]
        exact ih
      | none =>
        cases hdc : decO (mkB (c :: r)) with
        | none =>
          have st : stepL p iri (c :: r) = 0 := by unfold stepL; rw [he]; simp only [hdc]
          omega
        | some x =>
          cases hmay : mayB p iri x.1 with
          | false =>
            have st : stepL p iri (c :: r) = 0 := by unfold stepL; rw [he]; simp only [hdc, hmay]; simp
            omega
          | true =>
            have st : stepL p iri (c :: r) = x.2.toNat := by unfold stepL; rw [he]; simp only [hdc, hmay]; simp
            rw [st] at ih hle
            rw [rightL_skip x.2.toNat (c :: r) hle (fun j hj hjn e => ?_)]
            · exact ih
            · have hb := bt_mkB (c :: r) j hj
              rw [e] at hb
              rcases decO_bytes (r := x.1) (n := x.2) hdc with ⟨n1, r1, l1⟩ | hall
              · have : j = 0 := by omega
                subst this
                have e37 : x.1 = 37 := by rw [r1]; exact hb
                unfold mayB at hmay
                rw [e37, if_pos (by omega), plain_pct (by omega) h1] at hmay
                cases hmay
              · have := hall j (by omega) (by omega)
                rw [hb] at this
                have : ((37 : UInt8).toNat : Int) = 37 := rfl
                omega
    · rw [spanL_stop hz] at h
      simp at h
theorem hexL_47 : hexL 47 = none := by decide +kernel
theorem escL_eq (p a b : UInt8) (r : Bs) : escL (p :: a :: b :: r) = if p = 37 then (hexL a).bind fun x => (hexL b).map fun y => UInt8.ofNat (16 * x + y) else none := rfl
theorem escL_cut (x : UInt8) (hx : hexL x = none) (r : Bs) : escL [37] = none ∧ (∀ y, escL [37, y] = none) ∧ escL (37 :: x :: r) = none ∧ ∀ y, escL (37 :: y :: x :: r) = none := by
  refine ⟨rfl, fun y => rfl, ?_, fun y => ?_⟩
  · cases r with
    | nil => rfl
    | cons z r => rw [escL_eq, if_pos rfl, hx]; rfl
  · rw [escL_eq, if_pos rfl, hx]
    cases hexL y <;> rfl
theorem escL_first (a b c : UInt8) (r q : Bs) : escL (a :: b :: c :: r) = escL (a :: b :: c :: q) := rfl
theorem rightL_cut (x : UInt8) (hx : hexL x = none) (h37 : x ≠ 37) (r : Bs) : ∀ (d : Nat) (a : Bs), a.length ≤ d → rightL (a ++ x :: r) = (rightL a && rightL r)
  | d, [], _ => by rw [List.nil_append, rightL_other r h37, rightL_nil, Bool.true_and]
  | 0, c :: a, hd => absurd hd (by simp)
  | d + 1, c :: a, hd => by
    obtain ⟨e1, e2, e3, e4⟩ := escL_cut x hx r
    by_cases hc : c = 37
    · subst hc
      match a, hd with
      | [], _ => rw [List.cons_append, List.nil_append, rightL_pct, rightL_pct, e1, e3]; simp
      | [y], _ => rw [List.cons_append, List.cons_append, List.nil_append, rightL_pct, rightL_pct, e2, e4]; simp
      | y :: z :: a, hd =>
        rw [List.cons_append, List.cons_append, List.cons_append, rightL_pct, rightL_pct, escL_first 37 y z (a ++ x :: r) a]
        simp only [List.drop_succ_cons, List.drop_zero]
        rw [rightL_cut x hx h37 r d a (by simp at hd; omega), Bool.and_assoc]
    · rw [List.cons_append, rightL_other _ hc, rightL_other _ hc]
      exact rightL_cut x hx h37 r d a (by simp at hd; omega)
theorem splitW_right (x : UInt8) (hx : hexL x = none) (h37 : x ≠ 37) : ∀ (l a : Bs), rightL (a ++ l) = true → ∀ y ∈ splitW x a l, rightL y = true
  | [], a, h, y, hy => by
    simp only [splitW, List.mem_singleton] at hy
    rw [hy]
    simpa using h
  | c :: r, a, h, y, hy => by
    rw [splitW] at hy
    by_cases hc : c = x
    · subst hc
      rw [rightL_cut c hx h37 r a.length a (Nat.le_refl _), Bool.and_eq_true] at h
      rw [if_pos rfl, List.mem_cons] at hy
      rcases hy with rfl | hy
      · exact h.1
      · exact splitW_right c hx h37 r [] h.2 y hy
    · rw [if_neg hc] at hy
      exact splitW_right x hx h37 r (a ++ [c]) (by simpa using h) y hy
theorem splitL_right {l : Bs} (h : rightL l = true) : ∀ y ∈ splitL 47 l, rightL y = true := splitW_right 47 hexL_47 (by decide) l [] h
theorem splitW_none (c : UInt8) : ∀ (l a : Bs), c ∉ l → splitW c a l = [a ++ l]
  | [], a, _ => by simp [splitW]
  | x :: r, a, h => by
    have h1 : x ≠ c := fun e => h (by simp [e])
    rw [splitW, if_neg h1, splitW_none c r _ (fun e => h (by simp [e]))]
    simp
theorem splitW_app (c : UInt8) (r : Bs) : ∀ (l a : Bs), c ∉ l → splitW c a (l ++ c :: r) = (a ++ l) :: splitW c [] r
  | [], a, _ => by rw [List.nil_append, splitW, if_pos rfl]; simp
  | x :: l, a, h => by
    have h1 : x ≠ c := fun e => h (by simp [e])
    rw [List.cons_append, splitW, if_neg h1, splitW_app c r l _ (fun e => h (by simp [e]))]
    simp
theorem join_more (x y : Bs) (xs : List Bs) (sep : Bs) : Lib.join (x :: y :: xs) sep = x ++ (sep ++ Lib.join (y :: xs) sep) := by
  simp [Lib.join, List.intercalate]
theorem split_join (c : UInt8) : ∀ (xs : List Bs), xs ≠ [] → (∀ x ∈ xs, c ∉ x) → splitL c (Lib.join xs [c]) = xs
  | [], h, _ => absurd rfl h
  | [x], _, h => by
    rw [Lib.join_one]
    exact splitW_none c x [] (h x (by simp))
  | x :: y :: xs, _, h => by
    rw [join_more]
    have ih := split_join c (y :: xs) (by simp) (fun z hz => h z (by simp [hz]))
    unfold splitL at ih ⊢
    rw [show x ++ ([c] ++ Lib.join (y :: xs) [c]) = x ++ c :: Lib.join (y :: xs) [c] from rfl, splitW_app c _ x [] (h x (by simp)), ih]
    rfl
def keepB (c : UInt8) : Bool := isC c.toNat 15 || c == 58 || c == 64
def encC (c : UInt8) : Bs := if keepB c = true then [c] else lst (ofB c.toNat)
def encL (l : Bs) : Bs := l.flatMap encC
def okEnc (c : UInt8) : Bool := if keepB c = true then c != 37 && c != 47 && plainB 5 c.toNat && decide (c.toNat < 128) else match lst (ofB c.toNat) with
  | [p, x, y] => p == 37 && escL [p, x, y] == some c && x != 47 && y != 47
  | _ => false
theorem okEnc_all : ∀ b : Fin 256, okEnc (UInt8.ofNat b.val) = true := by decide +kernel
theorem okEnc_ok (c : UInt8) : okEnc c = true := by
  have := okEnc_all ⟨c.toNat, c.toNat_lt⟩
  simpa using this
theorem encC_two (c : UInt8) : (encC c = [c] ∧ c ≠ 37 ∧ c ≠ 47 ∧ plainB 5 c.toNat = true ∧ c.toNat < 128) ∨ ∃ x y, encC c = [37, x, y] ∧ (∀ r, escL (37 :: x :: y :: r) = some c) ∧ x ≠ 47 ∧ y ≠ 47 := by
  have h := okEnc_ok c
  unfold okEnc at h
  unfold encC
  by_cases hk : keepB c = true
  · rw [if_pos hk] at h ⊢
    simp only [Bool.and_eq_true, bne_iff_ne, ne_eq, decide_eq_true_eq] at h
    exact .inl ⟨rfl, h.1.1.1, h.1.1.2, h.1.2, h.2⟩
  · rw [if_neg hk] at h ⊢
    split at h
    · rename_i p x y e
      simp only [Bool.and_eq_true, bne_iff_ne, ne_eq, beq_iff_eq] at h
      obtain ⟨⟨⟨rfl, h2⟩, h3⟩, h4⟩ := h
      exact .inr ⟨x, y, e, fun r => by rw [← h2]; rfl, h3, h4⟩
    · cases h
theorem encL_cons (c : UInt8) (r : Bs) : encL (c :: r) = encC c ++ encL r := by simp [encL]
theorem escL_other {c : UInt8} (r : Bs) (h : c ≠ 37) : escL (c :: r) = none := by
  unfold escL
  split
  · rename_i e
    injection e with e1 e2
    rw [if_neg (by rw [← e1]; exact h)]
  · rfl
theorem encL_dec (r : Bs) : ∀ (l : Bs), decL (encL l ++ r) = l ++ decL r
  | [] => rfl
  | c :: l => by
    rw [encL_cons, List.append_assoc]
    have ih := encL_dec r l
    unfold decL at ih ⊢
    rcases encC_two c with ⟨e, h, _⟩ | ⟨x, y, e, h, _⟩
    · rw [e, List.cons_append, List.nil_append, subL_none _ (escL_other _ h), ih]
      rfl
    · rw [e]
      show subL _ (37 :: x :: y :: (encL l ++ r)) = _
      rw [subL_some _ (h _)]
      show [c] ++ subL _ (encL l ++ r) = _
      rw [ih]
      rfl
theorem encL_no (l : Bs) : (47 : UInt8) ∉ encL l := by
  unfold encL
  rw [List.mem_flatMap]
  rintro ⟨c, _, h⟩
  rcases encC_two c with ⟨e, _, h47, _⟩ | ⟨x, y, e, _, hx, hy⟩
  · rw [e, List.mem_singleton] at h
    exact h47 h.symm
  · rw [e] at h
    simp only [List.mem_cons, List.not_mem_nil, or_false] at h
    rcases h with h | h | h
    · exact absurd h (by decide)
    · exact hx h.symm
    · exact hy h.symm
theorem encC_length (c : UInt8) : 1 ≤ (encC c).length ∧ (encC c).length ≤ 3 := by
  rcases encC_two c with ⟨e, _⟩ | ⟨x, y, e, _⟩ <;> rw [e] <;> simp
theorem encL_length : ∀ (l : Bs), (encL l).length ≤ 3 * l.length
  | [] => by simp [encL]
  | c :: l => by
    have := encL_length l
    have := encC_length c
    rw [encL_cons, List.length_append, List.length_cons]
    omega
theorem decO_one (c : UInt8) (r : Bs) (h : c.toNat < 128) : decO (mkB (c :: r)) = some ((c.toNat : Int), 1) := by
  have hb : bt (mkB (c :: r)) 0 = c.toNat := bt_mkB (c :: r) 0 (by simp)
  have hs : ((mkB (c :: r)).size : Int) = r.length + 1 := by rw [size_lst, lst_mkB]; simp
  have := decO_of (t := mkB (c :: r)) (x := (0, 127, 0, 0, 1)) (by decide) (by
    intro j h0 h1
    have h1 : j < 1 := h1
    have : j = 0 := by omega
    subst this
    unfold fitJ
    rw [if_pos rfl, hb]
    exact ⟨by omega, by simp only; omega, by simp only; omega⟩)
  rw [this]
  simp [valU, hb]
theorem step_plain {p : Int} (iri : Bool) {c : UInt8} (r : Bs) (h37 : c ≠ 37) (hc : c.toNat < 128) (hp : plainB p c.toNat = true) : stepL p iri (c :: r) = 1 := by
  unfold stepL
  rw [escL_other r h37]
  simp only [decO_one c r hc]
  have : mayB p iri (c.toNat : Int) = true := by
    unfold mayB
    rw [if_pos (by omega), hp]
  rw [if_pos this]
  rfl
theorem encL_span (r : Bs) : ∀ (l : Bs), spanL 5 true (encL l ++ r) = (encL l).length + spanL 5 true r
  | [] => by simp [encL]
  | c :: l => by
    rw [encL_cons, List.append_assoc]
    have ih := encL_span r l
    rcases encC_two c with ⟨e, h, _, hp, hc⟩ | ⟨x, y, e, h, _⟩
    · rw [e, List.cons_append, List.nil_append]
      have st := step_plain (p := 5) true (encL l ++ r) h hc hp
      rw [spanL_go (by omega), st, List.drop_succ_cons, List.drop_zero, ih]
      simp
      omega
    · rw [e]
      show spanL 5 true (37 :: x :: y :: (encL l ++ r)) = _
      have st : stepL 5 true (37 :: x :: y :: (encL l ++ r)) = 3 := by unfold stepL; rw [h]
      rw [spanL_go (by omega), st]
      show 3 + spanL 5 true (encL l ++ r) = _
      rw [ih]
      simp
      omega
theorem plain_47 : plainB 5 ((47 : UInt8).toNat : Int) = true := by decide +kernel
theorem slash_span (r : Bs) : spanL 5 true (47 :: r) = 1 + spanL 5 true r := by
  have st := step_plain (p := 5) (c := 47) true r (by decide) (by decide) plain_47
  rw [spanL_go (by omega), st]
  rfl
def txtL (rooted : Bool) (l : List Bs) : Bs := (if rooted = true then [47] else []) ++ Lib.join (l.map encL) [47]
theorem join_span : ∀ (l : List Bs), spanL 5 true (Lib.join (l.map encL) [47]) = (Lib.join (l.map encL) [47]).length
  | [] => by rw [List.map_nil, Lib.join_nil, spanL_stop (by rw [stepL_nil]; omega)]; rfl
  | [x] => by
    rw [List.map_cons, List.map_nil, Lib.join_one]
    have := encL_span [] x
    rw [List.append_nil, spanL_stop (l := []) (by rw [stepL_nil]; omega)] at this
    exact this
  | x :: y :: l => by
    have ih := join_span (y :: l)
    rw [List.map_cons] at ih
    rw [List.map_cons, List.map_cons, join_more, encL_span, List.cons_append, List.nil_append, slash_span, ih]
    simp only [List.length_append, List.length_cons]
    omega
theorem txt_span (rooted : Bool) (l : List Bs) : spanL 5 true (txtL rooted l) = (txtL rooted l).length := by
  unfold txtL
  cases rooted with
  | true =>
    rw [if_pos rfl, List.cons_append, List.nil_append, slash_span, join_span]
    simp
    omega
  | false =>
    rw [if_neg (by simp), List.nil_append]
    exact join_span l
def parL (l : Bs) : Bool × List Bs := match l with
  | [] => (false, [])
  | c :: r => if c = 47 then (true, (splitL 47 r).map decL) else (false, (splitL 47 (c :: r)).map decL)
def rightP (rooted : Bool) (l : List Bs) : Bool := if rooted = true then decide (0 < l.length) else match l with
  | [] => true
  | x :: _ => !x.isEmpty
theorem decL_encL (x : Bs) : decL (encL x) = x := by
  have := encL_dec [] x
  rw [List.append_nil] at this
  rw [this]
  unfold decL
  rw [subL_nil, List.append_nil]
theorem dec_split (l : List Bs) (h : l ≠ []) : (splitL 47 (Lib.join (l.map encL) [47])).map decL = l := by
  rw [split_join 47 (l.map encL) (by simpa using h) (fun x hx => by
    obtain ⟨y, _, rfl⟩ := List.mem_map.1 hx
    exact encL_no y), List.map_map]
  conv => rhs; rw [← List.map_id l]
  exact List.map_congr_left (fun x _ => decL_encL x)
theorem par_txt (rooted : Bool) (l : List Bs) : parL (txtL rooted l) = (rooted, l) ↔ rightP rooted l = true := by
  unfold txtL rightP
  cases rooted with
  | true =>
    rw [if_pos rfl, if_pos rfl, List.cons_append, List.nil_append, parL, if_pos rfl, decide_eq_true_eq]
    cases l with
    | nil => simp [Lib.join_nil, splitL, splitW]
    | cons x l => rw [dec_split _ (by simp)]; simp
  | false =>
    rw [if_neg (by simp), if_neg (by simp), List.nil_append]
    cases l with
    | nil => simp [Lib.join_nil, parL]
    | cons x l =>
      cases x with
      | nil =>
        cases l with
        | nil => simp [Lib.join_one, encL, parL]
        | cons y l =>
          rw [List.map_cons, List.map_cons, join_more]
          simp [encL, parL]
      | cons c r =>
        have hne : ∃ d q, Lib.join (((c :: r) :: l).map encL) [47] = d :: q ∧ d ≠ 47 := by
          have hno := encL_no (c :: r)
          have hl := encC_length c
          obtain ⟨d, q, e⟩ : ∃ d q, encL (c :: r) = d :: q := by
            cases e : encL (c :: r) with
            | nil => rw [encL_cons, List.append_eq_nil_iff] at e; rw [e.1] at hl; simp at hl
            | cons d q => exact ⟨d, q, rfl⟩
          have hd : d ≠ 47 := fun h => hno (by rw [e, h]; simp)
          cases l with
          | nil => exact ⟨d, q, by rw [List.map_cons, List.map_nil, Lib.join_one, e], hd⟩
          | cons y l => exact ⟨d, q ++ ([47] ++ Lib.join ((y :: l).map encL) [47]), by rw [List.map_cons, List.map_cons, join_more, e]; rfl, hd⟩
        obtain ⟨d, q, e, hd⟩ := hne
        have hs := dec_split ((c :: r) :: l) (by simp)
        rw [e] at hs ⊢
        rw [parL, if_neg hd, hs]
        simp
def nats (l : Bs) : List Int := l.map fun b => (b.toNat : Int)
theorem nats_length (l : Bs) : (nats l).length = l.length := by simp [nats]
theorem nats_str (l : Bs) : strOfNums (nats l) = mkB l := strOfNums_bytes l
theorem nats_bytes (out : Bs) (t : ByteArray) : nats out ++ bytesOf t = nats (out ++ lst t) := by simp [nats, bytesOf]
theorem isC_keep (c : UInt8) : keepB c = true ↔ isC c.toNat 15 = true ∨ (c.toNat : Int) = 58 ∨ (c.toNat : Int) = 64 := by
  unfold keepB
  rw [Bool.or_eq_true, Bool.or_eq_true, beq_iff_eq, beq_iff_eq, or_assoc]
  have e (n : Nat) (h : n < 256) : ((c.toNat : Int) = n) ↔ c = UInt8.ofNat n := by
    constructor
    · intro h2
      apply UInt8.toNat_inj.1
      rw [UInt8.toNat_ofNat']
      omega
    · rintro rfl
      rw [UInt8.toNat_ofNat']
      omega
  have e1 := e 58 (by omega)
  have e2 := e 64 (by omega)
  refine or_congr Iff.rfl (or_congr e1.symm e2.symm)
theorem segs_encode_l0 (s : ByteArray) (hs : s.size ≤ 40000000000000) : ∀ (d j : Nat) (out : Bs), s.size - j ≤ d → j ≤ s.size → out.length ≤ 3 * j →
    Ev (fun k => segs_encode.l0 k s (nats out) (s.size : Int) (j : Int)) (mkB (out ++ encL ((lst s).drop j)))
  | d, j, out, hd, hj, ho => by
    rcases Nat.lt_or_ge j s.size with h | h
    · match d, hd with
      | 0, hd => omega
      | d + 1, hd =>
        obtain ⟨c, hc, hb⟩ := bt_lst s j h
        have hcr : c.toNat < 256 := c.toNat_lt
        have e1 : wrap64 ((j : Int) + 1) = ((j + 1 : Nat) : Int) := by rw [w64 _ (by omega) (by omega)]; omega
        refine Ev.step (f := fun k => _) (fun k => by simp only [segs_encode.l0]; rw [if_pos (show (j : Int) < s.size by omega), if_pos (show (0 : Int) ≤ j by omega), if_pos (show (j : Int) < s.size by omega), hb, e1]) ?_
        refine (octet_Is_ev (b := c.toNat) 15 (by omega) (by omega)).bind ?_
        have hl : (nats out).length < 140737488355328 := by rw [nats_length]; omega
        have plain (hk : keepB c = true) : Ev (fun k => if (nats out).length < 140737488355328 then segs_encode.l0 k s (nats out ++ [(c.toNat : Int)]) (s.size : Int) ((j + 1 : Nat) : Int) else none) (mkB (out ++ encL ((lst s).drop j))) := by
          refine Glue.ev_pos hl ?_
          have e2 : nats out ++ [(c.toNat : Int)] = nats (out ++ [c]) := by simp [nats]
          rw [e2]
          refine Glue.ev_cast (segs_encode_l0 s hs d (j + 1) (out ++ [c]) (by omega) (by omega) (by rw [List.length_append]; simp; omega)) ?_
          rw [drop_cons hc, encL_cons]
          unfold encC
          rw [if_pos hk]
          simp
        by_cases h1 : isC c.toNat 15 = true
        · exact Glue.ev_pos h1 (plain ((isC_keep c).2 (.inl h1)))
        · refine Glue.ev_neg h1 ?_
          by_cases h2 : (c.toNat : Int) = 58
          · exact Glue.ev_pos h2 (plain ((isC_keep c).2 (.inr (.inl h2))))
          · refine Glue.ev_neg h2 ?_
            by_cases h3 : (c.toNat : Int) = 64
            · exact Glue.ev_pos h3 (plain ((isC_keep c).2 (.inr (.inr h3))))
            · refine Glue.ev_neg h3 ?_
              have hk : ¬ keepB c = true := fun h => by
                rcases (isC_keep c).1 h with h | h | h
                · exact h1 h
                · exact h2 h
                · exact h3 h
              refine (escape_Of_ev (b := c.toNat) (by omega) (by omega)).bind ?_
              have hsz := ofB_size (b := c.toNat) (by omega) (by omega)
              refine Glue.ev_pos (by rw [nats_length, hsz]; omega) ?_
              have e2 := nats_bytes out (ofB c.toNat)
              rw [e2]
              refine Glue.ev_cast (segs_encode_l0 s hs d (j + 1) _ (by omega) (by omega) (by rw [List.length_append, lst_length, hsz]; omega)) ?_
              rw [drop_cons hc, encL_cons]
              unfold encC
              rw [if_neg hk, List.append_assoc]
    · have : j = s.size := by omega
      subst this
      have e0 : (lst s).drop s.size = [] := List.drop_eq_nil_of_le (by rw [lst_length]; exact Nat.le_refl _)
      rw [e0]
      refine Glue.ev_cast (Ev.step (f := fun k => _) (fun k => by simp only [segs_encode.l0]; rw [if_neg (by omega)]) (Ev.now _)) ?_
      rw [nats_str]
      simp [encL]
theorem segs_encode_ev (s : ByteArray) (hs : s.size ≤ 40000000000000) : Ev (fun k => segs_encode.f k s) (mkB (encL (lst s))) := by
  have := segs_encode_l0 s hs s.size 0 [] (by omega) (by omega) (by simp)
  exact this
theorem rdOf_get {l : List ByteArray} {j : Nat} {x : ByteArray} (h : l[j]? = some x) : rdOf ByteArray.empty l (j : Int) = x := by
  unfold rdOf
  rw [Int.toNat_natCast, List.getD_eq_getElem?_getD, h]
  rfl
abbrev lsts (l : List ByteArray) : List Bs := l.map lst
theorem segs_Text_l0 (rooted : Bool) (l : List ByteArray) (hl : l.length < 8796093022000) (hs : ∀ x ∈ l, x.size ≤ 40000000000000) (hj : (Lib.join ((lsts l).map encL) [47]).length ≤ 140737488355328) : ∀ (d j : Nat), l.length - j ≤ d → j ≤ l.length →
    Ev (fun k => segs_Path_Text.l0 k (((lsts l).map (fun x => mkB (encL x))).take j) l (l.length : Int) (j : Int) rooted l) (mkB (txtL rooted (lsts l)))
  | d, j, hd, hjl => by
    rcases Nat.lt_or_ge j l.length with h | h
    · match d, hd with
      | 0, hd => omega
      | d + 1, hd =>
        have hx : l[j]? = some l[j] := List.getElem?_eq_getElem h
        have e1 : wrap64 ((j : Int) + 1) = ((j + 1 : Nat) : Int) := by rw [w64 _ (by omega) (by omega)]; omega
        refine Ev.step (f := fun k => _) (fun k => by simp only [segs_Path_Text.l0]; rw [if_pos (show (j : Int) < l.length by omega), if_pos (show (0 : Int) ≤ j by omega), if_pos (show (j : Int) < l.length by omega), rdOf_get hx, e1]) ?_
        refine (segs_encode_ev l[j] (hs _ (List.getElem_mem h))).bind (Glue.ev_pos (by rw [List.length_take]; simp; omega) ?_)
        refine Glue.ev_cast (g := fun k => _) (r := mkB (txtL rooted (lsts l))) ?_ rfl
        have e2 : ((lsts l).map (fun x => mkB (encL x))).take j ++ [mkB (encL (lst l[j]))] = ((lsts l).map (fun x => mkB (encL x))).take (j + 1) := by
          rw [List.take_add_one]
          congr 1
          rw [List.getElem?_map, List.getElem?_map, hx]
          rfl
        rw [e2]
        exact segs_Text_l0 rooted l hl hs hj d (j + 1) (by omega) (by omega)
    · have : j = l.length := by omega
      subst this
      have e0 : ((lsts l).map (fun x => mkB (encL x))).take l.length = (lsts l).map (fun x => mkB (encL x)) := List.take_of_length_le (by simp)
      rw [e0]
      have e3 : (((lsts l).map (fun x => mkB (encL x))).map (·.data.toList)) = (lsts l).map encL := by
        rw [List.map_map]
        rfl
      have e4 : strings_Join.f ((lsts l).map (fun x => mkB (encL x))) (⟨#[47]⟩ : ByteArray) = some (mkB (Lib.join ((lsts l).map encL) [47])) := by
        unfold strings_Join.f
        rw [e3, if_pos ⟨hj, by simp; omega⟩]
        rfl
      refine Ev.step (f := fun k => _) (fun k => by simp only [segs_Path_Text.l0]; rw [if_neg (by omega), e4, Option.bind_some]) ?_
      unfold txtL
      by_cases hr : rooted = true
      · refine Glue.ev_pos hr (Glue.ev_pos (by rw [size_lst, lst_mkB]; omega) (Glue.ev_cast (Ev.now _) ?_))
        apply lst_inj
        rw [if_pos hr, lst_append, lst_mkB]
        rfl
      · refine Glue.ev_neg hr (Glue.ev_cast (Ev.now _) ?_)
        rw [if_neg hr, List.nil_append]
theorem segs_Text_ev (rooted : Bool) (l : List ByteArray) (hl : l.length < 8796093022000) (hs : ∀ x ∈ l, x.size ≤ 40000000000000) (hj : (Lib.join ((lsts l).map encL) [47]).length ≤ 140737488355328) :
    Ev (fun k => segs_Path_Text.f k rooted l) (mkB (txtL rooted (lsts l))) := by
  have := segs_Text_l0 rooted l hl hs hj l.length 0 (by omega) (by omega)
  exact this
theorem decode_right (x : ByteArray) (hs : x.size ≤ 140737488355328) (h : rightL (lst x) = true) : escape_Decode.f x = some (mkB (decL (lst x)), true) := by
  unfold escape_Decode.f
  rw [if_pos hs, right_lst, if_pos h]
  have : replF decT x = mkB (decL (lst x)) := by
    apply lst_inj
    rw [replF_lst, decT_lst]
    rfl
  rw [this]
theorem drop_get {α : Type} {l : List α} {j : Nat} (h : j < l.length) : l.drop j = l[j] :: l.drop (j + 1) := List.drop_eq_getElem_cons h
theorem segs_Parse_l0 (rooted : Bool) (l : List ByteArray) (hl : l.length < 8796093022000) (hs : ∀ x ∈ l, x.size ≤ 140737488355328 ∧ rightL (lst x) = true) : ∀ (d j : Nat) (acc : List ByteArray), l.length - j ≤ d → j ≤ l.length → acc.length = j →
    Ev (fun k => segs_Parse.l0 k l (l.length : Int) (j : Int) rooted acc) (rooted, acc ++ (l.drop j).map (fun x => mkB (decL (lst x))), 0)
  | d, j, acc, hd, hj, ha => by
    rcases Nat.lt_or_ge j l.length with h | h
    · match d, hd with
      | 0, hd => omega
      | d + 1, hd =>
        have hx : l[j]? = some l[j] := List.getElem?_eq_getElem h
        obtain ⟨h1, h2⟩ := hs l[j] (List.getElem_mem h)
        have e1 : wrap64 ((j : Int) + 1) = ((j + 1 : Nat) : Int) := by rw [w64 _ (by omega) (by omega)]; omega
        refine Ev.step (f := fun k => _) (fun k => by simp only [segs_Parse.l0]; rw [if_pos (show (j : Int) < l.length by omega), if_pos (show (0 : Int) ≤ j by omega), if_pos (show (j : Int) < l.length by omega), rdOf_get hx, e1, decode_right _ h1 h2, Option.bind_some, if_pos (show acc.length < 8796093022208 by omega)]) ?_
        refine Glue.ev_cast (segs_Parse_l0 rooted l hl hs d (j + 1) _ (by omega) (by omega) (by rw [List.length_append]; simp; omega)) ?_
        rw [drop_get h, List.map_cons, List.append_assoc]
        rfl
    · have : j = l.length := by omega
      subst this
      rw [List.drop_eq_nil_of_le (Nat.le_refl _), List.map_nil, List.append_nil]
      exact Ev.step (f := fun k => _) (fun k => by simp only [segs_Parse.l0]; rw [if_neg (by omega)]) (Ev.now _)
theorem splitW_length (c : UInt8) : ∀ (l a : Bs), (splitW c a l).length ≤ l.length + 1
  | [], a => by simp [splitW]
  | x :: r, a => by
    rw [splitW]
    split
    · have := splitW_length c r []
      simp only [List.length_cons]
      omega
    · have := splitW_length c r (a ++ [x])
      simp only [List.length_cons]
      omega
theorem splitW_part (c : UInt8) : ∀ (l a : Bs), ∀ y ∈ splitW c a l, y.length ≤ a.length + l.length
  | [], a, y, hy => by
    simp only [splitW, List.mem_singleton] at hy
    rw [hy]
    simp
  | x :: r, a, y, hy => by
    rw [splitW] at hy
    split at hy
    · rw [List.mem_cons] at hy
      rcases hy with rfl | hy
      · simp
      · have := splitW_part c r [] y hy
        simp at this ⊢
        omega
    · have := splitW_part c r (a ++ [x]) y hy
      simp at this ⊢
      omega
theorem split_f (s : ByteArray) (hs : s.size < 4294967281) : strings_Split.f s (⟨#[47]⟩ : ByteArray) = some ((splitL 47 (lst s)).map mkB) := by
  unfold strings_Split.f strings_genSplit.f
  rw [if_pos ⟨hs, rfl, rfl, rfl⟩, Option.bind_some]
  congr 1
  rw [← splitB_lst 47 s ⟨#[47]⟩ rfl, List.map_map]
  conv => lhs; rw [← List.map_id (Lib.splitB _ _ _ _)]
  exact List.map_congr_left (fun x _ => (mkB_lst x).symm)
theorem parts_ok (s : ByteArray) (hs : s.size < 4294967281) (h : rightL (lst s) = true) : ∀ x ∈ (splitL 47 (lst s)).map mkB, x.size ≤ 140737488355328 ∧ rightL (lst x) = true := by
  intro x hx
  obtain ⟨y, hy, rfl⟩ := List.mem_map.1 hx
  refine ⟨?_, splitL_right h y hy⟩
  have := splitW_part 47 (lst s) [] y hy
  rw [size_lst, lst_mkB]
  rw [lst_length] at this
  simp at this
  omega
theorem segs_j0 (s : ByteArray) (hs : s.size < 4294967281) (rooted : Bool) (h : rightL (lst s) = true) : Ev (fun k => segs_Parse.j0 k s rooted) (rooted, ((splitL 47 (lst s)).map decL).map mkB, 0) := by
  have hlen := splitW_length 47 (lst s) []
  rw [lst_length] at hlen
  refine Ev.step (f := fun k => _) (fun k => by simp only [segs_Parse.j0]; rw [split_f s hs, Option.bind_some]) ?_
  have := segs_Parse_l0 rooted ((splitL 47 (lst s)).map mkB) (by rw [List.length_map]; show (splitW 47 [] (lst s)).length < _; omega) (parts_ok s hs h) _ 0 [] (Nat.le_refl _) (by omega) rfl
  refine Glue.ev_cast this ?_
  rw [List.nil_append, List.drop_zero, List.map_map, List.map_map]
  rfl
theorem par_cons (c : UInt8) (r : Bs) : parL (c :: r) = if c = 47 then (true, (splitL 47 r).map decL) else (false, (splitL 47 (c :: r)).map decL) := rfl
theorem u8_47 (c : UInt8) : ((c.toNat : Int) = 47) ↔ c = 47 := by
  constructor
  · intro h
    apply UInt8.toNat_inj.1
    have : (47 : UInt8).toNat = 47 := rfl
    omega
  · rintro rfl; rfl
theorem lst_tail1 (s : ByteArray) {c : UInt8} {r : Bs} (e : lst s = c :: r) : lst (s.extract 1 s.size) = r := by
  rw [lst_tail, e]
  rfl
theorem segs_Parse_ok (s : ByteArray) (hs : s.size < 4294967281) (h : spanL 5 true (lst s) = s.size) : Ev (fun k => segs_Parse.f k s) ((parL (lst s)).1, (parL (lst s)).2.map mkB, 0) := by
  have hr := span_right (p := 5) (by omega) (by omega) true s.size (lst s) (by rw [lst_length]; omega) (by rw [lst_length]; exact h)
  unfold segs_Parse.f
  have ha := lexis_All_ev (p := 5) (by omega) (by omega) true s (by omega)
  rw [decide_eq_true h] at ha
  refine ha.bind (Glue.ev_pos rfl ?_)
  rw [lst_toList]
  cases e : lst s with
  | nil => exact Glue.ev_pos rfl (Ev.now _)
  | cons c r =>
    have hsz : s.size = r.length + 1 := by rw [size_lst, e]; rfl
    have hb : bt s 0 = c.toNat := by
      obtain ⟨d, h1, h2⟩ := bt_lst s 0 (by omega)
      rw [e] at h1
      injection h1 with h1
      rw [h1]
      exact h2
    refine Glue.ev_neg (by simp) (Glue.ev_pos (by omega) ?_)
    rw [par_cons, hb]
    by_cases hc : c = 47
    · rw [if_pos hc]
      refine Glue.ev_pos ((u8_47 c).2 hc) (Glue.ev_pos (by omega) ?_)
      have e2 := lst_tail1 s e
      have hr2 : rightL (lst (s.extract 1 s.size)) = true := by
        rw [e2]
        rw [e, hc, rightL_other _ (by decide)] at hr
        exact hr
      have := segs_j0 (s.extract 1 s.size) (by rw [size_lst, e2]; omega) true hr2
      rw [e2] at this
      exact this
    · rw [if_neg hc]
      refine Glue.ev_neg (fun h => hc ((u8_47 c).1 h)) ?_
      have := segs_j0 s hs false hr
      rw [e] at this
      exact this
theorem r31_Same_l0 (l : List ByteArray) (hl : l.length < 8796093022000) : ∀ (d j : Nat), l.length - j ≤ d → j ≤ l.length → Ev (fun k => monikerref31_Same.l0 k l l (j : Int)) true
  | d, j, hd, hj => by
    rcases Nat.lt_or_ge j l.length with h | h
    · match d, hd with
      | 0, hd => omega
      | d + 1, hd =>
        have e1 : wrap64 ((j : Int) + 1) = ((j + 1 : Nat) : Int) := by rw [w64 _ (by omega) (by omega)]; omega
        refine Ev.step (f := fun k => _) (fun k => by simp only [monikerref31_Same.l0]; rw [if_pos (show (j : Int) < l.length by omega), if_pos (show (0 : Int) ≤ j by omega), if_pos (show (j : Int) < l.length by omega), e1]) ?_
        exact Glue.ev_pos trivial (r31_Same_l0 l hl d (j + 1) (by omega) (by omega))
    · exact Ev.step (f := fun k => _) (fun k => by simp only [monikerref31_Same.l0]; rw [if_neg (by omega)]) (Ev.now _)
theorem r31_Same_ev (l : List ByteArray) (hl : l.length < 8796093022000) : Ev (fun k => monikerref31_Same.f k l l) true := by
  unfold monikerref31_Same.f
  exact Glue.ev_pos rfl (r31_Same_l0 l hl l.length 0 (by omega) (by omega))
theorem slices_Equal_l0 (l q : List ByteArray) (hl : l.length < 8796093022000) (hq : l.length = q.length) : ∀ (d j : Nat), l.length - j ≤ d → j ≤ l.length → Ev (fun k => slices_Equal_string_string.l0 k l q (l.length : Int) (j : Int)) (decide (l.drop j = q.drop j))
  | d, j, hd, hj => by
    rcases Nat.lt_or_ge j l.length with h | h
    · match d, hd with
      | 0, hd => omega
      | d + 1, hd =>
        have hx : l[j]? = some l[j] := List.getElem?_eq_getElem h
        have hy : q[j]? = some (q[j]'(by omega)) := List.getElem?_eq_getElem _
        have e1 : wrap64 ((j : Int) + 1) = ((j + 1 : Nat) : Int) := by rw [w64 _ (by omega) (by omega)]; omega
        refine Ev.step (f := fun k => _) (fun k => by simp only [slices_Equal_string_string.l0]; rw [if_pos (show (j : Int) < l.length by omega), if_pos (show (0 : Int) ≤ j by omega), if_pos (show (j : Int) < l.length by omega), if_pos (show (j : Int) < q.length by omega), e1, rdOf_get hx, rdOf_get hy, lst_toList, lst_toList]) ?_
        rw [drop_get h, drop_get (show j < q.length by omega)]
        by_cases he : lst l[j] = lst (q[j]'(by omega))
        · refine Glue.ev_pos he (Glue.ev_cast (slices_Equal_l0 l q hl hq d (j + 1) (by omega) (by omega)) ?_)
          rw [lst_inj he, Bool.eq_iff_iff, decide_eq_true_eq, decide_eq_true_eq]
          simp only [List.cons.injEq, true_and]
        · refine Glue.ev_neg he (Glue.ev_cast (Ev.now _) ?_)
          rw [eq_comm, decide_eq_false_iff_not]
          intro e
          injection e with e _
          exact he (by rw [e])
    · have h1 : l.drop j = [] := List.drop_eq_nil_of_le h
      have h2 : q.drop j = [] := List.drop_eq_nil_of_le (by omega)
      rw [h1, h2]
      exact Ev.step (f := fun k => _) (fun k => by simp only [slices_Equal_string_string.l0]; rw [if_neg (by omega)]; rfl) (Ev.now _)
theorem slices_Equal_ev (l q : List ByteArray) (hl : l.length < 8796093022000) : Ev (fun k => slices_Equal_string_string.f k l q) (decide (l = q)) := by
  unfold slices_Equal_string_string.f
  by_cases h : l.length = q.length
  · have := slices_Equal_l0 l q hl h l.length 0 (by omega) (by omega)
    rw [List.drop_zero, List.drop_zero] at this
    exact Glue.ev_pos (by omega) this
  · refine Glue.ev_neg (by omega) (Glue.ev_cast (Ev.now _) ?_)
    rw [eq_comm, decide_eq_false_iff_not]
    rintro rfl
    exact h rfl
theorem segs_Equal_ev (a b : Bool) (l q : List ByteArray) (hl : l.length < 8796093022000) : Ev (fun k => segs_Path_Equal.f k a l b q) (decide ((a, l) = (b, q))) := by
  unfold segs_Path_Equal.f
  by_cases h : a = b
  · refine Glue.ev_pos (by simp [h]) ((slices_Equal_ev l q hl).bind (Glue.ev_cast (Ev.now _) ?_))
    rw [Bool.eq_iff_iff, decide_eq_true_eq, decide_eq_true_eq]
    simp [h]
  · refine Glue.ev_neg (by simp [h]) (Glue.ev_cast (Ev.now _) ?_)
    rw [eq_comm, decide_eq_false_iff_not]
    simp [h]
theorem join_length (m : Nat) : ∀ (l : List Bs), (∀ x ∈ l, x.length ≤ m) → (Lib.join l [47]).length ≤ l.length * (m + 1)
  | [], _ => by rw [Lib.join_nil]; exact Nat.zero_le _
  | [x], h => by
    have := h x (by simp)
    rw [Lib.join_one]
    simp
    omega
  | x :: y :: l, h => by
    have ih := join_length m (y :: l) (fun z hz => h z (List.mem_cons_of_mem _ hz))
    have := h x (by simp)
    rw [join_more]
    have e : (x :: y :: l).length * (m + 1) = (y :: l).length * (m + 1) + (m + 1) := Nat.succ_mul _ _
    rw [e]
    simp only [List.length_append, List.length_cons, List.length_nil] at ih ⊢
    omega
theorem text_bound (rooted : Bool) (l : List Bs) (hl : l.length ≤ 300) (hm : ∀ x ∈ l, x.length ≤ 300) : (Lib.join (l.map encL) [47]).length ≤ 300000 ∧ (txtL rooted l).length ≤ 300001 := by
  have h := join_length 900 (l.map encL) (fun x hx => by
    obtain ⟨y, hy, rfl⟩ := List.mem_map.1 hx
    have := encL_length y
    have := hm y hy
    omega)
  rw [List.length_map] at h
  refine ⟨by omega, ?_⟩
  unfold txtL
  rw [List.length_append]
  split <;> simp <;> omega
theorem parse_text (rooted : Bool) (l : List Bs) (hl : l.length ≤ 300) (hm : ∀ x ∈ l, x.length ≤ 300) :
    Ev (fun k => segs_Parse.f k (mkB (txtL rooted l))) ((parL (txtL rooted l)).1, (parL (txtL rooted l)).2.map mkB, 0) := by
  have hb := text_bound rooted l hl hm
  exact segs_Parse_ok (mkB (txtL rooted l)) (by rw [size_lst, lst_mkB]; omega) (by rw [size_lst, lst_mkB]; exact txt_span rooted l)
theorem lsts_le {l : List ByteArray} {n : Nat} (hm : ∀ x ∈ l, x.size ≤ n) : ∀ x ∈ lsts l, x.length ≤ n := by
  intro x hx
  obtain ⟨y, hy, rfl⟩ := List.mem_map.1 hx
  rw [lst_length]
  exact hm y hy
theorem text_ev (rooted : Bool) (l : List ByteArray) (hl : l.length ≤ 300) (hm : ∀ x ∈ l, x.size ≤ 300) : Ev (fun k => segs_Path_Text.f k rooted l) (mkB (txtL rooted (lsts l))) := by
  have hb := text_bound rooted (lsts l) (by simpa [lsts] using hl) (lsts_le hm)
  exact segs_Text_ev rooted l (by omega) (fun x hx => by have := hm x hx; omega) (by omega)
def ldot (l : Bs) : Nat → Nat
  | 0 => 0
  | j + 1 => if l[j]? = some 46 ∧ 0 < j then j else ldot l j
theorem ldot_le (l : Bs) : ∀ j, ldot l j ≤ j
  | 0 => Nat.le_refl _
  | j + 1 => by
    have := ldot_le l j
    unfold ldot
    split <;> omega
theorem u8_46 (c : UInt8) : ((c.toNat : Int) = 46) ↔ c = 46 := by
  constructor
  · intro h
    apply UInt8.toNat_inj.1
    have : (46 : UInt8).toNat = 46 := rfl
    omega
  · rintro rfl; rfl
def extL (s : ByteArray) : ByteArray := if ldot (lst s) s.size = 0 then ⟨#[]⟩ else s.extract (ldot (lst s) s.size + 1) s.size
theorem last_l0 (s : ByteArray) (hs : s.size ≤ 140737488355328) : ∀ (j : Nat), j ≤ s.size → ∃ v : Int, Ev (fun k => bytealg_LastIndexByteString.l0 k s 46 ((j : Int) - 1)) v ∧ (v > 0 → v = ldot (lst s) j ∧ v < j) ∧ (¬ v > 0 → ldot (lst s) j = 0)
  | 0, _ => ⟨-1, Ev.step (f := fun k => _) (fun k => by simp only [bytealg_LastIndexByteString.l0]; rw [if_neg (by omega)]) (Ev.now _), by omega, fun _ => rfl⟩
  | j + 1, h => by
    obtain ⟨c, hc, hb⟩ := bt_lst s j (by omega)
    have e1 : ((j + 1 : Nat) : Int) - 1 = (j : Int) := by omega
    have e2 : wrap64 ((j : Int) - 1) = (j : Int) - 1 := w64 _ (by omega) (by omega)
    rw [e1]
    by_cases h46 : c = 46
    · refine ⟨(j : Int), Ev.step (f := fun k => _) (fun k => by simp only [bytealg_LastIndexByteString.l0]; rw [if_pos (show (j : Int) ≥ 0 by omega), if_pos (show (0 : Int) ≤ j by omega), if_pos (show (j : Int) < s.size by omega), hb, if_pos ((u8_46 c).2 h46)]) (Ev.now _), ?_, ?_⟩
      · intro hj
        rw [ldot, if_pos ⟨by rw [hc, h46], by omega⟩]
        exact ⟨rfl, by omega⟩
      · intro hj
        rw [ldot, if_neg (fun h => by omega)]
        have := ldot_le (lst s) j
        omega
    · obtain ⟨v, hv, h1, h2⟩ := last_l0 s hs j (by omega)
      have e3 : ldot (lst s) (j + 1) = ldot (lst s) j := by
        rw [ldot, if_neg (fun h => by rw [hc] at h; exact h46 (Option.some.inj h.1))]
      refine ⟨v, Ev.step (f := fun k => _) (fun k => by simp only [bytealg_LastIndexByteString.l0]; rw [if_pos (show (j : Int) ≥ 0 by omega), if_pos (show (0 : Int) ≤ j by omega), if_pos (show (j : Int) < s.size by omega), hb, if_neg (fun h => h46 ((u8_46 c).1 h)), e2]) hv, ?_, ?_⟩
      · intro h
        rw [e3]
        have := h1 h
        exact ⟨this.1, by omega⟩
      · intro h
        rw [e3]
        exact h2 h
theorem base_ev (a : Bool) (l : List ByteArray) (hl : l.length ≤ 20) : segs_Path_Base.f a l = some (l.getLastD ⟨#[]⟩) := by
  unfold segs_Path_Base.f
  rcases Nat.eq_zero_or_pos l.length with h | h
  · rw [if_neg (by omega), List.eq_nil_of_length_eq_zero h]
    rfl
  · have e1 : wrap64 ((l.length : Int) - 1) = ((l.length - 1 : Nat) : Int) := by rw [w64 _ (by omega) (by omega)]; omega
    rw [if_pos (by omega), e1, if_pos (by omega), if_pos (by omega), rdOf_get (List.getElem?_eq_getElem (show l.length - 1 < l.length by omega))]
    congr 1
    rw [List.getLastD_eq_getLast?, List.getLast?_eq_getElem?, List.getElem?_eq_getElem (show l.length - 1 < l.length by omega)]
    rfl
theorem ext_ev (a : Bool) (l : List ByteArray) (hl : l.length ≤ 20) (hs : (l.getLastD ⟨#[]⟩).size ≤ 140737488355328) : Ev (fun k => segs_Path_Ext.f k a l) (extL (l.getLastD ⟨#[]⟩)) := by
  unfold segs_Path_Ext.f
  refine (Glue.ev_const (base_ev a l hl)).bind ?_
  generalize l.getLastD ⟨#[]⟩ = s at hs
  obtain ⟨v, hv, h1, h2⟩ := last_l0 s hs s.size (Nat.le_refl _)
  have hi : Ev (fun k => strings_LastIndexByte.f k s 46) v := by
    unfold strings_LastIndexByte.f bytealg_LastIndexByteString.f
    rw [w64 ((s.size : Int) - 1) (by omega) (by omega)]
    exact hv.bind (Ev.now _)
  refine hi.bind ?_
  unfold extL
  by_cases h : v > 0
  · obtain ⟨e, hlt⟩ := h1 h
    have e1 : wrap64 (v + 1) = ((ldot (lst s) s.size + 1 : Nat) : Int) := by rw [w64 _ (by omega) (by omega)]; omega
    have hz : ¬ ldot (lst s) s.size = 0 := by omega
    rw [e1, if_neg hz]
    exact Glue.ev_pos h (Glue.ev_pos (by omega) (Glue.ev_pos (by omega) (Ev.now _)))
  · rw [if_pos (h2 h)]
    exact Glue.ev_neg h (Ev.now _)
theorem enc_lit : ∀ b : Fin 256, (b.val = 97 ∨ b.val = 98 ∨ b.val = 99 ∨ b.val = 46 ∨ b.val = 120 → encC (UInt8.ofNat b.val) = [UInt8.ofNat b.val]) ∧ (b.val = 47 → encC (UInt8.ofNat b.val) = [37, 50, 70]) := by decide +kernel
theorem awake_text : txtL true [[97, 47, 98], [99, 46, 120]] = [47, 97, 37, 50, 70, 98, 47, 99, 46, 120] := by
  have e97 : encC 97 = [97] := (enc_lit ⟨97, by omega⟩).1 (by simp)
  have e98 : encC 98 = [98] := (enc_lit ⟨98, by omega⟩).1 (by simp)
  have e99 : encC 99 = [99] := (enc_lit ⟨99, by omega⟩).1 (by simp)
  have e46 : encC 46 = [46] := (enc_lit ⟨46, by omega⟩).1 (by simp)
  have e120 : encC 120 = [120] := (enc_lit ⟨120, by omega⟩).1 (by simp)
  have e47 : encC 47 = [37, 50, 70] := (enc_lit ⟨47, by omega⟩).2 rfl
  unfold txtL
  rw [List.map_cons, List.map_cons, List.map_nil, join_more, Lib.join_one]
  simp only [encL, List.flatMap_cons, List.flatMap_nil, e97, e98, e99, e46, e120, e47]
  rfl
theorem awake_ext : extL (mkB [99, 46, 120]) = mkB [120] := by
  have h : ldot [99, 46, 120] 3 = 1 := by simp [ldot]
  unfold extL
  rw [size_lst, lst_mkB]
  show (if ldot [99, 46, 120] 3 = 0 then _ else _) = _
  have h2 : ¬ ldot [99, 46, 120] 3 = 0 := by omega
  rw [if_neg h2]
  apply lst_inj
  rw [lst_extract, lst_mkB]
  show List.take (3 - (ldot [99, 46, 120] 3 + 1)) (List.drop (ldot [99, 46, 120] 3 + 1) [99, 46, 120]) = _
  rw [h]
  rfl
theorem awake31 : Ev (fun k => monikerlaw31_awake.f k) true := by
  have hL : parL (txtL true [[97, 47, 98], [99, 46, 120]]) = (true, [[97, 47, 98], [99, 46, 120]]) := (par_txt _ _).2 rfl
  have h1 := parse_text true [[97, 47, 98], [99, 46, 120]] (by decide) (by decide)
  rw [hL, awake_text] at h1
  have h2 := text_ev true [mkB [97, 47, 98], mkB [99, 46, 120]] (by decide) (fun x hx => by
    simp only [List.mem_cons, List.not_mem_nil, or_false] at hx
    rcases hx with rfl | rfl
    · show 3 ≤ 300
      omega
    · show 3 ≤ 300
      omega)
  have e : lsts [mkB [97, 47, 98], mkB [99, 46, 120]] = [[97, 47, 98], [99, 46, 120]] := rfl
  rw [e, awake_text] at h2
  have h3 : Ev (fun k => segs_Path_Ext.f k true [mkB [97, 47, 98], mkB [99, 46, 120]]) (extL (mkB [99, 46, 120])) := ext_ev true [mkB [97, 47, 98], mkB [99, 46, 120]] (by decide) (by show 3 ≤ 140737488355328; omega)
  rw [awake_ext] at h3
  unfold monikerlaw31_awake.f
  refine h1.bind ?_
  refine Glue.ev_pos rfl ?_
  refine Glue.ev_pos rfl ?_
  refine Glue.ev_pos rfl ?_
  refine Glue.ev_pos (by decide) ?_
  refine Glue.ev_pos (by rw [lst_toList]; rfl) ?_
  refine h3.bind ?_
  refine Glue.ev_pos (by rw [lst_toList]; rfl) ?_
  refine h2.bind ?_
  refine Glue.ev_cast (Ev.now _) ?_
  rw [lst_toList, lst_mkB, beq_self_eq_true]
theorem mn_le (a b : Int) : mn a b ≤ a ∧ mn a b ≤ b ∧ (mn a b = a ∨ mn a b = b) := by unfold mn; omega
theorem long31_l0 (a : Bool) (l : List ByteArray) : ∀ (d j : Nat) (n : Int), 22 - j ≤ d → j ≤ 21 → j ≤ l.length → 0 ≤ n → n ≤ 301 * j → (n ≤ 200 → ∀ i x, i < j → l[i]? = some x → x.size ≤ 200) →
    ∃ b, Ev (fun k => monikerlaw31_long.l0 k n (j : Int) a l) b ∧ (b = false → l.length ≤ 20 ∧ ∀ x ∈ l, x.size ≤ 200)
  | 0, j, n, hd, hj, _, _, _, _ => by omega
  | d + 1, j, n, hd, hj, hl, h0, hn, hx => by
    rcases Nat.lt_or_ge j l.length with h | h
    · rcases Nat.lt_or_ge 20 j with h20 | h20
      · by_cases h2 : n > 200
        · exact ⟨true, Ev.step (f := fun k => _) (fun k => by simp only [monikerlaw31_long.l0]; rw [if_pos (show (j : Int) < l.length by omega), if_neg (show ¬ (j : Int) ≤ 20 by omega), if_pos h2]) (Ev.now _), by simp⟩
        · refine ⟨_, Ev.step (f := fun k => _) (fun k => by simp only [monikerlaw31_long.l0]; rw [if_pos (show (j : Int) < l.length by omega), if_neg (show ¬ (j : Int) ≤ 20 by omega), if_neg h2]) (Ev.now _), ?_⟩
          intro hb
          rw [decide_eq_false_iff_not] at hb
          omega
      · have hg : l[j]? = some l[j] := List.getElem?_eq_getElem h
        have hm := mn_le (l[j].size : Int) 300
        have e1 : wrap64 (n + (1 + mn (l[j].size : Int) 300)) = n + (1 + mn (l[j].size : Int) 300) := w64 _ (by omega) (by omega)
        have e2 : wrap64 ((j : Int) + 1) = ((j + 1 : Nat) : Int) := by rw [w64 _ (by omega) (by omega)]; omega
        obtain ⟨b, hb, hb2⟩ := long31_l0 a l d (j + 1) (n + (1 + mn (l[j].size : Int) 300)) (by omega) (by omega) (by omega) (by omega) (by omega) (by
          intro hn2 i x hi hix
          rcases Nat.lt_or_ge i j with hij | hij
          · exact hx (by omega) i x hij hix
          · obtain rfl : i = j := by omega
            rw [hg] at hix
            obtain rfl := Option.some.inj hix
            omega)
        refine ⟨b, Ev.step (f := fun k => _) (fun k => by simp only [monikerlaw31_long.l0]; rw [if_pos (show (j : Int) < l.length by omega), if_pos (show (j : Int) ≤ 20 by omega), if_pos (show (0 : Int) ≤ j by omega), rdOf_get hg, e1, e2]) hb, hb2⟩
    · have e : j = l.length := by omega
      by_cases h2 : n > 200
      · exact ⟨true, Ev.step (f := fun k => _) (fun k => by simp only [monikerlaw31_long.l0]; rw [if_neg (show ¬ (j : Int) < l.length by omega), if_pos h2]) (Ev.now _), by simp⟩
      · refine ⟨_, Ev.step (f := fun k => _) (fun k => by simp only [monikerlaw31_long.l0]; rw [if_neg (show ¬ (j : Int) < l.length by omega), if_neg h2]) (Ev.now _), ?_⟩
        intro hb
        rw [decide_eq_false_iff_not] at hb
        refine ⟨by omega, fun x hm => ?_⟩
        obtain ⟨i, hi, rfl⟩ := List.getElem_of_mem hm
        exact hx (by omega) i _ (by omega) (List.getElem?_eq_getElem hi)
theorem long31_ev (a : Bool) (l : List ByteArray) : ∃ b, Ev (fun k => monikerlaw31_long.f k a l) b ∧ (b = false → l.length ≤ 20 ∧ ∀ x ∈ l, x.size ≤ 200) :=
  long31_l0 a l 22 0 0 (by omega) (by omega) (by omega) (by omega) (by omega) (fun _ i x hi => by omega)
end Go.Proofs.YtoalibnaoophgaaDoor.P
