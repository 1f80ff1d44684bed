/-
  A part of the proof of segsJoins_card (texts of this session, and printed ones, without what it does not use).
-/
import Derived.Test.YtoalibnaoophgaaDoorVdPx0
import Derived.Test.YtoalibnaoophgaaDoorVdPx3
import Derived.Test.YtoalibnaoophgaaDoorVdPx5
import Derived.Test.YtoalibnaoophgaaDoorVdPx6
namespace Foot
end Foot
namespace Go.Proofs
end Go.Proofs
namespace Go.Proofs.YtoalibnaoophgaaDoor
end Go.Proofs.YtoalibnaoophgaaDoor
namespace Go.Proofs.YtoalibnaoophgaaDoor.Each
end Go.Proofs.YtoalibnaoophgaaDoor.Each
namespace Go.Proofs.YtoalibnaoophgaaDoor.Glue
end Go.Proofs.YtoalibnaoophgaaDoor.Glue
namespace Go.Proofs.YtoalibnaoophgaaDoor.Open
end Go.Proofs.YtoalibnaoophgaaDoor.Open
namespace Go.Proofs.YtoalibnaoophgaaDoor.P
end Go.Proofs.YtoalibnaoophgaaDoor.P
namespace Go.Proofs.YtoalibnaoophgaaDoor.segsJoins
end Go.Proofs.YtoalibnaoophgaaDoor.segsJoins
namespace Go.Proofs.YtoalibnaoophgaaDoorW.PrintLast
end Go.Proofs.YtoalibnaoophgaaDoorW.PrintLast
namespace Go.Proofs.YtoalibnaoophgaaDoorW.PrintMore
end Go.Proofs.YtoalibnaoophgaaDoorW.PrintMore
namespace Go.Proofs.YtoalibnaoophgaaDoorW.PrintWords
end Go.Proofs.YtoalibnaoophgaaDoorW.PrintWords
namespace Kd
end Kd
namespace Go.Proofs.YtoalibnaoophgaaDoor.P
open Go.RowKit Go.Proofs.YtoalibnaoophgaaDoorW.PrintWords Go.Proofs.YtoalibnaoophgaaDoorW.PrintLast Go.Proofs.YtoalibnaoophgaaDoorW.PrintMore
attribute [local go_sem] max2_int min2_int max_two min_two -- for this text's walks alone
set_option linter.unusedVariables false
set_option linter.unusedSimpArgs false
theorem findI_pos (s set : ByteArray) : ∀ (d : Nat) (i : Int), (s.size : Int) - i ≤ d → (0 ≤ i) → (0 ≤ findI s set i ↔ ∃ m, i ≤ m ∧ m < (s.size : Int) ∧ hasB set (bt s m) = true)
  | d, i, hd, h0 => by
    by_cases h : i < (s.size : Int)
    · obtain ⟨d, rfl⟩ : ∃ e, d = e + 1 := ⟨d - 1, by omega⟩
      cases hb : hasB set (bt s i) with
      | true => rw [findI_hit s set i h hb]; exact ⟨fun _ => ⟨i, Int.le_refl _, h, hb⟩, fun _ => h0⟩
      | false =>
        rw [findI_miss s set i h hb, findI_pos s set d (i + 1) (by omega) (by omega)]
        constructor
        · rintro ⟨m, h1, h2, h3⟩; exact ⟨m, by omega, h2, h3⟩
        · rintro ⟨m, h1, h2, h3⟩
          refine ⟨m, ?_, h2, h3⟩
          rcases Int.lt_or_eq_of_le h1 with h4 | h4
          · omega
          · subst h4; rw [hb] at h3; cases h3
    · rw [findI_end s set i h]
      exact ⟨fun h => absurd h (by omega), fun ⟨m, h1, h2, _⟩ => absurd h2 (by omega)⟩
theorem bt_extract (s : ByteArray) (a b m : Int) (ha : 0 ≤ a) (h0 : 0 ≤ m) (h1 : a + m < b) (h2 : b ≤ s.size) : bt (s.extract a.toNat b.toNat) m = bt s (a + m) := by
  unfold bt
  have hs : m.toNat < (s.extract a.toNat b.toNat).size := by rw [ByteArray.size_extract]; omega
  have hs2 : (a + m).toNat < s.size := by omega
  rw [dif_pos hs, dif_pos hs2]
  have e : (a + m).toNat = a.toNat + m.toNat := by omega
  have : (s.extract a.toNat b.toNat)[m.toNat] = s[(a + m).toNat] := by
    simp only [ByteArray.getElem_extract, e]
  rw [this]
theorem size_extractI (s : ByteArray) (a b : Int) (ha : 0 ≤ a) (h1 : a ≤ b) (h2 : b ≤ s.size) : ((s.extract a.toNat b.toNat).size : Int) = b - a := by
  rw [ByteArray.size_extract]; omega
def rightN (s : ByteArray) : Nat → Int → Bool
  | 0, _ => true
  | n + 1, i => if i < (s.size : Int) then (if bt s i = 37 then (escAt s i).isSome && rightN s n (i + 3) else rightN s n (i + 1)) else true
theorem rightN_more (s : ByteArray) : ∀ (n m : Nat) (i : Int), (s.size : Int) - i < n → (s.size : Int) - i < m → rightN s n i = rightN s m i
  | 0, 0, _, _, _ => rfl
  | 0, m + 1, i, h1, _ => by simp only [rightN]; rw [if_neg (by omega)]
  | n + 1, 0, i, _, h2 => by simp only [rightN]; rw [if_neg (by omega)]
  | n + 1, m + 1, i, h1, h2 => by
    simp only [rightN]
    rw [rightN_more s n m (i + 1) (by omega) (by omega), rightN_more s n m (i + 3) (by omega) (by omega)]
def rightI (s : ByteArray) (i : Int) : Bool := rightN s ((s.size : Int) - i + 1).toNat i
theorem rightI_end (s : ByteArray) (i : Int) (h : ¬ i < (s.size : Int)) : rightI s i = true := by
  unfold rightI
  cases hn : ((s.size : Int) - i + 1).toNat with
  | zero => rfl
  | succ n => simp only [rightN]; rw [if_neg h]
theorem rightI_step (s : ByteArray) (i : Int) (h : i < (s.size : Int)) : rightI s i = (if bt s i = 37 then (escAt s i).isSome && rightI s (i + 3) else rightI s (i + 1)) := by
  unfold rightI
  obtain ⟨n, hn⟩ : ∃ n, ((s.size : Int) - i + 1).toNat = n + 1 := ⟨((s.size : Int) - i).toNat, by omega⟩
  rw [hn]; simp only [rightN]; rw [if_pos h]
  rw [rightN_more s n ((s.size : Int) - (i + 3) + 1).toNat (i + 3) (by omega) (by omega), rightN_more s n ((s.size : Int) - (i + 1) + 1).toNat (i + 1) (by omega) (by omega)]
def right (s : ByteArray) : Bool := rightI s 0
theorem escAt_pct {s : ByteArray} {i v : Int} (h : escAt s i = some v) : bt s i = 37 := by
  unfold escAt at h
  split at h
  · rename_i hc; exact hc.2
  · cases h
theorem escsN_head (s : ByteArray) : ∀ (n : Nat) (i : Int) (x : Int × Int) (r : List (Int × Int)), 0 ≤ i → (s.size : Int) - i < n → escsN s n i = x :: r → i ≤ x.1 ∧ escAt s x.1 = some x.2 ∧ r = escsFrom s (x.1 + 3) ∧ ∀ m, i ≤ m → m < x.1 → escAt s m = none
  | 0, i, x, r, _, _, h => by simp [escsN] at h
  | n + 1, i, x, r, h0, hn, h => by
    simp only [escsN] at h
    split at h
    · rename_i hlt
      cases he : escAt s i with
      | some v =>
        simp only [he] at h
        injection h with h1 h2
        subst h1
        refine ⟨Int.le_refl _, he, ?_, fun m h3 h4 => absurd h4 (by omega)⟩
        rw [← h2]
        exact escsN_more s _ _ _ (by omega) (by omega) (by omega)
      | none =>
        simp only [he] at h
        obtain ⟨h1, h2, h3, h4⟩ := escsN_head s n (i + 1) x r (by omega) (by omega) h
        refine ⟨by omega, h2, h3, fun m h5 h6 => ?_⟩
        rcases Int.lt_or_eq_of_le h5 with h7 | h7
        · exact h4 m (by omega) h6
        · rw [← h7]; exact he
    · cases h
theorem escsN_none (s : ByteArray) : ∀ (n : Nat) (i : Int), 0 ≤ i → (s.size : Int) - i < n → escsN s n i = [] → ∀ m, i ≤ m → m < s.size → escAt s m = none
  | 0, i, _, hn, _, m, h1, h2 => absurd h2 (by omega)
  | n + 1, i, h0, hn, h, m, h1, h2 => by
    simp only [escsN] at h
    rw [if_pos (by omega)] at h
    cases he : escAt s i with
    | some v => simp [he] at h
    | none =>
      simp only [he] at h
      rcases Int.lt_or_eq_of_le h1 with h7 | h7
      · exact escsN_none s n (i + 1) (by omega) (by omega) h m (by omega) h2
      · rw [← h7]; exact he
theorem rightI_over (s : ByteArray) : ∀ (d : Nat) (i j : Int), j - i = d → 0 ≤ i → j ≤ s.size → (∀ m, i ≤ m → m < j → escAt s m = none) →
    ((∃ m, i ≤ m ∧ m < j ∧ bt s m = 37) → rightI s i = false) ∧ ((¬ ∃ m, i ≤ m ∧ m < j ∧ bt s m = 37) → rightI s i = rightI s j)
  | 0, i, j, hd, h0, hj, hn => by
    obtain rfl : i = j := by omega
    exact ⟨fun ⟨m, h1, h2, _⟩ => absurd h2 (by omega), fun _ => rfl⟩
  | d + 1, i, j, hd, h0, hj, hn => by
    have hi := rightI_step s i (by omega)
    obtain ⟨ih1, ih2⟩ := rightI_over s d (i + 1) j (by omega) (by omega) hj (fun m h1 h2 => hn m (by omega) h2)
    by_cases hp : bt s i = 37
    · rw [if_pos hp, hn i (Int.le_refl _) (by omega)] at hi
      refine ⟨fun _ => by rw [hi]; rfl, fun h => absurd ⟨i, Int.le_refl _, by omega, hp⟩ h⟩
    · rw [if_neg hp] at hi
      rw [hi]
      refine ⟨fun ⟨m, h1, h2, h3⟩ => ih1 ⟨m, ?_, h2, h3⟩, fun h => ih2 fun ⟨m, h1, h2, h3⟩ => h ⟨m, by omega, h2, h3⟩⟩
      rcases Int.lt_or_eq_of_le h1 with h7 | h7
      · omega
      · subst h7; exact absurd h3 hp
def pct : ByteArray := ⟨#[37]⟩
theorem hasB_pct (c : Int) : hasB pct c = true ↔ c = 37 := by
  simp [hasB, pct]
  omega
theorem pct_in (s : ByteArray) (a b : Int) (ha : 0 ≤ a) (h1 : a ≤ b) (h2 : b ≤ s.size) : 0 ≤ findI (s.extract a.toNat b.toNat) pct 0 ↔ ∃ m, a ≤ m ∧ m < b ∧ bt s m = 37 := by
  rw [findI_pos _ _ _ 0 (Int.sub_le_self _ (Int.le_refl 0)) (Int.le_refl _), size_extractI s a b ha h1 h2]
  constructor
  · rintro ⟨m, h3, h4, h5⟩
    rw [hasB_pct, bt_extract s a b m ha h3 (by omega) h2] at h5
    exact ⟨a + m, by omega, by omega, h5⟩
  · rintro ⟨m, h3, h4, h5⟩
    refine ⟨m - a, by omega, by omega, ?_⟩
    rw [hasB_pct, bt_extract s a b (m - a) ha (by omega) (by omega) h2, show a + (m - a) = m by omega]
    exact h5
def RightSt (s : ByteArray) (w : World) (at_ : Int) (W : World) : Prop :=
  Boxed W w.heap.size 9 (.string s) ∧ Boxed W (w.heap.size + 1) 4 (.bool false) ∧ Boxed W (w.heap.size + 2) 3 (.int .i64 at_) ∧ Boxed W (w.heap.size + 3) 9 (.string s) ∧ Below w.heap.size w W
def RightAt (s : ByteArray) (w : World) (k : Nat) (W : World) : Prop :=
  ∃ at_, RightSt s w at_ W ∧ 0 ≤ at_ ∧ at_ ≤ (s.size : Int) ∧ (escs s).drop k = escsFrom s at_ ∧ right s = rightI s at_
def RightOut (s : ByteArray) (w : World) (c : Code) (W : World) : Prop := c = .ret ∧ right s = false ∧ Boxed W (w.heap.size + 1) 4 (.bool false) ∧ Below w.heap.size w W
theorem rightSt_below {s : ByteArray} {w : World} {at_ : Int} {W W' : World} (h : RightSt s w at_ W) (hb : Below W.heap.size W W') : RightSt s w at_ W' := by
  obtain ⟨h1, h2, h3, h4, h5⟩ := h
  have mv : ∀ {b ty : Nat} {u : Value}, Boxed W b ty u → Boxed W' b ty u := fun hh => (hb.block _ hh.lt).trans hh
  exact ⟨mv h1, mv h2, mv h3, mv h4, h5.trans (hb.mono h5.size)⟩
theorem rightSt_at {s : ByteArray} {w : World} {at_ : Int} {W : World} (h : RightSt s w at_ W) (a2 : Int) : RightSt s w a2 (W.setCell ⟨w.heap.size + 2, 0, none⟩ (.int .i64 a2)) := by
  obtain ⟨h1, h2, h3, h4, h5⟩ := h
  have far : ∀ {b ty : Nat} {u : Value}, Boxed W b ty u → b ≠ w.heap.size + 2 → Boxed (W.setCell ⟨w.heap.size + 2, 0, none⟩ (.int .i64 a2)) b ty u := fun hb hne => hb.kept (grownBy_setCell' W (w.heap.size + 2) _) (by simpa using hne)
  exact ⟨far h1 (by omega), far h2 (by omega), h3.set _, far h4 (by omega), h5.setCell (p := ⟨w.heap.size + 2, 0, none⟩) (by simp) _⟩
theorem rightAt_own (s : ByteArray) (w : World) (B : Nat) (hB : w.heap.size + 4 ≤ B) : OwnFrom B (RightAt s w) := by
  rintro k W W' row ⟨a, ⟨h1, h2, h3, h4, h5⟩, hr⟩ hg hrow
  have hne : ∀ b, b < B → some b ≠ row := fun b hb e => by have := (hrow b e.symm).1; omega
  exact ⟨a, ⟨h1.kept hg (hne _ (by omega)), h2.kept hg (hne _ (by omega)), h3.kept hg (hne _ (by omega)), h4.kept hg (hne _ (by omega)), h5.grown hg h5.size (fun b e => by have := (hrow b e).1; omega)⟩, hr⟩
theorem rightOut_own (s : ByteArray) (w : World) (B : Nat) (hB : w.heap.size + 4 ≤ B) : OwnFrom B (RightOut s w) := by
  rintro k W W' row ⟨h0, h1, h2, h3⟩ hg hrow
  have hne : ∀ b, b < B → some b ≠ row := fun b hb e => by have := (hrow b e.symm).1; omega
  exact ⟨h0, h1, h2.kept hg (hne _ (by omega)), h3.grown hg h3.size (fun b e => by have := (hrow b e).1; omega)⟩
def escape_Right.f (a0 : ByteArray) : Option Bool := if a0.size ≤ 140737488355328 then some (right a0) else none
section Rnd
attribute [local go_sem] Oper.semAt_some
set_option maxRecDepth 100000 in
set_option maxHeartbeats 4000000 in
theorem escape_Right.calls (s : ByteArray) (r : Bool) (w : World) (h : escape_Right.f s = some r) :
    Calls Tryd.prog 72 #[.string s] w fun e w' => e = .returned (.bool r) ∧ Below w.heap.size w w' := by
  unfold escape_Right.f at h
  split at h
  case isFalse => cases h
  rename_i hs
  obtain rfl := Option.some.inj h
  clear h
  refine (callsIn_wide (n := 9)).1 ?_
  refine callsIn_of_wp_marks Tryd.func72 rfl trivial ?_ rfl
  simp only [Tryd.ntmps72, List.size_toArray, List.length_cons, List.length_nil, Nat.reduceAdd, Nat.reduceSub, Array.replicate_succ, Array.replicate_zero, List.push_toArray, List.append_toArray, List.nil_append, List.cons_append]
  have hall := Aside0.mk (fun w => escape_All_calls s w)
  gi_wp2_with (refine ⟨trivial, ?_⟩; gi_at_call 100; refine (callsIn_wide.2 (hall.out _)).mono ?_; rintro e w' ⟨rfl, rfl⟩)
  obtain ⟨W0, hW0⟩ : ∃ W0, ((((w.alloc (.cells #[.string s] 9)).alloc (.cells #[.bool false] 4)).alloc (.cells #[.int .i64 0] 3)).alloc (.cells #[.string s] 9)) = W0 := ⟨_, rfl⟩
  have hsz : W0.heap.size = w.heap.size + 4 := by rw [← hW0]; simp
  have hI0 : RightAt s w 0 W0 := by
    rw [← hW0]
    refine ⟨0, ⟨?_, ?_, ?_, ?_, ?_⟩, Int.le_refl _, by omega, by simp [escs], rfl⟩
    · exact (((Boxed.new w _ _).alloc _).alloc _).alloc _
    · have := Boxed.new (w.alloc (.cells #[.string s] 9)) 4 (.bool false)
      rw [World.size_alloc] at this
      exact (this.alloc _).alloc _
    · have := Boxed.new ((w.alloc (.cells #[.string s] 9)).alloc (.cells #[.bool false] 4)) 3 (.int .i64 0)
      rw [World.size_alloc, World.size_alloc] at this
      exact this.alloc _
    · have := Boxed.new (((w.alloc (.cells #[.string s] 9)).alloc (.cells #[.bool false] 4)).alloc (.cells #[.int .i64 0] 3)) 9 (.string s)
      rw [World.size_alloc, World.size_alloc, World.size_alloc] at this
      exact this
    · exact ((((Below.refl _ w).alloc (Nat.le_refl _) _).alloc (by simp) _).alloc (by simp; omega) _).alloc (by simp; omega) _
  rw [hW0]
  clear hW0
  have hbn : W0.cell? ⟨w.heap.size + 3, 0, none⟩ = some (.string s) := by obtain ⟨a, h, _⟩ := hI0; exact h.2.2.2.1.cell
  refine Each.wp_each (n := 9) (by omega) (gf := 125) (lb := #[.pointer (some ⟨w.heap.size + 3, 0, none⟩)]) rfl (enters_of Tryd.func125 (by kernel_rfl) rfl)
    (escape_All1_gives 8 (by omega) s hs (w.heap.size + 3) W0 (by omega) hbn) (Below.refl _ _) (fun h k => h.trans k) (fun W l o o' hl ho hc => Each.KeepCell.putObj (by omega) W l o o' hl ho hc) (fun _ => rfl)
    (RightAt s w) (RightOut s w) (rightAt_own s w _ (by omega)) (rightOut_own s w _ (by omega)) hI0
    (fun x => { tmps := #[.string s, .pointer (some ⟨w.heap.size, 0, none⟩), .pointer (some ⟨w.heap.size + 1, 0, none⟩), .pointer (some ⟨w.heap.size + 2, 0, none⟩), .int .i64 x.1, .string s, .func (.func 125) #[] #[.pointer (some ⟨w.heap.size + 3, 0, none⟩)], .int .i64 x.1, .int .u8 x.2, undef, undef, undef, undef, undef, undef, undef, undef, undef, undef, undef, undef], defers := [] }) ?assign ?body ?done ?stop
  case assign =>
    intro l x W K hK
    unfold encE
    gi_wp2
    exact hK
  case body =>
    rintro l k x W ⟨at_, hst, ha0, ha1, hdrop, hri⟩ hx hlt
    have hlk := (List.getElem?_eq_some_iff.1 hx)
    obtain ⟨hlk1, hlk2⟩ := hlk
    rw [List.drop_eq_getElem_cons hlk1, hlk2] at hdrop
    obtain ⟨h1, h2, h3, h4⟩ := escsN_head s (s.size + 1) at_ x _ ha0 (by omega) hdrop.symm
    have hx3 := (escAt_range h2).2.2
    have hpct := escAt_pct h2
    have hx4 : x.1 ≤ (s.size : Int) := by omega
    have hx0 : 0 ≤ x.1 := by omega
    obtain ⟨o1, o2⟩ := rightI_over s (x.1 - at_).toNat at_ x.1 (by omega) ha0 (by omega) h4
    have hin := pct_in s at_ x.1 ha0 h1 (by omega)
    have hstep := rightI_step s x.1 (by omega)
    rw [if_pos hpct, h2] at hstep
    simp only [Option.isSome_some, Bool.true_and] at hstep
    obtain ⟨kf, hkf⟩ := (octet_Find_spec (s.extract at_.toNat x.1.toNat) pct (by have := size_extractI s at_ x.1 ha0 h1 (by omega); omega) (by decide) 0 (Int.le_refl _) (by omega)).rounds
    have hcall := Aside0.mk (octet_Find.calls kf (s.extract at_.toNat x.1.toNat) 0 (⟨#[37]⟩ : ByteArray) _ W hkf)
    clear hkf h2 h4 hpct
    have HST := Aside0.mk hst
    have hc1 := hst.1.cell
    have hc2 := hst.2.2.1.cell
    clear hst
    have HX := Aside0.mk (show (escs s).drop (k + 1) = escsFrom s (x.1 + 3) from h3)
    have HR := Aside0.mk hri
    clear h3 hri hdrop hx hlk2
    by_cases hf : 0 ≤ findI (s.extract at_.toNat x.1.toNat) pct 0
    · have hfalse := Aside0.mk (o1 (hin.1 hf))
      clear o1 o2 hin hstep
      gi_wp2
      refine ⟨trivial, (CallsIn.inRound l (callsIn_wide.2 hcall.out)).mono ?_⟩
      rintro e w1 ⟨rfl, hb1⟩
      have hst1 := rightSt_below HST.out hb1
      have hk1 : KeepsFrom W0.heap.size W w1 := ⟨hb1.size, fun q o _ hq _ => (hb1.block q (Array.getElem?_eq_some_iff.1 hq).1).trans hq⟩
      have hc3 := hst1.2.1.cell
      have hf3 := hst1.2.1.frozen
      gi_wp2
      exact ⟨hk1.trans ((KeepsOthers.setCell _ _ _).from _), rfl, HR.out.trans hfalse.out, hst1.2.1.set (.bool false), hst1.2.2.2.2.setCell (p := ⟨w.heap.size + 1, 0, none⟩) (by simp) _⟩
    · have hto := Aside0.mk ((o2 (fun h => hf (hin.2 h))).trans hstep)
      have hf' : findI (s.extract at_.toNat x.1.toNat) pct 0 < 0 := by omega
      clear o1 o2 hin hstep
      gi_wp2
      refine ⟨trivial, (CallsIn.inRound l (callsIn_wide.2 hcall.out)).mono ?_⟩
      rintro e w1 ⟨rfl, hb1⟩
      have hst1 := rightSt_below HST.out hb1
      have hk1 : KeepsFrom W0.heap.size W w1 := ⟨hb1.size, fun q o _ hq _ => (hb1.block q (Array.getElem?_eq_some_iff.1 hq).1).trans hq⟩
      have hc3 := hst1.2.2.1.cell
      have hf3 := hst1.2.2.1.frozen
      gi_wp2
      refine ⟨hk1.trans ((KeepsOthers.setCell _ _ _).from _), ?_, x.1 + 3, rightSt_at hst1 (x.1 + 3), by omega, by omega, HX.out, HR.out.trans hto.out⟩
      have e1 := HST.out.2.2.2.1.cell
      have e2 := (rightSt_at hst1 (x.1 + 3)).2.2.2.1.cell
      exact e2.trans e1.symm
  case done =>
    rintro D W hD ⟨at_, hst, ha0, ha1, hdrop, hri⟩ hK
    obtain ⟨kf, hkf⟩ := (octet_Find_spec s pct hs (by decide) at_ ha0 (by omega)).rounds
    have hcall := Aside0.mk (octet_Find.calls kf s at_ (⟨#[37]⟩ : ByteArray) _ W hkf)
    clear hkf
    have hfin : Aside0 (decide (findI s pct at_ < 0) = right s) := ⟨by
      rw [List.drop_length] at hdrop
      have hno := escsN_none s (s.size + 1) at_ ha0 (by omega) hdrop.symm
      obtain ⟨o1, o2⟩ := rightI_over s ((s.size : Int) - at_).toNat at_ s.size (by omega) ha0 (Int.le_refl _) (fun m h1 h2 => hno m h1 h2)
      have hp := findI_pos s pct ((s.size : Int) - at_).toNat at_ (by omega) ha0
      rw [hri]
      by_cases hex : ∃ m, at_ ≤ m ∧ m < (s.size : Int) ∧ bt s m = 37
      · rw [o1 hex]
        obtain ⟨m, h1, h2, h3⟩ := hex
        have := hp.2 ⟨m, h1, h2, (hasB_pct _).2 h3⟩
        simp; omega
      · rw [o2 hex, rightI_end s _ (by omega)]
        have : ¬ 0 ≤ findI s pct at_ := fun h => by
          obtain ⟨m, h1, h2, h3⟩ := hp.1 h
          exact hex ⟨m, h1, h2, (hasB_pct _).1 h3⟩
        simp; omega⟩
    have hc1 := hst.1.cell
    have hc2 := hst.2.2.1.cell
    have HST := Aside0.mk hst
    clear hst hdrop hri
    gi_wp2
    refine ⟨trivial, (callsIn_wide.2 hcall.out).mono ?_⟩
    rintro e w1 ⟨rfl, hb1⟩
    have hst1 := rightSt_below HST.out hb1
    have hK1 := (hb1.block D (Array.getElem?_eq_some_iff.1 hK).1).trans hK
    have hc3 := hst1.2.1.cell
    have hf3 := hst1.2.1.frozen
    gi_wp2
    rw [hfin.out]
    have hK2 : (w1.setCell ⟨w.heap.size + 1, 0, none⟩ (.bool (right s))).heap[D]? = some (.deferred (some [])) := (Below.heap_setCell w1 ⟨w.heap.size + 1, 0, none⟩ _ D (by simp; omega)).trans hK1
    have hB2 : Below w.heap.size w (w1.setCell ⟨w.heap.size + 1, 0, none⟩ (.bool (right s))) := hst1.2.2.2.2.setCell (p := ⟨w.heap.size + 1, 0, none⟩) (by simp) _
    have hc5 := cell_kept (hst1.2.1.set (.bool (right s))).cell (grownBy_putObj' _ D (.deferred none)) (fun r e => by cases e; exact ⟨_, hK2, rfl⟩)
    refine ⟨by simp, .inl ⟨_, _, rfl, run_takeDeferred hK2, ?_⟩⟩
    exact ⟨.bool (right s), by simp [results, Tryd.f72, go_sem, hc5], rfl, hB2.trans (belowK_b (w := w) (Nat.le_refl _) _ D _ _ (by omega) hK2 rfl rfl)⟩
  case stop =>
    rintro D c W hD ⟨rfl, hf, hb, hbel⟩ hK
    have hc := hb.cell
    gi_wp2
    have hc5 := cell_kept hc (grownBy_putObj' _ D (.deferred none)) (fun r e => by cases e; exact ⟨_, hK, rfl⟩)
    refine ⟨by simp, .inl ⟨_, _, rfl, run_takeDeferred hK, ?_⟩⟩
    exact ⟨.bool false, by simp [results, Tryd.f72, go_sem, hc5], by rw [hf], hbel.trans (belowK_b (w := w) (Nat.le_refl _) _ D _ _ (by omega) hK rfl rfl)⟩
end Rnd
def replStep (T : Int → ByteArray × Bool) (s : ByteArray) (r : List UInt8 × Int) (x : Int × Int) : List UInt8 × Int :=
  if (T x.2).2 = true then (r.1 ++ (s.extract r.2.toNat x.1.toNat).data.toList ++ (T x.2).1.data.toList, x.1 + 3) else r
def replTo (T : Int → ByteArray × Bool) (s : ByteArray) (k : Nat) : List UInt8 × Int := ((escs s).take k).foldl (replStep T s) ([], 0)
def replF (T : Int → ByteArray × Bool) (s : ByteArray) : ByteArray :=
  ⟨((replTo T s (escs s).length).1 ++ (s.extract (replTo T s (escs s).length).2.toNat s.size).data.toList).toArray⟩
theorem replTo_zero (T : Int → ByteArray × Bool) (s : ByteArray) : replTo T s 0 = ([], 0) := rfl
theorem replTo_succ (T : Int → ByteArray × Bool) (s : ByteArray) (k : Nat) (x : Int × Int) (h : (escs s)[k]? = some x) : replTo T s (k + 1) = replStep T s (replTo T s k) x := by
  unfold replTo
  rw [List.take_add_one, h]
  simp
theorem escsN_mem (s : ByteArray) : ∀ (n : Nat) (i : Int) (x : Int × Int), x ∈ escsN s n i → i ≤ x.1 ∧ x.1 + 3 ≤ s.size ∧ 0 ≤ x.2 ∧ x.2 < 256
  | 0, i, x, h => by simp [escsN] at h
  | n + 1, i, x, h => by
    simp only [escsN] at h
    split at h
    · cases he : escAt s i with
      | some v =>
        rw [he] at h
        simp only [List.mem_cons] at h
        rcases h with rfl | h
        · have := escAt_range he; exact ⟨Int.le_refl _, this.2.2, this.1, this.2.1⟩
        · have := escsN_mem s n (i + 3) x h; exact ⟨by omega, this.2⟩
      | none =>
        rw [he] at h
        have := escsN_mem s n (i + 1) x h; exact ⟨by omega, this.2⟩
    · simp at h
theorem escsN_apart (s : ByteArray) : ∀ (n : Nat) (i : Int) (k : Nat) (x y : Int × Int), (escsN s n i)[k]? = some x → (escsN s n i)[k + 1]? = some y → x.1 + 3 ≤ y.1
  | 0, i, k, x, y, h, _ => by simp [escsN] at h
  | n + 1, i, k, x, y, h, h2 => by
    simp only [escsN] at h h2
    split at h
    · rename_i hlt
      rw [if_pos hlt] at h2
      cases he : escAt s i with
      | some v =>
        simp only [he] at h h2
        cases k with
        | zero =>
          simp at h h2
          subst h
          exact (escsN_mem s n (i + 3) y (List.mem_of_getElem? h2)).1
        | succ k =>
          simp at h h2
          exact escsN_apart s n (i + 3) k x y h h2
      | none =>
        simp only [he] at h h2
        exact escsN_apart s n (i + 1) k x y h h2
    · simp at h
theorem replTo_range (T : Int → ByteArray × Bool) (s : ByteArray) (hT : ∀ b, (T b).1.size ≤ 3) : ∀ k, k ≤ (escs s).length →
    0 ≤ (replTo T s k).2 ∧ (replTo T s k).2 ≤ s.size ∧ ((replTo T s k).1.length : Int) ≤ (replTo T s k).2 ∧ (∀ j x, (escs s)[j]? = some x → k ≤ j → (replTo T s k).2 ≤ x.1)
  | 0, _ => by
    simp only [replTo_zero]
    exact ⟨Int.le_refl _, by omega, by simp, fun j x hx _ => (escsN_mem s _ 0 x (List.mem_of_getElem? hx)).1⟩
  | k + 1, hk => by
    obtain ⟨h1, h2, h3, h4⟩ := replTo_range T s hT k (by omega)
    have hx : (escs s)[k]? = some (escs s)[k] := List.getElem?_eq_getElem (by omega)
    rw [replTo_succ T s k _ hx]
    generalize (escs s)[k] = x at hx
    have hm := escsN_mem s _ 0 x (List.mem_of_getElem? hx)
    have hle := h4 k x hx (Nat.le_refl _)
    have rise : ∀ (d : Nat) (y : Int × Int), (escs s)[k + 1 + d]? = some y → x.1 + 3 ≤ y.1 := by
      intro d
      induction d with
      | zero => intro y hy; exact escsN_apart s _ 0 k x y hx hy
      | succ d ih =>
        intro y hy
        obtain ⟨z, hz⟩ : ∃ z, (escs s)[k + 1 + d]? = some z := ⟨_, List.getElem?_eq_getElem (by have := (List.getElem?_eq_some_iff.1 hy).1; omega)⟩
        have := ih _ hz
        have := escsN_apart s _ 0 (k + 1 + d) _ y hz hy
        omega
    unfold replStep
    split
    · refine ⟨by simp only; omega, by simp only; omega, ?_, ?_⟩
      · simp only [List.length_append]
        have := hT x.2
        have e1 : (T x.2).1.data.toList.length = (T x.2).1.size := rfl
        have e2 : (s.extract (replTo T s k).2.toNat x.1.toNat).data.toList.length = min x.1.toNat s.size - (replTo T s k).2.toNat := by
          show (s.extract (replTo T s k).2.toNat x.1.toNat).size = _
          simp [ByteArray.size_extract]
        rw [e1, e2]
        omega
      · intro j y hy hj
        simp only
        obtain ⟨d, rfl⟩ : ∃ d, j = k + 1 + d := ⟨j - (k + 1), by omega⟩
        exact rise d y hy
    · exact ⟨h1, h2, h3, fun j y hy hj => h4 j y hy (by omega)⟩
theorem info_u8 : (Tryd.prog.info? 5).map (fun i => (i.zero, i.size, i.bytes)) = some (some (.int .u8 0), 1, 1) := by kernel_rfl
def byteVals (l : List UInt8) : List Value := l.map fun b => Value.int .u8 b.toNat
def ReplSt (s : ByteArray) (gt : Nat) (lt : Array Value) (w : World) (v : Value) (out : List UInt8) (at_ : Int) (W : World) : Prop :=
  Boxed W w.heap.size 9 (.string s) ∧ Boxed W (w.heap.size + 1) 94 (.func (.func gt) #[] lt) ∧
  Boxed W (w.heap.size + 2) 56 v ∧ W.ownsRow w.heap.size 5 1 v out.length (byteVals out) ∧
  Boxed W (w.heap.size + 3) 3 (.int .i64 at_) ∧ Boxed W (w.heap.size + 4) 9 (.string s) ∧ Below w.heap.size w W
def ReplAt (T : Int → ByteArray × Bool) (s : ByteArray) (gt : Nat) (lt : Array Value) (w : World) (k : Nat) (W : World) : Prop :=
  ∃ v, ReplSt s gt lt w v (replTo T s k).1 (replTo T s k).2 W
theorem boxed_below {W W' : World} {n B : Nat} {t : TypeId} {v : Value} (h : Boxed W B t v) (hb : Below n W W') (hn : B < n) : Boxed W' B t v := (hb.block B hn).trans h
theorem replSt_below {s : ByteArray} {gt : Nat} {lt : Array Value} {w : World} {v : Value} {out : List UInt8} {at_ : Int} {W W' : World} (h : ReplSt s gt lt w v out at_ W) (hb : Below W.heap.size W W') : ReplSt s gt lt w v out at_ W' := by
  obtain ⟨h1, h2, h3, h4, h5, h6, h7⟩ := h
  exact ⟨boxed_below h1 hb h1.lt, boxed_below h2 hb h2.lt, boxed_below h3 hb h3.lt, own_move h4 (fun q hq => by obtain ⟨cells, hc⟩ := own_typed h4 q hq; exact hb.block q (Array.getElem?_eq_some_iff.1 hc).1), boxed_below h5 hb h5.lt, boxed_below h6 hb h6.lt, h7.trans (hb.mono h7.size)⟩
theorem replAt_own (T : Int → ByteArray × Bool) (s : ByteArray) (gt : Nat) (lt : Array Value) (w : World) (B : Nat) (hB : w.heap.size + 5 ≤ B) : OwnFrom B (ReplAt T s gt lt w) := by
  rintro k W W' row ⟨v, h1, h2, h3, h4, h5, h6, h7⟩ hg hr
  have hne : ∀ b, b < B → some b ≠ row := fun b hb e => by have := (hr b e.symm).1; omega
  refine ⟨v, h1.kept hg (hne _ (by omega)), h2.kept hg (hne _ (by omega)), h3.kept hg (hne _ (by omega)), own_move h4 fun b hb => ?_, h5.kept hg (hne _ (by omega)), h6.kept hg (hne _ (by omega)), ?_⟩
  · obtain ⟨cells, hc⟩ := own_typed h4 b hb
    refine hg.block b (Array.getElem?_eq_some_iff.1 hc).1 fun e => ?_
    obtain ⟨_, o, ho, hno⟩ := hr b e.symm
    rw [hc] at ho
    cases ho
    simp [Obj.isCells] at hno
  · exact h7.grown hg h7.size (fun b e => by have := (hr b e).1; omega)
theorem own_slice {W : World} {base e size n : Nat} {v : Value} {xs : List Value} (h : W.ownsRow base e size v n xs) : ∃ A c, v = .slice A n c := by
  rcases h.2 with ⟨rfl, rfl⟩ | ⟨g, cap, cur, rfl, _⟩
  · exact ⟨none, 0, rfl⟩
  · exact ⟨_, cap, rfl⟩
theorem byteVals_str (t : ByteArray) : Lib.strCells t = byteVals t.data.toList := rfl
theorem byteVals_append (a b : List UInt8) : byteVals a ++ byteVals b = byteVals (a ++ b) := by simp [byteVals]
theorem replSt_append {s : ByteArray} {gt : Nat} {lt : Array Value} {w : World} {v v' : Value} {out : List UInt8} {at_ : Int} {W W0 w1 : World} {t : ByteArray} (h : ReplSt s gt lt w v out at_ W) (hW : Drawn0 W W0)
    (ho : w1.ownsRow w.heap.size 5 1 v' (out.length + t.size) (byteVals out ++ Lib.strCells t)) (hg : W0.grownBy w1 v.ownBlock) :
    w1.cell? ⟨w.heap.size + 2, 0, none⟩ = some v ∧ w1.frozen? ⟨w.heap.size + 2, 0, none⟩ = false ∧ ReplSt s gt lt w v' (out ++ t.data.toList) at_ (w1.setCell ⟨w.heap.size + 2, 0, none⟩ v') ∧ KeepsOthers W (w1.setCell ⟨w.heap.size + 2, 0, none⟩ v') := by
  obtain ⟨⟨q, rfl⟩⟩ := hW
  obtain ⟨h1, h2, h3, h4, h5, h6, h7⟩ := h
  have hg' : W.grownBy w1 v.ownBlock := ⟨hg.os, hg.tape, hg.output, hg.size, hg.block⟩
  have hle : w.heap.size ≤ w.heap.size + 2 := by omega
  have hrow : ∀ j, v.ownBlock = some j → w.heap.size ≤ j ∧ ∃ cells, W.heap[j]? = some (.cells cells 5 (0, 0)) := fun j ej => ⟨own_base h4 j ej, own_typed h4 j ej⟩
  have k1 : Boxed w1 (w.heap.size + 2) 56 v := h3.kept hg' (h3.not_row (by decide) h4)
  have k2 := k1.set v'
  have k3 := ho.kept (grownBy_setCell' w1 (w.heap.size + 2) v') (.inr (k1.not_row (by decide) ho).symm)
  have k4 : KeepsOthers W (w1.setCell ⟨w.heap.size + 2, 0, none⟩ v') := (KeepsOthers.of_grownBy hg' fun j o ej hj => by obtain ⟨_, cells, hc⟩ := hrow j ej; rw [hc] at hj; cases hj; rfl).trans (KeepsOthers.setCell _ _ _)
  have k5 : Below w.heap.size W (w1.setCell ⟨w.heap.size + 2, 0, none⟩ v') := ((Below.refl w.heap.size W).grown hg' h7.size fun j ej => (hrow j ej).1).setCell (p := ⟨w.heap.size + 2, 0, none⟩) hle v'
  have n1 := Boxed.not_row h1 (by decide) h4
  have n2 := Boxed.not_row h2 (by decide) h4
  have n5 := Boxed.not_row h5 (by decide) h4
  have n6 := Boxed.not_row h6 (by decide) h4
  have far : ∀ {b ty : Nat} {u : Value}, Boxed W b ty u → some b ≠ v.ownBlock → b ≠ w.heap.size + 2 → Boxed (w1.setCell ⟨w.heap.size + 2, 0, none⟩ v') b ty u := by
    intro b ty u hb hn hne
    exact (hb.kept hg' hn).kept (grownBy_setCell' w1 (w.heap.size + 2) v') (by simpa using hne)
  refine ⟨k1.cell, k1.frozen, ⟨far h1 n1 (by omega), far h2 n2 (by omega), k2, ?_, far h5 n5 (by omega), far h6 n6 (by omega), h7.trans k5⟩, k4⟩
  rw [byteVals_str, byteVals_append] at k3
  simpa using k3
theorem replSt_at {s : ByteArray} {gt : Nat} {lt : Array Value} {w : World} {v : Value} {out : List UInt8} {at_ : Int} {W : World} (h : ReplSt s gt lt w v out at_ W) (a2 : Int) : ReplSt s gt lt w v out a2 (W.setCell ⟨w.heap.size + 3, 0, none⟩ (.int .i64 a2)) := by
  obtain ⟨h1, h2, h3, h4, h5, h6, h7⟩ := h
  have far : ∀ {b ty : Nat} {u : Value}, Boxed W b ty u → b ≠ w.heap.size + 3 → Boxed (W.setCell ⟨w.heap.size + 3, 0, none⟩ (.int .i64 a2)) b ty u := fun hb hne => hb.kept (grownBy_setCell' W (w.heap.size + 3) _) (by simpa using hne)
  refine ⟨far h1 (by omega), far h2 (by omega), far h3 (by omega), h4.kept (grownBy_setCell' W _ _) (.inr (h5.not_row (by decide) h4).symm), h5.set _, far h6 (by omega), h7.setCell (p := ⟨w.heap.size + 3, 0, none⟩) (by simp) _⟩
theorem strOfNums_bytes (l : List UInt8) : strOfNums (l.map fun b => (b.toNat : Int)) = ⟨l.toArray⟩ := by
  unfold strOfNums
  rw [List.map_map]
  have : ((fun n : Int => UInt8.ofNat n.toNat) ∘ fun b : UInt8 => (b.toNat : Int)) = id := by funext b; simp
  rw [this, List.map_id]
section Rnd
attribute [local go_sem] Oper.semAt_some
attribute [local go_sem ↓] Each.app_fold
set_option maxRecDepth 100000 in
set_option maxHeartbeats 4000000 in
theorem escape_replace_calls (T : Int → ByteArray × Bool) (hT : ∀ b, (T b).1.size ≤ 3) (s : ByteArray) (hs : s.size ≤ 140737488355328) (gt : Nat) (lt : Array Value) (w : World) (henter : ∀ args w, (callFunc gt args).run Tryd.prog w = .ok (.enter gt args) w)
    (hcall : ∀ (at_ b : Int) (W : World), Below w.heap.size w W → 0 ≤ b → b < 256 → Calls Tryd.prog gt (#[.int .i64 at_, .int .u8 b] ++ lt) W fun e W' => e = .returned (.tuple #[.string (T b).1, .bool (T b).2]) ∧ Below W.heap.size W W') :
    Calls Tryd.prog 73 #[.string s, .func (.func gt) #[] lt] w fun e w' => e = .returned (.string (replF T s)) ∧ Below w.heap.size w w' := by
  obtain ⟨i0, hi, hz0, hz1, hz2⟩ := info_parts info_u8
  refine (callsIn_wide (n := 9)).1 ?_
  refine callsIn_of_wp_marks Tryd.func73 rfl trivial ?_ rfl
  simp only [Tryd.ntmps73, List.size_toArray, List.length_cons, List.length_nil, Nat.reduceAdd, Nat.reduceSub, Array.replicate_succ, Array.replicate_zero, List.push_toArray, List.append_toArray, List.nil_append, List.cons_append]
  have hall := Aside0.mk (fun w => escape_All_calls s w)
  gi_wp2_with (refine ⟨trivial, ?_⟩; gi_at_call 100; refine (callsIn_wide.2 (hall.out _)).mono ?_; rintro e w' ⟨rfl, rfl⟩)
  obtain ⟨W0, hW0⟩ : ∃ W0, (((((w.alloc (.cells #[.string s] 9)).alloc (.cells #[.func (.func gt) #[] lt] 94)).alloc (.cells #[.slice none 0 0] 56)).alloc (.cells #[.int .i64 0] 3)).alloc (.cells #[.string s] 9)) = W0 := ⟨_, rfl⟩
  have hsz : W0.heap.size = w.heap.size + 5 := by rw [← hW0]; simp
  have hI0 : ReplAt T s gt lt w 0 W0 := by
    rw [← hW0]
    refine ⟨.slice none 0 0, ?_, ?_, ?_, ?_, ?_, ?_, ?_⟩
    · exact ((((Boxed.new w _ _).alloc _).alloc _).alloc _).alloc _
    · have := Boxed.new (w.alloc (.cells #[.string s] 9)) 94 (.func (.func gt) #[] lt)
      rw [World.size_alloc] at this
      exact ((this.alloc _).alloc _).alloc _
    · have := Boxed.new ((w.alloc (.cells #[.string s] 9)).alloc (.cells #[.func (.func gt) #[] lt] 94)) 56 (.slice none 0 0)
      rw [World.size_alloc, World.size_alloc] at this
      exact (this.alloc _).alloc _
    · exact World.ownsRow_nil _ _ _ _
    · have := Boxed.new (((w.alloc (.cells #[.string s] 9)).alloc (.cells #[.func (.func gt) #[] lt] 94)).alloc (.cells #[.slice none 0 0] 56)) 3 (.int .i64 0)
      rw [World.size_alloc, World.size_alloc, World.size_alloc] at this
      exact this.alloc _
    · have := Boxed.new ((((w.alloc (.cells #[.string s] 9)).alloc (.cells #[.func (.func gt) #[] lt] 94)).alloc (.cells #[.slice none 0 0] 56)).alloc (.cells #[.int .i64 0] 3)) 9 (.string s)
      rw [World.size_alloc, World.size_alloc, World.size_alloc, World.size_alloc] at this
      exact this
    · exact (((((Below.refl _ w).alloc (Nat.le_refl _) _).alloc (by simp) _).alloc (by simp; omega) _).alloc (by simp; omega) _).alloc (by simp; omega) _
  rw [hW0]
  clear hW0
  have hbn : W0.cell? ⟨w.heap.size + 4, 0, none⟩ = some (.string s) := by obtain ⟨v, h⟩ := hI0; exact h.2.2.2.2.2.1.cell
  refine Each.wp_each (n := 9) (by omega) (gf := 125) (lb := #[.pointer (some ⟨w.heap.size + 4, 0, none⟩)]) rfl (enters_of Tryd.func125 (by kernel_rfl) rfl)
    (escape_All1_gives 8 (by omega) s hs (w.heap.size + 4) W0 (by omega) hbn) (Below.refl _ _) (fun h k => h.trans k) (fun W l o o' hl ho hc => Each.KeepCell.putObj (by omega) W l o o' hl ho hc) (fun _ => rfl)
    (ReplAt T s gt lt w) (fun _ _ => False) (replAt_own T s gt lt w _ (by omega)) (fun _ _ _ _ h _ _ => h) hI0
    (fun x => { tmps := #[.string s, .func (.func gt) #[] lt, .pointer (some ⟨w.heap.size, 0, none⟩), .pointer (some ⟨w.heap.size + 1, 0, none⟩), .string ⟨#[]⟩, .pointer (some ⟨w.heap.size + 2, 0, none⟩), .pointer (some ⟨w.heap.size + 3, 0, none⟩), .int .i64 x.1, .int .u8 x.2, undef, undef, .string s, .func (.func 125) #[] #[.pointer (some ⟨w.heap.size + 4, 0, none⟩)], .int .i64 x.1, .int .u8 x.2, undef, undef, undef, undef, undef, undef, undef, undef, undef, undef, undef, undef, undef, undef, undef, undef, undef, undef, undef, undef, undef, undef, undef, undef, undef], defers := [] }) ?assign ?body ?done ?stop
  case assign =>
    intro l x W K hK
    unfold encE
    gi_wp2
    exact hK
  case stop =>
    intro D c W _ h _
    exact h.elim
  case body =>
    rintro l k x W ⟨v, hst⟩ hx hlt
    have hm := escsN_mem s _ 0 x (List.mem_of_getElem? hx)
    have hr := replTo_range T s hT k (Nat.le_of_lt (List.getElem?_eq_some_iff.1 hx).1)
    have hle := hr.2.2.2 k x hx (Nat.le_refl _)
    have hsucc := Aside0.mk (replTo_succ T s k x hx)
    have HT := Aside0.mk hT
    clear hT hx
    have hc2 := hst.2.1.cell
    have heg : ∀ args w, (callFunc gt args).run Tryd.prog w = .ok (.enter gt args) w := henter
    have hcl := Aside0.mk (hcall x.1 x.2 W hst.2.2.2.2.2.2 hm.2.2.1 hm.2.2.2)
    have HST := Aside0.mk hst
    clear hst
    cases hok : (T x.2).2
    · gi_wp2
      refine ⟨trivial, (CallsIn.inRound l (callsIn_wide.2 hcl.out)).mono ?_⟩
      rintro e w1 ⟨rfl, hb1⟩
      have hst1 := replSt_below HST.out hb1
      gi_wp2
      refine ⟨?_, ?_, v, ?_⟩
      · exact ⟨hb1.size, fun q o _ hq _ => (hb1.block q (Array.getElem?_eq_some_iff.1 hq).1).trans hq⟩
      · exact Each.KeepCell.of_below hb1 HST.out.2.2.2.2.2.1.lt
      · rw [hsucc.out]
        unfold replStep
        rw [if_neg (by rw [hok]; simp)]
        exact hst1
    · gi_wp2
      refine ⟨trivial, (CallsIn.inRound l (callsIn_wide.2 hcl.out)).mono ?_⟩
      rintro e w1 ⟨rfl, hb1⟩
      have hst1 := replSt_below HST.out hb1
      have hk1 : KeepsFrom W0.heap.size W w1 := ⟨hb1.size, fun q o _ hq _ => (hb1.block q (Array.getElem?_eq_some_iff.1 hq).1).trans hq⟩
      clear hc2
      have hc1 := hst1.1.cell
      have hc3 := hst1.2.2.1.cell
      have hc4 := hst1.2.2.2.2.1.cell
      gi_wp2
      gi_cut [] from 23 (fun wc => ∃ v2, Aside0 (ReplSt s gt lt w v2 ((replTo T s k).1 ++ (s.extract (replTo T s k).2.toNat x.1.toNat).data.toList) (replTo T s k).2 wc) ∧ Aside0 (KeepsFrom W0.heap.size W wc))
      case first =>
        obtain ⟨r1, r2, r3, _⟩ := hr
        obtain ⟨m1, m2, _, _⟩ := hm
        have r4 : (replTo T s k).2 ≤ x.1 := hle
        have m3 : x.1 ≤ (s.size : Int) := by omega
        have hlen : (replTo T s k).1.length + (s.extract (replTo T s k).2.toNat x.1.toNat).size ≤ 140737488355328 := by
          rw [ByteArray.size_extract]; omega
        have HL := Aside0.mk hlen
        clear hlen
        have HS := Aside0.mk hst1
        have hbs := hst1.2.2.2.2.2.2.size
        clear hst1
        obtain ⟨v', w2, hrun, ho, hg, _⟩ := Lib.run_append_own_string (P := Tryd.prog) w1.drew w.heap.size 56 9 56 5 i0 Tryd.underlying56 Tryd.underlying9 hi hz0 hz1 hz2 v (replTo T s k).1.length (byteVals (replTo T s k).1) HS.out.2.2.2.1 (s.extract (replTo T s k).2.toNat x.1.toNat) (by have := HL.out; unfold maxLen; omega) HL.out hbs
        rw [Each.app_fold] at hrun
        have hsize : (s.extract (replTo T s k).2.toNat x.1.toNat).size = x.1.toNat - (replTo T s k).2.toNat := by rw [ByteArray.size_extract]; omega
        obtain ⟨A', c', rfl⟩ := own_slice (n := (replTo T s k).1.length + (x.1.toNat - (replTo T s k).2.toNat)) (by rw [← hsize]; exact ho)
        obtain ⟨q1, q2, q3, q4⟩ := replSt_append HS.out ⟨⟨1, rfl⟩⟩ ho hg
        clear hsize
        have Q3 := Aside0.mk q3
        have Q4 := Aside0.mk q4
        clear ho hg q3 q4
        have KF := Aside0.mk (hk1.trans (Q4.out.from W0.heap.size))
        gi_region
        all_goals
          gi_wp2
          gi_meet
          case rel => exact ⟨_, Q3, KF⟩
      case rest =>
        obtain ⟨v2, hst2, hk2⟩ := hcut
        have hc3' := hst2.out.2.2.1.cell
        have hf3' := hst2.out.2.2.1.frozen
        have hbs := hst2.out.2.2.2.2.2.2.size
        have hlen : ((replTo T s k).1 ++ (s.extract (replTo T s k).2.toNat x.1.toNat).data.toList).length + (T x.2).1.size ≤ 140737488355328 := by
          obtain ⟨r1, r2, r3, _⟩ := hr
          obtain ⟨m1, m2, _, _⟩ := hm
          have h3 := HT.out x.2
          have e2 : (s.extract (replTo T s k).2.toNat x.1.toNat).data.toList.length = min x.1.toNat s.size - (replTo T s k).2.toNat := by
            show (s.extract (replTo T s k).2.toNat x.1.toNat).size = _
            simp [ByteArray.size_extract]
          rw [List.length_append, e2]
          omega
        obtain ⟨out2, ho2⟩ : ∃ o, (replTo T s k).1 ++ (s.extract (replTo T s k).2.toNat x.1.toNat).data.toList = o := ⟨_, rfl⟩
        rw [ho2] at hst2 hlen
        have HO2 := Aside0.mk ho2
        clear ho2
        obtain ⟨v3, w3, hrun, ho, hg, _⟩ := Lib.run_append_own_string (P := Tryd.prog) wc w.heap.size 56 9 56 5 i0 Tryd.underlying56 Tryd.underlying9 hi hz0 hz1 hz2 v2 _ _ hst2.out.2.2.2.1 (T x.2).1 (by unfold maxLen; omega) hlen hbs
        rw [Each.app_fold] at hrun
        obtain ⟨A', c', rfl⟩ := own_slice ho
        obtain ⟨q1, q2, q3, q4⟩ := replSt_append hst2.out ⟨⟨0, rfl⟩⟩ ho hg
        have hk3 := hk2.out.trans (q4.from W0.heap.size)
        have q5 := q3.2.2.2.2.1.cell
        have q6 := q3.2.2.2.2.1.frozen
        have m4 := hm.2.1
        have m5 := hm.1
        clear ho hg
        have Q3 := Aside0.mk q3
        have K3 := Aside0.mk hk3
        clear q3 hk3 q4
        gi_wp2
        refine ⟨K3.out.trans ((KeepsOthers.setCell _ _ _).from _), ?_, ?_⟩
        · have e1 := HST.out.2.2.2.2.2.1.cell
          have e2 := (replSt_at Q3.out (x.1 + 3)).2.2.2.2.2.1.cell
          exact e2.trans e1.symm
        · unfold ReplAt
          rw [hsucc.out]
          unfold replStep
          rw [if_pos hok, HO2.out]
          exact ⟨_, replSt_at Q3.out (x.1 + 3)⟩
  case done =>
    rintro D W hD ⟨v, hst⟩ hK
    obtain ⟨r1, r2, r3, _⟩ := replTo_range T s hT (escs s).length (Nat.le_refl _)
    clear hT
    have hsize : (s.extract (replTo T s (escs s).length).2.toNat s.size).size = s.size - (replTo T s (escs s).length).2.toNat := by rw [ByteArray.size_extract]; omega
    have hlen : (replTo T s (escs s).length).1.length + (s.extract (replTo T s (escs s).length).2.toNat s.size).size ≤ 140737488355328 := by rw [hsize]; omega
    have hbs := hst.2.2.2.2.2.2.size
    have hc1 := hst.1.cell
    have hc3 := hst.2.2.1.cell
    have hc4 := hst.2.2.2.2.1.cell
    obtain ⟨v', w2, hrun, ho, hg, _⟩ := Lib.run_append_own_string (P := Tryd.prog) W.drew w.heap.size 56 9 56 5 i0 Tryd.underlying56 Tryd.underlying9 hi hz0 hz1 hz2 v (replTo T s (escs s).length).1.length (byteVals (replTo T s (escs s).length).1) hst.2.2.2.1 (s.extract (replTo T s (escs s).length).2.toNat s.size) (by unfold maxLen; omega) hlen hbs
    rw [Each.app_fold] at hrun
    obtain ⟨xs, hxs⟩ : ∃ xs : List Int, (((replTo T s (escs s).length).1 ++ (s.extract (replTo T s (escs s).length).2.toNat s.size).data.toList).map fun b => (b.toNat : Int)) = xs := ⟨_, rfl⟩
    have ho2 := ho
    rw [byteVals_str, byteVals_append, hsize] at ho2
    have ho3 : w2.ownsRow w.heap.size 5 1 v' ((replTo T s (escs s).length).1.length + (s.size - (replTo T s (escs s).length).2.toNat)) (nums .u8 xs) := by
      rw [← hxs]
      unfold nums
      rw [List.map_map]
      exact ho2
    have hcv := own_string (P := Tryd.prog) Tryd.underlying56 Tryd.underlying5 Tryd.underlying9 ho3
    clear ho2 ho3
    have hfin : Aside0 (strOfNums xs = replF T s) := ⟨by
      rw [← hxs, strOfNums_bytes]
      rfl⟩
    clear hxs
    have hK2 : w2.heap[D]? = some (.deferred (some [])) := by
      have hDl : D < W.heap.size := (Array.getElem?_eq_some_iff.1 hK).1
      refine (hg.block D hDl fun e => ?_).trans hK
      obtain ⟨cells, hc⟩ := own_typed hst.2.2.2.1 D e.symm
      rw [hc] at hK
      cases hK
    have hbel : Below w.heap.size w w2 := by
      obtain ⟨a1, a2, a3, a4, a5, a6, a7⟩ := hst
      exact a7.trans (((Below.refl w.heap.size W).grown (w' := w2) (show W.grownBy w2 v.ownBlock from ⟨hg.os, hg.tape, hg.output, hg.size, hg.block⟩) a7.size fun j ej => own_base a4 j ej))
    have HB := Aside0.mk hbel
    obtain ⟨A', c', rfl⟩ := own_slice (n := (replTo T s (escs s).length).1.length + (s.size - (replTo T s (escs s).length).2.toNat)) (by rw [← hsize]; exact ho)
    clear hsize ho hg hbel hst hlen
    gi_wp2
    gi_region
    all_goals
      gi_wp2
      refine ⟨by simp, .inl ⟨_, _, rfl, run_takeDeferred hK2, ?_⟩⟩
      refine ⟨_, results_tmp rfl _ _ _, ?_, HB.out.trans (belowK_b (w := w) (Nat.le_refl _) w2 D _ _ (by omega) hK2 rfl rfl)⟩
      rw [hfin.out]
      rfl
end Rnd
def escape_Decode_1.f (a0 : Int) (a1 : Int) : Option (ByteArray × Bool) := some (strOfNums (([a1] : List Int)), true)
set_option maxHeartbeats 8000000 in
set_option maxRecDepth 100000 in
theorem escape_Decode_1.calls (a0 : Int) (a1 : Int) (r1 : ByteArray) (r2 : Bool) (w : World) (h : escape_Decode_1.f a0 a1 = some (r1, r2)) :
    Calls Tryd.prog 74 #[.int .i64 a0, .int .u8 a1] w fun e w' => e = .returned (.tuple #[.string r1, .bool r2]) ∧ Below w.heap.size w w' := by
  have HB := Aside0.mk (Below.refl w.heap.size w)
  have H : (some (strOfNums (([a1] : List Int)), true)) = some (r1, r2) := h
  clear h
  obtain ⟨y140, hy140⟩ : ∃ y_ : List Int, y_ = (([a1] : List Int)) := ⟨_, rfl⟩
  replace H : (some (strOfNums y140, true)) = some (r1, r2) := by first | (rw [hy140]; with_reducible exact H) | (have H2_ := (Option.bind_some _ _).symm.trans H; rw [hy140]; with_reducible exact H2_) | (have H2_ := (Option.bind_some _ _).symm.trans H; with_reducible exact H2_) | with_reducible exact H | (rw [hy140]; exact H) | exact H
  have Ny140 := Aside0.mk hy140
  clear hy140
  simp only [Option.some.injEq, Prod.mk.injEq] at H
  obtain ⟨rfl, rfl⟩ := H
  go_enter Tryd.func74, Tryd.ntmps74
  go_wp2_with (first | ((with_reducible refine gate_dst (N := 7) rfl ?_); refine Kd.R_lit (Kd.int .u8) _ 5 ?hg (N := 7) ?hd (xs := ([a1] : List Int)) (inner := [.int .u8 a1]) (ok := fun _ => True) (okp := fun _ => True) ?hr ?hp (fun _ hk => hk) trivial (Below.refl _ _) (Nat.le_refl _) (by simp) ?_; (case hd => rfl); (case hg => rfl); (case hr => first | (go_simp; done) | (go_simp; rfl)); (case hp => exact (Reps.one (show Kd.M (Kd.int .u8) _ _ _ a1 [.int .u8 a1] from rfl) (Reps.none _ _))); intro v141 w3 ho4 hb hg_ hnew_; clear hg_ hnew_; (first | rw [← Ny140.out] at ho4 | (simp only [Int.reduceToNat] at ho4; rw [← Ny140.out] at ho4)); have n0_ := Aside0.mk (Kd.R_lower ho4 (below_size (by repeat (first | (with_reducible first | exact HB.out | apply below_alloc | apply pw_below_drewN | apply below_drew1) | exact HB.out)))); have n1_ := Aside0.mk (below_step (by repeat (first | (with_reducible first | exact HB.out | apply below_alloc | apply pw_below_drewN | apply below_drew1) | exact HB.out)) hb); clear HB; have HO142 := n0_; have HB := n1_; clear n0_ n1_; clear hb ho4; have hcv5 := own_string (P := Tryd.prog) Tryd.underlying56 Tryd.underlying5 Tryd.underlying9 (Kd.own_of_R HO142.out)))
  go_ret2
  exact ⟨by first | rfl | (simp [errW_none, errW_some] <;> rfl) | (simp [*, errW_none, errW_some] <;> rfl) | (simp [*, errW_none, errW_some, Glue.bne_nil] <;> rfl), by repeat (first | (with_reducible first | exact HB.out | apply below_alloc | apply pw_below_drewN | apply below_drew1) | exact HB.out)⟩
def decT (b : Int) : ByteArray × Bool := (strOfNums [b], true)
theorem decT_size (b : Int) : (decT b).1.size ≤ 3 := by simp [decT, strOfNums, ByteArray.size]
def escape_Decode.f (a0 : ByteArray) : Option (ByteArray × Bool) := if a0.size ≤ 140737488355328 then some (if right a0 = true then (replF decT a0, true) else ((⟨#[]⟩ : ByteArray), false)) else none
set_option maxHeartbeats 1000000 in
theorem escape_Decode.calls (a0 : ByteArray) (r1 : ByteArray) (r2 : Bool) (w : World) (h : escape_Decode.f a0 = some (r1, r2)) :
    Calls Tryd.prog 46 #[.string a0] w fun e w' => e = .returned (.tuple #[.string r1, .bool r2]) ∧ Below w.heap.size w w' := by
  unfold escape_Decode.f at h
  split at h
  case isFalse => cases h
  rename_i hs
  have h := Option.some.inj h
  have hright := Aside0.mk (fun W => escape_Right.calls a0 (right a0) W (by unfold escape_Right.f; rw [if_pos hs]))
  cases hr : right a0 with
  | false =>
    rw [hr, if_neg (by simp)] at h
    injection h with h1 h2
    subst h1 h2
    rw [hr] at hright
    clear hr
    go_enter Tryd.func46, Tryd.ntmps46
    go_wp2_with (go_at_call 72; refine (hright.out _).mono ?_; rintro e w1 ⟨rfl, hb1⟩; have HB := Aside0.mk hb1)
    go_ret2
    exact ⟨rfl, HB.out⟩
  | true =>
    rw [hr, if_pos rfl] at h
    injection h with h1 h2
    subst h1 h2
    rw [hr] at hright
    clear hr
    have hrep := Aside0.mk (fun W => escape_replace_calls decT decT_size a0 hs 74 #[] W (fun args w => by simp [go_sem]) (fun at_ b W' _ _ _ => escape_Decode_1.calls at_ b (strOfNums [b]) true W' rfl))
    go_enter Tryd.func46, Tryd.ntmps46
    go_wp2_with (first | (go_at_call 72; refine (hright.out _).mono ?_; rintro e w1 ⟨rfl, hb1⟩; have HB := Aside0.mk hb1) | (go_at_call 73; refine (hrep.out _).mono ?_; rintro e w2 ⟨rfl, hb2⟩; have HB2 := Aside0.mk hb2))
    go_ret2
    exact ⟨rfl, HB.out.trans (HB2.out.mono HB.out.size)⟩
end Go.Proofs.YtoalibnaoophgaaDoor.P
