import Derived.Carry
import Derived.Great.BuildSlice
import Derived.Laws.EntriesVeiled
import Derived.Laws.Rows
import Derived.Lib.Hide
import Derived.MapKept
import Derived.Maps.OwnOps
import Derived.OwnWalk
import Derived.OwnWalkIn
import Derived.Test.YtehddihmndpgaaaGreatDoorB03
import Derived.Test.YtehddihmndpgaaaGreatDoorB04
import Derived.Test.YtehddihmndpgaaaGreatDoorB05
import Derived.Test.YtehddihmndpgaaaGreatDoorB06
import Derived.Test.YtehddihmndpgaaaGreatDoorB07
import Derived.Test.YtehddihmndpgaaaGreatDoorB08
import Derived.Test.YtehddihmndpgaaaGreatDoorB09
import Derived.Test.YtehddihmndpgaaaGreatDoorB10
import Derived.Test.YtehddihmndpgaaaGreatDoorB11
import Derived.Test.YtehddihmndpgaaaGreatDoorB12
import Derived.Test.YtehddihmndpgaaaGreatDoorB13
section
set_option linter.unusedSimpArgs false
namespace Go.Proofs.Lw
open Go.RowKit Go.Proofs.YtehddihmndpgaaaGreatDoorW.PrintWords Go.Proofs.YtehddihmndpgaaaGreatDoor.PLib
open Ldg (St cmpS cmpI)
theorem cmpI_f (a b : Int) : cmp_Compare_int.f a b = some (cmpI a b) := by
  unfold cmp_Compare_int.f cmp_isNaN_int.f cmpI
  simp only [bne_self_eq_false, Option.bind_some, Bool.false_eq_true, if_false, gt_iff_lt]
  repeat' split
  all_goals first | rfl | omega
theorem first_f (a b c : Int) : stamps_first.f 4 [a, b, c] = some (if a ≠ 0 then a else if b ≠ 0 then b else c) := by
  unfold stamps_first.f
  have r0 : rd [a, b, c] 0 = a := rfl
  have r1 : rd [a, b, c] 1 = b := rfl
  have r2 : rd [a, b, c] 2 = c := rfl
  simp only [stamps_first.l0, List.length_cons, List.length_nil, r0]
  by_cases ha : a = 0
  · by_cases hb : b = 0
    · by_cases hc : c = 0
      · simp [ha, hb, hc, r1, r2, rd, wrap64]
      · simp [ha, hb, hc, r1, r2, rd, wrap64]
    · simp [ha, hb, r1, rd, wrap64]
  · simp [ha]
theorem cmp_f (a b : St) : stamps_Compare.f 4 a.time a.campus a.no b.time b.campus b.no = some (cmpS a b) := by
  unfold stamps_Compare.f
  by_cases h : a = b
  · subst h
    simp [Ldg.cmpS_self]
  · have hn : ¬ (a.time == b.time && (a.campus == b.campus && (a.no == b.no))) = true := by
      intro hh
      simp only [Bool.and_eq_true, beq_iff_eq] at hh
      exact h (Ldg.St.ext_ hh.1 hh.2.1 hh.2.2)
    rw [if_neg hn]
    simp only [cmpI_f, Option.bind_some, first_f]
    rfl
theorem cmp_any (a0 a1 a2 b0 b1 b2 : Int) (w : World) : Calls Tryz.prog 33 #[.agg #[.int .i64 a0, .int .i64 a1, .int .i64 a2], .agg #[.int .i64 b0, .int .i64 b1, .int .i64 b2]] w fun e w' =>
    e = .returned (.int .i64 (cmpS ⟨a0, a1, a2⟩ ⟨b0, b1, b2⟩)) ∧ Below w.heap.size w w' :=
  stamps_Compare.calls 4 a0 a1 a2 b0 b1 b2 _ w (cmp_f ⟨a0, a1, a2⟩ ⟨b0, b1, b2⟩)
instance (s : St) : Decidable (Ldg.StOK s) := by unfold Ldg.StOK; exact inferInstance
theorem scheck_f (s : St) : stamps_Check.f s.time s.campus s.no = some (if Ldg.StOK s then 0 else 80) := by
  unfold stamps_Check.f stamps_within.f Ldg.StOK
  by_cases h1 : s.time ≥ 1
  · by_cases h2 : s.time ≤ 1048576
    · by_cases h3 : s.campus ≥ 0
      · by_cases h4 : s.campus ≤ 6
        · by_cases h5 : s.no ≥ 1
          · by_cases h6 : s.no ≤ 1048576
            · simp [h1, h2, h3, h4, h5, h6]
            · simp [h1, h2, h3, h4, h5, h6]; 
          · simp [h1, h2, h3, h4, h5]
        · simp [h1, h2, h3, h4]
      · simp [h1, h2, h3]
    · simp [h1, h2]
  · simp [h1]
theorem scheck_any (s0 s1 s2 : Int) (w : World) : Calls Tryz.prog 29 #[.agg #[.int .i64 s0, .int .i64 s1, .int .i64 s2]] w fun e w' => e = .returned (.int .i64 (if Ldg.StOK ⟨s0, s1, s2⟩ then 0 else 80)) ∧ Below w.heap.size w w' :=
  stamps_Check.calls s0 s1 s2 _ w (scheck_f ⟨s0, s1, s2⟩)
end Go.Proofs.Lw
end
section
set_option linter.unusedSimpArgs false
set_option linter.unusedVariables false
namespace Go.Proofs.Lw
open Go.RowKit Go.Proofs.YtehddihmndpgaaaGreatDoorW.PrintWords Go.Proofs.YtehddihmndpgaaaGreatDoor.PLib
theorem wrap_up {i n : Nat} (h : i < n) (hn : n ≤ 9223372036854775807) : wrap64 ((i : Int) + 1) = ((i + 1 : Nat) : Int) := by unfold wrap64; omega
theorem drop_eq_iff {α : Type} {x y : List α} {i : Nat} (hx : i < x.length) (hy : i < y.length) : x.drop i = y.drop i ↔ x[i] = y[i] ∧ x.drop (i + 1) = y.drop (i + 1) := by
  rw [List.drop_eq_getElem_cons hx, List.drop_eq_getElem_cons hy, List.cons.injEq]
theorem ne_S113 (a b : S113) : (!(a.f0 == b.f0) || (!(a.f1 == b.f1) || (!(a.f2 == b.f2) || (!(a.f3 == b.f3) || (!(a.f4 == b.f4)))))) = true ↔ ¬ a = b := by
  obtain ⟨a0, a1, a2, a3, a4⟩ := a
  obtain ⟨b0, b1, b2, b3, b4⟩ := b
  simp only [Bool.or_eq_true, Bool.not_eq_true', beq_eq_false_iff_ne, S113.mk.injEq, ne_eq]
  grind
theorem api_Meeting_l0 (x y : List S113) (h : x.length = y.length) (hn : x.length ≤ 9223372036854775807) : ∀ (d k i : Nat), x.length - i = d → d < k → i ≤ x.length →
    ∃ b, api_Meeting.l0 k x y (x.length : Int) (i : Int) = some b ∧ (b = true ↔ x.drop i = y.drop i) := by
  intro d
  induction d with
  | zero =>
    intro k i hd hk hi
    obtain ⟨k, rfl⟩ : ∃ m, k = m + 1 := ⟨k - 1, by omega⟩
    refine ⟨true, by simp only [api_Meeting.l0]; rw [if_neg (by omega)], ?_⟩
    rw [List.drop_eq_nil_of_le (by omega), List.drop_eq_nil_of_le (by omega)]
    simp
  | succ d ih =>
    intro k i hd hk hi
    obtain ⟨k, rfl⟩ : ∃ m, k = m + 1 := ⟨k - 1, by omega⟩
    have hx : i < x.length := by omega
    have hy : i < y.length := by omega
    have ex : rd_T113 x (i : Int) = x[i] := by simp [rd_T113, List.getD_eq_getElem?_getD, List.getElem?_eq_getElem hx]
    have ey : rd_T113 y (i : Int) = y[i] := by simp [rd_T113, List.getD_eq_getElem?_getD, List.getElem?_eq_getElem hy]
    simp only [api_Meeting.l0]
    rw [if_pos (by omega), if_pos (by omega), if_pos (by omega), if_pos (by omega), ex, ey, drop_eq_iff hx hy]
    by_cases e : x[i] = y[i]
    · rw [if_neg (by rw [ne_S113]; simpa using e)]
      obtain ⟨b, hb, hiff⟩ := ih k (i + 1) (by omega) (by omega) (by omega)
      rw [wrap_up hx hn, hb]
      exact ⟨b, rfl, by rw [hiff]; exact ⟨fun h => ⟨e, h⟩, fun h => h.2⟩⟩
    · rw [if_pos ((ne_S113 _ _).2 e)]
      exact ⟨false, rfl, by simp [e]⟩
theorem api_Meeting_f (x y : List S113) (hn : x.length ≤ 9223372036854775807) (k : Nat) (hk : x.length < k) : ∃ b, api_Meeting.f k x y = some b ∧ (b = true ↔ x = y) := by
  unfold api_Meeting.f
  by_cases h : x.length = y.length
  · rw [if_pos (by omega)]
    obtain ⟨b, hb, hiff⟩ := api_Meeting_l0 x y h hn x.length k 0 (by omega) hk (by omega)
    exact ⟨b, hb, by simpa using hiff⟩
  · rw [if_neg (by omega)]
    exact ⟨false, rfl, by simp; rintro rfl; exact h rfl⟩
theorem ne_S115 (a b : S115) : (!(a.f0 == b.f0) || (!(a.f1 == b.f1) || (!(a.f2 == b.f2)))) = true ↔ ¬ a = b := by
  obtain ⟨a0, a1, a2⟩ := a
  obtain ⟨b0, b1, b2⟩ := b
  simp only [Bool.or_eq_true, Bool.not_eq_true', beq_eq_false_iff_ne, S115.mk.injEq, ne_eq]
  grind
theorem api_Group_l0 (x y : List S115) (h : x.length = y.length) (hn : x.length ≤ 9223372036854775807) : ∀ (d k i : Nat), x.length - i = d → d < k → i ≤ x.length →
    ∃ b, api_Group.l0 k x y (x.length : Int) (i : Int) = some b ∧ (b = true ↔ x.drop i = y.drop i) := by
  intro d
  induction d with
  | zero =>
    intro k i hd hk hi
    obtain ⟨k, rfl⟩ : ∃ m, k = m + 1 := ⟨k - 1, by omega⟩
    refine ⟨true, by simp only [api_Group.l0]; rw [if_neg (by omega)], ?_⟩
    rw [List.drop_eq_nil_of_le (by omega), List.drop_eq_nil_of_le (by omega)]
    simp
  | succ d ih =>
    intro k i hd hk hi
    obtain ⟨k, rfl⟩ : ∃ m, k = m + 1 := ⟨k - 1, by omega⟩
    have hx : i < x.length := by omega
    have hy : i < y.length := by omega
    have ex : rd_T115 x (i : Int) = x[i] := by simp [rd_T115, List.getD_eq_getElem?_getD, List.getElem?_eq_getElem hx]
    have ey : rd_T115 y (i : Int) = y[i] := by simp [rd_T115, List.getD_eq_getElem?_getD, List.getElem?_eq_getElem hy]
    simp only [api_Group.l0]
    rw [if_pos (by omega), if_pos (by omega), if_pos (by omega), if_pos (by omega), ex, ey, drop_eq_iff hx hy]
    by_cases e : x[i] = y[i]
    · rw [if_neg (by rw [ne_S115]; simpa using e)]
      obtain ⟨b, hb, hiff⟩ := ih k (i + 1) (by omega) (by omega) (by omega)
      rw [wrap_up hx hn, hb]
      exact ⟨b, rfl, by rw [hiff]; exact ⟨fun h => ⟨e, h⟩, fun h => h.2⟩⟩
    · rw [if_pos ((ne_S115 _ _).2 e)]
      exact ⟨false, rfl, by simp [e]⟩
theorem api_Group_f (x y : List S115) (hn : x.length ≤ 9223372036854775807) (k : Nat) (hk : x.length < k) : ∃ b, api_Group.f k x y = some b ∧ (b = true ↔ x = y) := by
  unfold api_Group.f
  by_cases h : x.length = y.length
  · rw [if_pos (by omega)]
    obtain ⟨b, hb, hiff⟩ := api_Group_l0 x y h hn x.length k 0 (by omega) hk (by omega)
    exact ⟨b, hb, by simpa using hiff⟩
  · rw [if_neg (by omega)]
    exact ⟨false, rfl, by simp; rintro rfl; exact h rfl⟩
theorem ne_S42 (a b : S42) : (!(a.f0 == b.f0) || (!(a.f1 == b.f1))) = true ↔ ¬ a = b := by
  obtain ⟨a0, a1⟩ := a
  obtain ⟨b0, b1⟩ := b
  simp only [Bool.or_eq_true, Bool.not_eq_true', beq_eq_false_iff_ne, S42.mk.injEq, ne_eq]
  grind
theorem api_Bundle_77_l0 (x y : List S42) (h : x.length = y.length) (hn : x.length ≤ 9223372036854775807) : ∀ (d k i : Nat), x.length - i = d → d < k → i ≤ x.length →
    ∃ b, api_Bundle_77.l0 k x y (x.length : Int) (i : Int) = some b ∧ (b = true ↔ x.drop i = y.drop i) := by
  intro d
  induction d with
  | zero =>
    intro k i hd hk hi
    obtain ⟨k, rfl⟩ : ∃ m, k = m + 1 := ⟨k - 1, by omega⟩
    refine ⟨true, by simp only [api_Bundle_77.l0]; rw [if_neg (by omega)], ?_⟩
    rw [List.drop_eq_nil_of_le (by omega), List.drop_eq_nil_of_le (by omega)]
    simp
  | succ d ih =>
    intro k i hd hk hi
    obtain ⟨k, rfl⟩ : ∃ m, k = m + 1 := ⟨k - 1, by omega⟩
    have hx : i < x.length := by omega
    have hy : i < y.length := by omega
    have ex : rd_T42 x (i : Int) = x[i] := by simp [rd_T42, List.getD_eq_getElem?_getD, List.getElem?_eq_getElem hx]
    have ey : rd_T42 y (i : Int) = y[i] := by simp [rd_T42, List.getD_eq_getElem?_getD, List.getElem?_eq_getElem hy]
    simp only [api_Bundle_77.l0]
    rw [if_pos (by omega), if_pos (by omega), if_pos (by omega), if_pos (by omega), ex, ey, drop_eq_iff hx hy]
    by_cases e : x[i] = y[i]
    · rw [if_neg (by rw [ne_S42]; simpa using e)]
      obtain ⟨b, hb, hiff⟩ := ih k (i + 1) (by omega) (by omega) (by omega)
      rw [wrap_up hx hn, hb]
      exact ⟨b, rfl, by rw [hiff]; exact ⟨fun h => ⟨e, h⟩, fun h => h.2⟩⟩
    · rw [if_pos ((ne_S42 _ _).2 e)]
      exact ⟨false, rfl, by simp [e]⟩
theorem api_Bundle_77_f (x y : List S42) (hn : x.length ≤ 9223372036854775807) (k : Nat) (hk : x.length < k) : ∃ b, api_Bundle_77.f k x y = some b ∧ (b = true ↔ x = y) := by
  unfold api_Bundle_77.f
  by_cases h : x.length = y.length
  · rw [if_pos (by omega)]
    obtain ⟨b, hb, hiff⟩ := api_Bundle_77_l0 x y h hn x.length k 0 (by omega) hk (by omega)
    exact ⟨b, hb, by simpa using hiff⟩
  · rw [if_neg (by omega)]
    exact ⟨false, rfl, by simp; rintro rfl; exact h rfl⟩
theorem slices_Equal_int_int_l0 (x y : List Int) (h : x.length = y.length) (hn : x.length ≤ 9223372036854775807) : ∀ (d k i : Nat), x.length - i = d → d < k → i ≤ x.length →
    ∃ b, slices_Equal_int_int.l0 k x y (x.length : Int) (i : Int) = some b ∧ (b = true ↔ x.drop i = y.drop i) := by
  intro d
  induction d with
  | zero =>
    intro k i hd hk hi
    obtain ⟨k, rfl⟩ : ∃ m, k = m + 1 := ⟨k - 1, by omega⟩
    refine ⟨true, by simp only [slices_Equal_int_int.l0]; rw [if_neg (by omega)], ?_⟩
    rw [List.drop_eq_nil_of_le (by omega), List.drop_eq_nil_of_le (by omega)]
    simp
  | succ d ih =>
    intro k i hd hk hi
    obtain ⟨k, rfl⟩ : ∃ m, k = m + 1 := ⟨k - 1, by omega⟩
    have hx : i < x.length := by omega
    have hy : i < y.length := by omega
    have ex : rd x (i : Int) = x[i] := by simp [rd, List.getD_eq_getElem?_getD, List.getElem?_eq_getElem hx]
    have ey : rd y (i : Int) = y[i] := by simp [rd, List.getD_eq_getElem?_getD, List.getElem?_eq_getElem hy]
    simp only [slices_Equal_int_int.l0]
    rw [if_pos (by omega), if_pos (by omega), if_pos (by omega), if_pos (by omega), ex, ey, drop_eq_iff hx hy]
    by_cases e : x[i] = y[i]
    · rw [if_pos e]
      obtain ⟨b, hb, hiff⟩ := ih k (i + 1) (by omega) (by omega) (by omega)
      rw [wrap_up hx hn, hb]
      exact ⟨b, rfl, by rw [hiff]; exact ⟨fun h => ⟨e, h⟩, fun h => h.2⟩⟩
    · rw [if_neg e]
      exact ⟨false, rfl, by simp [e]⟩
theorem slices_Equal_int_int_f (x y : List Int) (hn : x.length ≤ 9223372036854775807) (k : Nat) (hk : x.length < k) : ∃ b, slices_Equal_int_int.f k x y = some b ∧ (b = true ↔ x = y) := by
  unfold slices_Equal_int_int.f
  by_cases h : x.length = y.length
  · rw [if_pos (by omega)]
    obtain ⟨b, hb, hiff⟩ := slices_Equal_int_int_l0 x y h hn x.length k 0 (by omega) hk (by omega)
    exact ⟨b, hb, by simpa using hiff⟩
  · rw [if_neg (by omega)]
    exact ⟨false, rfl, by simp; rintro rfl; exact h rfl⟩
theorem bytes_ext {a b : ByteArray} (h : a.toList = b.toList) : a = b := by
  rw [ByteArray.toList_eq, ByteArray.toList_eq] at h
  obtain ⟨⟨x⟩⟩ := a
  obtain ⟨⟨y⟩⟩ := b
  simp_all
theorem sameSection_f (x y : S39) (k : Nat) (h5 : x.f5.length < k ∧ x.f5.length ≤ 9223372036854775807) (h6 : x.f6.length < k ∧ x.f6.length ≤ 9223372036854775807) (h7 : x.f7.length < k ∧ x.f7.length ≤ 9223372036854775807) :
    ∃ b, entries_sameSection.f k x.f0 x.f1 x.f2 x.f3 x.f4 x.f5 x.f6 x.f7 x.f8 y.f0 y.f1 y.f2 y.f3 y.f4 y.f5 y.f6 y.f7 y.f8 = some b ∧ (b = true ↔ x = y) := by
  obtain ⟨b5, e5, i5⟩ := api_Meeting_f x.f5 y.f5 h5.2 k h5.1
  obtain ⟨b6, e6, i6⟩ := api_Group_f x.f6 y.f6 h6.2 k h6.1
  obtain ⟨b7, e7, i7⟩ := slices_Equal_int_int_f x.f7 y.f7 h7.2 k h7.1
  obtain ⟨a0, a1, a2, a3, a4, a5, a6, a7, a8⟩ := x
  obtain ⟨c0, c1, c2, c3, c4, c5, c6, c7, c8⟩ := y
  dsimp only at *
  unfold entries_sameSection.f
  rw [e5, e6, e7]
  simp only [Option.bind_some, S39.mk.injEq]
  rcases Classical.em (a0 = c0) with h0 | h0; rotate_left; exact ⟨false, by rw [if_neg h0], by simp [h0]⟩
  rcases Classical.em (a1 = c1) with h1 | h1; rotate_left; exact ⟨false, by rw [if_pos h0, if_neg h1], by simp [h1]⟩
  rcases Classical.em (a2 = c2) with h2 | h2; rotate_left; exact ⟨false, by rw [if_pos h0, if_pos h1, if_neg h2], by simp [h2]⟩
  rcases Classical.em (a3 = c3) with h3 | h3; rotate_left; exact ⟨false, by rw [if_pos h0, if_pos h1, if_pos h2, if_neg h3], by simp [h3]⟩
  rcases Classical.em (a4 = c4) with h4 | h4; rotate_left; exact ⟨false, by rw [if_pos h0, if_pos h1, if_pos h2, if_pos h3, if_neg h4], by simp [h4]⟩
  rw [if_pos h0, if_pos h1, if_pos h2, if_pos h3, if_pos h4]
  rcases Classical.em (a8 = c8) with h8 | h8; rotate_left; exact ⟨false, by rw [if_neg (by simpa using h8)], by simp [h8]⟩
  rw [if_pos (by simpa using h8)]
  cases b5
  · exact ⟨false, by simp, by simp at i5; simp [i5]⟩
  cases b6
  · exact ⟨false, by simp, by simp at i6; simp [i6]⟩
  refine ⟨b7, by simp, ?_⟩
  simp at i5 i6
  simp [i5, i6, i7, h0, h1, h2, h3, h4, h8]
theorem sameRequest_f (x y : S44) (k : Nat) (h5 : x.f5.length < k ∧ x.f5.length ≤ 9223372036854775807) :
    ∃ b, entries_sameRequest.f k x.f0 x.f1 x.f2 x.f3 x.f4 x.f5 x.f6.f0 x.f6.f1 x.f7 y.f0 y.f1 y.f2 y.f3 y.f4 y.f5 y.f6.f0 y.f6.f1 y.f7 = some b ∧ (b = true ↔ x = y) := by
  obtain ⟨b5, e5, i5⟩ := api_Bundle_77_f x.f5 y.f5 h5.2 k h5.1
  obtain ⟨a0, a1, a2, a3, a4, a5, ⟨a6, a6'⟩, a7⟩ := x
  obtain ⟨c0, c1, c2, c3, c4, c5, ⟨c6, c6'⟩, c7⟩ := y
  dsimp only at *
  unfold entries_sameRequest.f
  rw [e5]
  simp only [Option.bind_some, S44.mk.injEq, S42.mk.injEq]
  rcases Classical.em (a0 = c0) with h0 | h0; rotate_left; exact ⟨false, by rw [if_neg h0], by simp [h0]⟩
  rcases Classical.em (a1 = c1) with h1 | h1; rotate_left; exact ⟨false, by rw [if_pos h0, if_neg h1], by simp [h1]⟩
  rcases Classical.em (a2 = c2) with h2 | h2; rotate_left; exact ⟨false, by rw [if_pos h0, if_pos h1, if_neg h2], by simp [h2]⟩
  rcases Classical.em (a3 = c3) with h3 | h3; rotate_left; exact ⟨false, by rw [if_pos h0, if_pos h1, if_pos h2, if_neg h3], by simp [h3]⟩
  rcases Classical.em (a4 = c4) with h4 | h4; rotate_left; exact ⟨false, by rw [if_pos h0, if_pos h1, if_pos h2, if_pos h3, if_neg h4], by simp [h4]⟩
  rw [if_pos h0, if_pos h1, if_pos h2, if_pos h3, if_pos h4]
  cases b5
  · exact ⟨false, by simp, by simp at i5; simp [i5]⟩
  simp at i5
  by_cases h6 : a6 = c6 ∧ a6' = c6'
  · refine ⟨a7 == c7, by simp [h6.1, h6.2], ?_⟩
    simp [i5, h0, h1, h2, h3, h4, h6.1, h6.2]
  · refine ⟨false, ?_, ?_⟩
    · rw [if_pos rfl, if_neg (by simpa using h6)]
    · simp; intros; exact fun h => absurd h (by grind)
def big (x : S48) (k : Nat) : Prop := (x.f8.f5.length < k ∧ x.f8.f5.length ≤ 9223372036854775807) ∧ (x.f8.f6.length < k ∧ x.f8.f6.length ≤ 9223372036854775807) ∧ (x.f8.f7.length < k ∧ x.f8.f7.length ≤ 9223372036854775807) ∧ (x.f9.f5.length < k ∧ x.f9.f5.length ≤ 9223372036854775807)
theorem same_f (x y : S48) (k : Nat) (hb : big x k) :
    ∃ b, entries_Same.f k x.f0.f0 x.f0.f1 x.f0.f2 x.f1 x.f2 x.f3 x.f4 x.f5 x.f6.f0 x.f6.f1 x.f7 x.f8.f0 x.f8.f1 x.f8.f2 x.f8.f3 x.f8.f4 x.f8.f5 x.f8.f6 x.f8.f7 x.f8.f8 x.f9.f0 x.f9.f1 x.f9.f2 x.f9.f3 x.f9.f4 x.f9.f5 x.f9.f6.f0 x.f9.f6.f1 x.f9.f7 x.f10.f0 x.f10.f1
      y.f0.f0 y.f0.f1 y.f0.f2 y.f1 y.f2 y.f3 y.f4 y.f5 y.f6.f0 y.f6.f1 y.f7 y.f8.f0 y.f8.f1 y.f8.f2 y.f8.f3 y.f8.f4 y.f8.f5 y.f8.f6 y.f8.f7 y.f8.f8 y.f9.f0 y.f9.f1 y.f9.f2 y.f9.f3 y.f9.f4 y.f9.f5 y.f9.f6.f0 y.f9.f6.f1 y.f9.f7 y.f10.f0 y.f10.f1 = some b ∧ (b = true ↔ x = y) := by
  obtain ⟨bs, es, is⟩ := sameSection_f x.f8 y.f8 k hb.1 hb.2.1 hb.2.2.1
  obtain ⟨bq, eq, iq⟩ := sameRequest_f x.f9 y.f9 k hb.2.2.2
  obtain ⟨⟨a0, a0', a0''⟩, a1, a2, a3, a4, a5, ⟨a6, a6'⟩, a7, a8, a9, ⟨a10, a10'⟩⟩ := x
  obtain ⟨⟨c0, c0', c0''⟩, c1, c2, c3, c4, c5, ⟨c6, c6'⟩, c7, c8, c9, ⟨c10, c10'⟩⟩ := y
  dsimp only at *
  unfold entries_Same.f
  rw [es, eq]
  simp only [Option.bind_some, S48.mk.injEq, S32.mk.injEq, S34.mk.injEq, S46.mk.injEq]
  rcases Classical.em (a0 = c0 ∧ a0' = c0' ∧ a0'' = c0'') with h0 | h0; rotate_left; exact ⟨false, by rw [if_neg (by simpa using h0)], by simp [h0]⟩
  rw [if_pos (by simpa using h0)]
  rcases Classical.em (a1 = c1) with h1 | h1; rotate_left; exact ⟨false, by rw [if_neg h1], by simp [h1]⟩
  rcases Classical.em (a2 = c2) with h2 | h2; rotate_left; exact ⟨false, by rw [if_pos h1, if_neg h2], by simp [h2]⟩
  rcases Classical.em (a3 = c3) with h3 | h3; rotate_left; exact ⟨false, by rw [if_pos h1, if_pos h2, if_neg h3], by simp [h3]⟩
  rcases Classical.em (a4 = c4) with h4 | h4; rotate_left; exact ⟨false, by rw [if_pos h1, if_pos h2, if_pos h3, if_neg h4], by simp [h4]⟩
  rcases Classical.em (a5 = c5) with h5 | h5; rotate_left; exact ⟨false, by rw [if_pos h1, if_pos h2, if_pos h3, if_pos h4, if_neg h5], by simp [h5]⟩
  rw [if_pos h1, if_pos h2, if_pos h3, if_pos h4, if_pos h5]
  rcases Classical.em (a6 = c6 ∧ a6' = c6') with h6 | h6; rotate_left; exact ⟨false, by rw [if_neg (by simpa using h6)], by simp [h6]⟩
  rw [if_pos (by simpa using h6)]
  have e7 : a7.toList = c7.toList ↔ a7 = c7 := ⟨fun h => bytes_ext h, fun h => by rw [h]⟩
  rcases Classical.em (a7 = c7) with h7 | h7; rotate_left; exact ⟨false, by rw [if_neg (fun h => h7 (e7.1 h))], by simp [h7]⟩
  rw [if_pos (e7.2 h7)]
  cases bs
  · exact ⟨false, by simp, by simp at is; simp [is]⟩
  cases bq
  · exact ⟨false, by simp, by simp at iq; simp [iq]⟩
  simp at is iq
  refine ⟨_, rfl, ?_⟩
  simp [is, iq, h0.1, h0.2.1, h0.2.2, h1, h2, h3, h4, h5, h6.1, h6.2, h7]
def bigK (x : S48) : Nat := x.f8.f5.length + x.f8.f6.length + x.f8.f7.length + x.f9.f5.length + 1
theorem k48_big {w : World} {x : S48} {cs : List Value} (h : k48.K w x cs) : big x (bigK x) := by
  obtain ⟨_, _, _, _, _, _, _, _, _, _, h5, _, h6, _, h7, _, hc⟩ := k48_open h
  unfold big bigK
  exact ⟨⟨by omega, h5.2.1⟩, ⟨by omega, h6.2.1⟩, ⟨by omega, h7.2.1⟩, ⟨by omega, hc.2.1⟩⟩
noncomputable instance : DecidableEq S48 := fun _ _ => Classical.propDecidable _
theorem same_any (x y : S48) (cx cy : List Value) (w : World) (hx : k48.K w x cx) (hy : k48.K w y cy) : Calls Tryz.prog 32 #[.agg cx.toArray, .agg cy.toArray] w fun e w' =>
    e = .returned (.bool (decide (x = y))) ∧ Below w.heap.size w w' := by
  obtain ⟨b, hb, hi⟩ := same_f x y _ (k48_big hx)
  have hd : b = decide (x = y) := by
    cases b
    · simp only [Bool.false_eq_true, false_iff] at hi; simp [hi]
    · simp only [true_iff] at hi; simp [hi]
  obtain ⟨A5, c5, A6, c6, A7, c7, A9, c9, rfl, l5, h5, l6, h6, l7, h7, l9, h9⟩ := k48_open hx
  obtain ⟨B5, d5, B6, d6, B7, d7, B9, d9, rfl, m5, i5, m6, i6, m7, i7, m9, i9⟩ := k48_open hy
  rw [← hd]
  exact entries_Same.calls _ _ _ _ _ _ _ _ _ _ _ _ _ _ _ _ _ A5 c5 _ A6 c6 _ A7 c7 _ _ _ _ _ _ _ A9 c9 _ _ _ _ _ _ _ _ _ _ _ _ _ _ _ _ _ _ _ _ _ _ B5 d5 _ B6 d6 _ B7 d7 _ _ _ _ _ _ _ B9 d9 _ _ _ _ _ _ b w h5 l5 h6 l6 h7 l7 h9 l9 i5 m5 i6 m6 i7 m7 i9 m9 hb
end Go.Proofs.Lw
end
section
set_option linter.unusedSimpArgs false
set_option linter.unusedVariables false
namespace Go.Proofs.Lw
open Go.RowKit Go.Proofs.YtehddihmndpgaaaGreatDoorW.PrintWords Go.Proofs.YtehddihmndpgaaaGreatDoor.PLib
def z39 : S39 := ⟨0, 0, 0, 0, 0, [], [], [], false⟩
def z44 : S44 := ⟨0, 0, 0, 0, 0, [], ⟨0, 0⟩, 0⟩
def zeroE : S48 := ⟨⟨0, 0, 0⟩, 0, 0, 0, 0, 0, ⟨0, 0⟩, ByteArray.empty, z39, z44, ⟨0, 0⟩⟩
def tickE (a b c : Int) : S48 := ⟨⟨a, b, c⟩, 9, 0, 0, 3, 0, ⟨0, 0⟩, ByteArray.empty, z39, z44, ⟨0, 0⟩⟩
def cells48 (a b c k t : Int) : List Value := [.int .i64 a, .int .i64 b, .int .i64 c, .int .i64 k, .int .i64 0, .int .i64 0, .int .i64 t, .int .i64 0, .int .i64 0, .int .i64 0, .string ByteArray.empty, .int .i64 0, .int .i64 0, .int .i64 0, .int .i64 0, .int .i64 0, .slice none 0 0, .slice none 0 0, .slice none 0 0, .bool false,
  .int .i64 0, .int .i64 0, .int .i64 0, .int .i64 0, .int .i64 0, .slice none 0 0, .int .i64 0, .int .i64 0, .int .i64 0, .int .i64 0, .int .i64 0]
theorem built48 (a b c : Int) : Tryz.prog.built 48 [(0, .agg #[.int .i64 a, .int .i64 b, .int .i64 c]), (1, .int .i64 9), (4, .int .i64 3)] = some (cells48 a b c 9 3).toArray := by kernel_rfl
theorem built48z : Tryz.prog.built 48 [] = some (cells48 0 0 0 0 0).toArray := by kernel_rfl
theorem built32 (a b c : Int) : Tryz.prog.built 32 [(0, .int .i64 a), (1, .int .i64 b), (2, .int .i64 c)] = some #[.int .i64 a, .int .i64 b, .int .i64 c] := by kernel_rfl
theorem parts3 (a : Act) (i j k : Nat) (x y z : Operand) : ((#[(i, x), (j, y), (k, z)] : Array (Nat × Operand)).map fun (i, x) => (i, a.eval x)).toList = [(i, a.eval x), (j, a.eval y), (k, a.eval z)] := by simp
theorem wpList_build32 {ops : Array Oper} {rest : List Oper} {o : Oper} {A : Act} {w : World} {Q : Exit → Act → World → Prop} (hg : o.guard = none) (ho : o.op = .build 32 #[(0, .tmp 7), (1, .tmp 8), (2, .tmp 9)]) (hd : o.dst = some 10) (a b c : Int)
    (h7 : A.eval (.tmp 7) = .int .i64 a) (h8 : A.eval (.tmp 8) = .int .i64 b) (h9 : A.eval (.tmp 9) = .int .i64 c)
    (h : wpList Tryz.prog ops Q rest (A.put (some 10) (.agg #[.int .i64 a, .int .i64 b, .int .i64 c])) w) : wpList Tryz.prog ops Q (o :: rest) A w :=
  wpList_buildTo hg 32 _ ho (some 10) hd _ (by rw [parts3, h7, h8, h9]; exact built32 a b c) h
theorem wpList_build48 {ops : Array Oper} {rest : List Oper} {o : Oper} {A : Act} {w : World} {Q : Exit → Act → World → Prop} (hg : o.guard = none) (ho : o.op = .build 48 #[(0, .tmp 10), (1, .const (.int .i64 9)), (4, .const (.int .i64 3))]) (hd : o.dst = some 11) (a b c : Int)
    (h7 : A.eval (.tmp 10) = .agg #[.int .i64 a, .int .i64 b, .int .i64 c]) (ca : Array Value) (hca : (cells48 a b c 9 3).toArray = ca)
    (h : wpList Tryz.prog ops Q rest (A.put (some 11) (.agg ca)) w) : wpList Tryz.prog ops Q (o :: rest) A w :=
  wpList_buildTo hg 48 _ ho (some 11) hd ca (by rw [parts3, h7, ← hca]; exact built48 a b c) h
theorem nilC {α : Type} (d : Kd α) (w : World) : d.C w none ([] : List α).length [] := ⟨rfl, by simp, fun h => by simp at h⟩
theorem tick_K (a b c : Int) (w : World) : k48.K w (tickE a b c) (cells48 a b c 9 3) :=
  k48_mk w (tickE a b c) (A16 := none) (c16 := 0) (Nat.le_refl _) (nilC k113 w) (A17 := none) (c17 := 0) (Nat.le_refl _) (nilC k115 w) (A18 := none) (c18 := 0) (Nat.le_refl _) (nilC (Kd.int .i64) w) (A25 := none) (c25 := 0) (Nat.le_refl _) (nilC k42 w)
theorem zero_K (w : World) : k48.K w zeroE (cells48 0 0 0 0 0) :=
  k48_mk w zeroE (A16 := none) (c16 := 0) (Nat.le_refl _) (nilC k113 w) (A17 := none) (c17 := 0) (Nat.le_refl _) (nilC k115 w) (A18 := none) (c18 := 0) (Nat.le_refl _) (nilC (Kd.int .i64) w) (A25 := none) (c25 := 0) (Nat.le_refl _) (nilC k42 w)
set_option maxHeartbeats 8000000
set_option maxRecDepth 100000 in
theorem tick_any (a b c : Int) (w : World) : Calls Tryz.prog 19 #[.int .i64 a, .int .i64 b, .int .i64 c] w fun r w' => r = .returned (.agg (cells48 a b c 9 3).toArray) ∧ Below w.heap.size w w' := by
  obtain ⟨ca, hca⟩ : ∃ ca, (cells48 a b c 9 3).toArray = ca := ⟨_, rfl⟩
  have hone : ca.all (·.oneCell') = true := by rw [← hca]; exact k48_one (tick_K a b c w)
  have hl : ca.size = 31 := by rw [← hca]; rfl
  have hsz : (Tryz.prog.info? 48).map (·.size) = some ca.size := by rw [hl]; exact info48
  have Hca := Lib.hid hca
  rw [hca]
  clear hca
  go_enter Tryz.func19, Tryz.ntmps19
  go_wp2_with (first
    | (refine wpList_build32 rfl rfl rfl a b c rfl rfl rfl ?_)
    | (refine wpList_build48 rfl rfl rfl a b c rfl ca Hca.out ?_)
    | (refine wpList_store_new rfl 48 _ _ rfl ca _ _ rfl rfl hsz (by rw [hl]; rfl) hone ?_))
  exact bodyPost_ret (results_cell_row rfl _ _ w.heap.size 48 ca (0, 0) _ rfl (heap_alloc_new w _) Tryz.underlying48 rfl (by rw [hl]; exact info48)) rfl ⟨rfl, (Below.refl _ _).alloc (Nat.le_refl _) _⟩
end Go.Proofs.Lw
end
section
set_option linter.unusedSimpArgs false
set_option linter.unusedVariables false
namespace Go.Proofs.Lw
open Go.RowKit Go.Proofs.YtehddihmndpgaaaGreatDoorW.PrintWords Go.Proofs.YtehddihmndpgaaaGreatDoor.PLib
section
variable {P : Program}
theorem putBlock_alloc (w : World) (o o' : Obj) : ({ w.alloc o with heap := (w.alloc o).heap.setIfInBounds w.heap.size o' } : World) = w.alloc o' := by
  simp only [World.alloc]
  congr 1
  apply Array.ext_getElem?
  intro k
  rw [Array.getElem?_setIfInBounds, Array.getElem?_push, Array.getElem?_push]
  by_cases hk : k = w.heap.size
  · subst hk; simp
  · have : ¬ w.heap.size = k := fun e => hk e.symm
    simp [this, hk]
theorem run_insert_new (w : World) (t kt et : TypeId) (hu : P.underlying t = some (.map kt et)) (hk : P.underlying kt = some (.int .i64)) (es : Array MapEntry) (c : Nat) (n : Int) (x : Value)
    (hnew : Instr.findNow (.int .i64) (.int .i64 n) es.toList 0 = some none) :
    (Instr.mapUpdate t (.map (some w.heap.size)) (.int .i64 n) x).run P (w.alloc (.map es c)) = .ok () (w.alloc (.map (es.push { key := .int .i64 n, val := x, born := c }) (c + 1))) := by
  have hb := heap_alloc_new w (.map es c)
  have hik : MapKept.IsKey (.int .i64) (.int .i64 n) := by simp [MapKept.IsKey]
  have h := putBlock_alloc w (.map es c) (.map (es.push { key := .int .i64 n, val := x, born := c }) (c + 1))
  simp [Instr.mapUpdate, run_underlying hu, MapKept.run_getObj_map hb, MapKept.run_checkKey hk hik, MapKept.run_findKey hk hnew, MapKept.run_setObj_map _ hb, Result.andThen]
  exact h
/-- A map literal's entry: the map is the newest block. -/
theorem wpList_insert_new {ops : Array Oper} {rest : List Oper} {o : Oper} {a : Act} {w : World} {Q : Exit → Act → World → Prop} (hg : o.guard = none) (t : TypeId) (m k v : Operand) (ho : o.op = .insert t m k v) (kt et : TypeId)
    (hu : P.underlying t = some (.map kt et)) (hk : P.underlying kt = some (.int .i64)) (es : Array MapEntry) (c r : Nat) (hr : r = w.heap.size) (n : Int) (x : Value) (hm : a.eval m = .map (some r)) (hkv : a.eval k = .int .i64 n) (hv : a.eval v = x)
    (hnew : Instr.findNow (.int .i64) (.int .i64 n) es.toList 0 = some none)
    (h : wpList P ops Q rest (a.put o.dst undef) (w.alloc (.map (es.push { key := .int .i64 n, val := x, born := c }) (c + 1)))) : wpList P ops Q (o :: rest) a (w.alloc (.map es c)) := by
  subst hr
  refine wpList_plain hg fun K' hK' => ?_
  unfold Oper.wp
  simp [execOp, ho, hm, hkv, hv, run_insert_new w t kt et hu hk es c n x hnew, Result.andThen]
  exact hK' _ _ h
theorem run_lookup_at (w : World) (t kt et : TypeId) (hu : P.underlying t = some (.map kt et)) (hk : P.underlying kt = some (.int .i64)) (r : Nat) (es : Array MapEntry) (c : Nat) (hb : w.heap[r]? = some (.map es c)) (n : Int) (i : Nat) (v : Value)
    (hf : Instr.findNow (.int .i64) (.int .i64 n) es.toList 0 = some (some (i, v))) :
    (Instr.lookup t (.map (some r)) (.int .i64 n) true).run P w = .ok (.tuple #[v, .bool true]) w := by
  have hik : MapKept.IsKey (.int .i64) (.int .i64 n) := by simp [MapKept.IsKey]
  simp [Instr.lookup, run_underlying hu, MapKept.run_getObj_map hb, MapKept.run_checkKey hk hik, MapKept.run_findKey hk hf, Result.andThen]
theorem run_lookup_no (w : World) (t kt et : TypeId) (hu : P.underlying t = some (.map kt et)) (hk : P.underlying kt = some (.int .i64)) (z : Value) (hz : (zeroValue et).run P w = .ok z w) (r : Nat) (es : Array MapEntry) (c : Nat) (hb : w.heap[r]? = some (.map es c)) (n : Int)
    (hf : Instr.findNow (.int .i64) (.int .i64 n) es.toList 0 = some none) :
    (Instr.lookup t (.map (some r)) (.int .i64 n) true).run P w = .ok (.tuple #[z, .bool false]) w := by
  have hik : MapKept.IsKey (.int .i64) (.int .i64 n) := by simp [MapKept.IsKey]
  simp [Instr.lookup, run_underlying hu, MapKept.run_getObj_map hb, MapKept.run_checkKey hk hik, MapKept.run_findKey hk hf, hz, Result.andThen]
end
def cap0 (b : Nat) : Array Value := #[.pointer (some ⟨b, 0, none⟩)]
def kE (n : Int) (born cn : Nat) (caps : Array Value) (kn : Nat) : MapEntry := { key := .int .i64 n, val := .agg #[.func (.func cn) #[] caps, .func (.func kn) #[] #[]], born := born }
def kindEs (b0 b1 : Nat) : Array MapEntry := #[kE 1 0 41 #[] 42, kE 2 1 39 #[.pointer (some ⟨b0, 0, none⟩)] 45, kE 3 2 40 #[.pointer (some ⟨b0, 0, none⟩)] 46, kE 4 3 47 #[.pointer (some ⟨b1, 0, none⟩)] 48, kE 5 4 40 #[.pointer (some ⟨b0, 0, none⟩)] 46,
  kE 6 5 49 #[] 50, kE 7 6 52 #[] 53, kE 8 7 39 #[.pointer (some ⟨b0, 0, none⟩)] 55, kE 9 8 56 #[] 57]
/-- Which functions a kind has: that which empties, what it captured, that which checks. -/
def kindOf (b0 b1 : Nat) (n : Int) : Option (Nat × Array Value × Nat) :=
  if n = 1 then some (41, #[], 42) else if n = 2 then some (39, #[.pointer (some ⟨b0, 0, none⟩)], 45) else if n = 3 then some (40, #[.pointer (some ⟨b0, 0, none⟩)], 46) else if n = 4 then some (47, #[.pointer (some ⟨b1, 0, none⟩)], 48)
  else if n = 5 then some (40, #[.pointer (some ⟨b0, 0, none⟩)], 46) else if n = 6 then some (49, #[], 50) else if n = 7 then some (52, #[], 53) else if n = 8 then some (39, #[.pointer (some ⟨b0, 0, none⟩)], 55) else if n = 9 then some (56, #[], 57) else none
theorem find_kinds (b0 b1 : Nat) (n : Int) : Instr.findNow (.int .i64) (.int .i64 n) (kindEs b0 b1).toList 0 = some ((kindOf b0 b1 n).map fun q => ((n - 1).toNat, .agg #[.func (.func q.1) #[] q.2.1, .func (.func q.2.2) #[] #[]])) := by
  unfold kindEs kindOf
  by_cases h1 : n = 1
  · subst h1; rfl
  by_cases h2 : n = 2
  · subst h2; rfl
  by_cases h3 : n = 3
  · subst h3; rfl
  by_cases h4 : n = 4
  · subst h4; rfl
  by_cases h5 : n = 5
  · subst h5; rfl
  by_cases h6 : n = 6
  · subst h6; rfl
  by_cases h7 : n = 7
  · subst h7; rfl
  by_cases h8 : n = 8
  · subst h8; rfl
  by_cases h9 : n = 9
  · subst h9; rfl
  have q1 : (n == 1) = false := by simpa using h1
  have q2 : (n == 2) = false := by simpa using h2
  have q3 : (n == 3) = false := by simpa using h3
  have q4 : (n == 4) = false := by simpa using h4
  have q5 : (n == 5) = false := by simpa using h5
  have q6 : (n == 6) = false := by simpa using h6
  have q7 : (n == 7) = false := by simpa using h7
  have q8 : (n == 8) = false := by simpa using h8
  have q9 : (n == 9) = false := by simpa using h9
  simp [Instr.findNow, Instr.sameNow, kE, h1, h2, h3, h4, h5, h6, h7, h8, h9, q1, q2, q3, q4, q5, q6, q7, q8, q9]
theorem zero73 (w : World) : (zeroValue 73).run Tryz.prog w = .ok (.agg #[.nilFunc, .nilFunc]) w := by kernel_rfl
theorem look_some {w : World} {r b0 b1 : Nat} {n : Int} {q : Nat × Array Value × Nat} (hb : w.heap[r]? = some (.map (kindEs b0 b1) 9)) (h : kindOf b0 b1 n = some q) :
    (Instr.lookup 75 (.map (some r)) (.int .i64 n) true).run Tryz.prog w = .ok (.tuple #[.agg #[.func (.func q.1) #[] q.2.1, .func (.func q.2.2) #[] #[]], .bool true]) w :=
  run_lookup_at w 75 3 73 Tryz.underlying75 Tryz.underlying3 r _ _ hb n _ _ (by rw [find_kinds, h]; rfl)
theorem look_none {w : World} {r b0 b1 : Nat} {n : Int} (hb : w.heap[r]? = some (.map (kindEs b0 b1) 9)) (h : kindOf b0 b1 n = none) :
    (Instr.lookup 75 (.map (some r)) (.int .i64 n) true).run Tryz.prog w = .ok (.tuple #[.agg #[.nilFunc, .nilFunc], .bool false]) w :=
  run_lookup_no w 75 3 73 Tryz.underlying75 Tryz.underlying3 _ (zero73 w) r _ _ hb n (by rw [find_kinds, h]; rfl)
theorem built73 (f g : Fn) (a b c d : Array Value) : Tryz.prog.built 73 [(0, .func f a b), (1, .func g c d)] = some #[.func f a b, .func g c d] := by kernel_rfl
theorem parts2 (a : Act) (i j : Nat) (x y : Operand) : ((#[(i, x), (j, y)] : Array (Nat × Operand)).map fun (i, x) => (i, a.eval x)).toList = [(i, a.eval x), (j, a.eval y)] := by simp
theorem wpList_build73 {ops : Array Oper} {rest : List Oper} {o : Oper} {A : Act} {w : World} {Q : Exit → Act → World → Prop} (hg : o.guard = none) (x y : Operand) (t : Tmp) (ho : o.op = .build 73 #[(0, x), (1, y)]) (hd : o.dst = some t) (f g : Fn) (a b c d : Array Value)
    (hx : A.eval x = .func f a b) (hy : A.eval y = .func g c d) (h : wpList Tryz.prog ops Q rest (A.put (some t) (.agg #[.func f a b, .func g c d])) w) : wpList Tryz.prog ops Q (o :: rest) A w :=
  wpList_buildTo hg 73 _ ho (some t) hd _ (by rw [parts2, hx, hy]; exact built73 f g a b c d) h
set_option maxHeartbeats 4000000
set_option maxRecDepth 100000 in
theorem kinds_any (w : World) : Calls Tryz.prog 31 #[] w fun e w' => e = .returned (.map (some (w.heap.size + 2))) ∧ Below w.heap.size w w' ∧ w'.heap[w.heap.size]? = some (.cells #[.func (.func 38) #[] #[]] 71 (0, 0)) ∧
    w'.heap[w.heap.size + 1]? = some (.cells #[.func (.func 40) #[] #[.pointer (some ⟨w.heap.size, 0, none⟩)]] 71 (0, 0)) ∧ w'.heap[w.heap.size + 2]? = some (.map (kindEs w.heap.size (w.heap.size + 1)) 9) := by
  have hmm := @run_makeMap Tryz.prog
  go_enter Tryz.func31, Tryz.ntmps31
  go_wp2_with (first | (refine wpList_build73 rfl _ _ _ rfl rfl _ _ _ _ _ _ rfl rfl ?_) | refine wpList_insert_new rfl 75 _ _ _ rfl 3 73 Tryz.underlying75 Tryz.underlying3 _ _ _ (by simp) _ _ rfl rfl rfl (by rfl) ?_)
  go_ret
  have s1 : (w.alloc (.cells #[.func (.func 38) #[] #[]] 71)).heap.size = w.heap.size + 1 := by simp
  have s2 : ∀ o, ((w.alloc (.cells #[.func (.func 38) #[] #[]] 71)).alloc o).heap.size = w.heap.size + 2 := by simp
  refine ⟨rfl, (((Below.refl _ _).alloc (Nat.le_refl _) _).alloc (by simp) _).alloc (by simp; omega) _, ?_, ?_, ?_⟩
  · exact (Below.heap_alloc _ _ _ (by simp; omega)).trans ((Below.heap_alloc _ _ _ (by simp)).trans (heap_alloc_new w _))
  · refine (Below.heap_alloc _ _ _ (by simp)).trans ?_
    rw [← s1]
    exact heap_alloc_new _ _
  · have := heap_alloc_new ((w.alloc (.cells #[.func (.func 38) #[] #[]] 71)).alloc (.cells #[.func (.func 40) #[] #[.pointer (some ⟨w.heap.size, 0, none⟩)]] 71)) (.map (kindEs w.heap.size (w.heap.size + 1)) 9)
    rw [s2] at this
    exact this
end Go.Proofs.Lw
end
section
set_option linter.unusedSimpArgs false
set_option linter.unusedVariables false
namespace Go.Proofs.Lw
open Go.RowKit Go.Proofs.YtehddihmndpgaaaGreatDoorW.PrintWords Go.Proofs.YtehddihmndpgaaaGreatDoor.PLib
/-- One entry's block was written, and nothing else. -/
structure Chg (W W' : World) (r : Nat) (cs : List Value) : Prop where
  os : W'.os = W.os
  tape : W'.tape = W.tape
  output : W'.output = W.output
  size : W'.heap.size = W.heap.size
  same : ∀ i, i ≠ r → W'.heap[i]? = W.heap[i]?
  row : W'.heap[r]? = some (.cells cs.toArray 48 (0, 0))
theorem Chg.trans {A B C : World} {r : Nat} {cs ds : List Value} (h : Chg A B r cs) (k : Chg B C r ds) : Chg A C r ds :=
  ⟨k.os.trans h.os, k.tape.trans h.tape, k.output.trans h.output, k.size.trans h.size, fun i hi => (k.same i hi).trans (h.same i hi), k.row⟩
theorem Chg.set {W : World} {r : Nat} {cs : List Value} (h : W.heap[r]? = some (.cells cs.toArray 48 (0, 0))) (j : Nat) (v : Value) : Chg W (W.setCell ⟨r, j, none⟩ v) r (cs.set j v) :=
  ⟨rfl, rfl, rfl, by simp [World.setCell], fun i hi => Below.heap_setCell W ⟨r, j, none⟩ v i hi, by simp [World.setCell, Array.getElem?_modify, h]⟩
theorem Chg.set' {W W' : World} {r : Nat} {cs : List Value} (h : Chg W W' r cs) (j : Nat) (v : Value) : Chg W (W'.setCell ⟨r, j, none⟩ v) r (cs.set j v) := h.trans (Chg.set h.row j v)
theorem Chg.below {w W W' : World} {r : Nat} {cs : List Value} (hb : Below w.heap.size w W) (h : Chg W W' r cs) (hr : w.heap.size ≤ r) : Below w.heap.size w W' :=
  hb.trans ⟨h.os, h.tape, h.output, Nat.le_of_eq h.size.symm, fun k hk => h.same k (by omega)⟩
theorem cell_at {w : World} {b : Nat} {cs : List Value} {t : TypeId} (h : w.heap[b]? = some (.cells cs.toArray t (0, 0))) (j : Nat) (hj : j < cs.length) : w.cell? ⟨b, j, none⟩ = some (cs[j]'hj) :=
  (cell_of_row w b j _ t (0, 0) h).trans (by simp)
theorem froz_at {w : World} {b : Nat} {cs : Array Value} {t : TypeId} (h : w.heap[b]? = some (.cells cs t (0, 0))) (j : Nat) : w.frozen? ⟨b, j, none⟩ = false := by simp [World.frozen?, h]
theorem built34z : Tryz.prog.built 34 [] = some #[.int .i64 0, .int .i64 0] := by kernel_rfl
theorem built39z : Tryz.prog.built 39 [] = some #[.int .i64 0, .int .i64 0, .int .i64 0, .int .i64 0, .int .i64 0, .slice none 0 0, .slice none 0 0, .slice none 0 0, .bool false] := by kernel_rfl
theorem built44z : Tryz.prog.built 44 [] = some #[.int .i64 0, .int .i64 0, .int .i64 0, .int .i64 0, .int .i64 0, .slice none 0 0, .int .i64 0, .int .i64 0, .int .i64 0] := by kernel_rfl
def c38 (cs : List Value) : List Value := ((cs.set 4 (.int .i64 0)).set 5 (.int .i64 0)).set 7 (.int .i64 0)
def c41 (cs : List Value) : List Value := ((cs.set 8 (.int .i64 0)).set 9 (.int .i64 0)).set 10 (.string ByteArray.empty)
def c39 (cs : List Value) : List Value := (c38 cs).set 6 (.int .i64 0)
def c40 (cs : List Value) : List Value := ((c38 cs).set 8 (.int .i64 0)).set 9 (.int .i64 0)
def c47 (cs : List Value) : List Value := (c40 cs).set 6 (.int .i64 0)
def c49 (cs : List Value) : List Value := ((((((((cs.set 11 (.int .i64 0)).set 12 (.int .i64 0)).set 13 (.int .i64 0)).set 14 (.int .i64 0)).set 15 (.int .i64 0)).set 16 (.slice none 0 0)).set 17 (.slice none 0 0)).set 18 (.slice none 0 0)).set 19 (.bool false)
def c52 (cs : List Value) : List Value := ((((((((cs.set 20 (.int .i64 0)).set 21 (.int .i64 0)).set 22 (.int .i64 0)).set 23 (.int .i64 0)).set 24 (.int .i64 0)).set 25 (.slice none 0 0)).set 26 (.int .i64 0)).set 27 (.int .i64 0)).set 28 (.int .i64 0)
def c56 (cs : List Value) : List Value := cs.set 6 (.int .i64 0)
theorem c38_len (cs : List Value) : (c38 cs).length = cs.length := by simp [c38]
theorem c40_len (cs : List Value) : (c40 cs).length = cs.length := by simp [c40, c38]
section
variable (W : World) (r : Nat) (cs : List Value) (hl : cs.length = 31) (h : W.heap[r]? = some (.cells cs.toArray 48 (0, 0)))
include hl h
set_option maxRecDepth 100000 in
theorem clr38 : Calls Tryz.prog 38 #[.pointer (some ⟨r, 0, none⟩)] W fun e W' => e = .returned (.tuple #[]) ∧ Chg W W' r (c38 cs) := by
  have k4 := cell_at h 4 (by omega)
  have k5 := cell_at h 5 (by omega)
  have k7 := cell_at h 7 (by omega)
  have fz := froz_at h
  have H := Lib.hid h
  clear h
  go_enter Tryz.func38, Tryz.ntmps38
  go_wp2
  go_end0
  exact ⟨rfl, ((Chg.set H.out 4 _).set' 5 _).set' 7 _⟩
set_option maxRecDepth 100000 in
theorem clr41 : Calls Tryz.prog 41 #[.pointer (some ⟨r, 0, none⟩)] W fun e W' => e = .returned (.tuple #[]) ∧ Chg W W' r (c41 cs) := by
  have k4 := cell_at h 8 (by omega)
  have k5 := cell_at h 9 (by omega)
  have k7 := cell_at h 10 (by omega)
  have fz := froz_at h
  have hz := built34z
  have H := Lib.hid h
  clear h
  go_enter Tryz.func41, Tryz.ntmps41
  go_wp2
  go_end0
  exact ⟨rfl, ((Chg.set H.out 8 _).set' 9 _).set' 10 _⟩
set_option maxRecDepth 100000 in
theorem clr56 : Calls Tryz.prog 56 #[.pointer (some ⟨r, 0, none⟩)] W fun e W' => e = .returned (.tuple #[]) ∧ Chg W W' r (c56 cs) := by
  have k4 := cell_at h 6 (by omega)
  have fz := froz_at h
  have H := Lib.hid h
  clear h
  go_enter Tryz.func56, Tryz.ntmps56
  go_wp2
  go_end0
  exact ⟨rfl, Chg.set H.out 6 _⟩
set_option maxRecDepth 100000 in
theorem clr49 : Calls Tryz.prog 49 #[.pointer (some ⟨r, 0, none⟩)] W fun e W' => e = .returned (.tuple #[]) ∧ Chg W W' r (c49 cs) := by
  have k11 := cell_at h 11 (by omega)
  have k12 := cell_at h 12 (by omega)
  have k13 := cell_at h 13 (by omega)
  have k14 := cell_at h 14 (by omega)
  have k15 := cell_at h 15 (by omega)
  have k16 := cell_at h 16 (by omega)
  have k17 := cell_at h 17 (by omega)
  have k18 := cell_at h 18 (by omega)
  have k19 := cell_at h 19 (by omega)
  have fz := froz_at h
  have hz := built39z
  have H := Lib.hid h
  clear h
  go_enter Tryz.func49, Tryz.ntmps49
  go_wp2
  go_end0
  exact ⟨rfl, ((((((((Chg.set H.out 11 _).set' 12 _).set' 13 _).set' 14 _).set' 15 _).set' 16 _).set' 17 _).set' 18 _).set' 19 _⟩
set_option maxRecDepth 100000 in
theorem clr52 : Calls Tryz.prog 52 #[.pointer (some ⟨r, 0, none⟩)] W fun e W' => e = .returned (.tuple #[]) ∧ Chg W W' r (c52 cs) := by
  have k11 := cell_at h 20 (by omega)
  have k12 := cell_at h 21 (by omega)
  have k13 := cell_at h 22 (by omega)
  have k14 := cell_at h 23 (by omega)
  have k15 := cell_at h 24 (by omega)
  have k16 := cell_at h 25 (by omega)
  have k17 := cell_at h 26 (by omega)
  have k18 := cell_at h 27 (by omega)
  have k19 := cell_at h 28 (by omega)
  have fz := froz_at h
  have hz := built44z
  have H := Lib.hid h
  clear h
  go_enter Tryz.func52, Tryz.ntmps52
  go_wp2
  go_end0
  exact ⟨rfl, ((((((((Chg.set H.out 20 _).set' 21 _).set' 22 _).set' 23 _).set' 24 _).set' 25 _).set' 26 _).set' 27 _).set' 28 _⟩
end
section
variable (W : World) (r b0 b1 : Nat) (cs : List Value) (hl : cs.length = 31) (h : W.heap[r]? = some (.cells cs.toArray 48 (0, 0)))
  (h0 : W.heap[b0]? = some (.cells #[.func (.func 38) #[] #[]] 71 (0, 0)))
include hl h h0
set_option maxRecDepth 100000 in
theorem clr39 : Calls Tryz.prog 39 #[.pointer (some ⟨r, 0, none⟩), .pointer (some ⟨b0, 0, none⟩)] W fun e W' => e = .returned (.tuple #[]) ∧ Chg W W' r (c39 cs) := by
  have q0 : W.cell? ⟨b0, 0, none⟩ = some (.func (.func 38) #[] #[]) := cell_of_row W b0 0 _ 71 (0, 0) h0
  have c := clr38 W r cs hl h
  have H := Lib.hid h
  clear h h0
  go_enter Tryz.func39, Tryz.ntmps39
  go_wp2_with (go_at_call 38; refine c.mono ?_; rintro e W2 ⟨rfl, hC⟩; have k6 := cell_at hC.row 6 (by rw [c38_len]; omega); have fz := froz_at hC.row)
  go_end0
  exact ⟨rfl, hC.set' 6 _⟩
set_option maxRecDepth 100000 in
theorem clr40 : Calls Tryz.prog 40 #[.pointer (some ⟨r, 0, none⟩), .pointer (some ⟨b0, 0, none⟩)] W fun e W' => e = .returned (.tuple #[]) ∧ Chg W W' r (c40 cs) := by
  have q0 : W.cell? ⟨b0, 0, none⟩ = some (.func (.func 38) #[] #[]) := cell_of_row W b0 0 _ 71 (0, 0) h0
  have c := clr38 W r cs hl h
  have hz := built34z
  have H := Lib.hid h
  clear h h0
  go_enter Tryz.func40, Tryz.ntmps40
  go_wp2_with (go_at_call 38; refine c.mono ?_; rintro e W2 ⟨rfl, hC⟩; have k8 := cell_at hC.row 8 (by rw [c38_len]; omega); have k9 := cell_at hC.row 9 (by rw [c38_len]; omega); have fz := froz_at hC.row)
  go_end0
  exact ⟨rfl, (hC.set' 8 _).set' 9 _⟩
set_option maxRecDepth 100000 in
theorem clr47 (h1 : W.heap[b1]? = some (.cells #[.func (.func 40) #[] #[.pointer (some ⟨b0, 0, none⟩)]] 71 (0, 0))) : Calls Tryz.prog 47 #[.pointer (some ⟨r, 0, none⟩), .pointer (some ⟨b1, 0, none⟩)] W fun e W' => e = .returned (.tuple #[]) ∧ Chg W W' r (c47 cs) := by
  have q0 : W.cell? ⟨b1, 0, none⟩ = some (.func (.func 40) #[] #[.pointer (some ⟨b0, 0, none⟩)]) := cell_of_row W b1 0 _ 71 (0, 0) h1
  have c := clr40 W r b0 cs hl h h0
  have H := Lib.hid h
  clear h h0 h1
  go_enter Tryz.func47, Tryz.ntmps47
  go_wp2_with (go_at_call 40; refine c.mono ?_; rintro e W2 ⟨rfl, hC⟩; have k6 := cell_at hC.row 6 (by rw [c40_len]; omega); have fz := froz_at hC.row)
  go_end0
  exact ⟨rfl, hC.set' 6 _⟩
end
end Go.Proofs.Lw
end
section
set_option linter.unusedSimpArgs false
set_option linter.unusedVariables false
namespace Go.Proofs.Lw
open Go.RowKit Go.Proofs.YtehddihmndpgaaaGreatDoorW.PrintWords Go.Proofs.YtehddihmndpgaaaGreatDoor.PLib
/-- The cells of an entry that are read one by one. -/
structure Scal (x : S48) (cs : List Value) : Prop where
  h3 : cs[3]? = some (.int .i64 x.f1)
  h4 : cs[4]? = some (.int .i64 x.f2)
  h5 : cs[5]? = some (.int .i64 x.f3)
  h6 : cs[6]? = some (.int .i64 x.f4)
  h7 : cs[7]? = some (.int .i64 x.f5)
  h8 : cs[8]? = some (.int .i64 x.f6.f0)
  h9 : cs[9]? = some (.int .i64 x.f6.f1)
  h10 : cs[10]? = some (.string x.f7)
  h29 : cs[29]? = some (.int .i64 x.f10.f0)
  h30 : cs[30]? = some (.int .i64 x.f10.f1)
theorem k48_scal {w : World} {x : S48} {cs : List Value} (h : k48.K w x cs) : Scal x cs := by
  obtain ⟨_, _, _, _, _, _, _, _, rfl, _⟩ := k48_open h
  exact ⟨rfl, rfl, rfl, rfl, rfl, rfl, rfl, rfl, rfl, rfl⟩
theorem k48_sec {w : World} {x : S48} {cs : List Value} (h : k48.K w x cs) : ∃ ds, k39.K w x.f8 ds ∧ ∀ j u, ds[j]? = some u → cs[11 + j]? = some u := by
  obtain ⟨_, _, _, _, _, _, _, _, rfl, l16, g16, l17, g17, l18, g18, l25, g25⟩ := k48_open h
  refine ⟨_, k39_mk w x.f8 l16 g16 l17 g17 l18 g18, fun j u hu => ?_⟩
  have hj := (List.getElem?_eq_some_iff.1 hu).1
  simp only [List.length_cons, List.length_nil] at hj
  have : j = 0 ∨ j = 1 ∨ j = 2 ∨ j = 3 ∨ j = 4 ∨ j = 5 ∨ j = 6 ∨ j = 7 ∨ j = 8 := by omega
  rcases this with rfl | rfl | rfl | rfl | rfl | rfl | rfl | rfl | rfl <;> exact hu
theorem k48_req {w : World} {x : S48} {cs : List Value} (h : k48.K w x cs) : ∃ ds, k44.K w x.f9 ds ∧ ∀ j u, ds[j]? = some u → cs[20 + j]? = some u := by
  obtain ⟨_, _, _, _, _, _, _, _, rfl, l16, g16, l17, g17, l18, g18, l25, g25⟩ := k48_open h
  refine ⟨_, k44_mk w x.f9 l25 g25, fun j u hu => ?_⟩
  have hj := (List.getElem?_eq_some_iff.1 hu).1
  simp only [List.length_cons, List.length_nil] at hj
  have : j = 0 ∨ j = 1 ∨ j = 2 ∨ j = 3 ∨ j = 4 ∨ j = 5 ∨ j = 6 ∨ j = 7 ∨ j = 8 := by omega
  rcases this with rfl | rfl | rfl | rfl | rfl | rfl | rfl | rfl | rfl <;> exact hu
def e39 (x : S48) : S48 := { x with f2 := 0, f3 := 0, f5 := 0, f4 := 0 }
def e40 (x : S48) : S48 := { x with f2 := 0, f3 := 0, f5 := 0, f6 := ⟨0, 0⟩ }
def e47 (x : S48) : S48 := { x with f2 := 0, f3 := 0, f5 := 0, f6 := ⟨0, 0⟩, f4 := 0 }
def e41 (x : S48) : S48 := { x with f6 := ⟨0, 0⟩, f7 := ByteArray.empty }
def e49 (x : S48) : S48 := { x with f8 := z39 }
def e52 (x : S48) : S48 := { x with f9 := z44 }
def e56 (x : S48) : S48 := { x with f4 := 0 }
section
variable {w : World} {x : S48} {cs : List Value} (h : k48.K w x cs)
include h
theorem c39_K : k48.K w (e39 x) (c39 cs) := by
  obtain ⟨_, _, _, _, _, _, _, _, rfl, l16, g16, l17, g17, l18, g18, l25, g25⟩ := k48_open h
  exact k48_mk w (e39 x) l16 g16 l17 g17 l18 g18 l25 g25
theorem c40_K : k48.K w (e40 x) (c40 cs) := by
  obtain ⟨_, _, _, _, _, _, _, _, rfl, l16, g16, l17, g17, l18, g18, l25, g25⟩ := k48_open h
  exact k48_mk w (e40 x) l16 g16 l17 g17 l18 g18 l25 g25
theorem c47_K : k48.K w (e47 x) (c47 cs) := by
  obtain ⟨_, _, _, _, _, _, _, _, rfl, l16, g16, l17, g17, l18, g18, l25, g25⟩ := k48_open h
  exact k48_mk w (e47 x) l16 g16 l17 g17 l18 g18 l25 g25
theorem c41_K : k48.K w (e41 x) (c41 cs) := by
  obtain ⟨_, _, _, _, _, _, _, _, rfl, l16, g16, l17, g17, l18, g18, l25, g25⟩ := k48_open h
  exact k48_mk w (e41 x) l16 g16 l17 g17 l18 g18 l25 g25
theorem c56_K : k48.K w (e56 x) (c56 cs) := by
  obtain ⟨_, _, _, _, _, _, _, _, rfl, l16, g16, l17, g17, l18, g18, l25, g25⟩ := k48_open h
  exact k48_mk w (e56 x) l16 g16 l17 g17 l18 g18 l25 g25
theorem c49_K : k48.K w (e49 x) (c49 cs) := by
  obtain ⟨_, _, _, _, _, _, _, _, rfl, l16, g16, l17, g17, l18, g18, l25, g25⟩ := k48_open h
  exact k48_mk w (e49 x) (A16 := none) (c16 := 0) (Nat.le_refl _) (nilC k113 w) (A17 := none) (c17 := 0) (Nat.le_refl _) (nilC k115 w) (A18 := none) (c18 := 0) (Nat.le_refl _) (nilC (Kd.int .i64) w) l25 g25
theorem c52_K : k48.K w (e52 x) (c52 cs) := by
  obtain ⟨_, _, _, _, _, _, _, _, rfl, l16, g16, l17, g17, l18, g18, l25, g25⟩ := k48_open h
  exact k48_mk w (e52 x) l16 g16 l17 g17 l18 g18 (A25 := none) (c25 := 0) (Nat.le_refl _) (nilC k42 w)
end
/-- An entry with nothing but stamp, kind and signature. -/
def baseE (x : S48) : S48 := ⟨x.f0, x.f1, 0, 0, 0, 0, ⟨0, 0⟩, ByteArray.empty, z39, z44, x.f10⟩
def cellsB (a b c k r s : Int) : List Value := [.int .i64 a, .int .i64 b, .int .i64 c, .int .i64 k, .int .i64 0, .int .i64 0, .int .i64 0, .int .i64 0, .int .i64 0, .int .i64 0, .string ByteArray.empty, .int .i64 0, .int .i64 0, .int .i64 0, .int .i64 0, .int .i64 0, .slice none 0 0, .slice none 0 0, .slice none 0 0, .bool false,
  .int .i64 0, .int .i64 0, .int .i64 0, .int .i64 0, .int .i64 0, .slice none 0 0, .int .i64 0, .int .i64 0, .int .i64 0, .int .i64 r, .int .i64 s]
theorem base_K (x : S48) (w : World) : k48.K w (baseE x) (cellsB x.f0.f0 x.f0.f1 x.f0.f2 x.f1 x.f10.f0 x.f10.f1) :=
  k48_mk w (baseE x) (A16 := none) (c16 := 0) (Nat.le_refl _) (nilC k113 w) (A17 := none) (c17 := 0) (Nat.le_refl _) (nilC k115 w) (A18 := none) (c18 := 0) (Nat.le_refl _) (nilC (Kd.int .i64) w) (A25 := none) (c25 := 0) (Nat.le_refl _) (nilC k42 w)
theorem built48b (a b c k r s : Int) : Tryz.prog.built 48 [(0, .agg #[.int .i64 a, .int .i64 b, .int .i64 c]), (1, .int .i64 k), (10, .agg #[.int .i64 r, .int .i64 s])] = some (cellsB a b c k r s).toArray := by kernel_rfl
end Go.Proofs.Lw
end
section
namespace Go.Proofs.Lw
open Go.RowKit
variable {F : Fence} {n : Nat} {P : Program}
/-- A fence in which an operation's rule outside serves. -/
def Free (F : Fence) (n : Nat) (P : Program) : Prop := ∀ (o : Oper) (a : Act) (w : World) (K : Act → World → Prop) (Q : Exit → Act → World → Prop), (∀ c, o.op ≠ .defer c) → o.wp P a w K Q → o.wpIn F n P a w K Q
theorem free_wide : Free Fence.wide n P := fun _ _ _ _ _ hd h => Oper.wpInW_of_wp hd h
theorem free_round {l : Nat} : Free (Fence.wide.inRound l) n P := fun _ _ _ _ _ hd h => Oper.wpIn_of_wp hd h
theorem wpListIn_load_at (hF : Free F n P) {ops : Array Oper} {rest : List Oper} {op : Oper} {a : Act} {w : World} {Q : Exit → Act → World → Prop} (hgd : op.guard = none) (ty : TypeId) (x : Operand) (ho : op.op = .load ty x)
    (p : Addr) (hx : a.eval x = .pointer (some p)) (cs : List Value) (d : TypeDesc) (hc : ∀ j v, cs[j]? = some v → w.cell? (p.add j) = some v)
    (hu : P.underlying ty = some d) (hd : d.isRow = true) (hi : (P.info? ty).map (·.size) = some cs.length)
    (h : wpListIn F n P ops Q rest (a.put op.dst (.agg cs.toArray)) w) : wpListIn F n P ops Q (op :: rest) a w :=
  wpListIn_plain hgd fun _ hK => hF _ _ _ _ _ (fun c => by rw [ho]; intro e; cases e) (wp_load_at ty x ho p hx cs d hc hu hd hi (hK _ _ h))
theorem wpListIn_store_row (hF : Free F n P) {ops : Array Oper} {rest : List Oper} {o : Oper} {a : Act} {w : World} {Q : Exit → Act → World → Prop} (hgd : o.guard = none) (ty : TypeId) (x y : Operand) (ho : o.op = .store ty x y)
    (g : Nat) (cells : Array Value) (hx : a.eval x = .pointer (some ⟨g, 0, none⟩)) (hy : a.eval y = .agg cells)
    (t : TypeId) (old : Array Value) (hg : w.heap[g]? = some (.cells old t (0, 0))) (hi : (P.info? ty).map (·.size) = some cells.size)
    (hold : old.size = cells.size) (h1 : cells.all (·.oneCell') = true)
    (h : wpListIn F n P ops Q rest (a.put o.dst undef) (w.setRow g cells)) : wpListIn F n P ops Q (o :: rest) a w :=
  wpListIn_plain hgd fun _ hK => hF _ _ _ _ _ (fun c => by rw [ho]; intro e; cases e) (wp_store_row ty x y ho g cells hx hy t old hg hi hold h1 (hK _ _ h))
theorem wpListIn_store_new (hF : Free F n P) {ops : Array Oper} {rest : List Oper} {o : Oper} {a : Act} {w : World} {Q : Exit → Act → World → Prop} (hgd : o.guard = none) (ty : TypeId) (x y : Operand) (ho : o.op = .store ty x y)
    (cells : Array Value) (t : TypeId) (old : Array Value) (hx : a.eval x = .pointer (some ⟨w.heap.size, 0, none⟩)) (hy : a.eval y = .agg cells)
    (hi : (P.info? ty).map (·.size) = some cells.size) (hold : old.size = cells.size) (h1 : cells.all (·.oneCell') = true)
    (h : wpListIn F n P ops Q rest (a.put o.dst undef) (w.alloc (.cells cells t))) : wpListIn F n P ops Q (o :: rest) a (w.alloc (.cells old t)) :=
  wpListIn_store_row hF hgd ty x y ho w.heap.size cells hx hy t old (heap_alloc_new w _) hi hold h1 (by rw [setRow_alloc]; exact h)
theorem wpIn_rangeFunc_p {F : Fence} {n : Nat} {P : Program} (hro : F.round = none) (hn : F.depth.isSome = true → 1 ≤ n) {g : Operand} {ps : Array Tmp} {assign body : Code} {Q : Exit → Act → World → Prop} {a : Act} {w : World} {gf : Nat} {lb : Array Value}
    (hg : a.eval g = .func (.func gf) #[] lb) (hFg : F.fn gf) (eg : ∀ args w, (callFunc gf args).run P w = .ok (.enter gf args) w)
    (hit : ∀ fn, F.fn fn → CallsIn F (n - 1) P gf (#[.func (.yield (w.heap.size + 1)) #[] #[]] ++ lb) ((w.alloc (.deferred (some []))).alloc (.loop { state := .ready, pending := none, fn, tmps := a.tmps, params := ps, assign, body, defers := w.heap.size }))
      (rangePost F n P (w.heap.size + 1) Q { a with defers := { target := .collected w.heap.size, args := #[] } :: a.defers })) :
    (Code.rangeFunc g ps assign body).wpIn F n P Q a w := by
  refine wpIn_rangeFunc (fun fn hfn => ?_)
  rw [hro]
  have h1 := hit fn hfn
  have h2 := run_enterLoop_outer (P := P) (w := w) fn a.tmps ps assign body
  generalize (w.alloc (.deferred (some []))).alloc (.loop { state := .ready, pending := none, fn, tmps := a.tmps, params := ps, assign, body, defers := w.heap.size }) = W1 at h1 h2
  refine ⟨w.heap.size + 1, [{ target := .collected w.heap.size, args := #[] }], W1, { target := .fn (.func gf) lb, args := #[.func (.yield (w.heap.size + 1)) #[] #[]] }, W1, gf,
    #[.func (.yield (w.heap.size + 1)) #[] #[]] ++ lb, W1, ?_, ?_, ?_, ?_, hn, ?_⟩
  · exact h2
  · simp only [resolve, hg]
    simp [go_sem]
  · intro f' hf'; simp [Target.leads] at hf'; subst hf'; exact hFg
  · simp [invoke, go_sem, eg]
  · exact h1
theorem fold_set : ∀ (l pre post : List Value), l.length = post.length → (l.zipIdx pre.length).foldl (fun (cs : Array Value) (x : Value × Nat) => cs.setIfInBounds x.2 x.1) (pre ++ post).toArray = (pre ++ l).toArray := by
  intro l
  induction l with
  | nil =>
    intro pre post h
    obtain rfl := List.length_eq_zero_iff.1 h.symm
    rfl
  | cons v l ih =>
    intro pre post h
    cases post with
    | nil => simp at h
    | cons q post =>
      simp only [List.zipIdx_cons, List.foldl_cons]
      have e : (pre ++ q :: post).toArray.setIfInBounds pre.length v = ((pre ++ [v]) ++ post).toArray := by simp
      rw [e]
      have := ih (pre ++ [v]) post (by simpa using h)
      simp only [List.length_append, List.length_cons, List.length_nil, Nat.zero_add] at this
      rw [this]
      simp
theorem fill_one (cs : List Value) (cells : Array Value) (n : Nat) (hn : cs.length = n) (hc : cells.size = n) : Instr.fill (fun i => some (i * n, n)) cells [(0, .agg cs.toArray)] = some cs.toArray := by
  have h := fold_set cs [] cells.toList (by simp [hn, hc])
  simp [Instr.fill, Value.cells, hn, hc]
  simpa using h
theorem i48z : ((Tryz.prog.info? 48).bind (·.zero)).map (·.cells.size) = some 31 := by kernel_rfl
theorem i48b : (Tryz.prog.info? 48).map (·.bytes) = some 320 := by kernel_rfl
theorem i48 : ∃ i z, Tryz.prog.info? 48 = some i ∧ i.zero = some z ∧ i.size = 31 ∧ i.bytes = 320 ∧ z.cells.size = 31 := by
  have h1 := info48
  have h2 := i48z
  have h3 := i48b
  cases h : Tryz.prog.info? 48 with
  | none => rw [h] at h1; cases h1
  | some i =>
    rw [h] at h1 h2 h3
    simp only [Option.map_some, Option.some.injEq, Option.bind_some] at h1 h2 h3
    cases hz : i.zero with
    | none => rw [hz] at h2; cases h2
    | some z => rw [hz] at h2; simp at h2; exact ⟨i, z, rfl, hz, h1, h3, h2⟩
theorem wpListIn_build1 (hF : Free F n P) {ops : Array Oper} {rest : List Oper} {o : Oper} {a : Act} {w : World} {Q : Exit → Act → World → Prop} (hg : o.guard = none) (t e : TypeId) (x : Operand) (ho : o.op = .buildSlice t 1 #[(0, x)])
    (cs : List Value) (hx : a.eval x = .agg cs.toArray) (ie : TypeInfo) (z : Value) (hu : P.underlying t = some (.slice e)) (hie : P.info? e = some ie) (hz : ie.zero = some z) (hs : ie.size = cs.length) (hpos : 0 < cs.length) (hsm : cs.length ≤ 1000) (hzc : z.cells.size = cs.length)
    (h : wpListIn F n P ops Q rest (a.put o.dst (.slice (some ⟨w.heap.size, 0, none⟩) 1 1)) (w.alloc (.cells cs.toArray e))) : wpListIn F n P ops Q (o :: rest) a w :=
  wpListIn_plain hg fun _ hK => hF _ _ _ _ _ (fun c => by rw [ho]; intro e; cases e) (wp_buildSlice t e 1 _ ho cs.toArray ie z hu hie hz (by omega) (by omega) (by
    have : ((#[(0, x)] : Array (Nat × Operand)).map fun (i, x) => (i, a.eval x)).toList = [(0, .agg cs.toArray)] := by simp [hx]
    rw [this, hs]
    exact fill_one cs _ _ rfl (by simp)) (hK _ _ h))
end Go.Proofs.Lw
end
section
namespace Go.Proofs.Lw
open Go.RowKit
variable {F : Fence} {n : Nat} {P : Program}
/-- A code's promise at the frames of ONE function. -/
def wpF (g : FuncId) (F : Fence) (n : Nat) (P : Program) (c : Code) (Q : Exit → Act → World → Prop) (a : Act) (w : World) : Prop :=
  ∀ (b : Frame) (k : List Item) (cs : List Frame), b.roundOf = F.round → b.fn = g → F.fn b.fn → F.room (cs.length + 1 + n) →
    ∃ e a' w', Q e a' w' ∧ ArrivesIn (Machine.fenced P F) P (lone (b.atR a (.code c :: k)) cs w) b k cs e a' w'
variable {g : FuncId} {Q : Exit → Act → World → Prop} {a : Act} {w : World}
theorem wpF_of {c : Code} (h : c.wpIn F n P Q a w) : wpF g F n P c Q a w := fun b k cs hro _ hb hr => h b k cs hro hb hr
theorem wpF_seq {x y : Code} (h : wpF g F n P x (Exit.then (wpF g F n P y Q) Q) a w) : wpF g F n P (Code.seq x y) Q a w := by
  intro b k cs hro hg hb hr
  have h0 : (lone (b.atR a (.code (.seq x y) :: k)) cs w).fenced P F := fenced_calm hb hr rfl
  obtain ⟨e, a₁, w₁, hq, harr⟩ := h b (.code y :: k) cs hro hg hb hr
  cases e with
  | normal =>
    obtain ⟨e₂, a₂, w₂, hq₂, harr₂⟩ := hq b k cs hro hg hb hr
    exact ⟨e₂, a₂, w₂, hq₂, .of_steps (.head h0 stepR_seq harr) harr₂⟩
  | exit id => exact ⟨_, a₁, w₁, hq, .of_steps (.one h0 stepR_seq) (.pass (x := .code y) rfl (fun _ _ => .inl (by simp)) harr)⟩
  | goto l => exact ⟨_, a₁, w₁, hq, .of_steps (.one h0 stepR_seq) (.pass (x := .code y) rfl (fun _ _ => .inl (by simp)) harr)⟩
  | ret => exact ⟨_, a₁, w₁, hq, .of_steps (.one h0 stepR_seq) (.pass (x := .code y) rfl (fun _ _ => .inl (by simp)) harr)⟩
  | panic ch => exact ⟨_, a₁, w₁, hq, .of_steps (.one h0 stepR_seq) (.pass (x := .code y) rfl (fun _ _ => .inl (by simp)) harr)⟩
  | outgrown => exact ⟨_, a₁, w₁, hq, .of_steps (.one h0 stepR_seq) (.pass (x := .code y) rfl (fun _ _ => .inl (by simp)) harr)⟩
theorem wpF_block {id : Nat} {c : Code} (h : wpF g F n P c (Exit.inBlock id Q) a w) : wpF g F n P (Code.block id c) Q a w := by
  intro b k cs hro hg hb hr
  have h0 : (lone (b.atR a (.code (.block id c) :: k)) cs w).fenced P F := fenced_calm hb hr rfl
  obtain ⟨e, a₁, w₁, hq, harr⟩ := h b (.inBlock id :: k) cs hro hg hb hr
  cases e with
  | normal => exact ⟨.normal, a₁, w₁, hq, .head h0 stepR_block (StepsIn.trans harr (.one (fenced_calm hb hr rfl) stepR_inBlock))⟩
  | exit id' =>
    by_cases hid : id' = id
    · simp only [Exit.inBlock, hid, if_true] at hq
      exact ⟨.normal, a₁, w₁, hq, .head h0 stepR_block (harr.1 k (by simp [exitTo, hid]))⟩
    · simp only [Exit.inBlock, hid, if_false] at hq
      have this : (id == id') = false := by simp; exact fun h => hid h.symm
      have hx : exitTo id' (.inBlock id :: k) = exitTo id' k := by simp [exitTo, this]
      exact ⟨.exit id', a₁, w₁, hq, fun k' hk => .head h0 stepR_block (harr.1 k' (by rw [hx]; exact hk)),
        fun hr' hk => let ⟨k₁, h1, h2⟩ := harr.2 hr' (by rw [hx]; exact hk); ⟨k₁, h1, .head h0 stepR_block h2⟩⟩
  | goto l =>
    have hx : gotoIn l (.inBlock id :: k) = gotoIn l k := by simp [gotoIn]
    exact ⟨_, a₁, w₁, hq, fun k' hk => .head h0 stepR_block (harr.1 k' (by rw [hx]; exact hk)),
      fun hr' hk => let ⟨k₁, h1, h2⟩ := harr.2 hr' (by rw [hx]; exact hk); ⟨k₁, h1, .head h0 stepR_block h2⟩⟩
  | ret => exact ⟨_, a₁, w₁, hq, .of_steps (.one h0 stepR_block) harr⟩
  | panic ch => exact ⟨_, a₁, w₁, hq, .of_steps (.one h0 stepR_block) harr⟩
  | outgrown => exact ⟨_, a₁, w₁, hq, .of_steps (.one h0 stepR_block) harr⟩
/-- 'for .. := range (a function)' that runs to its end or panics. -/
theorem wpF_rangeFunc {o : Operand} {ps : Array Tmp} {assign body : Code} {gf : Nat} {lb : Array Value} (hro : F.round = none) (hn : F.depth.isSome = true → 1 ≤ n)
    (ho : a.eval o = .func (.func gf) #[] lb) (hFg : F.fn gf) (eg : ∀ args w, (callFunc gf args).run P w = .ok (.enter gf args) w)
    (hit : CallsIn F (n - 1) P gf (#[.func (.yield (w.heap.size + 1)) #[] #[]] ++ lb) ((w.alloc (.deferred (some []))).alloc (.loop { state := .ready, pending := none, fn := g, tmps := a.tmps, params := ps, assign, body, defers := w.heap.size }))
      fun e W => match e with
        | .returned _ => (∃ r, W.heap[w.heap.size + 1]? = some (.loop r) ∧ r.state ≠ .busy ∧ r.pending = none ∧ Q .normal { a with defers := { target := .collected w.heap.size, args := #[] } :: a.defers } (W.putObj (w.heap.size + 1) (.loop { r with state := .exhausted })))
        | .panicked ch => Q (.panic ch) { a with defers := { target := .collected w.heap.size, args := #[] } :: a.defers } W
        | .outgrown => False) :
    wpF g F n P (Code.rangeFunc o ps assign body) Q a w := by
  intro b k cs hro' hg hb hr
  subst hg
  have he := run_enterLoop_outer (P := P) (w := w) b.fn a.tmps ps assign body
  rw [← hro, ← hro'] at he
  generalize (w.alloc (.deferred (some []))).alloc (.loop { state := .ready, pending := none, fn := b.fn, tmps := a.tmps, params := ps, assign, body, defers := w.heap.size }) = W1 at he hit
  generalize hl : w.heap.size + 1 = l at *
  generalize hm : ({ target := .collected w.heap.size, args := #[] } : Deferred) = mk at *
  have hres : (resolve a.eval (rangeCall o l) 0).run P W1 = .ok { target := .fn (.func gf) lb, args := #[.func (.yield l) #[] #[]] } W1 := by
    simp only [resolve, ho]
    simp [go_sem]
  have hinv : (invoke (.fn (.func gf) lb) #[.func (.yield l) #[] #[]]).run P W1 = .ok (.enter gf (#[.func (.yield l) #[] #[]] ++ lb)) W1 := by
    simp [invoke, go_sem, eg]
  have h0 : (lone (b.atR a (.code (.rangeFunc o ps assign body) :: k)) cs w).fenced P F := by
    refine fenced_lone (.inl hb) (fun f' hf' => ?_) (Fence.room_le hr (by omega))
    have hev := Frame.eval_atR b a (.code (.rangeFunc o ps assign body) :: k)
    simp only [Frame.atR] at hev
    simp only [Frame.about, Frame.atR, he, hev, hres] at hf'
    simp [Target.leads] at hf'
    subst hf'
    exact hFg
  have henter := stepR_rangeFunc (P := P) (b := b) (a := a) (k := k) (cs := cs) (w := w) he hres hinv
  have hroom : F.room ((b.atR { a with defers := [mk] ++ a.defers } (.inRangeFunc l :: k) :: cs).length + 1 + (n - 1)) := Fence.room_enter hr hn
  obtain ⟨e, w₃, fr, hR, hsteps, hfn, hleave⟩ := hit.2 (b.atR { a with defers := [mk] ++ a.defers } (.inRangeFunc l :: k) :: cs) hroom
  cases e with
  | outgrown => exact hR.elim
  | returned v =>
    have hlv : (lone fr (b.atR { a with defers := [mk] ++ a.defers } (.inRangeFunc l :: k) :: cs) w₃).fenced P F := fenced_leaving (hfn ▸ hFg) hroom hleave
    obtain ⟨r, hr1, hr2, hr3, hq⟩ := hR
    have hend : (Instr.endLoop l).run P w₃ = .ok none (w₃.putObj l (.loop { r with state := .exhausted })) := (run_endLoop (P := P) hr1 hr2).trans (by rw [hr3])
    have sback : StepsIn (Machine.fenced P F) P (lone (b.atR a (.code (.rangeFunc o ps assign body) :: k)) cs w) (lone (b.atR { a with defers := [mk] ++ a.defers } (((none : Option Code).map Item.code).toList ++ k)) cs (w₃.putObj l (.loop { r with state := .exhausted }))) := by
      refine .head h0 henter (StepsIn.trans hsteps (.head hlv ?_ (.one (fenced_calm (fr := b.atR { a with defers := [mk] ++ a.defers } (.endRangeFunc l :: k)) hb hr rfl) (stepR_endRangeFunc hend))))
      rw [← finish_atR_inRangeFunc l v]; exact step_leave_returned hleave
    exact ⟨.normal, _, _, hq, sback⟩
  | panicked chain =>
    have hlv : (lone fr (b.atR { a with defers := [mk] ++ a.defers } (.inRangeFunc l :: k) :: cs) w₃).fenced P F := fenced_leaving (hfn ▸ hFg) hroom hleave
    refine ⟨.panic chain, _, w₃, hR, .inRangeFunc l :: k, .head h0 henter (StepsIn.trans hsteps (.one hlv ?_))⟩
    rw [← Frame.raise_atR]; exact step_leave_panicked hleave
theorem callsIn_of_wpF_marks {fn : Func} {c : Code} {args : Array Value} {R : Ending → World → Prop}
    (hf : P.funcs[g]? = some fn) (hb : fn.body = some c) (hF : F.fn g)
    (h : wpF g F n P c (bodyPostM F n P fn R) { tmps := args ++ Array.replicate (fn.ntmps - args.size) undef, defers := [] } w) (hro : F.round = none := by rfl) : CallsIn F n P g args w R := by
  refine ⟨hF, fun cs hr => ?_⟩
  let b : Frame := { (default : Frame) with fn := g, kind := .normal, roundOf := none }
  have henter : Frame.enter P g args .normal =
      b.atR { tmps := args ++ Array.replicate (fn.ntmps - args.size) undef, defers := [] } [.code c] := by
    simp [Frame.enter, Frame.atR, hf, hb, b]
  obtain ⟨e, a', w', hq, harr⟩ := h b [] cs hro.symm rfl hF hr
  rw [← henter] at harr
  cases e with
  | normal =>
    obtain ⟨e', w'', fr', hR, hs, hfn, hl⟩ := leaves_stepsInM a'.defers .returning w' { b.atR a' [] with mode := .returning } cs rfl rfl rfl hf rfl hF hr hq
    exact ⟨e', w'', fr', hR, ComesIn.of_steps (StepsIn.trans harr (.one (fenced_calm (fr := b.atR a' []) hF hr rfl) (stepR_end rfl))) hs, hfn, hl⟩
  | ret =>
    obtain ⟨todo, hs₀⟩ := harr.1 rfl
    obtain ⟨e', w'', fr', hR, hs, hfn, hl⟩ := leaves_stepsInM a'.defers .returning w' { b.atR a' todo with mode := .returning } cs rfl rfl rfl hf rfl hF hr hq
    exact ⟨e', w'', fr', hR, ComesIn.of_steps hs₀ hs, hfn, hl⟩
  | panic chain =>
    obtain ⟨todo, hs₀⟩ := harr
    obtain ⟨e', w'', fr', hR, hs, hfn, hl⟩ := leaves_stepsInM a'.defers (.panicking chain) w' { b.atR a' todo with mode := .panicking chain } cs rfl rfl rfl hf rfl hF hr hq
    exact ⟨e', w'', fr', hR, ComesIn.of_steps hs₀ hs, hfn, hl⟩
  | exit id => exact hq.elim
  | goto l => exact hq.elim
  | outgrown => exact ⟨.outgrown, w', b, hq, harr.resolve_left (by simp [b]), rfl, trivial⟩
end Go.Proofs.Lw
end
