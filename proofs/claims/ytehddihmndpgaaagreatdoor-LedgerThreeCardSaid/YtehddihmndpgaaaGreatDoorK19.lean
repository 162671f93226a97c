import Derived.BigQuiet
import Derived.IntWalk
import Derived.Lib.Hide
import Derived.Lib.QuietBelow
import Derived.Test.YtehddihmndpgaaaGreatDoorK04
import Derived.Test.YtehddihmndpgaaaGreatDoorK14
import Derived.Test.YtehddihmndpgaaaGreatDoorK16
import Derived.Test.YtehddihmndpgaaaGreatDoorK17
import Derived.Test.YtehddihmndpgaaaGreatDoorK18
section
set_option linter.unusedSimpArgs false
set_option linter.unusedVariables false
namespace Go.Proofs.Lw
open Go.RowKit Go.Proofs.YtehddihmndpgaaaGreatDoorW.PrintWords Go.Proofs.YtehddihmndpgaaaGreatDoor.PLib
theorem as_hit_b (e : Int) (t : Addr) (old : Value) (w : World) (hg : w.cell? ⟨1, 0, none⟩ = some (.iface 149 (.agg #[.pointer (some ⟨3, 103, none⟩)]))) (ht0 : w.cell? t = some old) (hf0 : w.frozen? t = false) (B : Nat) (hB : B ≤ t.block) :
    Calls Tryz.prog 79 #[.iface 119 (.agg #[.int .i64 e]), .iface 121 (.pointer (some t))] w fun ev w' => ev = .returned (.bool true) ∧ Below B w w' ∧ w'.cell? t = some (.int .i64 e) := by
  have htl := World.block_lt_of_cell? w _ ht0
  refine (as_hit e t old w hg ht0 hf0).mono fun ev w' ⟨h1, h2⟩ => ⟨h1, ?_, ?_⟩
  · rw [h2]
    exact (((((Below.refl B w).alloc (by omega) _).alloc (by simp; omega) _).alloc (by simp; omega) _).alloc (by simp; omega) _).setCell hB _
  · rw [h2]
    refine World.cell?_setCell_same' _ _ _ ?_
    rw [World.cell?_alloc_lt _ _ t (by simp; omega), World.cell?_alloc_lt _ _ t (by simp; omega), World.cell?_alloc_lt _ _ t (by simp; omega), World.cell?_alloc_lt _ _ t htl, ht0]; rfl
theorem code_nil (w : World) : Calls Tryz.prog 69 #[.nilIface] w fun ev w' => ev = .returned (.int .i64 0) ∧ Below w.heap.size w w' := by
  go_enter Tryz.func69, Tryz.ntmps69
  go_wp2_with (go_at_call 79; refine (as_nil _ _).mono ?_; rintro e W ⟨rfl, rfl⟩)
  go_ret
  exact ⟨rfl, (Below.refl _ _).alloc (Nat.le_refl _) _⟩
theorem code_hit (e : Int) (w : World) (hg : w.cell? ⟨1, 0, none⟩ = some (.iface 149 (.agg #[.pointer (some ⟨3, 103, none⟩)]))) : Calls Tryz.prog 69 #[.iface 119 (.agg #[.int .i64 e])] w fun ev w' => ev = .returned (.int .i64 e) ∧ Below w.heap.size w w' := by
  have hg1 : (w.alloc (.cells #[.int .i64 0] 119)).cell? ⟨1, 0, none⟩ = some (.iface 149 (.agg #[.pointer (some ⟨3, 103, none⟩)])) := (World.cell?_alloc_lt _ _ _ (World.block_lt_of_cell? w _ hg)).trans hg
  have ca := as_hit_b e ⟨w.heap.size, 0, none⟩ (.int .i64 0) _ hg1 (by simp [go_sem]) (by simp [go_sem]) w.heap.size (Nat.le_refl _)
  go_enter Tryz.func69, Tryz.ntmps69
  go_wp2_with (go_at_call 79; refine ca.mono ?_; rintro e W ⟨rfl, hB, hc⟩)
  go_ret
  exact ⟨rfl, ((Below.refl _ _).alloc (Nat.le_refl _) _).trans hB⟩
def secR (s : S39) : Int := if formS s then meetR s.f5 else 230
def secV (s : S39) : Value := if formS s then (if meetR s.f5 = 0 then .nilIface else .iface 119 (.agg #[.int .i64 (meetR s.f5)])) else .iface 119 (.agg #[.int .i64 230])
theorem built119 (e : Int) : Tryz.prog.built 119 [(0, .int .i64 e)] = some #[.int .i64 e] := by kernel_rfl
theorem parts1 (a : Act) (i : Nat) (x : Operand) : ((#[(i, x)] : Array (Nat × Operand)).map fun (i, x) => (i, a.eval x)).toList = [(i, a.eval x)] := by simp
theorem meet_row {w : World} {s : S39} {ds : List Value} (h : k39.K w s ds) : ∃ A c, ds[5]? = some (.slice A s.f5.length c) ∧ s.f5.length ≤ c ∧ Kd.C k113 w A s.f5.length s.f5 := by
  obtain ⟨A5, c5, A6, c6, A7, c7, rfl, l5, g5, l6, g6, l7, g7⟩ := k39_open h
  exact ⟨A5, c5, rfl, l5, g5⟩
theorem info39 : (Tryz.prog.info? 39).map (·.size) = some 9 := by kernel_rfl
set_option maxHeartbeats 4000000
set_option maxRecDepth 100000 in
theorem seccheck_any (s : S39) (ds : List Value) (w : World) (h : k39.K w s ds) : Calls Tryz.prog 70 #[.agg ds.toArray] w fun e w' => e = .returned (secV s) ∧ Below w.heap.size w w' := by
  have hl : ds.length = 9 := k39.K_len h
  have hsz : (Tryz.prog.info? 39).map (·.size) = some ds.length := by rw [hl]; exact info39
  obtain ⟨A, c, h5, hc, hC⟩ := meet_row h
  have hb0 : Below w.heap.size w (w.alloc (.cells ds.toArray 39)) := (Below.refl _ _).alloc (Nat.le_refl _) _
  have hrow : ∀ j u, ds[j]? = some u → (w.alloc (.cells ds.toArray 39)).cell? ((⟨w.heap.size, 0, none⟩ : Addr).add j) = some u := fun j u hu => by
    rw [add_plain]; exact (cell_of_row _ w.heap.size j _ 39 (0, 0) (heap_alloc_new w _)).trans (by simpa using hu)
  have q5 : (w.alloc (.cells ds.toArray 39)).cell? ⟨w.heap.size, 5, none⟩ = some (.slice A s.f5.length c) := by have := hrow 5 _ h5; rwa [add_plain] at this
  have cF := formedS_any s ds _ (k39.K_below hb0 h)
  obtain ⟨fb, hfb⟩ : ∃ b, formS s = b := ⟨_, rfl⟩
  rw [hfb] at cF
  have HF := Lib.hid hfb
  have HK := Lib.hid h
  clear h hfb h5
  go_enter Tryz.func70, Tryz.ntmps70
  cases fb
  · go_wp2_with (first
      | ((with_reducible change wpList _ _ _ (⟨_, .load 39 _, _, _, _, _⟩ :: _) _ _); refine wpList_load_at rfl 39 _ rfl ⟨w.heap.size, 0, none⟩ rfl ds _ hrow Tryz.underlying39 rfl hsz ?_)
      | ((with_reducible change wpList _ _ _ (⟨_, .build 119 _, _, _, _, _⟩ :: _) _ _); refine wpList_buildTo rfl 119 _ rfl _ rfl #[.int .i64 230] (by rfl) ?_)
      | (go_at_call 80; refine cF.mono ?_; rintro e W2 ⟨rfl, hB2⟩))
    go_ret
    exact ⟨by unfold secV; rw [HF.out]; rfl, hb0.trans (hB2.mono hb0.size)⟩
  · obtain ⟨m, hm⟩ : ∃ m, meetR s.f5 = m := ⟨_, rfl⟩
    have HM := Lib.hid hm
    by_cases h0 : m = 0
    · subst h0
      clear hm
      go_wp2_with (first
        | ((with_reducible change wpList _ _ _ (⟨_, .load 39 _, _, _, _, _⟩ :: _) _ _); refine wpList_load_at rfl 39 _ rfl ⟨w.heap.size, 0, none⟩ rfl ds _ hrow Tryz.underlying39 rfl hsz ?_)
        | (go_at_call 81; refine (meet_any A c s.f5 W2 (Kd.C_below (Kd.C_below hC hb0) hB2) hc).mono ?_; rintro e W3 ⟨rfl, hB3⟩; have HM' := HM.out)
        | (go_at_call 80; refine cF.mono ?_; rintro e W2 ⟨rfl, hB2⟩; have q5' := pw_cell_below hB2 q5))
      go_ret
      exact ⟨by unfold secV; rw [HF.out, HM.out]; rfl, hb0.trans ((hB2.trans (hB3.mono hB2.size)).mono hb0.size)⟩
    · have n0 : (m != 0) = true := by simpa using h0
      have n0' : (m == 0) = false := by simpa using h0
      clear hm
      go_wp2_with (first
        | ((with_reducible change wpList _ _ _ (⟨_, .load 39 _, _, _, _, _⟩ :: _) _ _); refine wpList_load_at rfl 39 _ rfl ⟨w.heap.size, 0, none⟩ rfl ds _ hrow Tryz.underlying39 rfl hsz ?_)
        | ((with_reducible change wpList _ _ _ (⟨_, .build 119 _, _, _, _, _⟩ :: _) _ _); refine wpList_buildTo rfl 119 _ rfl _ rfl #[.int .i64 m] (by rw [parts1, ← HM.out]; exact built119 _) ?_)
        | (go_at_call 81; refine (meet_any A c s.f5 W2 (Kd.C_below (Kd.C_below hC hb0) hB2) hc).mono ?_; rintro e W3 ⟨rfl, hB3⟩; have HM' := HM.out)
        | (go_at_call 80; refine cF.mono ?_; rintro e W2 ⟨rfl, hB2⟩; have q5' := pw_cell_below hB2 q5))
      go_ret
      exact ⟨by unfold secV; rw [HF.out, HM.out]; simp [h0], hb0.trans ((hB2.trans (hB3.mono hB2.size)).mono hb0.size)⟩
end Go.Proofs.Lw
end
section
set_option linter.unusedSimpArgs false
set_option linter.unusedVariables false
namespace Go.Proofs.Lw
open Go.RowKit Go.Proofs.YtehddihmndpgaaaGreatDoorW.PrintWords Go.Proofs.YtehddihmndpgaaaGreatDoor.PLib
theorem sizarref22_Same_l0 (x y : List S113) (h : x.length = y.length) (hn : x.length ≤ 9223372036854775807) : ∀ (d k i : Nat), x.length - i = d → d < k → i ≤ x.length →
    ∃ b, sizarref22_Same.l0 k x y (i : Int) = some b ∧ (b = true ↔ x.drop i = y.drop i) := by
  intro d
  induction d with
  | zero =>
    intro k i hd hk hi
    obtain ⟨k, rfl⟩ : ∃ m, k = m + 1 := ⟨k - 1, by omega⟩
    refine ⟨true, by simp only [sizarref22_Same.l0]; rw [if_neg (by omega)], ?_⟩
    rw [List.drop_eq_nil_of_le (by omega), List.drop_eq_nil_of_le (by omega)]
    simp
  | succ d ih =>
    intro k i hd hk hi
    obtain ⟨k, rfl⟩ : ∃ m, k = m + 1 := ⟨k - 1, by omega⟩
    have hx : i < x.length := by omega
    have hy : i < y.length := by omega
    have ex : rd_T113 x (i : Int) = x[i] := by simp [rd_T113, List.getD_eq_getElem?_getD, List.getElem?_eq_getElem hx]
    have ey : rd_T113 y (i : Int) = y[i] := by simp [rd_T113, List.getD_eq_getElem?_getD, List.getElem?_eq_getElem hy]
    simp only [sizarref22_Same.l0]
    rw [if_pos (by omega), if_pos (by omega), if_pos (by omega), ex, ey, drop_eq_iff hx hy]
    by_cases e : x[i] = y[i]
    · rw [if_neg (by rw [ne_S113]; simpa using e)]
      obtain ⟨b, hb, hiff⟩ := ih k (i + 1) (by omega) (by omega) (by omega)
      rw [wrap_up hx hn, hb]
      exact ⟨b, rfl, by rw [hiff]; exact ⟨fun h => ⟨e, h⟩, fun h => h.2⟩⟩
    · rw [if_pos ((ne_S113 _ _).2 e)]
      exact ⟨false, rfl, by simp [e]⟩
theorem sizarref22_Same_f (x y : List S113) (hn : x.length ≤ 9223372036854775807) (k : Nat) (hk : x.length < k) : ∃ b, sizarref22_Same.f k x y = some b ∧ (b = true ↔ x = y) := by
  unfold sizarref22_Same.f
  by_cases h : x.length = y.length
  · rw [if_pos (by omega)]
    obtain ⟨b, hb, hiff⟩ := sizarref22_Same_l0 x y h hn x.length k 0 (by omega) hk (by omega)
    exact ⟨b, hb, by simpa using hiff⟩
  · rw [if_neg (by omega)]
    exact ⟨false, rfl, by simp; rintro rfl; exact h rfl⟩
theorem sizarref37_sameGroups_l0 (x y : List S115) (h : x.length = y.length) (hn : x.length ≤ 9223372036854775807) : ∀ (d k i : Nat), x.length - i = d → d < k → i ≤ x.length →
    ∃ b, sizarref37_sameGroups.l0 k x y (i : Int) = some b ∧ (b = true ↔ x.drop i = y.drop i) := by
  intro d
  induction d with
  | zero =>
    intro k i hd hk hi
    obtain ⟨k, rfl⟩ : ∃ m, k = m + 1 := ⟨k - 1, by omega⟩
    refine ⟨true, by simp only [sizarref37_sameGroups.l0]; rw [if_neg (by omega)], ?_⟩
    rw [List.drop_eq_nil_of_le (by omega), List.drop_eq_nil_of_le (by omega)]
    simp
  | succ d ih =>
    intro k i hd hk hi
    obtain ⟨k, rfl⟩ : ∃ m, k = m + 1 := ⟨k - 1, by omega⟩
    have hx : i < x.length := by omega
    have hy : i < y.length := by omega
    have ex : rd_T115 x (i : Int) = x[i] := by simp [rd_T115, List.getD_eq_getElem?_getD, List.getElem?_eq_getElem hx]
    have ey : rd_T115 y (i : Int) = y[i] := by simp [rd_T115, List.getD_eq_getElem?_getD, List.getElem?_eq_getElem hy]
    simp only [sizarref37_sameGroups.l0]
    rw [if_pos (by omega), if_pos (by omega), if_pos (by omega), ex, ey, drop_eq_iff hx hy]
    by_cases e : x[i] = y[i]
    · rw [if_neg (by rw [ne_S115]; simpa using e)]
      obtain ⟨b, hb, hiff⟩ := ih k (i + 1) (by omega) (by omega) (by omega)
      rw [wrap_up hx hn, hb]
      exact ⟨b, rfl, by rw [hiff]; exact ⟨fun h => ⟨e, h⟩, fun h => h.2⟩⟩
    · rw [if_pos ((ne_S115 _ _).2 e)]
      exact ⟨false, rfl, by simp [e]⟩
theorem sizarref37_sameGroups_f (x y : List S115) (hn : x.length ≤ 9223372036854775807) (k : Nat) (hk : x.length < k) : ∃ b, sizarref37_sameGroups.f k x y = some b ∧ (b = true ↔ x = y) := by
  unfold sizarref37_sameGroups.f
  by_cases h : x.length = y.length
  · rw [if_pos (by omega)]
    obtain ⟨b, hb, hiff⟩ := sizarref37_sameGroups_l0 x y h hn x.length k 0 (by omega) hk (by omega)
    exact ⟨b, hb, by simpa using hiff⟩
  · rw [if_neg (by omega)]
    exact ⟨false, rfl, by simp; rintro rfl; exact h rfl⟩
theorem sizarref37_sameInts_l0 (x y : List Int) (h : x.length = y.length) (hn : x.length ≤ 9223372036854775807) : ∀ (d k i : Nat), x.length - i = d → d < k → i ≤ x.length →
    ∃ b, sizarref37_sameInts.l0 k x y (i : Int) = some b ∧ (b = true ↔ x.drop i = y.drop i) := by
  intro d
  induction d with
  | zero =>
    intro k i hd hk hi
    obtain ⟨k, rfl⟩ : ∃ m, k = m + 1 := ⟨k - 1, by omega⟩
    refine ⟨true, by simp only [sizarref37_sameInts.l0]; rw [if_neg (by omega)], ?_⟩
    rw [List.drop_eq_nil_of_le (by omega), List.drop_eq_nil_of_le (by omega)]
    simp
  | succ d ih =>
    intro k i hd hk hi
    obtain ⟨k, rfl⟩ : ∃ m, k = m + 1 := ⟨k - 1, by omega⟩
    have hx : i < x.length := by omega
    have hy : i < y.length := by omega
    have ex : rd x (i : Int) = x[i] := by simp [rd, List.getD_eq_getElem?_getD, List.getElem?_eq_getElem hx]
    have ey : rd y (i : Int) = y[i] := by simp [rd, List.getD_eq_getElem?_getD, List.getElem?_eq_getElem hy]
    simp only [sizarref37_sameInts.l0]
    rw [if_pos (by omega), if_pos (by omega), if_pos (by omega), ex, ey, drop_eq_iff hx hy]
    by_cases e : x[i] = y[i]
    · rw [if_pos e]
      obtain ⟨b, hb, hiff⟩ := ih k (i + 1) (by omega) (by omega) (by omega)
      rw [wrap_up hx hn, hb]
      exact ⟨b, rfl, by rw [hiff]; exact ⟨fun h => ⟨e, h⟩, fun h => h.2⟩⟩
    · rw [if_neg e]
      exact ⟨false, rfl, by simp [e]⟩
theorem sizarref37_sameInts_f (x y : List Int) (hn : x.length ≤ 9223372036854775807) (k : Nat) (hk : x.length < k) : ∃ b, sizarref37_sameInts.f k x y = some b ∧ (b = true ↔ x = y) := by
  unfold sizarref37_sameInts.f
  by_cases h : x.length = y.length
  · rw [if_pos (by omega)]
    obtain ⟨b, hb, hiff⟩ := sizarref37_sameInts_l0 x y h hn x.length k 0 (by omega) hk (by omega)
    exact ⟨b, hb, by simpa using hiff⟩
  · rw [if_neg (by omega)]
    exact ⟨false, rfl, by simp; rintro rfl; exact h rfl⟩
theorem sizarref37_SameRequest_l0 (a0 a1 a2 a3 a4 a6 a6' a7 c0 c1 c2 c3 c4 c6 c6' c7 : Int) (x y : List S42) (h : x.length = y.length) (hn : x.length ≤ 9223372036854775807) : ∀ (d k i : Nat), x.length - i = d → d < k → i ≤ x.length →
    ∃ b, sizarref37_SameRequest.l0 k (i : Int) a0 a1 a2 a3 a4 x a6 a6' a7 c0 c1 c2 c3 c4 y c6 c6' c7 = some b ∧ (b = true ↔ x.drop i = y.drop i) := by
  intro d
  induction d with
  | zero =>
    intro k i hd hk hi
    obtain ⟨k, rfl⟩ : ∃ m, k = m + 1 := ⟨k - 1, by omega⟩
    refine ⟨true, by simp only [sizarref37_SameRequest.l0]; rw [if_neg (by omega)], ?_⟩
    rw [List.drop_eq_nil_of_le (by omega), List.drop_eq_nil_of_le (by omega)]
    simp
  | succ d ih =>
    intro k i hd hk hi
    obtain ⟨k, rfl⟩ : ∃ m, k = m + 1 := ⟨k - 1, by omega⟩
    have hx : i < x.length := by omega
    have hy : i < y.length := by omega
    have ex : rd_T42 x (i : Int) = x[i] := by simp [rd_T42, List.getD_eq_getElem?_getD, List.getElem?_eq_getElem hx]
    have ey : rd_T42 y (i : Int) = y[i] := by simp [rd_T42, List.getD_eq_getElem?_getD, List.getElem?_eq_getElem hy]
    simp only [sizarref37_SameRequest.l0]
    rw [if_pos (by omega), if_pos (by omega), if_pos (by omega), ex, ey, drop_eq_iff hx hy]
    by_cases e : x[i] = y[i]
    · rw [if_neg (by rw [ne_S42]; simpa using e)]
      obtain ⟨b, hb, hiff⟩ := ih k (i + 1) (by omega) (by omega) (by omega)
      rw [wrap_up hx hn, hb]
      exact ⟨b, rfl, by rw [hiff]; exact ⟨fun h => ⟨e, h⟩, fun h => h.2⟩⟩
    · rw [if_pos ((ne_S42 _ _).2 e)]
      exact ⟨false, rfl, by simp [e]⟩
theorem sameSection37_f (x y : S39) (k : Nat) (h5 : x.f5.length < k ∧ x.f5.length ≤ 9223372036854775807) (h6 : x.f6.length < k ∧ x.f6.length ≤ 9223372036854775807) (h7 : x.f7.length < k ∧ x.f7.length ≤ 9223372036854775807) :
    ∃ b, sizarref37_SameSection.f k x.f0 x.f1 x.f2 x.f3 x.f4 x.f5 x.f6 x.f7 x.f8 y.f0 y.f1 y.f2 y.f3 y.f4 y.f5 y.f6 y.f7 y.f8 = some b ∧ (b = true ↔ x = y) := by
  obtain ⟨b5, e5, i5⟩ := sizarref22_Same_f x.f5 y.f5 h5.2 k h5.1
  obtain ⟨b6, e6, i6⟩ := sizarref37_sameGroups_f x.f6 y.f6 h6.2 k h6.1
  obtain ⟨b7, e7, i7⟩ := sizarref37_sameInts_f x.f7 y.f7 h7.2 k h7.1
  obtain ⟨a0, a1, a2, a3, a4, a5, a6, a7, a8⟩ := x
  obtain ⟨c0, c1, c2, c3, c4, c5, c6, c7, c8⟩ := y
  dsimp only at *
  unfold sizarref37_SameSection.f
  rw [e5, e6, e7]
  simp only [Option.bind_some, S39.mk.injEq]
  rcases Classical.em (a0 = c0) with h0 | h0; rotate_left; exact ⟨false, by rw [if_neg h0], by simp [h0]⟩
  rcases Classical.em (a1 = c1) with h1 | h1; rotate_left; exact ⟨false, by rw [if_pos h0, if_neg h1], by simp [h1]⟩
  rcases Classical.em (a2 = c2) with h2 | h2; rotate_left; exact ⟨false, by rw [if_pos h0, if_pos h1, if_neg h2], by simp [h2]⟩
  rcases Classical.em (a3 = c3) with h3 | h3; rotate_left; exact ⟨false, by rw [if_pos h0, if_pos h1, if_pos h2, if_neg h3], by simp [h3]⟩
  rcases Classical.em (a4 = c4) with h4 | h4; rotate_left; exact ⟨false, by rw [if_pos h0, if_pos h1, if_pos h2, if_pos h3, if_neg h4], by simp [h4]⟩
  rw [if_pos h0, if_pos h1, if_pos h2, if_pos h3, if_pos h4]
  rcases Classical.em (a8 = c8) with h8 | h8; rotate_left; exact ⟨false, by rw [if_neg (by simpa using h8)], by simp [h8]⟩
  rw [if_pos (by simpa using h8)]
  cases b5
  · exact ⟨false, by simp, by simp at i5; simp [i5]⟩
  cases b6
  · exact ⟨false, by simp, by simp at i6; simp [i6]⟩
  refine ⟨b7, by simp, ?_⟩
  simp at i5 i6
  simp [i5, i6, i7, h0, h1, h2, h3, h4, h8]
theorem sameRequest37_f (x y : S44) (k : Nat) (h5 : x.f5.length + 1 < k ∧ x.f5.length ≤ 9223372036854775807) :
    ∃ b, sizarref37_SameRequest.f k x.f0 x.f1 x.f2 x.f3 x.f4 x.f5 x.f6.f0 x.f6.f1 x.f7 y.f0 y.f1 y.f2 y.f3 y.f4 y.f5 y.f6.f0 y.f6.f1 y.f7 = some b ∧ (b = true ↔ x = y) := by
  obtain ⟨k, rfl⟩ : ∃ m, k = m + 1 := ⟨k - 1, by omega⟩
  obtain ⟨a0, a1, a2, a3, a4, a5, ⟨a6, a6'⟩, a7⟩ := x
  obtain ⟨c0, c1, c2, c3, c4, c5, ⟨c6, c6'⟩, c7⟩ := y
  dsimp only at *
  unfold sizarref37_SameRequest.f
  simp only [sizarref37_SameRequest.j0, if_true, S44.mk.injEq, S42.mk.injEq]
  rcases Classical.em (a0 = c0) with h0 | h0; rotate_left; exact ⟨false, by rw [if_neg h0], by simp [h0]⟩
  rcases Classical.em (a1 = c1) with h1 | h1; rotate_left; exact ⟨false, by rw [if_pos h0, if_neg h1], by simp [h1]⟩
  rcases Classical.em (a2 = c2) with h2 | h2; rotate_left; exact ⟨false, by rw [if_pos h0, if_pos h1, if_neg h2], by simp [h2]⟩
  rcases Classical.em (a3 = c3) with h3 | h3; rotate_left; exact ⟨false, by rw [if_pos h0, if_pos h1, if_pos h2, if_neg h3], by simp [h3]⟩
  rcases Classical.em (a4 = c4) with h4 | h4; rotate_left; exact ⟨false, by rw [if_pos h0, if_pos h1, if_pos h2, if_pos h3, if_neg h4], by simp [h4]⟩
  rw [if_pos h0, if_pos h1, if_pos h2, if_pos h3, if_pos h4]
  by_cases h6 : a6 = c6 ∧ a6' = c6'
  · rw [if_neg (by simp [h6.1, h6.2])]
    rcases Classical.em (a7 = c7) with h7 | h7; rotate_left; exact ⟨false, by rw [if_neg h7], by simp [h7]⟩
    rw [if_pos h7]
    by_cases h : a5.length = c5.length
    · rw [if_neg (by simp [h])]
      obtain ⟨b, hb, hi⟩ := sizarref37_SameRequest_l0 a0 a1 a2 a3 a4 a6 a6' a7 c0 c1 c2 c3 c4 c6 c6' c7 a5 c5 h h5.2 a5.length k 0 (by omega) (by omega) (by omega)
      refine ⟨b, hb, ?_⟩
      rw [hi]
      simp [h0, h1, h2, h3, h4, h6.1, h6.2, h7]
    · rw [if_pos (by simp only [bne_iff_ne, ne_eq]; omega)]
      refine ⟨false, rfl, ?_⟩
      have : a5 ≠ c5 := fun e => h (by rw [e])
      simp [this]
  · refine ⟨false, ?_, ?_⟩
    · rw [if_pos (by simp only [Bool.or_eq_true, Bool.not_eq_true', beq_eq_false_iff_ne]; grind)]
    · simp; intros; grind
def big37 (x : S48) (k : Nat) : Prop := (x.f8.f5.length < k ∧ x.f8.f5.length ≤ 9223372036854775807) ∧ (x.f8.f6.length < k ∧ x.f8.f6.length ≤ 9223372036854775807) ∧ (x.f8.f7.length < k ∧ x.f8.f7.length ≤ 9223372036854775807) ∧ (x.f9.f5.length + 1 < k ∧ x.f9.f5.length ≤ 9223372036854775807)
theorem same37_f (x y : S48) (k : Nat) (hb : big37 x k) :
    ∃ b, sizarref37_Same.f k x.f0.f0 x.f0.f1 x.f0.f2 x.f1 x.f2 x.f3 x.f4 x.f5 x.f6.f0 x.f6.f1 x.f7 x.f8.f0 x.f8.f1 x.f8.f2 x.f8.f3 x.f8.f4 x.f8.f5 x.f8.f6 x.f8.f7 x.f8.f8 x.f9.f0 x.f9.f1 x.f9.f2 x.f9.f3 x.f9.f4 x.f9.f5 x.f9.f6.f0 x.f9.f6.f1 x.f9.f7 x.f10.f0 x.f10.f1
      y.f0.f0 y.f0.f1 y.f0.f2 y.f1 y.f2 y.f3 y.f4 y.f5 y.f6.f0 y.f6.f1 y.f7 y.f8.f0 y.f8.f1 y.f8.f2 y.f8.f3 y.f8.f4 y.f8.f5 y.f8.f6 y.f8.f7 y.f8.f8 y.f9.f0 y.f9.f1 y.f9.f2 y.f9.f3 y.f9.f4 y.f9.f5 y.f9.f6.f0 y.f9.f6.f1 y.f9.f7 y.f10.f0 y.f10.f1 = some b ∧ (b = true ↔ x = y) := by
  obtain ⟨bs, es, is⟩ := sameSection37_f x.f8 y.f8 k hb.1 hb.2.1 hb.2.2.1
  obtain ⟨bq, eq, iq⟩ := sameRequest37_f x.f9 y.f9 k hb.2.2.2
  obtain ⟨⟨a0, a0', a0''⟩, a1, a2, a3, a4, a5, ⟨a6, a6'⟩, a7, a8, a9, ⟨a10, a10'⟩⟩ := x
  obtain ⟨⟨c0, c0', c0''⟩, c1, c2, c3, c4, c5, ⟨c6, c6'⟩, c7, c8, c9, ⟨c10, c10'⟩⟩ := y
  dsimp only at *
  unfold sizarref37_Same.f
  rw [es, eq]
  simp only [Option.bind_some, S48.mk.injEq, S32.mk.injEq, S34.mk.injEq, S46.mk.injEq]
  rcases Classical.em (a0 = c0 ∧ a0' = c0' ∧ a0'' = c0'') with h0 | h0; rotate_left; exact ⟨false, by rw [if_neg (by simpa using h0)], by simp [h0]⟩
  rw [if_pos (by simpa using h0)]
  rcases Classical.em (a1 = c1) with h1 | h1; rotate_left; exact ⟨false, by rw [if_neg h1], by simp [h1]⟩
  rcases Classical.em (a2 = c2) with h2 | h2; rotate_left; exact ⟨false, by rw [if_pos h1, if_neg h2], by simp [h2]⟩
  rcases Classical.em (a3 = c3) with h3 | h3; rotate_left; exact ⟨false, by rw [if_pos h1, if_pos h2, if_neg h3], by simp [h3]⟩
  rcases Classical.em (a4 = c4) with h4 | h4; rotate_left; exact ⟨false, by rw [if_pos h1, if_pos h2, if_pos h3, if_neg h4], by simp [h4]⟩
  rcases Classical.em (a5 = c5) with h5 | h5; rotate_left; exact ⟨false, by rw [if_pos h1, if_pos h2, if_pos h3, if_pos h4, if_neg h5], by simp [h5]⟩
  rw [if_pos h1, if_pos h2, if_pos h3, if_pos h4, if_pos h5]
  rcases Classical.em (a6 = c6 ∧ a6' = c6') with h6 | h6; rotate_left; exact ⟨false, by rw [if_neg (by simpa using h6)], by simp [h6]⟩
  rw [if_pos (by simpa using h6)]
  have e7 : a7.toList = c7.toList ↔ a7 = c7 := ⟨fun h => bytes_ext h, fun h => by rw [h]⟩
  rcases Classical.em (a7 = c7) with h7 | h7; rotate_left; exact ⟨false, by rw [if_neg (fun h => h7 (e7.1 h))], by simp [h7]⟩
  rw [if_pos (e7.2 h7)]
  rcases Classical.em (a10 = c10 ∧ a10' = c10') with h10 | h10; rotate_left; exact ⟨false, by rw [if_neg (by simpa using h10)], by simp [h10]⟩
  rw [if_pos (by simpa using h10)]
  cases bs
  · exact ⟨false, by simp, by simp at is; simp [is]⟩
  simp only [if_true]
  refine ⟨bq, by simp, ?_⟩
  simp at is
  simp [is, iq, h0.1, h0.2.1, h0.2.2, h1, h2, h3, h4, h5, h6.1, h6.2, h7, h10.1, h10.2]
theorem k48_big37 {w : World} {x : S48} {cs : List Value} (h : k48.K w x cs) : big37 x (bigK x + 1) := by
  obtain ⟨_, _, _, _, _, _, _, _, _, _, h5, _, h6, _, h7, _, hc⟩ := k48_open h
  unfold big37 bigK
  exact ⟨⟨by omega, h5.2.1⟩, ⟨by omega, h6.2.1⟩, ⟨by omega, h7.2.1⟩, ⟨by omega, hc.2.1⟩⟩
theorem same37_any (x y : S48) (cx cy : List Value) (w : World) (hx : k48.K w x cx) (hy : k48.K w y cy) : Calls Tryz.prog 28 #[.agg cx.toArray, .agg cy.toArray] w fun e w' =>
    e = .returned (.bool (decide (x = y))) ∧ Below w.heap.size w w' := by
  obtain ⟨b, hb, hi⟩ := same37_f x y _ (k48_big37 hx)
  have hd : b = decide (x = y) := by
    cases b
    · simp only [Bool.false_eq_true, false_iff] at hi; simp [hi]
    · simp only [true_iff] at hi; simp [hi]
  obtain ⟨A5, c5, A6, c6, A7, c7, A9, c9, rfl, l5, h5, l6, h6, l7, h7, l9, h9⟩ := k48_open hx
  obtain ⟨B5, d5, B6, d6, B7, d7, B9, d9, rfl, m5, i5, m6, i6, m7, i7, m9, i9⟩ := k48_open hy
  rw [← hd]
  exact sizarref37_Same.calls _ _ _ _ _ _ _ _ _ _ _ _ _ _ _ _ _ A5 c5 _ A6 c6 _ A7 c7 _ _ _ _ _ _ _ A9 c9 _ _ _ _ _ _ _ _ _ _ _ _ _ _ _ _ _ _ _ _ _ _ B5 d5 _ B6 d6 _ B7 d7 _ _ _ _ _ _ _ B9 d9 _ _ _ _ _ _ b w h5 l5 h6 l6 h7 l7 h9 l9 i5 m5 i6 m6 i7 m7 i9 m9 hb
end Go.Proofs.Lw
end
section
set_option linter.unusedSimpArgs false
namespace Go.Proofs.Lw
open Go.RowKit Go.Sort Go.Proofs.YtehddihmndpgaaaGreatDoorW.PrintWords Go.Proofs.YtehddihmndpgaaaGreatDoor.PLib
open Ldg (St cmpS)
/-- The array of the last stamps: 21 cells. -/
def Arr7 (last : Int → St) (cs : Array Value) : Prop :=
  cs.size = 21 ∧ ∀ c : Nat, c < 7 → cs[c * 3]? = some (.int .i64 (last c).time) ∧ cs[c * 3 + 1]? = some (.int .i64 (last c).campus) ∧ cs[c * 3 + 2]? = some (.int .i64 (last c).no)
theorem ret_b {a b : Bool} (h : a = b) : Ending.returned (.bool a) = .returned (.bool b) := by rw [h]
theorem setCells3at {w : World} {g o : Nat} {cs : Array Value} {x y z : Value} {t : TypeId} (h : w.heap[g]? = some (.cells cs t (0, 0))) :
    (((w.setCell ⟨g, o, none⟩ x).setCell ⟨g, o + 1, none⟩ y).setCell ⟨g, o + 2, none⟩ z).heap[g]? = some (.cells (((cs.setIfInBounds o x).setIfInBounds (o + 1) y).setIfInBounds (o + 2) z) t (0, 0)) := by
  simp [World.setCell, Array.getElem?_modify, h]
theorem below_set3at {B : Nat} {w0 w : World} {g o : Nat} {x y z : Value} (h : Below B w0 w) (hg : B ≤ g) :
    Below B w0 (((w.setCell ⟨g, o, none⟩ x).setCell ⟨g, o + 1, none⟩ y).setCell ⟨g, o + 2, none⟩ z) :=
  ((h.setCell (p := ⟨g, o, none⟩) hg _).setCell (p := ⟨g, o + 1, none⟩) hg _).setCell (p := ⟨g, o + 2, none⟩) hg _
theorem arr7_upd {last : Int → St} {arr : Array Value} (h : Arr7 last arr) {c1 : Nat} (hc : c1 ≤ 6) {s : St} (hs : s.campus = c1) :
    Arr7 (Ldg.upd last s) (((arr.setIfInBounds (c1 * 3) (.int .i64 s.time)).setIfInBounds (c1 * 3 + 1) (.int .i64 c1)).setIfInBounds (c1 * 3 + 2) (.int .i64 s.no)) := by
  obtain ⟨h1, h2⟩ := h
  refine ⟨by simpa using h1, fun c hc7 => ?_⟩
  obtain ⟨a0, a1, a2⟩ := h2 c hc7
  unfold Ldg.upd
  by_cases e : c = c1
  · subst e
    rw [if_pos hs.symm, hs]
    refine ⟨?_, ?_, ?_⟩ <;> simp [Array.getElem?_setIfInBounds, h1] <;> omega
  · have e' : ¬ ((c : Int) = s.campus) := by rw [hs]; omega
    rw [if_neg e']
    refine ⟨?_, ?_, ?_⟩ <;> (rw [Array.getElem?_setIfInBounds, Array.getElem?_setIfInBounds, Array.getElem?_setIfInBounds, if_neg (by omega), if_neg (by omega), if_neg (by omega)]; assumption)
set_option maxHeartbeats 8000000
set_option maxRecDepth 100000 in
theorem fit_any (A : Option Addr) (c : Nat) (l : List S48) (w : World) (h : Kd.C k48 w A l.length l) (hcam : ∀ x ∈ l, 0 ≤ x.f0.f1 ∧ x.f0.f1 ≤ 6) : Calls Tryz.prog 20 #[.slice A l.length c] w fun r w' =>
    r = .returned (.bool (Ldg.fitE st l)) ∧ Below w.heap.size w w' := by
  have hN : l.length ≤ 9223372036854775807 := h.2.1
  go_enter Tryz.func20, Tryz.ntmps20
  go_wp2
  go_loopw [10] (fun i wr => ∃ (k : Nat) (last : Int → St) (arr : Array Value), k ≤ l.length ∧ i = .int .i64 k ∧ Ldg.fitGo (if k = 0 then none else (l[k - 1]?).map st) last ((l.drop k).map st) = Ldg.fitE st l ∧
      wr.heap[w.heap.size]? = some (.cells arr 78 (0, 0)) ∧ Arr7 last arr ∧ Below w.heap.size w wr)
    (fun i _ => l.length - (intOf i).toNat)
  case atStart => exact ⟨0, fun _ => St.zero, _, Nat.zero_le _, rfl, rfl, heap_alloc_new _ _, ⟨rfl, fun c hc => by
    have : c = 0 ∨ c = 1 ∨ c = 2 ∨ c = 3 ∨ c = 4 ∨ c = 5 ∨ c = 6 := by omega
    rcases this with rfl | rfl | rfl | rfl | rfl | rfl | rfl <;> exact ⟨rfl, rfl, rfl⟩⟩, (Below.refl _ _).alloc (Nat.le_refl _) _⟩
  case round =>
    obtain ⟨k, last, arr, hk, rfl, hl, hb, ⟨har, hArr⟩, hB⟩ := hrel
    by_cases hlt : k < l.length
    · obtain ⟨ad, cs, rfl, hK, hcell⟩ := ent_at h k hlt
      obtain ⟨x, hx⟩ : ∃ x, x = l[k] := ⟨_, rfl⟩
      have hcx := hcam l[k] (List.getElem_mem hlt)
      rw [← hx] at hK hcx
      obtain ⟨c1, hc1⟩ : ∃ c1 : Nat, x.f0.f1 = c1 := ⟨x.f0.f1.toNat, by omega⟩
      have hc6 : c1 ≤ 6 := by omega
      have hcw : ∀ j u, cs[j]? = some u → wr.cell? ((ad.add (k * 31)).add j) = some u := fun j u hu => pw_cell_below hB (hcell j u hu)
      have hcl := k48_len hK
      obtain ⟨g0, g1, g2⟩ := k48_head hK
      obtain ⟨_, g0⟩ := List.getElem?_eq_some_iff.1 g0
      obtain ⟨_, g1⟩ := List.getElem?_eq_some_iff.1 g1
      obtain ⟨_, g2⟩ := List.getElem?_eq_some_iff.1 g2
      rw [hc1] at g1
      have hsz : (Tryz.prog.info? 48).map (·.size) = some cs.length := by rw [hcl]; exact info48
      have hone := k48_one hK
      obtain ⟨a0, a1, a2⟩ := hArr c1 (by omega)
      have hbl : w.heap.size < wr.heap.size := (Array.getElem?_eq_some_iff.1 hb).1
      obtain ⟨bt, hbt⟩ : ∃ z, z = (last c1).time := ⟨_, rfl⟩
      obtain ⟨bc, hbc⟩ : ∃ z, z = (last c1).campus := ⟨_, rfl⟩
      obtain ⟨bn, hbn⟩ : ∃ z, z = (last c1).no := ⟨_, rfl⟩
      rw [← hbt] at a0
      rw [← hbc] at a1
      rw [← hbn] at a2
      have c0 := (cell_of_row wr w.heap.size (c1 * 3) _ 78 (0, 0) hb).trans a0
      have c1' := (cell_of_row wr w.heap.size (c1 * 3 + 1) _ 78 (0, 0) hb).trans a1
      have c2 := (cell_of_row wr w.heap.size (c1 * 3 + 2) _ 78 (0, 0) hb).trans a2
      have fz : ∀ j, wr.frozen? ⟨w.heap.size, j, none⟩ = false := fun j => by simp [World.frozen?, hb]
      have hstep : Ldg.fitE st l = if Ldg.fitBad (if k = 0 then none else (l[k - 1]?).map st) last (st x) then false else Ldg.fitGo (some (st x)) (Ldg.upd last (st x)) ((l.drop (k + 1)).map st) := by
        rw [← hl, List.drop_eq_getElem_cons hlt, ← hx]; rfl
      have hlastc : last (st x).campus = last c1 := by show last x.f0.f1 = _; rw [hc1]
      have Hstep := Lib.hid hstep
      have Hlc := Lib.hid hlastc
      have Hcx : Hid ((st x).campus = c1) := Lib.hid hc1
      have Hb := Lib.hid hb
      have Hl := Lib.hid hl
      clear hstep hlastc
      have Hx := Lib.hid hx
      have Hc := Lib.hid hc1
      have HA : Hid (Arr7 last arr) := Lib.hid ⟨har, hArr⟩
      have Hbt := Lib.hid hbt
      have Hbc := Lib.hid hbc
      have Hbn := Lib.hid hbn
      clear hb hl hx hc1 hArr a0 a1 a2 hcx hbt hbc hbn
      go_wp2_with (first
        | (refine wpList_load_at rfl 48 _ rfl (ad.add (k * 31)) rfl cs _ hcw Tryz.underlying48 rfl hsz ?_)
        | (refine wpList_store_new rfl 48 _ _ rfl cs.toArray _ _ rfl rfl (by simpa using hsz) (by simp [hcl]) hone ?_))
      obtain ⟨W, hW⟩ : ∃ W, ((wr.alloc (Obj.cells cs.toArray 48)).alloc (Obj.cells #[Value.int IntKind.i64 x.f0.f0, Value.int IntKind.i64 ↑c1, Value.int IntKind.i64 x.f0.f2] 32)).alloc
          (Obj.cells #[Value.int IntKind.i64 bt, Value.int IntKind.i64 bc, Value.int IntKind.i64 bn] 32) = W := ⟨_, rfl⟩
      rw [hW]
      have hBW : Below wr.heap.size wr W := by rw [← hW]; exact (((Below.refl _ _).alloc (Nat.le_refl _) _).alloc (by simp) _).alloc (by simp; omega) _
      have s0 : W.cell? ⟨wr.heap.size + 1, 0, none⟩ = some (.int .i64 x.f0.f0) := by rw [← hW]; simp [go_sem]
      have s1 : W.cell? ⟨wr.heap.size + 1, 1, none⟩ = some (.int .i64 c1) := by rw [← hW]; simp [go_sem]
      have s2 : W.cell? ⟨wr.heap.size + 1, 2, none⟩ = some (.int .i64 x.f0.f2) := by rw [← hW]; simp [go_sem]
      have b0 : W.cell? ⟨wr.heap.size + 1 + 1, 0, none⟩ = some (.int .i64 bt) := by rw [← hW]; simp [go_sem]
      have b2 : W.cell? ⟨wr.heap.size + 1 + 1, 2, none⟩ = some (.int .i64 bn) := by rw [← hW]; simp [go_sem]
      have HW := Lib.hid hW
      have hBall : ∀ d os, Below wr.heap.size wr (grow (redrawn W d) os) := fun d os => hBW.trans ((below_regrown W d os).mono hBW.size)
      have q0 : ∀ d os, (grow (redrawn W d) os).cell? ⟨w.heap.size, c1 * 3, none⟩ = some (.int .i64 bt) := fun d os => ((hBall d os).cell hbl).trans c0
      have q1 : ∀ d os, (grow (redrawn W d) os).cell? ⟨w.heap.size, c1 * 3 + 1, none⟩ = some (.int .i64 bc) := fun d os => ((hBall d os).cell hbl).trans c1'
      have q2 : ∀ d os, (grow (redrawn W d) os).cell? ⟨w.heap.size, c1 * 3 + 2, none⟩ = some (.int .i64 bn) := fun d os => ((hBall d os).cell hbl).trans c2
      have qf : ∀ d os j, (grow (redrawn W d) os).frozen? ⟨w.heap.size, j, none⟩ = false := fun d os j => ((hBall d os).frozen hbl).trans (fz j)
      have e0 := cell_regrown s0
      have e1 := cell_regrown s1
      have e2 := cell_regrown s2
      have f0 := cell_regrown b0
      have f2 := cell_regrown b2
      have HBall := Lib.hid hBall
      clear hW s0 s1 s2 b0 b2 c0 c1' c2 fz hBall hBW hcw hcell hone hsz g0 g1 g2 hcam
      have HB := Lib.hid hB
      clear hB
      by_cases hk0 : k = 0
      · have t1 : decide ((0 : Int) < k) = false := by simp [hk0]
        have t1' : decide (0 < k) = false := by simp [hk0]
        have hbad : ((∃ q, (if k = 0 then none else (l[k - 1]?).map st) = some q ∧ 0 ≤ cmpS q (st x)) ∨ (0 < bn ∧ (x.f0.f0 ≤ bt ∨ x.f0.f2 ≤ bn))) → Ldg.fitBad (if k = 0 then none else (l[k - 1]?).map st) last (st x) := by
          rw [Hbt.out, Hbn.out]; unfold Ldg.fitBad; rw [Hlc.out]; exact id
        have hgood : ¬ (0 < bn ∧ (x.f0.f0 ≤ bt ∨ x.f0.f2 ≤ bn)) → ¬ Ldg.fitBad (if k = 0 then none else (l[k - 1]?).map st) last (st x) := by
          rw [Hbt.out, Hbn.out]; unfold Ldg.fitBad; rw [Hlc.out, if_pos hk0]; rintro h (⟨q, hq, _⟩ | h'); cases hq; exact h h'
        have HbadI := Lib.hid hbad
        have HgoodI := Lib.hid hgood
        have Hk := Lib.hid hk0
        clear hk0 hbad hgood
        by_cases h2 : 0 < bn
        · have t2 : decide (0 < bn) = true := by simpa using h2
          by_cases h3 : x.f0.f0 ≤ bt
          · have t3 : decide (x.f0.f0 ≤ bt) = true := by simpa using h3
            have HBAD := Lib.hid (HbadI.out (.inr ⟨h2, .inl h3⟩))
            refine wp_region_quiet_below (by kernel_rfl) (by kernel_rfl) ?_
            repeat (first | go_big_quiet_step (fail) | quiet_step (fail))
            refine wpQuiet_nil ?_
            intro _ hw'
            obtain ⟨⟨dq, osq⟩, hw''⟩ := hw'
            subst hw''
            go_wp2
            go_ret
            exact ⟨ret_b (by rw [Hstep.out, if_pos HBAD.out]), ((HB.out).trans ((HBall.out dq osq).mono HB.out.size))⟩
          · have t3 : decide (x.f0.f0 ≤ bt) = false := by simpa using h3
            by_cases h4 : x.f0.f2 ≤ bn
            · have t4 : decide (x.f0.f2 ≤ bn) = true := by simpa using h4
              have HBAD := Lib.hid (HbadI.out (.inr ⟨h2, .inr h4⟩))
              refine wp_region_quiet_below (by kernel_rfl) (by kernel_rfl) ?_
              repeat (first | go_big_quiet_step (fail) | quiet_step (fail))
              refine wpQuiet_nil ?_
              intro _ hw'
              obtain ⟨⟨dq, osq⟩, hw''⟩ := hw'
              subst hw''
              go_wp2
              go_ret
              exact ⟨ret_b (by rw [Hstep.out, if_pos HBAD.out]), ((HB.out).trans ((HBall.out dq osq).mono HB.out.size))⟩
            · have t4 : decide (x.f0.f2 ≤ bn) = false := by simpa using h4
              have HGOOD := Lib.hid (HgoodI.out (by rintro ⟨_, h | h⟩; exact h3 h; exact h4 h))
              refine wp_region_quiet_below (by kernel_rfl) (by kernel_rfl) ?_
              repeat (first | go_big_quiet_step (fail) | quiet_step (fail))
              refine wpQuiet_nil ?_
              intro _ hw'
              obtain ⟨⟨dq, osq⟩, hw''⟩ := hw'
              subst hw''
              go_wp2
              have hH := (HBall.out dq osq).block w.heap.size hbl
              go_roundw
              case rel => exact ⟨k + 1, Ldg.upd last (st x), _, by omega, by go_num, by rw [Hstep.out, if_neg HGOOD.out, if_neg (by omega), Nat.add_sub_cancel, List.getElem?_eq_getElem hlt, ← Hx.out]; rfl, setCells3at (hH.trans Hb.out), arr7_upd (s := st x) HA.out hc6 Hcx.out, below_set3at ((HB.out).trans ((HBall.out dq osq).mono HB.out.size)) (Nat.le_refl _)⟩
              case measure => simp [intOf]; omega
        · have t2 : decide (0 < bn) = false := by simpa using h2
          have HGOOD := Lib.hid (HgoodI.out (by rintro ⟨h, _⟩; exact h2 h))
          refine wp_region_quiet_below (by kernel_rfl) (by kernel_rfl) ?_
          repeat (first | go_big_quiet_step (fail) | quiet_step (fail))
          refine wpQuiet_nil ?_
          intro _ hw'
          obtain ⟨⟨dq, osq⟩, hw''⟩ := hw'
          subst hw''
          go_wp2
          have hH := (HBall.out dq osq).block w.heap.size hbl
          go_roundw
          case rel => exact ⟨k + 1, Ldg.upd last (st x), _, by omega, by go_num, by rw [Hstep.out, if_neg HGOOD.out, if_neg (by omega), Nat.add_sub_cancel, List.getElem?_eq_getElem hlt, ← Hx.out]; rfl, setCells3at (hH.trans Hb.out), arr7_upd (s := st x) HA.out hc6 Hcx.out, below_set3at ((HB.out).trans ((HBall.out dq osq).mono HB.out.size)) (Nat.le_refl _)⟩
          case measure => simp [intOf]; omega
      · obtain ⟨j, hj⟩ : ∃ j, k = j + 1 := ⟨k - 1, by omega⟩
        have hjl : j < l.length := by omega
        obtain ⟨ad', cs', e', hK', hcell'⟩ := ent_at h j hjl
        obtain rfl := Option.some.inj e'
        obtain ⟨g0', g1', g2'⟩ := k48_head hK'
        obtain ⟨y, hy⟩ : ∃ y, y = l[j] := ⟨_, rfl⟩
        rw [← hy] at g0' g1' g2'
        have hbelow : ∀ d os, Below w.heap.size w (grow (redrawn W d) os) := fun d os => HB.out.trans ((HBall.out d os).mono HB.out.size)
        have p0 : ∀ d os, (grow (redrawn W d) os).cell? (ad.add (j * 31)) = some (.int .i64 y.f0.f0) := fun d os => pw_cell_below (hbelow d os) (by simpa [Addr.add] using hcell' 0 _ g0')
        have p1 : ∀ d os, (grow (redrawn W d) os).cell? ⟨(ad.add (j * 31)).block, (ad.add (j * 31)).off + 1, none⟩ = some (.int .i64 y.f0.f1) := fun d os => pw_cell_below (hbelow d os) (hcell' 1 _ g1')
        have p2 : ∀ d os, (grow (redrawn W d) os).cell? ⟨(ad.add (j * 31)).block, (ad.add (j * 31)).off + 2, none⟩ = some (.int .i64 y.f0.f2) := fun d os => pw_cell_below (hbelow d os) (hcell' 2 _ g2')
        obtain ⟨r, hr⟩ : ∃ r, cmpS ⟨y.f0.f0, y.f0.f1, y.f0.f2⟩ ⟨x.f0.f0, c1, x.f0.f2⟩ = r := ⟨_, rfl⟩
        have cC : ∀ d os, Calls Tryz.prog 33 #[.agg #[.int .i64 y.f0.f0, .int .i64 y.f0.f1, .int .i64 y.f0.f2], .agg #[.int .i64 x.f0.f0, .int .i64 c1, .int .i64 x.f0.f2]] (grow (redrawn W d) os) fun e w'' => e = .returned (.int .i64 r) ∧ ∃ p : Regrown, w'' = grow (redrawn W p.d) p.os :=
          fun d os => Calls.regrown_of (by rw [← hr]; exact cmp_any _ _ _ _ _ _ _)
        have hP : (if k = 0 then none else (l[k - 1]?).map st) = some (st y) := by
          rw [if_neg hk0, show k - 1 = j from by omega, List.getElem?_eq_getElem hjl, ← hy]; rfl
        have hr' : cmpS (st y) (st x) = r := by rw [← hr]; unfold st; rw [Hc.out]
        have t1 : decide ((0 : Int) < k) = true := by simp; omega
        have t1' : decide (0 < k) = true := by simp; omega
        have hbad : (0 ≤ r ∨ (0 < bn ∧ (x.f0.f0 ≤ bt ∨ x.f0.f2 ≤ bn))) → Ldg.fitBad (if k = 0 then none else (l[k - 1]?).map st) last (st x) := by
          rw [Hbt.out, Hbn.out]; unfold Ldg.fitBad; rw [Hlc.out, hP]; rintro (h | h); exact .inl ⟨_, rfl, by rw [hr']; exact h⟩; exact .inr h
        have hgood : ¬ 0 ≤ r → ¬ (0 < bn ∧ (x.f0.f0 ≤ bt ∨ x.f0.f2 ≤ bn)) → ¬ Ldg.fitBad (if k = 0 then none else (l[k - 1]?).map st) last (st x) := by
          rw [Hbt.out, Hbn.out]; unfold Ldg.fitBad; rw [Hlc.out, hP]; rintro h0 h (⟨q, hq, hc⟩ | h'); obtain rfl := Option.some.inj hq; rw [hr'] at hc; exact h0 hc; exact h h'
        have HbadI := Lib.hid hbad
        have HgoodI := Lib.hid hgood
        have Hk := Lib.hid hk0
        have k1 : IntKind.i64.wrap ((k : Int) - 1) = (j : Int) := by rw [hj]; exact IntWalk.i64_in _ (by omega) |>.trans (by omega)
        have k2 : ((k : Int) - 1) = (j : Int) := by omega
        have k3 : IntKind.i64.wrap (j : Int) = (j : Int) := IntWalk.i64_in _ (by omega)
        have Hj := Lib.hid hj
        clear hk0 hbad hgood hj hy hr hr' hP hbelow hcell' g0' g1' g2' hK' e' h
        by_cases h1 : 0 ≤ r
        · have t0 : decide (0 ≤ r) = true := by simpa using h1
          have HBAD := Lib.hid (HbadI.out (.inl h1))
          refine wp_region_quiet_below (by kernel_rfl) (by kernel_rfl) ?_
          repeat (first | go_big_quiet_step (exact cC _ _) | quiet_step (exact cC _ _))
          refine wpQuiet_nil ?_
          intro _ hw'
          obtain ⟨⟨dq, osq⟩, hw''⟩ := hw'
          subst hw''
          go_wp2
          go_ret
          exact ⟨ret_b (by rw [Hstep.out, if_pos HBAD.out]), ((HB.out).trans ((HBall.out dq osq).mono HB.out.size))⟩
        · have t0 : decide (0 ≤ r) = false := by simpa using h1
          by_cases h2 : 0 < bn
          · have t2 : decide (0 < bn) = true := by simpa using h2
            by_cases h3 : x.f0.f0 ≤ bt
            · have t3 : decide (x.f0.f0 ≤ bt) = true := by simpa using h3
              have HBAD := Lib.hid (HbadI.out (.inr ⟨h2, .inl h3⟩))
              refine wp_region_quiet_below (by kernel_rfl) (by kernel_rfl) ?_
              repeat (first | go_big_quiet_step (exact cC _ _) | quiet_step (exact cC _ _))
              refine wpQuiet_nil ?_
              intro _ hw'
              obtain ⟨⟨dq, osq⟩, hw''⟩ := hw'
              subst hw''
              go_wp2
              go_ret
              exact ⟨ret_b (by rw [Hstep.out, if_pos HBAD.out]), ((HB.out).trans ((HBall.out dq osq).mono HB.out.size))⟩
            · have t3 : decide (x.f0.f0 ≤ bt) = false := by simpa using h3
              by_cases h4 : x.f0.f2 ≤ bn
              · have t4 : decide (x.f0.f2 ≤ bn) = true := by simpa using h4
                have HBAD := Lib.hid (HbadI.out (.inr ⟨h2, .inr h4⟩))
                refine wp_region_quiet_below (by kernel_rfl) (by kernel_rfl) ?_
                repeat (first | go_big_quiet_step (exact cC _ _) | quiet_step (exact cC _ _))
                refine wpQuiet_nil ?_
                intro _ hw'
                obtain ⟨⟨dq, osq⟩, hw''⟩ := hw'
                subst hw''
                go_wp2
                go_ret
                exact ⟨ret_b (by rw [Hstep.out, if_pos HBAD.out]), ((HB.out).trans ((HBall.out dq osq).mono HB.out.size))⟩
              · have t4 : decide (x.f0.f2 ≤ bn) = false := by simpa using h4
                have HGOOD := Lib.hid (HgoodI.out h1 (by rintro ⟨_, h | h⟩; exact h3 h; exact h4 h))
                refine wp_region_quiet_below (by kernel_rfl) (by kernel_rfl) ?_
                repeat (first | go_big_quiet_step (exact cC _ _) | quiet_step (exact cC _ _))
                refine wpQuiet_nil ?_
                intro _ hw'
                obtain ⟨⟨dq, osq⟩, hw''⟩ := hw'
                subst hw''
                go_wp2
                have hH := (HBall.out dq osq).block w.heap.size hbl
                go_roundw
                case rel => exact ⟨k + 1, Ldg.upd last (st x), _, by omega, by go_num, by rw [Hstep.out, if_neg HGOOD.out, if_neg (by omega), Nat.add_sub_cancel, List.getElem?_eq_getElem hlt, ← Hx.out]; rfl, setCells3at (hH.trans Hb.out), arr7_upd (s := st x) HA.out hc6 Hcx.out, below_set3at ((HB.out).trans ((HBall.out dq osq).mono HB.out.size)) (Nat.le_refl _)⟩
                case measure => simp [intOf]; omega
          · have t2 : decide (0 < bn) = false := by simpa using h2
            have HGOOD := Lib.hid (HgoodI.out h1 (by rintro ⟨h, _⟩; exact h2 h))
            refine wp_region_quiet_below (by kernel_rfl) (by kernel_rfl) ?_
            repeat (first | go_big_quiet_step (exact cC _ _) | quiet_step (exact cC _ _))
            refine wpQuiet_nil ?_
            intro _ hw'
            obtain ⟨⟨dq, osq⟩, hw''⟩ := hw'
            subst hw''
            go_wp2
            have hH := (HBall.out dq osq).block w.heap.size hbl
            go_roundw
            case rel => exact ⟨k + 1, Ldg.upd last (st x), _, by omega, by go_num, by rw [Hstep.out, if_neg HGOOD.out, if_neg (by omega), Nat.add_sub_cancel, List.getElem?_eq_getElem hlt, ← Hx.out]; rfl, setCells3at (hH.trans Hb.out), arr7_upd (s := st x) HA.out hc6 Hcx.out, below_set3at ((HB.out).trans ((HBall.out dq osq).mono HB.out.size)) (Nat.le_refl _)⟩
            case measure => simp [intOf]; omega
    · have hlf : Ldg.fitE st l = true := by rw [← hl, List.drop_eq_nil_of_le (by omega)]; cases k <;> rfl
      have Hlf := Lib.hid hlf
      clear hl hlf hArr hb
      go_wp2
      go_ret
      exact ⟨ret_b (by rw [Hlf.out]), hB⟩
end Go.Proofs.Lw
end
section
set_option linter.unusedSimpArgs false
set_option linter.unusedVariables false
namespace Go.Proofs.Lw
open Go.RowKit Go.Sort Go.Proofs.YtehddihmndpgaaaGreatDoorW.PrintWords Go.Proofs.YtehddihmndpgaaaGreatDoor.PLib
open Ldg (St cmpS)
/-- What is asked of entries.Check: a number for each entry, in every world that bears what it reads. -/
structure Chk (G : World → Prop) (chk : S48 → Int) : Prop where
  keep : ∀ w w', G w → Below w.heap.size w w' → G w'
  call : ∀ x cs w, k48.K w x cs → G w → Calls Tryz.prog 18 #[.agg cs.toArray] w fun e w' => e = .returned (.int .i64 (chk x)) ∧ Below w.heap.size w w'
  st : ∀ x, chk x = 0 → Ldg.StOK (st x)
theorem ret_i {a b : Int} (h : a = b) : Ending.returned (.int .i64 a) = .returned (.int .i64 b) := by rw [h]
set_option maxHeartbeats 8000000
set_option maxRecDepth 100000 in
theorem check_any {G : World → Prop} {chk : S48 → Int} (hC : Chk G chk) (A : Option Addr) (c : Nat) (l : List S48) (w : World) (h : Kd.C k48 w A l.length l) (hGw : G w) : Calls Tryz.prog 9 #[.slice A l.length c] w fun r w' =>
    r = .returned (.int .i64 (Ldg.checkR st chk l)) ∧ Below w.heap.size w w' := by
  have hN : l.length ≤ 9223372036854775807 := h.2.1
  go_enter Tryz.func9, Tryz.ntmps9
  by_cases hbig : 65536 < l.length
  · have d1 : decide ((65536 : Int) < l.length) = true := by simp only [decide_eq_true_eq]; omega
    have d2 : decide (65536 < l.length) = true := by simpa using hbig
    go_wp2
    go_ret
    exact ⟨ret_i (by unfold Ldg.checkR; rw [if_pos hbig]), Below.refl _ _⟩
  · have d1 : decide ((65536 : Int) < l.length) = false := by simp only [decide_eq_false_iff_not]; omega
    have d2 : decide (65536 < l.length) = false := by simpa using hbig
    go_wp2
    go_loopw [10, 2] (fun i z wr => ∃ k : Nat, k ≤ l.length ∧ i = .int .i64 k ∧ z = .int .i64 0 ∧ (∀ x ∈ l.take k, chk x = 0) ∧ Ldg.chkL chk (l.drop k) = Ldg.chkL chk l ∧ Below w.heap.size w wr)
      (fun i _ _ => l.length - (intOf i).toNat)
    case atStart => exact ⟨0, Nat.zero_le _, rfl, rfl, by simp, rfl, Below.refl _ _⟩
    case round =>
      obtain ⟨k, hk, rfl, rfl, hall, hd, hB⟩ := hrel
      by_cases hlt : k < l.length
      · obtain ⟨ad, cs, rfl, hK, hcell⟩ := ent_at h k hlt
        have hcw : ∀ j u, cs[j]? = some u → wr.cell? ((ad.add (k * 31)).add j) = some u := fun j u hu => pw_cell_below hB (hcell j u hu)
        have hcl := k48_len hK
        have hsz : (Tryz.prog.info? 48).map (·.size) = some cs.length := by rw [hcl]; exact info48
        have hone := k48_one hK
        have hBn : Below w.heap.size w (wr.alloc (.cells cs.toArray 48)) := hB.alloc hB.size _
        have hcall := hC.call l[k] cs (wr.alloc (.cells cs.toArray 48)) (k48.K_below hBn hK) (hC.keep _ _ hGw hBn)
        have hnew : ∀ j u, cs[j]? = some u → (wr.alloc (.cells cs.toArray 48)).cell? ((⟨wr.heap.size, 0, none⟩ : Addr).add j) = some u := by
          intro j u hu
          have h2 := cell_of_row _ wr.heap.size j _ 48 (0, 0) (heap_alloc_new wr (Obj.cells cs.toArray 48))
          have h3 : (⟨wr.heap.size, 0, none⟩ : Addr).add j = ⟨wr.heap.size, j, none⟩ := by unfold Addr.add; by_cases h : j = 0 <;> simp [h]
          rw [h3, h2]
          simpa using hu
        rw [List.drop_eq_getElem_cons hlt] at hd
        obtain ⟨z, hz⟩ : ∃ z, chk l[k] = z := ⟨_, rfl⟩
        rw [hz] at hcall
        have Hd := Lib.hid hd
        have Hz := Lib.hid hz
        have Hall := Lib.hid hall
        have HB := Lib.hid hB
        have HBn := Lib.hid hBn
        clear hd hz hall hB hBn
        by_cases h0 : z = 0
        · subst h0
          go_wp2_with (first
            | (go_at_call 18; refine hcall.mono ?_; rintro e W2 ⟨rfl, hB2⟩)
            | (refine wpList_load_at rfl 48 _ rfl ⟨wr.heap.size, 0, none⟩ rfl cs _ hnew Tryz.underlying48 rfl hsz ?_)
            | (refine wpList_load_at rfl 48 _ rfl (ad.add (k * 31)) rfl cs _ hcw Tryz.underlying48 rfl hsz ?_)
            | (refine wpList_store_new rfl 48 _ _ rfl cs.toArray _ _ rfl rfl (by simpa using hsz) (by simp [hcl]) hone ?_))
          go_roundw
          case rel =>
            refine ⟨k + 1, by omega, by go_num, rfl, ?_, ?_, HBn.out.trans (hB2.mono HBn.out.size)⟩
            · intro x hx
              rw [List.take_add_one, List.getElem?_eq_getElem hlt] at hx
              rcases List.mem_append.1 hx with hx | hx
              · exact Hall.out x hx
              · simp at hx; rw [hx]; exact Hz.out
            · have := Hd.out
              simp only [Ldg.chkL, Hz.out] at this
              simpa using this
          case measure => simp [intOf]; omega
        · have d3 : (z == 0) = false := by simpa using h0
          have d4 : (z != 0) = true := by simpa using h0
          go_wp2_with (first
            | (go_at_call 18; refine hcall.mono ?_; rintro e W2 ⟨rfl, hB2⟩)
            | (refine wpList_load_at rfl 48 _ rfl ⟨wr.heap.size, 0, none⟩ rfl cs _ hnew Tryz.underlying48 rfl hsz ?_)
            | (refine wpList_load_at rfl 48 _ rfl (ad.add (k * 31)) rfl cs _ hcw Tryz.underlying48 rfl hsz ?_)
            | (refine wpList_store_new rfl 48 _ _ rfl cs.toArray _ _ rfl rfl (by simpa using hsz) (by simp [hcl]) hone ?_))
          go_ret
          refine ⟨ret_i ?_, HBn.out.trans (hB2.mono HBn.out.size)⟩
          have e := Hd.out
          simp only [Ldg.chkL, Hz.out, ne_eq, h0, not_false_eq_true, if_true] at e
          unfold Ldg.checkR
          rw [if_neg hbig, if_pos (by rw [← e]; exact h0), ← e]
      · have hall' : ∀ x ∈ l, chk x = 0 := by rw [List.take_of_length_le (by omega)] at hall; exact hall
        have hcam : ∀ x ∈ l, 0 ≤ x.f0.f1 ∧ x.f0.f1 ≤ 6 := fun x hx => by
          have := hC.st x (hall' x hx)
          exact ⟨this.2.2.1, this.2.2.2.1⟩
        have hfit := fit_any A c l wr (Kd.C_below h hB) hcam
        have h0 : Ldg.chkL chk l = 0 := by rw [← hd, List.drop_eq_nil_of_le (by omega)]; rfl
        obtain ⟨b, hb⟩ : ∃ b, Ldg.fitE st l = b := ⟨_, rfl⟩
        rw [hb] at hfit
        have HB := Lib.hid hB
        clear hB hd hall hall'
        cases b
        · go_wp2_with (go_at_call 20; refine hfit.mono ?_; rintro e W2 ⟨rfl, hB2⟩)
          go_ret
          exact ⟨ret_i (by unfold Ldg.checkR; rw [if_neg hbig, if_neg (by simp [h0]), hb]; rfl), HB.out.trans (hB2.mono HB.out.size)⟩
        · go_wp2_with (go_at_call 20; refine hfit.mono ?_; rintro e W2 ⟨rfl, hB2⟩)
          go_ret
          exact ⟨ret_i (by unfold Ldg.checkR; rw [if_neg hbig, if_neg (by simp [h0]), hb]; rfl), HB.out.trans (hB2.mono HB.out.size)⟩
end Go.Proofs.Lw
end
