import Derived.Laws.BitsLemmas
import Derived.Test.YtehddihmndpgaaaGreatDoorB03
import Derived.Test.YtehddihmndpgaaaGreatDoorB05
import Derived.Test.YtehddihmndpgaaaGreatDoorB06
import Derived.Test.YtehddihmndpgaaaGreatDoorB07
import Derived.Test.YtehddihmndpgaaaGreatDoorB08
import Derived.Test.YtehddihmndpgaaaGreatDoorB09
import Derived.Test.YtehddihmndpgaaaGreatDoorB10
import Derived.Test.YtehddihmndpgaaaGreatDoorB11
import Derived.Test.YtehddihmndpgaaaGreatDoorB12
import Derived.Test.YtehddihmndpgaaaGreatDoorB13
import Derived.Test.YtehddihmndpgaaaGreatDoorB14
set_option linter.unusedSimpArgs false
set_option linter.unusedVariables false
namespace Go.Proofs.Lw
open Go.RowKit Go.Proofs.YtehddihmndpgaaaGreatDoorW.PrintWords Go.Proofs.YtehddihmndpgaaaGreatDoor.PLib
def inB (n a b : Int) : Bool := decide (a ≤ n ∧ n ≤ b)
def spanB (s : S34) : Bool := decide (0 ≤ s.f0 ∧ s.f0 < s.f1 ∧ s.f1 ≤ 1024)
def mustR (b : Bool) : Int := if b then 0 else 370
theorem in_any (n a b : Int) (w : World) : Calls Tryz.prog 68 #[.int .i64 n, .int .i64 a, .int .i64 b] w fun e w' => e = .returned (.bool (inB n a b)) ∧ Below w.heap.size w w' :=
  (entries_in.calls n a b (inB n a b) w (by unfold entries_in.f inB; by_cases h1 : a ≤ n <;> by_cases h2 : n ≤ b <;> simp [h1, h2])).mono fun e w' ⟨h1, h2⟩ => ⟨h1, h2.below⟩
theorem must_any (b : Bool) (w : World) : Calls Tryz.prog 43 #[.bool b] w fun e w' => e = .returned (.int .i64 (mustR b)) ∧ Below w.heap.size w w' :=
  (entries_must.calls b (mustR b) w (by unfold entries_must.f mustR; cases b <;> rfl)).mono fun e w' ⟨h1, h2⟩ => ⟨h1, h2.below⟩
theorem span_any (s : S34) (w : World) : Calls Tryz.prog 44 #[.agg #[.int .i64 s.f0, .int .i64 s.f1]] w fun e w' => e = .returned (.bool (spanB s)) ∧ Below w.heap.size w w' :=
  entries_span.calls s.f0 s.f1 (spanB s) w (by unfold entries_span.f spanB; by_cases h1 : 0 ≤ s.f0 <;> by_cases h2 : s.f0 < s.f1 <;> by_cases h3 : s.f1 ≤ 1024 <;> simp [h1, h2, h3])
theorem student_any (x : S48) (cs : List Value) (w : World) (h : k48.K w x cs) : Calls Tryz.prog 67 #[.agg cs.toArray] w fun e w' => e = .returned (.bool (inB x.f2 0 19999)) ∧ Below w.heap.size w w' := by
  obtain ⟨_, _, _, _, _, _, _, _, rfl, l16, g16, l17, g17, l18, g18, l25, g25⟩ := k48_open h
  exact entries_student.calls _ _ _ _ _ _ _ _ _ _ _ _ _ _ _ _ _ _ _ _ _ _ _ _ _ _ _ _ _ _ _ _ _ _ _ _ _ _ _ _ w g16 l16 g17 l17 g18 l18 g25 l25 (by unfold entries_student.f entries_in.f inB; by_cases h1 : 0 ≤ x.f2 <;> by_cases h2 : x.f2 ≤ 19999 <;> simp [h1, h2])
theorem term_any (x : S48) (cs : List Value) (w : World) (h : k48.K w x cs) : Calls Tryz.prog 58 #[.agg cs.toArray] w fun e w' => e = .returned (.bool (inB x.f4 0 1023)) ∧ Below w.heap.size w w' := by
  obtain ⟨_, _, _, _, _, _, _, _, rfl, l16, g16, l17, g17, l18, g18, l25, g25⟩ := k48_open h
  exact entries_term.calls _ _ _ _ _ _ _ _ _ _ _ _ _ _ _ _ _ _ _ _ _ _ _ _ _ _ _ _ _ _ _ _ _ _ _ _ _ _ _ _ w g16 l16 g17 l17 g18 l18 g25 l25 (by unfold entries_term.f entries_in.f inB; by_cases h1 : 0 ≤ x.f4 <;> by_cases h2 : x.f4 ≤ 1023 <;> simp [h1, h2])
theorem ret_m {a b : Int} (h : a = b) : Ending.returned (.int .i64 a) = .returned (.int .i64 b) := by rw [h]
/-- The load of a whole struct under a guard that says yes. -/
theorem wpList_load_want {P : Program} {ops : Array Oper} {rest : List Oper} {op : Oper} {a : Act} {w : World} {Q : Exit → Act → World → Prop} (hw : Region.wanted op (yielded ops a.tmps) = true) (ty : TypeId) (x : Operand) (ho : op.op = .load ty x)
    (p : Addr) (hx : a.eval x = .pointer (some p)) (cs : List Value) (d : TypeDesc) (hc : ∀ j v, cs[j]? = some v → w.cell? (p.add j) = some v)
    (hu : P.underlying ty = some d) (hd : d.isRow = true) (hi : (P.info? ty).map (·.size) = some cs.length)
    (h : wpList P ops Q rest (a.put op.dst (.agg cs.toArray)) w) : wpList P ops Q (op :: rest) a w :=
  BigFrame.wpList_want hw fun _ hK => wp_load_at ty x ho p hx cs d hc hu hd hi (hK _ _ h)
/-- What a boxed entry gives. -/
structure Boxd (w : World) (x : S48) (cs : List Value) (W : World) : Prop where
  b : Below w.heap.size w W
  k : k48.K W x cs
  row : ∀ j u, cs[j]? = some u → W.cell? ((⟨w.heap.size, 0, none⟩ : Addr).add j) = some u
theorem boxd (w : World) (x : S48) (cs : List Value) (h : k48.K w x cs) : Boxd w x cs (w.alloc (.cells cs.toArray 48)) := by
  have hb : Below w.heap.size w (w.alloc (.cells cs.toArray 48)) := (Below.refl _ _).alloc (Nat.le_refl _) _
  refine ⟨hb, k48.K_below hb h, fun j u hu => ?_⟩
  rw [add_plain]
  exact (cell_of_row _ w.heap.size j _ 48 (0, 0) (heap_alloc_new w _)).trans (by simpa using hu)
theorem Boxd.at_ {w W : World} {x : S48} {cs : List Value} (h : Boxd w x cs W) {j : Nat} {u : Value} (hu : cs[j]? = some u) : W.cell? ⟨w.heap.size, j, none⟩ = some u := by
  have := h.row j u hu
  rwa [add_plain] at this
theorem Boxd.next {w W W' : World} {x : S48} {cs : List Value} (h : Boxd w x cs W) (hb : Below W.heap.size W W') : Boxd w x cs W' :=
  ⟨h.b.trans (hb.mono h.b.size), k48.K_below hb h.k, fun j u hu => pw_cell_below hb (h.row j u hu)⟩
set_option maxHeartbeats 4000000
set_option maxRecDepth 100000 in
theorem marked_t (x : S48) (cs : List Value) (w : World) (h : k48.K w x cs) : Calls Tryz.prog 46 #[.agg cs.toArray] w fun e w' => e = .returned (.int .i64 (mustR (inB x.f2 0 19999 && spanB x.f6 && inB x.f3 0 7 && (x.f5 == 1 || x.f5 == -1)))) ∧ Below w.heap.size w w' := by
  have hcl := k48_len h
  have hsz : (Tryz.prog.info? 48).map (·.size) = some cs.length := by rw [hcl]; exact info48
  have hone := k48_one h
  have sc := k48_scal h
  have bx0 := boxd w x cs h
  obtain ⟨b1, hb1⟩ : ∃ b, inB x.f2 0 19999 = b := ⟨_, rfl⟩
  have c1 := fun W (_h : Boxd w x cs W) => student_any x cs W _h.k
  simp only [hb1] at c1
  obtain ⟨b2, hb2⟩ : ∃ b, spanB x.f6 = b := ⟨_, rfl⟩
  have c2 := fun W (_h : Boxd w x cs W) => span_any x.f6 W
  simp only [hb2] at c2
  obtain ⟨b3, hb3⟩ : ∃ b, inB x.f3 0 7 = b := ⟨_, rfl⟩
  have c3 := fun W (_h : Boxd w x cs W) => in_any x.f3 0 7 W
  simp only [hb3] at c3
  rw [hb1, hb2, hb3]
  have HH1 := Lib.hid hb1
  have HH2 := Lib.hid hb2
  have HH3 := Lib.hid hb3
  clear hb1 hb2 hb3
  go_enter Tryz.func46, Tryz.ntmps46
  cases b1
  · skip
    go_wp2_with (first
      | (go_at_call 43; refine (must_any _ _).mono ?_; rintro e Wm ⟨rfl, hBm⟩; have bm := bx1.next hBm)
      | (go_at_call 67; refine (c1 _ bx0).mono ?_; rintro e W1 ⟨rfl, hB1⟩; have bx1 := bx0.next hB1; have k8 := bx1.at_ sc.h8; have k9 := bx1.at_ sc.h9)
      | ((with_reducible change wpList _ _ _ (⟨_, .load 48 _, _, _, _, none⟩ :: _) _ _); refine wpList_load_at rfl 48 _ rfl ⟨w.heap.size, 0, none⟩ rfl cs _ (Boxd.row (by assumption)) Tryz.underlying48 rfl hsz ?_)
      | ((with_reducible change wpList _ _ _ (⟨_, .load 48 _, _, _, _, some _⟩ :: _) _ _); refine wpList_load_want (by rfl) 48 _ rfl ⟨w.heap.size, 0, none⟩ rfl cs _ (Boxd.row (by assumption)) Tryz.underlying48 rfl hsz ?_)
      )
    all_goals (go_ret; exact ⟨ret_m (by first | rfl | (rw [t1', t2']; rfl) | (rw [t1']; rfl)), bm.b⟩)
  · skip
    cases b2
    · skip
      go_wp2_with (first
        | (go_at_call 43; refine (must_any _ _).mono ?_; rintro e Wm ⟨rfl, hBm⟩; have bm := bx2.next hBm)
        | (go_at_call 44; refine (c2 _ bx1).mono ?_; rintro e W2 ⟨rfl, hB2⟩; have bx2 := bx1.next hB2; have k5 := bx2.at_ sc.h5)
        | (go_at_call 67; refine (c1 _ bx0).mono ?_; rintro e W1 ⟨rfl, hB1⟩; have bx1 := bx0.next hB1; have k8 := bx1.at_ sc.h8; have k9 := bx1.at_ sc.h9)
        | ((with_reducible change wpList _ _ _ (⟨_, .load 48 _, _, _, _, none⟩ :: _) _ _); refine wpList_load_at rfl 48 _ rfl ⟨w.heap.size, 0, none⟩ rfl cs _ (Boxd.row (by assumption)) Tryz.underlying48 rfl hsz ?_)
        | ((with_reducible change wpList _ _ _ (⟨_, .load 48 _, _, _, _, some _⟩ :: _) _ _); refine wpList_load_want (by rfl) 48 _ rfl ⟨w.heap.size, 0, none⟩ rfl cs _ (Boxd.row (by assumption)) Tryz.underlying48 rfl hsz ?_)
        )
      all_goals (go_ret; exact ⟨ret_m (by first | rfl | (rw [t1', t2']; rfl) | (rw [t1']; rfl)), bm.b⟩)
    · skip
      cases b3
      · skip
        go_wp2_with (first
          | (go_at_call 43; refine (must_any _ _).mono ?_; rintro e Wm ⟨rfl, hBm⟩; have bm := bx3.next hBm)
          | (go_at_call 68; refine (c3 _ bx2).mono ?_; rintro e W3 ⟨rfl, hB3⟩; have bx3 := bx2.next hB3; have k7 := bx3.at_ sc.h7)
          | (go_at_call 44; refine (c2 _ bx1).mono ?_; rintro e W2 ⟨rfl, hB2⟩; have bx2 := bx1.next hB2; have k5 := bx2.at_ sc.h5)
          | (go_at_call 67; refine (c1 _ bx0).mono ?_; rintro e W1 ⟨rfl, hB1⟩; have bx1 := bx0.next hB1; have k8 := bx1.at_ sc.h8; have k9 := bx1.at_ sc.h9)
          | ((with_reducible change wpList _ _ _ (⟨_, .load 48 _, _, _, _, none⟩ :: _) _ _); refine wpList_load_at rfl 48 _ rfl ⟨w.heap.size, 0, none⟩ rfl cs _ (Boxd.row (by assumption)) Tryz.underlying48 rfl hsz ?_)
          | ((with_reducible change wpList _ _ _ (⟨_, .load 48 _, _, _, _, some _⟩ :: _) _ _); refine wpList_load_want (by rfl) 48 _ rfl ⟨w.heap.size, 0, none⟩ rfl cs _ (Boxd.row (by assumption)) Tryz.underlying48 rfl hsz ?_)
          )
        all_goals (go_ret; exact ⟨ret_m (by first | rfl | (rw [t1', t2']; rfl) | (rw [t1']; rfl)), bm.b⟩)
      · skip
        by_cases t1 : x.f5 = 1
        · have t1' : (x.f5 == 1) = true := by simpa using t1
          go_wp2_with (first
            | (go_at_call 43; refine (must_any _ _).mono ?_; rintro e Wm ⟨rfl, hBm⟩; have bm := bx3.next hBm)
            | (go_at_call 68; refine (c3 _ bx2).mono ?_; rintro e W3 ⟨rfl, hB3⟩; have bx3 := bx2.next hB3; have k7 := bx3.at_ sc.h7)
            | (go_at_call 44; refine (c2 _ bx1).mono ?_; rintro e W2 ⟨rfl, hB2⟩; have bx2 := bx1.next hB2; have k5 := bx2.at_ sc.h5)
            | (go_at_call 67; refine (c1 _ bx0).mono ?_; rintro e W1 ⟨rfl, hB1⟩; have bx1 := bx0.next hB1; have k8 := bx1.at_ sc.h8; have k9 := bx1.at_ sc.h9)
            | ((with_reducible change wpList _ _ _ (⟨_, .load 48 _, _, _, _, none⟩ :: _) _ _); refine wpList_load_at rfl 48 _ rfl ⟨w.heap.size, 0, none⟩ rfl cs _ (Boxd.row (by assumption)) Tryz.underlying48 rfl hsz ?_)
            | ((with_reducible change wpList _ _ _ (⟨_, .load 48 _, _, _, _, some _⟩ :: _) _ _); refine wpList_load_want (by rfl) 48 _ rfl ⟨w.heap.size, 0, none⟩ rfl cs _ (Boxd.row (by assumption)) Tryz.underlying48 rfl hsz ?_)
            )
          all_goals (go_ret; exact ⟨ret_m (by first | rfl | (rw [t1', t2']; rfl) | (rw [t1']; rfl)), bm.b⟩)
        · have t1' : (x.f5 == 1) = false := by simpa using t1
          by_cases t2 : x.f5 = -1
          · have t2' : (x.f5 == -1) = true := by simpa using t2
            go_wp2_with (first
              | (go_at_call 43; refine (must_any _ _).mono ?_; rintro e Wm ⟨rfl, hBm⟩; have bm := bx3.next hBm)
              | (go_at_call 68; refine (c3 _ bx2).mono ?_; rintro e W3 ⟨rfl, hB3⟩; have bx3 := bx2.next hB3; have k7 := bx3.at_ sc.h7)
              | (go_at_call 44; refine (c2 _ bx1).mono ?_; rintro e W2 ⟨rfl, hB2⟩; have bx2 := bx1.next hB2; have k5 := bx2.at_ sc.h5)
              | (go_at_call 67; refine (c1 _ bx0).mono ?_; rintro e W1 ⟨rfl, hB1⟩; have bx1 := bx0.next hB1; have k8 := bx1.at_ sc.h8; have k9 := bx1.at_ sc.h9)
              | ((with_reducible change wpList _ _ _ (⟨_, .load 48 _, _, _, _, none⟩ :: _) _ _); refine wpList_load_at rfl 48 _ rfl ⟨w.heap.size, 0, none⟩ rfl cs _ (Boxd.row (by assumption)) Tryz.underlying48 rfl hsz ?_)
              | ((with_reducible change wpList _ _ _ (⟨_, .load 48 _, _, _, _, some _⟩ :: _) _ _); refine wpList_load_want (by rfl) 48 _ rfl ⟨w.heap.size, 0, none⟩ rfl cs _ (Boxd.row (by assumption)) Tryz.underlying48 rfl hsz ?_)
              )
            all_goals (go_ret; exact ⟨ret_m (by first | rfl | (rw [t1', t2']; rfl) | (rw [t1']; rfl)), bm.b⟩)
          · have t2' : (x.f5 == -1) = false := by simpa using t2
            go_wp2_with (first
              | (go_at_call 43; refine (must_any _ _).mono ?_; rintro e Wm ⟨rfl, hBm⟩; have bm := bx3.next hBm)
              | (go_at_call 68; refine (c3 _ bx2).mono ?_; rintro e W3 ⟨rfl, hB3⟩; have bx3 := bx2.next hB3; have k7 := bx3.at_ sc.h7)
              | (go_at_call 44; refine (c2 _ bx1).mono ?_; rintro e W2 ⟨rfl, hB2⟩; have bx2 := bx1.next hB2; have k5 := bx2.at_ sc.h5)
              | (go_at_call 67; refine (c1 _ bx0).mono ?_; rintro e W1 ⟨rfl, hB1⟩; have bx1 := bx0.next hB1; have k8 := bx1.at_ sc.h8; have k9 := bx1.at_ sc.h9)
              | ((with_reducible change wpList _ _ _ (⟨_, .load 48 _, _, _, _, none⟩ :: _) _ _); refine wpList_load_at rfl 48 _ rfl ⟨w.heap.size, 0, none⟩ rfl cs _ (Boxd.row (by assumption)) Tryz.underlying48 rfl hsz ?_)
              | ((with_reducible change wpList _ _ _ (⟨_, .load 48 _, _, _, _, some _⟩ :: _) _ _); refine wpList_load_want (by rfl) 48 _ rfl ⟨w.heap.size, 0, none⟩ rfl cs _ (Boxd.row (by assumption)) Tryz.underlying48 rfl hsz ?_)
              )
            all_goals (go_ret; exact ⟨ret_m (by first | rfl | (rw [t1', t2']; rfl) | (rw [t1']; rfl)), bm.b⟩)
set_option maxHeartbeats 4000000
set_option maxRecDepth 100000 in
theorem ticked_t (x : S48) (cs : List Value) (w : World) (h : k48.K w x cs) : Calls Tryz.prog 57 #[.agg cs.toArray] w fun e w' => e = .returned (.int .i64 (mustR (inB x.f4 0 1023))) ∧ Below w.heap.size w w' := by
  have hcl := k48_len h
  have hsz : (Tryz.prog.info? 48).map (·.size) = some cs.length := by rw [hcl]; exact info48
  have hone := k48_one h
  have sc := k48_scal h
  have bx0 := boxd w x cs h
  obtain ⟨b1, hb1⟩ : ∃ b, inB x.f4 0 1023 = b := ⟨_, rfl⟩
  have c1 := fun W (_h : Boxd w x cs W) => term_any x cs W _h.k
  simp only [hb1] at c1
  rw [hb1]
  have HH1 := Lib.hid hb1
  clear hb1
  go_enter Tryz.func57, Tryz.ntmps57
  cases b1
  · skip
    go_wp2_with (first
      | (go_at_call 43; refine (must_any _ _).mono ?_; rintro e Wm ⟨rfl, hBm⟩; have bm := bx1.next hBm)
      | (go_at_call 58; refine (c1 _ bx0).mono ?_; rintro e W1 ⟨rfl, hB1⟩; have bx1 := bx0.next hB1)
      | ((with_reducible change wpList _ _ _ (⟨_, .load 48 _, _, _, _, none⟩ :: _) _ _); refine wpList_load_at rfl 48 _ rfl ⟨w.heap.size, 0, none⟩ rfl cs _ (Boxd.row (by assumption)) Tryz.underlying48 rfl hsz ?_)
      | ((with_reducible change wpList _ _ _ (⟨_, .load 48 _, _, _, _, some _⟩ :: _) _ _); refine wpList_load_want (by rfl) 48 _ rfl ⟨w.heap.size, 0, none⟩ rfl cs _ (Boxd.row (by assumption)) Tryz.underlying48 rfl hsz ?_)
      )
    all_goals (go_ret; exact ⟨ret_m (by first | rfl | (rw [t1', t2']; rfl) | (rw [t1']; rfl)), bm.b⟩)
  · skip
    go_wp2_with (first
      | (go_at_call 43; refine (must_any _ _).mono ?_; rintro e Wm ⟨rfl, hBm⟩; have bm := bx1.next hBm)
      | (go_at_call 58; refine (c1 _ bx0).mono ?_; rintro e W1 ⟨rfl, hB1⟩; have bx1 := bx0.next hB1)
      | ((with_reducible change wpList _ _ _ (⟨_, .load 48 _, _, _, _, none⟩ :: _) _ _); refine wpList_load_at rfl 48 _ rfl ⟨w.heap.size, 0, none⟩ rfl cs _ (Boxd.row (by assumption)) Tryz.underlying48 rfl hsz ?_)
      | ((with_reducible change wpList _ _ _ (⟨_, .load 48 _, _, _, _, some _⟩ :: _) _ _); refine wpList_load_want (by rfl) 48 _ rfl ⟨w.heap.size, 0, none⟩ rfl cs _ (Boxd.row (by assumption)) Tryz.underlying48 rfl hsz ?_)
      )
    all_goals (go_ret; exact ⟨ret_m (by first | rfl | (rw [t1', t2']; rfl) | (rw [t1']; rfl)), bm.b⟩)
set_option maxHeartbeats 4000000
set_option maxRecDepth 100000 in
theorem catalogue_t (x : S48) (cs : List Value) (w : World) (h : k48.K w x cs) : Calls Tryz.prog 42 #[.agg cs.toArray] w fun e w' => e = .returned (.int .i64 (mustR (spanB x.f6 && decide (x.f7.size ≤ 65536)))) ∧ Below w.heap.size w w' := by
  have hcl := k48_len h
  have hsz : (Tryz.prog.info? 48).map (·.size) = some cs.length := by rw [hcl]; exact info48
  have hone := k48_one h
  have sc := k48_scal h
  have bx0 := boxd w x cs h
  obtain ⟨b1, hb1⟩ : ∃ b, spanB x.f6 = b := ⟨_, rfl⟩
  have c1 := fun W (_h : Boxd w x cs W) => span_any x.f6 W
  simp only [hb1] at c1
  rw [hb1]
  have HH1 := Lib.hid hb1
  clear hb1
  have k8 := bx0.at_ sc.h8
  have k9 := bx0.at_ sc.h9
  go_enter Tryz.func42, Tryz.ntmps42
  cases b1
  · skip
    go_wp2_with (first
      | (go_at_call 43; refine (must_any _ _).mono ?_; rintro e Wm ⟨rfl, hBm⟩; have bm := bx1.next hBm)
      | (go_at_call 44; refine (c1 _ bx0).mono ?_; rintro e W1 ⟨rfl, hB1⟩; have bx1 := bx0.next hB1; have k10 := bx1.at_ sc.h10)
      | ((with_reducible change wpList _ _ _ (⟨_, .load 48 _, _, _, _, none⟩ :: _) _ _); refine wpList_load_at rfl 48 _ rfl ⟨w.heap.size, 0, none⟩ rfl cs _ (Boxd.row (by assumption)) Tryz.underlying48 rfl hsz ?_)
      | ((with_reducible change wpList _ _ _ (⟨_, .load 48 _, _, _, _, some _⟩ :: _) _ _); refine wpList_load_want (by rfl) 48 _ rfl ⟨w.heap.size, 0, none⟩ rfl cs _ (Boxd.row (by assumption)) Tryz.underlying48 rfl hsz ?_)
      )
    all_goals (go_ret; exact ⟨ret_m (by first | rfl | (simp [t1]; done)), bm.b⟩)
  · skip
    by_cases t1 : x.f7.size ≤ 65536
    · have t2 : decide ((x.f7.size : Int) ≤ 65536) = true := by simp only [decide_eq_true_eq]; omega
      go_wp2_with (first
        | (go_at_call 43; refine (must_any _ _).mono ?_; rintro e Wm ⟨rfl, hBm⟩; have bm := bx1.next hBm)
        | (go_at_call 44; refine (c1 _ bx0).mono ?_; rintro e W1 ⟨rfl, hB1⟩; have bx1 := bx0.next hB1; have k10 := bx1.at_ sc.h10)
        | ((with_reducible change wpList _ _ _ (⟨_, .load 48 _, _, _, _, none⟩ :: _) _ _); refine wpList_load_at rfl 48 _ rfl ⟨w.heap.size, 0, none⟩ rfl cs _ (Boxd.row (by assumption)) Tryz.underlying48 rfl hsz ?_)
        | ((with_reducible change wpList _ _ _ (⟨_, .load 48 _, _, _, _, some _⟩ :: _) _ _); refine wpList_load_want (by rfl) 48 _ rfl ⟨w.heap.size, 0, none⟩ rfl cs _ (Boxd.row (by assumption)) Tryz.underlying48 rfl hsz ?_)
        )
      all_goals (go_ret; exact ⟨ret_m (by first | rfl | (simp [t1]; done)), bm.b⟩)
    · have t2 : decide ((x.f7.size : Int) ≤ 65536) = false := by simp only [decide_eq_false_iff_not]; omega
      go_wp2_with (first
        | (go_at_call 43; refine (must_any _ _).mono ?_; rintro e Wm ⟨rfl, hBm⟩; have bm := bx1.next hBm)
        | (go_at_call 44; refine (c1 _ bx0).mono ?_; rintro e W1 ⟨rfl, hB1⟩; have bx1 := bx0.next hB1; have k10 := bx1.at_ sc.h10)
        | ((with_reducible change wpList _ _ _ (⟨_, .load 48 _, _, _, _, none⟩ :: _) _ _); refine wpList_load_at rfl 48 _ rfl ⟨w.heap.size, 0, none⟩ rfl cs _ (Boxd.row (by assumption)) Tryz.underlying48 rfl hsz ?_)
        | ((with_reducible change wpList _ _ _ (⟨_, .load 48 _, _, _, _, some _⟩ :: _) _ _); refine wpList_load_want (by rfl) 48 _ rfl ⟨w.heap.size, 0, none⟩ rfl cs _ (Boxd.row (by assumption)) Tryz.underlying48 rfl hsz ?_)
        )
      all_goals (go_ret; exact ⟨ret_m (by first | rfl | (simp [t1]; done)), bm.b⟩)
def petE (n m : Int) (b : Nat) : MapEntry := { key := .int .i64 n, val := .int .i64 m, born := b }
def pet1 : Array MapEntry := #[petE 7 4095 0]
def pet2 : Array MapEntry := #[petE 7 4095 0, petE 9 4095 1]
def pet3 : Array MapEntry := #[petE 7 4095 0, petE 9 4095 1, petE 8 3999 2]
def pet4 : Array MapEntry := #[petE 7 4095 0, petE 9 4095 1, petE 8 3999 2, petE 10 0 3]
def petOf (n : Int) : Option Int := if n = 7 then some 4095 else if n = 9 then some 4095 else if n = 8 then some 3999 else if n = 10 then some 0 else none
def petI (n : Int) : Nat := if n = 7 then 0 else if n = 9 then 1 else if n = 8 then 2 else 3
theorem find_pet (n : Int) : Instr.findNow (.int .i64) (.int .i64 n) pet4.toList 0 = some ((petOf n).map fun m => (petI n, .int .i64 m)) := by
  unfold pet4 petOf petI
  by_cases h1 : n = 7
  · subst h1; rfl
  by_cases h2 : n = 9
  · subst h2; rfl
  by_cases h3 : n = 8
  · subst h3; rfl
  by_cases h4 : n = 10
  · subst h4; rfl
  have q1 : (n == 7) = false := by simpa using h1
  have q2 : (n == 9) = false := by simpa using h2
  have q3 : (n == 8) = false := by simpa using h3
  have q4 : (n == 10) = false := by simpa using h4
  simp [Instr.findNow, Instr.sameNow, petE, h1, h2, h3, h4, q1, q2, q3, q4]
theorem zero3 (w : World) : (zeroValue 3).run Tryz.prog w = .ok (.int .i64 0) w := by kernel_rfl
theorem lookp_some {w : World} {r : Nat} {n m : Int} (hb : w.heap[r]? = some (.map pet4 4)) (h : petOf n = some m) :
    (Instr.lookup 100 (.map (some r)) (.int .i64 n) true).run Tryz.prog w = .ok (.tuple #[.int .i64 m, .bool true]) w :=
  run_lookup_at w 100 3 3 Tryz.underlying100 Tryz.underlying3 r _ _ hb n _ _ (by rw [find_pet, h]; rfl)
theorem lookp_none {w : World} {r : Nat} {n : Int} (hb : w.heap[r]? = some (.map pet4 4)) (h : petOf n = none) :
    (Instr.lookup 100 (.map (some r)) (.int .i64 n) true).run Tryz.prog w = .ok (.tuple #[.int .i64 0, .bool false]) w :=
  run_lookup_no w 100 3 3 Tryz.underlying100 Tryz.underlying3 _ (zero3 w) r _ _ hb n (by rw [find_pet, h]; rfl)
theorem wpList_look {P : Program} {ops : Array Oper} {rest : List Oper} {o : Oper} {a : Act} {w : World} {Q : Exit → Act → World → Prop} (hg : o.guard = none) (t : TypeId) (m k : Operand) (ho : o.op = .lookup t m k true) (r : Nat) (n : Int) (hm : a.eval m = .map (some r)) (hk : a.eval k = .int .i64 n)
    (v : Value) (hrun : (Instr.lookup t (.map (some r)) (.int .i64 n) true).run P w = .ok v w) (h : wpList P ops Q rest (a.put o.dst v) w) : wpList P ops Q (o :: rest) a w := by
  refine wpList_plain hg fun K' hK' => ?_
  unfold Oper.wp
  simp [execOp, ho, hm, hk, hrun, Result.andThen]
  exact hK' _ _ h
theorem wpList_insert_to {P : Program} {ops : Array Oper} {rest : List Oper} {o : Oper} {a : Act} {w : World} {Q : Exit → Act → World → Prop} (hg : o.guard = none) (t : TypeId) (m k v : Operand) (ho : o.op = .insert t m k v) (kt et : TypeId)
    (hu : P.underlying t = some (.map kt et)) (hk : P.underlying kt = some (.int .i64)) (es es' : Array MapEntry) (c r : Nat) (hr : r = w.heap.size) (n : Int) (x : Value) (hm : a.eval m = .map (some r)) (hkv : a.eval k = .int .i64 n) (hv : a.eval v = x)
    (hnew : Instr.findNow (.int .i64) (.int .i64 n) es.toList 0 = some none) (he : es.push { key := .int .i64 n, val := x, born := c } = es') (c' : Nat) (hc : c + 1 = c')
    (h : wpList P ops Q rest (a.put o.dst undef) (w.alloc (.map es' c'))) : wpList P ops Q (o :: rest) a (w.alloc (.map es c)) := by
  subst he hc
  exact wpList_insert_new hg t m k v ho kt et hu hk es c r hr n x hm hkv hv hnew h
set_option maxHeartbeats 4000000
set_option maxRecDepth 100000 in
theorem petitioned_some (x : S48) (cs : List Value) (w : World) (h : k48.K w x cs) (m : Int) (hp : petOf x.f4 = some m) : Calls Tryz.prog 48 #[.agg cs.toArray] w fun e w' => e = .returned (.int .i64 (mustR (inB x.f2 0 19999 && spanB x.f6 && inB x.f3 0 m && (x.f5 == -1 || inB x.f5 1 1099511627776)))) ∧ Below w.heap.size w w' := by
  have hcl := k48_len h
  have hsz : (Tryz.prog.info? 48).map (·.size) = some cs.length := by rw [hcl]; exact info48
  have hone := k48_one h
  have sc := k48_scal h
  have hmm := @run_makeMap Tryz.prog
  have hh : ((w.alloc (Obj.cells cs.toArray 48)).alloc (Obj.map pet4 4)).heap[w.heap.size + 1]? = some (.map pet4 4) := by
    have := heap_alloc_new (w.alloc (Obj.cells cs.toArray 48)) (Obj.map pet4 4)
    simpa using this
  have bx0 := (boxd w x cs h).next ((Below.refl _ _).alloc (Nat.le_refl _) (Obj.map pet4 4))
  have hlook := lookp_some hh hp
  clear hh
  have HP := Lib.hid hp
  clear hp
  obtain ⟨b1, hb1⟩ : ∃ b, inB x.f2 0 19999 = b := ⟨_, rfl⟩
  have c1 := fun W (_h : Boxd w x cs W) => student_any x cs W _h.k
  simp only [hb1] at c1
  obtain ⟨b2, hb2⟩ : ∃ b, spanB x.f6 = b := ⟨_, rfl⟩
  have c2 := fun W (_h : Boxd w x cs W) => span_any x.f6 W
  simp only [hb2] at c2
  obtain ⟨b3, hb3⟩ : ∃ b, inB x.f3 0 m = b := ⟨_, rfl⟩
  have c3 := fun W (_h : Boxd w x cs W) => in_any x.f3 0 m W
  simp only [hb3] at c3
  obtain ⟨b4, hb4⟩ : ∃ b, inB x.f5 1 1099511627776 = b := ⟨_, rfl⟩
  have c4 := fun W (_h : Boxd w x cs W) => in_any x.f5 1 1099511627776 W
  simp only [hb4] at c4
  rw [hb1, hb2, hb3, hb4]
  have HH1 := Lib.hid hb1
  have HH2 := Lib.hid hb2
  have HH3 := Lib.hid hb3
  have HH4 := Lib.hid hb4
  clear hb1 hb2 hb3 hb4
  have k6 := bx0.at_ sc.h6
  go_enter Tryz.func48, Tryz.ntmps48
  cases b1
  · skip
    go_wp2_with (first
      | ((with_reducible change wpList _ _ _ (⟨_, .insert 100 _ (.const (.int .i64 7)) _, _, _, _, _⟩ :: _) _ _); refine wpList_insert_to rfl 100 _ _ _ rfl 3 3 Tryz.underlying100 Tryz.underlying3 #[] pet1 0 _ (by simp) _ _ rfl rfl rfl (by rfl) (by rfl) 1 rfl ?_)
      | ((with_reducible change wpList _ _ _ (⟨_, .insert 100 _ (.const (.int .i64 9)) _, _, _, _, _⟩ :: _) _ _); refine wpList_insert_to rfl 100 _ _ _ rfl 3 3 Tryz.underlying100 Tryz.underlying3 pet1 pet2 1 _ (by simp) _ _ rfl rfl rfl (by rfl) (by rfl) 2 rfl ?_)
      | ((with_reducible change wpList _ _ _ (⟨_, .insert 100 _ (.const (.int .i64 8)) _, _, _, _, _⟩ :: _) _ _); refine wpList_insert_to rfl 100 _ _ _ rfl 3 3 Tryz.underlying100 Tryz.underlying3 pet2 pet3 2 _ (by simp) _ _ rfl rfl rfl (by rfl) (by rfl) 3 rfl ?_)
      | ((with_reducible change wpList _ _ _ (⟨_, .insert 100 _ (.const (.int .i64 10)) _, _, _, _, _⟩ :: _) _ _); refine wpList_insert_to rfl 100 _ _ _ rfl 3 3 Tryz.underlying100 Tryz.underlying3 pet3 pet4 3 _ (by simp) _ _ rfl rfl rfl (by rfl) (by rfl) 4 rfl ?_)
      | ((with_reducible change wpList _ _ _ (⟨_, .lookup 100 _ _ _, _, _, _, _⟩ :: _) _ _); refine wpList_look rfl 100 _ _ rfl _ _ rfl rfl _ hlook ?_)
      | (go_at_call 43; refine (must_any _ _).mono ?_; rintro e Wm ⟨rfl, hBm⟩; have bm := bx1.next hBm)
      | (go_at_call 67; refine (c1 _ bx0).mono ?_; rintro e W1 ⟨rfl, hB1⟩; have bx1 := bx0.next hB1; have k8 := bx1.at_ sc.h8; have k9 := bx1.at_ sc.h9)
      | ((with_reducible change wpList _ _ _ (⟨_, .load 48 _, _, _, _, none⟩ :: _) _ _); refine wpList_load_at rfl 48 _ rfl ⟨w.heap.size, 0, none⟩ rfl cs _ (Boxd.row (by assumption)) Tryz.underlying48 rfl hsz ?_)
      | ((with_reducible change wpList _ _ _ (⟨_, .load 48 _, _, _, _, some _⟩ :: _) _ _); refine wpList_load_want (by rfl) 48 _ rfl ⟨w.heap.size, 0, none⟩ rfl cs _ (Boxd.row (by assumption)) Tryz.underlying48 rfl hsz ?_)
      )
    all_goals (go_ret; exact ⟨ret_m (by first | rfl | (rw [t1']; rfl)), bm.b⟩)
  · skip
    cases b2
    · skip
      go_wp2_with (first
        | ((with_reducible change wpList _ _ _ (⟨_, .insert 100 _ (.const (.int .i64 7)) _, _, _, _, _⟩ :: _) _ _); refine wpList_insert_to rfl 100 _ _ _ rfl 3 3 Tryz.underlying100 Tryz.underlying3 #[] pet1 0 _ (by simp) _ _ rfl rfl rfl (by rfl) (by rfl) 1 rfl ?_)
        | ((with_reducible change wpList _ _ _ (⟨_, .insert 100 _ (.const (.int .i64 9)) _, _, _, _, _⟩ :: _) _ _); refine wpList_insert_to rfl 100 _ _ _ rfl 3 3 Tryz.underlying100 Tryz.underlying3 pet1 pet2 1 _ (by simp) _ _ rfl rfl rfl (by rfl) (by rfl) 2 rfl ?_)
        | ((with_reducible change wpList _ _ _ (⟨_, .insert 100 _ (.const (.int .i64 8)) _, _, _, _, _⟩ :: _) _ _); refine wpList_insert_to rfl 100 _ _ _ rfl 3 3 Tryz.underlying100 Tryz.underlying3 pet2 pet3 2 _ (by simp) _ _ rfl rfl rfl (by rfl) (by rfl) 3 rfl ?_)
        | ((with_reducible change wpList _ _ _ (⟨_, .insert 100 _ (.const (.int .i64 10)) _, _, _, _, _⟩ :: _) _ _); refine wpList_insert_to rfl 100 _ _ _ rfl 3 3 Tryz.underlying100 Tryz.underlying3 pet3 pet4 3 _ (by simp) _ _ rfl rfl rfl (by rfl) (by rfl) 4 rfl ?_)
        | ((with_reducible change wpList _ _ _ (⟨_, .lookup 100 _ _ _, _, _, _, _⟩ :: _) _ _); refine wpList_look rfl 100 _ _ rfl _ _ rfl rfl _ hlook ?_)
        | (go_at_call 43; refine (must_any _ _).mono ?_; rintro e Wm ⟨rfl, hBm⟩; have bm := bx2.next hBm)
        | (go_at_call 44; refine (c2 _ bx1).mono ?_; rintro e W2 ⟨rfl, hB2⟩; have bx2 := bx1.next hB2; have k5 := bx2.at_ sc.h5)
        | (go_at_call 67; refine (c1 _ bx0).mono ?_; rintro e W1 ⟨rfl, hB1⟩; have bx1 := bx0.next hB1; have k8 := bx1.at_ sc.h8; have k9 := bx1.at_ sc.h9)
        | ((with_reducible change wpList _ _ _ (⟨_, .load 48 _, _, _, _, none⟩ :: _) _ _); refine wpList_load_at rfl 48 _ rfl ⟨w.heap.size, 0, none⟩ rfl cs _ (Boxd.row (by assumption)) Tryz.underlying48 rfl hsz ?_)
        | ((with_reducible change wpList _ _ _ (⟨_, .load 48 _, _, _, _, some _⟩ :: _) _ _); refine wpList_load_want (by rfl) 48 _ rfl ⟨w.heap.size, 0, none⟩ rfl cs _ (Boxd.row (by assumption)) Tryz.underlying48 rfl hsz ?_)
        )
      all_goals (go_ret; exact ⟨ret_m (by first | rfl | (rw [t1']; rfl)), bm.b⟩)
    · skip
      cases b3
      · skip
        go_wp2_with (first
          | ((with_reducible change wpList _ _ _ (⟨_, .insert 100 _ (.const (.int .i64 7)) _, _, _, _, _⟩ :: _) _ _); refine wpList_insert_to rfl 100 _ _ _ rfl 3 3 Tryz.underlying100 Tryz.underlying3 #[] pet1 0 _ (by simp) _ _ rfl rfl rfl (by rfl) (by rfl) 1 rfl ?_)
          | ((with_reducible change wpList _ _ _ (⟨_, .insert 100 _ (.const (.int .i64 9)) _, _, _, _, _⟩ :: _) _ _); refine wpList_insert_to rfl 100 _ _ _ rfl 3 3 Tryz.underlying100 Tryz.underlying3 pet1 pet2 1 _ (by simp) _ _ rfl rfl rfl (by rfl) (by rfl) 2 rfl ?_)
          | ((with_reducible change wpList _ _ _ (⟨_, .insert 100 _ (.const (.int .i64 8)) _, _, _, _, _⟩ :: _) _ _); refine wpList_insert_to rfl 100 _ _ _ rfl 3 3 Tryz.underlying100 Tryz.underlying3 pet2 pet3 2 _ (by simp) _ _ rfl rfl rfl (by rfl) (by rfl) 3 rfl ?_)
          | ((with_reducible change wpList _ _ _ (⟨_, .insert 100 _ (.const (.int .i64 10)) _, _, _, _, _⟩ :: _) _ _); refine wpList_insert_to rfl 100 _ _ _ rfl 3 3 Tryz.underlying100 Tryz.underlying3 pet3 pet4 3 _ (by simp) _ _ rfl rfl rfl (by rfl) (by rfl) 4 rfl ?_)
          | ((with_reducible change wpList _ _ _ (⟨_, .lookup 100 _ _ _, _, _, _, _⟩ :: _) _ _); refine wpList_look rfl 100 _ _ rfl _ _ rfl rfl _ hlook ?_)
          | (go_at_call 43; refine (must_any _ _).mono ?_; rintro e Wm ⟨rfl, hBm⟩; have bm := bx3.next hBm)
          | (go_at_call 68; refine (c3 _ bx2).mono ?_; rintro e W3 ⟨rfl, hB3⟩; have bx3 := bx2.next hB3; have k7 := bx3.at_ sc.h7)
          | (go_at_call 44; refine (c2 _ bx1).mono ?_; rintro e W2 ⟨rfl, hB2⟩; have bx2 := bx1.next hB2; have k5 := bx2.at_ sc.h5)
          | (go_at_call 67; refine (c1 _ bx0).mono ?_; rintro e W1 ⟨rfl, hB1⟩; have bx1 := bx0.next hB1; have k8 := bx1.at_ sc.h8; have k9 := bx1.at_ sc.h9)
          | ((with_reducible change wpList _ _ _ (⟨_, .load 48 _, _, _, _, none⟩ :: _) _ _); refine wpList_load_at rfl 48 _ rfl ⟨w.heap.size, 0, none⟩ rfl cs _ (Boxd.row (by assumption)) Tryz.underlying48 rfl hsz ?_)
          | ((with_reducible change wpList _ _ _ (⟨_, .load 48 _, _, _, _, some _⟩ :: _) _ _); refine wpList_load_want (by rfl) 48 _ rfl ⟨w.heap.size, 0, none⟩ rfl cs _ (Boxd.row (by assumption)) Tryz.underlying48 rfl hsz ?_)
          )
        all_goals (go_ret; exact ⟨ret_m (by first | rfl | (rw [t1']; rfl)), bm.b⟩)
      · skip
        by_cases t1 : x.f5 = -1
        · have t1' : (x.f5 == -1) = true := by simpa using t1
          go_wp2_with (first
            | ((with_reducible change wpList _ _ _ (⟨_, .insert 100 _ (.const (.int .i64 7)) _, _, _, _, _⟩ :: _) _ _); refine wpList_insert_to rfl 100 _ _ _ rfl 3 3 Tryz.underlying100 Tryz.underlying3 #[] pet1 0 _ (by simp) _ _ rfl rfl rfl (by rfl) (by rfl) 1 rfl ?_)
            | ((with_reducible change wpList _ _ _ (⟨_, .insert 100 _ (.const (.int .i64 9)) _, _, _, _, _⟩ :: _) _ _); refine wpList_insert_to rfl 100 _ _ _ rfl 3 3 Tryz.underlying100 Tryz.underlying3 pet1 pet2 1 _ (by simp) _ _ rfl rfl rfl (by rfl) (by rfl) 2 rfl ?_)
            | ((with_reducible change wpList _ _ _ (⟨_, .insert 100 _ (.const (.int .i64 8)) _, _, _, _, _⟩ :: _) _ _); refine wpList_insert_to rfl 100 _ _ _ rfl 3 3 Tryz.underlying100 Tryz.underlying3 pet2 pet3 2 _ (by simp) _ _ rfl rfl rfl (by rfl) (by rfl) 3 rfl ?_)
            | ((with_reducible change wpList _ _ _ (⟨_, .insert 100 _ (.const (.int .i64 10)) _, _, _, _, _⟩ :: _) _ _); refine wpList_insert_to rfl 100 _ _ _ rfl 3 3 Tryz.underlying100 Tryz.underlying3 pet3 pet4 3 _ (by simp) _ _ rfl rfl rfl (by rfl) (by rfl) 4 rfl ?_)
            | ((with_reducible change wpList _ _ _ (⟨_, .lookup 100 _ _ _, _, _, _, _⟩ :: _) _ _); refine wpList_look rfl 100 _ _ rfl _ _ rfl rfl _ hlook ?_)
            | (go_at_call 43; refine (must_any _ _).mono ?_; rintro e Wm ⟨rfl, hBm⟩; have bm := bx3.next hBm)
            | (go_at_call 68; refine (c3 _ bx2).mono ?_; rintro e W3 ⟨rfl, hB3⟩; have bx3 := bx2.next hB3; have k7 := bx3.at_ sc.h7)
            | (go_at_call 44; refine (c2 _ bx1).mono ?_; rintro e W2 ⟨rfl, hB2⟩; have bx2 := bx1.next hB2; have k5 := bx2.at_ sc.h5)
            | (go_at_call 67; refine (c1 _ bx0).mono ?_; rintro e W1 ⟨rfl, hB1⟩; have bx1 := bx0.next hB1; have k8 := bx1.at_ sc.h8; have k9 := bx1.at_ sc.h9)
            | ((with_reducible change wpList _ _ _ (⟨_, .load 48 _, _, _, _, none⟩ :: _) _ _); refine wpList_load_at rfl 48 _ rfl ⟨w.heap.size, 0, none⟩ rfl cs _ (Boxd.row (by assumption)) Tryz.underlying48 rfl hsz ?_)
            | ((with_reducible change wpList _ _ _ (⟨_, .load 48 _, _, _, _, some _⟩ :: _) _ _); refine wpList_load_want (by rfl) 48 _ rfl ⟨w.heap.size, 0, none⟩ rfl cs _ (Boxd.row (by assumption)) Tryz.underlying48 rfl hsz ?_)
            )
          all_goals (go_ret; exact ⟨ret_m (by first | rfl | (rw [t1']; rfl)), bm.b⟩)
        · have t1' : (x.f5 == -1) = false := by simpa using t1
          cases b4
          · skip
            go_wp2_with (first
              | ((with_reducible change wpList _ _ _ (⟨_, .insert 100 _ (.const (.int .i64 7)) _, _, _, _, _⟩ :: _) _ _); refine wpList_insert_to rfl 100 _ _ _ rfl 3 3 Tryz.underlying100 Tryz.underlying3 #[] pet1 0 _ (by simp) _ _ rfl rfl rfl (by rfl) (by rfl) 1 rfl ?_)
              | ((with_reducible change wpList _ _ _ (⟨_, .insert 100 _ (.const (.int .i64 9)) _, _, _, _, _⟩ :: _) _ _); refine wpList_insert_to rfl 100 _ _ _ rfl 3 3 Tryz.underlying100 Tryz.underlying3 pet1 pet2 1 _ (by simp) _ _ rfl rfl rfl (by rfl) (by rfl) 2 rfl ?_)
              | ((with_reducible change wpList _ _ _ (⟨_, .insert 100 _ (.const (.int .i64 8)) _, _, _, _, _⟩ :: _) _ _); refine wpList_insert_to rfl 100 _ _ _ rfl 3 3 Tryz.underlying100 Tryz.underlying3 pet2 pet3 2 _ (by simp) _ _ rfl rfl rfl (by rfl) (by rfl) 3 rfl ?_)
              | ((with_reducible change wpList _ _ _ (⟨_, .insert 100 _ (.const (.int .i64 10)) _, _, _, _, _⟩ :: _) _ _); refine wpList_insert_to rfl 100 _ _ _ rfl 3 3 Tryz.underlying100 Tryz.underlying3 pet3 pet4 3 _ (by simp) _ _ rfl rfl rfl (by rfl) (by rfl) 4 rfl ?_)
              | ((with_reducible change wpList _ _ _ (⟨_, .lookup 100 _ _ _, _, _, _, _⟩ :: _) _ _); refine wpList_look rfl 100 _ _ rfl _ _ rfl rfl _ hlook ?_)
              | (go_at_call 43; refine (must_any _ _).mono ?_; rintro e Wm ⟨rfl, hBm⟩; have bm := bx4.next hBm)
              | (go_at_call 68; refine (c4 _ bx3).mono ?_; rintro e W4 ⟨rfl, hB4⟩; have bx4 := bx3.next hB4)
              | (go_at_call 68; refine (c3 _ bx2).mono ?_; rintro e W3 ⟨rfl, hB3⟩; have bx3 := bx2.next hB3; have k7 := bx3.at_ sc.h7)
              | (go_at_call 44; refine (c2 _ bx1).mono ?_; rintro e W2 ⟨rfl, hB2⟩; have bx2 := bx1.next hB2; have k5 := bx2.at_ sc.h5)
              | (go_at_call 67; refine (c1 _ bx0).mono ?_; rintro e W1 ⟨rfl, hB1⟩; have bx1 := bx0.next hB1; have k8 := bx1.at_ sc.h8; have k9 := bx1.at_ sc.h9)
              | ((with_reducible change wpList _ _ _ (⟨_, .load 48 _, _, _, _, none⟩ :: _) _ _); refine wpList_load_at rfl 48 _ rfl ⟨w.heap.size, 0, none⟩ rfl cs _ (Boxd.row (by assumption)) Tryz.underlying48 rfl hsz ?_)
              | ((with_reducible change wpList _ _ _ (⟨_, .load 48 _, _, _, _, some _⟩ :: _) _ _); refine wpList_load_want (by rfl) 48 _ rfl ⟨w.heap.size, 0, none⟩ rfl cs _ (Boxd.row (by assumption)) Tryz.underlying48 rfl hsz ?_)
              )
            all_goals (go_ret; exact ⟨ret_m (by first | rfl | (rw [t1']; rfl)), bm.b⟩)
          · skip
            go_wp2_with (first
              | ((with_reducible change wpList _ _ _ (⟨_, .insert 100 _ (.const (.int .i64 7)) _, _, _, _, _⟩ :: _) _ _); refine wpList_insert_to rfl 100 _ _ _ rfl 3 3 Tryz.underlying100 Tryz.underlying3 #[] pet1 0 _ (by simp) _ _ rfl rfl rfl (by rfl) (by rfl) 1 rfl ?_)
              | ((with_reducible change wpList _ _ _ (⟨_, .insert 100 _ (.const (.int .i64 9)) _, _, _, _, _⟩ :: _) _ _); refine wpList_insert_to rfl 100 _ _ _ rfl 3 3 Tryz.underlying100 Tryz.underlying3 pet1 pet2 1 _ (by simp) _ _ rfl rfl rfl (by rfl) (by rfl) 2 rfl ?_)
              | ((with_reducible change wpList _ _ _ (⟨_, .insert 100 _ (.const (.int .i64 8)) _, _, _, _, _⟩ :: _) _ _); refine wpList_insert_to rfl 100 _ _ _ rfl 3 3 Tryz.underlying100 Tryz.underlying3 pet2 pet3 2 _ (by simp) _ _ rfl rfl rfl (by rfl) (by rfl) 3 rfl ?_)
              | ((with_reducible change wpList _ _ _ (⟨_, .insert 100 _ (.const (.int .i64 10)) _, _, _, _, _⟩ :: _) _ _); refine wpList_insert_to rfl 100 _ _ _ rfl 3 3 Tryz.underlying100 Tryz.underlying3 pet3 pet4 3 _ (by simp) _ _ rfl rfl rfl (by rfl) (by rfl) 4 rfl ?_)
              | ((with_reducible change wpList _ _ _ (⟨_, .lookup 100 _ _ _, _, _, _, _⟩ :: _) _ _); refine wpList_look rfl 100 _ _ rfl _ _ rfl rfl _ hlook ?_)
              | (go_at_call 43; refine (must_any _ _).mono ?_; rintro e Wm ⟨rfl, hBm⟩; have bm := bx4.next hBm)
              | (go_at_call 68; refine (c4 _ bx3).mono ?_; rintro e W4 ⟨rfl, hB4⟩; have bx4 := bx3.next hB4)
              | (go_at_call 68; refine (c3 _ bx2).mono ?_; rintro e W3 ⟨rfl, hB3⟩; have bx3 := bx2.next hB3; have k7 := bx3.at_ sc.h7)
              | (go_at_call 44; refine (c2 _ bx1).mono ?_; rintro e W2 ⟨rfl, hB2⟩; have bx2 := bx1.next hB2; have k5 := bx2.at_ sc.h5)
              | (go_at_call 67; refine (c1 _ bx0).mono ?_; rintro e W1 ⟨rfl, hB1⟩; have bx1 := bx0.next hB1; have k8 := bx1.at_ sc.h8; have k9 := bx1.at_ sc.h9)
              | ((with_reducible change wpList _ _ _ (⟨_, .load 48 _, _, _, _, none⟩ :: _) _ _); refine wpList_load_at rfl 48 _ rfl ⟨w.heap.size, 0, none⟩ rfl cs _ (Boxd.row (by assumption)) Tryz.underlying48 rfl hsz ?_)
              | ((with_reducible change wpList _ _ _ (⟨_, .load 48 _, _, _, _, some _⟩ :: _) _ _); refine wpList_load_want (by rfl) 48 _ rfl ⟨w.heap.size, 0, none⟩ rfl cs _ (Boxd.row (by assumption)) Tryz.underlying48 rfl hsz ?_)
              )
            all_goals (go_ret; exact ⟨ret_m (by first | rfl | (rw [t1']; rfl)), bm.b⟩)
set_option maxHeartbeats 4000000
set_option maxRecDepth 100000 in
theorem petitioned_none (x : S48) (cs : List Value) (w : World) (h : k48.K w x cs) (hp : petOf x.f4 = none) : Calls Tryz.prog 48 #[.agg cs.toArray] w fun e w' => e = .returned (.int .i64 (mustR (false))) ∧ Below w.heap.size w w' := by
  have hcl := k48_len h
  have hsz : (Tryz.prog.info? 48).map (·.size) = some cs.length := by rw [hcl]; exact info48
  have hone := k48_one h
  have sc := k48_scal h
  have hmm := @run_makeMap Tryz.prog
  have hh : ((w.alloc (Obj.cells cs.toArray 48)).alloc (Obj.map pet4 4)).heap[w.heap.size + 1]? = some (.map pet4 4) := by
    have := heap_alloc_new (w.alloc (Obj.cells cs.toArray 48)) (Obj.map pet4 4)
    simpa using this
  have bx0 := (boxd w x cs h).next ((Below.refl _ _).alloc (Nat.le_refl _) (Obj.map pet4 4))
  have hlook := lookp_none hh hp
  clear hh
  have HP := Lib.hid hp
  clear hp
  have k6 := bx0.at_ sc.h6
  go_enter Tryz.func48, Tryz.ntmps48
  go_wp2_with (first
    | ((with_reducible change wpList _ _ _ (⟨_, .insert 100 _ (.const (.int .i64 7)) _, _, _, _, _⟩ :: _) _ _); refine wpList_insert_to rfl 100 _ _ _ rfl 3 3 Tryz.underlying100 Tryz.underlying3 #[] pet1 0 _ (by simp) _ _ rfl rfl rfl (by rfl) (by rfl) 1 rfl ?_)
    | ((with_reducible change wpList _ _ _ (⟨_, .insert 100 _ (.const (.int .i64 9)) _, _, _, _, _⟩ :: _) _ _); refine wpList_insert_to rfl 100 _ _ _ rfl 3 3 Tryz.underlying100 Tryz.underlying3 pet1 pet2 1 _ (by simp) _ _ rfl rfl rfl (by rfl) (by rfl) 2 rfl ?_)
    | ((with_reducible change wpList _ _ _ (⟨_, .insert 100 _ (.const (.int .i64 8)) _, _, _, _, _⟩ :: _) _ _); refine wpList_insert_to rfl 100 _ _ _ rfl 3 3 Tryz.underlying100 Tryz.underlying3 pet2 pet3 2 _ (by simp) _ _ rfl rfl rfl (by rfl) (by rfl) 3 rfl ?_)
    | ((with_reducible change wpList _ _ _ (⟨_, .insert 100 _ (.const (.int .i64 10)) _, _, _, _, _⟩ :: _) _ _); refine wpList_insert_to rfl 100 _ _ _ rfl 3 3 Tryz.underlying100 Tryz.underlying3 pet3 pet4 3 _ (by simp) _ _ rfl rfl rfl (by rfl) (by rfl) 4 rfl ?_)
    | ((with_reducible change wpList _ _ _ (⟨_, .lookup 100 _ _ _, _, _, _, _⟩ :: _) _ _); refine wpList_look rfl 100 _ _ rfl _ _ rfl rfl _ hlook ?_)
    | (go_at_call 43; refine (must_any _ _).mono ?_; rintro e Wm ⟨rfl, hBm⟩; have bm := bx0.next hBm)
    | ((with_reducible change wpList _ _ _ (⟨_, .load 48 _, _, _, _, none⟩ :: _) _ _); refine wpList_load_at rfl 48 _ rfl ⟨w.heap.size, 0, none⟩ rfl cs _ (Boxd.row (by assumption)) Tryz.underlying48 rfl hsz ?_)
    | ((with_reducible change wpList _ _ _ (⟨_, .load 48 _, _, _, _, some _⟩ :: _) _ _); refine wpList_load_want (by rfl) 48 _ rfl ⟨w.heap.size, 0, none⟩ rfl cs _ (Boxd.row (by assumption)) Tryz.underlying48 rfl hsz ?_)
    )
  all_goals (go_ret; exact ⟨ret_m (by rfl), bm.b⟩)
/-- The grade's form. -/
def gradeB (v : Int) : Bool := v == -1 || (decide (0 ≤ v) && decide (bits .and .i64 v 15 ≤ 12) && decide (v / 16 < 7))
set_option maxHeartbeats 4000000
set_option maxRecDepth 100000 in
theorem graded_t (x : S48) (cs : List Value) (w : World) (h : k48.K w x cs) : Calls Tryz.prog 45 #[.agg cs.toArray] w fun e w' => e = .returned (.int .i64 (mustR (inB x.f2 0 19999 && inB x.f4 0 1023 && inB x.f3 0 4095 && gradeB x.f5))) ∧ Below w.heap.size w w' := by
  have hcl := k48_len h
  have hsz : (Tryz.prog.info? 48).map (·.size) = some cs.length := by rw [hcl]; exact info48
  have hone := k48_one h
  have sc := k48_scal h
  have bx0 := boxd w x cs h
  obtain ⟨b1, hb1⟩ : ∃ b, inB x.f2 0 19999 = b := ⟨_, rfl⟩
  have c1 := fun W (_h : Boxd w x cs W) => student_any x cs W _h.k
  simp only [hb1] at c1
  obtain ⟨b2, hb2⟩ : ∃ b, inB x.f4 0 1023 = b := ⟨_, rfl⟩
  have c2 := fun W (_h : Boxd w x cs W) => term_any x cs W _h.k
  simp only [hb2] at c2
  obtain ⟨b3, hb3⟩ : ∃ b, inB x.f3 0 4095 = b := ⟨_, rfl⟩
  have c3 := fun W (_h : Boxd w x cs W) => in_any x.f3 0 4095 W
  simp only [hb3] at c3
  rw [hb1, hb2, hb3]
  have HH1 := Lib.hid hb1
  have HH2 := Lib.hid hb2
  have HH3 := Lib.hid hb3
  clear hb1 hb2 hb3
  have k7 := bx0.at_ sc.h7
  go_enter Tryz.func45, Tryz.ntmps45
  by_cases t1 : x.f5 = -1
  · have HG : Hid (gradeB x.f5 = true) := Lib.hid (by unfold gradeB; rw [t1]; rfl)
    have t1' : (x.f5 == -1) = true := by simpa using t1
    clear t1
    cases b1
    · skip
      go_wp2_with (first
        | (go_at_call 43; refine (must_any _ _).mono ?_; rintro e Wm ⟨rfl, hBm⟩; have bm := bx1.next hBm)
        | (go_at_call 67; refine (c1 _ bx0).mono ?_; rintro e W1 ⟨rfl, hB1⟩; have bx1 := bx0.next hB1)
        | ((with_reducible change wpList _ _ _ (⟨_, .load 48 _, _, _, _, none⟩ :: _) _ _); refine wpList_load_at rfl 48 _ rfl ⟨w.heap.size, 0, none⟩ rfl cs _ (Boxd.row (by assumption)) Tryz.underlying48 rfl hsz ?_)
        | ((with_reducible change wpList _ _ _ (⟨_, .load 48 _, _, _, _, some _⟩ :: _) _ _); refine wpList_load_want (by rfl) 48 _ rfl ⟨w.heap.size, 0, none⟩ rfl cs _ (Boxd.row (by assumption)) Tryz.underlying48 rfl hsz ?_)
        )
      all_goals (go_ret; exact ⟨ret_m (by first | rfl | (rw [HG.out]; rfl)), bm.b⟩)
    · skip
      cases b2
      · skip
        go_wp2_with (first
          | (go_at_call 43; refine (must_any _ _).mono ?_; rintro e Wm ⟨rfl, hBm⟩; have bm := bx2.next hBm)
          | (go_at_call 58; refine (c2 _ bx1).mono ?_; rintro e W2 ⟨rfl, hB2⟩; have bx2 := bx1.next hB2; have k5 := bx2.at_ sc.h5)
          | (go_at_call 67; refine (c1 _ bx0).mono ?_; rintro e W1 ⟨rfl, hB1⟩; have bx1 := bx0.next hB1)
          | ((with_reducible change wpList _ _ _ (⟨_, .load 48 _, _, _, _, none⟩ :: _) _ _); refine wpList_load_at rfl 48 _ rfl ⟨w.heap.size, 0, none⟩ rfl cs _ (Boxd.row (by assumption)) Tryz.underlying48 rfl hsz ?_)
          | ((with_reducible change wpList _ _ _ (⟨_, .load 48 _, _, _, _, some _⟩ :: _) _ _); refine wpList_load_want (by rfl) 48 _ rfl ⟨w.heap.size, 0, none⟩ rfl cs _ (Boxd.row (by assumption)) Tryz.underlying48 rfl hsz ?_)
          )
        all_goals (go_ret; exact ⟨ret_m (by first | rfl | (rw [HG.out]; rfl)), bm.b⟩)
      · skip
        cases b3
        · skip
          go_wp2_with (first
            | (go_at_call 43; refine (must_any _ _).mono ?_; rintro e Wm ⟨rfl, hBm⟩; have bm := bx3.next hBm)
            | (go_at_call 68; refine (c3 _ bx2).mono ?_; rintro e W3 ⟨rfl, hB3⟩; have bx3 := bx2.next hB3)
            | (go_at_call 58; refine (c2 _ bx1).mono ?_; rintro e W2 ⟨rfl, hB2⟩; have bx2 := bx1.next hB2; have k5 := bx2.at_ sc.h5)
            | (go_at_call 67; refine (c1 _ bx0).mono ?_; rintro e W1 ⟨rfl, hB1⟩; have bx1 := bx0.next hB1)
            | ((with_reducible change wpList _ _ _ (⟨_, .load 48 _, _, _, _, none⟩ :: _) _ _); refine wpList_load_at rfl 48 _ rfl ⟨w.heap.size, 0, none⟩ rfl cs _ (Boxd.row (by assumption)) Tryz.underlying48 rfl hsz ?_)
            | ((with_reducible change wpList _ _ _ (⟨_, .load 48 _, _, _, _, some _⟩ :: _) _ _); refine wpList_load_want (by rfl) 48 _ rfl ⟨w.heap.size, 0, none⟩ rfl cs _ (Boxd.row (by assumption)) Tryz.underlying48 rfl hsz ?_)
            )
          all_goals (go_ret; exact ⟨ret_m (by first | rfl | (rw [HG.out]; rfl)), bm.b⟩)
        · skip
          go_wp2_with (first
            | (go_at_call 43; refine (must_any _ _).mono ?_; rintro e Wm ⟨rfl, hBm⟩; have bm := bx3.next hBm)
            | (go_at_call 68; refine (c3 _ bx2).mono ?_; rintro e W3 ⟨rfl, hB3⟩; have bx3 := bx2.next hB3)
            | (go_at_call 58; refine (c2 _ bx1).mono ?_; rintro e W2 ⟨rfl, hB2⟩; have bx2 := bx1.next hB2; have k5 := bx2.at_ sc.h5)
            | (go_at_call 67; refine (c1 _ bx0).mono ?_; rintro e W1 ⟨rfl, hB1⟩; have bx1 := bx0.next hB1)
            | ((with_reducible change wpList _ _ _ (⟨_, .load 48 _, _, _, _, none⟩ :: _) _ _); refine wpList_load_at rfl 48 _ rfl ⟨w.heap.size, 0, none⟩ rfl cs _ (Boxd.row (by assumption)) Tryz.underlying48 rfl hsz ?_)
            | ((with_reducible change wpList _ _ _ (⟨_, .load 48 _, _, _, _, some _⟩ :: _) _ _); refine wpList_load_want (by rfl) 48 _ rfl ⟨w.heap.size, 0, none⟩ rfl cs _ (Boxd.row (by assumption)) Tryz.underlying48 rfl hsz ?_)
            )
          all_goals (go_ret; exact ⟨ret_m (by first | rfl | (rw [HG.out]; rfl)), bm.b⟩)
  · have t1' : (x.f5 == -1) = false := by simpa using t1
    by_cases t2 : 0 ≤ x.f5
    · have t2' : decide (0 ≤ x.f5) = true := by simpa using t2
      by_cases t3 : bits .and .i64 x.f5 15 ≤ 12
      · have t3' : decide (bits .and .i64 x.f5 15 ≤ 12) = true := by simpa using t3
        by_cases t4 : x.f5 / 16 < 7
        · have HG : Hid (gradeB x.f5 = true) := Lib.hid (by unfold gradeB; simp [t2, t3, t4])
          have t4' : decide (x.f5 / 16 < 7) = true := by simpa using t4
          cases b1
          · skip
            go_wp2_with (first
              | (go_at_call 43; refine (must_any _ _).mono ?_; rintro e Wm ⟨rfl, hBm⟩; have bm := bx1.next hBm)
              | (go_at_call 67; refine (c1 _ bx0).mono ?_; rintro e W1 ⟨rfl, hB1⟩; have bx1 := bx0.next hB1)
              | ((with_reducible change wpList _ _ _ (⟨_, .load 48 _, _, _, _, none⟩ :: _) _ _); refine wpList_load_at rfl 48 _ rfl ⟨w.heap.size, 0, none⟩ rfl cs _ (Boxd.row (by assumption)) Tryz.underlying48 rfl hsz ?_)
              | ((with_reducible change wpList _ _ _ (⟨_, .load 48 _, _, _, _, some _⟩ :: _) _ _); refine wpList_load_want (by rfl) 48 _ rfl ⟨w.heap.size, 0, none⟩ rfl cs _ (Boxd.row (by assumption)) Tryz.underlying48 rfl hsz ?_)
              )
            all_goals (go_ret; exact ⟨ret_m (by first | rfl | (rw [HG.out]; rfl)), bm.b⟩)
          · skip
            cases b2
            · skip
              go_wp2_with (first
                | (go_at_call 43; refine (must_any _ _).mono ?_; rintro e Wm ⟨rfl, hBm⟩; have bm := bx2.next hBm)
                | (go_at_call 58; refine (c2 _ bx1).mono ?_; rintro e W2 ⟨rfl, hB2⟩; have bx2 := bx1.next hB2; have k5 := bx2.at_ sc.h5)
                | (go_at_call 67; refine (c1 _ bx0).mono ?_; rintro e W1 ⟨rfl, hB1⟩; have bx1 := bx0.next hB1)
                | ((with_reducible change wpList _ _ _ (⟨_, .load 48 _, _, _, _, none⟩ :: _) _ _); refine wpList_load_at rfl 48 _ rfl ⟨w.heap.size, 0, none⟩ rfl cs _ (Boxd.row (by assumption)) Tryz.underlying48 rfl hsz ?_)
                | ((with_reducible change wpList _ _ _ (⟨_, .load 48 _, _, _, _, some _⟩ :: _) _ _); refine wpList_load_want (by rfl) 48 _ rfl ⟨w.heap.size, 0, none⟩ rfl cs _ (Boxd.row (by assumption)) Tryz.underlying48 rfl hsz ?_)
                )
              all_goals (go_ret; exact ⟨ret_m (by first | rfl | (rw [HG.out]; rfl)), bm.b⟩)
            · skip
              cases b3
              · skip
                go_wp2_with (first
                  | (go_at_call 43; refine (must_any _ _).mono ?_; rintro e Wm ⟨rfl, hBm⟩; have bm := bx3.next hBm)
                  | (go_at_call 68; refine (c3 _ bx2).mono ?_; rintro e W3 ⟨rfl, hB3⟩; have bx3 := bx2.next hB3)
                  | (go_at_call 58; refine (c2 _ bx1).mono ?_; rintro e W2 ⟨rfl, hB2⟩; have bx2 := bx1.next hB2; have k5 := bx2.at_ sc.h5)
                  | (go_at_call 67; refine (c1 _ bx0).mono ?_; rintro e W1 ⟨rfl, hB1⟩; have bx1 := bx0.next hB1)
                  | ((with_reducible change wpList _ _ _ (⟨_, .load 48 _, _, _, _, none⟩ :: _) _ _); refine wpList_load_at rfl 48 _ rfl ⟨w.heap.size, 0, none⟩ rfl cs _ (Boxd.row (by assumption)) Tryz.underlying48 rfl hsz ?_)
                  | ((with_reducible change wpList _ _ _ (⟨_, .load 48 _, _, _, _, some _⟩ :: _) _ _); refine wpList_load_want (by rfl) 48 _ rfl ⟨w.heap.size, 0, none⟩ rfl cs _ (Boxd.row (by assumption)) Tryz.underlying48 rfl hsz ?_)
                  )
                all_goals (go_ret; exact ⟨ret_m (by first | rfl | (rw [HG.out]; rfl)), bm.b⟩)
              · skip
                go_wp2_with (first
                  | (go_at_call 43; refine (must_any _ _).mono ?_; rintro e Wm ⟨rfl, hBm⟩; have bm := bx3.next hBm)
                  | (go_at_call 68; refine (c3 _ bx2).mono ?_; rintro e W3 ⟨rfl, hB3⟩; have bx3 := bx2.next hB3)
                  | (go_at_call 58; refine (c2 _ bx1).mono ?_; rintro e W2 ⟨rfl, hB2⟩; have bx2 := bx1.next hB2; have k5 := bx2.at_ sc.h5)
                  | (go_at_call 67; refine (c1 _ bx0).mono ?_; rintro e W1 ⟨rfl, hB1⟩; have bx1 := bx0.next hB1)
                  | ((with_reducible change wpList _ _ _ (⟨_, .load 48 _, _, _, _, none⟩ :: _) _ _); refine wpList_load_at rfl 48 _ rfl ⟨w.heap.size, 0, none⟩ rfl cs _ (Boxd.row (by assumption)) Tryz.underlying48 rfl hsz ?_)
                  | ((with_reducible change wpList _ _ _ (⟨_, .load 48 _, _, _, _, some _⟩ :: _) _ _); refine wpList_load_want (by rfl) 48 _ rfl ⟨w.heap.size, 0, none⟩ rfl cs _ (Boxd.row (by assumption)) Tryz.underlying48 rfl hsz ?_)
                  )
                all_goals (go_ret; exact ⟨ret_m (by first | rfl | (rw [HG.out]; rfl)), bm.b⟩)
        · have HG : Hid (gradeB x.f5 = false) := Lib.hid (by unfold gradeB; simp [t1, t4])
          have t4' : decide (x.f5 / 16 < 7) = false := by simpa using t4
          cases b1
          · skip
            go_wp2_with (first
              | (go_at_call 43; refine (must_any _ _).mono ?_; rintro e Wm ⟨rfl, hBm⟩; have bm := bx1.next hBm)
              | (go_at_call 67; refine (c1 _ bx0).mono ?_; rintro e W1 ⟨rfl, hB1⟩; have bx1 := bx0.next hB1)
              | ((with_reducible change wpList _ _ _ (⟨_, .load 48 _, _, _, _, none⟩ :: _) _ _); refine wpList_load_at rfl 48 _ rfl ⟨w.heap.size, 0, none⟩ rfl cs _ (Boxd.row (by assumption)) Tryz.underlying48 rfl hsz ?_)
              | ((with_reducible change wpList _ _ _ (⟨_, .load 48 _, _, _, _, some _⟩ :: _) _ _); refine wpList_load_want (by rfl) 48 _ rfl ⟨w.heap.size, 0, none⟩ rfl cs _ (Boxd.row (by assumption)) Tryz.underlying48 rfl hsz ?_)
              )
            all_goals (go_ret; exact ⟨ret_m (by first | rfl | (rw [HG.out]; rfl)), bm.b⟩)
          · skip
            cases b2
            · skip
              go_wp2_with (first
                | (go_at_call 43; refine (must_any _ _).mono ?_; rintro e Wm ⟨rfl, hBm⟩; have bm := bx2.next hBm)
                | (go_at_call 58; refine (c2 _ bx1).mono ?_; rintro e W2 ⟨rfl, hB2⟩; have bx2 := bx1.next hB2; have k5 := bx2.at_ sc.h5)
                | (go_at_call 67; refine (c1 _ bx0).mono ?_; rintro e W1 ⟨rfl, hB1⟩; have bx1 := bx0.next hB1)
                | ((with_reducible change wpList _ _ _ (⟨_, .load 48 _, _, _, _, none⟩ :: _) _ _); refine wpList_load_at rfl 48 _ rfl ⟨w.heap.size, 0, none⟩ rfl cs _ (Boxd.row (by assumption)) Tryz.underlying48 rfl hsz ?_)
                | ((with_reducible change wpList _ _ _ (⟨_, .load 48 _, _, _, _, some _⟩ :: _) _ _); refine wpList_load_want (by rfl) 48 _ rfl ⟨w.heap.size, 0, none⟩ rfl cs _ (Boxd.row (by assumption)) Tryz.underlying48 rfl hsz ?_)
                )
              all_goals (go_ret; exact ⟨ret_m (by first | rfl | (rw [HG.out]; rfl)), bm.b⟩)
            · skip
              cases b3
              · skip
                go_wp2_with (first
                  | (go_at_call 43; refine (must_any _ _).mono ?_; rintro e Wm ⟨rfl, hBm⟩; have bm := bx3.next hBm)
                  | (go_at_call 68; refine (c3 _ bx2).mono ?_; rintro e W3 ⟨rfl, hB3⟩; have bx3 := bx2.next hB3)
                  | (go_at_call 58; refine (c2 _ bx1).mono ?_; rintro e W2 ⟨rfl, hB2⟩; have bx2 := bx1.next hB2; have k5 := bx2.at_ sc.h5)
                  | (go_at_call 67; refine (c1 _ bx0).mono ?_; rintro e W1 ⟨rfl, hB1⟩; have bx1 := bx0.next hB1)
                  | ((with_reducible change wpList _ _ _ (⟨_, .load 48 _, _, _, _, none⟩ :: _) _ _); refine wpList_load_at rfl 48 _ rfl ⟨w.heap.size, 0, none⟩ rfl cs _ (Boxd.row (by assumption)) Tryz.underlying48 rfl hsz ?_)
                  | ((with_reducible change wpList _ _ _ (⟨_, .load 48 _, _, _, _, some _⟩ :: _) _ _); refine wpList_load_want (by rfl) 48 _ rfl ⟨w.heap.size, 0, none⟩ rfl cs _ (Boxd.row (by assumption)) Tryz.underlying48 rfl hsz ?_)
                  )
                all_goals (go_ret; exact ⟨ret_m (by first | rfl | (rw [HG.out]; rfl)), bm.b⟩)
              · skip
                go_wp2_with (first
                  | (go_at_call 43; refine (must_any _ _).mono ?_; rintro e Wm ⟨rfl, hBm⟩; have bm := bx3.next hBm)
                  | (go_at_call 68; refine (c3 _ bx2).mono ?_; rintro e W3 ⟨rfl, hB3⟩; have bx3 := bx2.next hB3)
                  | (go_at_call 58; refine (c2 _ bx1).mono ?_; rintro e W2 ⟨rfl, hB2⟩; have bx2 := bx1.next hB2; have k5 := bx2.at_ sc.h5)
                  | (go_at_call 67; refine (c1 _ bx0).mono ?_; rintro e W1 ⟨rfl, hB1⟩; have bx1 := bx0.next hB1)
                  | ((with_reducible change wpList _ _ _ (⟨_, .load 48 _, _, _, _, none⟩ :: _) _ _); refine wpList_load_at rfl 48 _ rfl ⟨w.heap.size, 0, none⟩ rfl cs _ (Boxd.row (by assumption)) Tryz.underlying48 rfl hsz ?_)
                  | ((with_reducible change wpList _ _ _ (⟨_, .load 48 _, _, _, _, some _⟩ :: _) _ _); refine wpList_load_want (by rfl) 48 _ rfl ⟨w.heap.size, 0, none⟩ rfl cs _ (Boxd.row (by assumption)) Tryz.underlying48 rfl hsz ?_)
                  )
                all_goals (go_ret; exact ⟨ret_m (by first | rfl | (rw [HG.out]; rfl)), bm.b⟩)
      · have t3' : decide (bits .and .i64 x.f5 15 ≤ 12) = false := by simpa using t3
        have HG : Hid (gradeB x.f5 = false) := Lib.hid (by unfold gradeB; simp [t1, t3])
        cases b1
        · skip
          go_wp2_with (first
            | (go_at_call 43; refine (must_any _ _).mono ?_; rintro e Wm ⟨rfl, hBm⟩; have bm := bx1.next hBm)
            | (go_at_call 67; refine (c1 _ bx0).mono ?_; rintro e W1 ⟨rfl, hB1⟩; have bx1 := bx0.next hB1)
            | ((with_reducible change wpList _ _ _ (⟨_, .load 48 _, _, _, _, none⟩ :: _) _ _); refine wpList_load_at rfl 48 _ rfl ⟨w.heap.size, 0, none⟩ rfl cs _ (Boxd.row (by assumption)) Tryz.underlying48 rfl hsz ?_)
            | ((with_reducible change wpList _ _ _ (⟨_, .load 48 _, _, _, _, some _⟩ :: _) _ _); refine wpList_load_want (by rfl) 48 _ rfl ⟨w.heap.size, 0, none⟩ rfl cs _ (Boxd.row (by assumption)) Tryz.underlying48 rfl hsz ?_)
            )
          all_goals (go_ret; exact ⟨ret_m (by first | rfl | (rw [HG.out]; rfl)), bm.b⟩)
        · skip
          cases b2
          · skip
            go_wp2_with (first
              | (go_at_call 43; refine (must_any _ _).mono ?_; rintro e Wm ⟨rfl, hBm⟩; have bm := bx2.next hBm)
              | (go_at_call 58; refine (c2 _ bx1).mono ?_; rintro e W2 ⟨rfl, hB2⟩; have bx2 := bx1.next hB2; have k5 := bx2.at_ sc.h5)
              | (go_at_call 67; refine (c1 _ bx0).mono ?_; rintro e W1 ⟨rfl, hB1⟩; have bx1 := bx0.next hB1)
              | ((with_reducible change wpList _ _ _ (⟨_, .load 48 _, _, _, _, none⟩ :: _) _ _); refine wpList_load_at rfl 48 _ rfl ⟨w.heap.size, 0, none⟩ rfl cs _ (Boxd.row (by assumption)) Tryz.underlying48 rfl hsz ?_)
              | ((with_reducible change wpList _ _ _ (⟨_, .load 48 _, _, _, _, some _⟩ :: _) _ _); refine wpList_load_want (by rfl) 48 _ rfl ⟨w.heap.size, 0, none⟩ rfl cs _ (Boxd.row (by assumption)) Tryz.underlying48 rfl hsz ?_)
              )
            all_goals (go_ret; exact ⟨ret_m (by first | rfl | (rw [HG.out]; rfl)), bm.b⟩)
          · skip
            cases b3
            · skip
              go_wp2_with (first
                | (go_at_call 43; refine (must_any _ _).mono ?_; rintro e Wm ⟨rfl, hBm⟩; have bm := bx3.next hBm)
                | (go_at_call 68; refine (c3 _ bx2).mono ?_; rintro e W3 ⟨rfl, hB3⟩; have bx3 := bx2.next hB3)
                | (go_at_call 58; refine (c2 _ bx1).mono ?_; rintro e W2 ⟨rfl, hB2⟩; have bx2 := bx1.next hB2; have k5 := bx2.at_ sc.h5)
                | (go_at_call 67; refine (c1 _ bx0).mono ?_; rintro e W1 ⟨rfl, hB1⟩; have bx1 := bx0.next hB1)
                | ((with_reducible change wpList _ _ _ (⟨_, .load 48 _, _, _, _, none⟩ :: _) _ _); refine wpList_load_at rfl 48 _ rfl ⟨w.heap.size, 0, none⟩ rfl cs _ (Boxd.row (by assumption)) Tryz.underlying48 rfl hsz ?_)
                | ((with_reducible change wpList _ _ _ (⟨_, .load 48 _, _, _, _, some _⟩ :: _) _ _); refine wpList_load_want (by rfl) 48 _ rfl ⟨w.heap.size, 0, none⟩ rfl cs _ (Boxd.row (by assumption)) Tryz.underlying48 rfl hsz ?_)
                )
              all_goals (go_ret; exact ⟨ret_m (by first | rfl | (rw [HG.out]; rfl)), bm.b⟩)
            · skip
              go_wp2_with (first
                | (go_at_call 43; refine (must_any _ _).mono ?_; rintro e Wm ⟨rfl, hBm⟩; have bm := bx3.next hBm)
                | (go_at_call 68; refine (c3 _ bx2).mono ?_; rintro e W3 ⟨rfl, hB3⟩; have bx3 := bx2.next hB3)
                | (go_at_call 58; refine (c2 _ bx1).mono ?_; rintro e W2 ⟨rfl, hB2⟩; have bx2 := bx1.next hB2; have k5 := bx2.at_ sc.h5)
                | (go_at_call 67; refine (c1 _ bx0).mono ?_; rintro e W1 ⟨rfl, hB1⟩; have bx1 := bx0.next hB1)
                | ((with_reducible change wpList _ _ _ (⟨_, .load 48 _, _, _, _, none⟩ :: _) _ _); refine wpList_load_at rfl 48 _ rfl ⟨w.heap.size, 0, none⟩ rfl cs _ (Boxd.row (by assumption)) Tryz.underlying48 rfl hsz ?_)
                | ((with_reducible change wpList _ _ _ (⟨_, .load 48 _, _, _, _, some _⟩ :: _) _ _); refine wpList_load_want (by rfl) 48 _ rfl ⟨w.heap.size, 0, none⟩ rfl cs _ (Boxd.row (by assumption)) Tryz.underlying48 rfl hsz ?_)
                )
              all_goals (go_ret; exact ⟨ret_m (by first | rfl | (rw [HG.out]; rfl)), bm.b⟩)
    · have t2' : decide (0 ≤ x.f5) = false := by simpa using t2
      have HG : Hid (gradeB x.f5 = false) := Lib.hid (by unfold gradeB; simp [t1, t2])
      cases b1
      · skip
        go_wp2_with (first
          | (go_at_call 43; refine (must_any _ _).mono ?_; rintro e Wm ⟨rfl, hBm⟩; have bm := bx1.next hBm)
          | (go_at_call 67; refine (c1 _ bx0).mono ?_; rintro e W1 ⟨rfl, hB1⟩; have bx1 := bx0.next hB1)
          | ((with_reducible change wpList _ _ _ (⟨_, .load 48 _, _, _, _, none⟩ :: _) _ _); refine wpList_load_at rfl 48 _ rfl ⟨w.heap.size, 0, none⟩ rfl cs _ (Boxd.row (by assumption)) Tryz.underlying48 rfl hsz ?_)
          | ((with_reducible change wpList _ _ _ (⟨_, .load 48 _, _, _, _, some _⟩ :: _) _ _); refine wpList_load_want (by rfl) 48 _ rfl ⟨w.heap.size, 0, none⟩ rfl cs _ (Boxd.row (by assumption)) Tryz.underlying48 rfl hsz ?_)
          )
        all_goals (go_ret; exact ⟨ret_m (by first | rfl | (rw [HG.out]; rfl)), bm.b⟩)
      · skip
        cases b2
        · skip
          go_wp2_with (first
            | (go_at_call 43; refine (must_any _ _).mono ?_; rintro e Wm ⟨rfl, hBm⟩; have bm := bx2.next hBm)
            | (go_at_call 58; refine (c2 _ bx1).mono ?_; rintro e W2 ⟨rfl, hB2⟩; have bx2 := bx1.next hB2; have k5 := bx2.at_ sc.h5)
            | (go_at_call 67; refine (c1 _ bx0).mono ?_; rintro e W1 ⟨rfl, hB1⟩; have bx1 := bx0.next hB1)
            | ((with_reducible change wpList _ _ _ (⟨_, .load 48 _, _, _, _, none⟩ :: _) _ _); refine wpList_load_at rfl 48 _ rfl ⟨w.heap.size, 0, none⟩ rfl cs _ (Boxd.row (by assumption)) Tryz.underlying48 rfl hsz ?_)
            | ((with_reducible change wpList _ _ _ (⟨_, .load 48 _, _, _, _, some _⟩ :: _) _ _); refine wpList_load_want (by rfl) 48 _ rfl ⟨w.heap.size, 0, none⟩ rfl cs _ (Boxd.row (by assumption)) Tryz.underlying48 rfl hsz ?_)
            )
          all_goals (go_ret; exact ⟨ret_m (by first | rfl | (rw [HG.out]; rfl)), bm.b⟩)
        · skip
          cases b3
          · skip
            go_wp2_with (first
              | (go_at_call 43; refine (must_any _ _).mono ?_; rintro e Wm ⟨rfl, hBm⟩; have bm := bx3.next hBm)
              | (go_at_call 68; refine (c3 _ bx2).mono ?_; rintro e W3 ⟨rfl, hB3⟩; have bx3 := bx2.next hB3)
              | (go_at_call 58; refine (c2 _ bx1).mono ?_; rintro e W2 ⟨rfl, hB2⟩; have bx2 := bx1.next hB2; have k5 := bx2.at_ sc.h5)
              | (go_at_call 67; refine (c1 _ bx0).mono ?_; rintro e W1 ⟨rfl, hB1⟩; have bx1 := bx0.next hB1)
              | ((with_reducible change wpList _ _ _ (⟨_, .load 48 _, _, _, _, none⟩ :: _) _ _); refine wpList_load_at rfl 48 _ rfl ⟨w.heap.size, 0, none⟩ rfl cs _ (Boxd.row (by assumption)) Tryz.underlying48 rfl hsz ?_)
              | ((with_reducible change wpList _ _ _ (⟨_, .load 48 _, _, _, _, some _⟩ :: _) _ _); refine wpList_load_want (by rfl) 48 _ rfl ⟨w.heap.size, 0, none⟩ rfl cs _ (Boxd.row (by assumption)) Tryz.underlying48 rfl hsz ?_)
              )
            all_goals (go_ret; exact ⟨ret_m (by first | rfl | (rw [HG.out]; rfl)), bm.b⟩)
          · skip
            go_wp2_with (first
              | (go_at_call 43; refine (must_any _ _).mono ?_; rintro e Wm ⟨rfl, hBm⟩; have bm := bx3.next hBm)
              | (go_at_call 68; refine (c3 _ bx2).mono ?_; rintro e W3 ⟨rfl, hB3⟩; have bx3 := bx2.next hB3)
              | (go_at_call 58; refine (c2 _ bx1).mono ?_; rintro e W2 ⟨rfl, hB2⟩; have bx2 := bx1.next hB2; have k5 := bx2.at_ sc.h5)
              | (go_at_call 67; refine (c1 _ bx0).mono ?_; rintro e W1 ⟨rfl, hB1⟩; have bx1 := bx0.next hB1)
              | ((with_reducible change wpList _ _ _ (⟨_, .load 48 _, _, _, _, none⟩ :: _) _ _); refine wpList_load_at rfl 48 _ rfl ⟨w.heap.size, 0, none⟩ rfl cs _ (Boxd.row (by assumption)) Tryz.underlying48 rfl hsz ?_)
              | ((with_reducible change wpList _ _ _ (⟨_, .load 48 _, _, _, _, some _⟩ :: _) _ _); refine wpList_load_want (by rfl) 48 _ rfl ⟨w.heap.size, 0, none⟩ rfl cs _ (Boxd.row (by assumption)) Tryz.underlying48 rfl hsz ?_)
              )
            all_goals (go_ret; exact ⟨ret_m (by first | rfl | (rw [HG.out]; rfl)), bm.b⟩)
end Go.Proofs.Lw
