import Derived.BigFrameIn
import Derived.BigQuiet
import Derived.Deep.DeepCutAuto
import Derived.Deep.RegionHeld3
import Derived.Lib.QuietBelow
import Derived.LoopIn
import Derived.LoopNIn
import Derived.RangeFuncFrom
import Derived.RangeFuncLeaves
import Derived.Shelf.Abstract
import Derived.TacticsInMore
import Derived.Test.YtehddihmndpgaaaGreatDoorB14
import Derived.Test.YtehddihmndpgaaaGreatDoorB15
section
set_option linter.unusedSimpArgs false
set_option linter.unusedVariables false
namespace Go.Proofs.Lw
open Go.RowKit Go.Sort Go.Proofs.YtehddihmndpgaaaGreatDoorW.PrintWords Go.Proofs.YtehddihmndpgaaaGreatDoor.PLib
def hasB (l : List S42) (a b : Int) : Bool := l.any fun x => a == x.f0 && b == x.f1
theorem idx_l0 (x : List S42) (a b : Int) (hn : x.length ≤ 9223372036854775807) : ∀ (d k i : Nat), x.length - i = d → d < k → i ≤ x.length → ∃ r, api_Bundle_82.l0 k x x.length i a b = some r ∧ decide (r ≥ 0) = hasB (x.drop i) a b := by
  intro d
  induction d with
  | zero =>
    intro k i hd hk hi
    obtain ⟨k, rfl⟩ : ∃ m, k = m + 1 := ⟨k - 1, by omega⟩
    refine ⟨-1, ?_, ?_⟩
    · simp only [api_Bundle_82.l0]
      rw [if_neg (by omega)]
    · rw [List.drop_eq_nil_of_le (by omega)]; rfl
  | succ d ih =>
    intro k i hd hk hi
    obtain ⟨k, rfl⟩ : ∃ m, k = m + 1 := ⟨k - 1, by omega⟩
    have hlt : i < x.length := by omega
    have e := List.drop_eq_getElem_cons hlt
    have r0 : rd_T42 x (i : Int) = x[i] := by simp [rd_T42, hlt]
    simp only [api_Bundle_82.l0]
    rw [if_pos (by omega), if_pos (by omega), if_pos (by omega), r0]
    by_cases h : (a == x[i].f0 && b == x[i].f1) = true
    · rw [if_pos h]
      have hh : hasB (x.drop i) a b = true := by rw [e]; simp only [hasB, List.any_cons, h, Bool.true_or]
      exact ⟨i, rfl, by rw [hh]; simp⟩
    · rw [if_neg h, wrap_up hlt hn]
      obtain ⟨r, h1, h2⟩ := ih k (i + 1) (by omega) (by omega) (by omega)
      exact ⟨r, h1, by rw [h2, e]; simp only [hasB, List.any_cons, h]; rfl⟩
theorem contains_any (A : Option Addr) (c : Nat) (l : List S42) (a b : Int) (w : World) (h : Kd.C k42 w A l.length l) (hc : l.length ≤ c) :
    Calls Tryz.prog 72 #[.slice A l.length c, .agg #[.int .i64 a, .int .i64 b]] w fun e w' => e = .returned (.bool (hasB l a b)) ∧ Below w.heap.size w w' := by
  obtain ⟨r, h1, h2⟩ := idx_l0 l a b h.2.1 l.length (l.length + 1) 0 (by omega) (by omega) (by omega)
  exact api_Bundle_72.calls (l.length + 1) A c l a b _ w h hc (by unfold api_Bundle_72.f api_Bundle_82.f; have h1' : api_Bundle_82.l0 (l.length + 1) l (l.length : Int) 0 a b = some r := h1; rw [h1']; simp only [Option.bind_some]; rw [h2]; rfl)
def formB (a b : Int) : Bool := decide (0 ≤ a ∧ a < 4000 ∧ -1 ≤ b ∧ b < 4000 ∧ a ≠ b)
theorem formed_any (a b : Int) (w : World) : Calls Tryz.prog 71 #[.agg #[.int .i64 a, .int .i64 b]] w fun e w' => e = .returned (.bool (formB a b)) ∧ Below w.heap.size w w' :=
  requests_formed.calls a b _ w (by unfold requests_formed.f formB; by_cases h1 : 0 ≤ a <;> by_cases h2 : a < 4000 <;> by_cases h3 : -1 ≤ b <;> by_cases h4 : b < 4000 <;> by_cases h5 : a = b <;> simp [h1, h2, h3, h4, h5])
def kqL (n : Int) : Int := if n = 1 ∨ n = 3 ∨ n = 4 ∨ n = 5 then 1 else 0
def kqM (n : Int) : Int := if n = 1 then 8 else if n = 3 ∨ n = 4 ∨ n = 5 then 1 else 0
def kqG (n : Int) : Bool := decide (n = 2 ∨ n = 3)
def kqK (n : Int) : Bool := decide (n = 1)
/-- What the walk needs of the package-level variables. -/
structure Glob (w : World) : Prop where
  kinds : ∀ n : Nat, 1 ≤ n → n ≤ 5 → w.cell? ⟨0, n * 4, none⟩ = some (.int .i64 (kqL n)) ∧ w.cell? ⟨0, n * 4 + 1, none⟩ = some (.int .i64 (kqM n)) ∧ w.cell? ⟨0, n * 4 + 2, none⟩ = some (.bool (kqG n)) ∧ w.cell? ⟨0, n * 4 + 3, none⟩ = some (.bool (kqK n))
  err : w.cell? ⟨1, 0, none⟩ = some (.iface 149 (.agg #[.pointer (some ⟨3, 103, none⟩)]))
/-- The choices: each of a form, none twice. -/
def goC (pre : List S42) : List S42 → Bool
  | [] => true
  | b :: r => formB b.f0 b.f1 && (!hasB pre b.f0 b.f1 && goC (pre ++ [b]) r)
def hdrB (r : S44) : Bool := inB r.f0 0 6 && inB r.f1 1 1048576 && inB r.f2 0 19999 && inB r.f4 1 1048576 && inB r.f3 1 5
def ok1 (r : S44) : Bool := inB r.f5.length (kqL r.f3) (kqM r.f3) && goC [] r.f5
def head0 (l : List S42) : Int := match l with | b :: _ => b.f0 | [] => 0
def ok2 (r : S44) : Bool := if kqG r.f3 then ok1 r && (formB r.f6.f0 r.f6.f1 && (decide (r.f5.length = 0) || !(head0 r.f5 == r.f6.f0))) else ok1 r && (r.f6.f0 == 0 && r.f6.f1 == 0)
def ok3 (r : S44) : Bool := if kqK r.f3 then ok2 r && inB r.f7 0 1048576 else ok2 r && r.f7 == 0
def reqR (r : S44) : Int := if hdrB r && ok3 r then 0 else 290
end Go.Proofs.Lw
end
section
set_option linter.unusedSimpArgs false
set_option linter.unusedVariables false
namespace Go.Proofs.Lw
open Go.RowKit Go.Proofs.YtehddihmndpgaaaGreatDoorW.PrintWords Go.Proofs.YtehddihmndpgaaaGreatDoor.PLib
theorem within_f (n a b : Int) : sections_within.f n a b = some (inB n a b) := by
  unfold sections_within.f inB
  by_cases h1 : a ≤ n <;> by_cases h2 : n ≤ b <;> simp [h1, h2]
def formG (all last : Int) : List S115 → Option Int
  | [] => some all
  | g :: r => if inB g.f0 (last + 1) 7 && inB g.f1 0 4096 && inB g.f2 0 1048576 then formG (all + g.f1) g.f0 r else none
def formL (last : Int) : List Int → Bool
  | [] => true
  | n :: r => inB n (last + 1) 3999 && formL n r
def tailS (s : S39) (all : Int) : Bool := inB s.f0 0 3999 && (inB s.f1 0 4095 && (inB s.f2 0 1023 && (inB s.f3 0 6 && (inB s.f4 0 4096 && (decide (s.f6.length ≤ 8) && (decide (all ≤ s.f4) && !(s.f8 && decide (0 < s.f7.length))))))))
def formS (s : S39) : Bool := match formG 0 (-1) s.f6 with | some all => formL (-1) s.f7 && tailS s all | none => false
theorem formed_l1 (s : S39) (all : Int) (h7 : s.f7.length ≤ 9223372036854775807) : ∀ (d k j : Nat) (last : Int), s.f7.length - j = d → d < k → j ≤ s.f7.length → -1 ≤ last → last ≤ 3999 →
    sections_section_formed.l1 k all last s.f7 s.f7.length j s.f0 s.f1 s.f2 s.f3 s.f4 s.f5 s.f6 s.f7 s.f8 = some (formL last (s.f7.drop j) && tailS s all) := by
  intro d
  induction d with
  | zero =>
    intro k j last hd hk hj l0 l1
    obtain ⟨k, rfl⟩ : ∃ m, k = m + 1 := ⟨k - 1, by omega⟩
    simp only [sections_section_formed.l1]
    rw [if_neg (by omega), List.drop_eq_nil_of_le (by omega)]
    simp only [within_f, Option.bind_some, formL, Bool.true_and, tailS]
    cases inB s.f0 0 3999 <;> cases inB s.f1 0 4095 <;> cases inB s.f2 0 1023 <;> cases inB s.f3 0 6 <;> cases inB s.f4 0 4096 <;> simp
    by_cases h1 : s.f6.length ≤ 8
    · rw [if_pos (by omega)]
      by_cases h2 : all ≤ s.f4
      · rw [if_pos h2]
        cases s.f8 <;> simp [h1, h2]
      · rw [if_neg h2]; simp [h2]
    · rw [if_neg (by omega)]; simp [h1]
  | succ d ih =>
    intro k j last hd hk hj l0 l1
    obtain ⟨k, rfl⟩ : ∃ m, k = m + 1 := ⟨k - 1, by omega⟩
    have hlt : j < s.f7.length := by omega
    have e := List.drop_eq_getElem_cons hlt
    have r0 : rd s.f7 (j : Int) = s.f7[j] := by simp [rd, hlt]
    have w0 : wrap64 (last + 1) = last + 1 := by unfold wrap64; omega
    simp only [sections_section_formed.l1]
    rw [if_pos (by omega), if_pos (by omega), if_pos (by omega), r0, within_f, w0, e]
    simp only [Option.bind_some, formL]
    cases hb : inB s.f7[j] (last + 1) 3999 with
    | false => simp
    | true =>
      have hb' : last + 1 ≤ s.f7[j] ∧ s.f7[j] ≤ 3999 := by unfold inB at hb; simpa using hb
      rw [if_pos rfl, wrap_up hlt h7, ih k (j + 1) _ (by omega) (by omega) (by omega) (by omega) (by omega)]
      simp
theorem formed_l0 (s : S39) (h6 : s.f6.length ≤ 9223372036854775807) (h7 : s.f7.length ≤ 9223372036854775807) : ∀ (d k i : Nat) (all last : Int), s.f6.length - i = d → d + s.f7.length + 1 < k → i ≤ s.f6.length → -1 ≤ last → last ≤ 7 → 0 ≤ all → all ≤ 4096 * (last + 1) →
    sections_section_formed.l0 k all last s.f6 s.f6.length i s.f0 s.f1 s.f2 s.f3 s.f4 s.f5 s.f6 s.f7 s.f8 = some (match formG all last (s.f6.drop i) with | some a => formL (-1) s.f7 && tailS s a | none => false) := by
  intro d
  induction d with
  | zero =>
    intro k i all last hd hk hi l0 l1 a0 a1
    obtain ⟨k, rfl⟩ : ∃ m, k = m + 1 := ⟨k - 1, by omega⟩
    simp only [sections_section_formed.l0]
    rw [if_neg (by omega), List.drop_eq_nil_of_le (by omega)]
    simp only [formG]
    exact formed_l1 s all h7 s.f7.length k 0 (-1) (by omega) (by omega) (by omega) (by omega) (by omega)
  | succ d ih =>
    intro k i all last hd hk hi l0 l1 a0 a1
    obtain ⟨k, rfl⟩ : ∃ m, k = m + 1 := ⟨k - 1, by omega⟩
    have hlt : i < s.f6.length := by omega
    have e := List.drop_eq_getElem_cons hlt
    have r0 : rd_T115 s.f6 (i : Int) = s.f6[i] := by simp [rd_T115, hlt]
    have w0 : wrap64 (last + 1) = last + 1 := by unfold wrap64; omega
    simp only [sections_section_formed.l0]
    rw [if_pos (by omega), if_pos (by omega), if_pos (by omega), r0, within_f, w0, e]
    simp only [Option.bind_some, formG, within_f]
    cases hb : inB s.f6[i].f0 (last + 1) 7 with
    | false => simp
    | true =>
      cases hc : inB s.f6[i].f1 0 4096 with
      | false => simp
      | true =>
        cases hd2 : inB s.f6[i].f2 0 1048576 with
        | false => simp
        | true =>
          have hb' : last + 1 ≤ s.f6[i].f0 ∧ s.f6[i].f0 ≤ 7 := by unfold inB at hb; simpa using hb
          have hc' : 0 ≤ s.f6[i].f1 ∧ s.f6[i].f1 ≤ 4096 := by unfold inB at hc; simpa using hc
          have w1 : wrap64 (all + s.f6[i].f1) = all + s.f6[i].f1 := by unfold wrap64; omega
          simp only [if_true, Bool.and_self]
          rw [wrap_up hlt h6, w1, ih k (i + 1) _ _ (by omega) (by omega) (by omega) (by omega) (by omega) (by omega) (by omega)]
theorem formedS_any (s : S39) (ds : List Value) (w : World) (h : k39.K w s ds) : Calls Tryz.prog 80 #[.agg ds.toArray] w fun e w' => e = .returned (.bool (formS s)) ∧ Below w.heap.size w w' := by
  obtain ⟨A5, c5, A6, c6, A7, c7, rfl, l5, g5, l6, g6, l7, g7⟩ := k39_open h
  exact sections_section_formed.calls (s.f6.length + s.f7.length + 2) _ _ _ _ _ A5 c5 s.f5 A6 c6 s.f6 A7 c7 s.f7 _ _ w g5 l5 g6 l6 g7 l7
    (formed_l0 s g6.2.1 g7.2.1 s.f6.length (s.f6.length + s.f7.length + 2) 0 0 (-1) (by omega) (by omega) (by omega) (by omega) (by omega) (by omega) (by omega))
end Go.Proofs.Lw
end
section
set_option linter.unusedSimpArgs false
set_option linter.unusedVariables false
namespace Go.Proofs.Lw
open Go.RowKit Go.Shelf Go.Proofs.YtehddihmndpgaaaGreatDoorW.PrintWords Go.Proofs.YtehddihmndpgaaaGreatDoor.PLib
attribute [local go_sem] Oper.semAt_some
def validM (m : S113) : Bool := inB m.f0 0 6 && (decide (0 ≤ m.f1) && (decide (m.f1 < m.f2) && (decide (m.f2 ≤ 1440) && (decide (0 ≤ m.f3) && (decide (m.f3 ≤ m.f4) && decide (m.f4 < 60))))))
theorem validM_any (m : S113) (w : World) : Calls Tryz.prog 89 #[.agg #[.int .i64 m.f0, .int .i64 m.f1, .int .i64 m.f2, .int .i64 m.f3, .int .i64 m.f4]] w fun e w' => e = .returned (.bool (validM m)) ∧ Below w.heap.size w w' :=
  meeting_weekly_valid.calls _ _ _ _ _ _ w (by
    unfold meeting_weekly_valid.f validM inB
    by_cases h1 : 0 ≤ m.f0 <;> by_cases h2 : m.f0 ≤ 6
    · have h2' : m.f0 < 7 := by omega
      by_cases h3 : 0 ≤ m.f1 <;> by_cases h4 : m.f1 < m.f2 <;> by_cases h5 : m.f2 ≤ 1440 <;> by_cases h6 : 0 ≤ m.f3 <;> by_cases h7 : m.f3 ≤ m.f4 <;> simp [h1, h2, h2', h3, h4, h5, h6, h7]
    · have h2' : ¬ m.f0 < 7 := by omega
      simp [h1, h2, h2']
    · simp [h1]
    · simp [h1])
def overM (a b : S113) : Bool := decide (a.f0 = b.f0) && (decide (mx a.f1 b.f1 < mn a.f2 b.f2) && decide (mx a.f3 b.f3 ≤ mn a.f4 b.f4))
theorem overM_any (a b : S113) (w : World) : Calls Tryz.prog 91 #[.agg #[.int .i64 a.f0, .int .i64 a.f1, .int .i64 a.f2, .int .i64 a.f3, .int .i64 a.f4], .agg #[.int .i64 b.f0, .int .i64 b.f1, .int .i64 b.f2, .int .i64 b.f3, .int .i64 b.f4]] w fun e w' =>
    e = .returned (.bool (overM a b)) ∧ Below w.heap.size w w' :=
  meeting_weekly_overlaps.calls _ _ _ _ _ _ _ _ _ _ _ w (by
    unfold meeting_weekly_overlaps.f overM
    by_cases h1 : a.f0 = b.f0 <;> by_cases h2 : mx a.f1 b.f1 < mn a.f2 b.f2 <;> simp [h1, h2])
/-- All pairs of an element and an element after it. -/
def allP : List S113 → List (S113 × S113)
  | [] => []
  | a :: r => r.map (fun b => (a, b)) ++ allP r
def meetR (l : List S113) : Int := if 16 < l.length then 220 else if l.any (fun m => !validM m) then 220 else if (allP l).any (fun p => overM p.1 p.2) then 220 else 0
/-- What holds cells holds them still. -/
structure KC (W W' : World) : Prop where
  size : W.heap.size ≤ W'.heap.size
  cells : ∀ (k : Nat) (cs : Array Value) (t : TypeId) (fr : Nat × Nat), W.heap[k]? = some (.cells cs t fr) → W'.heap[k]? = some (.cells cs t fr)
theorem KC.trans {A B C : World} (h : KC A B) (k : KC B C) : KC A C := ⟨Nat.le_trans h.size k.size, fun i cs t fr hi => k.cells i cs t fr (h.cells i cs t fr hi)⟩
theorem KC.refl (A : World) : KC A A := ⟨Nat.le_refl _, fun _ _ _ _ h => h⟩
theorem KC.of_below {W W' : World} (h : Below W.heap.size W W') : KC W W' := ⟨h.size, fun k cs t fr hk => (h.block k (Array.getElem?_eq_some_iff.1 hk).1).trans hk⟩
theorem KC.alloc {W : World} (o : Obj) : KC W (W.alloc o) := KC.of_below ((Below.refl _ _).alloc (Nat.le_refl _) _)
theorem KC.cell {W W' : World} (h : KC W W') {a : Addr} {v : Value} (hc : W.cell? a = some v) : W'.cell? a = some v := by
  unfold World.cell? at hc ⊢
  cases hk : W.heap[a.block]? with
  | none => simp [hk] at hc
  | some o =>
    cases o with
    | cells cs t fr => rw [h.cells _ _ _ _ hk]; rw [hk] at hc; exact hc
    | _ => simp [hk] at hc
theorem C113_kc {W W' : World} (h : KC W W') {A : Option Addr} {n : Nat} {l : List S113} (hC : Kd.C k113 W A n l) : Kd.C k113 W' A n l :=
  ⟨hC.1, hC.2.1, fun hn => by
    obtain ⟨ad, e, hc⟩ := hC.2.2 hn
    refine ⟨ad, e, fun j p hp => ?_⟩
    obtain ⟨c, h1, h2, h3⟩ := hc j p hp
    exact ⟨c, h1, by rw [k113_open h2]; exact k113_mk W' p, fun i u hu => h.cell (h3 i u hu)⟩⟩
theorem info113 : (Tryz.prog.info? 113).map (·.size) = some 5 := by kernel_rfl
theorem i113z : ((Tryz.prog.info? 113).bind (·.zero)).map (·.cells.size) = some 5 := by kernel_rfl
theorem i113b : (Tryz.prog.info? 113).map (·.bytes) = some 40 := by kernel_rfl
theorem i113 : ∃ i z, Tryz.prog.info? 113 = some i ∧ i.zero = some z ∧ i.size = 5 ∧ i.bytes = 40 ∧ z.cells.size = 5 := by
  have h1 := info113
  have h2 := i113z
  have h3 := i113b
  cases h : Tryz.prog.info? 113 with
  | none => rw [h] at h1; cases h1
  | some i =>
    rw [h] at h1 h2 h3
    simp only [Option.map_some, Option.some.injEq, Option.bind_some] at h1 h2 h3
    cases hz : i.zero with
    | none => rw [hz] at h2; cases h2
    | some z => rw [hz] at h2; simp at h2; exact ⟨i, z, rfl, hz, h1, h3, h2⟩
def c5 (m : S113) : List Value := [.int .i64 m.f0, .int .i64 m.f1, .int .i64 m.f2, .int .i64 m.f3, .int .i64 m.f4]
theorem meet_at {w : World} {A : Option Addr} {l : List S113} (h : Kd.C k113 w A l.length l) (k : Nat) (hk : k < l.length) : ∃ ad, A = some ad ∧ ∀ j u, (c5 (l[k]'hk))[j]? = some u → w.cell? ((ad.add (k * 5)).add j) = some u := by
  obtain ⟨ad, e, hc⟩ := h.2.2 (by omega)
  obtain ⟨c, _, hr, hcell⟩ := hc k _ (List.getElem?_eq_getElem hk)
  have e2 := k113_open hr
  exact ⟨ad, e, fun j u hu => by rw [addr_add_add]; exact hcell j u (by rw [e2]; exact hu)⟩
theorem c5_one (m : S113) : (c5 m).toArray.all (·.oneCell') = true := by simp [c5, Value.oneCell']
def encP (p : S113 × S113) : Array Value := #[.agg (c5 p.1).toArray, .agg (c5 p.2).toArray]
theorem new5 (w : World) (m : S113) (t : TypeId) : ∀ j u, (c5 m)[j]? = some u → (w.alloc (Obj.cells (c5 m).toArray t)).cell? ((⟨w.heap.size, 0, none⟩ : Addr).add j) = some u := by
  intro j u hu
  rw [add_plain]
  exact (cell_of_row _ w.heap.size j _ t (0, 0) (heap_alloc_new w _)).trans (by simpa using hu)
set_option maxHeartbeats 8000000
set_option maxRecDepth 100000 in
/-- pairs' iterator. -/
theorem pairs_stops (n : Nat) (hn : 1 ≤ n) (A : Option Addr) (c : Nat) (l : List S113) (bx : Nat) (w : World) (hb : w.heap[bx]? = some (.cells #[.slice A l.length c] 35 (0, 0))) (hC : Kd.C k113 w A l.length l) (hc : l.length ≤ c) :
    SeqStopsK Fence.wide n Tryz.prog 98 #[.pointer (some ⟨bx, 0, none⟩)] encP KC (fun xs => xs = allP l) (fun pre => pre <+: allP l) (allP l).length w := fun y J Jx W hW hJ hJx hY h0 => by
  have hN : l.length ≤ 9223372036854775807 := hC.2.1
  have kW : KC w W := KC.of_below hW
  refine callsIn_of_wp Tryz.func98 rfl trivial ?_ rfl
  simp only [Tryz.ntmps98, List.size_toArray, List.length_cons, List.length_nil, Nat.reduceAdd, Nat.reduceSub, Array.replicate_succ, Array.replicate_zero, List.push_toArray, List.append_toArray, List.nil_append, List.cons_append]
  have q0 : W.cell? ⟨bx, 0, none⟩ = some (.slice A l.length c) := kW.cell (cell_of_row w bx 0 _ 35 (0, 0) hb)
  gi_wp2
  gi_loopw [9] (fun i wr => ∃ (k : Nat) (pre : List (S113 × S113)), k ≤ l.length ∧ i = .int .i64 k ∧ pre ++ allP (l.drop k) = allP l ∧ J pre wr ∧ KC w wr ∧ W.heap.size ≤ wr.heap.size)
    (fun i _ => l.length - (intOf i).toNat)
  case atStart => exact ⟨0, [], Nat.zero_le _, rfl, rfl, h0, kW, Nat.le_refl _⟩
  case round =>
    obtain ⟨k, pre, hk, rfl, hd, hJs, kr, hsz⟩ := hrel
    by_cases hlt : k < l.length
    · obtain ⟨ad, rfl, hcell⟩ := meet_at (C113_kc kr hC) k hlt
      have q1 : wr.cell? ⟨bx, 0, none⟩ = some (.slice (some ad) l.length c) := kr.cell (cell_of_row w bx 0 _ 35 (0, 0) hb)
      have hbl : bx < wr.heap.size := (Array.getElem?_eq_some_iff.1 (kr.cells _ _ _ _ hb)).1
      have q1A := fun o => (World.cell?_alloc_lt wr o ⟨bx, 0, none⟩ hbl).trans q1
      obtain ⟨i0, z0', hi, hz0, hz1, hz2, hz3⟩ := i113
      have hJA := fun o => hJ pre wr (wr.alloc o) none hJs (World.grownBy_alloc wr o none) (fun r e => by cases e)
      have HC := Lib.hid hC
      have HJ := Lib.hid hJA
      have Hb := Lib.hid hb
      clear hC hb hJA
      have hdk : allP (l.drop k) = (l.drop (k + 1)).map (fun b => (l[k], b)) ++ allP (l.drop (k + 1)) := by rw [List.drop_eq_getElem_cons hlt]; rfl
      rw [hdk] at hd
      have HD := Lib.hid hd
      clear hd hdk
      obtain ⟨W1, hW1⟩ : ∃ W1, wr.alloc (Obj.cells (c5 l[k]).toArray 113) = W1 := ⟨_, rfl⟩
      have hJ1 : J pre W1 := by rw [← hW1]; exact HJ.out _
      have k1 : KC w W1 := by rw [← hW1]; exact kr.trans (KC.alloc _)
      have s1 : wr.heap.size < W1.heap.size := by rw [← hW1]; simp
      have n4 : ∀ j u, (c5 l[k])[j]? = some u → W1.cell? ((⟨wr.heap.size, 0, none⟩ : Addr).add j) = some u := by rw [← hW1]; exact new5 wr _ 113
      have q2 : W1.cell? ⟨bx, 0, none⟩ = some (.slice (some ad) l.length c) := k1.cell (cell_of_row w bx 0 _ 35 (0, 0) Hb.out)
      by_cases hcap : c = k + 1
      · subst hcap
        gi_wp2_with (first
          | ((with_reducible change wpListIn _ _ _ _ _ (⟨_, .load 113 (.tmp 12), _, _, _, _⟩ :: _) _ wr); refine wpListIn_load_at free_wide rfl 113 _ rfl (ad.add (k * 5)) rfl (c5 l[k]) _ hcell Tryz.underlying113 rfl info113 ?_)
          | ((with_reducible change wpListIn _ _ _ _ _ (⟨_, .store 113 _ _, _, _, _, _⟩ :: _) _ _); refine wpListIn_store_new free_wide rfl 113 _ _ rfl (c5 l[k]).toArray _ _ rfl rfl info113 rfl (c5_one _) ?_))
        try rw [hW1]
        gi_loopw [19] (fun j wi => j = .int .i64 0 ∧ wi = W1) (fun _ _ => 0)
        case atStart => exact ⟨rfl, rfl⟩
        case round =>
          obtain ⟨rfl, rfl⟩ := hrel
          gi_wp2
          go_roundw
          case rel => exact ⟨k + 1, pre, by omega, by go_num, by have := HD.out; rw [List.drop_eq_nil_of_le (show l.length ≤ k + 1 by omega)] at this; rw [List.drop_eq_nil_of_le (show l.length ≤ k + 1 by omega)]; simpa using this, hJ1, k1, by omega⟩
          case measure => simp [intOf]; omega
      · have hR := Kd.C_drop (m := k + 1) HC.out (by omega) hc
        rw [if_neg hcap] at hR
        obtain ⟨R, hRd⟩ : ∃ R, l.drop (k + 1) = R := ⟨_, rfl⟩
        have hRl : R.length = l.length - (k + 1) := by rw [← hRd]; simp
        rw [hRd] at hR
        have hD := HD.out
        rw [hRd] at hD
        have HRd := Lib.hid hRd
        have HRl := Lib.hid hRl
        have HR := Lib.hid hR
        have HD2 := Lib.hid hD
        clear hRd hRl hR hD
        gi_wp2_with (first
          | ((with_reducible change wpListIn _ _ _ _ _ (⟨_, .load 113 (.tmp 12), _, _, _, _⟩ :: _) _ wr); refine wpListIn_load_at free_wide rfl 113 _ rfl (ad.add (k * 5)) rfl (c5 l[k]) _ hcell Tryz.underlying113 rfl info113 ?_)
          | ((with_reducible change wpListIn _ _ _ _ _ (⟨_, .store 113 _ _, _, _, _, _⟩ :: _) _ _); refine wpListIn_store_new free_wide rfl 113 _ _ rfl (c5 l[k]).toArray _ _ rfl rfl info113 rfl (c5_one _) ?_))
        try rw [hW1]
        clear q1A hW1
        obtain ⟨wo, rfl⟩ : ∃ wo : World, wo = wr := ⟨_, rfl⟩
        gi_loopw [19] (fun j wi => ∃ (m : Nat) (pre' : List (S113 × S113)), m ≤ R.length ∧ j = .int .i64 m ∧ pre' ++ ((R.drop m).map (fun b => (l[k], b)) ++ allP R) = allP l ∧ J pre' wi ∧ KC W1 wi ∧ W1.heap.size ≤ wi.heap.size)
          (fun j _ => R.length - (intOf j).toNat)
        case atStart => exact ⟨0, pre, Nat.zero_le _, rfl, by simpa using HD2.out, hJ1, KC.refl _, Nat.le_refl _⟩
        case round =>
          obtain ⟨m, pre', hm, rfl, hd2, hJ2, k2, s2⟩ := hrel
          have hRl := HRl.out
          by_cases hlt2 : m < R.length
          · obtain ⟨ad2, e2, hcell2⟩ := meet_at (C113_kc (k1.trans k2) HR.out) m hlt2
            have e3 : ad.add ((k + 1) * 5) = ad2 := Option.some.inj e2
            subst e3
            have hdm : R.drop m = R[m] :: R.drop (m + 1) := List.drop_eq_getElem_cons hlt2
            rw [hdm] at hd2
            have hpl : pre'.length < (allP l).length := by have := congrArg List.length hd2; simp at this; omega
            obtain ⟨W2, hW2⟩ : ∃ W2, wr.alloc (Obj.cells (c5 R[m]).toArray 113) = W2 := ⟨_, rfl⟩
            have hJ3 : J pre' W2 := by rw [← hW2]; exact hJ pre' wr (wr.alloc _) none hJ2 (World.grownBy_alloc wr _ none) (fun r e => by cases e)
            have k3 : KC wr W2 := by rw [← hW2]; exact KC.alloc _
            have m4 : ∀ j u, (c5 l[k])[j]? = some u → W2.cell? ((⟨wo.heap.size, 0, none⟩ : Addr).add j) = some u := fun j u hu => (k2.trans k3).cell (n4 j u hu)
            have m6 : ∀ j u, (c5 R[m])[j]? = some u → W2.cell? ((⟨wr.heap.size, 0, none⟩ : Addr).add j) = some u := by rw [← hW2]; exact new5 wr _ 113
            have s3 : W1.heap.size ≤ W2.heap.size := by have := k3.size; omega
            obtain ⟨fn, tmps, assign, body, hy, hRR⟩ := hY pre' (l[k], R[m]) W2 hJ3 hpl
            dsimp only [encP] at hy
            have tlt : m < l.length - (k + 1) := by omega
            have HD3 := Lib.hid hd2
            have HDM := Lib.hid hdm
            have HRL := Lib.hid hRl
            clear hd2 hdm hRl
            gi_wp2_with (first
              | ((with_reducible change wpListIn _ _ _ _ _ (⟨_, .load 113 (.tmp 21), _, _, _, _⟩ :: _) _ _); refine wpListIn_load_at free_wide rfl 113 _ rfl _ rfl (c5 R[m]) _ hcell2 Tryz.underlying113 rfl info113 ?_)
              | ((with_reducible change wpListIn _ _ _ _ _ (⟨_, .load 113 (.tmp 4), _, _, _, _⟩ :: _) _ _); refine wpListIn_load_at free_wide rfl 113 _ rfl ⟨wo.heap.size, 0, none⟩ rfl (c5 l[k]) _ m4 Tryz.underlying113 rfl info113 ?_)
              | ((with_reducible change wpListIn _ _ _ _ _ (⟨_, .load 113 (.tmp 6), _, _, _, _⟩ :: _) _ _); refine wpListIn_load_at free_wide rfl 113 _ rfl ⟨wr.heap.size, 0, none⟩ rfl (c5 R[m]) _ m6 Tryz.underlying113 rfl info113 ?_)
              | ((with_reducible change wpListIn _ _ _ _ _ (⟨_, .store 113 _ _, _, _, _, _⟩ :: _) _ _); refine wpListIn_store_new free_wide rfl 113 _ _ rfl (c5 R[m]).toArray _ _ rfl rfl info113 rfl (c5_one _) ?_))
            first
              | refine hRR.mono ?_
              | refine ⟨fun h => by simp [Fence.wide] at h, hRR.mono ?_⟩
            rintro e W4 (⟨rfl, hJ4, k4⟩ | ⟨rfl, hx4⟩)
            · gi_wp2
              go_roundw
              case rel => exact ⟨m + 1, pre' ++ [(l[k], R[m])], by omega, by go_num, by have := HD3.out; rw [List.append_assoc]; exact this, hJ4, (k2.trans k3).trans k4, by have := k4.size; omega⟩
              case measure => simp [intOf]; omega
            · gi_wp2
              refine bodyPost_ret (results_none rfl _ _ _) rfl ?_
              refine ⟨⟨_, rfl⟩, .inr ⟨_, ?_, hx4⟩⟩
              have := HD3.out
              exact ⟨(R.drop (m + 1)).map (fun b => (l[k], b)) ++ allP R, by rw [← this, List.append_assoc]; rfl⟩
          · gi_wp2
            exact ⟨⟨k + 1, pre', by omega, by go_num, by rw [HRd.out]; have := hd2; rw [List.drop_eq_nil_of_le (by omega)] at this; simpa using this, hJ2, k1.trans k2, by omega⟩, by simp [intOf]; omega⟩
    · gi_wp2
      go_end0
      rw [List.drop_eq_nil_of_le (by omega)] at hd
      exact ⟨⟨_, rfl⟩, .inl ⟨_, rfl, by rw [← hd]; simpa [allP] using hJs⟩⟩
end Go.Proofs.Lw
end
section
set_option linter.unusedSimpArgs false
set_option linter.unusedVariables false
namespace Go.Proofs.Lw
open Go.RowKit Go.Shelf
theorem KC.putObj {W : World} {l : Nat} {o : Obj} (o' : Obj) (h : W.heap[l]? = some o) (ho : o.isCells = false) : KC W (W.putObj l o') :=
  ⟨by simp [World.putObj], fun k cs t fr hk => by
    by_cases e : k = l
    · subst e; rw [h] at hk; cases hk; cases ho
    · exact (World.putObj_heap_other e).trans hk⟩
/-- How the body of a round ends. -/
def bodyEnd {α : Type} (I Ix : List α → World → Prop) (xs : List α) (W : World) : Exit → Act → World → Prop
  | .normal, _, W' => KeepsOthers W W' ∧ KC W W' ∧ I xs W'
  | .ret, _, W' => KeepsOthers W W' ∧ Ix xs W'
  | _, _, _ => False
/-- A range over a function whose variables are laid anew in each round (by this session, after the kit's law for variables that are not). -/
theorem rangeFunc_new {α : Type} {P : Program} {n : Nat} {g : Operand} {ps : Array Tmp} {assign body : Code} {Q : Exit → Act → World → Prop} {a : Act} {w : World} (h1 : 1 ≤ n) {gf : Nat} {lb : Array Value} (hg : a.eval g = .func (.func gf) #[] lb)
    (eg : ∀ args w, (callFunc gf args).run P w = .ok (.enter gf args) w) {encs : α → Array Value} {S Sp : List α → Prop} {N : Nat} {w0 : World} (hseq : SeqStopsK Fence.wide (n - 1) P gf lb encs KC S Sp N w0) (hb0 : Below w0.heap.size w0 w) (hps : ∀ x, (encs x).size = ps.size)
    (I Ix : List α → World → Prop) (hI : OwnFrom w.heap.size I) (hIx : OwnFrom w.heap.size Ix) (h0 : I [] w) (Asg : α → Act → World → Prop) (hA : ∀ x b W W', Asg x b W → KC W W' → Asg x b W')
    (hassign : ∀ (l : Nat) (x : α) (W : World) (K : Act → World → Prop), (∀ b W₁, KeepsOthers W W₁ → KC W W₁ → (∀ pre, I pre W → I pre W₁) → Asg x b W₁ → K b W₁) →
      assign.wpIn (Fence.wide.inRound l) (n - 1 - 1) P (Exit.then K (fun _ _ _ => False)) { tmps := (ps.zip (encs x)).foldl (fun t (p, v) => t.setIfInBounds p v) a.tmps, defers := [] } W)
    (hbody : ∀ (l : Nat) (pre : List α) (x : α) (b : Act) (W : World), I pre W → pre.length < N → Asg x b W → body.wpIn (Fence.wide.inRound l) (n - 1 - 1) P (bodyEnd I Ix (pre ++ [x]) W) b W)
    (hdone : ∀ (D : Nat) (xs : List α) (W : World), w.heap.size ≤ D → S xs → I xs W → W.heap[D]? = some (.deferred (some [])) → Q .normal { a with defers := { target := .collected D, args := #[] } :: a.defers } W)
    (hstop : ∀ (D : Nat) (pre : List α) (W : World), w.heap.size ≤ D → Sp pre → Ix pre W → W.heap[D]? = some (.deferred (some [])) → Code.ret.wpIn Fence.wide n P Q { a with defers := { target := .collected D, args := #[] } :: a.defers } W) :
    (Code.rangeFunc g ps assign body).wpIn Fence.wide n P Q a w := by
  refine wpIn_rangeFunc_p rfl (fun h => by simp [Fence.wide] at h) hg trivial eg ?_
  intro fn hfn
  obtain ⟨W1, hW1⟩ : ∃ W1, (w.alloc (.deferred (some []))).alloc (.loop { state := .ready, pending := none, fn, tmps := a.tmps, params := ps, assign, body, defers := w.heap.size }) = W1 := ⟨_, rfl⟩
  rw [hW1]
  obtain ⟨rc, hrc⟩ : ∃ rc : LoopState → Option Code → Loop, rc = fun st pe => { state := st, pending := pe, fn, tmps := a.tmps, params := ps, assign, body, defers := w.heap.size } := ⟨_, rfl⟩
  have z1 : W1.heap.size = w.heap.size + 2 := by rw [← hW1]; simp
  have hL1 : W1.heap[w.heap.size + 1]? = some (.loop (rc .ready none)) := by
    rw [← hW1, hrc]
    have := World.alloc_heap_new (w.alloc (.deferred (some []))) (.loop { state := .ready, pending := none, fn, tmps := a.tmps, params := ps, assign, body, defers := w.heap.size })
    rwa [World.size_alloc] at this
  have hD1 : W1.heap[w.heap.size]? = some (.deferred (some [])) := by
    rw [← hW1]; exact (Below.heap_alloc _ _ _ (by simp)).trans (World.alloc_heap_new w _)
  have hI1 : I [] W1 := by rw [← hW1]; exact hI.alloc _ (hI.alloc _ h0)
  have hb1 : Below w0.heap.size w0 W1 := by
    rw [← hW1]; exact hb0.trans ((((Below.refl _ w).alloc (Nat.le_refl _) _).alloc (by simp) _).mono hb0.size)
  have conv : ∀ {A : World} {row : Option Nat}, (∀ r, row = some r → W1.heap.size ≤ r ∧ ∃ o : Obj, A.heap[r]? = some o ∧ o.isWalk = true) → (∀ r, row = some r → w.heap.size ≤ r ∧ ∃ o : Obj, A.heap[r]? = some o ∧ o.isCells = false) := by
    intro A row hr r e
    obtain ⟨hB, o, ho, hw⟩ := hr r e
    exact ⟨by omega, o, ho, Obj.not_cells_of_walk hw⟩
  refine (hseq (w.heap.size + 1)
    (fun pre W => I pre W ∧ W.heap[w.heap.size + 1]? = some (.loop (rc .ready none)) ∧ W.heap[w.heap.size]? = some (.deferred (some [])))
    (fun pre W => Ix pre W ∧ W.heap[w.heap.size + 1]? = some (.loop (rc .done (some .ret))) ∧ W.heap[w.heap.size]? = some (.deferred (some [])))
    W1 hb1
    (fun s A B row hs hgr hr => ⟨hI s A B row hs.1 hgr (conv hr), (grownBy_keeps hgr (fun r e => (hr r e).2) hs.2.1 rfl).trans hs.2.1, (grownBy_keeps hgr (fun r e => (hr r e).2) hs.2.2 rfl).trans hs.2.2⟩)
    (fun s A B row hs hgr hr => ⟨hIx s A B row hs.1 hgr (conv hr), (grownBy_keeps hgr (fun r e => (hr r e).2) hs.2.1 rfl).trans hs.2.1, (grownBy_keeps hgr (fun r e => (hr r e).2) hs.2.2 rfl).trans hs.2.2⟩)
    ?_ ⟨hI1, hL1, hD1⟩).mono ?_
  · rintro pre x W ⟨hi, hl, hk⟩ hlen
    have hlt : w.heap.size + 1 < W.heap.size := (Array.getElem?_eq_some_iff.1 hl).1
    have hy := run_yield (P := P) (args := encs x) hl (by rw [hrc]; exact hps x)
    rw [hrc] at hy
    refine ⟨fn, _, assign, body, hy, roundIn_of_wpIn hfn (hassign _ x W _ fun b Wa ko1 kc1 hpre ha => ?_)⟩
    have hla := ko1.same _ _ hl rfl
    have hka := ko1.same _ _ hk rfl
    refine ⟨_, run_beginRound hla (by rw [hrc]), ?_⟩
    obtain ⟨Wb, hWb⟩ : ∃ Wb, Wa.putObj (w.heap.size + 1) (.loop { rc .ready none with state := .busy }) = Wb := ⟨_, rfl⟩
    have hlb : Wb.heap[w.heap.size + 1]? = some (.loop { rc .ready none with state := .busy }) := by rw [← hWb]; exact World.putObj_heap_same (Array.getElem?_eq_some_iff.1 hla).1
    have hkb : Wb.heap[w.heap.size]? = some (.deferred (some [])) := by rw [← hWb]; exact (World.putObj_heap_other (by omega)).trans hka
    have kcb : KC Wa Wb := by rw [← hWb]; exact KC.putObj _ hla rfl
    have hib : I pre Wb := by rw [← hWb]; exact hI.putObj _ (hpre pre hi) (by omega) hla rfl
    rw [hWb]
    refine wpIn_mono (hbody _ pre x b Wb hib hlen (hA _ _ _ _ ha kcb)) ?_
    have fin : ∀ (jump : Option Code) (W3 : World), KeepsOthers Wb W3 →
        (Instr.endRound (w.heap.size + 1) jump).run P W3 = .ok (.bool jump.isNone) (W3.putObj (w.heap.size + 1) (.loop (rc (if jump.isNone then .ready else .done) jump))) ∧
        W3.heap[w.heap.size + 1]? = some (.loop { rc .ready none with state := .busy }) ∧
        (W3.putObj (w.heap.size + 1) (.loop (rc (if jump.isNone then .ready else .done) jump))).heap[w.heap.size + 1]? = some (.loop (rc (if jump.isNone then .ready else .done) jump)) ∧
        (W3.putObj (w.heap.size + 1) (.loop (rc (if jump.isNone then .ready else .done) jump))).heap[w.heap.size]? = some (.deferred (some [])) := by
      intro jump W3 ko
      have hl3 := ko.same _ _ hlb rfl
      have hr := run_endRound (P := P) jump hl3
      rw [hrc] at hr ⊢
      exact ⟨hr, by rw [hrc] at hl3; exact hl3, World.putObj_heap_same (Array.getElem?_eq_some_iff.1 hl3).1, (World.putObj_heap_other (by omega)).trans (ko.same _ _ hkb rfl)⟩
    rintro e a3 W3 hp
    cases e with
    | normal =>
      obtain ⟨ko3, kc3, hi3⟩ := hp
      obtain ⟨hr, hl3, hl4, hk4⟩ := fin none W3 ko3
      exact ⟨_, _, hr, .inl ⟨rfl, ⟨hI.putObj _ hi3 (by omega) hl3 rfl, hl4, hk4⟩, ((kc1.trans kcb).trans kc3).trans (KC.putObj _ hl3 rfl)⟩⟩
    | ret =>
      obtain ⟨ko3, hi3⟩ := hp
      obtain ⟨hr, hl3, hl4, hk4⟩ := fin (some .ret) W3 ko3
      exact ⟨_, _, hr, .inr ⟨rfl, hIx.putObj _ hi3 (by omega) hl3 rfl, hl4, hk4⟩⟩
    | exit id => exact hp.elim
    | goto t => exact hp.elim
    | panic ch => exact hp.elim
    | outgrown => exact hp.elim
  · rintro e W2 ⟨⟨v, rfl⟩, (⟨xs, hS, hi, hl, hk⟩ | ⟨pre, hSp, hi, hl, hk⟩)⟩
    · exact ⟨none, _, by have := run_endLoop (P := P) hl (by rw [hrc]; simp); rw [hrc] at this; exact this, hdone _ xs _ (Nat.le_refl _) hS (hI.putObj _ hi (by omega) hl rfl) ((World.putObj_heap_other (by omega)).trans hk)⟩
    · exact ⟨some .ret, _, by have := run_endLoop (P := P) hl (by rw [hrc]; simp); rw [hrc] at this; exact this, hstop _ pre _ (Nat.le_refl _) hSp (hIx.putObj _ hi (by omega) hl rfl) ((World.putObj_heap_other (by omega)).trans hk)⟩
end Go.Proofs.Lw
end
section
set_option linter.unusedSimpArgs false
set_option linter.unusedVariables false
namespace Go.Proofs.Lw
open Go.RowKit Go.Shelf Go.Proofs.YtehddihmndpgaaaGreatDoorW.PrintWords Go.Proofs.YtehddihmndpgaaaGreatDoor.PLib
attribute [local go_sem] Oper.semAt_some
theorem pairs_sl (A : Option Addr) (n c : Nat) (w : World) : Calls Tryz.prog 90 #[.slice A n c] w fun r w' => r = .returned (.func (.func 98) #[] #[.pointer (some ⟨w.heap.size, 0, none⟩)]) ∧ w' = w.alloc (.cells #[.slice A n c] 35) := by
  go_enter Tryz.func90, Tryz.ntmps90
  go_wp2
  go_ret
  exact ⟨rfl, rfl⟩
set_option maxHeartbeats 8000000
set_option maxRecDepth 100000 in
theorem meet_any (A : Option Addr) (c : Nat) (l : List S113) (w : World) (hC : Kd.C k113 w A l.length l) (hc : l.length ≤ c) : Calls Tryz.prog 81 #[.slice A l.length c] w fun e w' => e = .returned (.int .i64 (meetR l)) ∧ Below w.heap.size w w' := by
  have hN : l.length ≤ 9223372036854775807 := hC.2.1
  refine callsIn_wide.1 (callsIn_of_wp_marks (n := 5) Tryz.func81 rfl trivial ?_ rfl)
  simp only [Tryz.ntmps81, List.size_toArray, List.length_cons, List.length_nil, Nat.reduceAdd, Nat.reduceSub, Array.replicate_succ, Array.replicate_zero, List.push_toArray, List.append_toArray, List.nil_append, List.cons_append]
  by_cases hbig : 16 < l.length
  · have d1 : decide ((16 : Int) < l.length) = true := by simp only [decide_eq_true_eq]; omega
    gi_wp2
    refine ⟨.int .i64 220, ?_, ?_⟩
    · simp [results, Tryz.results81, go_sem]
    · exact ⟨ret_m (by unfold meetR; rw [if_pos hbig]), (Below.refl _ _).alloc (Nat.le_refl _) _⟩
  · have d1 : decide ((16 : Int) < l.length) = false := by simp only [decide_eq_false_iff_not]; omega
    gi_wp2
    gi_loopw [12] (fun i wr => ∃ k : Nat, k ≤ l.length ∧ i = .int .i64 k ∧ (∀ m ∈ l.take k, validM m = true) ∧ wr.heap[w.heap.size]? = some (.cells #[.int .i64 0] 25 (0, 0)) ∧ Below w.heap.size w wr)
      (fun i _ => l.length - (intOf i).toNat)
    case atStart => exact ⟨0, Nat.zero_le _, rfl, by simp, heap_alloc_new w _, (Below.refl _ _).alloc (Nat.le_refl _) _⟩
    case round =>
      obtain ⟨k, hk, rfl, hv, hb, hB⟩ := hrel
      have hbl := (Array.getElem?_eq_some_iff.1 hb).1
      by_cases hlt : k < l.length
      · obtain ⟨ad, rfl, hcell⟩ := meet_at (Kd.C_below hC hB) k hlt
        obtain ⟨vb, hvb⟩ : ∃ b, validM l[k] = b := ⟨_, rfl⟩
        have cV := validM_any l[k]
        simp only [hvb] at cV
        have HV := Lib.hid hvb
        have Hv := Lib.hid hv
        have Hb := Lib.hid hb
        have HB := Lib.hid hB
        clear hv hb hvb hB
        gi_wp2_with (first
          | ((with_reducible change wpListIn _ _ _ _ _ (⟨_, .load 113 (.tmp 14), _, _, _, _⟩ :: _) _ wr); refine wpListIn_load_at free_wide rfl 113 _ rfl (ad.add (k * 5)) rfl (c5 l[k]) _ hcell Tryz.underlying113 rfl info113 ?_)
          | ((with_reducible change wpListIn _ _ _ _ _ (⟨_, .load 113 (.tmp 4), _, _, _, _⟩ :: _) _ _); refine wpListIn_load_at free_wide rfl 113 _ rfl ⟨wr.heap.size, 0, none⟩ rfl (c5 l[k]) _ (new5 wr l[k] 113) Tryz.underlying113 rfl info113 ?_)
          | ((with_reducible change wpListIn _ _ _ _ _ (⟨_, .store 113 _ _, _, _, _, _⟩ :: _) _ _); refine wpListIn_store_new free_wide rfl 113 _ _ rfl (c5 l[k]).toArray _ _ rfl rfl info113 rfl (c5_one _) ?_))
        have hBn : Below w.heap.size w (wr.alloc (Obj.cells (c5 l[k]).toArray 113)) := HB.out.alloc HB.out.size _
        have hbn : (wr.alloc (Obj.cells (c5 l[k]).toArray 113)).heap[w.heap.size]? = some (.cells #[.int .i64 0] 25 (0, 0)) := (Below.heap_alloc _ _ _ hbl).trans Hb.out
        refine ⟨trivial, ((callsIn_wide (n := 4)).2 (cV _)).mono ?_⟩
        rintro e W3 ⟨rfl, hB3⟩
        have hb3 : W3.heap[w.heap.size]? = some (.cells #[.int .i64 0] 25 (0, 0)) := (hB3.block _ (Array.getElem?_eq_some_iff.1 hbn).1).trans hbn
        have kc : W3.cell? ⟨w.heap.size, 0, none⟩ = _ := cell_of_row W3 w.heap.size 0 _ 25 (0, 0) hb3
        have kf : W3.frozen? ⟨w.heap.size, 0, none⟩ = false := by simp [World.frozen?, hb3]
        have hBB : Below w.heap.size w W3 := hBn.trans (hB3.mono hBn.size)
        have Hb3 := Lib.hid hb3
        have HBB := Lib.hid hBB
        clear hb3 hBB hbn hBn hB3
        cases vb
        · gi_wp2
          refine ⟨.int .i64 220, ?_, ?_⟩
          · have k2 : (W3.setCell ⟨w.heap.size, 0, none⟩ (.int .i64 220)).cell? ⟨w.heap.size, 0, none⟩ = some (.int .i64 220) := World.cell?_setCell_same' _ _ _ (by rw [kc]; rfl)
            simp [results, Tryz.results81, go_sem, k2]
          · refine ⟨ret_m ?_, HBB.out.setCell (p := ⟨w.heap.size, 0, none⟩) (Nat.le_refl _) _⟩
            unfold meetR
            rw [if_neg hbig, if_pos (List.any_eq_true.2 ⟨l[k], List.getElem_mem hlt, by rw [HV.out]; rfl⟩)]
        · gi_wp2
          go_roundw
          case rel =>
            refine ⟨k + 1, by omega, by go_num, ?_, Hb3.out, HBB.out⟩
            intro m hm
            rw [List.take_add_one, List.getElem?_eq_getElem hlt] at hm
            rcases List.mem_append.1 hm with hm | hm
            · exact Hv.out m hm
            · simp at hm; rw [hm]; exact HV.out
          case measure => simp [intOf]; omega
      · rw [List.take_of_length_le (by omega)] at hv
        have hany : l.any (fun m => !validM m) = false := by simpa using hv
        have HM : Hid (meetR l = if (allP l).any (fun p => overM p.1 p.2) then 220 else 0) := Lib.hid (by unfold meetR; rw [if_neg hbig, hany]; rfl)
        have Hb := Lib.hid hb
        have HB := Lib.hid hB
        clear hv hany hb hB
        gi_wp2
        refine ⟨trivial, ((callsIn_wide (n := 4)).2 (pairs_sl A l.length c _)).mono ?_⟩
        rintro _ _ ⟨rfl, rfl⟩
        gi_wp2
        have hbW : (wr.alloc (Obj.cells #[.slice A l.length c] 35)).heap[w.heap.size]? = some (.cells #[.int .i64 0] 25 (0, 0)) := (Below.heap_alloc _ _ _ hbl).trans Hb.out
        have hbx : (wr.alloc (Obj.cells #[.slice A l.length c] 35)).heap[wr.heap.size]? = some (.cells #[.slice A l.length c] 35 (0, 0)) := heap_alloc_new wr _
        have hBW : Below w.heap.size w (wr.alloc (Obj.cells #[.slice A l.length c] 35)) := HB.out.alloc HB.out.size _
        have hCW := Kd.C_below hC hBW
        obtain ⟨WB, hWB⟩ : ∃ WB, wr.alloc (Obj.cells #[.slice A l.length c] 35) = WB := ⟨_, rfl⟩
        rw [hWB] at hbW hbx hBW hCW
        try rw [hWB]
        clear hWB
        have hlt0 : w.heap.size < WB.heap.size := (Array.getElem?_eq_some_iff.1 hbW).1
        have own : ∀ (v : Value) (p : List (S113 × S113) → Prop), OwnFrom WB.heap.size (fun pre W => Below w.heap.size w W ∧ W.heap[w.heap.size]? = some (.cells #[v] 25 (0, 0)) ∧ p pre) := fun v p s A' B' row hs hg hr =>
          ⟨hs.1.grown hg hs.1.size (fun k e => by have := (hr k e).1; omega), (hg.block _ (Array.getElem?_eq_some_iff.1 hs.2.1).1 (fun e => by have := (hr _ e.symm).1; omega)).trans hs.2.1, hs.2.2⟩
        refine rangeFunc_new (n := 5) (by decide) (gf := 98) (lb := #[.pointer (some ⟨wr.heap.size, 0, none⟩)]) rfl (enters_of Tryz.func98 (by kernel_rfl) rfl) (pairs_stops 4 (by decide) A c l wr.heap.size WB hbx hCW hc) (Below.refl _ _) (fun _ => rfl)
          (fun pre W => Below w.heap.size w W ∧ W.heap[w.heap.size]? = some (.cells #[.int .i64 0] 25 (0, 0)) ∧ ∀ p ∈ pre, overM p.1 p.2 = false)
          (fun pre W => Below w.heap.size w W ∧ W.heap[w.heap.size]? = some (.cells #[.int .i64 220] 25 (0, 0)) ∧ ∃ p ∈ pre, overM p.1 p.2 = true)
          (own _ _) (own _ _) ⟨hBW, hbW, by simp⟩
          (fun x b W => ∃ b5 b6 v22 v23, b = { tmps := #[.slice A l.length c, undef, .pointer (some ⟨w.heap.size, 0, none⟩), undef, u4, .pointer (some ⟨b5, 0, none⟩), .pointer (some ⟨b6, 0, none⟩), .slice A l.length c, .int .i64 l.length, .bool false, .slice A l.length c, .int .i64 l.length, .int .i64 k, .bool false, u14, u15, u16, u17, u18, u19, .slice A l.length c, .func (.func 98) #[] #[.pointer (some ⟨wr.heap.size, 0, none⟩)], v22, v23, undef, undef, undef], defers := [] } ∧
            W.heap[b5]? = some (.cells (c5 x.1).toArray 113 (0, 0)) ∧ W.heap[b6]? = some (.cells (c5 x.2).toArray 113 (0, 0)))
          (fun x b W W' ⟨b5, b6, v22, v23, h1, h2, h3⟩ hk => ⟨b5, b6, v22, v23, h1, hk.cells _ _ _ _ h2, hk.cells _ _ _ _ h3⟩) ?assign ?body ?done ?stop
        case assign =>
          intro y x W K hK
          simp only [encP, List.zip_toArray, List.zip_cons_cons, List.zip_nil_right, List.size_toArray, List.foldl_toArray', List.foldl_toArray, List.foldl_cons, List.foldl_nil, List.setIfInBounds_toArray, List.set_cons_succ, List.set_cons_zero]
          change Code.wpIn _ _ _ _ _ { tmps := #[.slice A l.length c, undef, .pointer (some ⟨w.heap.size, 0, none⟩), undef, u4, undef, undef, .slice A l.length c, .int .i64 l.length, .bool false, .slice A l.length c, .int .i64 l.length, .int .i64 k, .bool false, u14, u15, u16, u17, u18, u19, .slice A l.length c, .func (.func 98) #[] #[.pointer (some ⟨wr.heap.size, 0, none⟩)], .agg (c5 x.1).toArray, .agg (c5 x.2).toArray, undef, undef, undef], defers := [] } W
          have hKx := fun b W₁ h1 h2 h3 h4 => hK b W₁ h1 h2 h3 h4
          clear hK
          gi_wp2_with (first
            | ((with_reducible change wpListIn _ _ _ _ _ (⟨_, .store 113 (.tmp 5) _, _, _, _, _⟩ :: _) _ _); refine wpListIn_store_new free_round rfl 113 _ _ rfl (c5 x.1).toArray _ _ rfl rfl info113 rfl (c5_one _) ?_)
            | ((with_reducible change wpListIn _ _ _ _ _ (⟨_, .store 113 (.tmp 6) _, _, _, _, _⟩ :: _) _ _); refine wpListIn_store_new free_round rfl 113 _ _ rfl (c5 x.2).toArray _ _ (by rw [World.size_alloc]; rfl) rfl info113 rfl (c5_one _) ?_))
          refine hKx _ _ ((KeepsOthers.alloc W _).trans (KeepsOthers.alloc _ _)) ((KC.alloc _).trans (KC.alloc _)) (fun pre hi => (own (.int .i64 0) (fun pre => ∀ p ∈ pre, overM p.1 p.2 = false)).alloc _ ((own (.int .i64 0) (fun pre => ∀ p ∈ pre, overM p.1 p.2 = false)).alloc _ hi)) ⟨W.heap.size, W.heap.size + 1, _, _, rfl, ?_, ?_⟩
          · exact (Below.heap_alloc _ _ _ (by simp)).trans (heap_alloc_new W _)
          · have := heap_alloc_new (W.alloc (Obj.cells (c5 x.1).toArray 113)) (Obj.cells (c5 x.2).toArray 113)
            rwa [World.size_alloc] at this
        case body =>
          rintro y pre x b W ⟨hBw, hbw, hp⟩ hlen ⟨b5, b6, v22, v23, rfl, h5, h6⟩
          have r5 : ∀ j u, (c5 x.1)[j]? = some u → W.cell? ((⟨b5, 0, none⟩ : Addr).add j) = some u := fun j u hu => by rw [add_plain]; exact (cell_of_row W b5 j _ 113 (0, 0) h5).trans (by simpa using hu)
          have r6 : ∀ j u, (c5 x.2)[j]? = some u → W.cell? ((⟨b6, 0, none⟩ : Addr).add j) = some u := fun j u hu => by rw [add_plain]; exact (cell_of_row W b6 j _ 113 (0, 0) h6).trans (by simpa using hu)
          obtain ⟨ov, hov⟩ : ∃ b, overM x.1 x.2 = b := ⟨_, rfl⟩
          have cO := overM_any x.1 x.2
          simp only [hov] at cO
          have HOV := Lib.hid hov
          have HBw := Lib.hid hBw
          have Hbw := Lib.hid hbw
          have Hp := Lib.hid hp
          clear hBw hbw hp h5 h6 hov
          gi_wp2_with (first
            | ((with_reducible change wpListIn _ _ _ _ _ (⟨_, .load 113 (.tmp 5), _, _, _, _⟩ :: _) _ _); refine wpListIn_load_at free_round rfl 113 _ rfl ⟨b5, 0, none⟩ rfl (c5 x.1) _ r5 Tryz.underlying113 rfl info113 ?_)
            | ((with_reducible change wpListIn _ _ _ _ _ (⟨_, .load 113 (.tmp 6), _, _, _, _⟩ :: _) _ _); refine wpListIn_load_at free_round rfl 113 _ rfl ⟨b6, 0, none⟩ rfl (c5 x.2) _ r6 Tryz.underlying113 rfl info113 ?_))
          refine ⟨trivial, (CallsIn.inRound y ((callsIn_wide (n := 2)).2 (cO _))).mono ?_⟩
          rintro e W3 ⟨rfl, hB3⟩
          have hb3 : W3.heap[w.heap.size]? = some (.cells #[.int .i64 0] 25 (0, 0)) := (hB3.block _ (Array.getElem?_eq_some_iff.1 Hbw.out).1).trans Hbw.out
          have kc : W3.cell? ⟨w.heap.size, 0, none⟩ = _ := cell_of_row W3 w.heap.size 0 _ 25 (0, 0) hb3
          have kf : W3.frozen? ⟨w.heap.size, 0, none⟩ = false := by simp [World.frozen?, hb3]
          have ko : KeepsOthers W W3 := ⟨hB3.size, fun i o ho _ => (hB3.block i (Array.getElem?_eq_some_iff.1 ho).1).trans ho⟩
          have hB4 : Below w.heap.size w W3 := HBw.out.trans (hB3.mono HBw.out.size)
          have Hb3 := Lib.hid hb3
          have HB3 := Lib.hid hB3
          have HB4 := Lib.hid hB4
          clear hb3 hB3 hB4
          cases ov
          · gi_wp2
            refine ⟨ko, KC.of_below HB3.out, HB4.out, Hb3.out, ?_⟩
            intro p hp
            rcases List.mem_append.1 hp with hp | hp
            · exact Hp.out p hp
            · simp at hp; rw [hp]; exact HOV.out
          · gi_wp2
            refine ⟨ko.trans (KeepsOthers.setCell _ _ _), HB4.out.setCell (p := ⟨w.heap.size, 0, none⟩) (Nat.le_refl _) _, ?_, x, by simp, HOV.out⟩
            have hb := Hb3.out
            simp [World.setCell, Array.getElem?_modify, hb]
        case done =>
          rintro D xs W hD rfl ⟨hBw, hbw, hp⟩ hk
          have kc : W.cell? ⟨w.heap.size, 0, none⟩ = _ := cell_of_row W w.heap.size 0 _ 25 (0, 0) hbw
          have kf : W.frozen? ⟨w.heap.size, 0, none⟩ = false := by simp [World.frozen?, hbw]
          have HBw := Lib.hid hBw
          have Hbw := Lib.hid hbw
          have Hk := Lib.hid hk
          have Hp := Lib.hid hp
          clear hBw hbw hk hp
          gi_wp2
          have hk2 := (KeepsOthers.setCell W ⟨w.heap.size, 0, none⟩ (.int .i64 0)).same D _ Hk.out rfl
          refine ⟨by simp, .inl ⟨_, _, rfl, run_takeDeferred hk2, ?_⟩⟩
          have kc5 := cell_kept (World.cell?_setCell_same' W ⟨w.heap.size, 0, none⟩ (.int .i64 0) (by rw [kc]; rfl)) (grownBy_putObj' _ D (.deferred none)) (fun r e => by cases e; exact ⟨_, hk2, rfl⟩)
          refine ⟨.int .i64 0, ?_, ret_m ?_, ?_⟩
          · simp [results, Tryz.results81, go_sem, kc5]
          · rw [HM.out, if_neg]
            simpa using Hp.out
          · exact (HBw.out.setCell (p := ⟨w.heap.size, 0, none⟩) (Nat.le_refl _) _).grown (grownBy_putObj' _ D (.deferred none)) (by have := HBw.out.size; simpa using this) (fun r e => by cases e; omega)
        case stop =>
          rintro D pre W hD hpre ⟨hBw, hbw, p, hp, hov⟩ hk
          have HBw := Lib.hid hBw
          have Hbw := Lib.hid hbw
          have Hk := Lib.hid hk
          clear hBw hbw hk
          gi_wp2
          refine ⟨by simp, .inl ⟨_, _, rfl, run_takeDeferred Hk.out, ?_⟩⟩
          have kc5 := cell_kept (cell_of_row W w.heap.size 0 _ 25 (0, 0) Hbw.out) (grownBy_putObj' _ D (.deferred none)) (fun r e => by cases e; exact ⟨_, Hk.out, rfl⟩)
          refine ⟨.int .i64 220, ?_, ret_m ?_, ?_⟩
          · simp [results, Tryz.results81, go_sem, kc5]
          · rw [HM.out, if_pos (List.any_eq_true.2 ⟨p, hpre.subset hp, hov⟩)]
          · exact HBw.out.grown (grownBy_putObj' _ D (.deferred none)) HBw.out.size (fun r e => by cases e; omega)
end Go.Proofs.Lw
end
section
set_option linter.unusedSimpArgs false
set_option linter.unusedVariables false
namespace Go.Proofs.Lw
open Go.RowKit Go.Proofs.YtehddihmndpgaaaGreatDoorW.PrintWords Go.Proofs.YtehddihmndpgaaaGreatDoor.PLib
theorem sizarref22_Same_l0 (x y : List S113) (h : x.length = y.length) (hn : x.length ≤ 9223372036854775807) : ∀ (d k i : Nat), x.length - i = d → d < k → i ≤ x.length →
    ∃ b, sizarref22_Same.l0 k x y (i : Int) = some b ∧ (b = true ↔ x.drop i = y.drop i) := by
  intro d
  induction d with
  | zero =>
    intro k i hd hk hi
    obtain ⟨k, rfl⟩ : ∃ m, k = m + 1 := ⟨k - 1, by omega⟩
    refine ⟨true, by simp only [sizarref22_Same.l0]; rw [if_neg (by omega)], ?_⟩
    rw [List.drop_eq_nil_of_le (by omega), List.drop_eq_nil_of_le (by omega)]
    simp
  | succ d ih =>
    intro k i hd hk hi
    obtain ⟨k, rfl⟩ : ∃ m, k = m + 1 := ⟨k - 1, by omega⟩
    have hx : i < x.length := by omega
    have hy : i < y.length := by omega
    have ex : rd_T113 x (i : Int) = x[i] := by simp [rd_T113, List.getD_eq_getElem?_getD, List.getElem?_eq_getElem hx]
    have ey : rd_T113 y (i : Int) = y[i] := by simp [rd_T113, List.getD_eq_getElem?_getD, List.getElem?_eq_getElem hy]
    simp only [sizarref22_Same.l0]
    rw [if_pos (by omega), if_pos (by omega), if_pos (by omega), ex, ey, drop_eq_iff hx hy]
    by_cases e : x[i] = y[i]
    · rw [if_neg (by rw [ne_S113]; simpa using e)]
      obtain ⟨b, hb, hiff⟩ := ih k (i + 1) (by omega) (by omega) (by omega)
      rw [wrap_up hx hn, hb]
      exact ⟨b, rfl, by rw [hiff]; exact ⟨fun h => ⟨e, h⟩, fun h => h.2⟩⟩
    · rw [if_pos ((ne_S113 _ _).2 e)]
      exact ⟨false, rfl, by simp [e]⟩
theorem sizarref22_Same_f (x y : List S113) (hn : x.length ≤ 9223372036854775807) (k : Nat) (hk : x.length < k) : ∃ b, sizarref22_Same.f k x y = some b ∧ (b = true ↔ x = y) := by
  unfold sizarref22_Same.f
  by_cases h : x.length = y.length
  · rw [if_pos (by omega)]
    obtain ⟨b, hb, hiff⟩ := sizarref22_Same_l0 x y h hn x.length k 0 (by omega) hk (by omega)
    exact ⟨b, hb, by simpa using hiff⟩
  · rw [if_neg (by omega)]
    exact ⟨false, rfl, by simp; rintro rfl; exact h rfl⟩
theorem sizarref37_sameGroups_l0 (x y : List S115) (h : x.length = y.length) (hn : x.length ≤ 9223372036854775807) : ∀ (d k i : Nat), x.length - i = d → d < k → i ≤ x.length →
    ∃ b, sizarref37_sameGroups.l0 k x y (i : Int) = some b ∧ (b = true ↔ x.drop i = y.drop i) := by
  intro d
  induction d with
  | zero =>
    intro k i hd hk hi
    obtain ⟨k, rfl⟩ : ∃ m, k = m + 1 := ⟨k - 1, by omega⟩
    refine ⟨true, by simp only [sizarref37_sameGroups.l0]; rw [if_neg (by omega)], ?_⟩
    rw [List.drop_eq_nil_of_le (by omega), List.drop_eq_nil_of_le (by omega)]
    simp
  | succ d ih =>
    intro k i hd hk hi
    obtain ⟨k, rfl⟩ : ∃ m, k = m + 1 := ⟨k - 1, by omega⟩
    have hx : i < x.length := by omega
    have hy : i < y.length := by omega
    have ex : rd_T115 x (i : Int) = x[i] := by simp [rd_T115, List.getD_eq_getElem?_getD, List.getElem?_eq_getElem hx]
    have ey : rd_T115 y (i : Int) = y[i] := by simp [rd_T115, List.getD_eq_getElem?_getD, List.getElem?_eq_getElem hy]
    simp only [sizarref37_sameGroups.l0]
    rw [if_pos (by omega), if_pos (by omega), if_pos (by omega), ex, ey, drop_eq_iff hx hy]
    by_cases e : x[i] = y[i]
    · rw [if_neg (by rw [ne_S115]; simpa using e)]
      obtain ⟨b, hb, hiff⟩ := ih k (i + 1) (by omega) (by omega) (by omega)
      rw [wrap_up hx hn, hb]
      exact ⟨b, rfl, by rw [hiff]; exact ⟨fun h => ⟨e, h⟩, fun h => h.2⟩⟩
    · rw [if_pos ((ne_S115 _ _).2 e)]
      exact ⟨false, rfl, by simp [e]⟩
theorem sizarref37_sameGroups_f (x y : List S115) (hn : x.length ≤ 9223372036854775807) (k : Nat) (hk : x.length < k) : ∃ b, sizarref37_sameGroups.f k x y = some b ∧ (b = true ↔ x = y) := by
  unfold sizarref37_sameGroups.f
  by_cases h : x.length = y.length
  · rw [if_pos (by omega)]
    obtain ⟨b, hb, hiff⟩ := sizarref37_sameGroups_l0 x y h hn x.length k 0 (by omega) hk (by omega)
    exact ⟨b, hb, by simpa using hiff⟩
  · rw [if_neg (by omega)]
    exact ⟨false, rfl, by simp; rintro rfl; exact h rfl⟩
theorem sizarref37_sameInts_l0 (x y : List Int) (h : x.length = y.length) (hn : x.length ≤ 9223372036854775807) : ∀ (d k i : Nat), x.length - i = d → d < k → i ≤ x.length →
    ∃ b, sizarref37_sameInts.l0 k x y (i : Int) = some b ∧ (b = true ↔ x.drop i = y.drop i) := by
  intro d
  induction d with
  | zero =>
    intro k i hd hk hi
    obtain ⟨k, rfl⟩ : ∃ m, k = m + 1 := ⟨k - 1, by omega⟩
    refine ⟨true, by simp only [sizarref37_sameInts.l0]; rw [if_neg (by omega)], ?_⟩
    rw [List.drop_eq_nil_of_le (by omega), List.drop_eq_nil_of_le (by omega)]
    simp
  | succ d ih =>
    intro k i hd hk hi
    obtain ⟨k, rfl⟩ : ∃ m, k = m + 1 := ⟨k - 1, by omega⟩
    have hx : i < x.length := by omega
    have hy : i < y.length := by omega
    have ex : rd x (i : Int) = x[i] := by simp [rd, List.getD_eq_getElem?_getD, List.getElem?_eq_getElem hx]
    have ey : rd y (i : Int) = y[i] := by simp [rd, List.getD_eq_getElem?_getD, List.getElem?_eq_getElem hy]
    simp only [sizarref37_sameInts.l0]
    rw [if_pos (by omega), if_pos (by omega), if_pos (by omega), ex, ey, drop_eq_iff hx hy]
    by_cases e : x[i] = y[i]
    · rw [if_pos e]
      obtain ⟨b, hb, hiff⟩ := ih k (i + 1) (by omega) (by omega) (by omega)
      rw [wrap_up hx hn, hb]
      exact ⟨b, rfl, by rw [hiff]; exact ⟨fun h => ⟨e, h⟩, fun h => h.2⟩⟩
    · rw [if_neg e]
      exact ⟨false, rfl, by simp [e]⟩
theorem sizarref37_sameInts_f (x y : List Int) (hn : x.length ≤ 9223372036854775807) (k : Nat) (hk : x.length < k) : ∃ b, sizarref37_sameInts.f k x y = some b ∧ (b = true ↔ x = y) := by
  unfold sizarref37_sameInts.f
  by_cases h : x.length = y.length
  · rw [if_pos (by omega)]
    obtain ⟨b, hb, hiff⟩ := sizarref37_sameInts_l0 x y h hn x.length k 0 (by omega) hk (by omega)
    exact ⟨b, hb, by simpa using hiff⟩
  · rw [if_neg (by omega)]
    exact ⟨false, rfl, by simp; rintro rfl; exact h rfl⟩
theorem sizarref37_SameRequest_l0 (a0 a1 a2 a3 a4 a6 a6' a7 c0 c1 c2 c3 c4 c6 c6' c7 : Int) (x y : List S42) (h : x.length = y.length) (hn : x.length ≤ 9223372036854775807) : ∀ (d k i : Nat), x.length - i = d → d < k → i ≤ x.length →
    ∃ b, sizarref37_SameRequest.l0 k (i : Int) a0 a1 a2 a3 a4 x a6 a6' a7 c0 c1 c2 c3 c4 y c6 c6' c7 = some b ∧ (b = true ↔ x.drop i = y.drop i) := by
  intro d
  induction d with
  | zero =>
    intro k i hd hk hi
    obtain ⟨k, rfl⟩ : ∃ m, k = m + 1 := ⟨k - 1, by omega⟩
    refine ⟨true, by simp only [sizarref37_SameRequest.l0]; rw [if_neg (by omega)], ?_⟩
    rw [List.drop_eq_nil_of_le (by omega), List.drop_eq_nil_of_le (by omega)]
    simp
  | succ d ih =>
    intro k i hd hk hi
    obtain ⟨k, rfl⟩ : ∃ m, k = m + 1 := ⟨k - 1, by omega⟩
    have hx : i < x.length := by omega
    have hy : i < y.length := by omega
    have ex : rd_T42 x (i : Int) = x[i] := by simp [rd_T42, List.getD_eq_getElem?_getD, List.getElem?_eq_getElem hx]
    have ey : rd_T42 y (i : Int) = y[i] := by simp [rd_T42, List.getD_eq_getElem?_getD, List.getElem?_eq_getElem hy]
    simp only [sizarref37_SameRequest.l0]
    rw [if_pos (by omega), if_pos (by omega), if_pos (by omega), ex, ey, drop_eq_iff hx hy]
    by_cases e : x[i] = y[i]
    · rw [if_neg (by rw [ne_S42]; simpa using e)]
      obtain ⟨b, hb, hiff⟩ := ih k (i + 1) (by omega) (by omega) (by omega)
      rw [wrap_up hx hn, hb]
      exact ⟨b, rfl, by rw [hiff]; exact ⟨fun h => ⟨e, h⟩, fun h => h.2⟩⟩
    · rw [if_pos ((ne_S42 _ _).2 e)]
      exact ⟨false, rfl, by simp [e]⟩
theorem sameSection37_f (x y : S39) (k : Nat) (h5 : x.f5.length < k ∧ x.f5.length ≤ 9223372036854775807) (h6 : x.f6.length < k ∧ x.f6.length ≤ 9223372036854775807) (h7 : x.f7.length < k ∧ x.f7.length ≤ 9223372036854775807) :
    ∃ b, sizarref37_SameSection.f k x.f0 x.f1 x.f2 x.f3 x.f4 x.f5 x.f6 x.f7 x.f8 y.f0 y.f1 y.f2 y.f3 y.f4 y.f5 y.f6 y.f7 y.f8 = some b ∧ (b = true ↔ x = y) := by
  obtain ⟨b5, e5, i5⟩ := sizarref22_Same_f x.f5 y.f5 h5.2 k h5.1
  obtain ⟨b6, e6, i6⟩ := sizarref37_sameGroups_f x.f6 y.f6 h6.2 k h6.1
  obtain ⟨b7, e7, i7⟩ := sizarref37_sameInts_f x.f7 y.f7 h7.2 k h7.1
  obtain ⟨a0, a1, a2, a3, a4, a5, a6, a7, a8⟩ := x
  obtain ⟨c0, c1, c2, c3, c4, c5, c6, c7, c8⟩ := y
  dsimp only at *
  unfold sizarref37_SameSection.f
  rw [e5, e6, e7]
  simp only [Option.bind_some, S39.mk.injEq]
  rcases Classical.em (a0 = c0) with h0 | h0; rotate_left; exact ⟨false, by rw [if_neg h0], by simp [h0]⟩
  rcases Classical.em (a1 = c1) with h1 | h1; rotate_left; exact ⟨false, by rw [if_pos h0, if_neg h1], by simp [h1]⟩
  rcases Classical.em (a2 = c2) with h2 | h2; rotate_left; exact ⟨false, by rw [if_pos h0, if_pos h1, if_neg h2], by simp [h2]⟩
  rcases Classical.em (a3 = c3) with h3 | h3; rotate_left; exact ⟨false, by rw [if_pos h0, if_pos h1, if_pos h2, if_neg h3], by simp [h3]⟩
  rcases Classical.em (a4 = c4) with h4 | h4; rotate_left; exact ⟨false, by rw [if_pos h0, if_pos h1, if_pos h2, if_pos h3, if_neg h4], by simp [h4]⟩
  rw [if_pos h0, if_pos h1, if_pos h2, if_pos h3, if_pos h4]
  rcases Classical.em (a8 = c8) with h8 | h8; rotate_left; exact ⟨false, by rw [if_neg (by simpa using h8)], by simp [h8]⟩
  rw [if_pos (by simpa using h8)]
  cases b5
  · exact ⟨false, by simp, by simp at i5; simp [i5]⟩
  cases b6
  · exact ⟨false, by simp, by simp at i6; simp [i6]⟩
  refine ⟨b7, by simp, ?_⟩
  simp at i5 i6
  simp [i5, i6, i7, h0, h1, h2, h3, h4, h8]
theorem sameRequest37_f (x y : S44) (k : Nat) (h5 : x.f5.length + 1 < k ∧ x.f5.length ≤ 9223372036854775807) :
    ∃ b, sizarref37_SameRequest.f k x.f0 x.f1 x.f2 x.f3 x.f4 x.f5 x.f6.f0 x.f6.f1 x.f7 y.f0 y.f1 y.f2 y.f3 y.f4 y.f5 y.f6.f0 y.f6.f1 y.f7 = some b ∧ (b = true ↔ x = y) := by
  obtain ⟨k, rfl⟩ : ∃ m, k = m + 1 := ⟨k - 1, by omega⟩
  obtain ⟨a0, a1, a2, a3, a4, a5, ⟨a6, a6'⟩, a7⟩ := x
  obtain ⟨c0, c1, c2, c3, c4, c5, ⟨c6, c6'⟩, c7⟩ := y
  dsimp only at *
  unfold sizarref37_SameRequest.f
  simp only [sizarref37_SameRequest.j0, if_true, S44.mk.injEq, S42.mk.injEq]
  rcases Classical.em (a0 = c0) with h0 | h0; rotate_left; exact ⟨false, by rw [if_neg h0], by simp [h0]⟩
  rcases Classical.em (a1 = c1) with h1 | h1; rotate_left; exact ⟨false, by rw [if_pos h0, if_neg h1], by simp [h1]⟩
  rcases Classical.em (a2 = c2) with h2 | h2; rotate_left; exact ⟨false, by rw [if_pos h0, if_pos h1, if_neg h2], by simp [h2]⟩
  rcases Classical.em (a3 = c3) with h3 | h3; rotate_left; exact ⟨false, by rw [if_pos h0, if_pos h1, if_pos h2, if_neg h3], by simp [h3]⟩
  rcases Classical.em (a4 = c4) with h4 | h4; rotate_left; exact ⟨false, by rw [if_pos h0, if_pos h1, if_pos h2, if_pos h3, if_neg h4], by simp [h4]⟩
  rw [if_pos h0, if_pos h1, if_pos h2, if_pos h3, if_pos h4]
  by_cases h6 : a6 = c6 ∧ a6' = c6'
  · rw [if_neg (by simp [h6.1, h6.2])]
    rcases Classical.em (a7 = c7) with h7 | h7; rotate_left; exact ⟨false, by rw [if_neg h7], by simp [h7]⟩
    rw [if_pos h7]
    by_cases h : a5.length = c5.length
    · rw [if_neg (by simp [h])]
      obtain ⟨b, hb, hi⟩ := sizarref37_SameRequest_l0 a0 a1 a2 a3 a4 a6 a6' a7 c0 c1 c2 c3 c4 c6 c6' c7 a5 c5 h h5.2 a5.length k 0 (by omega) (by omega) (by omega)
      refine ⟨b, hb, ?_⟩
      rw [hi]
      simp [h0, h1, h2, h3, h4, h6.1, h6.2, h7]
    · rw [if_pos (by simp only [bne_iff_ne, ne_eq]; omega)]
      refine ⟨false, rfl, ?_⟩
      have : a5 ≠ c5 := fun e => h (by rw [e])
      simp [this]
  · refine ⟨false, ?_, ?_⟩
    · rw [if_pos (by simp only [Bool.or_eq_true, Bool.not_eq_true', beq_eq_false_iff_ne]; grind)]
    · simp; intros; grind
def big37 (x : S48) (k : Nat) : Prop := (x.f8.f5.length < k ∧ x.f8.f5.length ≤ 9223372036854775807) ∧ (x.f8.f6.length < k ∧ x.f8.f6.length ≤ 9223372036854775807) ∧ (x.f8.f7.length < k ∧ x.f8.f7.length ≤ 9223372036854775807) ∧ (x.f9.f5.length + 1 < k ∧ x.f9.f5.length ≤ 9223372036854775807)
theorem same37_f (x y : S48) (k : Nat) (hb : big37 x k) :
    ∃ b, sizarref37_Same.f k x.f0.f0 x.f0.f1 x.f0.f2 x.f1 x.f2 x.f3 x.f4 x.f5 x.f6.f0 x.f6.f1 x.f7 x.f8.f0 x.f8.f1 x.f8.f2 x.f8.f3 x.f8.f4 x.f8.f5 x.f8.f6 x.f8.f7 x.f8.f8 x.f9.f0 x.f9.f1 x.f9.f2 x.f9.f3 x.f9.f4 x.f9.f5 x.f9.f6.f0 x.f9.f6.f1 x.f9.f7 x.f10.f0 x.f10.f1
      y.f0.f0 y.f0.f1 y.f0.f2 y.f1 y.f2 y.f3 y.f4 y.f5 y.f6.f0 y.f6.f1 y.f7 y.f8.f0 y.f8.f1 y.f8.f2 y.f8.f3 y.f8.f4 y.f8.f5 y.f8.f6 y.f8.f7 y.f8.f8 y.f9.f0 y.f9.f1 y.f9.f2 y.f9.f3 y.f9.f4 y.f9.f5 y.f9.f6.f0 y.f9.f6.f1 y.f9.f7 y.f10.f0 y.f10.f1 = some b ∧ (b = true ↔ x = y) := by
  obtain ⟨bs, es, is⟩ := sameSection37_f x.f8 y.f8 k hb.1 hb.2.1 hb.2.2.1
  obtain ⟨bq, eq, iq⟩ := sameRequest37_f x.f9 y.f9 k hb.2.2.2
  obtain ⟨⟨a0, a0', a0''⟩, a1, a2, a3, a4, a5, ⟨a6, a6'⟩, a7, a8, a9, ⟨a10, a10'⟩⟩ := x
  obtain ⟨⟨c0, c0', c0''⟩, c1, c2, c3, c4, c5, ⟨c6, c6'⟩, c7, c8, c9, ⟨c10, c10'⟩⟩ := y
  dsimp only at *
  unfold sizarref37_Same.f
  rw [es, eq]
  simp only [Option.bind_some, S48.mk.injEq, S32.mk.injEq, S34.mk.injEq, S46.mk.injEq]
  rcases Classical.em (a0 = c0 ∧ a0' = c0' ∧ a0'' = c0'') with h0 | h0; rotate_left; exact ⟨false, by rw [if_neg (by simpa using h0)], by simp [h0]⟩
  rw [if_pos (by simpa using h0)]
  rcases Classical.em (a1 = c1) with h1 | h1; rotate_left; exact ⟨false, by rw [if_neg h1], by simp [h1]⟩
  rcases Classical.em (a2 = c2) with h2 | h2; rotate_left; exact ⟨false, by rw [if_pos h1, if_neg h2], by simp [h2]⟩
  rcases Classical.em (a3 = c3) with h3 | h3; rotate_left; exact ⟨false, by rw [if_pos h1, if_pos h2, if_neg h3], by simp [h3]⟩
  rcases Classical.em (a4 = c4) with h4 | h4; rotate_left; exact ⟨false, by rw [if_pos h1, if_pos h2, if_pos h3, if_neg h4], by simp [h4]⟩
  rcases Classical.em (a5 = c5) with h5 | h5; rotate_left; exact ⟨false, by rw [if_pos h1, if_pos h2, if_pos h3, if_pos h4, if_neg h5], by simp [h5]⟩
  rw [if_pos h1, if_pos h2, if_pos h3, if_pos h4, if_pos h5]
  rcases Classical.em (a6 = c6 ∧ a6' = c6') with h6 | h6; rotate_left; exact ⟨false, by rw [if_neg (by simpa using h6)], by simp [h6]⟩
  rw [if_pos (by simpa using h6)]
  have e7 : a7.toList = c7.toList ↔ a7 = c7 := ⟨fun h => bytes_ext h, fun h => by rw [h]⟩
  rcases Classical.em (a7 = c7) with h7 | h7; rotate_left; exact ⟨false, by rw [if_neg (fun h => h7 (e7.1 h))], by simp [h7]⟩
  rw [if_pos (e7.2 h7)]
  rcases Classical.em (a10 = c10 ∧ a10' = c10') with h10 | h10; rotate_left; exact ⟨false, by rw [if_neg (by simpa using h10)], by simp [h10]⟩
  rw [if_pos (by simpa using h10)]
  cases bs
  · exact ⟨false, by simp, by simp at is; simp [is]⟩
  simp only [if_true]
  refine ⟨bq, by simp, ?_⟩
  simp at is
  simp [is, iq, h0.1, h0.2.1, h0.2.2, h1, h2, h3, h4, h5, h6.1, h6.2, h7, h10.1, h10.2]
theorem k48_big37 {w : World} {x : S48} {cs : List Value} (h : k48.K w x cs) : big37 x (bigK x + 1) := by
  obtain ⟨_, _, _, _, _, _, _, _, _, _, h5, _, h6, _, h7, _, hc⟩ := k48_open h
  unfold big37 bigK
  exact ⟨⟨by omega, h5.2.1⟩, ⟨by omega, h6.2.1⟩, ⟨by omega, h7.2.1⟩, ⟨by omega, hc.2.1⟩⟩
theorem same37_any (x y : S48) (cx cy : List Value) (w : World) (hx : k48.K w x cx) (hy : k48.K w y cy) : Calls Tryz.prog 28 #[.agg cx.toArray, .agg cy.toArray] w fun e w' =>
    e = .returned (.bool (decide (x = y))) ∧ Below w.heap.size w w' := by
  obtain ⟨b, hb, hi⟩ := same37_f x y _ (k48_big37 hx)
  have hd : b = decide (x = y) := by
    cases b
    · simp only [Bool.false_eq_true, false_iff] at hi; simp [hi]
    · simp only [true_iff] at hi; simp [hi]
  obtain ⟨A5, c5, A6, c6, A7, c7, A9, c9, rfl, l5, h5, l6, h6, l7, h7, l9, h9⟩ := k48_open hx
  obtain ⟨B5, d5, B6, d6, B7, d7, B9, d9, rfl, m5, i5, m6, i6, m7, i7, m9, i9⟩ := k48_open hy
  rw [← hd]
  exact sizarref37_Same.calls _ _ _ _ _ _ _ _ _ _ _ _ _ _ _ _ _ A5 c5 _ A6 c6 _ A7 c7 _ _ _ _ _ _ _ A9 c9 _ _ _ _ _ _ _ _ _ _ _ _ _ _ _ _ _ _ _ _ _ _ B5 d5 _ B6 d6 _ B7 d7 _ _ _ _ _ _ _ B9 d9 _ _ _ _ _ _ b w h5 l5 h6 l6 h7 l7 h9 l9 i5 m5 i6 m6 i7 m7 i9 m9 hb
end Go.Proofs.Lw
end
