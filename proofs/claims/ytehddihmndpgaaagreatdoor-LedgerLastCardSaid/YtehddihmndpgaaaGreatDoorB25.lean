import Derived.LaidHandle
import Derived.LaidLaws
import Derived.LaidMore
import Derived.Lib.LaidTab
import Derived.Test.YtehddihmndpgaaaGreatDoorB24
import Derived.Test.YtehddihmndpgaaaGreatDoorCards
set_option linter.unusedSimpArgs false
set_option linter.unusedVariables false
set_option maxRecDepth 100000
namespace Go.Proofs.Lw
open Go.RowKit Go.ChangeShapes Go.WideShapes Go.Proofs.YtehddihmndpgaaaGreatDoorW.PrintWords Go.Proofs.YtehddihmndpgaaaGreatDoor.PLib
open Go.Proofs.YtehddihmndpgaaaGreatDoor
theorem u106 : Tryz.prog.underlying 106 = some (.array 6 105) := by kernel_rfl
theorem f105 : (match Tryz.prog.underlying 105 with | some (.struct fs) => some (fs.toList.map fun f => (f.type, f.offset)) | _ => none) = some [(3, 0), (3, 1), (4, 2), (4, 3)] := by kernel_rfl
theorem c106 : Tryz.prog.cellsOf 106 = 24 := by kernel_rfl
theorem c105 : Tryz.prog.cellsOf 105 = 4 := by kernel_rfl
theorem c3 : Tryz.prog.cellsOf 3 = 1 := by kernel_rfl
theorem c4 : Tryz.prog.cellsOf 4 = 1 := by kernel_rfl
theorem gKinds : Tryz.prog.globalNamed "sizar/requests.kinds" = some 0 := by kernel_rfl
theorem tKinds : (Tryz.prog.globals[0]?).map (·.type) = some 106 := by kernel_rfl
theorem gErr : Tryz.prog.globalNamed "errors.errorType" = some 1 := by kernel_rfl
theorem rtErr : (Tryz.prog.cutTypes.find? (·.1 == "internal/reflectlite.rtype")).map (·.2) = some 149 := by kernel_rfl
theorem oneRow : ((List.range 490).filter fun t => Tryz.prog.rowNamed t [101, 114, 114, 111, 114]) = [103] := by kernel_rfl
theorem tsize : Tryz.prog.types.size = 490 := by kernel_rfl
theorem hErr : typeHandle Tryz.prog 103 = .pointer (some ⟨3, 103, none⟩) := by kernel_rfl
section
variable {H : Type} {enc : TypeId × Value → H} {w : World} {held : Bool}
theorem lit_int {n : Nat} {cs : List Value} {z : Int} {p : List MemPlace} (h : DataW.trod enc Tryz.prog w 0 (fun _ => true) held n 3 cs = some (.lit (.int .i64 z), p)) : cs = [.int .i64 z] := by
  obtain ⟨m, rfl, e, _⟩ := DataW.trod_int Tryz.underlying3 h
  have := congrArg Prod.fst e
  simp only [DataW.lit.injEq, Lit.int.injEq, true_and] at this
  rw [this]
theorem lit_bool {n : Nat} {cs : List Value} {b : Bool} {p : List MemPlace} (h : DataW.trod enc Tryz.prog w 0 (fun _ => true) held n 4 cs = some (.lit (.bool b), p)) : cs = [.bool b] := by
  cases n with
  | zero => simp [DataW.trod] at h
  | succ n =>
    unfold DataW.trod at h
    rw [Tryz.underlying4] at h
    split at h <;> simp_all
theorem open105 {n : Nat} {cs : List Value} {a b : Int} {c d : Bool} {p : List MemPlace} (h : DataW.trod enc Tryz.prog w 0 (fun _ => true) held n 105 cs = some (.agg [.lit (.int .i64 a), .lit (.int .i64 b), .lit (.bool c), .lit (.bool d)], p)) :
    cs = [.int .i64 a, .int .i64 b, .bool c, .bool d] := by
  have hf := f105
  cases hu : Tryz.prog.underlying 105 with
  | none => rw [hu] at hf; cases hf
  | some t =>
    rw [hu] at hf
    cases t <;> try (cases hf; done)
    rename_i fs
    simp only [Option.some.injEq] at hf
    obtain ⟨f0, l, e0, g0, hf⟩ := List.map_eq_cons_iff.1 hf
    obtain ⟨f1, l, rfl, g1, hf⟩ := List.map_eq_cons_iff.1 hf
    obtain ⟨f2, l, rfl, g2, hf⟩ := List.map_eq_cons_iff.1 hf
    obtain ⟨f3, l, rfl, g3, hf⟩ := List.map_eq_cons_iff.1 hf
    obtain rfl := List.map_eq_nil_iff.1 hf
    simp only [Prod.mk.injEq] at g0 g1 g2 g3
    cases n with
    | zero => simp [DataW.trod] at h
    | succ n =>
      simp only [DataW.trod, hu, c105] at h
      split at h
      · rename_i hl
        obtain ⟨xs, hm, hx⟩ := Option.map_eq_some_iff.1 h
        rw [e0] at hm
        obtain ⟨y0, q0, r0⟩ := Lib.mapM_at hm 0 f0 rfl
        obtain ⟨y1, q1, r1⟩ := Lib.mapM_at hm 1 f1 rfl
        obtain ⟨y2, q2, r2⟩ := Lib.mapM_at hm 2 f2 rfl
        obtain ⟨y3, q3, r3⟩ := Lib.mapM_at hm 3 f3 rfl
        have hx1 : xs.map (·.1) = [.lit (.int .i64 a), .lit (.int .i64 b), .lit (.bool c), .lit (.bool d)] := by
          have := congrArg Prod.fst hx
          simpa using this
        have at_ : ∀ (i : Nat) (y : DataW H × List MemPlace), xs[i]? = some y → ([.lit (.int .i64 a), .lit (.int .i64 b), .lit (.bool c), .lit (.bool d)] : List (DataW H))[i]? = some y.1 := fun i y hy => by
          rw [← hx1, List.getElem?_map, hy]; rfl
        have s0 := at_ 0 y0 q0
        have s1 := at_ 1 y1 q1
        have s2 := at_ 2 y2 q2
        have s3 := at_ 3 y3 q3
        simp only [List.getElem?_cons_zero, List.getElem?_cons_succ, Option.some.injEq] at s0 s1 s2 s3
        obtain ⟨y0, p0⟩ := y0
        obtain ⟨y1, p1⟩ := y1
        obtain ⟨y2, p2⟩ := y2
        obtain ⟨y3, p3⟩ := y3
        dsimp only at s0 s1 s2 s3
        subst s0 s1 s2 s3
        rw [g0.1, g0.2, c3] at r0
        rw [g1.1, g1.2, c3] at r1
        rw [g2.1, g2.2, c4] at r2
        rw [g3.1, g3.2, c4] at r3
        have t0 := lit_int r0
        have t1 := lit_int r1
        have t2 := lit_bool r2
        have t3 := lit_bool r3
        match cs, hl, t0, t1, t2, t3 with
        | [x0, x1, x2, x3], _, t0, t1, t2, t3 =>
          simp at t0 t1 t2 t3
          simp [t0, t1, t2, t3]
      · cases h
/-- The table, cell by cell. -/
theorem open106 {n : Nat} {cs : List Value} {ds : List (DataW H)} {p : List MemPlace} (h : DataW.trod enc Tryz.prog w 0 (fun _ => true) held n 106 cs = some (.agg ds, p)) (i : Nat) (hi : i < 6) (a b : Int) (c d : Bool)
    (hd : ds[i]? = some (.agg [.lit (.int .i64 a), .lit (.int .i64 b), .lit (.bool c), .lit (.bool d)])) : cs[i * 4]? = some (.int .i64 a) ∧ cs[i * 4 + 1]? = some (.int .i64 b) ∧ cs[i * 4 + 2]? = some (.bool c) ∧ cs[i * 4 + 3]? = some (.bool d) := by
  cases n with
  | zero => simp [DataW.trod] at h
  | succ n =>
    simp only [DataW.trod, u106, c106, c105] at h
    split at h
    · rename_i hl
      obtain ⟨xs, hm, hx⟩ := Option.map_eq_some_iff.1 h
      have hx1 : xs.map (·.1) = ds := by
        have := congrArg Prod.fst hx
        simpa using this
      obtain ⟨y, q, r⟩ := Lib.mapM_at hm i i (by simp [hi])
      obtain ⟨y, p⟩ := y
      have : ds[i]? = some y := by rw [← hx1, List.getElem?_map, q]; rfl
      rw [hd] at this
      obtain rfl := Option.some.inj this
      have t := open105 r
      have g : ∀ j, j < 4 → cs[i * 4 + j]? = ([.int .i64 a, .int .i64 b, .bool c, .bool d] : List Value)[j]? := fun j hj => by
        rw [← t, List.getElem?_take, if_pos hj, List.getElem?_drop]
      exact ⟨g 0 (by omega), g 1 (by omega), g 2 (by omega), g 3 (by omega)⟩
    · cases h
end
theorem laidN : (Rows.ledgerThreeRow.laid.filter fun x => x.2.handleName?.isNone) = [("sizar/requests.kinds", Rows.laid_sizar_requests_kinds)] := by kernel_rfl
theorem laidS : (Rows.ledgerThreeRow.laid.filter fun x => x.2.handleName?.isSome) = [("errors.errorType", Rows.laid_errors_errorType), ("sizar/rules.kinds", Rows.laid_sizar_rules_kinds)] := by kernel_rfl
/-- What the row's list gives. -/
theorem glob_of_laid {W : World} (h : laidMetH Tryz.prog Rows.ledgerThreeRow.laid W) : Glob W := by
  unfold laidMetH at h
  rw [laidS, laidN] at h
  obtain ⟨h1, h2⟩ := h
  obtain ⟨ps, ⟨g, t, cs, fuel, p, q, hg, ht, hv, hd, _, _⟩, _⟩ := h1
  obtain rfl := Option.some.inj (gKinds.symm.trans hg)
  obtain rfl := Option.some.inj (tKinds.symm.trans ht)
  have hc : ∀ j, W.cell? ⟨0, j, none⟩ = cs.toList[j]? := fun j => (World.var?_cell hg hv j).trans (by simp)
  refine ⟨fun n h1 h5 => ?_, ?_⟩
  · have : n = 1 ∨ n = 2 ∨ n = 3 ∨ n = 4 ∨ n = 5 := by omega
    have hd' := hd
    unfold Rows.laid_sizar_requests_kinds at hd'
    rw [hc, hc, hc, hc]
    rcases this with rfl | rfl | rfl | rfl | rfl
    · exact open106 hd' 1 (by decide) _ _ _ _ rfl
    · exact open106 hd' 2 (by decide) _ _ _ _ rfl
    · exact open106 hd' 3 (by decide) _ _ _ _ rfl
    · exact open106 hd' 4 (by decide) _ _ _ _ rfl
    · exact open106 hd' 5 (by decide) _ _ _ _ rfl
  · have h3 := h2 _ (List.mem_cons_self)
    have e0 : (Rows.laid_errors_errorType : DataW Unit).funcsIn? = none := by kernel_rfl
    dsimp only at h3
    rw [e0] at h3
    obtain ⟨name, u, ty, e1, e2, e3, e4, e5⟩ := h3
    have e1' : (Rows.laid_errors_errorType : DataW Unit).handleName? = some [101, 114, 114, 111, 114] := by kernel_rfl
    obtain rfl := Option.some.inj (e1'.symm.trans e1)
    obtain rfl := Option.some.inj (rtErr.symm.trans e2)
    have hm : ty ∈ (List.range 490).filter fun t => Tryz.prog.rowNamed t [101, 114, 114, 111, 114] := List.mem_filter.2 ⟨List.mem_range.2 (by rw [← tsize]; exact e3), e4⟩
    rw [oneRow] at hm
    obtain rfl := List.mem_singleton.1 hm
    rw [hErr] at e5
    simpa using World.var?_cell gErr e5 0
end Go.Proofs.Lw
