import Derived.Test.YtehddihmndpgaaaGreatDoorB17
set_option linter.unusedSimpArgs false
set_option linter.unusedVariables false
namespace Go.Proofs.Lw
open Go.RowKit Go.Sort Go.Proofs.YtehddihmndpgaaaGreatDoorW.PrintWords Go.Proofs.YtehddihmndpgaaaGreatDoor.PLib
set_option maxHeartbeats 40000000
set_option maxRecDepth 100000 in
theorem req_bad (r : S44) (ds : List Value) (w : World) (h : k44.K w r ds) (hb : hdrB r = false) : Calls Tryz.prog 54 #[.agg ds.toArray] w fun e w' => e = .returned (.int .i64 (reqR r)) ∧ Below w.heap.size w w' := by
  obtain ⟨A, c, rfl, hl, hC⟩ := k44_open h
  have HB : Hid (¬ (0 ≤ r.f0 ∧ r.f0 ≤ 6 ∧ 1 ≤ r.f1 ∧ r.f1 ≤ 1048576 ∧ 0 ≤ r.f2 ∧ r.f2 ≤ 19999 ∧ 1 ≤ r.f4 ∧ r.f4 ≤ 1048576 ∧ 1 ≤ r.f3 ∧ r.f3 ≤ 5)) := Lib.hid (by unfold hdrB inB at hb; simp only [Bool.and_eq_false_iff, decide_eq_false_iff_not] at hb; omega)
  have HR : Hid (reqR r = 290) := Lib.hid (by unfold reqR; rw [hb]; rfl)
  clear h hb hC
  go_enter Tryz.func54, Tryz.ntmps54
  go_upto_region 3 with (fail)
  all_goals first
    | (go_ret; exact ⟨ret_m HR.out.symm, (Below.refl _ _).alloc (Nat.le_refl _) _⟩)
    | (exfalso; have := HB.out; omega)
/-- Behind the region that looks the kind up. -/
structure RMid (w : World) (r : S44) (A : Option Addr) (c : Nat) (l m : Int) (g k : Bool) (bk : Nat) (W : World) : Prop where
  b : Below w.heap.size w W
  z3 : W.cell? ⟨w.heap.size, 3, none⟩ = some (.int .i64 r.f3)
  z5 : W.cell? ⟨w.heap.size, 5, none⟩ = some (.slice A r.f5.length c)
  z6 : W.cell? ⟨w.heap.size, 6, none⟩ = some (.int .i64 r.f6.f0)
  z7 : W.cell? ⟨w.heap.size, 7, none⟩ = some (.int .i64 r.f6.f1)
  z8 : W.cell? ⟨w.heap.size, 8, none⟩ = some (.int .i64 r.f7)
  m0 : W.cell? ⟨bk, 0, none⟩ = some (.int .i64 l)
  m1 : W.cell? ⟨bk, 1, none⟩ = some (.int .i64 m)
  m2 : W.cell? ⟨bk, 2, none⟩ = some (.bool g)
  m3 : W.cell? ⟨bk, 3, none⟩ = some (.bool k)
theorem RMid.next {w W W' : World} {r : S44} {A : Option Addr} {c : Nat} {l m : Int} {g k : Bool} {bk : Nat} (h : RMid w r A c l m g k bk W) (hb : Below W.heap.size W W') : RMid w r A c l m g k bk W' :=
  ⟨h.b.trans (hb.mono h.b.size), pw_cell_below hb h.z3, pw_cell_below hb h.z5, pw_cell_below hb h.z6, pw_cell_below hb h.z7, pw_cell_below hb h.z8, pw_cell_below hb h.m0, pw_cell_below hb h.m1, pw_cell_below hb h.m2, pw_cell_below hb h.m3⟩
set_option maxRecDepth 100000 in
theorem req_good (r : S44) (ds : List Value) (w : World) (h : k44.K w r ds) (hG : Glob w) (hb : hdrB r = true) : Calls Tryz.prog 54 #[.agg ds.toArray] w fun e w' => e = .returned (.int .i64 (reqR r)) ∧ Below w.heap.size w w' := by
  obtain ⟨A, c, rfl, hl, hC⟩ := k44_open h
  obtain ⟨p0, p1, p2, p3, p4, p5, p6, p7, p8, p9⟩ : 0 ≤ r.f0 ∧ r.f0 ≤ 6 ∧ 1 ≤ r.f1 ∧ r.f1 ≤ 1048576 ∧ 0 ≤ r.f2 ∧ r.f2 ≤ 19999 ∧ 1 ≤ r.f4 ∧ r.f4 ≤ 1048576 ∧ 1 ≤ r.f3 ∧ r.f3 ≤ 5 := by unfold hdrB inB at hb; simp only [Bool.and_eq_true, decide_eq_true_eq] at hb; omega
  obtain ⟨n, hn⟩ : ∃ n : Nat, r.f3 = n := ⟨r.f3.toNat, by omega⟩
  obtain ⟨g0, g1, g2, g3⟩ := hG.kinds n (by omega) (by omega)
  rw [← hn] at g0 g1 g2 g3
  have hlt : 0 < w.heap.size := World.block_lt_of_cell? w _ g0
  have hne : w.heap.size ≠ 0 := by omega
  have hN : r.f5.length ≤ 9223372036854775807 := hC.2.1
  have HR : Hid (reqR r = if ok3 r then 0 else 290) := Lib.hid (by unfold reqR; rw [hb]; rfl)
  have n6 : (n : Int) < 6 := by omega
  have n0 : (0 : Int) ≤ n := by omega
  obtain ⟨vl, hvl⟩ : ∃ v, kqL r.f3 = v := ⟨_, rfl⟩
  obtain ⟨vm, hvm⟩ : ∃ v, kqM r.f3 = v := ⟨_, rfl⟩
  obtain ⟨vg, hvg⟩ : ∃ v, kqG r.f3 = v := ⟨_, rfl⟩
  obtain ⟨vk, hvk⟩ : ∃ v, kqK r.f3 = v := ⟨_, rfl⟩
  rw [hvl] at g0
  rw [hvm] at g1
  rw [hvg] at g2
  rw [hvk] at g3
  have HV := Lib.hid (And.intro hvl (And.intro hvm (And.intro hvg hvk)))
  have HC := Lib.hid hC
  clear h hb hC hvl hvm hvg hvk
  go_enter Tryz.func54, Tryz.ntmps54
  go_upto_region 3 with (fail)
  go_cut [3, 4] (fun s3 s4 wc => ∃ bk : Nat, s3 = .pointer (some ⟨bk, 0, none⟩) ∧ s4 = .int .i64 r.f5.length ∧ RMid w r A c vl vm vg vk bk wc)
  case first =>
    go_region_held3 (fun w' => w'.cell? ⟨w.heap.size, 3, none⟩ = some (.int .i64 n) ∧ w'.cell? ⟨w.heap.size, 5, none⟩ = some (.slice A r.f5.length c) ∧ w'.cell? ⟨0, n * 4, none⟩ = some (.int .i64 vl) ∧ w'.cell? ⟨0, n * 4 + 1, none⟩ = some (.int .i64 vm) ∧ w'.cell? ⟨0, n * 4 + 2, none⟩ = some (.bool vg) ∧ w'.cell? ⟨0, n * 4 + 3, none⟩ = some (.bool vk))
      (go_keep) (fail)
    all_goals (go_wp2_with fail)
    all_goals go_meet
    all_goals exact ⟨_, rfl, rfl, ⟨((Below.refl _ _).alloc (Nat.le_refl _) _).drew.alloc (by simp) _, by simp [go_sem, hn], by simp [go_sem], by simp [go_sem], by simp [go_sem], by simp [go_sem], by simp [go_sem], by simp [go_sem], by simp [go_sem], by simp [go_sem]⟩⟩
  case rest =>
    obtain ⟨bk, rfl, rfl, hM⟩ := hcut
    obtain ⟨hb, z3, z5, z6, z7, z8, m0, m1, m2, m3⟩ := hM
    have HM : Hid (RMid w r A c vl vm vg vk bk wc) := Lib.hid ⟨hb, z3, z5, z6, z7, z8, m0, m1, m2, m3⟩
    clear hb g0 g1 g2 g3 hn
    go_upto_region 4 with (fail)
    go_cut [5] (fun s5 wx => s5 = .bool (inB r.f5.length vl vm) ∧ wx = wc)
    case first =>
      by_cases t1 : vl ≤ r.f5.length
      · by_cases t2 : (r.f5.length : Int) ≤ vm
        · go_wp2
          go_meet
          case rel => exact ⟨by simp [inB, t1, t2], rfl⟩
        · go_wp2
          go_meet
          case rel => exact ⟨by simp [inB, t1, t2], rfl⟩
      · go_wp2
        go_meet
        case rel =>
          have e : inB r.f5.length vl vm = false := by unfold inB; simp only [decide_eq_false_iff_not]; omega
          exact ⟨by rw [e], rfl⟩
    case rest =>
      obtain ⟨rfl, rfl⟩ := hcut
      obtain ⟨ok0, hok0⟩ : ∃ b, inB r.f5.length vl vm = b := ⟨_, rfl⟩
      rw [hok0]
      have HOK := Lib.hid hok0
      clear hok0
      go_wp2
      go_loopw [76, 5] (fun i o wr => ∃ (k : Nat) (ok : Bool), k ≤ r.f5.length ∧ i = .int .i64 k ∧ o = .bool ok ∧ (ok && goC (r.f5.take k) (r.f5.drop k)) = (ok0 && goC [] r.f5) ∧ Below wc.heap.size wc wr)
        (fun i _ _ => r.f5.length - (intOf i).toNat)
      case atStart => exact ⟨0, ok0, Nat.zero_le _, rfl, rfl, rfl, Below.refl _ _⟩
      case round =>
        obtain ⟨k, ok, hk, rfl, rfl, hd, hB⟩ := hrel
        have hMr := HM.out.next hB
        by_cases hlt : k < r.f5.length
        · have hbr := hMr.b
          obtain ⟨ad, rfl, e0, e1⟩ := at_T42 (Kd.C_below HC.out hbr) (k : Int) (by omega) (by omega)
          have hC2 : Kd.C k42 wr (some ad) (r.f5.take k).length (r.f5.take k) := Kd.C_take (Kd.C_below HC.out hbr) (by omega)
          have q5 := hMr.z5
          have hrd : rd_T42 r.f5 (k : Int) = r.f5[k] := by simp [rd_T42, hlt]
          rw [hrd] at e0 e1
          have ekt : (k : Int).toNat = k := by simp
          rw [ekt] at e0 e1
          obtain ⟨b, hbk⟩ : ∃ b, r.f5[k] = b := ⟨_, rfl⟩
          rw [hbk] at e0 e1
          rw [List.drop_eq_getElem_cons hlt, hbk] at hd
          have hsnoc : r.f5.take (k + 1) = r.f5.take k ++ [b] := by rw [List.take_add_one, List.getElem?_eq_getElem hlt, hbk]; rfl
          have hlen : (r.f5.take k).length = k := by simp; omega
          have HD := Lib.hid hd
          have HS := Lib.hid hsnoc
          have HK := Lib.hid hbk
          have HL := Lib.hid hlen
          have HMr := Lib.hid hMr
          have HBr := Lib.hid hB
          clear hd hsnoc hbk hlen hMr hB hbr hrd ekt
          obtain ⟨W, hW⟩ : ∃ W, wr.alloc (Obj.cells #[.int .i64 b.f0, .int .i64 b.f1] 42) = W := ⟨_, rfl⟩
          have hBW : Below wr.heap.size wr W := by rw [← hW]; exact (Below.refl _ _).alloc (Nat.le_refl _) _
          have d5 := cell_regrown (pw_cell_below hBW q5)
          have d0 := cell_regrown (show W.cell? ⟨wr.heap.size, 0, none⟩ = some (.int .i64 b.f0) by rw [← hW]; simp [go_sem])
          have d1 := cell_regrown (show W.cell? ⟨wr.heap.size, 1, none⟩ = some (.int .i64 b.f1) by rw [← hW]; simp [go_sem])
          have HBW := Lib.hid hBW
          have cF := fun d os => Calls.regrown_of (formed_any b.f0 b.f1 (grow (redrawn W d) os))
          have cC := fun d os => Calls.regrown_of (contains_any (some ad) c (r.f5.take k) b.f0 b.f1 (grow (redrawn W d) os) (Kd.C_below (Kd.C_below hC2 hBW) (below_regrown W d os)) (by rw [HL.out]; omega))
          simp only [HL.out] at cC
          have hkc : (k : Int) ≤ c := by omega
          clear hBW hC2
          cases ok
          · clear cF cC
            go_wp2_with fail
            try rw [hW]
            refine wp_region_quiet_below (by kernel_rfl) (by kernel_rfl) ?_
            repeat (first | go_big_quiet_step ((fail)) | quiet_step ((fail)))
            refine wpQuiet_nil ?_
            intro _ hw'
            obtain ⟨⟨dq, osq⟩, hw''⟩ := hw'
            subst hw''
            dsimp only
            have hB2 : Below W.heap.size W (grow (redrawn W dq) osq) := below_regrown W dq osq
            generalize grow (redrawn W dq) osq = W2 at *
            clear d5 d0 d1
            go_wp2_with fail
            go_roundw
            case rel => exact ⟨k + 1, false, by omega, by go_num, rfl, by simpa using HD.out, HBr.out.trans ((HBW.out.trans (hB2.mono HBW.out.size)).mono HBr.out.size)⟩
            case measure => simp [intOf]; omega
          · obtain ⟨fb, hfb⟩ : ∃ fb, formB b.f0 b.f1 = fb := ⟨_, rfl⟩
            simp only [hfb] at cF
            have HF := Lib.hid hfb
            clear hfb
            cases fb
            · clear cC
              go_wp2_with fail
              try rw [hW]
              refine wp_region_quiet_below (by kernel_rfl) (by kernel_rfl) ?_
              repeat (first | go_big_quiet_step ((go_at_call 71; exact cF _ _)) | quiet_step ((go_at_call 71; exact cF _ _)))
              refine wpQuiet_nil ?_
              intro _ hw'
              obtain ⟨⟨dq, osq⟩, hw''⟩ := hw'
              subst hw''
              dsimp only
              have hB2 : Below W.heap.size W (grow (redrawn W dq) osq) := below_regrown W dq osq
              generalize grow (redrawn W dq) osq = W2 at *
              clear d5 d0 d1
              go_wp2_with fail
              go_roundw
              case rel => exact ⟨k + 1, false, by omega, by go_num, rfl, by have h1 := HD.out; simp only [goC, HF.out, Bool.false_and, Bool.and_false] at h1; rw [Bool.false_and]; exact h1, HBr.out.trans ((HBW.out.trans (hB2.mono HBW.out.size)).mono HBr.out.size)⟩
              case measure => simp [intOf]; omega
            · obtain ⟨hh, hhb⟩ : ∃ hh, hasB (r.f5.take k) b.f0 b.f1 = hh := ⟨_, rfl⟩
              simp only [hhb] at cC
              have HH := Lib.hid hhb
              clear hhb
              cases hh
              · skip
                go_wp2_with fail
                try rw [hW]
                refine wp_region_quiet_below (by kernel_rfl) (by kernel_rfl) ?_
                repeat (first | go_big_quiet_step ((first | (go_at_call 71; exact cF _ _) | (go_at_call 72; exact cC _ _))) | quiet_step ((first | (go_at_call 71; exact cF _ _) | (go_at_call 72; exact cC _ _))))
                refine wpQuiet_nil ?_
                intro _ hw'
                obtain ⟨⟨dq, osq⟩, hw''⟩ := hw'
                subst hw''
                dsimp only
                have hB2 : Below W.heap.size W (grow (redrawn W dq) osq) := below_regrown W dq osq
                generalize grow (redrawn W dq) osq = W2 at *
                clear d5 d0 d1
                go_wp2_with fail
                go_roundw
                case rel => exact ⟨k + 1, true, by omega, by go_num, rfl, by have h1 := HD.out; simp only [goC, HF.out, HH.out, Bool.true_and, Bool.not_false] at h1; rw [HS.out, Bool.true_and]; exact h1, HBr.out.trans ((HBW.out.trans (hB2.mono HBW.out.size)).mono HBr.out.size)⟩
                case measure => simp [intOf]; omega
              · skip
                go_wp2_with fail
                try rw [hW]
                refine wp_region_quiet_below (by kernel_rfl) (by kernel_rfl) ?_
                repeat (first | go_big_quiet_step ((first | (go_at_call 71; exact cF _ _) | (go_at_call 72; exact cC _ _))) | quiet_step ((first | (go_at_call 71; exact cF _ _) | (go_at_call 72; exact cC _ _))))
                refine wpQuiet_nil ?_
                intro _ hw'
                obtain ⟨⟨dq, osq⟩, hw''⟩ := hw'
                subst hw''
                dsimp only
                have hB2 : Below W.heap.size W (grow (redrawn W dq) osq) := below_regrown W dq osq
                generalize grow (redrawn W dq) osq = W2 at *
                clear d5 d0 d1
                go_wp2_with fail
                go_roundw
                case rel => exact ⟨k + 1, false, by omega, by go_num, rfl, by have h1 := HD.out; simp only [goC, HF.out, HH.out, Bool.true_and, Bool.not_true, Bool.false_and] at h1; rw [Bool.false_and]; exact h1, HBr.out.trans ((HBW.out.trans (hB2.mono HBW.out.size)).mono HBr.out.size)⟩
                case measure => simp [intOf]; omega
        · obtain rfl : k = r.f5.length := by omega
          have HO : Hid (ok1 r = ok) := Lib.hid (by have h1 := hd; rw [List.drop_length, goC, Bool.and_true] at h1; unfold ok1; rw [HV.out.1, HV.out.2.1, HOK.out]; exact h1.symm)
          have HMr2 := Lib.hid hMr
          obtain ⟨hb', z3, z5, z6, z7, z8, m0, m1, m2, m3⟩ := hMr
          have HBB := Lib.hid hB
          have HbW := Lib.hid hb'
          clear hd hB hb'
          have hu42 := Tryz.underlying42
          go_upto_if 97 with (fail)
          go_cut [5] (fun s5 wx => s5 = .bool (ok2 r) ∧ Below wr.heap.size wr wx)
          case first =>
            cases vg
            · have E : Hid (ok2 r = (ok && (r.f6.f0 == 0 && r.f6.f1 == 0))) := Lib.hid (by unfold ok2; rw [HV.out.2.2.1, HO.out]; rfl)
              cases ok
              · go_wp2
                go_meet
                case rel => exact ⟨by rw [E.out]; rfl, Below.refl _ _⟩
              · obtain ⟨x0, hx0⟩ : ∃ b, (r.f6.f0 == 0) = b := ⟨_, rfl⟩
                obtain ⟨x1, hx1⟩ : ∃ b, (r.f6.f1 == 0) = b := ⟨_, rfl⟩
                rw [hx0, hx1] at E
                cases x0 <;> cases x1
                all_goals (go_wp2; go_meet; case rel => exact ⟨by rw [E.out]; rfl, Below.refl _ _⟩)
            · have E : Hid (ok2 r = (ok && (formB r.f6.f0 r.f6.f1 && (decide (r.f5.length = 0) || !(head0 r.f5 == r.f6.f0))))) := Lib.hid (by unfold ok2; rw [HV.out.2.2.1, HO.out]; rfl)
              have d5 := cell_regrown z5
              have d6 := cell_regrown z6
              have d7 := cell_regrown z7
              have cF := fun d os => Calls.regrown_of (formed_any r.f6.f0 r.f6.f1 (grow (redrawn wr d) os))
              obtain ⟨fb, hfb⟩ : ∃ fb, formB r.f6.f0 r.f6.f1 = fb := ⟨_, rfl⟩
              rw [hfb] at E
              simp only [hfb] at cF
              clear hfb
              cases ok
              · clear cF
                go_upto_region 11 with (fail)
                refine wp_region_quiet_below (by kernel_rfl) (by kernel_rfl) ?_
                repeat (first | go_big_quiet_step ((fail)) | quiet_step ((fail)))
                refine wpQuiet_nil ?_
                intro _ hw'
                obtain ⟨⟨dq, osq⟩, hw''⟩ := hw'
                subst hw''
                dsimp only
                have hB2 : Below wr.heap.size wr (grow (redrawn wr dq) osq) := below_regrown wr dq osq
                generalize grow (redrawn wr dq) osq = W2 at *
                go_wp2_with fail
                go_meet
                case rel => exact ⟨by rw [E.out]; rfl, hB2⟩
              · cases fb
                · skip
                  go_upto_region 11 with (fail)
                  refine wp_region_quiet_below (by kernel_rfl) (by kernel_rfl) ?_
                  repeat (first | go_big_quiet_step ((go_at_call 71; exact cF _ _)) | quiet_step ((go_at_call 71; exact cF _ _)))
                  refine wpQuiet_nil ?_
                  intro _ hw'
                  obtain ⟨⟨dq, osq⟩, hw''⟩ := hw'
                  subst hw''
                  dsimp only
                  have hB2 : Below wr.heap.size wr (grow (redrawn wr dq) osq) := below_regrown wr dq osq
                  generalize grow (redrawn wr dq) osq = W2 at *
                  go_wp2_with fail
                  go_meet
                  case rel => exact ⟨by rw [E.out]; rfl, hB2⟩
                · by_cases hl0 : r.f5.length = 0
                  · have tl : decide (r.f5.length = 0) = true := by simpa using hl0
                    have tl' : ((r.f5.length : Int) == 0) = true := by simp [hl0]
                    rw [tl] at E
                    clear hl0
                    go_upto_region 11 with (fail)
                    refine wp_region_quiet_below (by kernel_rfl) (by kernel_rfl) ?_
                    repeat (first | go_big_quiet_step ((go_at_call 71; exact cF _ _)) | quiet_step ((go_at_call 71; exact cF _ _)))
                    refine wpQuiet_nil ?_
                    intro _ hw'
                    obtain ⟨⟨dq, osq⟩, hw''⟩ := hw'
                    subst hw''
                    dsimp only
                    have hB2 : Below wr.heap.size wr (grow (redrawn wr dq) osq) := below_regrown wr dq osq
                    generalize grow (redrawn wr dq) osq = W2 at *
                    go_wp2_with fail
                    go_meet
                    case rel => exact ⟨by rw [E.out]; rfl, hB2⟩
                  · have tl : decide (r.f5.length = 0) = false := by simpa using hl0
                    have tl' : ((r.f5.length : Int) == 0) = false := by simp [hl0]
                    rw [tl] at E
                    obtain ⟨b, rest, hbr⟩ : ∃ b rest, r.f5 = b :: rest := by cases hq : r.f5 with | nil => exact absurd (by rw [hq]; rfl) hl0 | cons b rest => exact ⟨b, rest, rfl⟩
                    obtain ⟨ad, rfl, e0, e1⟩ := at_T42 (Kd.C_below HC.out HbW.out) 0 (by omega) (by omega)
                    have hrd : rd_T42 r.f5 0 = b := by rw [hbr]; rfl
                    rw [hrd] at e0
                    have e0' : wr.cell? ad = some (.int .i64 b.f0) := by simpa [Addr.add] using e0
                    have d0 := cell_regrown e0'
                    have hp0 : (0 : Int) < r.f5.length := by omega
                    have hh0 : head0 r.f5 = b.f0 := by rw [hbr]; rfl
                    rw [hh0] at E
                    clear e0 e1 e0' hrd hh0 hbr
                    obtain ⟨xb, hxb⟩ : ∃ xb, (b.f0 == r.f6.f0) = xb := ⟨_, rfl⟩
                    rw [hxb] at E
                    have hxb' : (b.f0 != r.f6.f0) = !xb := by rw [← hxb]; rfl
                    cases xb
                    · skip
                      go_upto_region 11 with (fail)
                      refine wp_region_quiet_below (by kernel_rfl) (by kernel_rfl) ?_
                      repeat (first | go_big_quiet_step ((go_at_call 71; exact cF _ _)) | quiet_step ((go_at_call 71; exact cF _ _)))
                      refine wpQuiet_nil ?_
                      intro _ hw'
                      obtain ⟨⟨dq, osq⟩, hw''⟩ := hw'
                      subst hw''
                      dsimp only
                      have hB2 : Below wr.heap.size wr (grow (redrawn wr dq) osq) := below_regrown wr dq osq
                      generalize grow (redrawn wr dq) osq = W2 at *
                      go_wp2_with fail
                      go_meet
                      case rel => exact ⟨by rw [E.out]; rfl, hB2⟩
                    · skip
                      go_upto_region 11 with (fail)
                      refine wp_region_quiet_below (by kernel_rfl) (by kernel_rfl) ?_
                      repeat (first | go_big_quiet_step ((go_at_call 71; exact cF _ _)) | quiet_step ((go_at_call 71; exact cF _ _)))
                      refine wpQuiet_nil ?_
                      intro _ hw'
                      obtain ⟨⟨dq, osq⟩, hw''⟩ := hw'
                      subst hw''
                      dsimp only
                      have hB2 : Below wr.heap.size wr (grow (redrawn wr dq) osq) := below_regrown wr dq osq
                      generalize grow (redrawn wr dq) osq = W2 at *
                      go_wp2_with fail
                      go_meet
                      case rel => exact ⟨by rw [E.out]; rfl, hB2⟩
          case rest =>
            obtain ⟨rfl, hB2⟩ := hcut
            obtain ⟨hb3, z3, z5, z6, z7, z8, m0, m1, m2, m3⟩ := HMr2.out.next hB2
            have HB3 := Lib.hid hb3
            obtain ⟨ok, hok⟩ : ∃ b, ok2 r = b := ⟨_, rfl⟩
            rw [hok]
            have HO2 := Lib.hid hok
            clear hok hb3 hB2
            go_upto_if 127 with (fail)
            go_cut [5] (fun s5 wx => s5 = .bool (ok3 r) ∧ wx = wc)
            case first =>
              cases vk
              · have E : Hid (ok3 r = (ok && r.f7 == 0)) := Lib.hid (by unfold ok3; rw [HV.out.2.2.2, HO2.out]; rfl)
                cases ok
                · go_wp2
                  all_goals (go_meet; case rel => exact ⟨by rw [E.out]; rfl, rfl⟩)
                · go_wp2
                  all_goals (go_meet; case rel => exact ⟨by rw [E.out]; simp_all, rfl⟩)
              · have E : Hid (ok3 r = (ok && inB r.f7 0 1048576)) := Lib.hid (by unfold ok3; rw [HV.out.2.2.2, HO2.out]; rfl)
                cases ok
                · go_wp2
                  all_goals (go_meet; case rel => exact ⟨by rw [E.out]; rfl, rfl⟩)
                · by_cases y1 : 0 ≤ r.f7
                  · by_cases y2 : r.f7 ≤ 1048576
                    · go_wp2
                      all_goals (go_meet; case rel => exact ⟨by rw [E.out]; simp [inB, y1, y2], rfl⟩)
                    · go_wp2
                      all_goals (go_meet; case rel => exact ⟨by rw [E.out]; simp [inB, y1, y2], rfl⟩)
                  · have e : inB r.f7 0 1048576 = false := by unfold inB; simp only [decide_eq_false_iff_not]; omega
                    go_wp2
                    all_goals (go_meet; case rel => exact ⟨by rw [E.out, e]; rfl, rfl⟩)
            case rest =>
              obtain ⟨rfl, rfl⟩ := hcut
              obtain ⟨o3, ho3⟩ : ∃ b, ok3 r = b := ⟨_, rfl⟩
              rw [ho3]
              have HO3 := Lib.hid ho3
              clear ho3
              cases o3
              · go_wp2
                go_ret
                exact ⟨ret_m (by rw [HR.out, HO3.out]; rfl), HB3.out⟩
              · go_wp2
                go_ret
                exact ⟨ret_m (by rw [HR.out, HO3.out]; rfl), HB3.out⟩
end Go.Proofs.Lw
