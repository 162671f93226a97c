import Derived.BigFrameIn
import Derived.BigQuiet
import Derived.Lib.Hide
import Derived.LoopIn
import Derived.LoopNIn
import Derived.OwnWalkIn
import Derived.TacticsInMore
import Derived.Test.YtehddihmndpgaaaGreatDoorB04
import Derived.Test.YtehddihmndpgaaaGreatDoorB14
set_option linter.unusedSimpArgs false
namespace Go.Proofs.Lw
open Go.RowKit Go.Sort Go.Proofs.YtehddihmndpgaaaGreatDoorW.PrintWords Go.Proofs.YtehddihmndpgaaaGreatDoor.PLib
open Ldg (St cmpS mrg)
attribute [local go_sem] Oper.semAt_some
/-- An entry and its cells. -/
abbrev EC := S48 × List Value
def stc (x : EC) : St := st x.1
structure Row (w : World) (A : Option Addr) (l : List EC) : Prop where
  len : l.length ≤ 9223372036854775807
  at_ : ∀ i (h : i < l.length), ∃ ad, A = some ad ∧ k48.K w l[i].1 l[i].2 ∧ ∀ j u, l[i].2[j]? = some u → w.cell? ((ad.add (i * 31)).add j) = some u
theorem row_of {w : World} {A : Option Addr} {l : List S48} (h : Kd.C k48 w A l.length l) : ∃ lc : List EC, lc.map (·.1) = l ∧ Row w A lc := by
  have H : ∀ i : Fin l.length, ∃ cs, ∃ ad, A = some ad ∧ k48.K w l[i] cs ∧ ∀ j u, cs[j]? = some u → w.cell? ((ad.add (i * 31)).add j) = some u := fun i => by
    obtain ⟨ad, cs, h1, h2, h3⟩ := ent_at h i i.isLt
    exact ⟨cs, ad, h1, h2, h3⟩
  refine ⟨List.ofFn fun i : Fin l.length => (l[i], (H i).choose), ?_, ?_, ?_⟩
  · apply List.ext_getElem
    · simp
    · intro i h1 h2; simp
  · simpa using h.2.1
  · intro i hi
    have hi' : i < l.length := by simpa using hi
    simpa using (H ⟨i, hi'⟩).choose_spec
theorem Row.tail {w : World} {ad : Addr} {x : EC} {l : List EC} (h : Row w (some ad) (x :: l)) : Row w (some (ad.add 31)) l :=
  ⟨by have := h.len; simp at this; omega, fun i hi => by
    obtain ⟨ad', e, hk, hc⟩ := h.at_ (i + 1) (by simpa using hi)
    cases e
    refine ⟨_, rfl, hk, fun j u hu => ?_⟩
    have := hc j u hu
    rw [addr_add_add] at this ⊢
    rw [addr_add_add]
    rw [show 31 + (i * 31 + j) = (i + 1) * 31 + j by omega]
    exact this⟩
theorem Row.head {w : World} {A : Option Addr} {x : EC} {l : List EC} (h : Row w A (x :: l)) : ∃ ad, A = some ad ∧ k48.K w x.1 x.2 ∧ ∀ j u, x.2[j]? = some u → w.cell? (ad.add j) = some u := by
  obtain ⟨ad, e, hk, hc⟩ := h.at_ 0 (by simp)
  exact ⟨ad, e, hk, fun j u hu => by have := hc j u hu; rw [addr_add_add] at this; simpa using this⟩
theorem heads {w : World} {A : Option Addr} {l : List EC} (h : Row w A l) (hn : l.length ≠ 0) : ∃ (x : S48) (cs : List Value) (r : List EC) (ad : Addr), l = (x, cs) :: r ∧ A = some ad ∧ k48.K w x cs ∧
    w.cell? ad = some (.int .i64 x.f0.f0) ∧ w.cell? ⟨ad.block, ad.off + 1, none⟩ = some (.int .i64 x.f0.f1) ∧ w.cell? ⟨ad.block, ad.off + 2, none⟩ = some (.int .i64 x.f0.f2) := by
  cases l with
  | nil => exact absurd rfl hn
  | cons p r =>
    obtain ⟨x, cs⟩ := p
    obtain ⟨ad, e, hk, hc⟩ := h.head
    have hh := k48_head hk
    exact ⟨x, cs, r, ad, rfl, e, hk, by simpa [Addr.add] using hc 0 _ hh.h0, by simpa [Addr.add] using hc 1 _ hh.h1, by simpa [Addr.add] using hc 2 _ hh.h2⟩
theorem Row.nil {w : World} {A : Option Addr} : Row w A [] := ⟨by simp, fun i hi => absurd hi (by simp)⟩
/-- Blocks other than two lie as they lay. -/
structure Still2 (bA bB : Nat) (W1 W2 : World) : Prop where
  size : W1.heap.size ≤ W2.heap.size
  same : ∀ k, k < W1.heap.size → k ≠ bA → k ≠ bB → W2.heap[k]? = W1.heap[k]?
theorem alloc_old (w : World) (o : Obj) {k : Nat} (h : k < w.heap.size) : (w.alloc o).heap[k]? = w.heap[k]? := by
  simp only [World.alloc]; rw [Array.getElem?_push, if_neg (by omega)]
theorem set_other (w : World) (b : Nat) (o : Nat) (v : Value) {k : Nat} (h : k ≠ b) : (w.setCell ⟨b, o, none⟩ v).heap[k]? = w.heap[k]? := by
  simp only [World.setCell, Array.getElem?_modify]; rw [if_neg (fun e => h e.symm)]
theorem box_set (w : World) (b : Nat) (u v : Value) (t : TypeId) (h : w.heap[b]? = some (.cells #[u] t (0, 0))) : (w.setCell ⟨b, 0, none⟩ v).heap[b]? = some (.cells #[v] t (0, 0)) := by
  simp [World.setCell, Array.getElem?_modify, h]
theorem still_of {bA bB b : Nat} {wr W2 : World} (h : Below wr.heap.size wr W2) (o : Obj) (hb : b = bA ∨ b = bB) (v : Value) : Still2 bA bB wr ((W2.setCell ⟨b, 0, none⟩ v).alloc o) := by
  refine ⟨?_, fun k hk h1 h2 => ?_⟩
  · have := h.size; simp; omega
  · have := h.size
    rw [alloc_old _ _ (by simp; omega), set_other _ _ _ _ (by rintro rfl; rcases hb with rfl | rfl <;> contradiction)]
    exact h.block k hk
theorem new_row (w : World) (cs : List Value) (t : TypeId) (b : Nat) (v : Value) : ∀ j u, cs[j]? = some u → ((w.setCell ⟨b, 0, none⟩ v).alloc (Obj.cells cs.toArray t)).cell? ((⟨w.heap.size, 0, none⟩ : Addr).add j) = some u := by
  intro j u hu
  have h1 : ((w.setCell ⟨b, 0, none⟩ v).alloc (Obj.cells cs.toArray t)).heap[w.heap.size]? = some (.cells cs.toArray t (0, 0)) := by
    have := heap_alloc_new (w.setCell ⟨b, 0, none⟩ v) (Obj.cells cs.toArray t)
    simpa using this
  have h2 := cell_of_row _ w.heap.size j _ t (0, 0) h1
  have h3 : (⟨w.heap.size, 0, none⟩ : Addr).add j = ⟨w.heap.size, j, none⟩ := by unfold Addr.add; by_cases h : j = 0 <;> simp [h]
  rw [h3, h2]
  simpa using hu
def lenAt (w : World) (b : Nat) : Nat := match w.heap[b]? with | some (Obj.cells cs _ _) => (match cs[0]? with | some (Value.slice _ n _) => n | _ => 0) | _ => 0
set_option maxHeartbeats 8000000
set_option maxRecDepth 100000 in
theorem iter_any (n : Nat) (w0 : World) (la lb : List EC) (bA bB l : Nat) (hA : w0.heap.size ≤ bA) (hB : w0.heap.size ≤ bB) (hne : bA ≠ bB) (J : List EC → World → Prop) (Jp : List PanicEntry → World → Prop)
    (hJ : ∀ pre W1 W2, J pre W1 → Still2 bA bB W1 W2 → Below w0.heap.size w0 W2 → J pre W2)
    (hY : ∀ pre x post W1, J pre W1 → mrg stc la lb = pre ++ x :: post → k48.K w0 x.1 x.2 → Below w0.heap.size w0 W1 → bA < W1.heap.size → bB < W1.heap.size → (∃ u, W1.heap[bA]? = some (.cells u 22 (0, 0))) → (∃ u, W1.heap[bB]? = some (.cells u 22 (0, 0))) →
      YieldAt Fence.wide (n - 1) Tryz.prog l #[.agg x.2.toArray] W1 fun e W' =>
        (e = .returned (.bool true) ∧ J (pre ++ [x]) W' ∧ W'.heap[bA]? = W1.heap[bA]? ∧ W'.heap[bB]? = W1.heap[bB]? ∧ Below w0.heap.size w0 W') ∨ (∃ ch, e = .panicked ch ∧ Jp ch W'))
    (W : World) (hW : Below w0.heap.size w0 W) (A B : Option Addr) (ca cb : Nat)
    (h1 : W.heap[bA]? = some (.cells #[.slice A la.length ca] 22 (0, 0))) (h2 : W.heap[bB]? = some (.cells #[.slice B lb.length cb] 22 (0, 0)))
    (hra : Row w0 A la) (hca : la.length ≤ ca) (hrb : Row w0 B lb) (hcb : lb.length ≤ cb) (h0 : J [] W) :
    CallsIn Fence.wide n Tryz.prog 63 #[.func (.yield l) #[] #[], .pointer (some ⟨bA, 0, none⟩), .pointer (some ⟨bB, 0, none⟩)] W fun e W' =>
      (∃ v, e = .returned v ∧ J (mrg stc la lb) W') ∨ (∃ ch, e = .panicked ch ∧ Jp ch W') := by
  refine callsIn_of_wp Tryz.func63 rfl trivial ?_ rfl
  simp only [Tryz.ntmps63, List.size_toArray, List.length_cons, List.length_nil, Nat.reduceAdd, Nat.reduceSub, Array.replicate_succ, Array.replicate_zero, List.push_toArray, List.append_toArray, List.nil_append, List.cons_append]
  gi_wp2
  gi_loopw [] (fun wr => ∃ (ra rb pre : List EC) (A' B' : Option Addr) (ca cb : Nat), pre ++ mrg stc ra rb = mrg stc la lb ∧ wr.heap[bA]? = some (.cells #[.slice A' ra.length ca] 22 (0, 0)) ∧ wr.heap[bB]? = some (.cells #[.slice B' rb.length cb] 22 (0, 0)) ∧
      Row w0 A' ra ∧ ra.length ≤ ca ∧ Row w0 B' rb ∧ rb.length ≤ cb ∧ J pre wr ∧ Below w0.heap.size w0 wr)
    (fun wr => lenAt wr bA + lenAt wr bB)
  case atStart => exact ⟨la, lb, [], A, B, ca, cb, rfl, h1, h2, hra, hca, hrb, hcb, h0, hW⟩
  case round =>
    obtain ⟨ra, rb, pre, A', B', ca', cb', hm, g1, g2, hra', hca', hrb', hcb', hJs, hBw⟩ := hrel
    clear h1 h2 hra hca hrb hcb h0 hW
    have c1 : wr.cell? ⟨bA, 0, none⟩ = some (.slice A' ra.length ca') := cell_of_row wr bA 0 _ 22 (0, 0) g1
    have c2 : wr.cell? ⟨bB, 0, none⟩ = some (.slice B' rb.length cb') := cell_of_row wr bB 0 _ 22 (0, 0) g2
    have hla := hra'.len
    have hlb := hrb'.len
    obtain ⟨na, hna⟩ : ∃ na, ra.length = na := ⟨_, rfl⟩
    obtain ⟨nb, hnb⟩ : ∃ nb, rb.length = nb := ⟨_, rfl⟩
    rw [hna] at c1 hla hca' g1
    rw [hnb] at c2 hlb hcb' g2
    by_cases ea : na = 0
    · have ta : decide ((0 : Int) < na) = false := by simp [ea]
      by_cases eb : nb = 0
      · have tb : decide ((0 : Int) < nb) = false := by simp [eb]
        gi_wp2
        go_end0
        obtain rfl := List.length_eq_zero_iff.1 (hna.trans ea)
        obtain rfl := List.length_eq_zero_iff.1 (hnb.trans eb)
        refine .inl ⟨_, rfl, ?_⟩
        rw [← hm]
        simpa [mrg] using hJs
      · have tb : decide ((0 : Int) < nb) = true := by simp; omega
        have tb' : decide (0 < nb) = true := by simp; omega
        have te : decide ((na : Int) = 0) = true := by simp [ea]
        have te' : decide (na = 0) = true := by simp [ea]
        obtain ⟨⟨x, cs⟩, r, rfl⟩ : ∃ y r, rb = y :: r := by cases rb with | nil => exact absurd hnb.symm eb | cons y r => exact ⟨y, r, rfl⟩
        obtain ⟨ad, rfl, hK, hcell⟩ := hrb'.head
        dsimp only at hK hcell
        have hcl := k48_len hK
        have hsz : (Tryz.prog.info? 48).map (·.size) = some cs.length := by rw [hcl]; exact info48
        have hone := k48_one hK
        have hmr : mrg stc ra ((x, cs) :: r) = (x, cs) :: mrg stc ra r := by
          obtain rfl := List.length_eq_zero_iff.1 (hna.trans ea)
          simp [mrg]
        have d1 := cell_regrown c1
        have d2 := cell_regrown c2
        gi_wp2
        refine wpIn_wide_quiet_below (by kernel_rfl) (by kernel_rfl) (fun a w h => by rcases h with ⟨v, hv, _⟩ | ⟨ch, hv, _⟩ <;> cases hv) (by kernel_rfl) ?_
        repeat (first | go_big_quiet_step (fail) | quiet_step (fail))
        refine wpQuiet_nil ?_
        intro _ hw'
        obtain ⟨⟨dq, osq⟩, hw''⟩ := hw'
        subst hw''
        dsimp only
        have hB2 : Below wr.heap.size wr (grow (redrawn wr dq) osq) := below_regrown wr dq osq
        generalize grow (redrawn wr dq) osq = W2 at *
        have q1 : W2.heap[bB]? = _ := (hB2.block bB (Array.getElem?_eq_some_iff.1 g2).1).trans g2
        have q2 : W2.heap[bA]? = _ := (hB2.block bA (Array.getElem?_eq_some_iff.1 g1).1).trans g1
        have c1 : W2.cell? ⟨bB, 0, none⟩ = some (.slice (some ad) nb cb') := cell_of_row W2 bB 0 _ 22 (0, 0) q1
        have f1 : W2.frozen? ⟨bB, 0, none⟩ = false := by simp [World.frozen?, q1]
        have hBw2 : Below w0.heap.size w0 W2 := hBw.trans (hB2.mono hBw.size)
        have hcw : ∀ j u, cs[j]? = some u → W2.cell? (ad.add j) = some u := fun j u hu => pw_cell_below hBw2 (hcell j u hu)
        have lt1 : bB < W2.heap.size := (Array.getElem?_eq_some_iff.1 q1).1
        have lt2 : bA < W2.heap.size := (Array.getElem?_eq_some_iff.1 q2).1
        clear d1 d2
        have hrow : Row w0 (some (ad.add 31)) r := hrb'.tail
        have hrl : r.length + 1 = nb := by simpa using hnb
        by_cases hc1 : cb' = 1
        · obtain ⟨W3, hW3⟩ : ∃ W3, (W2.setCell ⟨bB, 0, none⟩ (.slice (some ad) (nb - 1) 0)).alloc (Obj.cells cs.toArray 48) = W3 := ⟨_, rfl⟩
          have hr0 : r = [] := List.length_eq_zero_iff.1 (by omega)
          have hrow' : Row w0 (some ad) r := by rw [hr0]; exact Row.nil
          have hrow2 : Row w0 (some ad) r := hrow'
          have n1 : W3.heap[bB]? = some (.cells #[.slice (some ad) (nb - 1) 0] 22 (0, 0)) := by
            rw [← hW3]; exact (alloc_old (W2.setCell ⟨bB, 0, none⟩ _) _ (by simpa using lt1)).trans (box_set W2 bB _ _ 22 q1)
          have n2 : W3.heap[bA]? = some (.cells #[.slice A' na ca'] 22 (0, 0)) := by
            rw [← hW3]; exact (alloc_old (W2.setCell ⟨bB, 0, none⟩ _) _ (by simpa using lt2)).trans ((set_other _ _ _ _ hne).trans q2)
          have n2' := n2
          rw [← hna] at n2'
          have n1' := n1
          rw [← hrl, Nat.add_sub_cancel] at n1'
          have nr : ∀ j u, cs[j]? = some u → W3.cell? ((⟨W2.heap.size, 0, none⟩ : Addr).add j) = some u := by rw [← hW3]; exact new_row W2 cs 48 bB _
          have st2 : Still2 bA bB wr W3 := by rw [← hW3]; exact still_of hB2 _ (.inr rfl) _
          have b3 : Below w0.heap.size w0 W3 := by rw [← hW3]; exact (hBw2.setCell (p := ⟨bB, 0, none⟩) hB _).alloc (by simpa using hBw2.size) _
          have z3 : W2.heap.size < W3.heap.size := by rw [← hW3]; simp
          obtain ⟨fn, tmps, assign, body, hy, hR⟩ := hY pre (x, cs) _ W3 (hJ _ _ _ hJs st2 b3) (hm.symm.trans (congrArg (pre ++ ·) hmr)) hK b3 (by omega) (by omega) ⟨_, n2⟩ ⟨_, n1⟩
          gi_wp2_with (first
            | (refine wpListIn_load_at free_wide rfl 48 _ rfl ⟨W2.heap.size, 0, none⟩ rfl cs _ nr Tryz.underlying48 rfl hsz ?_)
            | (refine wpListIn_load_at free_wide rfl 48 _ rfl ad rfl cs _ hcw Tryz.underlying48 rfl hsz ?_)
            | (refine wpListIn_store_new free_wide rfl 48 _ _ rfl cs.toArray _ _ rfl rfl (by simpa using hsz) (by simp [hcl]) hone ?_))
          refine ⟨fun h => by simp [Fence.wide] at h, hR.mono ?_⟩
          rintro e W4 (⟨rfl, hJ4, k1, k2, b4⟩ | ⟨ch, rfl, hJp⟩)
          · gi_wp2
            go_roundw
            case rel => exact ⟨_, r, pre ++ [(x, cs)], _, _, _, _, by rw [← hm, hmr, List.append_assoc]; rfl, k1.trans n2', k2.trans n1', hra', by omega, hrow2, by omega, hJ4, b4⟩
            case measure =>
              have y1 := k1.trans n2
              have y2 := k2.trans n1
              simp [lenAt, y1, y2, g1, g2]
              omega
          · exact ⟨rfl, .inr ⟨ch, rfl, hJp⟩⟩
        · obtain ⟨W3, hW3⟩ : ∃ W3, (W2.setCell ⟨bB, 0, none⟩ (.slice (some { block := ad.block, off := ad.off + 31 }) (nb - 1) (cb' - 1))).alloc (Obj.cells cs.toArray 48) = W3 := ⟨_, rfl⟩
          have hrow' := hrow
          have hrow2 : Row w0 (some { block := ad.block, off := ad.off + 31 }) r := by simpa [Addr.add] using hrow'
          have n1 : W3.heap[bB]? = some (.cells #[.slice (some (ad.add 31)) (nb - 1) (cb' - 1)] 22 (0, 0)) := by
            rw [← hW3]; exact (alloc_old (W2.setCell ⟨bB, 0, none⟩ _) _ (by simpa using lt1)).trans (box_set W2 bB _ _ 22 q1)
          have n2 : W3.heap[bA]? = some (.cells #[.slice A' na ca'] 22 (0, 0)) := by
            rw [← hW3]; exact (alloc_old (W2.setCell ⟨bB, 0, none⟩ _) _ (by simpa using lt2)).trans ((set_other _ _ _ _ hne).trans q2)
          have n2' := n2
          rw [← hna] at n2'
          have n1' := n1
          rw [← hrl, Nat.add_sub_cancel] at n1'
          have nr : ∀ j u, cs[j]? = some u → W3.cell? ((⟨W2.heap.size, 0, none⟩ : Addr).add j) = some u := by rw [← hW3]; exact new_row W2 cs 48 bB _
          have st2 : Still2 bA bB wr W3 := by rw [← hW3]; exact still_of hB2 _ (.inr rfl) _
          have b3 : Below w0.heap.size w0 W3 := by rw [← hW3]; exact (hBw2.setCell (p := ⟨bB, 0, none⟩) hB _).alloc (by simpa using hBw2.size) _
          have z3 : W2.heap.size < W3.heap.size := by rw [← hW3]; simp
          obtain ⟨fn, tmps, assign, body, hy, hR⟩ := hY pre (x, cs) _ W3 (hJ _ _ _ hJs st2 b3) (hm.symm.trans (congrArg (pre ++ ·) hmr)) hK b3 (by omega) (by omega) ⟨_, n2⟩ ⟨_, n1⟩
          gi_wp2_with (first
            | (refine wpListIn_load_at free_wide rfl 48 _ rfl ⟨W2.heap.size, 0, none⟩ rfl cs _ nr Tryz.underlying48 rfl hsz ?_)
            | (refine wpListIn_load_at free_wide rfl 48 _ rfl ad rfl cs _ hcw Tryz.underlying48 rfl hsz ?_)
            | (refine wpListIn_store_new free_wide rfl 48 _ _ rfl cs.toArray _ _ rfl rfl (by simpa using hsz) (by simp [hcl]) hone ?_))
          refine ⟨fun h => by simp [Fence.wide] at h, hR.mono ?_⟩
          rintro e W4 (⟨rfl, hJ4, k1, k2, b4⟩ | ⟨ch, rfl, hJp⟩)
          · gi_wp2
            go_roundw
            case rel => exact ⟨_, r, pre ++ [(x, cs)], _, _, _, _, by rw [← hm, hmr, List.append_assoc]; rfl, k1.trans n2', k2.trans n1', hra', by omega, hrow2, by omega, hJ4, b4⟩
            case measure =>
              have y1 := k1.trans n2
              have y2 := k2.trans n1
              simp [lenAt, y1, y2, g1, g2]
              omega
          · exact ⟨rfl, .inr ⟨ch, rfl, hJp⟩⟩
    · have ta : decide ((0 : Int) < na) = true := by simp; omega
      have ta' : decide (0 < na) = true := by simp; omega
      have te : decide ((na : Int) = 0) = false := by simp [ea]
      have te' : decide (na = 0) = false := by simp [ea]
      by_cases eb : nb = 0
      · have tb : decide ((0 : Int) < nb) = false := by simp [eb]
        have tb' : decide (0 < nb) = false := by simp [eb]
        obtain ⟨⟨x, cs⟩, r, rfl⟩ : ∃ y r, ra = y :: r := by cases ra with | nil => exact absurd hna.symm ea | cons y r => exact ⟨y, r, rfl⟩
        obtain ⟨ad, rfl, hK, hcell⟩ := hra'.head
        dsimp only at hK hcell
        have hcl := k48_len hK
        have hsz : (Tryz.prog.info? 48).map (·.size) = some cs.length := by rw [hcl]; exact info48
        have hone := k48_one hK
        have hmr : mrg stc ((x, cs) :: r) rb = (x, cs) :: mrg stc r rb := by
          obtain rfl := List.length_eq_zero_iff.1 (hnb.trans eb)
          cases r <;> simp [mrg]
        have d1 := cell_regrown c1
        have d2 := cell_regrown c2
        gi_wp2
        refine wpIn_wide_quiet_below (by kernel_rfl) (by kernel_rfl) (fun a w h => by rcases h with ⟨v, hv, _⟩ | ⟨ch, hv, _⟩ <;> cases hv) (by kernel_rfl) ?_
        repeat (first | go_big_quiet_step (fail) | quiet_step (fail))
        refine wpQuiet_nil ?_
        intro _ hw'
        obtain ⟨⟨dq, osq⟩, hw''⟩ := hw'
        subst hw''
        dsimp only
        have hB2 : Below wr.heap.size wr (grow (redrawn wr dq) osq) := below_regrown wr dq osq
        generalize grow (redrawn wr dq) osq = W2 at *
        have q1 : W2.heap[bA]? = _ := (hB2.block bA (Array.getElem?_eq_some_iff.1 g1).1).trans g1
        have q2 : W2.heap[bB]? = _ := (hB2.block bB (Array.getElem?_eq_some_iff.1 g2).1).trans g2
        have c1 : W2.cell? ⟨bA, 0, none⟩ = some (.slice (some ad) na ca') := cell_of_row W2 bA 0 _ 22 (0, 0) q1
        have f1 : W2.frozen? ⟨bA, 0, none⟩ = false := by simp [World.frozen?, q1]
        have hBw2 : Below w0.heap.size w0 W2 := hBw.trans (hB2.mono hBw.size)
        have hcw : ∀ j u, cs[j]? = some u → W2.cell? (ad.add j) = some u := fun j u hu => pw_cell_below hBw2 (hcell j u hu)
        have lt1 : bA < W2.heap.size := (Array.getElem?_eq_some_iff.1 q1).1
        have lt2 : bB < W2.heap.size := (Array.getElem?_eq_some_iff.1 q2).1
        clear d1 d2
        have hrow : Row w0 (some (ad.add 31)) r := hra'.tail
        have hrl : r.length + 1 = na := by simpa using hna
        by_cases hc1 : ca' = 1
        · obtain ⟨W3, hW3⟩ : ∃ W3, (W2.setCell ⟨bA, 0, none⟩ (.slice (some ad) (na - 1) 0)).alloc (Obj.cells cs.toArray 48) = W3 := ⟨_, rfl⟩
          have hr0 : r = [] := List.length_eq_zero_iff.1 (by omega)
          have hrow' : Row w0 (some ad) r := by rw [hr0]; exact Row.nil
          have hrow2 : Row w0 (some ad) r := hrow'
          have n1 : W3.heap[bA]? = some (.cells #[.slice (some ad) (na - 1) 0] 22 (0, 0)) := by
            rw [← hW3]; exact (alloc_old (W2.setCell ⟨bA, 0, none⟩ _) _ (by simpa using lt1)).trans (box_set W2 bA _ _ 22 q1)
          have n2 : W3.heap[bB]? = some (.cells #[.slice B' nb cb'] 22 (0, 0)) := by
            rw [← hW3]; exact (alloc_old (W2.setCell ⟨bA, 0, none⟩ _) _ (by simpa using lt2)).trans ((set_other _ _ _ _ (Ne.symm hne)).trans q2)
          have n2' := n2
          rw [← hnb] at n2'
          have n1' := n1
          rw [← hrl, Nat.add_sub_cancel] at n1'
          have nr : ∀ j u, cs[j]? = some u → W3.cell? ((⟨W2.heap.size, 0, none⟩ : Addr).add j) = some u := by rw [← hW3]; exact new_row W2 cs 48 bA _
          have st2 : Still2 bA bB wr W3 := by rw [← hW3]; exact still_of hB2 _ (.inl rfl) _
          have b3 : Below w0.heap.size w0 W3 := by rw [← hW3]; exact (hBw2.setCell (p := ⟨bA, 0, none⟩) hA _).alloc (by simpa using hBw2.size) _
          have z3 : W2.heap.size < W3.heap.size := by rw [← hW3]; simp
          obtain ⟨fn, tmps, assign, body, hy, hR⟩ := hY pre (x, cs) _ W3 (hJ _ _ _ hJs st2 b3) (hm.symm.trans (congrArg (pre ++ ·) hmr)) hK b3 (by omega) (by omega) ⟨_, n1⟩ ⟨_, n2⟩
          gi_wp2_with (first
            | (refine wpListIn_load_at free_wide rfl 48 _ rfl ⟨W2.heap.size, 0, none⟩ rfl cs _ nr Tryz.underlying48 rfl hsz ?_)
            | (refine wpListIn_load_at free_wide rfl 48 _ rfl ad rfl cs _ hcw Tryz.underlying48 rfl hsz ?_)
            | (refine wpListIn_store_new free_wide rfl 48 _ _ rfl cs.toArray _ _ rfl rfl (by simpa using hsz) (by simp [hcl]) hone ?_))
          refine ⟨fun h => by simp [Fence.wide] at h, hR.mono ?_⟩
          rintro e W4 (⟨rfl, hJ4, k1, k2, b4⟩ | ⟨ch, rfl, hJp⟩)
          · gi_wp2
            go_roundw
            case rel => exact ⟨r, _, pre ++ [(x, cs)], _, _, _, _, by rw [← hm, hmr, List.append_assoc]; rfl, k1.trans n1', k2.trans n2', hrow2, by omega, hrb', by omega, hJ4, b4⟩
            case measure =>
              have y1 := k1.trans n1
              have y2 := k2.trans n2
              simp [lenAt, y1, y2, g1, g2]
              omega
          · exact ⟨rfl, .inr ⟨ch, rfl, hJp⟩⟩
        · obtain ⟨W3, hW3⟩ : ∃ W3, (W2.setCell ⟨bA, 0, none⟩ (.slice (some { block := ad.block, off := ad.off + 31 }) (na - 1) (ca' - 1))).alloc (Obj.cells cs.toArray 48) = W3 := ⟨_, rfl⟩
          have hrow' := hrow
          have hrow2 : Row w0 (some { block := ad.block, off := ad.off + 31 }) r := by simpa [Addr.add] using hrow'
          have n1 : W3.heap[bA]? = some (.cells #[.slice (some (ad.add 31)) (na - 1) (ca' - 1)] 22 (0, 0)) := by
            rw [← hW3]; exact (alloc_old (W2.setCell ⟨bA, 0, none⟩ _) _ (by simpa using lt1)).trans (box_set W2 bA _ _ 22 q1)
          have n2 : W3.heap[bB]? = some (.cells #[.slice B' nb cb'] 22 (0, 0)) := by
            rw [← hW3]; exact (alloc_old (W2.setCell ⟨bA, 0, none⟩ _) _ (by simpa using lt2)).trans ((set_other _ _ _ _ (Ne.symm hne)).trans q2)
          have n2' := n2
          rw [← hnb] at n2'
          have n1' := n1
          rw [← hrl, Nat.add_sub_cancel] at n1'
          have nr : ∀ j u, cs[j]? = some u → W3.cell? ((⟨W2.heap.size, 0, none⟩ : Addr).add j) = some u := by rw [← hW3]; exact new_row W2 cs 48 bA _
          have st2 : Still2 bA bB wr W3 := by rw [← hW3]; exact still_of hB2 _ (.inl rfl) _
          have b3 : Below w0.heap.size w0 W3 := by rw [← hW3]; exact (hBw2.setCell (p := ⟨bA, 0, none⟩) hA _).alloc (by simpa using hBw2.size) _
          have z3 : W2.heap.size < W3.heap.size := by rw [← hW3]; simp
          obtain ⟨fn, tmps, assign, body, hy, hR⟩ := hY pre (x, cs) _ W3 (hJ _ _ _ hJs st2 b3) (hm.symm.trans (congrArg (pre ++ ·) hmr)) hK b3 (by omega) (by omega) ⟨_, n1⟩ ⟨_, n2⟩
          gi_wp2_with (first
            | (refine wpListIn_load_at free_wide rfl 48 _ rfl ⟨W2.heap.size, 0, none⟩ rfl cs _ nr Tryz.underlying48 rfl hsz ?_)
            | (refine wpListIn_load_at free_wide rfl 48 _ rfl ad rfl cs _ hcw Tryz.underlying48 rfl hsz ?_)
            | (refine wpListIn_store_new free_wide rfl 48 _ _ rfl cs.toArray _ _ rfl rfl (by simpa using hsz) (by simp [hcl]) hone ?_))
          refine ⟨fun h => by simp [Fence.wide] at h, hR.mono ?_⟩
          rintro e W4 (⟨rfl, hJ4, k1, k2, b4⟩ | ⟨ch, rfl, hJp⟩)
          · gi_wp2
            go_roundw
            case rel => exact ⟨r, _, pre ++ [(x, cs)], _, _, _, _, by rw [← hm, hmr, List.append_assoc]; rfl, k1.trans n1', k2.trans n2', hrow2, by omega, hrb', by omega, hJ4, b4⟩
            case measure =>
              have y1 := k1.trans n1
              have y2 := k2.trans n2
              simp [lenAt, y1, y2, g1, g2]
              omega
          · exact ⟨rfl, .inr ⟨ch, rfl, hJp⟩⟩
      · have tb : decide ((0 : Int) < nb) = true := by simp; omega
        have tb' : decide (0 < nb) = true := by simp; omega
        have hxa := heads hra' (by omega : ra.length ≠ 0)
        have hxb := heads hrb' (by omega : rb.length ≠ 0)
        obtain ⟨xa, csa, ra2, ada, erra, eada, ha, va0, va1, va2⟩ := hxa
        obtain ⟨xb, csb, rb2, adb, errb, eadb, hb, vb0, vb1, vb2⟩ := hxb
        have p0 : ∀ d os, (grow (redrawn wr d) os).cell? ada = some (.int .i64 xa.f0.f0) := cell_regrown (pw_cell_below hBw va0)
        have p1 : ∀ d os, (grow (redrawn wr d) os).cell? ⟨ada.block, ada.off + 1, none⟩ = some (.int .i64 xa.f0.f1) := cell_regrown (pw_cell_below hBw va1)
        have p2 : ∀ d os, (grow (redrawn wr d) os).cell? ⟨ada.block, ada.off + 2, none⟩ = some (.int .i64 xa.f0.f2) := cell_regrown (pw_cell_below hBw va2)
        have q0 : ∀ d os, (grow (redrawn wr d) os).cell? adb = some (.int .i64 xb.f0.f0) := cell_regrown (pw_cell_below hBw vb0)
        have q1 : ∀ d os, (grow (redrawn wr d) os).cell? ⟨adb.block, adb.off + 1, none⟩ = some (.int .i64 xb.f0.f1) := cell_regrown (pw_cell_below hBw vb1)
        have q2 : ∀ d os, (grow (redrawn wr d) os).cell? ⟨adb.block, adb.off + 2, none⟩ = some (.int .i64 xb.f0.f2) := cell_regrown (pw_cell_below hBw vb2)
        obtain ⟨z, hz⟩ : ∃ z, cmpS ⟨xb.f0.f0, xb.f0.f1, xb.f0.f2⟩ ⟨xa.f0.f0, xa.f0.f1, xa.f0.f2⟩ = z := ⟨_, rfl⟩
        have cC : ∀ d os, Calls Tryz.prog 33 #[.agg #[.int .i64 xb.f0.f0, .int .i64 xb.f0.f1, .int .i64 xb.f0.f2], .agg #[.int .i64 xa.f0.f0, .int .i64 xa.f0.f1, .int .i64 xa.f0.f2]] (grow (redrawn wr d) os) fun e w'' => e = .returned (.int .i64 z) ∧ ∃ p : Regrown, w'' = grow (redrawn wr p.d) p.os :=
          fun d os => Calls.regrown_of (by rw [← hz]; exact cmp_any _ _ _ _ _ _ _)
        clear va0 va1 va2 vb0 vb1 vb2
        have te2 : ((na : Int) == (0 : Int)) = false := by simp [ea]
        have c1a : wr.cell? ⟨bA, 0, none⟩ = some (.slice (some ada) na ca') := by rw [c1, eada]
        have c2a : wr.cell? ⟨bB, 0, none⟩ = some (.slice (some adb) nb cb') := by rw [c2, eadb]
        by_cases hz0 : z < 0
        · have tz : decide (z < 0) = true := by simpa using hz0
          obtain ⟨⟨x, cs⟩, r, rfl⟩ : ∃ y r, rb = y :: r := by cases rb with | nil => exact absurd hnb.symm eb | cons y r => exact ⟨y, r, rfl⟩
          obtain ⟨ad, rfl, hK, hcell⟩ := hrb'.head
          dsimp only at hK hcell
          have hcl := k48_len hK
          have hsz : (Tryz.prog.info? 48).map (·.size) = some cs.length := by rw [hcl]; exact info48
          have hone := k48_one hK
          obtain ⟨rfl, rfl⟩ : x = xb ∧ ad = adb := ⟨by simp at errb; exact errb.1.1, by simpa using eadb⟩
          have hmr : mrg stc ra ((x, cs) :: r) = (x, cs) :: mrg stc ra r := by
            rw [erra]
            simp only [mrg]
            rw [if_pos (by simpa [stc, st, hz] using hz0)]
          have d1 := cell_regrown c1a
          have d2 := cell_regrown c2a
          clear c1 c2
          gi_wp2
          refine wpIn_wide_quiet_below (by kernel_rfl) (by kernel_rfl) (fun a w h => by rcases h with ⟨v, hv, _⟩ | ⟨ch, hv, _⟩ <;> cases hv) (by kernel_rfl) ?_
          repeat (first | go_big_quiet_step (exact cC _ _) | quiet_step (exact cC _ _))
          refine wpQuiet_nil ?_
          intro _ hw'
          obtain ⟨⟨dq, osq⟩, hw''⟩ := hw'
          subst hw''
          dsimp only
          have hB2 : Below wr.heap.size wr (grow (redrawn wr dq) osq) := below_regrown wr dq osq
          generalize grow (redrawn wr dq) osq = W2 at *
          have q1 : W2.heap[bB]? = _ := (hB2.block bB (Array.getElem?_eq_some_iff.1 g2).1).trans g2
          have q2 : W2.heap[bA]? = _ := (hB2.block bA (Array.getElem?_eq_some_iff.1 g1).1).trans g1
          have c1 : W2.cell? ⟨bB, 0, none⟩ = some (.slice (some ad) nb cb') := cell_of_row W2 bB 0 _ 22 (0, 0) q1
          have f1 : W2.frozen? ⟨bB, 0, none⟩ = false := by simp [World.frozen?, q1]
          have hBw2 : Below w0.heap.size w0 W2 := hBw.trans (hB2.mono hBw.size)
          have hcw : ∀ j u, cs[j]? = some u → W2.cell? (ad.add j) = some u := fun j u hu => pw_cell_below hBw2 (hcell j u hu)
          have lt1 : bB < W2.heap.size := (Array.getElem?_eq_some_iff.1 q1).1
          have lt2 : bA < W2.heap.size := (Array.getElem?_eq_some_iff.1 q2).1
          clear d1 d2 p0 p1 p2 cC
          have hrow : Row w0 (some (ad.add 31)) r := hrb'.tail
          have hrl : r.length + 1 = nb := by simpa using hnb
          by_cases hc1 : cb' = 1
          · obtain ⟨W3, hW3⟩ : ∃ W3, (W2.setCell ⟨bB, 0, none⟩ (.slice (some ad) (nb - 1) 0)).alloc (Obj.cells cs.toArray 48) = W3 := ⟨_, rfl⟩
            have hr0 : r = [] := List.length_eq_zero_iff.1 (by omega)
            have hrow' : Row w0 (some ad) r := by rw [hr0]; exact Row.nil
            have hrow2 : Row w0 (some ad) r := hrow'
            have n1 : W3.heap[bB]? = some (.cells #[.slice (some ad) (nb - 1) 0] 22 (0, 0)) := by
              rw [← hW3]; exact (alloc_old (W2.setCell ⟨bB, 0, none⟩ _) _ (by simpa using lt1)).trans (box_set W2 bB _ _ 22 q1)
            have n2 : W3.heap[bA]? = some (.cells #[.slice A' na ca'] 22 (0, 0)) := by
              rw [← hW3]; exact (alloc_old (W2.setCell ⟨bB, 0, none⟩ _) _ (by simpa using lt2)).trans ((set_other _ _ _ _ hne).trans q2)
            have n2' := n2
            rw [← hna] at n2'
            have n1' := n1
            rw [← hrl, Nat.add_sub_cancel] at n1'
            have nr : ∀ j u, cs[j]? = some u → W3.cell? ((⟨W2.heap.size, 0, none⟩ : Addr).add j) = some u := by rw [← hW3]; exact new_row W2 cs 48 bB _
            have st2 : Still2 bA bB wr W3 := by rw [← hW3]; exact still_of hB2 _ (.inr rfl) _
            have b3 : Below w0.heap.size w0 W3 := by rw [← hW3]; exact (hBw2.setCell (p := ⟨bB, 0, none⟩) hB _).alloc (by simpa using hBw2.size) _
            have z3 : W2.heap.size < W3.heap.size := by rw [← hW3]; simp
            obtain ⟨fn, tmps, assign, body, hy, hR⟩ := hY pre (x, cs) _ W3 (hJ _ _ _ hJs st2 b3) (hm.symm.trans (congrArg (pre ++ ·) hmr)) hK b3 (by omega) (by omega) ⟨_, n2⟩ ⟨_, n1⟩
            gi_wp2_with (first
              | (refine wpListIn_load_at free_wide rfl 48 _ rfl ⟨W2.heap.size, 0, none⟩ rfl cs _ nr Tryz.underlying48 rfl hsz ?_)
              | (refine wpListIn_load_at free_wide rfl 48 _ rfl ad rfl cs _ hcw Tryz.underlying48 rfl hsz ?_)
              | (refine wpListIn_store_new free_wide rfl 48 _ _ rfl cs.toArray _ _ rfl rfl (by simpa using hsz) (by simp [hcl]) hone ?_))
            refine ⟨fun h => by simp [Fence.wide] at h, hR.mono ?_⟩
            rintro e W4 (⟨rfl, hJ4, k1, k2, b4⟩ | ⟨ch, rfl, hJp⟩)
            · gi_wp2
              go_roundw
              case rel => exact ⟨_, r, pre ++ [(x, cs)], _, _, _, _, by rw [← hm, hmr, List.append_assoc]; rfl, k1.trans n2', k2.trans n1', hra', by omega, hrow2, by omega, hJ4, b4⟩
              case measure =>
                have y1 := k1.trans n2
                have y2 := k2.trans n1
                simp [lenAt, y1, y2, g1, g2]
                omega
            · exact ⟨rfl, .inr ⟨ch, rfl, hJp⟩⟩
          · obtain ⟨W3, hW3⟩ : ∃ W3, (W2.setCell ⟨bB, 0, none⟩ (.slice (some { block := ad.block, off := ad.off + 31 }) (nb - 1) (cb' - 1))).alloc (Obj.cells cs.toArray 48) = W3 := ⟨_, rfl⟩
            have hrow' := hrow
            have hrow2 : Row w0 (some { block := ad.block, off := ad.off + 31 }) r := by simpa [Addr.add] using hrow'
            have n1 : W3.heap[bB]? = some (.cells #[.slice (some (ad.add 31)) (nb - 1) (cb' - 1)] 22 (0, 0)) := by
              rw [← hW3]; exact (alloc_old (W2.setCell ⟨bB, 0, none⟩ _) _ (by simpa using lt1)).trans (box_set W2 bB _ _ 22 q1)
            have n2 : W3.heap[bA]? = some (.cells #[.slice A' na ca'] 22 (0, 0)) := by
              rw [← hW3]; exact (alloc_old (W2.setCell ⟨bB, 0, none⟩ _) _ (by simpa using lt2)).trans ((set_other _ _ _ _ hne).trans q2)
            have n2' := n2
            rw [← hna] at n2'
            have n1' := n1
            rw [← hrl, Nat.add_sub_cancel] at n1'
            have nr : ∀ j u, cs[j]? = some u → W3.cell? ((⟨W2.heap.size, 0, none⟩ : Addr).add j) = some u := by rw [← hW3]; exact new_row W2 cs 48 bB _
            have st2 : Still2 bA bB wr W3 := by rw [← hW3]; exact still_of hB2 _ (.inr rfl) _
            have b3 : Below w0.heap.size w0 W3 := by rw [← hW3]; exact (hBw2.setCell (p := ⟨bB, 0, none⟩) hB _).alloc (by simpa using hBw2.size) _
            have z3 : W2.heap.size < W3.heap.size := by rw [← hW3]; simp
            obtain ⟨fn, tmps, assign, body, hy, hR⟩ := hY pre (x, cs) _ W3 (hJ _ _ _ hJs st2 b3) (hm.symm.trans (congrArg (pre ++ ·) hmr)) hK b3 (by omega) (by omega) ⟨_, n2⟩ ⟨_, n1⟩
            gi_wp2_with (first
              | (refine wpListIn_load_at free_wide rfl 48 _ rfl ⟨W2.heap.size, 0, none⟩ rfl cs _ nr Tryz.underlying48 rfl hsz ?_)
              | (refine wpListIn_load_at free_wide rfl 48 _ rfl ad rfl cs _ hcw Tryz.underlying48 rfl hsz ?_)
              | (refine wpListIn_store_new free_wide rfl 48 _ _ rfl cs.toArray _ _ rfl rfl (by simpa using hsz) (by simp [hcl]) hone ?_))
            refine ⟨fun h => by simp [Fence.wide] at h, hR.mono ?_⟩
            rintro e W4 (⟨rfl, hJ4, k1, k2, b4⟩ | ⟨ch, rfl, hJp⟩)
            · gi_wp2
              go_roundw
              case rel => exact ⟨_, r, pre ++ [(x, cs)], _, _, _, _, by rw [← hm, hmr, List.append_assoc]; rfl, k1.trans n2', k2.trans n1', hra', by omega, hrow2, by omega, hJ4, b4⟩
              case measure =>
                have y1 := k1.trans n2
                have y2 := k2.trans n1
                simp [lenAt, y1, y2, g1, g2]
                omega
            · exact ⟨rfl, .inr ⟨ch, rfl, hJp⟩⟩
        · have tz : decide (z < 0) = false := by simpa using hz0
          obtain ⟨⟨x, cs⟩, r, rfl⟩ : ∃ y r, ra = y :: r := by cases ra with | nil => exact absurd hna.symm ea | cons y r => exact ⟨y, r, rfl⟩
          obtain ⟨ad, rfl, hK, hcell⟩ := hra'.head
          dsimp only at hK hcell
          have hcl := k48_len hK
          have hsz : (Tryz.prog.info? 48).map (·.size) = some cs.length := by rw [hcl]; exact info48
          have hone := k48_one hK
          obtain ⟨rfl, rfl⟩ : x = xa ∧ ad = ada := ⟨by simp at erra; exact erra.1.1, by simpa using eada⟩
          have hmr : mrg stc ((x, cs) :: r) rb = (x, cs) :: mrg stc r rb := by
            rw [errb]
            simp only [mrg]
            rw [if_neg (by simpa [stc, st, hz] using hz0)]
          have d1 := cell_regrown c1a
          have d2 := cell_regrown c2a
          clear c1 c2
          gi_wp2
          refine wpIn_wide_quiet_below (by kernel_rfl) (by kernel_rfl) (fun a w h => by rcases h with ⟨v, hv, _⟩ | ⟨ch, hv, _⟩ <;> cases hv) (by kernel_rfl) ?_
          repeat (first | go_big_quiet_step (exact cC _ _) | quiet_step (exact cC _ _))
          refine wpQuiet_nil ?_
          intro _ hw'
          obtain ⟨⟨dq, osq⟩, hw''⟩ := hw'
          subst hw''
          dsimp only
          have hB2 : Below wr.heap.size wr (grow (redrawn wr dq) osq) := below_regrown wr dq osq
          generalize grow (redrawn wr dq) osq = W2 at *
          have q1 : W2.heap[bA]? = _ := (hB2.block bA (Array.getElem?_eq_some_iff.1 g1).1).trans g1
          have q2 : W2.heap[bB]? = _ := (hB2.block bB (Array.getElem?_eq_some_iff.1 g2).1).trans g2
          have c1 : W2.cell? ⟨bA, 0, none⟩ = some (.slice (some ad) na ca') := cell_of_row W2 bA 0 _ 22 (0, 0) q1
          have f1 : W2.frozen? ⟨bA, 0, none⟩ = false := by simp [World.frozen?, q1]
          have hBw2 : Below w0.heap.size w0 W2 := hBw.trans (hB2.mono hBw.size)
          have hcw : ∀ j u, cs[j]? = some u → W2.cell? (ad.add j) = some u := fun j u hu => pw_cell_below hBw2 (hcell j u hu)
          have lt1 : bA < W2.heap.size := (Array.getElem?_eq_some_iff.1 q1).1
          have lt2 : bB < W2.heap.size := (Array.getElem?_eq_some_iff.1 q2).1
          clear d1 d2 p0 p1 p2 cC
          have hrow : Row w0 (some (ad.add 31)) r := hra'.tail
          have hrl : r.length + 1 = na := by simpa using hna
          by_cases hc1 : ca' = 1
          · obtain ⟨W3, hW3⟩ : ∃ W3, (W2.setCell ⟨bA, 0, none⟩ (.slice (some ad) (na - 1) 0)).alloc (Obj.cells cs.toArray 48) = W3 := ⟨_, rfl⟩
            have hr0 : r = [] := List.length_eq_zero_iff.1 (by omega)
            have hrow' : Row w0 (some ad) r := by rw [hr0]; exact Row.nil
            have hrow2 : Row w0 (some ad) r := hrow'
            have n1 : W3.heap[bA]? = some (.cells #[.slice (some ad) (na - 1) 0] 22 (0, 0)) := by
              rw [← hW3]; exact (alloc_old (W2.setCell ⟨bA, 0, none⟩ _) _ (by simpa using lt1)).trans (box_set W2 bA _ _ 22 q1)
            have n2 : W3.heap[bB]? = some (.cells #[.slice B' nb cb'] 22 (0, 0)) := by
              rw [← hW3]; exact (alloc_old (W2.setCell ⟨bA, 0, none⟩ _) _ (by simpa using lt2)).trans ((set_other _ _ _ _ (Ne.symm hne)).trans q2)
            have n2' := n2
            rw [← hnb] at n2'
            have n1' := n1
            rw [← hrl, Nat.add_sub_cancel] at n1'
            have nr : ∀ j u, cs[j]? = some u → W3.cell? ((⟨W2.heap.size, 0, none⟩ : Addr).add j) = some u := by rw [← hW3]; exact new_row W2 cs 48 bA _
            have st2 : Still2 bA bB wr W3 := by rw [← hW3]; exact still_of hB2 _ (.inl rfl) _
            have b3 : Below w0.heap.size w0 W3 := by rw [← hW3]; exact (hBw2.setCell (p := ⟨bA, 0, none⟩) hA _).alloc (by simpa using hBw2.size) _
            have z3 : W2.heap.size < W3.heap.size := by rw [← hW3]; simp
            obtain ⟨fn, tmps, assign, body, hy, hR⟩ := hY pre (x, cs) _ W3 (hJ _ _ _ hJs st2 b3) (hm.symm.trans (congrArg (pre ++ ·) hmr)) hK b3 (by omega) (by omega) ⟨_, n1⟩ ⟨_, n2⟩
            gi_wp2_with (first
              | (refine wpListIn_load_at free_wide rfl 48 _ rfl ⟨W2.heap.size, 0, none⟩ rfl cs _ nr Tryz.underlying48 rfl hsz ?_)
              | (refine wpListIn_load_at free_wide rfl 48 _ rfl ad rfl cs _ hcw Tryz.underlying48 rfl hsz ?_)
              | (refine wpListIn_store_new free_wide rfl 48 _ _ rfl cs.toArray _ _ rfl rfl (by simpa using hsz) (by simp [hcl]) hone ?_))
            refine ⟨fun h => by simp [Fence.wide] at h, hR.mono ?_⟩
            rintro e W4 (⟨rfl, hJ4, k1, k2, b4⟩ | ⟨ch, rfl, hJp⟩)
            · gi_wp2
              go_roundw
              case rel => exact ⟨r, _, pre ++ [(x, cs)], _, _, _, _, by rw [← hm, hmr, List.append_assoc]; rfl, k1.trans n1', k2.trans n2', hrow2, by omega, hrb', by omega, hJ4, b4⟩
              case measure =>
                have y1 := k1.trans n1
                have y2 := k2.trans n2
                simp [lenAt, y1, y2, g1, g2]
                omega
            · exact ⟨rfl, .inr ⟨ch, rfl, hJp⟩⟩
          · obtain ⟨W3, hW3⟩ : ∃ W3, (W2.setCell ⟨bA, 0, none⟩ (.slice (some { block := ad.block, off := ad.off + 31 }) (na - 1) (ca' - 1))).alloc (Obj.cells cs.toArray 48) = W3 := ⟨_, rfl⟩
            have hrow' := hrow
            have hrow2 : Row w0 (some { block := ad.block, off := ad.off + 31 }) r := by simpa [Addr.add] using hrow'
            have n1 : W3.heap[bA]? = some (.cells #[.slice (some (ad.add 31)) (na - 1) (ca' - 1)] 22 (0, 0)) := by
              rw [← hW3]; exact (alloc_old (W2.setCell ⟨bA, 0, none⟩ _) _ (by simpa using lt1)).trans (box_set W2 bA _ _ 22 q1)
            have n2 : W3.heap[bB]? = some (.cells #[.slice B' nb cb'] 22 (0, 0)) := by
              rw [← hW3]; exact (alloc_old (W2.setCell ⟨bA, 0, none⟩ _) _ (by simpa using lt2)).trans ((set_other _ _ _ _ (Ne.symm hne)).trans q2)
            have n2' := n2
            rw [← hnb] at n2'
            have n1' := n1
            rw [← hrl, Nat.add_sub_cancel] at n1'
            have nr : ∀ j u, cs[j]? = some u → W3.cell? ((⟨W2.heap.size, 0, none⟩ : Addr).add j) = some u := by rw [← hW3]; exact new_row W2 cs 48 bA _
            have st2 : Still2 bA bB wr W3 := by rw [← hW3]; exact still_of hB2 _ (.inl rfl) _
            have b3 : Below w0.heap.size w0 W3 := by rw [← hW3]; exact (hBw2.setCell (p := ⟨bA, 0, none⟩) hA _).alloc (by simpa using hBw2.size) _
            have z3 : W2.heap.size < W3.heap.size := by rw [← hW3]; simp
            obtain ⟨fn, tmps, assign, body, hy, hR⟩ := hY pre (x, cs) _ W3 (hJ _ _ _ hJs st2 b3) (hm.symm.trans (congrArg (pre ++ ·) hmr)) hK b3 (by omega) (by omega) ⟨_, n1⟩ ⟨_, n2⟩
            gi_wp2_with (first
              | (refine wpListIn_load_at free_wide rfl 48 _ rfl ⟨W2.heap.size, 0, none⟩ rfl cs _ nr Tryz.underlying48 rfl hsz ?_)
              | (refine wpListIn_load_at free_wide rfl 48 _ rfl ad rfl cs _ hcw Tryz.underlying48 rfl hsz ?_)
              | (refine wpListIn_store_new free_wide rfl 48 _ _ rfl cs.toArray _ _ rfl rfl (by simpa using hsz) (by simp [hcl]) hone ?_))
            refine ⟨fun h => by simp [Fence.wide] at h, hR.mono ?_⟩
            rintro e W4 (⟨rfl, hJ4, k1, k2, b4⟩ | ⟨ch, rfl, hJp⟩)
            · gi_wp2
              go_roundw
              case rel => exact ⟨r, _, pre ++ [(x, cs)], _, _, _, _, by rw [← hm, hmr, List.append_assoc]; rfl, k1.trans n1', k2.trans n2', hrow2, by omega, hrb', by omega, hJ4, b4⟩
              case measure =>
                have y1 := k1.trans n1
                have y2 := k2.trans n2
                simp [lenAt, y1, y2, g1, g2]
                omega
            · exact ⟨rfl, .inr ⟨ch, rfl, hJp⟩⟩
end Go.Proofs.Lw
