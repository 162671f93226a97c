import Derived.Test.YtehddihmndpgaaaGreatDoorB03
import Derived.Test.YtehddihmndpgaaaGreatDoorB04
import Derived.Test.YtehddihmndpgaaaGreatDoorB14
import Derived.Test.YtehddihmndpgaaaGreatDoorB15
import Derived.Test.YtehddihmndpgaaaGreatDoorB24
section
set_option linter.unusedSimpArgs false
set_option linter.unusedVariables false
namespace Go.Proofs.Lw
open Go.RowKit Go.Sort Go.Proofs.YtehddihmndpgaaaGreatDoorW.PrintWords Go.Proofs.YtehddihmndpgaaaGreatDoor.PLib
def UpPost (w : World) (r : List S48) (e : Ending) (w' : World) : Prop := Below w.heap.size w w' ∧ ∃ A c, e = .returned (.tuple #[.slice A r.length c, .int .i64 0]) ∧ r.length ≤ c ∧ Kd.C k48 w' A r.length r
theorem upto_ok {G : World → Prop} {chk : S48 → Int} (hC : Chk G chk) (A : Option Addr) (c : Nat) (l r : List S48) (known : Int) (w : World) (h : Kd.C k48 w A l.length l) (hGw : G w) (hz : Ldg.checkR st chk l = 0) (hr : Ldg.uptoR st l known = r) :
    Calls Tryz.prog 14 #[.slice A l.length c, .int .i64 known] w (UpPost w r) := by
  refine (upto_any hC A c l known w h hGw).mono fun e w' hp => ?_
  rw [hz, hr] at hp
  obtain ⟨h1, h2⟩ := hp
  rw [if_neg (by simp)] at h2
  exact ⟨h1, h2⟩
theorem C_take {w : World} {A : Option Addr} {l : List S48} (m : Nat) (hm : m ≤ l.length) (h : Kd.C k48 w A l.length l) : Kd.C k48 w A m (l.take m) := by
  have h1 := h.2.1
  refine ⟨by simp; omega, by omega, fun hp => ?_⟩
  obtain ⟨ad, e, hc⟩ := h.2.2 (by omega)
  refine ⟨ad, e, fun j q hq => hc j q ?_⟩
  rw [List.getElem?_take] at hq
  split at hq
  · exact hq
  · cases hq
theorem put_err {chk : S48 → Int} {a : List S48} {n : S48} {z : Int} (h : Ldg.putR st chk a n = .error z) : z ≠ 0 := by
  unfold Ldg.putR at h
  split at h
  · next h1 => cases h; exact h1
  · split at h
    · next h1 => cases h; exact h1
    · exact join_err h
theorem known_gen (s : S32) : ∃ a b : Int, ∀ W, Calls Tryz.prog 15 #[.agg #[.int .i64 s.f0, .int .i64 s.f1, .int .i64 s.f2]] W fun e w' => e = .returned (.tuple #[.int .i64 a, .int .i64 b]) ∧ Below W.heap.size W w' := by
  by_cases h : Ldg.StOK ⟨s.f0, s.f1, s.f2⟩
  · exact ⟨_, _, fun W => known_any s.f0 s.f1 s.f2 W h⟩
  · refine ⟨0, 80, fun W => stamps_Known.calls s.f0 s.f1 s.f2 _ _ W ?_⟩
    unfold stamps_Known.f
    have h1 := scheck_f ⟨s.f0, s.f1, s.f2⟩
    rw [if_neg h] at h1
    rw [h1]
    rfl
set_option maxHeartbeats 8000000
set_option maxRecDepth 100000 in
theorem times_any {G : World → Prop} {chk : S48 → Int} (hC : Chk G chk) (hS : Sane G) (A : Option Addr) (ca : Nat) (la : List S48) (x : S48) (cs : List Value) (known later : Int) (w : World) (ha : Kd.C k48 w A la.length la) (hca : la.length ≤ ca) (hx : k48.K w x cs) (hl0 : 0 ≤ later) (hl1 : later ≤ 65535) (hGw : G w) :
    Calls Tryz.prog 5 #[.slice A la.length ca, .agg cs.toArray, .int .i64 known, .int .u16 later] w fun e w' => e = .returned (.bool true) ∧ Below w.heap.size w w' := by
  have hcl := k48_len hx
  have hsz : (Tryz.prog.info? 48).map (·.size) = some cs.length := by rw [hcl]; exact info48
  have hone := k48_one hx
  have sc := k48_head hx
  have bx0 := boxd w x cs hx
  obtain ⟨W0, hW0⟩ : ∃ W0, w.alloc (.cells cs.toArray 48) = W0 := ⟨_, rfl⟩
  rw [hW0] at bx0
  have cS := hS W0 (hC.keep _ _ hGw bx0.b)
  have cA := fun W (h : Below w.heap.size w W) => few_any A ca la W (Kd.C_below ha h)
  have cF := fun W (h : Boxd w x cs W) => fewE_any x cs W h.k
  have dA := fun W (h : Below w.heap.size w W) => check_any hC A ca la W (Kd.C_below ha h) (hC.keep _ _ hGw h)
  obtain ⟨fa, hfa⟩ : ∃ b, few la = b := ⟨_, rfl⟩
  obtain ⟨fx, hfx⟩ : ∃ b, fewE x = b := ⟨_, rfl⟩
  obtain ⟨za, hza⟩ : ∃ b, Ldg.checkR st chk la = b := ⟨_, rfl⟩
  rw [hfa] at cA
  simp only [hfx] at cF
  rw [hza] at dA
  have Hfa := Lib.hid hfa
  have Hza := Lib.hid hza
  clear hfa hfx hza
  go_enter Tryz.func5, Tryz.ntmps5
  cases fa
  · go_wp2_with (first
      | (go_at_call 8; refine (cA _ bx1.b).mono ?_; rintro e W2 ⟨rfl, h2⟩; have bx2 := bx1.next h2)
      | (go_at_call 7; refine cS.mono ?_; rintro e W1 ⟨rfl, h1⟩; have bx1 := bx0.next h1))
    go_ret
    exact ⟨rfl, bx2.b⟩
  cases fx
  · go_wp2_with (first
      | (go_at_call 13; refine (cF _ bx2).mono ?_; rintro e W3 ⟨rfl, h3⟩; have bx3 := bx2.next h3)
      | ((with_reducible change wpList _ _ _ (⟨_, .load 48 _, _, _, _, some _⟩ :: _) _ W2); refine wpList_load_want (by rfl) 48 _ rfl ⟨w.heap.size, 0, none⟩ rfl cs _ bx2.row Tryz.underlying48 rfl hsz ?_)
      | (go_at_call 8; refine (cA _ bx1.b).mono ?_; rintro e W2 ⟨rfl, h2⟩; have bx2 := bx1.next h2)
      | (go_at_call 7; refine cS.mono ?_; rintro e W1 ⟨rfl, h1⟩; have bx1 := bx0.next h1))
    go_ret
    exact ⟨rfl, bx3.b⟩
  by_cases k0 : known < 0
  · have d0 : decide (known < 0) = true := by simpa using k0
    go_wp2_with (first
      | (go_at_call 13; refine (cF _ bx2).mono ?_; rintro e W3 ⟨rfl, h3⟩; have bx3 := bx2.next h3)
      | ((with_reducible change wpList _ _ _ (⟨_, .load 48 _, _, _, _, some _⟩ :: _) _ W2); refine wpList_load_want (by rfl) 48 _ rfl ⟨w.heap.size, 0, none⟩ rfl cs _ bx2.row Tryz.underlying48 rfl hsz ?_)
      | (go_at_call 8; refine (cA _ bx1.b).mono ?_; rintro e W2 ⟨rfl, h2⟩; have bx2 := bx1.next h2)
      | (go_at_call 7; refine cS.mono ?_; rintro e W1 ⟨rfl, h1⟩; have bx1 := bx0.next h1))
    go_ret
    exact ⟨rfl, bx3.b⟩
  by_cases k1 : 16777216 < known
  · have d0 : decide (known < 0) = false := by simpa using k0
    have d1 : decide (16777216 < known) = true := by simpa using k1
    go_wp2_with (first
      | (go_at_call 13; refine (cF _ bx2).mono ?_; rintro e W3 ⟨rfl, h3⟩; have bx3 := bx2.next h3)
      | ((with_reducible change wpList _ _ _ (⟨_, .load 48 _, _, _, _, some _⟩ :: _) _ W2); refine wpList_load_want (by rfl) 48 _ rfl ⟨w.heap.size, 0, none⟩ rfl cs _ bx2.row Tryz.underlying48 rfl hsz ?_)
      | (go_at_call 8; refine (cA _ bx1.b).mono ?_; rintro e W2 ⟨rfl, h2⟩; have bx2 := bx1.next h2)
      | (go_at_call 7; refine cS.mono ?_; rintro e W1 ⟨rfl, h1⟩; have bx1 := bx0.next h1))
    go_ret
    exact ⟨rfl, bx3.b⟩
  have d0 : decide (known < 0) = false := by simpa using k0
  have d1 : decide (16777216 < known) = false := by simpa using k1
  by_cases ea : za = 0
  rotate_left
  · have n1 : (za != 0) = true := by simpa using ea
    have n2 : (za == 0) = false := by simpa using ea
    go_wp2_with (first
      | (go_at_call 9; refine (dA _ bx3.b).mono ?_; rintro e W4 ⟨rfl, h4⟩; have bx4 := bx3.next h4)
      | (go_at_call 13; refine (cF _ bx2).mono ?_; rintro e W3 ⟨rfl, h3⟩; have bx3 := bx2.next h3)
      | ((with_reducible change wpList _ _ _ (⟨_, .load 48 _, _, _, _, some _⟩ :: _) _ W2); refine wpList_load_want (by rfl) 48 _ rfl ⟨w.heap.size, 0, none⟩ rfl cs _ bx2.row Tryz.underlying48 rfl hsz ?_)
      | (go_at_call 8; refine (cA _ bx1.b).mono ?_; rintro e W2 ⟨rfl, h2⟩; have bx2 := bx1.next h2)
      | (go_at_call 7; refine cS.mono ?_; rintro e W1 ⟨rfl, h1⟩; have bx1 := bx0.next h1))
    go_ret
    exact ⟨rfl, bx4.b⟩
  subst ea
  have La := (Ldg.checkR_zero (st := st) (chk := chk) hC.st).1 Hza.out
  have hla : la.length ≤ 16 := few_len Hfa.out
  obtain ⟨q1, q2, q3, q4, q5⟩ := Ldg.law_times (st := st) (chk := chk) (hst := hC.st) La known later hl0
  have qp := fun z (hp : Ldg.putR st chk la x = .ok z) (hk : known < Ldg.kn st x) => Ldg.law_times_put (st := st) (chk := chk) (hst := hC.st) hp hk
  obtain ⟨u1, hu1⟩ : ∃ u, Ldg.uptoR st la known = u := ⟨_, rfl⟩
  obtain ⟨u2, hu2⟩ : ∃ u, Ldg.uptoR st la (known + later) = u := ⟨_, rfl⟩
  rw [hu1, hu2] at q1 q3
  rw [hu2] at q2 q4
  rw [hu1] at q5
  simp only [hu1] at qp
  have e5 := (Ldg.checkR_zero (st := st) (chk := chk) hC.st).2 q5
  have U1 := fun W (h : Below w.heap.size w W) => upto_ok hC A ca la u1 known W (Kd.C_below ha h) (hC.keep _ _ hGw h) Hza.out hu1
  have U2 := fun W (h : Below w.heap.size w W) => upto_ok hC A ca la u2 (known + later) W (Kd.C_below ha h) (hC.keep _ _ hGw h) Hza.out hu2
  have Q3 := Lib.hid q3
  have Q4 := Lib.hid q4
  have E5 := Lib.hid e5
  clear hu1 hu2 q3 q4 e5
  have y1 : ∀ (X : Option Addr) (V : World), Kd.C k48 V X u2.length u2 → Kd.C k48 V X u1.length u1 := fun X V h => by
    have := C_take u1.length q1 h
    rwa [← Q3.out] at this
  have y2 : ∀ (X : Option Addr) (V : World), Kd.C k48 V X la.length la → Kd.C k48 V X u2.length u2 := fun X V h => by
    have := C_take u2.length q2 h
    rwa [← Q4.out] at this
  have s2 := fun (X : Option Addr) (c : Nat) V W (hX : Kd.C k48 V X u2.length u2) (h : Below V.heap.size V W) (b : Below w.heap.size w W) => same_yes X A c ca u2 W (Kd.C_below hX h) (y2 A W (Kd.C_below ha b))
  have k5 := fun (X : Option Addr) (c : Nat) V W (hX : Kd.C k48 V X u1.length u1) (h : Below V.heap.size V W) (b : Below w.heap.size w W) => check_any hC X c u1 W (Kd.C_below hX h) (hC.keep _ _ hGw b)
  rw [E5.out] at k5
  have PU := fun W (h : Boxd w x cs W) => put_any hC A ca la x cs W (Kd.C_below ha h.b) hca h.k (hC.keep _ _ hGw h.b)
  obtain ⟨p, hp⟩ : ∃ p, Ldg.putR st chk la x = p := ⟨_, rfl⟩
  rw [hp] at PU
  obtain ⟨g0, g1, g2⟩ := sc
  cases p with
  | error z =>
    have n1 : (z != 0) = true := by simpa using put_err hp
    have n2 : (z == 0) = false := by simpa using put_err hp
    obtain ⟨ka, kb, KG⟩ := known_gen x.f0
    clear hp qp
    go_wp2_with (first
      | (go_at_call 15; refine (KG _).mono ?_; rintro e W11 ⟨rfl, h11⟩; have bx11 := bx10.next h11)
      | (go_at_call 11; refine (PU _ bx9).mono ?_; rintro e W10 ⟨h10, rfl⟩; have bx10 := bx9.next h10; have c0 := bx10.at_ g0; have c1 := bx10.at_ g1; have c2 := bx10.at_ g2)
      | (go_at_call 9; refine (k5 _ _ _ _ C1 (tr2 (tr2 h6 h7) h8) bx8.b).mono ?_; rintro e W9 ⟨rfl, h9⟩; have bx9 := bx8.next h9)
      | (go_at_call 12; refine (s2 _ _ _ _ C2 h7 bx7.b).mono ?_; rintro e W8 ⟨rfl, h8⟩; have bx8 := bx7.next h8)
      | (go_at_call 12; refine (same_yes X1 X2 x1 x2 u1 _ (Kd.C_below C1 h6) (y1 _ _ C2)).mono ?_; rintro e W7 ⟨rfl, h7⟩; have bx7 := bx6.next h7)
      | (go_at_call 14; refine (U2 _ bx5.b).mono ?_; rintro e W6 ⟨h6, X2, x2, rfl, l2, C2⟩; have bx6 := bx5.next h6)
      | (go_at_call 14; refine (U1 _ bx4.b).mono ?_; rintro e W5 ⟨h5, X1, x1, rfl, l1, C1⟩; have bx5 := bx4.next h5)
      | (go_at_call 9; refine (dA _ bx3.b).mono ?_; rintro e W4 ⟨rfl, h4⟩; have bx4 := bx3.next h4)
      | (go_at_call 13; refine (cF _ bx2).mono ?_; rintro e W3 ⟨rfl, h3⟩; have bx3 := bx2.next h3)
      | ((with_reducible change wpList _ _ _ (⟨_, .load 48 _, _, _, _, some _⟩ :: _) _ W2); refine wpList_load_want (by rfl) 48 _ rfl ⟨w.heap.size, 0, none⟩ rfl cs _ bx2.row Tryz.underlying48 rfl hsz ?_)
      | ((with_reducible change wpList _ _ _ (⟨_, .load 48 _, _, _, _, none⟩ :: _) _ W9); refine wpList_load_at rfl 48 _ rfl ⟨w.heap.size, 0, none⟩ rfl cs _ bx9.row Tryz.underlying48 rfl hsz ?_)
      | (go_at_call 8; refine (cA _ bx1.b).mono ?_; rintro e W2 ⟨rfl, h2⟩; have bx2 := bx1.next h2)
      | (go_at_call 7; refine cS.mono ?_; rintro e W1 ⟨rfl, h1⟩; have bx1 := bx0.next h1))
    go_ret
    exact ⟨by first | rfl | simp, bx11.b⟩
  | ok zl =>
    have hchk := ((Ldg.putR_ok (st := st) (chk := chk) hC.st).1 hp).2.1
    have cK := fun W => known_any x.f0.f0 x.f0.f1 x.f0.f2 W (hC.st _ hchk)
    obtain ⟨kn, hkn⟩ : ∃ kn, 8 * x.f0.f0 + x.f0.f1 = kn := ⟨_, rfl⟩
    rw [hkn] at cK
    have e : Ldg.kn st x = kn := hkn
    have qz := qp zl hp
    rw [e] at qz
    clear hp qp hkn e hchk
    by_cases hle : kn ≤ known
    · have d2 : decide (kn ≤ known) = true := by simpa using hle
      clear qz
      go_wp2_with (first
        | (go_at_call 15; refine (cK _).mono ?_; rintro e W11 ⟨rfl, h11⟩; have bx11 := bx10.next h11)
        | (go_at_call 11; refine (PU _ bx9).mono ?_; rintro e W10 ⟨h10, Z, cz, rfl, lz, CZ⟩; have bx10 := bx9.next h10; have c0 := bx10.at_ g0; have c1 := bx10.at_ g1; have c2 := bx10.at_ g2)
        | (go_at_call 9; refine (k5 _ _ _ _ C1 (tr2 (tr2 h6 h7) h8) bx8.b).mono ?_; rintro e W9 ⟨rfl, h9⟩; have bx9 := bx8.next h9)
        | (go_at_call 12; refine (s2 _ _ _ _ C2 h7 bx7.b).mono ?_; rintro e W8 ⟨rfl, h8⟩; have bx8 := bx7.next h8)
        | (go_at_call 12; refine (same_yes X1 X2 x1 x2 u1 _ (Kd.C_below C1 h6) (y1 _ _ C2)).mono ?_; rintro e W7 ⟨rfl, h7⟩; have bx7 := bx6.next h7)
        | (go_at_call 14; refine (U2 _ bx5.b).mono ?_; rintro e W6 ⟨h6, X2, x2, rfl, l2, C2⟩; have bx6 := bx5.next h6)
        | (go_at_call 14; refine (U1 _ bx4.b).mono ?_; rintro e W5 ⟨h5, X1, x1, rfl, l1, C1⟩; have bx5 := bx4.next h5)
        | (go_at_call 9; refine (dA _ bx3.b).mono ?_; rintro e W4 ⟨rfl, h4⟩; have bx4 := bx3.next h4)
        | (go_at_call 13; refine (cF _ bx2).mono ?_; rintro e W3 ⟨rfl, h3⟩; have bx3 := bx2.next h3)
        | ((with_reducible change wpList _ _ _ (⟨_, .load 48 _, _, _, _, some _⟩ :: _) _ W2); refine wpList_load_want (by rfl) 48 _ rfl ⟨w.heap.size, 0, none⟩ rfl cs _ bx2.row Tryz.underlying48 rfl hsz ?_)
        | ((with_reducible change wpList _ _ _ (⟨_, .load 48 _, _, _, _, none⟩ :: _) _ W9); refine wpList_load_at rfl 48 _ rfl ⟨w.heap.size, 0, none⟩ rfl cs _ bx9.row Tryz.underlying48 rfl hsz ?_)
        | (go_at_call 8; refine (cA _ bx1.b).mono ?_; rintro e W2 ⟨rfl, h2⟩; have bx2 := bx1.next h2)
        | (go_at_call 7; refine cS.mono ?_; rintro e W1 ⟨rfl, h1⟩; have bx1 := bx0.next h1))
      go_ret
      exact ⟨by first | rfl | simp, bx11.b⟩
    · have d2 : decide (kn ≤ known) = false := by simpa using hle
      obtain ⟨Lz, hzu⟩ := qz (by omega)
      have ez := (Ldg.checkR_zero (st := st) (chk := chk) hC.st).2 Lz
      have UZ := fun (Z : Option Addr) (cz : Nat) V W (hZ : Kd.C k48 V Z zl.length zl) (h : Below V.heap.size V W) (b : Below w.heap.size w W) => upto_ok hC Z cz zl u1 known W (Kd.C_below hZ h) (hC.keep _ _ hGw b) ez hzu
      clear ez hzu Lz qz
      go_wp2_with (first
        | (go_at_call 12; refine (same_yes X5 X1 x5 x1 u1 _ C5 (Kd.C_below C1 (tr2 (tr2 (tr2 (tr2 (tr2 (tr2 (tr2 h6 h7) h8) h9) h10) h11) h12) (Below.refl _ _)))).mono ?_; rintro e W13 ⟨rfl, h13⟩; have bx13 := bx12.next h13)
        | (go_at_call 14; refine (UZ Z cz _ _ CZ h11 bx11.b).mono ?_; rintro e W12 ⟨h12, X5, x5, rfl, l5, C5⟩; have bx12 := bx11.next h12)
        | (go_at_call 15; refine (cK _).mono ?_; rintro e W11 ⟨rfl, h11⟩; have bx11 := bx10.next h11)
        | (go_at_call 11; refine (PU _ bx9).mono ?_; rintro e W10 ⟨h10, Z, cz, rfl, lz, CZ⟩; have bx10 := bx9.next h10; have c0 := bx10.at_ g0; have c1 := bx10.at_ g1; have c2 := bx10.at_ g2)
        | (go_at_call 9; refine (k5 _ _ _ _ C1 (tr2 (tr2 h6 h7) h8) bx8.b).mono ?_; rintro e W9 ⟨rfl, h9⟩; have bx9 := bx8.next h9)
        | (go_at_call 12; refine (s2 _ _ _ _ C2 h7 bx7.b).mono ?_; rintro e W8 ⟨rfl, h8⟩; have bx8 := bx7.next h8)
        | (go_at_call 12; refine (same_yes X1 X2 x1 x2 u1 _ (Kd.C_below C1 h6) (y1 _ _ C2)).mono ?_; rintro e W7 ⟨rfl, h7⟩; have bx7 := bx6.next h7)
        | (go_at_call 14; refine (U2 _ bx5.b).mono ?_; rintro e W6 ⟨h6, X2, x2, rfl, l2, C2⟩; have bx6 := bx5.next h6)
        | (go_at_call 14; refine (U1 _ bx4.b).mono ?_; rintro e W5 ⟨h5, X1, x1, rfl, l1, C1⟩; have bx5 := bx4.next h5)
        | (go_at_call 9; refine (dA _ bx3.b).mono ?_; rintro e W4 ⟨rfl, h4⟩; have bx4 := bx3.next h4)
        | (go_at_call 13; refine (cF _ bx2).mono ?_; rintro e W3 ⟨rfl, h3⟩; have bx3 := bx2.next h3)
        | ((with_reducible change wpList _ _ _ (⟨_, .load 48 _, _, _, _, some _⟩ :: _) _ W2); refine wpList_load_want (by rfl) 48 _ rfl ⟨w.heap.size, 0, none⟩ rfl cs _ bx2.row Tryz.underlying48 rfl hsz ?_)
        | ((with_reducible change wpList _ _ _ (⟨_, .load 48 _, _, _, _, none⟩ :: _) _ W9); refine wpList_load_at rfl 48 _ rfl ⟨w.heap.size, 0, none⟩ rfl cs _ bx9.row Tryz.underlying48 rfl hsz ?_)
        | (go_at_call 8; refine (cA _ bx1.b).mono ?_; rintro e W2 ⟨rfl, h2⟩; have bx2 := bx1.next h2)
        | (go_at_call 7; refine cS.mono ?_; rintro e W1 ⟨rfl, h1⟩; have bx1 := bx0.next h1))
      go_ret
      exact ⟨by first | rfl | simp, bx13.b⟩
end Go.Proofs.Lw
end
section
set_option linter.unusedSimpArgs false
set_option linter.unusedVariables false
namespace Go.Proofs.Lw
open Go.RowKit Go.Sort Go.Proofs.YtehddihmndpgaaaGreatDoorW.PrintWords Go.Proofs.YtehddihmndpgaaaGreatDoorW.PrintMore Go.Proofs.YtehddihmndpgaaaGreatDoor.PLib
attribute [local go_sem] max2_int max_two
attribute [local go_sem high] eqA32
theorem seenGo_snoc : ∀ (l : List Ldg.St) (m : Int) (t : Ldg.St), Ldg.seenGo m (l ++ [t]) = (if Ldg.seenGo m l < t.time then t.time else Ldg.seenGo m l)
  | [], m, t => rfl
  | s :: l, m, t => by simp only [List.cons_append, Ldg.seenGo]; exact seenGo_snoc l _ t
theorem metN_snoc (l : List Ldg.St) (s t : Ldg.St) : Ldg.metN (l ++ [t]) s = Ldg.metN l s + (if t = s then 1 else 0) := by
  unfold Ldg.metN
  rw [List.filter_append, List.length_append]
  by_cases h : t = s <;> simp [h]
theorem metN_le (l : List Ldg.St) (s : Ldg.St) : Ldg.metN l s ≤ l.length := List.length_filter_le _ _
theorem next_any (t c n s : Int) (w : World) (h1 : 0 ≤ t) (h2 : t ≤ 1048576) (h3 : 0 ≤ c) (h4 : c ≤ 6) (h5 : 0 ≤ n) (h6 : n ≤ 1048576) (h7 : 0 ≤ s) (h8 : s ≤ 1048576) :
    ∃ a b d z : Int, (z = 0 ∧ a = 1 + mx t s ∧ b = c ∧ d = 1 + n ∨ z = 2) ∧ ∀ w, Calls Tryz.prog 17 #[.agg #[.int .i64 t, .int .i64 c, .int .i64 n], .int .i64 s] w fun e w' => e = .returned (.tuple #[.agg #[.int .i64 a, .int .i64 b, .int .i64 d], .int .i64 z]) ∧ Below w.heap.size w w' := by
  have m1 : 0 ≤ mx t s ∧ mx t s ≤ 1048576 := by unfold mx; split <;> omega
  have e1 : wrap64 (1 + mx t s) = 1 + mx t s := by unfold wrap64; omega
  have e2 : wrap64 (1 + n) = 1 + n := by unfold wrap64; omega
  have hf := scheck_f ⟨1 + mx t s, c, 1 + n⟩
  have hn : ∀ r, stamps_Next.j0 1 s false t c n 0 0 0 = some r → stamps_Next.f 1 t c n s = some r := fun r h => by
    unfold stamps_Next.f stamps_within.f
    simp [h1, h2, h3, h4, h5, h6, h7, h8, h]
  by_cases h : Ldg.StOK ⟨1 + mx t s, c, 1 + n⟩
  · rw [if_pos h] at hf
    refine ⟨1 + mx t s, c, 1 + n, 0, .inl ⟨rfl, rfl, rfl, rfl⟩, fun w => stamps_Next.calls 1 t c n s _ _ _ _ w (hn _ ?_)⟩
    dsimp only at hf
    simp [stamps_Next.j0, e1, e2, hf]
  · rw [if_neg h] at hf
    refine ⟨0, 0, 0, 2, .inr rfl, fun w => stamps_Next.calls 1 t c n s _ _ _ _ w (hn _ ?_)⟩
    dsimp only at hf
    simp [stamps_Next.j0, e1, e2, hf]
theorem k48_stamp {w : World} {x : S48} {cs : List Value} (hx : k48.K w x cs) (a b c : Int) : k48.K w { x with f0 := ⟨a, b, c⟩ } (((cs.set 0 (.int .i64 a)).set 1 (.int .i64 b)).set 2 (.int .i64 c)) := by
  obtain ⟨A5, c5, A6, c6, A7, c7, A9, c9, rfl, l5, h5, l6, h6, l7, h7, l9, h9⟩ := k48_open hx
  exact k48_mk w { x with f0 := ⟨a, b, c⟩ } l5 h5 l6 h6 l7 h7 l9 h9
theorem idx_new (y : S48) : ∀ (l : List S48) (k : Nat), (∀ e ∈ l, st e ≠ st y) → idxR y (l ++ [y]) k = (k : Int) + l.length := by
  intro l
  induction l with
  | nil => intro k _; simp [idxR]
  | cons e l ih =>
    intro k h
    have h1 := h e (by simp)
    have h2 := ih (k + 1) (fun u hu => h u (by simp [hu]))
    simp only [List.cons_append, idxR, List.length_cons]
    simp [h1, h2]
    omega
/-- What Put of the next entry answers. -/
def NewPost (w : World) (n : Nat) (e : Ending) (w' : World) : Prop := Below w.heap.size w w' ∧ ∃ X c, e = .returned (.tuple #[.slice X (n + 1) c, .int .i64 n, .int .i64 0])
theorem new_put {w : World} {l : List S48} {y : S48} {e : Ending} {w' : World} (h : ∀ u ∈ l, st u ≠ st y) (hp : PutPost y w (.ok (l ++ [y])) e w') : NewPost w l.length e w' := by
  obtain ⟨h1, X, c, rfl, _, _⟩ := hp
  refine ⟨h1, X, c, ?_⟩
  rw [idx_new y l 0 h]
  simp
theorem times_le {G : World → Prop} {chk : S48 → Int} (hC : Chk G chk) {l : List S48} (L : Ldg.Led st chk l) : 0 ≤ Ldg.seenGo 0 (l.map st) ∧ Ldg.seenGo 0 (l.map st) ≤ 1048576 :=
  ⟨(Ldg.seenGo_ge _ 0).1, Ldg.seenGo_le 1048576 _ 0 (by omega) fun t ht => by
    obtain ⟨e, he, rfl⟩ := List.mem_map.1 ht
    exact (hC.st e (L.ok e he)).2.1⟩
set_option maxHeartbeats 8000000
set_option maxRecDepth 100000 in
theorem lastlaw_any {G : World → Prop} {chk : S48 → Int} (hC : Chk G chk) (hS : Sane G) (A : Option Addr) (ca : Nat) (la : List S48) (cp : Int) (x : S48) (cs : List Value) (w : World) (ha : Kd.C k48 w A la.length la) (hca : la.length ≤ ca) (hx : k48.K w x cs) (hc0 : 0 ≤ cp) (hc1 : cp ≤ 255) (hGw : G w) :
    Calls Tryz.prog 6 #[.slice A la.length ca, .int .u8 cp, .agg cs.toArray] w fun e w' => e = .returned (.bool true) ∧ Below w.heap.size w w' := by
  have hcl := k48_len hx
  have hsz : (Tryz.prog.info? 48).map (·.size) = some cs.length := by rw [hcl]; exact info48
  have hone := k48_one hx
  have bx0 := boxd w x cs hx
  obtain ⟨W0, hW0⟩ : ∃ W0, w.alloc (.cells cs.toArray 48) = W0 := ⟨_, rfl⟩
  rw [hW0] at bx0
  have hr0 : W0.heap[w.heap.size]? = some (.cells cs.toArray 48 (0, 0)) := by rw [← hW0]; exact heap_alloc_new w _
  have cS := hS W0 (hC.keep _ _ hGw bx0.b)
  have cA := fun W (h : Below w.heap.size w W) => few_any A ca la W (Kd.C_below ha h)
  have cF := fun W (h : Boxd w x cs W) => fewE_any x cs W h.k
  have dA := fun W (h : Below w.heap.size w W) => check_any hC A ca la W (Kd.C_below ha h) (hC.keep _ _ hGw h)
  obtain ⟨fa, hfa⟩ : ∃ b, few la = b := ⟨_, rfl⟩
  obtain ⟨fx, hfx⟩ : ∃ b, fewE x = b := ⟨_, rfl⟩
  obtain ⟨za, hza⟩ : ∃ b, Ldg.checkR st chk la = b := ⟨_, rfl⟩
  rw [hfa] at cA
  simp only [hfx] at cF
  rw [hza] at dA
  have Hfa := Lib.hid hfa
  have Hza := Lib.hid hza
  have Hr0 := Lib.hid hr0
  clear hfa hfx hza hr0
  go_enter Tryz.func6, Tryz.ntmps6
  cases fa
  · go_wp2_with (first
      | (go_at_call 8; refine (cA _ bx1.b).mono ?_; rintro e W2 ⟨rfl, h2⟩; have bx2 := bx1.next h2)
      | (go_at_call 7; refine cS.mono ?_; rintro e W1 ⟨rfl, h1⟩; have bx1 := bx0.next h1))
    go_ret
    exact ⟨rfl, bx2.b⟩
  cases fx
  · go_wp2_with (first
      | (go_at_call 13; refine (cF _ bx2).mono ?_; rintro e W3 ⟨rfl, h3⟩; have bx3 := bx2.next h3)
      | ((with_reducible change wpList _ _ _ (⟨_, .load 48 _, _, _, _, some _⟩ :: _) _ W2); refine wpList_load_want (by rfl) 48 _ rfl ⟨w.heap.size, 0, none⟩ rfl cs _ bx2.row Tryz.underlying48 rfl hsz ?_)
      | (go_at_call 8; refine (cA _ bx1.b).mono ?_; rintro e W2 ⟨rfl, h2⟩; have bx2 := bx1.next h2)
      | (go_at_call 7; refine cS.mono ?_; rintro e W1 ⟨rfl, h1⟩; have bx1 := bx0.next h1))
    go_ret
    exact ⟨rfl, bx3.b⟩
  by_cases ea : za = 0
  rotate_left
  · have n1 : (za != 0) = true := by simpa using ea
    have n2 : (za == 0) = false := by simpa using ea
    go_wp2_with (first
      | (go_at_call 9; refine (dA _ bx3.b).mono ?_; rintro e W4 ⟨rfl, h4⟩; have bx4 := bx3.next h4)
      | (go_at_call 13; refine (cF _ bx2).mono ?_; rintro e W3 ⟨rfl, h3⟩; have bx3 := bx2.next h3)
      | ((with_reducible change wpList _ _ _ (⟨_, .load 48 _, _, _, _, some _⟩ :: _) _ W2); refine wpList_load_want (by rfl) 48 _ rfl ⟨w.heap.size, 0, none⟩ rfl cs _ bx2.row Tryz.underlying48 rfl hsz ?_)
      | (go_at_call 8; refine (cA _ bx1.b).mono ?_; rintro e W2 ⟨rfl, h2⟩; have bx2 := bx1.next h2)
      | (go_at_call 7; refine cS.mono ?_; rintro e W1 ⟨rfl, h1⟩; have bx1 := bx0.next h1))
    go_ret
    exact ⟨rfl, bx4.b⟩
  subst ea
  have La := (Ldg.checkR_zero (st := st) (chk := chk) hC.st).1 Hza.out
  have hla : la.length ≤ 16 := few_len Hfa.out
  obtain ⟨c, hc⟩ : ∃ c, cp % 7 = c := ⟨_, rfl⟩
  have hcr : 0 ≤ c ∧ c ≤ 6 := by omega
  obtain ⟨q1, q2, q3, q4, q5, q6, q7⟩ := Ldg.law_last (st := st) (chk := chk) (hst := hC.st) La c
  have qn := fun n (hn : chk n = 0) => Ldg.law_next (st := st) (chk := chk) (hst := hC.st) La (by omega) c n hn
  obtain ⟨L, hL⟩ : ∃ L, Ldg.lastR st la c = L := ⟨_, rfl⟩
  have cL := fun W (h : Below w.heap.size w W) => last_any A ca la c W (Kd.C_below ha h)
  simp only [hL] at q1 q2 q3 q4 q5 q6 q7 qn cL
  obtain ⟨hc2, hc3⟩ := hcr
  have Q1 := Lib.hid q1
  have Q7 := Lib.hid q7
  clear hL q1 q7
  go_wp2_with (first
    | (refine wpList_store_new rfl 32 _ _ rfl #[.int .i64 L.time, .int .i64 L.campus, .int .i64 L.no] _ _ rfl rfl info32 rfl rfl ?_)
    | (go_at_call 16; refine (cL _ bx4.b).mono ?_; rintro e W5 ⟨rfl, h5⟩; have bx5 := bx4.next h5)
    | (go_at_call 9; refine (dA _ bx3.b).mono ?_; rintro e W4 ⟨rfl, h4⟩; have bx4 := bx3.next h4)
    | (go_at_call 13; refine (cF _ bx2).mono ?_; rintro e W3 ⟨rfl, h3⟩; have bx3 := bx2.next h3)
    | ((with_reducible change wpList _ _ _ (⟨_, .load 48 _, _, _, _, some _⟩ :: _) _ W2); refine wpList_load_want (by rfl) 48 _ rfl ⟨w.heap.size, 0, none⟩ rfl cs _ bx2.row Tryz.underlying48 rfl hsz ?_)
    | (go_at_call 8; refine (cA _ bx1.b).mono ?_; rintro e W2 ⟨rfl, h2⟩; have bx2 := bx1.next h2)
    | (go_at_call 7; refine cS.mono ?_; rintro e W1 ⟨rfl, h1⟩; have bx1 := bx0.next h1))
  obtain ⟨W6, hW6⟩ : ∃ W6, W5.alloc (Obj.cells #[.int .i64 L.time, .int .i64 L.campus, .int .i64 L.no] 32) = W6 := ⟨_, rfl⟩
  have hb6 : W6.heap[W5.heap.size]? = some (.cells #[.int .i64 L.time, .int .i64 L.campus, .int .i64 L.no] 32 (0, 0)) := by rw [← hW6]; exact heap_alloc_new W5 _
  have bx6 : Boxd w x cs W6 := by rw [← hW6]; exact bx5.next ((Below.refl _ _).alloc (Nat.le_refl _) _)
  rw [hW6]
  have Hb6 := Lib.hid hb6
  have b06 : Below W0.heap.size W0 W6 := by rw [← hW6]; exact tr2 (tr2 (tr2 (tr2 (tr2 h1 h2) h3) h4) h5) ((Below.refl _ _).alloc (Nat.le_refl _) _)
  clear hW6 hb6
  go_loopw [9, 10, 11] (fun m s i wr => ∃ (k : Nat) (mn : Nat) (sn : Int), k ≤ la.length ∧ i = .int .i64 k ∧ m = .int .i64 mn ∧ s = .int .i64 sn ∧ Hid (mn = Ldg.metN ((la.take k).map st) L) ∧ Hid (sn = Ldg.seenGo 0 ((la.take k).map st)) ∧ Below W6.heap.size W6 wr) (fun _ _ i _ => la.length - (intOf i).toNat)
  case atStart => exact ⟨0, 0, 0, Nat.zero_le _, rfl, rfl, rfl, Lib.hid (by simp [Ldg.metN]), Lib.hid (by simp [Ldg.seenGo]), Below.refl _ _⟩
  case round =>
    obtain ⟨k, mn, sn, hk, rfl, rfl, rfl, hm, hs, hB⟩ := hrel
    have bw := bx6.next hB
    have hmle : mn ≤ 16 := by
      have := metN_le ((la.take k).map st) L
      rw [← hm.out] at this
      simp at this
      omega
    have hbr : wr.heap[W5.heap.size]? = some (.cells #[.int .i64 L.time, .int .i64 L.campus, .int .i64 L.no] 32 (0, 0)) := (hB.block _ (Array.getElem?_eq_some_iff.1 Hb6.out).1).trans Hb6.out
    by_cases hlt : k < la.length
    · obtain ⟨ad, ys, rfl, hK, hcell⟩ := ent_at ha k hlt
      have hcw : ∀ j u, ys[j]? = some u → wr.cell? ((ad.add (k * 31)).add j) = some u := fun j u hu => pw_cell_below bw.b (hcell j u hu)
      have hok := hC.st _ (La.ok la[k] (List.getElem_mem hlt))
      have h6 := q6 la[k] (List.getElem_mem hlt)
      have hm' : Ldg.metN ((la.take (k + 1)).map st) L = mn + (if st la[k] = L then 1 else 0) := by
        rw [List.take_add_one, List.getElem?_eq_getElem hlt, Option.toList_some, List.map_append, List.map_cons, List.map_nil, metN_snoc, ← hm.out]
      have hs' : Ldg.seenGo 0 ((la.take (k + 1)).map st) = (if sn < (st la[k]).time then (st la[k]).time else sn) := by
        rw [List.take_add_one, List.getElem?_eq_getElem hlt, Option.toList_some, List.map_append, List.map_cons, List.map_nil, seenGo_snoc, ← hs.out]
      obtain ⟨y, hy⟩ : ∃ y, la[k] = y := ⟨_, rfl⟩
      rw [hy] at hK hok h6 hm' hs'
      obtain ⟨g0, g1, g2⟩ := k48_head hK
      have hc3w : ∀ j u, [Value.int .i64 y.f0.f0, .int .i64 y.f0.f1, .int .i64 y.f0.f2][j]? = some u → wr.cell? ((ad.add (k * 31)).add j) = some u := by
        intro j u hu
        match j with
        | 0 => exact hcw 0 u (by rw [g0]; simpa using hu)
        | 1 => exact hcw 1 u (by rw [g1]; simpa using hu)
        | 2 => exact hcw 2 u (by rw [g2]; simpa using hu)
        | j + 3 => simp at hu
      obtain ⟨V, hV⟩ : ∃ V, wr.alloc (Obj.cells #[.int .i64 y.f0.f0, .int .i64 y.f0.f1, .int .i64 y.f0.f2] 32) = V := ⟨_, rfl⟩
      have hbv : V.heap[wr.heap.size]? = some (.cells #[.int .i64 y.f0.f0, .int .i64 y.f0.f1, .int .i64 y.f0.f2] 32 (0, 0)) := by rw [← hV]; exact heap_alloc_new wr _
      have hbV : Below wr.heap.size wr V := by rw [← hV]; exact (Below.refl _ _).alloc (Nat.le_refl _) _
      have hbo := (hbV.block _ (Array.getElem?_eq_some_iff.1 hbr).1).trans hbr
      obtain ⟨p0, p1, p2⟩ := bc3 hbv
      obtain ⟨r0, r1, r2⟩ := bc3 hbo
      have hpv := row_at (cs := [.int .i64 y.f0.f0, .int .i64 y.f0.f1, .int .i64 y.f0.f2]) hbv
      have hpo := row_at (cs := [.int .i64 L.time, .int .i64 L.campus, .int .i64 L.no]) hbo
      have bV := bw.next hbV
      have HB := Lib.hid (tr2 hB hbV)
      have Hm := Lib.hid hm'
      have Hs := Lib.hid hs'
      clear hm' hs' hm hs hy hcell hcw hB hbV hbv hbo hbr g0 g1 g2
      obtain ⟨o1, o2, o3, o4, o5, o6⟩ := hok
      obtain ⟨bq, hq⟩ : ∃ b, (y.f0.f0 == L.time && (y.f0.f1 == L.campus && (y.f0.f2 == L.no))) = b := ⟨_, rfl⟩
      by_cases ec : y.f0.f1 = c
      · obtain ⟨z1, z2⟩ := h6 ec
        have d1 : (y.f0.f1 == c) = true := by simpa using ec
        have d2 : decide (L.no < y.f0.f2) = false := by simpa [st] using z1
        have d3 : decide (L.time < y.f0.f0) = false := by simpa [st] using z2
        have Ec := Lib.hid ec
        have Hq := Lib.hid hq
        clear ec z1 z2 h6 hq
        go_wp2_with (first
          | ((with_reducible change wpList _ _ _ (⟨_, .store 32 _ _, _, _, _, none⟩ :: _) _ _); refine wpList_store_new rfl 32 _ _ rfl #[.int .i64 y.f0.f0, .int .i64 y.f0.f1, .int .i64 y.f0.f2] _ _ rfl rfl info32 rfl rfl ?_)
          | ((with_reducible change wpList _ _ _ (⟨_, .load 32 (.tmp 48), _, _, _, none⟩ :: _) _ wr); refine wpList_load_at rfl 32 _ rfl (ad.add (k * 31)) rfl [.int .i64 y.f0.f0, .int .i64 y.f0.f1, .int .i64 y.f0.f2] _ hc3w Tryz.underlying32 rfl info32 ?_)
          | ((with_reducible change wpList _ _ _ (⟨_, .load 32 (.tmp 12), _, _, _, none⟩ :: _) _ V); refine wpList_load_at rfl 32 _ rfl ⟨wr.heap.size, 0, none⟩ rfl [.int .i64 y.f0.f0, .int .i64 y.f0.f1, .int .i64 y.f0.f2] _ hpv Tryz.underlying32 rfl info32 ?_)
          | ((with_reducible change wpList _ _ _ (⟨_, .load 32 (.tmp 8), _, _, _, none⟩ :: _) _ V); refine wpList_load_at rfl 32 _ rfl ⟨W5.heap.size, 0, none⟩ rfl [.int .i64 L.time, .int .i64 L.campus, .int .i64 L.no] _ hpo Tryz.underlying32 rfl info32 ?_))
        · have Hm2 : Hid (mn + 1 = Ldg.metN (List.map st (List.take (k + 1) la)) L) := Lib.hid (by
            have a := ‹(y.f0.f0 == L.time) = true ∧ (y.f0.f1 == L.campus) = true ∧ (y.f0.f2 == L.no) = true›
            have e : st y = L := Ldg.St.ext_ (beq_iff_eq.1 a.1) (beq_iff_eq.1 a.2.1) (beq_iff_eq.1 a.2.2)
            rw [Hm.out, if_pos e])
          go_roundw
          case rel => exact ⟨k + 1, mn + 1, _, by omega, by go_num, by go_num, rfl, Hm2, Lib.hid Hs.out.symm, HB.out⟩
          case measure => simp [intOf]; omega
        · have Hm2 : Hid (mn = Ldg.metN (List.map st (List.take (k + 1) la)) L) := Lib.hid (by
            have a := ‹(y.f0.f0 == L.time) = false ∨ (y.f0.f1 == L.campus) = false ∨ (y.f0.f2 == L.no) = false›
            have e : ¬ st y = L := by rintro rfl; simp [st] at a
            rw [Hm.out, if_neg e]; rfl)
          go_roundw
          case rel => exact ⟨k + 1, mn, _, by omega, by go_num, rfl, rfl, Hm2, Lib.hid Hs.out.symm, HB.out⟩
          case measure => simp [intOf]; omega
      · have d1 : (y.f0.f1 == c) = false := by simpa using ec
        clear ec h6 hq
        go_wp2_with (first
          | ((with_reducible change wpList _ _ _ (⟨_, .store 32 _ _, _, _, _, none⟩ :: _) _ _); refine wpList_store_new rfl 32 _ _ rfl #[.int .i64 y.f0.f0, .int .i64 y.f0.f1, .int .i64 y.f0.f2] _ _ rfl rfl info32 rfl rfl ?_)
          | ((with_reducible change wpList _ _ _ (⟨_, .load 32 (.tmp 48), _, _, _, none⟩ :: _) _ wr); refine wpList_load_at rfl 32 _ rfl (ad.add (k * 31)) rfl [.int .i64 y.f0.f0, .int .i64 y.f0.f1, .int .i64 y.f0.f2] _ hc3w Tryz.underlying32 rfl info32 ?_)
          | ((with_reducible change wpList _ _ _ (⟨_, .load 32 (.tmp 12), _, _, _, none⟩ :: _) _ V); refine wpList_load_at rfl 32 _ rfl ⟨wr.heap.size, 0, none⟩ rfl [.int .i64 y.f0.f0, .int .i64 y.f0.f1, .int .i64 y.f0.f2] _ hpv Tryz.underlying32 rfl info32 ?_)
          | ((with_reducible change wpList _ _ _ (⟨_, .load 32 (.tmp 8), _, _, _, none⟩ :: _) _ V); refine wpList_load_at rfl 32 _ rfl ⟨W5.heap.size, 0, none⟩ rfl [.int .i64 L.time, .int .i64 L.campus, .int .i64 L.no] _ hpo Tryz.underlying32 rfl info32 ?_))
        · have Hm2 : Hid (mn + 1 = Ldg.metN (List.map st (List.take (k + 1) la)) L) := Lib.hid (by
            have a := ‹(y.f0.f0 == L.time) = true ∧ (y.f0.f1 == L.campus) = true ∧ (y.f0.f2 == L.no) = true›
            have e : st y = L := Ldg.St.ext_ (beq_iff_eq.1 a.1) (beq_iff_eq.1 a.2.1) (beq_iff_eq.1 a.2.2)
            rw [Hm.out, if_pos e])
          go_roundw
          case rel => exact ⟨k + 1, mn + 1, _, by omega, by go_num, by go_num, rfl, Hm2, Lib.hid Hs.out.symm, HB.out⟩
          case measure => simp [intOf]; omega
        · have Hm2 : Hid (mn = Ldg.metN (List.map st (List.take (k + 1) la)) L) := Lib.hid (by
            have a := ‹(y.f0.f0 == L.time) = false ∨ (y.f0.f1 == L.campus) = false ∨ (y.f0.f2 == L.no) = false›
            have e : ¬ st y = L := by rintro rfl; simp [st] at a
            rw [Hm.out, if_neg e]; rfl)
          go_roundw
          case rel => exact ⟨k + 1, mn, _, by omega, by go_num, rfl, rfl, Hm2, Lib.hid Hs.out.symm, HB.out⟩
          case measure => simp [intOf]; omega
    · have ek : la.take k = la := List.take_of_length_le (by omega)
      have hm2 := hm.out
      have hs2 := hs.out
      rw [ek] at hm2 hs2
      have hsn := times_le hC La
      rw [← hs2] at hsn
      have q7 := Q7.out
      rw [← hm2] at q7
      have q1 := Q1.out
      obtain ⟨a, b, d, z, hz, cN⟩ := next_any L.time L.campus L.no sn w q2 q3 (by omega) (by omega) q4 q5 hsn.1 hsn.2
      have n1 : (L.campus != c) = false := by simpa using q1
      have n2 : (L.campus == c) = true := by simpa using q1
      obtain ⟨r0, r1, r2⟩ := bc3 hbr
      have hpr := row_at (cs := [.int .i64 L.time, .int .i64 L.campus, .int .i64 L.no]) hbr
      have q1' := Lib.hid q1
      have hs3 := Lib.hid hs2
      have b0r := tr2 b06 hB
      have Hbr := Lib.hid hbr
      have Hz := Lib.hid hz
      have hno : ∃ u : Bool, decide (0 < L.no) = u ∧ ((mn : Int) == 1) = u := by
        by_cases h : 0 < L.no
        · exact ⟨true, by simpa using h, by have := q7.1 h; exact beq_iff_eq.2 (by omega)⟩
        · exact ⟨false, by simpa using h, by have : ¬ mn = 1 := fun e => h (q7.2 e); exact beq_eq_false_iff_ne.2 (by omega)⟩
      obtain ⟨u, u1, u2⟩ := hno
      clear ek hm2 hs2 q7 q1 hm hs hbr hz hsn
      by_cases ez : z = 0
      rotate_left
      · obtain rfl : z = 2 := by rcases Hz.out with h | h; exact absurd h.1 ez; exact h
        go_wp2_with (first
          | ((with_reducible change wpList _ _ _ (⟨_, .store 32 _ _, _, _, _, none⟩ :: _) _ _); refine wpList_store_new rfl 32 _ _ rfl #[.int .i64 a, .int .i64 b, .int .i64 d] _ _ rfl rfl info32 rfl rfl ?_)
          | (go_at_call 17; refine (cN _).mono ?_; rintro e W7 ⟨rfl, h7⟩)
          | ((with_reducible change wpList _ _ _ (⟨_, .load 32 (.tmp 8), _, _, _, none⟩ :: _) _ wr); refine wpList_load_at rfl 32 _ rfl ⟨W5.heap.size, 0, none⟩ rfl [.int .i64 L.time, .int .i64 L.campus, .int .i64 L.no] _ (hpr) Tryz.underlying32 rfl info32 ?_))
        go_ret
        exact ⟨by first | rfl | simp, bx6.b.trans ((tr2 hB h7).mono bx6.b.size) |>.alloc (by have := bx6.b.size; have := hB.size; have := h7.size; omega) _⟩
      · subst ez
        obtain ⟨ea, eb, ed⟩ : a = 1 + mx L.time sn ∧ b = L.campus ∧ d = 1 + L.no := by
          rcases Hz.out with h | h
          · exact h.2
          · exact absurd h (by decide)
        have Ea := Lib.hid ea
        have Eb := Lib.hid eb
        have Ed := Lib.hid ed
        clear ea eb ed
        obtain ⟨g0, g1, g2⟩ := k48_head hx
        have hxs := k48_stamp hx a b d
        obtain ⟨y, hy⟩ : ∃ y, ({ x with f0 := ⟨a, b, d⟩ } : S48) = y := ⟨_, rfl⟩
        have hsy : st y = ⟨a, b, d⟩ := by rw [← hy]; rfl
        obtain ⟨cy, hcy⟩ : ∃ cy, ((cs.set 0 (Value.int .i64 a)).set 1 (.int .i64 b)).set 2 (.int .i64 d) = cy := ⟨_, rfl⟩
        rw [hy, hcy] at hxs
        have Hcy := Lib.hid hcy
        have Hsy := Lib.hid hsy
        clear hcy hsy hy
        go_upto_region 21 with (first
          | ((with_reducible change wpList _ _ _ (⟨_, .store 32 _ _, _, _, _, none⟩ :: _) _ _); refine wpList_store_new rfl 32 _ _ rfl #[.int .i64 a, .int .i64 b, .int .i64 d] _ _ rfl rfl info32 rfl rfl ?_)
          | (go_at_call 17; refine (cN _).mono ?_; rintro e W7 ⟨rfl, h7⟩)
          | ((with_reducible change wpList _ _ _ (⟨_, .load 32 (.tmp 8), _, _, _, none⟩ :: _) _ wr); refine wpList_load_at rfl 32 _ rfl ⟨W5.heap.size, 0, none⟩ rfl [.int .i64 L.time, .int .i64 L.campus, .int .i64 L.no] _ (hpr) Tryz.underlying32 rfl info32 ?_))
        obtain ⟨W8, hW8⟩ : ∃ W8, W7.alloc (Obj.cells #[.int .i64 a, .int .i64 b, .int .i64 d] 32) = W8 := ⟨_, rfl⟩
        rw [hW8]
        have b78 : Below W7.heap.size W7 W8 := by rw [← hW8]; exact (Below.refl _ _).alloc (Nat.le_refl _) _
        have hbd : W8.heap[W7.heap.size]? = some (.cells #[.int .i64 a, .int .i64 b, .int .i64 d] 32 (0, 0)) := by rw [← hW8]; exact heap_alloc_new W7 _
        have hpd := row_at (cs := [.int .i64 a, .int .i64 b, .int .i64 d]) hbd
        have bx8 := (bw.next h7).next b78
        have hr8 : W8.heap[w.heap.size]? = some (.cells cs.toArray 48 (0, 0)) := ((tr2 (tr2 b0r h7) b78).block _ (Array.getElem?_eq_some_iff.1 Hr0.out).1).trans Hr0.out
        have c0 := bx8.at_ g0
        have c1 := bx8.at_ g1
        have c2 := bx8.at_ g2
        have fz := froz_at hr8
        have Hr8 := Lib.hid hr8
        clear hW8 hbd hr8
        go_upto_region 22 with (first
          | ((with_reducible change wpList _ _ _ (⟨_, .load 32 (.tmp 13), _, _, _, none⟩ :: _) _ W8); refine wpList_load_at rfl 32 _ rfl ⟨W7.heap.size, 0, none⟩ rfl [.int .i64 a, .int .i64 b, .int .i64 d] _ (hpd) Tryz.underlying32 rfl info32 ?_))
        obtain ⟨W9, hW9⟩ : ∃ W9, ((W8.setCell ⟨w.heap.size, 0, none⟩ (.int .i64 a)).setCell ⟨w.heap.size, 1, none⟩ (.int .i64 b)).setCell ⟨w.heap.size, 2, none⟩ (.int .i64 d) = W9 := ⟨_, rfl⟩
        rw [hW9]
        have hch : Chg W8 W9 w.heap.size cy := by rw [← hW9, ← Hcy.out]; exact ((Chg.set Hr8.out 0 _).set' 1 _).set' 2 _
        have b9 : Below w.heap.size w W9 := hch.below bx8.b (Nat.le_refl _)
        have by9 : Boxd w y cy W9 := ⟨b9, k48.K_below b9 hxs, row_at hch.row⟩
        have hzy : (W9.heap.size = W8.heap.size) := hch.size
        clear hW9 hch c0 c1 c2 fz hpd hzy
        have hsz2 : (Tryz.prog.info? 48).map (·.size) = some cy.length := by rw [k48_len hxs]; exact info48
        have cC := fun W (h : Boxd w y cy W) => hC.call y cy W h.k (hC.keep _ _ hGw h.b)
        have cP := fun W (h : Boxd w y cy W) => put_any hC A ca la y cy W (Kd.C_below ha h.b) hca h.k (hC.keep _ _ hGw h.b)
        obtain ⟨zc, hzc⟩ : ∃ zc, chk y = zc := ⟨_, rfl⟩
        rw [hzc] at cC
        by_cases e0 : zc = 0
        rotate_left
        · have m1 : (zc != 0) = true := by simpa using e0
          have m2 : (zc == 0) = false := by simpa using e0
          go_wp2_with (first
            | (go_at_call 18; refine (cC _ by9).mono ?_; rintro e W10 ⟨rfl, h10⟩; have by10 := by9.next h10)
            | ((with_reducible change wpList _ _ _ (⟨_, .load 48 (.tmp 5), _, _, _, none⟩ :: _) _ W9); refine wpList_load_at rfl 48 _ rfl ⟨w.heap.size, 0, none⟩ rfl cy _ by9.row Tryz.underlying48 rfl hsz2 ?_))
          go_ret
          exact ⟨by first | rfl | simp, by10.b⟩
        · subst e0
          have hs1 := Hsy.out
          obtain ⟨hp, hne⟩ := qn y hzc (by rw [hs1, Ea.out, hs3.out]; unfold mx; rfl) (by rw [hs1, Eb.out, q1'.out]) (by rw [hs1, Ed.out])
          rw [hp] at cP
          have cP2 := fun W h => (cP W h).mono fun e w' hh => new_put hne hh
          clear cP hp hne hs1 qn hzc
          have e1 : IntKind.i64.wrap ((la.length : Int) + 1) = la.length + 1 := IntWalk.i64_in _ (by omega)
          go_wp2_with (first
            | (go_at_call 11; refine (cP2 _ by10).mono ?_; rintro e W11 ⟨h11, X, cX, rfl⟩; have by11 := by10.next h11)
            | (go_at_call 18; refine (cC _ by9).mono ?_; rintro e W10 ⟨rfl, h10⟩; have by10 := by9.next h10)
            | ((with_reducible change wpList _ _ _ (⟨_, .load 48 (.tmp 5), _, _, _, none⟩ :: _) _ W10); refine wpList_load_at rfl 48 _ rfl ⟨w.heap.size, 0, none⟩ rfl cy _ by10.row Tryz.underlying48 rfl hsz2 ?_)
            | ((with_reducible change wpList _ _ _ (⟨_, .load 48 (.tmp 5), _, _, _, none⟩ :: _) _ W9); refine wpList_load_at rfl 48 _ rfl ⟨w.heap.size, 0, none⟩ rfl cy _ by9.row Tryz.underlying48 rfl hsz2 ?_))
          go_ret
          exact ⟨by first | rfl | simp, by11.b⟩
end Go.Proofs.Lw
end
