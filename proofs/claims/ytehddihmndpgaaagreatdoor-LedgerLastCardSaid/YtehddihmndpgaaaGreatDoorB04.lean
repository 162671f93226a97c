import Derived.Deep.MidRow
import Derived.Deep.QuietTactic
import Derived.Laws.Tables
import Derived.Lib.Hide
import Derived.Lib.QuietBelow
import Derived.OrdersIn
import Derived.RangeFuncBound
import Derived.RangeFuncCalls
import Derived.RangeFuncLeaves
import Derived.RangeFuncNested
import Derived.Recover
import Derived.StillTail
import Derived.Test.YtehddihmndpgaaaGreatDoorB03
import Derived.Test.YtehddihmndpgaaaGreatDoorProg
import Derived.WalkKit
section
set_option linter.unusedSectionVars false
set_option linter.unusedSimpArgs false
namespace Go.Proofs.Ldg
structure St where
  time : Int
  campus : Int
  no : Int
theorem St.ext_ {a b : St} (h1 : a.time = b.time) (h2 : a.campus = b.campus) (h3 : a.no = b.no) : a = b := by
  cases a; cases b; simp_all
instance : DecidableEq St := fun a b =>
  if h : a.time = b.time ∧ a.campus = b.campus ∧ a.no = b.no then isTrue (St.ext_ h.1 h.2.1 h.2.2)
  else isFalse (fun e => h (by subst e; exact ⟨rfl, rfl, rfl⟩))
def St.zero : St := ⟨0, 0, 0⟩
def cmpI (x y : Int) : Int := if x < y then -1 else if y < x then 1 else 0
def cmpS (a b : St) : Int :=
  if cmpI a.time b.time ≠ 0 then cmpI a.time b.time else if cmpI a.campus b.campus ≠ 0 then cmpI a.campus b.campus else cmpI a.no b.no
def ltS (a b : St) : Prop := a.time < b.time ∨ (a.time = b.time ∧ (a.campus < b.campus ∨ (a.campus = b.campus ∧ a.no < b.no)))
instance (a b : St) : Decidable (ltS a b) := by unfold ltS; exact inferInstance
theorem cmpS_self (a : St) : cmpS a a = 0 := by unfold cmpS cmpI; simp
theorem cmpS_lt {a b : St} : cmpS a b < 0 ↔ ltS a b := by
  unfold cmpS cmpI ltS
  repeat' split
  all_goals omega
theorem cmpS_ge {a b : St} : 0 ≤ cmpS a b ↔ ¬ ltS a b := by rw [← cmpS_lt]; omega
theorem ltS_irrefl (a : St) : ¬ ltS a a := by unfold ltS; omega
theorem ltS_trans {a b c : St} (h : ltS a b) (k : ltS b c) : ltS a c := by unfold ltS at *; omega
theorem ltS_asymm {a b : St} (h : ltS a b) : ¬ ltS b a := fun k => ltS_irrefl a (ltS_trans h k)
theorem ltS_tri (a b : St) : ltS a b ∨ a = b ∨ ltS b a := by
  by_cases h : ltS a b
  · exact .inl h
  · by_cases k : ltS b a
    · exact .inr (.inr k)
    · refine .inr (.inl (St.ext_ ?_ ?_ ?_)) <;> (unfold ltS at h k; omega)
/-- What 'fit' asks of an earlier and a later stamp. -/
def Fits (a b : St) : Prop := ltS a b ∧ (a.campus = b.campus → a.time < b.time ∧ a.no < b.no)
instance (a b : St) : Decidable (Fits a b) := by unfold Fits; exact inferInstance
def StOK (s : St) : Prop := 1 ≤ s.time ∧ s.time ≤ 1048576 ∧ 0 ≤ s.campus ∧ s.campus ≤ 6 ∧ 1 ≤ s.no ∧ s.no ≤ 1048576
def fitBad (p : Option St) (last : Int → St) (s : St) : Prop :=
  (∃ q, p = some q ∧ 0 ≤ cmpS q s) ∨ (0 < (last s.campus).no ∧ (s.time ≤ (last s.campus).time ∨ s.no ≤ (last s.campus).no))
instance (p : Option St) (last : Int → St) (s : St) : Decidable (fitBad p last s) := by
  unfold fitBad
  cases p with
  | none => exact decidable_of_iff (0 < (last s.campus).no ∧ (s.time ≤ (last s.campus).time ∨ s.no ≤ (last s.campus).no)) (by simp)
  | some q => exact decidable_of_iff (0 ≤ cmpS q s ∨ 0 < (last s.campus).no ∧ (s.time ≤ (last s.campus).time ∨ s.no ≤ (last s.campus).no)) (by simp)
def upd (last : Int → St) (s : St) : Int → St := fun c => if c = s.campus then s else last c
def fitGo : Option St → (Int → St) → List St → Bool
  | _, _, [] => true
  | p, last, s :: r => if fitBad p last s then false else fitGo (some s) (upd last s) r
def fitS (l : List St) : Bool := fitGo none (fun _ => St.zero) l
structure FInv (pre : List St) (p : Option St) (last : Int → St) : Prop where
  lt : ∀ s : St, (∃ q, p = some q ∧ 0 ≤ cmpS q s) ↔ ¬ ∀ x ∈ pre, ltS x s
  cam : ∀ (c : Int) (s : St), (0 < (last c).no ∧ (s.time ≤ (last c).time ∨ s.no ≤ (last c).no)) ↔ ¬ ∀ x ∈ pre, x.campus = c → x.time < s.time ∧ x.no < s.no
theorem FInv.bad {pre : List St} {p : Option St} {last : Int → St} (h : FInv pre p last) (s : St) : fitBad p last s ↔ ¬ ∀ x ∈ pre, Fits x s := by
  unfold fitBad
  rw [h.lt s, h.cam s.campus s]
  constructor
  · rintro (k | k) hf
    · exact k fun x hx => (hf x hx).1
    · exact k fun x hx hc => (hf x hx).2 hc
  · intro k
    by_cases h1 : ∀ x ∈ pre, ltS x s
    · refine .inr fun h2 => k fun x hx => ⟨h1 x hx, h2 x hx⟩
    · exact .inl h1
theorem FInv.step {pre : List St} {p : Option St} {last : Int → St} (h : FInv pre p last) {s : St} (hs : 1 ≤ s.no) (hf : ∀ x ∈ pre, Fits x s) : FInv (pre ++ [s]) (some s) (upd last s) := by
  constructor
  · intro t
    constructor
    · rintro ⟨q, hq, hc⟩ hall
      obtain rfl := Option.some.inj hq
      exact cmpS_ge.1 hc (hall s (by simp))
    · intro hn
      refine ⟨s, rfl, cmpS_ge.2 fun hst => hn fun x hx => ?_⟩
      rcases List.mem_append.1 hx with hx | hx
      · exact ltS_trans (hf x hx).1 hst
      · obtain rfl := List.mem_singleton.1 hx; exact hst
  · intro c t
    unfold upd
    by_cases hc : c = s.campus
    · rw [if_pos hc]
      constructor
      · rintro ⟨_, hlt⟩ hall
        have := hall s (by simp) hc.symm
        omega
      · intro hn
        refine ⟨by omega, ?_⟩
        apply Classical.byContradiction
        intro hlt
        refine hn fun x hx hxc => ?_
        rcases List.mem_append.1 hx with hx | hx
        · have := (hf x hx).2 (hxc.trans hc)
          omega
        · obtain rfl := List.mem_singleton.1 hx
          omega
    · rw [if_neg hc, h.cam c t]
      constructor
      · intro hn hall
        exact hn fun x hx hxc => hall x (List.mem_append_left _ hx) hxc
      · intro hn hall
        refine hn fun x hx hxc => ?_
        rcases List.mem_append.1 hx with hx | hx
        · exact hall x hx hxc
        · obtain rfl := List.mem_singleton.1 hx
          exact absurd hxc.symm hc
theorem fitGo_iff : ∀ (l pre : List St) (p : Option St) (last : Int → St), FInv pre p last → (∀ s ∈ l, 1 ≤ s.no) → pre.Pairwise Fits → (fitGo p last l = true ↔ (pre ++ l).Pairwise Fits) := by
  intro l
  induction l with
  | nil => intro pre p last _ _ hp; simp [fitGo, hp]
  | cons s r ih =>
    intro pre p last hI hno hp
    unfold fitGo
    by_cases hb : fitBad p last s
    · rw [if_pos hb]
      have hb' := (hI.bad s).1 hb
      simp only [Bool.false_eq_true, false_iff]
      intro hall
      exact hb' fun x hx => (List.pairwise_append.1 hall).2.2 x hx s (by simp)
    · rw [if_neg hb]
      have hf : ∀ x ∈ pre, Fits x s := Classical.byContradiction fun h => hb ((hI.bad s).2 h)
      have hp' : (pre ++ [s]).Pairwise Fits := by
        rw [List.pairwise_append]
        refine ⟨hp, by simp, fun x hx y hy => ?_⟩
        obtain rfl := List.mem_singleton.1 hy
        exact hf x hx
      rw [ih _ _ _ (hI.step (hno s (by simp)) hf) (fun t ht => hno t (by simp [ht])) hp']
      simp
theorem fitS_iff (l : List St) (hno : ∀ s ∈ l, 1 ≤ s.no) : fitS l = true ↔ l.Pairwise Fits := by
  have h : FInv [] none (fun _ => St.zero) := ⟨fun s => by simp, fun c s => by simp [St.zero]⟩
  simpa [fitS] using fitGo_iff l [] none (fun _ => St.zero) h hno List.Pairwise.nil
section
variable {E : Type} (st : E → St)
def mrg : List E → List E → List E
  | [], b => b
  | x :: a, [] => x :: a
  | x :: a, y :: b => if cmpS (st y) (st x) < 0 then y :: mrg (x :: a) b else x :: mrg a (y :: b)
termination_by a b => a.length + b.length
variable [DecidableEq E]
def foldJ (acc : List E) : List E → Option (List E)
  | [] => some acc
  | n :: r =>
    match acc.getLast? with
    | none => foldJ (acc ++ [n]) r
    | some k => if st k = st n then (if k = n then foldJ acc r else none) else foldJ (acc ++ [n]) r
def fitE (l : List E) : Bool := fitS (l.map st)
/-- What 'joined' comes to: a list, or the error that it panics with. -/
def joinR (a b : List E) : Except Int (List E) :=
  match foldJ st [] (mrg st a b) with
  | none => .error 390
  | some x => if fitE st x = true then (if x.length ≤ 65536 then .ok x else .error 2) else .error 390
variable (chk : E → Int)
def chkL : List E → Int
  | [] => 0
  | n :: r => if chk n ≠ 0 then chk n else chkL r
def checkR (l : List E) : Int :=
  if 65536 < l.length then 2 else if chkL chk l ≠ 0 then chkL chk l else if fitE st l = true then 0 else 390
def mergeR (a b : List E) : Except Int (List E) :=
  if checkR st chk a ≠ 0 then .error (checkR st chk a) else if checkR st chk b ≠ 0 then .error (checkR st chk b) else joinR st a b
def putR (l : List E) (n : E) : Except Int (List E) :=
  if checkR st chk l ≠ 0 then .error (checkR st chk l) else if chk n ≠ 0 then .error (chk n) else joinR st l [n]
end
section
variable {E : Type} {st : E → St}
def Srt (st : E → St) (l : List E) : Prop := l.Pairwise fun a b => ltS (st a) (st b)
/-- At most one entry of each side with one stamp: weakly sorted. -/
def WSrt (st : E → St) (l : List E) : Prop := l.Pairwise fun a b => ¬ ltS (st b) (st a)
theorem Srt.weak {l : List E} (h : Srt st l) : WSrt st l := List.Pairwise.imp (fun h => ltS_asymm h) h
theorem mem_mrg (a b : List E) (e : E) : e ∈ mrg st a b ↔ e ∈ a ∨ e ∈ b := by
  fun_induction mrg st a b with
  | case1 b => simp
  | case2 x a => simp
  | case3 x a y b h ih => rw [List.mem_cons, ih]; simp only [List.mem_cons]; grind
  | case4 x a y b h ih => rw [List.mem_cons, ih]; simp only [List.mem_cons]; grind
theorem nlt_of_lt_of_nlt {a b c : St} (h : ¬ ltS b a) (k : ¬ ltS c b) : ¬ ltS c a := by
  unfold ltS at *; omega
theorem mrg_weak (a b : List E) (ha : WSrt st a) (hb : WSrt st b) : WSrt st (mrg st a b) := by
  fun_induction mrg st a b with
  | case1 b => exact hb
  | case2 x a => exact ha
  | case3 x a y b h ih =>
    refine List.pairwise_cons.2 ⟨fun e he => ?_, ih ha (List.pairwise_cons.1 hb).2⟩
    rcases (mem_mrg _ _ e).1 he with he | he
    · have hyx : ¬ ltS (st x) (st y) := ltS_asymm (cmpS_lt.1 h)
      rcases List.mem_cons.1 he with rfl | he
      · exact hyx
      · exact nlt_of_lt_of_nlt hyx ((List.pairwise_cons.1 ha).1 e he)
    · exact (List.pairwise_cons.1 hb).1 e he
  | case4 x a y b h ih =>
    refine List.pairwise_cons.2 ⟨fun e he => ?_, ih (List.pairwise_cons.1 ha).2 hb⟩
    rcases (mem_mrg _ _ e).1 he with he | he
    · exact (List.pairwise_cons.1 ha).1 e he
    · have hyx : ¬ ltS (st y) (st x) := fun k => h (cmpS_lt.2 k)
      rcases List.mem_cons.1 he with rfl | he
      · exact hyx
      · exact nlt_of_lt_of_nlt hyx ((List.pairwise_cons.1 hb).1 e he)
variable [DecidableEq E]
/-- The fold over a weakly sorted list: it ends well exactly if entries with one stamp are equal; then its list is strictly sorted, with the same members. -/
theorem foldJ_spec : ∀ (r acc : List E), WSrt st (acc ++ r) → Srt st acc →
    (∀ x, foldJ st acc r = some x → Srt st x ∧ ∀ e, e ∈ x ↔ e ∈ acc ∨ e ∈ r) ∧
    (foldJ st acc r = none → ∃ e f, (e ∈ acc ∨ e ∈ r) ∧ f ∈ r ∧ st e = st f ∧ e ≠ f) := by
  intro r
  induction r with
  | nil =>
    intro acc _ hs
    refine ⟨fun x hx => ?_, fun h => by simp [foldJ] at h⟩
    simp [foldJ] at hx
    subst hx
    exact ⟨hs, fun e => by simp⟩
  | cons n r ih =>
    intro acc hw hs
    have hw' : WSrt st ((acc ++ [n]) ++ r) := by simpa using hw
    have hpush : (∀ k ∈ acc, ltS (st k) (st n)) → Srt st (acc ++ [n]) := by
      intro hk
      unfold Srt
      rw [List.pairwise_append]
      refine ⟨hs, by simp, fun x hx y hy => ?_⟩
      obtain rfl := List.mem_singleton.1 hy
      exact hk x hx
    have grow : Srt st (acc ++ [n]) →
        (∀ x, foldJ st (acc ++ [n]) r = some x → Srt st x ∧ ∀ e, e ∈ x ↔ e ∈ acc ∨ e ∈ n :: r) ∧
        (foldJ st (acc ++ [n]) r = none → ∃ e f, (e ∈ acc ∨ e ∈ n :: r) ∧ f ∈ n :: r ∧ st e = st f ∧ e ≠ f) := by
      intro hs'
      obtain ⟨h1, h2⟩ := ih (acc ++ [n]) hw' hs'
      refine ⟨fun x hx => ⟨(h1 x hx).1, fun e => ?_⟩, fun h => ?_⟩
      · rw [(h1 x hx).2 e]; simp [or_assoc]
      · obtain ⟨e, f, he, hf, hst, hne⟩ := h2 h
        exact ⟨e, f, by simp only [List.mem_append, List.mem_cons, List.not_mem_nil, or_false] at he ⊢; grind, by simp [hf], hst, hne⟩
    unfold foldJ
    cases hl : acc.getLast? with
    | none =>
      have : acc = [] := by simpa using hl
      subst this
      exact grow (hpush (by simp))
    | some k =>
      obtain ⟨init, rfl⟩ : ∃ init, acc = init ++ [k] := by
        rw [List.getLast?_eq_some_iff] at hl; exact hl
      have hinit : ∀ z ∈ init, ltS (st z) (st k) := fun z hz => (List.pairwise_append.1 hs).2.2 z hz k (by simp)
      have hkn : ¬ ltS (st n) (st k) := (List.pairwise_append.1 hw).2.2 k (by simp) n (by simp)
      dsimp only
      by_cases e1 : st k = st n
      · rw [if_pos e1]
        by_cases e2 : k = n
        · rw [if_pos e2]
          subst e2
          have hw2 : WSrt st ((init ++ [k]) ++ r) := by
            refine List.Pairwise.sublist ?_ hw
            simp
          obtain ⟨h1, h2⟩ := ih (init ++ [k]) hw2 hs
          refine ⟨fun x hx => ⟨(h1 x hx).1, fun e => ?_⟩, fun h => ?_⟩
          · rw [(h1 x hx).2 e]
            simp
            constructor
            · rintro ((h | h) | h) <;> simp_all
            · rintro ((h | h) | h | h) <;> simp_all
          · obtain ⟨e, f, he, hf, hst, hne⟩ := h2 h
            exact ⟨e, f, by rcases he with he | he <;> simp_all, by simp [hf], hst, hne⟩
        · rw [if_neg e2]
          refine ⟨fun x hx => by simp at hx, fun _ => ⟨k, n, .inl (by simp), by simp, e1, e2⟩⟩
      · rw [if_neg e1]
        refine grow (hpush fun z hz => ?_)
        have hk' : ltS (st k) (st n) := by
          rcases ltS_tri (st k) (st n) with h | h | h
          · exact h
          · exact absurd h e1
          · exact absurd h hkn
        rcases List.mem_append.1 hz with hz | hz
        · exact ltS_trans (hinit z hz) hk'
        · obtain rfl := List.mem_singleton.1 hz; exact hk'
/-- Strictly sorted lists with the same members are equal. -/
theorem srt_ext : ∀ (x y : List E), Srt st x → Srt st y → (∀ e, e ∈ x ↔ e ∈ y) → x = y := by
  intro x
  induction x with
  | nil =>
    intro y _ _ h
    cases y with
    | nil => rfl
    | cons b y => have := (h b).2 (by simp); simp at this
  | cons a x ih =>
    intro y hx hy h
    cases y with
    | nil => have := (h a).1 (by simp); simp at this
    | cons b y =>
      obtain ⟨hax, hx'⟩ := List.pairwise_cons.1 hx
      obtain ⟨hby, hy'⟩ := List.pairwise_cons.1 hy
      have hab : a = b := by
        rcases List.mem_cons.1 ((h a).1 (by simp)) with e | ha
        · exact e
        · rcases List.mem_cons.1 ((h b).2 (by simp)) with e | hb
          · exact e.symm
          · exact absurd (hax b hb) (ltS_asymm (hby a ha))
      subst hab
      congr 1
      refine ih y hx' hy' fun e => ?_
      have he := h e
      simp only [List.mem_cons] at he
      constructor
      · intro hm
        rcases he.1 (.inr hm) with rfl | hm'
        · exact absurd (hax e hm) (ltS_irrefl _)
        · exact hm'
      · intro hm
        rcases he.2 (.inr hm) with rfl | hm'
        · exact absurd (hby e hm) (ltS_irrefl _)
        · exact hm'
theorem srt_mem_inj {l : List E} (h : Srt st l) {e f : E} (he : e ∈ l) (hf : f ∈ l) (hst : st e = st f) : e = f := by
  induction l with
  | nil => simp at he
  | cons a l ih =>
    obtain ⟨ha, hl⟩ := List.pairwise_cons.1 h
    rcases List.mem_cons.1 he with e1 | he
    · rcases List.mem_cons.1 hf with e2 | hf
      · exact e1.trans e2.symm
      · exact absurd (ha f hf) (by rw [← hst, e1]; exact ltS_irrefl _)
    · rcases List.mem_cons.1 hf with e2 | hf
      · exact absurd (ha e he) (by rw [hst, e2]; exact ltS_irrefl _)
      · exact ih hl he hf
/-- A list that fits, on the side of entries. -/
def Fit (st : E → St) (l : List E) : Prop := l.Pairwise fun a b => Fits (st a) (st b)
theorem Fit.srt {l : List E} (h : Fit st l) : Srt st l := List.Pairwise.imp (fun h => h.1) h
theorem fitE_iff {l : List E} (hno : ∀ e ∈ l, 1 ≤ (st e).no) : fitE st l = true ↔ Fit st l := by
  unfold fitE Fit
  rw [fitS_iff _ (by intro s hs; obtain ⟨e, he, rfl⟩ := List.mem_map.1 hs; exact hno e he), List.pairwise_map]
/-- What 'joined' comes to, of two lists that fit. -/
theorem joinR_ok {a b x : List E} (ha : Fit st a) (hb : Fit st b) (hno : ∀ e, e ∈ a ∨ e ∈ b → 1 ≤ (st e).no) :
    joinR st a b = .ok x ↔ (Fit st x ∧ (∀ e, e ∈ x ↔ e ∈ a ∨ e ∈ b) ∧ x.length ≤ 65536) := by
  obtain ⟨h1, h2⟩ := foldJ_spec (st := st) (mrg st a b) [] (by simpa using mrg_weak a b ha.srt.weak hb.srt.weak) List.Pairwise.nil
  unfold joinR
  cases hf : foldJ st [] (mrg st a b) with
  | none =>
    dsimp only
    simp only [reduceCtorEq, false_iff]
    rintro ⟨hfit, hmem, _⟩
    obtain ⟨e, f, he, hf', hst, hne⟩ := h2 hf
    have he' : e ∈ mrg st a b := by simpa using he
    exact hne (srt_mem_inj hfit.srt ((hmem e).2 ((mem_mrg _ _ _).1 he')) ((hmem f).2 ((mem_mrg _ _ _).1 hf')) hst)
  | some y =>
    obtain ⟨hys, hym⟩ := h1 y hf
    have hym' : ∀ e, e ∈ y ↔ e ∈ a ∨ e ∈ b := fun e => by rw [hym e, mem_mrg]; simp
    have hfe : fitE st y = true ↔ Fit st y := fitE_iff fun e he => hno e ((hym' e).1 he)
    dsimp only
    constructor
    · intro h
      by_cases hfit : fitE st y = true
      · rw [if_pos hfit] at h
        by_cases hlen : y.length ≤ 65536
        · rw [if_pos hlen] at h
          obtain rfl := Except.ok.inj h
          exact ⟨hfe.1 hfit, hym', hlen⟩
        · rw [if_neg hlen] at h; cases h
      · rw [if_neg hfit] at h; cases h
    · rintro ⟨hfit, hmem, hlen⟩
      obtain rfl := srt_ext (st := st) x y hfit.srt hys fun e => by rw [hmem e, hym' e]
      rw [if_pos (hfe.2 hfit), if_pos hlen]
theorem joinR_err {a b : List E} {c : Int} (h : joinR st a b = .error c) (hlen : a.length + b.length ≤ 65536) : c = 390 := by
  have hl : ∀ (r acc x : List E), foldJ st acc r = some x → x.length ≤ acc.length + r.length := by
    intro r
    induction r with
    | nil => intro acc x hx; simp [foldJ] at hx; subst hx; simp
    | cons n r ih =>
      intro acc x hx
      unfold foldJ at hx
      cases hl : acc.getLast? with
      | none => rw [hl] at hx; have := ih _ _ hx; simp at this ⊢; omega
      | some k =>
        rw [hl] at hx
        dsimp only at hx
        split at hx
        · split at hx
          · have := ih _ _ hx; simp; omega
          · cases hx
        · have := ih _ _ hx; simp at this ⊢; omega
  have hm : (mrg st a b).length = a.length + b.length := by
    clear h hlen hl
    fun_induction mrg st a b with
    | case1 b => simp
    | case2 x a => simp
    | case3 x a y b h ih => simp [ih]; omega
    | case4 x a y b h ih => simp [ih]; omega
  unfold joinR at h
  cases hf : foldJ st [] (mrg st a b) with
  | none => rw [hf] at h; exact (Except.error.inj h).symm
  | some y =>
    rw [hf] at h
    dsimp only at h
    have := hl _ _ _ hf
    split at h
    · rw [if_pos (by simp at this; omega)] at h; cases h
    · exact (Except.error.inj h).symm
variable {chk : E → Int}
theorem chkL_zero {l : List E} : chkL chk l = 0 ↔ ∀ e ∈ l, chk e = 0 := by
  induction l with
  | nil => simp [chkL]
  | cons n r ih =>
    unfold chkL
    by_cases h : chk n = 0
    · simp [h, ih]
    · simp [h]
/-- A ledger: what 'Check' accepts. -/
structure Led (st : E → St) (chk : E → Int) (l : List E) : Prop where
  len : l.length ≤ 65536
  ok : ∀ e ∈ l, chk e = 0
  fit : Fit st l
variable (hst : ∀ e, chk e = 0 → StOK (st e))
include hst
theorem checkR_zero {l : List E} : checkR st chk l = 0 ↔ Led st chk l := by
  unfold checkR
  by_cases h1 : 65536 < l.length
  · rw [if_pos h1]
    exact ⟨fun h => by omega, fun h => by have := h.len; omega⟩
  · rw [if_neg h1]
    by_cases h2 : chkL chk l = 0
    · have hok := chkL_zero.1 h2
      have hf := fitE_iff (st := st) (l := l) fun e he => by have := hst e (hok e he); unfold StOK at this; omega
      rw [if_neg (by simpa using h2)]
      by_cases h3 : fitE st l = true
      · rw [if_pos h3]
        exact ⟨fun _ => ⟨by omega, hok, hf.1 h3⟩, fun _ => rfl⟩
      · rw [if_neg h3]
        exact ⟨fun h => by omega, fun h => absurd (hf.2 h.fit) h3⟩
    · rw [if_pos (by simpa using h2)]
      exact ⟨fun h => absurd h h2, fun h => absurd (chkL_zero.2 h.ok) h2⟩
theorem mergeR_ok {a b x : List E} : mergeR st chk a b = .ok x ↔ (Led st chk a ∧ Led st chk b ∧ Led st chk x ∧ ∀ e, e ∈ x ↔ e ∈ a ∨ e ∈ b) := by
  unfold mergeR
  by_cases ha : checkR st chk a = 0
  · have La := (checkR_zero hst).1 ha
    rw [if_neg (by simpa using ha)]
    by_cases hb : checkR st chk b = 0
    · have Lb := (checkR_zero hst).1 hb
      rw [if_neg (by simpa using hb), joinR_ok La.fit Lb.fit (fun e he => by
        have : chk e = 0 := he.elim (La.ok e) (Lb.ok e)
        have := hst e this
        unfold StOK at this
        omega)]
      constructor
      · rintro ⟨hf, hm, hl⟩
        exact ⟨La, Lb, ⟨hl, fun e he => ((hm e).1 he).elim (La.ok e) (Lb.ok e), hf⟩, hm⟩
      · rintro ⟨_, _, hx, hm⟩
        exact ⟨hx.fit, hm, hx.len⟩
    · rw [if_pos (by simpa using hb)]
      exact ⟨fun h => by simp at h, fun h => absurd ((checkR_zero hst).2 h.2.1) hb⟩
  · rw [if_pos (by simpa using ha)]
    exact ⟨fun h => by simp at h, fun h => absurd ((checkR_zero hst).2 h.1) ha⟩
theorem mergeR_err {a b : List E} {c : Int} (La : Led st chk a) (Lb : Led st chk b) (hlen : a.length + b.length ≤ 65536) (h : mergeR st chk a b = .error c) : c = 390 := by
  unfold mergeR at h
  rw [if_neg (by simpa using (checkR_zero hst).2 La), if_neg (by simpa using (checkR_zero hst).2 Lb)] at h
  exact joinR_err h hlen
theorem putR_ok {l x : List E} {n : E} : putR st chk l n = .ok x ↔ (Led st chk l ∧ chk n = 0 ∧ Led st chk x ∧ ∀ e, e ∈ x ↔ e ∈ l ∨ e = n) := by
  unfold putR
  by_cases ha : checkR st chk l = 0
  · have La := (checkR_zero hst).1 ha
    rw [if_neg (by simpa using ha)]
    by_cases hb : chk n = 0
    · rw [if_neg (by simpa using hb), joinR_ok La.fit (by simp [Fit]) (fun e he => by
        have : chk e = 0 := he.elim (La.ok e) (fun h => by simp at h; rw [h]; exact hb)
        have := hst e this
        unfold StOK at this
        omega)]
      constructor
      · rintro ⟨hf, hm, hl⟩
        have hm' : ∀ e, e ∈ x ↔ e ∈ l ∨ e = n := fun e => by rw [hm e]; simp
        exact ⟨La, hb, ⟨hl, fun e he => ((hm' e).1 he).elim (La.ok e) (fun h => by rw [h]; exact hb), hf⟩, hm'⟩
      · rintro ⟨_, _, hx, hm⟩
        exact ⟨hx.fit, fun e => by rw [hm e]; simp, hx.len⟩
    · rw [if_pos (by simpa using hb)]
      exact ⟨fun h => by simp at h, fun h => absurd h.2.1 hb⟩
  · rw [if_pos (by simpa using ha)]
    exact ⟨fun h => by simp at h, fun h => absurd ((checkR_zero hst).2 h.1) ha⟩
theorem putR_err {l : List E} {n : E} {c : Int} (La : Led st chk l) (hn : chk n = 0) (hlen : l.length + 1 ≤ 65536) (h : putR st chk l n = .error c) : c = 390 := by
  unfold putR at h
  rw [if_neg (by simpa using (checkR_zero hst).2 La), if_neg (by simpa using hn)] at h
  exact joinR_err h hlen
theorem led_ext {x y : List E} (hx : Led st chk x) (hy : Led st chk y) (h : ∀ e, e ∈ x ↔ e ∈ y) : x = y := srt_ext (st := st) x y hx.fit.srt hy.fit.srt h
theorem led_len {x u v : List E} (hx : Led st chk x) (hm : ∀ e, e ∈ x → e ∈ u ∨ e ∈ v) : x.length ≤ u.length + v.length := by
  have hnd : x.Nodup := List.Pairwise.imp (fun {p q} h => fun e => by subst e; exact ltS_irrefl _ h) hx.fit.srt
  have := List.Nodup.length_le_of_subset hnd (l₂ := u ++ v) (fun e he => by simpa using hm e he)
  simpa using this
theorem led_sub {x y : List E} (hx : Led st chk x) (h : y.Sublist x) : Led st chk y :=
  ⟨Nat.le_trans h.length_le hx.len, fun e he => hx.ok e (h.subset he), List.Pairwise.sublist h hx.fit⟩
/-- Putting one entry after the other. -/
def puts (st : E → St) (chk : E → Int) (z : List E) : List E → Except Int (List E)
  | [] => .ok z
  | n :: r => match putR st chk z n with
    | .ok z' => puts st chk z' r
    | .error c => .error c
theorem puts_ok : ∀ (r z x : List E), Led st chk z → (puts st chk z r = .ok x ↔ (Led st chk x ∧ (∀ e ∈ r, chk e = 0) ∧ ∀ e, e ∈ x ↔ e ∈ z ∨ e ∈ r)) := by
  intro r
  induction r with
  | nil =>
    intro z x Lz
    simp only [puts, Except.ok.injEq, List.not_mem_nil, or_false, false_implies, implies_true, true_and]
    constructor
    · rintro rfl; exact ⟨Lz, fun e => Iff.rfl⟩
    · rintro ⟨Lx, hm⟩; exact led_ext hst Lz Lx fun e => (hm e).symm
  | cons n r ih =>
    intro z x Lz
    unfold puts
    constructor
    · intro h
      cases hp : putR st chk z n with
      | error c => rw [hp] at h; cases h
      | ok z' =>
        rw [hp] at h
        obtain ⟨_, hn, Lz', hm'⟩ := (putR_ok hst).1 hp
        obtain ⟨Lx, hr, hm⟩ := (ih z' x Lz').1 h
        refine ⟨Lx, fun e he => ?_, fun e => ?_⟩
        · rcases List.mem_cons.1 he with rfl | he
          · exact hn
          · exact hr e he
        · rw [hm e, hm' e, List.mem_cons, or_assoc]
    · rintro ⟨Lx, hok, hm⟩
      have Ly : Led st chk (x.filter fun e => decide (e ∈ z ∨ e = n)) := led_sub hst Lx List.filter_sublist
      have hmy : ∀ e, e ∈ x.filter (fun e => decide (e ∈ z ∨ e = n)) ↔ e ∈ z ∨ e = n := by
        intro e
        rw [List.mem_filter, hm e, List.mem_cons]
        simp only [decide_eq_true_eq]
        grind
      have hp := (putR_ok hst).2 ⟨Lz, hok n (by simp), Ly, hmy⟩
      rw [hp]
      refine (ih _ x Ly).2 ⟨Lx, fun e he => hok e (by simp [he]), fun e => ?_⟩
      rw [hmy e, hm e, List.mem_cons, or_assoc]
theorem puts_err : ∀ (r z : List E) (c : Int), Led st chk z → (∀ e ∈ r, chk e = 0) → z.length + r.length ≤ 65536 → puts st chk z r = .error c → c = 390 := by
  intro r
  induction r with
  | nil => intro z c _ _ _ h; simp [puts] at h
  | cons n r ih =>
    intro z c Lz hok hlen h
    unfold puts at h
    simp only [List.length_cons] at hlen
    cases hp : putR st chk z n with
    | error d =>
      rw [hp] at h
      obtain rfl := Except.error.inj h
      exact putR_err hst Lz (hok n (by simp)) (by omega) hp
    | ok z' =>
      rw [hp] at h
      obtain ⟨_, hn, Lz', hm'⟩ := (putR_ok hst).1 hp
      have := led_len hst (u := z) (v := [n]) Lz' (fun e he => by simpa using (hm' e).1 he)
      exact ih z' c Lz' (fun e he => hok e (by simp [he])) (by simp at this; omega) h
/-- LedgerMerged. -/
theorem law_merged {a b : List E} (La : Led st chk a) (Lb : Led st chk b) (la : a.length ≤ 16) (lb : b.length ≤ 16) :
    mergeR st chk a b = mergeR st chk b a ∧ mergeR st chk a b = puts st chk a b ∧ (∀ c, mergeR st chk a b = .error c → c = 390) ∧
    ∀ x, mergeR st chk a b = .ok x → mergeR st chk x b = .ok x ∧ Led st chk x ∧ x.length ≤ a.length + b.length := by
  have herr : ∀ c, mergeR st chk a b = .error c → c = 390 := fun c h => mergeR_err hst La Lb (by omega) h
  have herr' : ∀ c, mergeR st chk b a = .error c → c = 390 := fun c h => mergeR_err hst Lb La (by omega) h
  have hperr : ∀ c, puts st chk a b = .error c → c = 390 := fun c h => puts_err hst b a c La Lb.ok (by omega) h
  have k1 : ∀ x, mergeR st chk a b = .ok x ↔ mergeR st chk b a = .ok x := by
    intro x
    rw [mergeR_ok hst, mergeR_ok hst]
    constructor
    · rintro ⟨_, _, Lx, hm⟩; exact ⟨Lb, La, Lx, fun e => by rw [hm e, or_comm]⟩
    · rintro ⟨_, _, Lx, hm⟩; exact ⟨La, Lb, Lx, fun e => by rw [hm e, or_comm]⟩
  have k2 : ∀ x, mergeR st chk a b = .ok x ↔ puts st chk a b = .ok x := by
    intro x
    rw [mergeR_ok hst, puts_ok hst b a x La]
    constructor
    · rintro ⟨_, _, Lx, hm⟩; exact ⟨Lx, Lb.ok, hm⟩
    · rintro ⟨Lx, _, hm⟩; exact ⟨La, Lb, Lx, hm⟩
  refine ⟨?_, ?_, herr, fun x hx => ?_⟩
  · cases h : mergeR st chk a b with
    | ok x => exact ((k1 x).1 h).symm
    | error c =>
      cases h' : mergeR st chk b a with
      | ok x => rw [(k1 x).2 h'] at h; cases h
      | error d => rw [herr c h, herr' d h']
  · cases h : mergeR st chk a b with
    | ok x => exact ((k2 x).1 h).symm
    | error c =>
      cases h' : puts st chk a b with
      | ok x => rw [(k2 x).2 h'] at h; cases h
      | error d => rw [herr c h, hperr d h']
  · obtain ⟨_, _, Lx, hm⟩ := (mergeR_ok hst).1 hx
    refine ⟨(mergeR_ok hst).2 ⟨Lx, Lb, Lx, fun e => ?_⟩, Lx, led_len hst Lx fun e he => (hm e).1 he⟩
    rw [hm e]; grind
def kn (st : E → St) (e : E) : Int := 8 * (st e).time + (st e).campus
def uptoR (st : E → St) (l : List E) (known : Int) : List E := l.filter fun e => decide (kn st e ≤ known)
theorem kn_lt {e f : E} (he : chk e = 0) (hf : chk f = 0) (h : Fits (st e) (st f)) : kn st e < kn st f := by
  obtain ⟨h, hc⟩ := h
  have a := hst e he
  have b := hst f hf
  unfold StOK at a b
  unfold ltS at h
  unfold kn
  omega
omit hst in
theorem filter_prefix (g : E → Int) (k : Int) : ∀ l : List E, l.Pairwise (fun a b => g a < g b) → l.filter (fun e => decide (g e ≤ k)) = l.take (l.filter fun e => decide (g e ≤ k)).length := by
  intro l
  induction l with
  | nil => simp
  | cons a l ih =>
    intro h
    obtain ⟨ha, hl⟩ := List.pairwise_cons.1 h
    by_cases hk : g a ≤ k
    · rw [List.filter_cons_of_pos (by simpa using hk), List.length_cons, List.take_succ_cons, ← ih hl]
    · have : l.filter (fun e => decide (g e ≤ k)) = [] := by
        rw [List.filter_eq_nil_iff]
        intro e he
        have := ha e he
        simp; omega
      rw [List.filter_cons_of_neg (by simpa using hk), this]
      rfl
theorem led_kn {l : List E} (L : Led st chk l) : l.Pairwise fun a b => kn st a < kn st b := by
  refine List.Pairwise.imp_of_mem ?_ L.fit
  intro a b ha hb h
  exact kn_lt hst (L.ok a ha) (L.ok b hb) h
/-- LedgerTimes, the beginnings. -/
theorem law_times {l : List E} (L : Led st chk l) (known later : Int) (h : 0 ≤ later) :
    (uptoR st l known).length ≤ (uptoR st l (known + later)).length ∧ (uptoR st l (known + later)).length ≤ l.length ∧
    uptoR st l known = (uptoR st l (known + later)).take (uptoR st l known).length ∧ uptoR st l (known + later) = l.take (uptoR st l (known + later)).length ∧ Led st chk (uptoR st l known) := by
  have hsub : uptoR st l known = (uptoR st l (known + later)).filter fun e => decide (kn st e ≤ known) := by
    unfold uptoR
    rw [List.filter_filter]
    congr 1
    funext e
    by_cases hk : kn st e ≤ known
    · simp [hk]; omega
    · simp [hk]
  have hy : Led st chk (uptoR st l (known + later)) := led_sub hst L List.filter_sublist
  refine ⟨?_, List.length_filter_le _ _, ?_, filter_prefix _ _ l (led_kn hst L), led_sub hst L List.filter_sublist⟩
  · rw [hsub]; exact List.length_filter_le _ _
  · have := filter_prefix (kn st) known (uptoR st l (known + later)) (led_kn hst hy)
    rw [← hsub] at this
    exact this
theorem law_times_put {l z : List E} {n : E} {known : Int} (hp : putR st chk l n = .ok z) (hk : known < kn st n) : Led st chk z ∧ uptoR st z known = uptoR st l known := by
  obtain ⟨L, hn, Lz, hm⟩ := (putR_ok hst).1 hp
  refine ⟨Lz, led_ext hst (led_sub hst Lz List.filter_sublist) (led_sub hst L List.filter_sublist) fun e => ?_⟩
  unfold uptoR
  rw [List.mem_filter, List.mem_filter, hm e]
  simp only [decide_eq_true_eq]
  constructor
  · rintro ⟨h | rfl, h2⟩
    · exact ⟨h, h2⟩
    · omega
  · rintro ⟨h, h2⟩; exact ⟨.inl h, h2⟩
def lastGo (c : Int) : St → List St → St
  | s, [] => s
  | s, t :: r => lastGo c (if t.campus = c then t else s) r
def lastR (st : E → St) (l : List E) (c : Int) : St := lastGo c ⟨0, c, 0⟩ (l.map st)
omit hst in
theorem lastGo_spec (c : Int) : ∀ (l : List St) (s : St), (lastGo c s l = s ∧ ∀ t ∈ l, t.campus ≠ c) ∨ (∃ p t q, l = p ++ t :: q ∧ t.campus = c ∧ lastGo c s l = t ∧ ∀ u ∈ q, u.campus ≠ c) := by
  intro l
  induction l with
  | nil => intro s; exact .inl ⟨rfl, by simp⟩
  | cons t r ih =>
    intro s
    unfold lastGo
    by_cases h : t.campus = c
    · rw [if_pos h]
      rcases ih t with ⟨e, hn⟩ | ⟨p, u, q, hl, hu, e, hn⟩
      · exact .inr ⟨[], t, r, rfl, h, e, hn⟩
      · exact .inr ⟨t :: p, u, q, by rw [hl]; rfl, hu, e, hn⟩
    · rw [if_neg h]
      rcases ih s with ⟨e, hn⟩ | ⟨p, u, q, hl, hu, e, hn⟩
      · exact .inl ⟨e, fun x hx => by rcases List.mem_cons.1 hx with rfl | hx; exact h; exact hn x hx⟩
      · exact .inr ⟨t :: p, u, q, by rw [hl]; rfl, hu, e, hn⟩
/-- How often a stamp is met. -/
def metN (l : List St) (s : St) : Nat := (l.filter fun t => decide (t = s)).length
def seenGo : Int → List St → Int
  | m, [] => m
  | m, t :: r => seenGo (if m < t.time then t.time else m) r
omit hst in
theorem seenGo_ge : ∀ (l : List St) (m : Int), m ≤ seenGo m l ∧ ∀ t ∈ l, t.time ≤ seenGo m l := by
  intro l
  induction l with
  | nil => intro m; simp [seenGo]
  | cons t r ih =>
    intro m
    obtain ⟨h1, h2⟩ := ih (if m < t.time then t.time else m)
    unfold seenGo
    have hm : m ≤ (if m < t.time then t.time else m) ∧ t.time ≤ (if m < t.time then t.time else m) := by split <;> omega
    refine ⟨by omega, fun u hu => ?_⟩
    rcases List.mem_cons.1 hu with rfl | hu
    · omega
    · exact h2 u hu
omit hst in
theorem seenGo_le (b : Int) : ∀ (l : List St) (m : Int), m ≤ b → (∀ t ∈ l, t.time ≤ b) → seenGo m l ≤ b := by
  intro l
  induction l with
  | nil => intro m h _; simpa [seenGo] using h
  | cons t r ih =>
    intro m h hl
    unfold seenGo
    refine ih _ ?_ fun u hu => hl u (by simp [hu])
    split
    · exact hl t (by simp)
    · exact h
/-- LedgerLast, ahead of the next stamp. -/
theorem law_last {l : List E} (L : Led st chk l) (c : Int) :
    (lastR st l c).campus = c ∧ 0 ≤ (lastR st l c).time ∧ (lastR st l c).time ≤ 1048576 ∧ 0 ≤ (lastR st l c).no ∧ (lastR st l c).no ≤ 1048576 ∧
    (∀ e ∈ l, (st e).campus = c → (st e).no ≤ (lastR st l c).no ∧ (st e).time ≤ (lastR st l c).time) ∧
    ((0 < (lastR st l c).no) ↔ metN (l.map st) (lastR st l c) = 1) := by
  have hok : ∀ t ∈ l.map st, StOK t := fun t ht => by obtain ⟨e, he, rfl⟩ := List.mem_map.1 ht; exact hst e (L.ok e he)
  have hfit : (l.map st).Pairwise Fits := List.pairwise_map.2 L.fit
  unfold lastR
  rcases lastGo_spec c (l.map st) ⟨0, c, 0⟩ with ⟨e, hn⟩ | ⟨p, t, q, hl, ht, e, hn⟩
  · rw [e]
    refine ⟨rfl, by simp, by simp, by simp, by simp, fun x hx hc => absurd hc (hn _ (List.mem_map_of_mem hx)), ?_⟩
    have : metN (l.map st) ⟨0, c, 0⟩ = 0 := by
      unfold metN
      rw [List.length_eq_zero_iff, List.filter_eq_nil_iff]
      intro x hx
      have := hn x hx
      simp only [decide_eq_true_eq]
      rintro rfl
      exact this rfl
    rw [this]
    simp
  · rw [e]
    have htm : t ∈ l.map st := by rw [hl]; simp
    have hto := hok t htm
    have hto' := hto
    unfold StOK at hto'
    rw [hl] at hfit
    obtain ⟨hfp, hfq, hpq⟩ := List.pairwise_append.1 hfit
    refine ⟨ht, by omega, by omega, by omega, by omega, fun x hx hc => ?_, ?_⟩
    · have hxm : st x ∈ p ++ t :: q := by rw [← hl]; exact List.mem_map_of_mem hx
      rcases List.mem_append.1 hxm with h | h
      · have := (hpq _ h t (by simp)).2 (hc.trans ht.symm); omega
      · rcases List.mem_cons.1 h with h | h
        · rw [h]; omega
        · exact absurd hc (hn _ h)
    · have h1 : metN (l.map st) t = 1 := by
        unfold metN
        rw [hl, List.filter_append, List.filter_cons_of_pos (by simp)]
        have hp0 : p.filter (fun u => decide (u = t)) = [] := by
          rw [List.filter_eq_nil_iff]
          intro u hu
          simp only [decide_eq_true_eq]
          rintro rfl
          exact ltS_irrefl _ (hpq _ hu u (by simp)).1
        have hq0 : q.filter (fun u => decide (u = t)) = [] := by
          rw [List.filter_eq_nil_iff]
          intro u hu
          simp only [decide_eq_true_eq]
          rintro rfl
          exact hn _ hu ht
        rw [hp0, hq0]; rfl
      rw [h1]
      simp; omega
/-- LedgerLast: what comes next goes to the end. -/
theorem law_next {l : List E} (L : Led st chk l) (hlen : l.length + 1 ≤ 65536) (c : Int) (n : E) (hn : chk n = 0)
    (h1 : (st n).time = 1 + (if (lastR st l c).time < seenGo 0 (l.map st) then seenGo 0 (l.map st) else (lastR st l c).time)) (h2 : (st n).campus = c) (h3 : (st n).no = 1 + (lastR st l c).no) :
    putR st chk l n = .ok (l ++ [n]) ∧ ∀ e ∈ l, st e ≠ st n := by
  obtain ⟨_, _, _, _, _, hmax, _⟩ := law_last hst L c
  have hseen := (seenGo_ge (l.map st) 0).2
  have htime : ∀ e ∈ l, (st e).time < (st n).time := by
    intro e he
    have := hseen _ (List.mem_map_of_mem (f := st) he)
    split at h1 <;> omega
  refine ⟨(putR_ok hst).2 ⟨L, hn, ⟨by simp; omega, fun e he => ?_, ?_⟩, fun e => by simp⟩, fun e he h => ?_⟩
  · rcases List.mem_append.1 he with he | he
    · exact L.ok e he
    · obtain rfl := List.mem_singleton.1 he; exact hn
  · unfold Fit
    rw [List.pairwise_append]
    refine ⟨L.fit, by simp, fun e he f hf => ?_⟩
    obtain rfl := List.mem_singleton.1 hf
    refine ⟨.inl (htime e he), fun hc => ⟨htime e he, ?_⟩⟩
    have := (hmax e he (hc.trans h2)).1
    omega
  · have := htime e he
    rw [h] at this
    omega
end
end Go.Proofs.Ldg
end
section
namespace Go.Proofs.Lw
open Go.RowKit Go.Proofs.YtehddihmndpgaaaGreatDoorW.PrintWords Go.Proofs.YtehddihmndpgaaaGreatDoor.PLib
section
variable {P : Program}
theorem addr_add_add (a : Addr) (i j : Nat) : (a.add i).add j = a.add (i + j) := by
  unfold Addr.add
  by_cases hi : i = 0 <;> by_cases hj : j = 0 <;> simp [hi, hj, Nat.add_assoc]
/-- The load of a struct at any address. -/
theorem run_loadVar_at (w : World) (p : Addr) (ty : TypeId) (cs : List Value) (d : TypeDesc) (hc : ∀ j v, cs[j]? = some v → w.cell? (p.add j) = some v)
    (hu : P.underlying ty = some d) (hd : d.isRow = true) (hi : (P.info? ty).map (·.size) = some cs.length) :
    (loadVar ty p).run P w = .ok (.agg cs.toArray) w := by
  have hl : (loadCells p cs.length).run P w = .ok cs.toArray w := run_loadCells_list (P := P) w p cs hc
  cases hq : P.info? ty with
  | none => simp [hq] at hi
  | some i =>
    have hs : i.size = cs.length := by simpa [hq] using hi
    have hagg : (isAgg ty).run P w = .ok true w := by
      unfold isAgg
      rw [Sem.run_bind, run_underlying hu w]
      cases d <;> simp_all
    simp [loadVar, Sem.run_bind, hagg, sizeOf, typeInfo, hq, hs, hl]
theorem wp_load_at {op : Oper} {a : Act} {w : World} {K : Act → World → Prop} {Q : Exit → Act → World → Prop} (ty : TypeId) (x : Operand) (ho : op.op = .load ty x)
    (p : Addr) (hx : a.eval x = .pointer (some p)) (cs : List Value) (d : TypeDesc) (hc : ∀ j v, cs[j]? = some v → w.cell? (p.add j) = some v)
    (hu : P.underlying ty = some d) (hd : d.isRow = true) (hi : (P.info? ty).map (·.size) = some cs.length)
    (h : K (a.put op.dst (.agg cs.toArray)) w) : op.wp P a w K Q := by
  unfold Oper.wp execOp
  simp only [ho, hx, Instr.loadAt, Instr.sureAddr, Sem.run_bind, Sem.run_pure, Result.andThen_ok, run_loadVar_at w p ty cs d hc hu hd hi]
  exact h
theorem wpList_load_at {ops : Array Oper} {rest : List Oper} {op : Oper} {a : Act} {w : World} {Q : Exit → Act → World → Prop} (hgd : op.guard = none) (ty : TypeId) (x : Operand) (ho : op.op = .load ty x)
    (p : Addr) (hx : a.eval x = .pointer (some p)) (cs : List Value) (d : TypeDesc) (hc : ∀ j v, cs[j]? = some v → w.cell? (p.add j) = some v)
    (hu : P.underlying ty = some d) (hd : d.isRow = true) (hi : (P.info? ty).map (·.size) = some cs.length)
    (h : wpList P ops Q rest (a.put op.dst (.agg cs.toArray)) w) : wpList P ops Q (op :: rest) a w :=
  wpList_plain hgd fun _ hK => wp_load_at ty x ho p hx cs d hc hu hd hi (hK _ _ h)
/-- The store of a struct into a block that was just laid. -/
theorem setRow_alloc (w : World) (cs ds : Array Value) (t : TypeId) : (w.alloc (.cells cs t)).setRow w.heap.size ds = w.alloc (.cells ds t) := by
  simp only [World.setRow, World.alloc]
  congr 1
  apply Array.ext_getElem?
  intro k
  rw [Array.getElem?_modify]
  by_cases hk : k = w.heap.size
  · subst hk; simp
  · rw [if_neg (fun e => hk e.symm), Array.getElem?_push, Array.getElem?_push, if_neg hk, if_neg hk]
theorem wpList_store_new {ops : Array Oper} {rest : List Oper} {o : Oper} {a : Act} {w : World} {Q : Exit → Act → World → Prop} (hgd : o.guard = none) (ty : TypeId) (x y : Operand) (ho : o.op = .store ty x y)
    (cells : Array Value) (t : TypeId) (old : Array Value) (hx : a.eval x = .pointer (some ⟨w.heap.size, 0, none⟩)) (hy : a.eval y = .agg cells)
    (hi : (P.info? ty).map (·.size) = some cells.size) (hold : old.size = cells.size) (h1 : cells.all (·.oneCell') = true)
    (h : wpList P ops Q rest (a.put o.dst undef) (w.alloc (.cells cells t))) : wpList P ops Q (o :: rest) a (w.alloc (.cells old t)) :=
  wpList_store_row hgd ty x y ho w.heap.size cells hx hy t old (heap_alloc_new w _) hi hold h1 (by rw [setRow_alloc]; exact h)
end
def st (x : S48) : Ldg.St := ⟨x.f0.f0, x.f0.f1, x.f0.f2⟩
theorem info48 : (Tryz.prog.info? 48).map (·.size) = some 31 := by kernel_rfl
theorem k48_len {w : World} {x : S48} {cs : List Value} (h : k48.K w x cs) : cs.length = 31 := k48.K_len h
theorem k48_one {w : World} {x : S48} {cs : List Value} (h : k48.K w x cs) : cs.toArray.all (·.oneCell') = true := all_oneCell_toArray (k48.K_one h)
structure Head (x : S48) (cs : List Value) : Prop where
  h0 : cs[0]? = some (.int .i64 x.f0.f0)
  h1 : cs[1]? = some (.int .i64 x.f0.f1)
  h2 : cs[2]? = some (.int .i64 x.f0.f2)
theorem k48_head {w : World} {x : S48} {cs : List Value} (h : k48.K w x cs) : Head x cs := by
  obtain ⟨_, _, _, _, _, _, _, _, rfl, _⟩ := k48_open h
  exact ⟨rfl, rfl, rfl⟩
/-- Element i of a row of entries. -/
theorem ent_at {w : World} {A : Option Addr} {l : List S48} (h : Kd.C k48 w A l.length l) (k : Nat) (hk : k < l.length) :
    ∃ ad cs, A = some ad ∧ k48.K w (l[k]'hk) cs ∧ ∀ j u, cs[j]? = some u → w.cell? ((ad.add (k * 31)).add j) = some u := by
  obtain ⟨ad, e, hc⟩ := h.2.2 (by omega)
  obtain ⟨c, _, hr, hcell⟩ := hc k _ (List.getElem?_eq_getElem hk)
  exact ⟨ad, c, e, hr, fun j u hu => by rw [addr_add_add]; exact hcell j u hu⟩
end Go.Proofs.Lw
end
section
namespace Go.Proofs.Lw
variable {F : Fence} {n : Nat} {P : Program}
/-- A round's end, a panic taken in. -/
def roundPostP (P : Program) (l : Nat) (R : Ending → World → Prop) : Exit → Act → World → Prop
  | .panic chain, a, w => a.defers = [] ∧ R (.panicked chain) w
  | e, a, w => roundPost P l R e a w
theorem roundIn_of_wpIn_p {l : Nat} {f : FuncId} {tmps : Array Value} {assign body : Code} {w : World} {R : Ending → World → Prop} (hF : F.fn f) (hfn : ∃ fn, P.funcs[f]? = some fn)
    (h : assign.wpIn (F.inRound l) n P (Exit.then (fun a₁ w₁ => ∃ w₂, (Instr.beginRound l).run P w₁ = .ok () w₂ ∧ body.wpIn (F.inRound l) n P (roundPostP P l R) a₁ w₂) (fun _ _ _ => False))
      { tmps := tmps, defers := [] } w) :
    RoundIn F n P l f tmps assign body w R := by
  refine ⟨hF, fun c cs hr => ?_⟩
  let b : Frame := { (default : Frame) with fn := f, kind := .normal, roundOf := some l }
  have hb0 : Frame.round l f tmps assign body .normal = b.atR { tmps := tmps, defers := [] } [.code assign, .beginRound, .code body] := by
    simp [Frame.round, Frame.atR, b]
  have hr' : (F.inRound l).room ((c :: cs).length + 1 + n) := hr
  have hF' : (F.inRound l).fn b.fn := hF
  obtain ⟨e, a₁, w₁, hq, harr⟩ := h b [.beginRound, .code body] (c :: cs) rfl hF' hr'
  rw [← hb0] at harr
  cases e with
  | normal =>
    obtain ⟨w₂, hbr, hbody⟩ := hq
    have s1 : StepsIn (Machine.fenced P (F.inRound l)) P (lone (b.atR a₁ [.beginRound, .code body]) (c :: cs) w₁) (lone (b.atR a₁ [.code body]) (c :: cs) w₂) :=
      .one (fenced_calm (fr := b.atR a₁ [.beginRound, .code body]) hF' hr' rfl) (stepR_beginRound rfl hbr)
    obtain ⟨e₂, a₂, w₃, hq₂, harr₂⟩ := hbody b [] (c :: cs) rfl hF' hr'
    cases e₂ with
    | normal =>
      obtain ⟨v, w₄, hend, hR⟩ := hq₂
      exact ⟨.returned v, w₄, hR, (StepsIn.trans harr s1).trans (StepsIn.trans harr₂ (.one (fenced_calm (fr := b.atR a₂ []) hF' hr' rfl) (stepR_round_end rfl rfl hend)))⟩
    | ret =>
      obtain ⟨v, w₄, hend, hR⟩ := hq₂
      obtain ⟨k₁, hs⟩ := harr₂.2 rfl
      exact ⟨.returned v, w₄, hR, (StepsIn.trans harr s1).trans (StepsIn.trans hs (.one (fenced_calm (fr := b.atR a₂ (.code .ret :: k₁)) hF' hr' rfl) (stepR_round_ret rfl rfl hend)))⟩
    | exit id =>
      obtain ⟨v, w₄, hend, hR⟩ := hq₂
      obtain ⟨k₁, hk, hs⟩ := harr₂.2 rfl rfl
      exact ⟨.returned v, w₄, hR, (StepsIn.trans harr s1).trans (StepsIn.trans hs (.one (fenced_calm (fr := b.atR a₂ (.code (.exit id) :: k₁)) hF' hr' rfl) (stepR_round_exit rfl rfl hk hend)))⟩
    | goto t =>
      obtain ⟨v, w₄, hend, hR⟩ := hq₂
      obtain ⟨k₁, hk, hs⟩ := harr₂.2 rfl rfl
      exact ⟨.returned v, w₄, hR, (StepsIn.trans harr s1).trans (StepsIn.trans hs (.one (fenced_calm (fr := b.atR a₂ (.code (.goto t) :: k₁)) hF' hr' rfl) (stepR_round_goto rfl rfl hk hend)))⟩
    | panic chain =>
      obtain ⟨hd, hR⟩ := hq₂
      obtain ⟨todo, hs⟩ := harr₂
      have hl : ({ b.atR a₂ todo with mode := .panicking chain } : Frame).leaving P w₃ (.panicked chain) := ⟨rfl, hd, hfn⟩
      exact ⟨.panicked chain, w₃, hR, (StepsIn.trans harr s1).trans (StepsIn.trans hs (.one (fenced_leaving hF' hr' hl) (step_leave_panicked hl)))⟩
    | outgrown => exact hq₂.elim
  | exit id => exact hq.elim
  | goto t => exact hq.elim
  | ret => exact hq.elim
  | panic chain => exact hq.elim
  | outgrown => exact hq.elim
def noDefer (ops : Array Oper) : Prop := ∀ (i : Nat) (o : Oper), ops[i]? = some o → ∀ c, o.op ≠ .defer c
def noDeferB (ops : Array Oper) : Bool := ops.all fun o => match o.op with | .defer _ => false | _ => true
theorem noDefer_of {ops : Array Oper} (h : noDeferB ops = true) : noDefer ops := by
  intro i o ho c hc
  have h1 := Array.all_eq_true.1 h
  obtain ⟨hi, rfl⟩ := Array.getElem?_eq_some_iff.1 ho
  have := h1 i hi
  rw [hc] at this
  cases this
theorem Oper.wpIn_of_wp {o : Oper} {l : Nat} {a : Act} {w : World} {K : Act → World → Prop} {Q : Exit → Act → World → Prop} (hd : ∀ c, o.op ≠ .defer c) (h : o.wp P a w K Q) :
    o.wpIn (Fence.wide.inRound l) n P a w K Q := by
  refine ⟨fun _ _ => trivial, ?_⟩
  rw [Oper.semAt_eq _ _ _ hd]
  unfold Oper.wp at h
  generalize (execOp a.eval o).run P w = r at *
  cases r with
  | ok x w' =>
    cases x <;> simp only [Oper.upon] at h <;> simp only [Oper.uponIn]
    case value u => exact h
    case skip => exact h
    case defer d => exact h
    case enter f args => exact ⟨fun hs => by simp [Fence.wide] at hs, callsIn_wide.2 h⟩
    case row row args =>
      refine ⟨fun hs => by simp [Fence.wide] at hs, fun c cs _ => ?_⟩
      obtain ⟨v, w'', hr, hs⟩ := h c cs
      exact ⟨v, w'', hr, stepsIn_wide.2 hs⟩
  | halt x w' => cases x <;> simp only [Oper.upon] at h <;> simp only [Oper.uponIn] <;> exact h
theorem wpAnyIn_of_wpAny {l : Nat} {md : Region.Mode} {ops : Array Oper} {Q : Exit → Act → World → Prop} (hd : noDefer ops) (hout : ∀ a w, ¬ Q .outgrown a w) :
    ∀ (fuel : Nat) (listed : Array Bool) (a : Act) (w : World), wpAny P md ops Q fuel listed a w → wpAnyIn (Fence.wide.inRound l) n P md ops Q fuel listed a w
  | 0, _, _, _, h => h
  | fuel + 1, listed, a, w, h => by
    refine ⟨h.1, fun i hi => ?_⟩
    have h2 := h.2 i hi
    unfold wpOp at h2
    unfold wpOpIn
    split
    · rename_i ho; simp only [ho] at h2; exact wpAnyIn_of_wpAny hd hout fuel _ _ _ h2
    · rename_i o ho
      simp only [ho] at h2
      split
      · rename_i hw
        simp only [hw, if_true] at h2
        rcases h2 with h2 | ⟨_, a0, w0, h2⟩
        · exact Oper.wpIn_mono (fun a' w' h' => wpAnyIn_of_wpAny hd hout fuel _ _ _ h') (Oper.wpIn_of_wp (fun c => hd i o ho c) h2)
        · exact absurd h2 (hout _ _)
      · rename_i hw
        simp only [hw] at h2
        exact ⟨fun _ _ => trivial, wpAnyIn_of_wpAny hd hout fuel _ _ _ h2⟩
/-- A region that draws its order, in a round: whatever is shown of all orders outside. -/
theorem wpIn_round_any {l : Nat} {id : Nat} {ops : Array Oper} {Q : Exit → Act → World → Prop} {a : Act} {w : World} (hm : P.follows .mixedOrders = true) (hd : noDeferB ops = true) (hout : ∀ a w, ¬ Q .outgrown a w)
    (h : wpAny P .any ops Q ops.size (Array.replicate ops.size false) a { w with drawn := w.drawn + 1 }) : (Code.region id ops true).wpIn (Fence.wide.inRound l) n P Q a w :=
  wpIn_region_any hm (wpAnyIn_of_wpAny (noDefer_of hd) hout _ _ _ _ h)
theorem wpIn_round_quiet {l : Nat} {id : Nat} {Q : Exit → Act → World → Prop} {a : Act} {w : World} {os : List Oper} (C : World → Prop) (hm : P.follows .mixedOrders = true) (hd : noDeferB os.toArray = true) (hout : ∀ a w, ¬ Q .outgrown a w)
    (hB : Region.lexB .any os.toArray = true) (hC : C { w with drawn := w.drawn + 1 })
    (h : wpQuiet P os.toArray C (fun a' => ∀ w', C w' → Q .normal a' w') os a) : (Code.region id os.toArray true).wpIn (Fence.wide.inRound l) n P Q a w := by
  simp only [Region.lexB, Bool.and_eq_true] at hB
  refine wpIn_round_any hm hd hout (wpAny_of_quiet (Q := fun a' => ∀ w', C w' → Q .normal a' w') (fun _ w' hw' h => h w' hw') _ _ _ _ hC ?_)
  have := wpAnyQ_lex (C := C) (md := .any) hB.1 os 0 (Array.replicate os.toArray.size false) a (by simp) (by simpa using hB.2) h
  simpa using this
/-- The same at 'only the tape has gone on'. -/
theorem wpIn_round_quiet_lit {l : Nat} {id : Nat} {Q : Exit → Act → World → Prop} {a : Act} {w : World} {os : List Oper} (hm : P.follows .mixedOrders = true) (hd : noDeferB os.toArray = true) (hout : ∀ a w, ¬ Q .outgrown a w)
    (hB : Region.lexB .any os.toArray = true)
    (h : wpQuiet P os.toArray (fun w' => ∃ n, w' = w.drewN n) (fun a' => ∀ w', (∃ n, w' = w.drewN n) → Q .normal a' w') os a) : (Code.region id os.toArray true).wpIn (Fence.wide.inRound l) n P Q a w :=
  wpIn_round_quiet (C := fun w' => ∃ n, w' = w.drewN n) hm hd hout hB ⟨1, rfl⟩ h
theorem Oper.wpInW_of_wp {o : Oper} {a : Act} {w : World} {K : Act → World → Prop} {Q : Exit → Act → World → Prop} (hd : ∀ c, o.op ≠ .defer c) (h : o.wp P a w K Q) :
    o.wpIn Fence.wide n P a w K Q := by
  refine ⟨fun _ _ => trivial, ?_⟩
  rw [Oper.semAt_eq _ _ _ hd]
  unfold Oper.wp at h
  generalize (execOp a.eval o).run P w = r at *
  cases r with
  | ok x w' =>
    cases x <;> simp only [Oper.upon] at h <;> simp only [Oper.uponIn]
    case value u => exact h
    case skip => exact h
    case defer d => exact h
    case enter f args => exact ⟨fun hs => by simp [Fence.wide] at hs, callsIn_wide.2 h⟩
    case row row args =>
      refine ⟨fun hs => by simp [Fence.wide] at hs, fun c cs _ => ?_⟩
      obtain ⟨v, w'', hr, hs⟩ := h c cs
      exact ⟨v, w'', hr, stepsIn_wide.2 hs⟩
  | halt x w' => cases x <;> simp only [Oper.upon] at h <;> simp only [Oper.uponIn] <;> exact h
theorem wpAnyInW_of_wpAny {md : Region.Mode} {ops : Array Oper} {Q : Exit → Act → World → Prop} (hd : noDefer ops) (hout : ∀ a w, ¬ Q .outgrown a w) :
    ∀ (fuel : Nat) (listed : Array Bool) (a : Act) (w : World), wpAny P md ops Q fuel listed a w → wpAnyIn Fence.wide n P md ops Q fuel listed a w
  | 0, _, _, _, h => h
  | fuel + 1, listed, a, w, h => by
    refine ⟨h.1, fun i hi => ?_⟩
    have h2 := h.2 i hi
    unfold wpOp at h2
    unfold wpOpIn
    split
    · rename_i ho; simp only [ho] at h2; exact wpAnyInW_of_wpAny hd hout fuel _ _ _ h2
    · rename_i o ho
      simp only [ho] at h2
      split
      · rename_i hw
        simp only [hw, if_true] at h2
        rcases h2 with h2 | ⟨_, a0, w0, h2⟩
        · exact Oper.wpIn_mono (fun a' w' h' => wpAnyInW_of_wpAny hd hout fuel _ _ _ h') (Oper.wpInW_of_wp (fun c => hd i o ho c) h2)
        · exact absurd h2 (hout _ _)
      · rename_i hw
        simp only [hw] at h2
        exact ⟨fun _ _ => trivial, wpAnyInW_of_wpAny hd hout fuel _ _ _ h2⟩
/-- A region that draws its order, in a round: whatever is shown of all orders outside. -/
theorem wpIn_wide_any {id : Nat} {ops : Array Oper} {Q : Exit → Act → World → Prop} {a : Act} {w : World} (hm : P.follows .mixedOrders = true) (hd : noDeferB ops = true) (hout : ∀ a w, ¬ Q .outgrown a w)
    (h : wpAny P .any ops Q ops.size (Array.replicate ops.size false) a { w with drawn := w.drawn + 1 }) : (Code.region id ops true).wpIn Fence.wide n P Q a w :=
  wpIn_region_any hm (wpAnyInW_of_wpAny (noDefer_of hd) hout _ _ _ _ h)
theorem wpIn_wide_quiet {id : Nat} {Q : Exit → Act → World → Prop} {a : Act} {w : World} {os : List Oper} (C : World → Prop) (hm : P.follows .mixedOrders = true) (hd : noDeferB os.toArray = true) (hout : ∀ a w, ¬ Q .outgrown a w)
    (hB : Region.lexB .any os.toArray = true) (hC : C { w with drawn := w.drawn + 1 })
    (h : wpQuiet P os.toArray C (fun a' => ∀ w', C w' → Q .normal a' w') os a) : (Code.region id os.toArray true).wpIn Fence.wide n P Q a w := by
  simp only [Region.lexB, Bool.and_eq_true] at hB
  refine wpIn_wide_any hm hd hout (wpAny_of_quiet (Q := fun a' => ∀ w', C w' → Q .normal a' w') (fun _ w' hw' h => h w' hw') _ _ _ _ hC ?_)
  have := wpAnyQ_lex (C := C) (md := .any) hB.1 os 0 (Array.replicate os.toArray.size false) a (by simp) (by simpa using hB.2) h
  simpa using this
/-- .. at 'of what was there nothing has turned'. -/
theorem wpIn_wide_quiet_below {id : Nat} {Q : Exit → Act → World → Prop} {a : Act} {w : World} {os : List Oper} (hm : P.follows .mixedOrders = true) (hd : noDeferB os.toArray = true) (hout : ∀ a w, ¬ Q .outgrown a w)
    (hB : Region.lexB .any os.toArray = true)
    (h : wpQuiet P os.toArray (fun w' => ∃ p : Regrown, w' = Sort.grow (redrawn w p.d) p.os) (fun a' => ∀ w', (∃ p : Regrown, w' = Sort.grow (redrawn w p.d) p.os) → Q .normal a' w') os a) : (Code.region id os.toArray true).wpIn Fence.wide n P Q a w :=
  wpIn_wide_quiet (C := fun w' => ∃ p : Regrown, w' = Sort.grow (redrawn w p.d) p.os) hm hd hout hB ⟨⟨w.drawn + 1, #[]⟩, by rw [Sort.grow_empty]; rfl⟩ h
/-- Reads, then a tail in the order of the text. -/
theorem wpIn_round_still_tail {r : Nat} {id : Nat} {Q : Exit → Act → World → Prop} {a : Act} {w : World} {l : List Oper} (m : Nat) (hm : P.follows .mixedOrders = true) (hd : noDeferB l.toArray = true) (hout : ∀ a w, ¬ Q .outgrown a w) (hB : Region.lexTailB .any l.toArray m = true)
    (h : wpStill P l.toArray { w with drawn := w.drawn + 1 } (fun a' => wpList P l.toArray Q (l.drop m) a' { w with drawn := w.drawn + 1 }) (l.take m) a) : (Code.region id l.toArray true).wpIn (Fence.wide.inRound r) n P Q a w := by
  simp only [Region.lexTailB, Bool.and_eq_true, decide_eq_true_eq] at hB
  obtain ⟨⟨⟨⟨hsel, hn⟩, hs⟩, hc⟩, hlex⟩ := hB
  have hn' : m < l.length := by simpa using hn
  have htl : (l.take m).length = m := by simp; omega
  have hdl : (l.drop m).length = l.toArray.size - m := by simp
  have inv0 : HeadInv .any l.toArray m (Array.replicate l.toArray.size false) :=
    ⟨by simp, fun j oj _ hl => (by rw [getD_replicate_false] at hl; cases hl), fun t _ ht => getD_in (by simpa using ht) (getD_replicate_false _ _)⟩
  have H := wpAnyL_lex (md := .any) (g := l.toArray.size - m) hsel hs hc hn (l.take m) 0 _ a (fun j hj => by
    have hj' : j < m := by rw [htl] at hj; exact hj
    simp [hj']) (by simpa using htl) inv0 (by rw [htl]; exact hlex) h
  refine wpIn_round_any hm hd hout ?_
  have := wpAny_of_head (Q' := Q) (g := l.toArray.size - m) (fun listed a' hL => by
    have := wpAny_of_seq (md := .any) (Q' := Q) (l.drop m) m listed a' { w with drawn := w.drawn + 1 } (fun j => by simp [List.getElem?_drop]) (by rw [hdl]; exact hL.1) hL.2
    rwa [hdl] at this) _ _ _ H
  rw [htl, show m + (l.toArray.size - m) = l.toArray.size by omega] at this
  exact this
end Go.Proofs.Lw
end
section
namespace Go.Proofs.Lw
open Go.RowKit
set_option maxHeartbeats 400000
def failV (e : Int) : List PanicEntry := [{ v := .iface 81 (.agg #[.int .i64 e]), recovered := false }]
theorem ta81 (v : Value) (w : World) : (Instr.typeAssert (.iface 81 v) 20 81 true).run Tryz.prog w = .ok (.tuple #[v, .bool true]) w := by kernel_rfl
theorem caught_nil (a : Addr) (w : World) : Calls Tryz.prog 22 #[.nilIface, .pointer (some a)] w fun r w' => r = .returned (.tuple #[]) ∧ w = w' := by
  go_enter Tryz.func22, Tryz.ntmps22
  go_wp2
  go_end0
  exact ⟨rfl, rfl⟩
theorem caught_fail (a : Addr) (e : Int) (old : Value) (w : World) (hc : w.cell? a = some old) (hf : w.frozen? a = false) (ha : a.block < w.heap.size) : Calls Tryz.prog 22 #[.iface 81 (.agg #[.int .i64 e]), .pointer (some a)] w fun r w' => r = .returned (.tuple #[]) ∧ w' = (w.alloc (.cells #[.int .i64 e] 81)).setCell a (.int .i64 e) := by
  have hta := ta81
  have hc1 : (w.alloc (.cells #[.int .i64 e] 81)).cell? a = some old := by rw [World.cell?_alloc_lt _ _ a ha]; exact hc
  have hf1 : (w.alloc (.cells #[.int .i64 e] 81)).frozen? a = false := by rw [World.frozen?_alloc_old _ _ a (Nat.ne_of_lt ha)]; exact hf
  go_enter Tryz.func22, Tryz.ntmps22
  go_wp2
  go_end0
  exact ⟨rfl, rfl⟩
theorem mergeDefer_fail (p : Addr) (e : Int) (old : Value) (w : World) (hc : w.cell? p = some old) (hf : w.frozen? p = false) (hp : p.block < w.heap.size) :
    CallsD Tryz.prog 21 #[.pointer (some p)] (.panicking (failV e)) w fun r u' w' =>
      r = .returned (.tuple #[]) ∧ u' = .panicking [{ v := .iface 81 (.agg #[.int .i64 e]), recovered := true }] ∧ w' = (w.alloc (.cells #[.int .i64 e] 81)).setCell p (.int .i64 e) := by
  refine callsD_of_wpS Tryz.func21 rfl fun c₀ cs hu => ?_
  apply wpS_region
  simp [wpOpsS, go_sem, recoverD, hu, failV, Tryz.ntmps21]
  refine (caught_fail p e old w hc hf hp).mono ?_
  rintro r w' ⟨rfl, rfl⟩
  simp [bodyPostS, results, Tryz.results21, go_sem]
theorem mergeDefer_idle (p : Addr) (w : World) :
    CallsD Tryz.prog 21 #[.pointer (some p)] .returning w fun r u' w' => r = .returned (.tuple #[]) ∧ u' = .returning ∧ w' = w := by
  refine callsD_of_wpS Tryz.func21 rfl fun c₀ cs hu => ?_
  apply wpS_region
  simp [wpOpsS, go_sem, recoverD, hu, Tryz.ntmps21]
  refine (caught_nil p w).mono ?_
  rintro r w' ⟨rfl, rfl⟩
  cases c₀
  simp_all [bodyPostS, results, Tryz.results21, go_sem]
theorem demand_ok (e : Int) (w : World) : Calls Tryz.prog 34 #[.bool true, .int .i64 e] w fun r w' => r = .returned (.tuple #[]) ∧ w = w' := by
  go_enter Tryz.func34, Tryz.ntmps34
  go_wp2
  go_end0
  exact ⟨rfl, rfl⟩
theorem demand_no (e : Int) (w : World) : Calls Tryz.prog 34 #[.bool false, .int .i64 e] w fun r w' => r = .panicked (failV e) ∧ w = w' := by
  go_enter Tryz.func34, Tryz.ntmps34
  go_wp2
  exact ⟨rfl, rfl, rfl⟩
theorem try_ok (w : World) : Calls Tryz.prog 23 #[.int .i64 0] w fun r w' => r = .returned (.tuple #[]) ∧ w = w' := by
  go_enter Tryz.func23, Tryz.ntmps23
  go_wp2_with (go_at_call 34; refine (demand_ok _ _).mono ?_; rintro e w' ⟨rfl, rfl⟩)
  go_end0
  exact ⟨rfl, rfl⟩
theorem try_no (e : Int) (h : e ≠ 0) (w : World) : Calls Tryz.prog 23 #[.int .i64 e] w fun r w' => r = .panicked (failV e) ∧ w = w' := by
  have h0 : (e == 0) = false := by simpa using h
  go_enter Tryz.func23, Tryz.ntmps23
  go_wp2_with (go_at_call 34; refine (demand_no _ _).mono ?_; rintro e w' ⟨rfl, rfl⟩)
  exact ⟨rfl, rfl, rfl⟩
theorem merged_sl (A B : Option Addr) (n m c d : Nat) (w : World) : Calls Tryz.prog 35 #[.slice A n c, .slice B m d] w fun r w' => r = .returned (.func (.func 63) #[] #[.pointer (some ⟨w.heap.size, 0, none⟩), .pointer (some ⟨w.heap.size + 1, 0, none⟩)]) ∧ w' = (w.alloc (.cells #[.slice A n c] 22)).alloc (.cells #[.slice B m d] 22) := by
  go_enter Tryz.func35, Tryz.ntmps35
  go_wp2
  go_ways
  go_ret
  exact ⟨rfl, rfl⟩
end Go.Proofs.Lw
end
section
namespace Go.Proofs.Lw
open Go.RowKit Go.Proofs.YtehddihmndpgaaaGreatDoorW.PrintWords Go.Proofs.YtehddihmndpgaaaGreatDoor.PLib
set_option maxHeartbeats 400000
theorem setCells3 {w : World} {g : Nat} {a b c x y z : Value} {t : TypeId} (h : w.heap[g]? = some (.cells #[a, b, c] t (0, 0))) :
    (((w.setCell ⟨g, 0, none⟩ x).setCell ⟨g, 1, none⟩ y).setCell ⟨g, 2, none⟩ z).heap[g]? = some (.cells #[x, y, z] t (0, 0)) := by
  simp [World.setCell, Array.getElem?_modify, h]
theorem below_set3 {B : Nat} {w0 w : World} {g : Nat} {x y z : Value} (h : Below B w0 w) (hg : B ≤ g) :
    Below B w0 (((w.setCell ⟨g, 0, none⟩ x).setCell ⟨g, 1, none⟩ y).setCell ⟨g, 2, none⟩ z) :=
  ((h.setCell (p := ⟨g, 0, none⟩) hg _).setCell (p := ⟨g, 1, none⟩) hg _).setCell (p := ⟨g, 2, none⟩) hg _
theorem info32 : (Tryz.prog.info? 32).map (·.size) = some 3 := by kernel_rfl
set_option maxRecDepth 100000 in
theorem last_any (A : Option Addr) (c : Nat) (l : List S48) (camp : Int) (w : World) (h : Kd.C k48 w A l.length l) : Calls Tryz.prog 16 #[.slice A l.length c, .int .i64 camp] w fun r w' =>
    r = .returned (.agg #[.int .i64 (Ldg.lastR st l camp).time, .int .i64 (Ldg.lastR st l camp).campus, .int .i64 (Ldg.lastR st l camp).no]) ∧ Below w.heap.size w w' := by
  have hN : l.length ≤ 9223372036854775807 := h.2.1
  go_enter Tryz.func16, Tryz.ntmps16
  go_wp2
  go_loopw [11] (fun i wr => ∃ (k : Nat) (s : Ldg.St), k ≤ l.length ∧ i = .int .i64 k ∧ Ldg.lastGo camp s ((l.drop k).map st) = Ldg.lastR st l camp ∧ wr.heap[w.heap.size]? = some (.cells #[.int .i64 s.time, .int .i64 s.campus, .int .i64 s.no] 32 (0, 0)) ∧ Below w.heap.size w wr)
    (fun i _ => l.length - (intOf i).toNat)
  case atStart => exact ⟨0, ⟨0, camp, 0⟩, Nat.zero_le _, rfl, rfl, heap_alloc_new _ _, (Below.refl _ _).alloc (Nat.le_refl _) _⟩
  case round =>
    obtain ⟨k, s, hk, rfl, hl, hb, hB⟩ := hrel
    by_cases hlt : k < l.length
    · obtain ⟨ad, cs, rfl, hK, hcell⟩ := ent_at h k hlt
      have hcw : ∀ j u, cs[j]? = some u → wr.cell? ((ad.add (k * 31)).add j) = some u := fun j u hu => pw_cell_below hB (hcell j u hu)
      have hcl := k48_len hK
      obtain ⟨g0, g1, g2⟩ := k48_head hK
      obtain ⟨_, g0⟩ := List.getElem?_eq_some_iff.1 g0
      obtain ⟨_, g1⟩ := List.getElem?_eq_some_iff.1 g1
      obtain ⟨_, g2⟩ := List.getElem?_eq_some_iff.1 g2
      have hsz : (Tryz.prog.info? 48).map (·.size) = some cs.length := by rw [hcl]; exact info48
      have hone := k48_one hK
      have hl1 : Ldg.lastGo camp (if (st l[k]).campus = camp then st l[k] else s) ((l.drop (k + 1)).map st) = Ldg.lastR st l camp := by
        rw [List.drop_eq_getElem_cons hlt] at hl; exact hl
      have Hl := Lib.hid hl1
      clear hl hl1
      have hbl : w.heap.size < wr.heap.size := (Array.getElem?_eq_some_iff.1 hb).1
      have c0 := cell_of_row wr w.heap.size 0 _ 32 (0, 0) hb
      have c1 := cell_of_row wr w.heap.size 1 _ 32 (0, 0) hb
      have c2 := cell_of_row wr w.heap.size 2 _ 32 (0, 0) hb
      have fz : ∀ j, wr.frozen? ⟨w.heap.size, j, none⟩ = false := fun j => by simp [World.frozen?, hb]
      have hb2 := (Below.heap_alloc wr (.cells cs.toArray 48) _ hbl).trans hb
      have hB2 : Below w.heap.size w (wr.alloc (.cells cs.toArray 48)) := hB.alloc hB.size _
      have Hb2 := Lib.hid hb2
      have Hb := Lib.hid hb
      clear hb2 hb
      go_wp2_with (first
        | (refine wpList_load_at rfl 48 _ rfl (ad.add (k * 31)) rfl cs _ hcw Tryz.underlying48 rfl hsz ?_)
        | (refine wpList_store_new rfl 48 _ _ rfl cs.toArray _ _ rfl rfl (by simpa using hsz) (by simp [hcl]) hone ?_))
      · have e : (l[k].f0.f1 == camp) = true := by assumption
        have e' : (st l[k]).campus = camp := beq_iff_eq.1 e
        go_roundw
        case rel => exact ⟨k + 1, st l[k], by omega, by go_num, by have := Hl.out; rwa [if_pos e'] at this, (Below.heap_alloc _ _ _ (by simpa using hbl)).trans (setCells3 Hb.out), (below_set3 hB (Nat.le_refl _)).alloc (by simpa using hB.size) _⟩
        case measure => simp [intOf]; omega
      · have e : (l[k].f0.f1 == camp) = false := by assumption
        have e' : ¬ (st l[k]).campus = camp := beq_eq_false_iff_ne.1 e
        go_roundw
        case rel => exact ⟨k + 1, s, by omega, by go_num, by have := Hl.out; rwa [if_neg e'] at this, Hb2.out, hB2⟩
        case measure => simp [intOf]; omega
    · have c0 := cell_of_row wr w.heap.size 0 _ 32 (0, 0) hb
      have c1 := cell_of_row wr w.heap.size 1 _ 32 (0, 0) hb
      have c2 := cell_of_row wr w.heap.size 2 _ 32 (0, 0) hb
      have fz : ∀ j, wr.frozen? ⟨w.heap.size, j, none⟩ = false := fun j => by simp [World.frozen?, hb]
      have hls : s = Ldg.lastR st l camp := by rw [← hl, List.drop_eq_nil_of_le (by omega)]; rfl
      have Hls := Lib.hid hls
      have Hb := Lib.hid hb
      clear hl hls hb
      go_wp2
      refine bodyPost_ret (results_cell_row rfl _ _ w.heap.size 32 #[.int .i64 s.time, .int .i64 s.campus, .int .i64 s.no] (0, 0) _ rfl (setCells3 Hb.out) Tryz.underlying32 rfl info32) rfl ⟨by rw [Hls.out], below_set3 hB (Nat.le_refl _)⟩
end Go.Proofs.Lw
end
