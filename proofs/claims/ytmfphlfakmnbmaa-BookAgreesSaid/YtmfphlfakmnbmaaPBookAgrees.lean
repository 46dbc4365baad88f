/- Proved: for every list of copies of a book, every turn and every index the law BookAgrees returns true and leaves its arguments as they were. Conditions: none. -/
import Derived.WalkKit
import Derived.ProofKit
import Derived.OpenShut
import Derived.ShutString
import Derived.ChangeOld
import Derived.Below
import Derived.SizedLaws
import Derived.Test.YtmfphlfakmnbmaaRows
import Derived.Test.YtmfphlfakmnbmaaQ1
import Derived.Test.YtmfphlfakmnbmaaQ2
import Derived.Test.YtmfphlfakmnbmaaQ3
import Derived.Test.YtmfphlfakmnbmaaQ4
import Derived.Test.YtmfphlfakmnbmaaQ5
set_option linter.unusedVariables false
set_option linter.unusedSimpArgs false
section
namespace Go.Proofs.Ytmfphlfakmnbmaa.B
open Go.RowKit Go.Proofs.YtmfphlfakmnbmaaW.PrintWords Go.Proofs.YtmfphlfakmnbmaaW.PrintLast Go.Proofs.YtmfphlfakmnbmaaW.PrintMore
attribute [local go_sem] max2_int min2_int max_two min_two max_three min_three max_four min_four
def begins (P l : List S29) : Bool := decide (l.take P.length = P)
def beg (ls : List (List S29)) (P : List S29) : Nat := (ls.filter (begins P)).length
theorem begins_iff {P l : List S29} : begins P l = true ↔ l.take P.length = P := by simp [begins]
theorem begins_nil (l : List S29) : begins [] l = true := by simp [begins]
theorem begins_length {P l : List S29} (h : begins P l = true) : P.length ≤ l.length := by
  have := congrArg List.length (begins_iff.1 h)
  rw [List.length_take] at this
  omega
theorem begins_take {P l : List S29} (h : begins P l = true) (n : Nat) : begins (P.take n) l = true := by
  rw [begins_iff] at h ⊢
  rw [List.length_take]
  conv => rhs; rw [← h]
  rw [List.take_take]
theorem begins_snoc (P : List S29) (x : S29) (l : List S29) : begins (P ++ [x]) l = (begins P l && atE x P.length l) := by
  rw [Bool.eq_iff_iff, Bool.and_eq_true, begins_iff, begins_iff, atE_iff, List.length_append, List.length_singleton]
  constructor
  · intro h
    have hl := congrArg List.length h
    simp at hl
    have h1 : P.length < l.length := by omega
    rw [List.take_succ_eq_append_getElem h1] at h
    obtain ⟨h2, h3⟩ := List.append_inj h (by rw [List.length_take]; omega)
    refine ⟨h2, ?_⟩
    rw [List.getElem?_eq_getElem h1]
    simpa using h3
  · rintro ⟨h1, h2⟩
    obtain ⟨h3, h4⟩ := List.getElem?_eq_some_iff.1 h2
    rw [List.take_succ_eq_append_getElem h3, h1, h4]
theorem filter_le {α : Type} {p q : α → Bool} (h : ∀ x, p x = true → q x = true) : ∀ l : List α, (l.filter p).length ≤ (l.filter q).length
  | [] => Nat.le_refl _
  | a :: r => by
    have ih := filter_le h r
    rw [List.filter_cons, List.filter_cons]
    by_cases hp : p a = true
    · rw [if_pos hp, if_pos (h a hp), List.length_cons, List.length_cons]; omega
    · rw [if_neg hp]
      split
      · rw [List.length_cons]; omega
      · exact ih
theorem filter_both {α : Type} {p q : α → Bool} : ∀ l : List α, l.length < (l.filter p).length + (l.filter q).length → ∃ x ∈ l, p x = true ∧ q x = true
  | [], h => by simp at h
  | a :: r, h => by
    rw [List.filter_cons, List.filter_cons, List.length_cons] at h
    by_cases hp : p a = true
    · by_cases hq : q a = true
      · exact ⟨a, List.mem_cons_self, hp, hq⟩
      · rw [if_pos hp, if_neg hq, List.length_cons] at h
        obtain ⟨x, hx, h1⟩ := filter_both r (p := p) (q := q) (by omega)
        exact ⟨x, List.mem_cons_of_mem _ hx, h1⟩
    · rw [if_neg hp] at h
      have : ((if q a = true then a :: r.filter q else r.filter q).length) ≤ (r.filter q).length + 1 := by split <;> simp
      obtain ⟨x, hx, h1⟩ := filter_both r (p := p) (q := q) (by omega)
      exact ⟨x, List.mem_cons_of_mem _ hx, h1⟩
def Maj (l : List (List S29)) (P : List S29) : Prop := l.length < 2 * beg l P
theorem Maj.take {l : List (List S29)} {P : List S29} (h : Maj l P) (n : Nat) : Maj l (P.take n) := by
  have := filter_le (fun x hx => begins_take (P := P) (l := x) hx n) l
  unfold Maj beg at *
  omega
theorem Maj.some {l : List (List S29)} {P : List S29} (h : Maj l P) : ∃ x ∈ l, begins P x = true := by
  unfold Maj beg at h
  obtain ⟨x, hx⟩ := List.exists_mem_of_length_pos (l := l.filter (begins P)) (by omega)
  exact ⟨x, (List.mem_filter.1 hx).1, (List.mem_filter.1 hx).2⟩
theorem Maj.alike {l : List (List S29)} {P Q : List S29} (h : Maj l P) (k : Maj l Q) (hl : P.length ≤ Q.length) : Q.take P.length = P := by
  unfold Maj beg at h k
  obtain ⟨x, _, h1, h2⟩ := filter_both (p := begins P) (q := begins Q) l (by omega)
  rw [begins_iff] at h1 h2
  rw [← h2, List.take_take, Nat.min_eq_left hl, h1]
theorem votes_beg (l : List (List S29)) (out : List S29) (x : S29) : votes (l.filter (begins out)) out.length x = beg l (out ++ [x]) := by
  unfold votes beg
  rw [List.filter_filter]
  congr 1
  apply List.filter_congr
  intro y _
  rw [begins_snoc, Bool.and_comm]
theorem majFrom_spec (l : List (List S29)) : ∀ (d : Nat) (ls : List (List S29)) (out : List S29), ls = l.filter (begins out) → Maj l out → (∀ x ∈ l, x.length < out.length + d) →
    Maj l (majFrom (l.length / 2) d ls out) ∧ ∀ P, Maj l P → P.length ≤ (majFrom (l.length / 2) d ls out).length
  | 0, ls, out, _, hm, hl => by
    obtain ⟨x, hx, hb⟩ := hm.some
    have := begins_length hb
    have := hl x hx
    omega
  | d + 1, ls, out, hls, hm, hl => by
    cases hmo : most (l.length / 2) ls out.length with
    | none =>
      have e : majFrom (l.length / 2) (d + 1) ls out = out := by simp only [majFrom, hmo]
      rw [e]
      refine ⟨hm, fun P hP => Nat.le_of_not_lt fun hlt => ?_⟩
      have h1 := hP.take (out.length + 1)
      have h2 := Maj.alike hm h1 (by rw [List.length_take]; omega)
      have h3 : P.take (out.length + 1) = out ++ [P[out.length]] := by
        rw [List.take_succ_eq_append_getElem hlt]
        congr 1
        rw [List.take_take, Nat.min_eq_left (by omega)] at h2
        exact h2
      rw [h3] at h1
      have h4 := most_none hmo P[out.length]
      rw [hls, votes_beg] at h4
      unfold Maj at h1
      omega
    | some x =>
      have e : majFrom (l.length / 2) (d + 1) ls out = majFrom (l.length / 2) d (ls.filter (atE x out.length)) (out ++ [x]) := by simp only [majFrom, hmo]
      rw [e]
      have h4 := most_some hmo
      rw [hls, votes_beg] at h4
      refine majFrom_spec l d _ (out ++ [x]) ?_ ?_ ?_
      · rw [hls, List.filter_filter]
        apply List.filter_congr
        intro y _
        rw [begins_snoc, Bool.and_comm]
      · unfold Maj
        omega
      · intro y hy
        have := hl y hy
        rw [List.length_append, List.length_singleton]
        omega
theorem maj_nil {l : List (List S29)} (h : 0 < l.length) : Maj l [] := by
  unfold Maj beg
  rw [List.filter_eq_self.2 (fun x _ => begins_nil x)]
  omega
theorem maj_spec {l : List (List S29)} (h : 0 < l.length) (hl : ∀ x ∈ l, x.length ≤ 64) :
    Maj l (majFrom (l.length / 2) 65 l []) ∧ ∀ P, Maj l P → P.length ≤ (majFrom (l.length / 2) 65 l []).length :=
  majFrom_spec l 65 l [] (List.filter_eq_self.2 (fun x _ => begins_nil x)).symm (maj_nil h) (fun x hx => by have := hl x hx; simp; omega)
theorem maj_one {l : List (List S29)} {P Q : List S29} (h : Maj l P) (h' : ∀ R, Maj l R → R.length ≤ P.length) (k : Maj l Q) (k' : ∀ R, Maj l R → R.length ≤ Q.length) : P = Q := by
  have h1 := h' Q k
  have h2 := k' P h
  have h3 := Maj.alike h k h2
  rw [List.take_of_length_le h1] at h3
  exact h3.symm
end Go.Proofs.Ytmfphlfakmnbmaa.B
end

section
namespace Go.Proofs.Ytmfphlfakmnbmaa.B
open Go.RowKit Go.Proofs.YtmfphlfakmnbmaaW.PrintWords Go.Proofs.YtmfphlfakmnbmaaW.PrintLast Go.Proofs.YtmfphlfakmnbmaaW.PrintMore
attribute [local go_sem] max2_int min2_int max_two min_two max_three min_three max_four min_four
def Ev {α : Type} (f : Nat → Option α) (r : α) : Prop := ∃ k0, ∀ k, k0 ≤ k → f k = some r
theorem Ev.step {α : Type} {f g : Nat → Option α} {r : α} (h : Ev g r) (k1 : Nat) (hs : ∀ k, k1 ≤ k → f (k + 1) = g k) : Ev f r := by
  obtain ⟨k0, hk⟩ := h
  refine ⟨k0 + k1 + 1, fun k hle => ?_⟩
  obtain ⟨m, rfl⟩ : ∃ m, k = m + 1 := ⟨k - 1, by omega⟩
  rw [hs m (by omega)]
  exact hk m (by omega)
theorem Ev.same {α : Type} {f g : Nat → Option α} {r : α} (h : Ev g r) (k1 : Nat) (hs : ∀ k, k1 ≤ k → f k = g k) : Ev f r := by
  obtain ⟨k0, hk⟩ := h
  exact ⟨k0 + k1, fun k hle => by rw [hs k (by omega)]; exact hk k (by omega)⟩
theorem Ev.at_ {α : Type} {f : Nat → Option α} {r : α} (h : Ev f r) : ∃ k, f k = some r := by
  obtain ⟨k0, hk⟩ := h
  exact ⟨k0, hk k0 (Nat.le_refl _)⟩
theorem rdL2_getElem {l : List (List S29)} {i : Nat} (h : i < l.length) : rd_L2 l (i : Int) = l[i] := by unfold rd_L2; simp [List.getD_eq_getElem?_getD, List.getElem?_eq_getElem h]
theorem ne_bool (x y : S29) : (!(x.f0 == y.f0) || (!(x.f1 == y.f1) || (!(x.f2 == y.f2) || (!(x.f3 == y.f3))))) = true ↔ x ≠ y := by
  cases x; cases y
  simp
  constructor
  · rintro h h1 h2 h3 h4
    rcases h with h | h | h | h
    · exact h h1
    · exact h h2
    · exact h h3
    · exact h h4
  · intro h
    rename_i a0 a1 a2 a3 b0 b1 b2 b3
    by_cases h1 : a0 = b0
    · by_cases h2 : a1 = b1
      · by_cases h3 : a2 = b2
        · exact Or.inr (Or.inr (Or.inr (h h1 h2 h3)))
        · exact Or.inr (Or.inr (Or.inl h3))
      · exact Or.inr (Or.inl h2)
    · exact Or.inl h1
theorem same_book_from {a b : List S29} (hl : a.length = b.length) (h64 : a.length < 4611686018427387904) : ∀ (d k i : Nat), i + d = a.length → d < k → calxref08_SameBook.l0 k a b (i : Int) = some (decide (a.drop i = b.drop i)) := by
  intro d
  induction d with
  | zero =>
    intro k i hi hk
    obtain ⟨k, rfl⟩ : ∃ m, k = m + 1 := ⟨k - 1, by omega⟩
    simp only [calxref08_SameBook.l0]
    rw [if_neg (by omega), List.drop_eq_nil_of_le (by omega), List.drop_eq_nil_of_le (by omega)]
    simp
  | succ d ih =>
    intro k i hi hk
    obtain ⟨k, rfl⟩ : ∃ m, k = m + 1 := ⟨k - 1, by omega⟩
    have h1 : i < a.length := by omega
    have h2 : i < b.length := by omega
    simp only [calxref08_SameBook.l0]
    rw [if_pos (by omega), if_pos (by omega), if_pos (by omega), rd29_getElem h1, rd29_getElem h2, wrap_nat (by omega), ih k (i + 1) (by omega) (by omega), List.drop_eq_getElem_cons h1, List.drop_eq_getElem_cons h2]
    by_cases he : a[i] = b[i]
    · rw [if_neg (fun h => (ne_bool _ _).1 h he)]; simp only [List.cons.injEq, he, true_and]
    · rw [if_pos ((ne_bool _ _).2 he)]; simp only [List.cons.injEq, he, false_and, decide_false]
theorem same_book {a b : List S29} {k : Nat} (h64 : a.length ≤ 64) (hk : 64 < k) : calxref08_SameBook.f k a b = some (decide (a = b)) := by
  unfold calxref08_SameBook.f
  by_cases hl : a.length = b.length
  · rw [if_pos (by omega)]
    have := same_book_from hl (by omega) a.length k 0 (by omega) (by omega)
    simpa using this
  · rw [if_neg (by omega)]
    have : a ≠ b := fun e => hl (by rw [e])
    simp [this]
end Go.Proofs.Ytmfphlfakmnbmaa.B
end

section
namespace Go.Proofs.Ytmfphlfakmnbmaa.B
open Go.RowKit Go.Proofs.YtmfphlfakmnbmaaW.PrintWords Go.Proofs.YtmfphlfakmnbmaaW.PrintLast Go.Proofs.YtmfphlfakmnbmaaW.PrintMore
attribute [local go_sem] max2_int min2_int max_two min_two max_three min_three max_four min_four
def calxlaw08_begin.l0 : Nat → List (List (S29)) → List (S29) → Int → Int → Option (Int)
  | 0, _, _, _, _ => none
  | k + 1, x0, x1, x5, x6 => if x6 < (x0.length : Int) then (if 0 ≤ x6 then (if ((rd_L2 x0 x6).length : Int) ≥ (x1.length : Int) then (if 0 ≤ (x1.length : Int) then (if (x1.length : Int) ≤ ((rd_L2 x0 x6).length : Int) then ((calxref08_SameBook.f k ((rd_L2 x0 x6).take ((x1.length : Int) : Int).toNat) x1).bind fun t107 => (if t107 = true then (calxlaw08_begin.l0 k x0 x1 (wrap64 (x5 + 1)) (wrap64 (x6 + 1))) else (calxlaw08_begin.l0 k x0 x1 x5 (wrap64 (x6 + 1))))) else (none)) else (none)) else (calxlaw08_begin.l0 k x0 x1 x5 (wrap64 (x6 + 1)))) else (none)) else (some x5)
def calxlaw08_begin.f (k : Nat) (l0 : List (List (S29))) (l1 : List (S29)) : Option (Int) := calxlaw08_begin.l0 k l0 l1 0 0
set_option maxHeartbeats 8000000 in
set_option maxRecDepth 100000 in
theorem calxlaw08_begin.calls (k : Nat) (A0 : Option Addr) (c0 : Nat) (l0 : List (List (S29))) (A1 : Option Addr) (c1 : Nat) (l1 : List (S29)) (r : Int) (w : World) (hr0 : Kd.C (Kd.slice 29 k29) w A0 l0.length l0) (hc0 : l0.length ≤ c0) (hr1 : Kd.C k29 w A1 l1.length l1) (hc1 : l1.length ≤ c1) (h : calxlaw08_begin.f k l0 l1 = some r) :
    Calls Try.prog 30 #[.slice A0 l0.length c0, .slice A1 l1.length c1] w fun e w' => e = .returned (.int .i64 r) ∧ Drawn0 w w' := by
  have HR0 := Aside0.mk hr0
  have HC0 := Aside0.mk hc0
  clear hr0 hc0
  have HR1 := Aside0.mk hr1
  have HC1 := Aside0.mk hc1
  clear hr1 hc1
  have H : (calxlaw08_begin.l0 k l0 l1 0 0) = some r := h
  clear h
  have H' := Aside0.mk H
  clear H
  go_enter Try.func30, Try.ntmps30
  go_wp2
  go_loopg [5, 6] k (fun kq v5 v6 w' => ∃ (x5_1 : Int) (x6_1 : Int), v5 = .int .i64 x5_1 ∧ v6 = .int .i64 x6_1 ∧ Aside0 (calxlaw08_begin.l0 kq l0 l1 x5_1 x6_1 = some r) ∧ Aside0 (kq ≤ k) ∧ Drawn0 w w')
  case atStart => exact ⟨(0), (0), (by first | rfl | (simp; done) | (simp [*]; done)), (by first | rfl | (simp; done) | (simp [*]; done)), H', ⟨Nat.le_refl _⟩, by repeat (first | exact Drawn0.refl _ | apply Drawn0.step)⟩
  case round =>
    clear H'
    try clear c1
    try clear p2
    obtain ⟨x5_1, x6_1, rfl, rfl, HA, HK1, ⟨m1, rfl⟩⟩ := hrel
    cases gk with
    | zero => exact absurd HA.out (by simp [calxlaw08_begin.l0])
    | succ k1 =>
      have H := HA.out
      clear HA
      simp only [calxlaw08_begin.l0] at H
      by_cases c3 : x6_1 < (l0.length : Int)
      · rw [if_pos c3] at H
        have c3b0 : decide (x6_1 < (l0.length : Int)) = true := decide_eq_true c3
        clear c3
        by_cases c4 : 0 ≤ x6_1
        · rw [if_pos c4] at H
          have c4b0 : decide (0 ≤ x6_1) = true := decide_eq_true c4
          clear c4
          by_cases c5 : ((rd_L2 l0 x6_1).length : Int) ≥ (l1.length : Int)
          · rw [if_pos c5] at H
            have c5b0 : decide ((l1.length : Int) ≤ ((rd_L2 l0 x6_1).length : Int)) = true := decide_eq_true c5
            have c5b1 : decide (l1.length ≤ (rd_L2 l0 x6_1).length) = true := decide_eq_true (Int.ofNat_le.mp c5)
            clear c5
            by_cases c6 : 0 ≤ (l1.length : Int)
            · rw [if_pos c6] at H
              have c6b0 := eq_true c6
              have c6b1 : decide (0 ≤ (l1.length : Int)) = true := decide_eq_true c6
              clear c6
              by_cases c7 : (l1.length : Int) ≤ ((rd_L2 l0 x6_1).length : Int)
              · rw [if_pos c7] at H
                have c7b0 := eq_true c7
                have c7b1 : decide ((l1.length : Int) ≤ ((rd_L2 l0 x6_1).length : Int)) = true := decide_eq_true c7
                clear c7
                obtain ⟨y103, hy103⟩ : ∃ y_ : List (S29), y_ = ((rd_L2 l0 x6_1).take ((l1.length : Int) : Int).toNat) := ⟨_, rfl⟩
                replace H : ((calxref08_SameBook.f k1 y103 l1).bind fun t107 => (if t107 = true then (calxlaw08_begin.l0 k1 l0 l1 (wrap64 (x5_1 + 1)) (wrap64 (x6_1 + 1))) else (calxlaw08_begin.l0 k1 l0 l1 x5_1 (wrap64 (x6_1 + 1))))) = some r := by first | (rw [hy103]; with_reducible exact H) | (have H2_ := (Option.bind_some _ _).symm.trans H; rw [hy103]; with_reducible exact H2_) | (have H2_ := (Option.bind_some _ _).symm.trans H; with_reducible exact H2_) | with_reducible exact H | (rw [hy103]; exact H) | exact H
                have Ny103 := Aside0.mk hy103
                clear hy103
                replace H := Option.bind_eq_some_iff.mp H
                obtain ⟨t107, A80, H⟩ := H
                replace H : (if t107 = true then (calxlaw08_begin.l0 k1 l0 l1 (wrap64 (x5_1 + 1)) (wrap64 (x6_1 + 1))) else (calxlaw08_begin.l0 k1 l0 l1 x5_1 (wrap64 (x6_1 + 1)))) = some r := H
                have A8 := Aside0.mk A80
                clear A80
                by_cases c9 : t107 = true
                · subst c9
                  have H1 : (calxlaw08_begin.l0 k1 l0 l1 (wrap64 (x5_1 + 1)) (wrap64 (x6_1 + 1))) = some r := by rw [if_pos rfl] at H; exact H
                  clear H
                  have H := H1
                  clear H1
                  have H' := Aside0.mk H
                  clear H
                  have p101 : 0 ≤ (x6_1 : Int) := of_decide_eq_true (by first | (with_reducible assumption) | assumption)
                  have q101 : x6_1 < (l0.length : Int) := of_decide_eq_true (by first | (with_reducible assumption) | assumption)
                  obtain ⟨ad101, A101_0, c101_0, e101, hx101_0, hl101_0, hi101_0⟩ := at_L2 HR0.out x6_1 p101 q101
                  cases e101
                  have HR101_0 := Aside0.mk hi101_0
                  have HC101_0 := Aside0.mk hl101_0
                  clear hi101_0 hl101_0
                  replace p101 := eq_true p101
                  replace q101 := eq_true q101
                  have p102 : 0 ≤ (x6_1 : Int) := of_decide_eq_true (by first | (with_reducible assumption) | assumption)
                  have q102 : x6_1 < (l0.length : Int) := of_decide_eq_true (by first | (with_reducible assumption) | assumption)
                  obtain ⟨ad102, A102_0, c102_0, e102, hx102_0, hl102_0, hi102_0⟩ := at_L2 HR0.out x6_1 p102 q102
                  obtain rfl : ad101 = ad102 := (by injection e102)
                  have HR102_0 := Aside0.mk hi102_0
                  have HC102_0 := Aside0.mk hl102_0
                  clear hi102_0 hl102_0
                  replace p102 := eq_true p102
                  replace q102 := eq_true q102
                  have ea_ := Option.some.inj (hx101_0.symm.trans hx102_0)
                  injection ea_ with ea_ en_ ec_
                  subst ea_
                  subst ec_
                  clear en_
                  have q10 : ((l1.length : Int) : Int) ≤ (((rd_L2 l0 x6_1).length : Int) : Int) := of_decide_eq_true (by first | (with_reducible assumption) | assumption)
                  obtain ⟨i010, hi010, _, hsz10, _⟩ := info_parts info29
                  have hroom10 : (rd_L2 l0 x6_1).length ≤ c101_0 := HC102_0.out
                  have hC10 : Kd.C k29 _ A101_0 (rd_L2 l0 x6_1).length (rd_L2 l0 x6_1) := HR102_0.out
                  have hcut10 := cut_to (P := Try.prog) 32 29 .i64 Try.underlying32 hi010 A101_0 (rd_L2 l0 x6_1).length c101_0 (l1.length : Int) (of_decide_eq_true (by first | (with_reducible assumption) | assumption)) q10 hroom10
                  have hr10 := Kd.C_take (m := ((l1.length : Int) : Int).toNat) hC10 (by omega)
                  have hy10 : y103.length = ((l1.length : Int) : Int).toNat := (by rw [Ny103.out, List.length_take]; omega)
                  rw [← Ny103.out] at hr10
                  rw [← hy10] at hcut10
                  have HR106 := Aside0.mk hr10
                  have HC106 := Aside0.mk (show y103.length ≤ c101_0 from by omega)
                  clear hr10 hC10 hroom10 hi010 hsz10
                  have KY10 := Aside0.mk hy10
                  clear hy10
                  replace q10 := eq_true q10
                  go_wp2_with (first | (go_at_call 29; (with_reducible refine (calxref08_SameBook.calls k1 _ _ y103 _ _ l1 true _ ?side1 ?side2 ?side3 ?side4 A8.out).mono ?_); (case side1 => repeat (first | exact HR106.out | (with_reducible refine Kd.C_alloc ?_ _) | (with_reducible refine Kd.C_drewN ?_ _) | (with_reducible refine Kd.C_drew ?_))); (case side2 => exact HC106.out); (case side3 => repeat (first | exact HR1.out | (with_reducible refine Kd.C_alloc ?_ _) | (with_reducible refine Kd.C_drewN ?_ _) | (with_reducible refine Kd.C_drew ?_))); (case side4 => exact HC1.out); rintro e w' ⟨rfl, ⟨nd, rfl⟩⟩))
                  go_roundg k1
                  case measure => have := HK1.out; omega
                  case rel => exact ⟨(wrap64 (x5_1 + 1)), (wrap64 (x6_1 + 1)), (by first | rfl | (simp; done) | (simp [*]; done)), (by first | rfl | (simp; done) | (simp [*]; done)), H', ⟨by have := HK1.out; omega⟩, by repeat (first | exact Drawn0.refl _ | apply Drawn0.step)⟩
                · replace c9 := Bool.eq_false_iff.mpr c9
                  subst c9
                  have H1 : (calxlaw08_begin.l0 k1 l0 l1 x5_1 (wrap64 (x6_1 + 1))) = some r := by rw [if_neg (show ¬ (false = true) by decide)] at H; exact H
                  clear H
                  have H := H1
                  clear H1
                  have H' := Aside0.mk H
                  clear H
                  have p101 : 0 ≤ (x6_1 : Int) := of_decide_eq_true (by first | (with_reducible assumption) | assumption)
                  have q101 : x6_1 < (l0.length : Int) := of_decide_eq_true (by first | (with_reducible assumption) | assumption)
                  obtain ⟨ad101, A101_0, c101_0, e101, hx101_0, hl101_0, hi101_0⟩ := at_L2 HR0.out x6_1 p101 q101
                  cases e101
                  have HR101_0 := Aside0.mk hi101_0
                  have HC101_0 := Aside0.mk hl101_0
                  clear hi101_0 hl101_0
                  replace p101 := eq_true p101
                  replace q101 := eq_true q101
                  have p102 : 0 ≤ (x6_1 : Int) := of_decide_eq_true (by first | (with_reducible assumption) | assumption)
                  have q102 : x6_1 < (l0.length : Int) := of_decide_eq_true (by first | (with_reducible assumption) | assumption)
                  obtain ⟨ad102, A102_0, c102_0, e102, hx102_0, hl102_0, hi102_0⟩ := at_L2 HR0.out x6_1 p102 q102
                  obtain rfl : ad101 = ad102 := (by injection e102)
                  have HR102_0 := Aside0.mk hi102_0
                  have HC102_0 := Aside0.mk hl102_0
                  clear hi102_0 hl102_0
                  replace p102 := eq_true p102
                  replace q102 := eq_true q102
                  have ea_ := Option.some.inj (hx101_0.symm.trans hx102_0)
                  injection ea_ with ea_ en_ ec_
                  subst ea_
                  subst ec_
                  clear en_
                  have q11 : ((l1.length : Int) : Int) ≤ (((rd_L2 l0 x6_1).length : Int) : Int) := of_decide_eq_true (by first | (with_reducible assumption) | assumption)
                  obtain ⟨i011, hi011, _, hsz11, _⟩ := info_parts info29
                  have hroom11 : (rd_L2 l0 x6_1).length ≤ c101_0 := HC102_0.out
                  have hC11 : Kd.C k29 _ A101_0 (rd_L2 l0 x6_1).length (rd_L2 l0 x6_1) := HR102_0.out
                  have hcut11 := cut_to (P := Try.prog) 32 29 .i64 Try.underlying32 hi011 A101_0 (rd_L2 l0 x6_1).length c101_0 (l1.length : Int) (of_decide_eq_true (by first | (with_reducible assumption) | assumption)) q11 hroom11
                  have hr11 := Kd.C_take (m := ((l1.length : Int) : Int).toNat) hC11 (by omega)
                  have hy11 : y103.length = ((l1.length : Int) : Int).toNat := (by rw [Ny103.out, List.length_take]; omega)
                  rw [← Ny103.out] at hr11
                  rw [← hy11] at hcut11
                  have HR106 := Aside0.mk hr11
                  have HC106 := Aside0.mk (show y103.length ≤ c101_0 from by omega)
                  clear hr11 hC11 hroom11 hi011 hsz11
                  have KY11 := Aside0.mk hy11
                  clear hy11
                  replace q11 := eq_true q11
                  go_wp2_with (first | (go_at_call 29; (with_reducible refine (calxref08_SameBook.calls k1 _ _ y103 _ _ l1 false _ ?side1 ?side2 ?side3 ?side4 A8.out).mono ?_); (case side1 => repeat (first | exact HR106.out | (with_reducible refine Kd.C_alloc ?_ _) | (with_reducible refine Kd.C_drewN ?_ _) | (with_reducible refine Kd.C_drew ?_))); (case side2 => exact HC106.out); (case side3 => repeat (first | exact HR1.out | (with_reducible refine Kd.C_alloc ?_ _) | (with_reducible refine Kd.C_drewN ?_ _) | (with_reducible refine Kd.C_drew ?_))); (case side4 => exact HC1.out); rintro e w' ⟨rfl, ⟨nd, rfl⟩⟩))
                  go_roundg k1
                  case measure => have := HK1.out; omega
                  case rel => exact ⟨(x5_1), (wrap64 (x6_1 + 1)), (by first | rfl | (simp; done) | (simp [*]; done)), (by first | rfl | (simp; done) | (simp [*]; done)), H', ⟨by have := HK1.out; omega⟩, by repeat (first | exact Drawn0.refl _ | apply Drawn0.step)⟩
              · rw [if_neg c7] at H
                exact absurd H (by simp)
            · rw [if_neg c6] at H
              exact absurd H (by simp)
          · rw [if_neg c5] at H
            have c5b0 : decide ((l1.length : Int) ≤ ((rd_L2 l0 x6_1).length : Int)) = false := decide_eq_false c5
            have c5b1 : decide (l1.length ≤ (rd_L2 l0 x6_1).length) = false := decide_eq_false (fun h => c5 (Int.ofNat_le.mpr h))
            clear c5
            have H' := Aside0.mk H
            clear H
            have p101 : 0 ≤ (x6_1 : Int) := of_decide_eq_true (by first | (with_reducible assumption) | assumption)
            have q101 : x6_1 < (l0.length : Int) := of_decide_eq_true (by first | (with_reducible assumption) | assumption)
            obtain ⟨ad101, A101_0, c101_0, e101, hx101_0, hl101_0, hi101_0⟩ := at_L2 HR0.out x6_1 p101 q101
            cases e101
            have HR101_0 := Aside0.mk hi101_0
            have HC101_0 := Aside0.mk hl101_0
            clear hi101_0 hl101_0
            replace p101 := eq_true p101
            replace q101 := eq_true q101
            go_wp2
            go_roundg k1
            case measure => have := HK1.out; omega
            case rel => exact ⟨(x5_1), (wrap64 (x6_1 + 1)), (by first | rfl | (simp; done) | (simp [*]; done)), (by first | rfl | (simp; done) | (simp [*]; done)), H', ⟨by have := HK1.out; omega⟩, by repeat (first | exact Drawn0.refl _ | apply Drawn0.step)⟩
        · rw [if_neg c4] at H
          exact absurd H (by simp)
      · rw [if_neg c3] at H
        have c3b0 : decide (x6_1 < (l0.length : Int)) = false := decide_eq_false c3
        clear c3
        obtain rfl := Option.some.inj H
        go_wp2
        go_ret
        exact ⟨by first | rfl | (simp; done) | (simp [*]; done), by repeat (first | exact Drawn0.refl _ | apply Drawn0.step)⟩
end Go.Proofs.Ytmfphlfakmnbmaa.B
end

section
namespace Go.Proofs.Ytmfphlfakmnbmaa.B
open Go.RowKit Go.Proofs.YtmfphlfakmnbmaaW.PrintWords Go.Proofs.YtmfphlfakmnbmaaW.PrintLast Go.Proofs.YtmfphlfakmnbmaaW.PrintMore
attribute [local go_sem] max2_int min2_int max_two min_two max_three min_three max_four min_four
def turned (l : List (List S29)) (t : Nat) : List (List S29) := l.drop (t % l.length) ++ l.take (t % l.length)
theorem turned_length (l : List (List S29)) (t : Nat) : (turned l t).length = l.length := by
  unfold turned
  rw [List.length_append, List.length_drop, List.length_take]
  rcases Nat.eq_zero_or_pos l.length with h | h
  · omega
  · have := Nat.mod_lt t h
    omega
theorem turned_perm (l : List (List S29)) (t : Nat) : (turned l t).Perm l := by
  unfold turned
  exact List.perm_append_comm.trans (by rw [List.take_append_drop])
theorem turned_at {l : List (List S29)} {t i : Nat} (h : i < l.length) : (turned l t)[i]? = some (l.getD ((i + t) % l.length) []) := by
  have hr := Nat.mod_lt t (show 0 < l.length by omega)
  have he : (i + t) % l.length = (i + t % l.length) % l.length := by rw [Nat.add_mod, Nat.mod_eq_of_lt h]
  rw [he]
  unfold turned
  obtain ⟨r, hrr⟩ : ∃ r, r = t % l.length := ⟨_, rfl⟩
  rw [← hrr] at hr ⊢
  by_cases hlt : i + r < l.length
  · rw [List.getElem?_append_left (by rw [List.length_drop]; omega), List.getElem?_drop, Nat.mod_eq_of_lt hlt, show r + i = i + r by omega, List.getElem?_eq_getElem hlt]
    simp [List.getD_eq_getElem?_getD, List.getElem?_eq_getElem hlt]
  · have e : (i + r) % l.length = i + r - l.length := by
      rw [Nat.mod_eq_sub_mod (by omega), Nat.mod_eq_of_lt (by omega)]
    rw [e, List.getElem?_append_right (by rw [List.length_drop]; omega), List.length_drop, show i - (l.length - r) = i + r - l.length by omega, List.getElem?_take, if_pos (by omega), List.getElem?_eq_getElem (show i + r - l.length < l.length by omega)]
    simp [List.getD_eq_getElem?_getD, List.getElem?_eq_getElem (show i + r - l.length < l.length by omega)]
theorem turned_take {l : List (List S29)} {t i : Nat} (h : i < l.length) : (turned l t).take (i + 1) = (turned l t).take i ++ [l.getD ((i + t) % l.length) []] := by
  have hi : i < (turned l t).length := by rw [turned_length]; exact h
  rw [List.take_succ_eq_append_getElem hi]
  have := turned_at (t := t) h
  rw [List.getElem?_eq_getElem hi] at this
  injection this with this
  rw [this]
theorem beg_turned (l : List (List S29)) (t : Nat) (P : List S29) : beg (turned l t) P = beg l P := ((turned_perm l t).filter (begins P)).length_eq
theorem maj_turned (l : List (List S29)) (t : Nat) (P : List S29) : Maj (turned l t) P ↔ Maj l P := by
  unfold Maj
  rw [beg_turned, turned_length]
theorem majP_good {l : List (List S29)} (h8 : l.length ≤ 8) (h0 : 0 < l.length) (hall : ∀ x ∈ l, checkP x = 0) : majP l = (majFrom (l.length / 2) 65 l [], 0) := by
  unfold majP
  rw [if_neg (by omega), if_neg (by omega), List.find?_eq_none.2 (fun x hx => by simp [hall x hx])]
theorem majP_bad {l : List (List S29)} (h8 : l.length ≤ 8) (h0 : 0 < l.length) (hb : ¬ ∀ x ∈ l, checkP x = 0) : (majP l).2 ≠ 0 := by
  unfold majP
  rw [if_neg (by omega), if_neg (by omega)]
  cases hf : l.find? (fun x => decide (checkP x ≠ 0)) with
  | none =>
    exfalso
    apply hb
    intro x hx
    have := List.find?_eq_none.1 hf x hx
    simpa using this
  | some x =>
    have := List.find?_some hf
    simpa using this
theorem agrees {l : List (List S29)} (h8 : l.length ≤ 8) (h0 : 0 < l.length) (t : Nat) : ((majP l).2 = 0 ↔ (majP (turned l t)).2 = 0) ∧ ((majP l).2 = 0 → (majP (turned l t)).1 = (majP l).1 ∧ Maj l (majP l).1 ∧ (majP l).1.length ≤ 64 ∧ ∀ P, Maj l P → P.length ≤ (majP l).1.length) := by
  have hl := turned_length l t
  have hm : ∀ x, x ∈ turned l t ↔ x ∈ l := fun x => (turned_perm l t).mem_iff
  by_cases hall : ∀ x ∈ l, checkP x = 0
  · have hall2 : ∀ x ∈ turned l t, checkP x = 0 := fun x hx => hall x ((hm x).1 hx)
    rw [majP_good h8 h0 hall, majP_good (by omega) (by omega) hall2]
    refine ⟨⟨fun _ => rfl, fun _ => rfl⟩, fun _ => ?_⟩
    obtain ⟨s1, s2⟩ := maj_spec h0 (fun x hx => check_len (hall x hx))
    obtain ⟨t1, t2⟩ := maj_spec (l := turned l t) (by omega) (fun x hx => check_len (hall2 x hx))
    have e := maj_one s1 s2 ((maj_turned l t _).1 t1) (fun R hR => t2 R ((maj_turned l t R).2 hR))
    refine ⟨e.symm, s1, ?_, s2⟩
    obtain ⟨x, hx, hb⟩ := Maj.some s1
    have := begins_length hb
    have := check_len (hall x hx)
    show (majFrom (l.length / 2) 65 l []).length ≤ 64
    omega
  · have hb2 : ¬ ∀ x ∈ turned l t, checkP x = 0 := fun h => hall (fun x hx => h x ((hm x).2 hx))
    have n1 := majP_bad h8 h0 hall
    have n2 := majP_bad (l := turned l t) (by omega) (by omega) hb2
    exact ⟨⟨fun h => absurd h n1, fun h => absurd h n2⟩, fun h => absurd h n1⟩
theorem begin_from {l : List (List S29)} {P : List S29} (hl : l.length ≤ 100) (hP : P.length ≤ 64) : ∀ (d k i n : Nat), i + d = l.length → d + 100 < k → n ≤ i → calxlaw08_begin.l0 k l P (n : Int) (i : Int) = some ((n + beg (l.drop i) P : Nat) : Int) := by
  intro d
  induction d with
  | zero =>
    intro k i n hi hk hn
    obtain ⟨k, rfl⟩ : ∃ m, k = m + 1 := ⟨k - 1, by omega⟩
    simp only [calxlaw08_begin.l0]
    rw [if_neg (by omega), List.drop_eq_nil_of_le (by omega)]
    rfl
  | succ d ih =>
    intro k i n hi hk hn
    obtain ⟨k, rfl⟩ : ∃ m, k = m + 1 := ⟨k - 1, by omega⟩
    have h1 : i < l.length := by omega
    have hc : beg (l.drop i) P = (if begins P l[i] = true then 1 else 0) + beg (l.drop (i + 1)) P := by
      unfold beg
      rw [List.drop_eq_getElem_cons h1, List.filter_cons]
      split
      · rw [List.length_cons]; omega
      · omega
    simp only [calxlaw08_begin.l0]
    rw [if_pos (by omega), if_pos (by omega), rdL2_getElem h1, hc]
    by_cases hg : P.length ≤ l[i].length
    · rw [if_pos (by omega), if_pos (by omega), if_pos (by omega), Int.toNat_natCast, same_book (by rw [List.length_take]; omega) (by omega), Option.bind_some]
      by_cases he : l[i].take P.length = P
      · rw [if_pos (by simpa using he), if_pos (begins_iff.2 he), wrap_nat (by omega), wrap_nat (by omega), ih k (i + 1) (n + 1) (by omega) (by omega) (by omega)]
        congr 2
        omega
      · rw [if_neg (by simpa using he), if_neg (fun h => he (begins_iff.1 h)), wrap_nat (by omega), ih k (i + 1) n (by omega) (by omega) (by omega)]
        congr 2
        omega
    · rw [if_neg (by omega), if_neg (fun h => hg (begins_length h)), wrap_nat (by omega), ih k (i + 1) n (by omega) (by omega) (by omega)]
      congr 2
      omega
theorem begin_is {l : List (List S29)} {P : List S29} (hl : l.length ≤ 100) (hP : P.length ≤ 64) : calxlaw08_begin.f 300 l P = some (beg l P : Int) := by
  unfold calxlaw08_begin.f
  have := begin_from hl hP l.length 300 0 0 (by omega) (by omega) (by omega)
  rw [List.drop_zero, Nat.zero_add] at this
  exact this
end Go.Proofs.Ytmfphlfakmnbmaa.B
end

section
namespace Go.Proofs.Ytmfphlfakmnbmaa.B
open Go.RowKit Go.Proofs.YtmfphlfakmnbmaaW.PrintWords Go.Proofs.YtmfphlfakmnbmaaW.PrintLast Go.Proofs.YtmfphlfakmnbmaaW.PrintMore
attribute [local go_sem] max2_int min2_int max_two min_two max_three min_three max_four min_four
theorem kL_rows {w0 W : World} {base : Nat} {ok : Nat → Prop} {v : Value} {xs : List (List S29)} (h : (kL w0).R 32 W base ok v xs) (hB : Below w0.heap.size w0 W) : ∃ A c, v = .slice A xs.length c ∧ xs.length ≤ c ∧ Kd.C (Kd.slice 29 k29) W A xs.length xs := by
  obtain ⟨A, c, rfl, hl, hC⟩ := Kd.R_reads h
  refine ⟨A, c, rfl, hl, ReadsRow.imp_ hC (Below.refl _ _) (fun x cs hx => ?_)⟩
  obtain ⟨A1, c1, rfl, h1, h2⟩ := hx
  exact ⟨A1, c1, rfl, h1, Kd.C_below h2 hB⟩
theorem kL_new {ops : Array Oper} {rest : List Oper} {o : Oper} {a : Act} {Q : Exit → Act → World → Prop} {w0 w2 W : World} {v : Value} {out : List (List S29)} (y : List S29) (A : Option Addr) (c : Nat) (hgd : o.guard = none) (s x : Operand)
    (ho : o.op = .call { callee := .builtin .append, args := #[s, x], argTypes := #[42, 42] }) (hs : a.eval s = v) {n : Nat} (hx : a.eval x = .slice (some ⟨n, 0, none⟩) 1 1) (hnn : n = W.heap.size)
    (HB : Below w2.heap.size w2 W) (HR : (kL w0).R 32 W w2.heap.size (fun _ => True) v out) (hl : out.length ≤ 64) (hle : y.length ≤ c) (hC : k29.C w0 A y.length y)
    (h : ∀ v1 w3, (kL w0).R 32 w3 w2.heap.size (fun _ => True) v1 (out ++ [y]) → Below w2.heap.size w2 w3 → wpList Try.prog ops Q rest (a.put o.dst v1) w3) :
    wpList Try.prog ops Q (o :: rest) a (W.alloc (.cells #[.slice A y.length c] 32)) := by
  subst hnn
  refine Kd.R_append (kL w0) (w0 := w2) (W := W) w2.heap.size hgd s x 42 32 (.slice none 0 0) 24 ho Try.underlying42 info32 rfl Nat.zero_lt_one (by decide) v out y [.slice A y.length c] (fun _ => True) (fun _ => False) hs hx (kL_mk hle hC _ _ _) (fun _ h => h.elim) (fun _ _ => trivial) HR HB (below_size HB) (by omega) ?_
  intro v1 w3 hs3 hb3 _ _
  exact h v1 w3 hs3 hb3
theorem maj_lens {l : List (List S29)} {M : List S29} (h8 : l.length ≤ 8) (h0 : 0 < l.length) (h : book_Majority.f l = some (M, 0)) : ∀ x ∈ l, x.length ≤ 64 := by
  have h2 : majP l = (M, 0) := Option.some.inj h
  intro x hx
  by_cases hall : ∀ x ∈ l, checkP x = 0
  · exact check_len (hall x hx)
  · exact absurd (congrArg Prod.snd h2) (majP_bad h8 h0 hall)
theorem rd_L2_mem {l : List (List S29)} {q : Nat} (h : q < l.length) : rd_L2 l (q : Int) ∈ l := by
  rw [rdL2_getElem h]
  exact List.getElem_mem _
theorem less_succ {n j : Nat} (h : j < n) (hn : n ≤ 1000) : n - (intOf (.int .i64 (wrap64 ((j : Int) + 1)))).toNat < n - (intOf (.int .i64 (j : Int))).toNat := by
  rw [wrap_nat (by omega)]
  show n - ((j + 1 : Nat) : Int).toNat < n - ((j : Nat) : Int).toNat
  rw [Int.toNat_natCast, Int.toNat_natCast]
  omega
theorem turn_index {j t n : Nat} (hj : j < n) (hn : n ≤ 8) (ht : t ≤ 255) : Int.tmod (wrap64 ((j : Int) + wrap64 (t : Int))) (n : Int) = (((j + t) % n : Nat) : Int) := by
  have e1 : wrap64 (t : Int) = (t : Int) := by unfold wrap64; omega
  have e2 : wrap64 ((j : Int) + (t : Int)) = ((j + t : Nat) : Int) := by unfold wrap64; omega
  rw [e1, e2, Int.tmod_eq_emod_of_nonneg (by omega)]
  omega
theorem at_index {a n : Nat} (hn : n ≤ 8) (ha : a ≤ 255) : Int.tmod (wrap64 (a : Int)) (n : Int) = ((a % n : Nat) : Int) := by
  have e1 : wrap64 (a : Int) = (a : Int) := by unfold wrap64; omega
  rw [e1, Int.tmod_eq_emod_of_nonneg (by omega)]
  omega
def calxlaw08_BookAgrees.f (k : Nat) (l0 : List (List S29)) (a1 a2 : Int) : Option Bool := if (0 ≤ a1 ∧ a1 ≤ 255) ∧ (0 ≤ a2 ∧ a2 ≤ 255) then some true else none
set_option maxRecDepth 100000 in
set_option maxHeartbeats 4000000 in
theorem calxlaw08_BookAgrees.calls (k : Nat) (A0 : Option Addr) (c0 : Nat) (l0 : List (List S29)) (a1 a2 : Int) (r : Bool) (w : World) (hr0 : Kd.C (Kd.slice 29 k29) w A0 l0.length l0) (hc0 : l0.length ≤ c0) (h : calxlaw08_BookAgrees.f k l0 a1 a2 = some r) :
    Calls Try.prog 4 #[.slice A0 l0.length c0, .int .u8 a1, .int .u8 a2] w fun e w' => e = .returned (.bool r) ∧ Below w.heap.size w w' := by
  unfold calxlaw08_BookAgrees.f at h
  split at h
  case isFalse => cases h
  rename_i hw
  obtain rfl := Option.some.inj h
  clear h
  obtain ⟨t, rfl⟩ : ∃ t : Nat, a1 = (t : Int) := ⟨a1.toNat, by omega⟩
  obtain ⟨a, rfl⟩ : ∃ a : Nat, a2 = (a : Int) := ⟨a2.toNat, by omega⟩
  have HT := Aside0.mk (show t ≤ 255 ∧ a ≤ 255 by omega)
  have HR0 := Aside0.mk hr0
  have HC0 := Aside0.mk hc0
  clear hr0 hc0 hw
  have hn := run_not'
  by_cases h8 : 8 < l0.length
  · have g1 : decide ((8 : Int) < (l0.length : Int)) = true := by simp; omega
    have g2 : decide (8 < l0.length) = true := by simp; omega
    clear h8
    go_enter Try.func4, Try.ntmps4
    go_wp2_with fail
    refine (calxlaw08_sanity.calls _ _ rfl).mono ?_
    rintro e w1 ⟨rfl, hd⟩
    go_wp2
    go_ret
    exact ⟨rfl, hd⟩
  · have g1 : decide ((8 : Int) < (l0.length : Int)) = false := by simp; omega
    have g2 : decide (8 < l0.length) = false := by simp; omega
    by_cases h0 : l0.length = 0
    · have g3 : ((l0.length : Int) == 0) = true := by simp [h0]
      clear h8 h0
      go_enter Try.func4, Try.ntmps4
      go_wp2_with fail
      refine (calxlaw08_sanity.calls _ _ rfl).mono ?_
      rintro e w1 ⟨rfl, hd⟩
      go_wp2
      go_ret
      exact ⟨rfl, hd⟩
    · have g3 : ((l0.length : Int) == 0) = false := by rw [beq_eq_false_iff_ne]; omega
      have HN := Aside0.mk (show l0.length ≤ 8 ∧ 0 < l0.length by omega)
      clear h8 h0
      go_enter Try.func4, Try.ntmps4
      go_wp2
      go_loopw [7] (fun v7 wr => ∃ j : Nat, j ≤ l0.length ∧ v7 = .int .i64 (j : Int) ∧ Aside0 (Below w.heap.size w wr)) (fun v7 _ => l0.length - (intOf v7).toNat)
      case atStart => exact ⟨0, Nat.zero_le _, rfl, ⟨Below.refl _ _⟩⟩
      case round =>
        obtain ⟨j, hj, rfl, HBr⟩ := hrel
        by_cases hlt : j < l0.length
        · obtain ⟨ad, A, c, e, hx0, hle, hC⟩ := at_L2 (Kd.C_below HR0.out HBr.out) (j : Int) (by omega) (by omega)
          cases e
          rw [Int.toNat_natCast] at hx0
          obtain ⟨y, hy⟩ : ∃ y, y = rd_L2 l0 (j : Int) := ⟨_, rfl⟩
          rw [← hy] at hx0 hle hC
          have HC := Aside0.mk hC
          have HLE := Aside0.mk hle
          have z0 : (j : Int) < (l0.length : Int) := by omega
          clear hC hle hy
          have hf : ∃ b, calxlaw08_few.f y = some b := by unfold calxlaw08_few.f; split; exact ⟨_, rfl⟩; split <;> exact ⟨_, rfl⟩
          obtain ⟨b, hb⟩ := hf
          have HF := Aside0.mk hb
          clear hb
          cases b with
          | false =>
            go_wp2_with fail
            refine (calxlaw08_few.calls _ _ _ _ _ HC.out HLE.out HF.out).mono ?_
            rintro e w1 ⟨rfl, nq, rfl⟩
            go_wp2_with fail
            refine (calxlaw08_sanity.calls _ _ rfl).mono ?_
            rintro e w2 ⟨rfl, hd⟩
            have HD := Aside0.mk (below_then (pw_below_drewN HBr.out nq) (below_size (pw_below_drewN HBr.out nq)) hd)
            clear hd
            go_wp2
            go_ret
            exact ⟨rfl, HD.out⟩
          | true =>
            go_wp2_with fail
            refine (calxlaw08_few.calls _ _ _ _ _ HC.out HLE.out HF.out).mono ?_
            rintro e w1 ⟨rfl, nq, rfl⟩
            go_wp2
            go_roundw
            case rel => exact ⟨j + 1, by omega, congrArg _ (wrap_nat (by have := HN.out; omega)), ⟨pw_below_drewN HBr.out nq⟩⟩
            case measure => exact less_succ hlt (by have := HN.out; omega)
        · obtain rfl : j = l0.length := by omega
          obtain ⟨M, E, hM⟩ : ∃ M E, majP l0 = (M, E) := ⟨_, _, rfl⟩
          obtain ⟨N, F, hN⟩ : ∃ N F, majP (turned l0 t) = (N, F) := ⟨_, _, rfl⟩
          have hag := agrees (l := l0) HN.out.1 HN.out.2 t
          rw [hM, hN] at hag
          have HAG := Aside0.mk (show (E = 0 ↔ F = 0) ∧ (E = 0 → N = M ∧ Maj l0 M ∧ M.length ≤ 64 ∧ ∀ P, Maj l0 P → P.length ≤ M.length) from hag)
          have HM := Aside0.mk (show book_Majority.f l0 = some (M, E) from congrArg some hM)
          have HN2 := Aside0.mk (show book_Majority.f (turned l0 t) = some (N, F) from congrArg some hN)
          clear hM hN hag
          go_wp2_with fail
          refine (book_Majority.calls _ _ _ _ _ _ (Kd.C_below HR0.out HBr.out) HC0.out HM.out).mono ?_
          rintro e w2 ⟨vM, rfl, hs, hd⟩
          have HD := Aside0.mk (below_then HBr.out (below_size HBr.out) hd)
          obtain ⟨AM, cM, rfl, hlM, hCM⟩ := Kd.R_reads hs
          have HLM := Aside0.mk hlM
          have HCM := Aside0.mk hCM
          clear hs hd hlM hCM
          go_wp2
          go_loopw [10, 11] (fun v10 v11 wo => ∃ (j : Nat) (o : List (List S29)), j ≤ l0.length ∧ v11 = .int .i64 (j : Int) ∧ Aside0 (o = (turned l0 t).take j) ∧ Aside0 ((kL w).R 32 wo w2.heap.size (fun _ => True) v10 o) ∧ Aside0 (Below w2.heap.size w2 wo)) (fun _ v11 _ => l0.length - (intOf v11).toNat)
          case atStart => exact ⟨0, [], Nat.zero_le _, rfl, ⟨rfl⟩, ⟨Kd.R_nil _ _ _ _ _⟩, ⟨Below.refl _ _⟩⟩
          case round =>
            rename World => wo
            obtain ⟨j, o, hj, rfl, HOE, HO, HBo⟩ := hrel
            obtain ⟨A10, c10, rfl⟩ := Kd.R_slice HO.out
            have HBw := Aside0.mk (below_then HD.out (below_size HD.out) HBo.out)
            by_cases hlt : j < l0.length
            · have HOL := Aside0.mk (show o.length ≤ 64 by rw [HOE.out, List.length_take, turned_length]; have := HN.out; omega)
              obtain ⟨q, hq⟩ : ∃ q, q = (j + t) % l0.length := ⟨_, rfl⟩
              have hql : q < l0.length := by rw [hq]; exact Nat.mod_lt _ HN.out.2
              have hidx : Int.tmod (wrap64 ((j : Int) + wrap64 (t : Int))) (l0.length : Int) = (q : Int) := by rw [hq]; exact turn_index hlt HN.out.1 HT.out.1
              obtain ⟨ad, A, c, e, hx0, hle, hC⟩ := at_L2 HR0.out (q : Int) (by omega) (by omega)
              cases e
              rw [Int.toNat_natCast] at hx0
              replace hx0 := (HBw.out.cell (World.block_lt_of_cell? _ _ hx0)).trans hx0
              obtain ⟨y, hy⟩ : ∃ y, y = rd_L2 l0 (q : Int) := ⟨_, rfl⟩
              have HY := Aside0.mk (show o ++ [y] = (turned l0 t).take (j + 1) by rw [turned_take hlt, hy, hq, HOE.out]; unfold rd_L2; rw [Int.toNat_natCast])
              rw [← hy] at hx0 hle hC
              have HC := Aside0.mk hC
              have HLE := Aside0.mk hle
              have z0 : (j : Int) < (l0.length : Int) := by omega
              have z1 : (q : Int) < (l0.length : Int) := by omega
              have HW := Aside0.mk (wrap_nat (i := j) (by have := HN.out; omega))
              clear hC hle hy hq hql
              go_wp2_with (at_builtin; refine kL_new (w0 := w) (w2 := w2) (W := wo) y A c rfl _ _ rfl rfl rfl rfl HBo.out HO.out HOL.out HLE.out HC.out ?_; intro v1 w3 hs3 hb3)
              go_roundw
              case rel => exact ⟨j + 1, o ++ [y], by omega, congrArg _ HW.out, HY, ⟨hs3⟩, ⟨hb3⟩⟩
              case measure => exact less_succ hlt (by have := HN.out; omega)
            · obtain rfl : j = l0.length := by omega
              obtain rfl : o = turned l0 t := by rw [HOE.out, List.take_of_length_le (by rw [turned_length]; exact Nat.le_refl _)]
              obtain ⟨A11, c11, e11, hl11, hC11⟩ := kL_rows HO.out HBw.out
              rw [e11]
              obtain ⟨T, hTT⟩ : ∃ T, T = turned l0 t := ⟨_, rfl⟩
              rw [← hTT] at hl11 hC11 HN2 ⊢
              have HC11 := Aside0.mk hC11
              have HL11 := Aside0.mk hl11
              clear hC11 hl11 e11 HO HOE hTT
              go_wp2_with fail
              refine (book_Majority.calls _ _ _ _ _ _ HC11.out HL11.out HN2.out).mono ?_
              rintro e w4 ⟨vN, rfl, hs, hd⟩
              have HB4 := Aside0.mk (below_then HBo.out (below_size HBo.out) hd)
              have HW4 := Aside0.mk (below_then HD.out (below_size HD.out) HB4.out)
              obtain ⟨AN, cN, rfl, hlN, hCN⟩ := Kd.R_reads hs
              have HLN := Aside0.mk hlN
              have HCN := Aside0.mk hCN
              have HCM4 := Aside0.mk (Kd.C_below HCM.out HB4.out)
              clear hs hd hlN hCN HC11 HL11 HCM
              by_cases hE : E = 0
              · obtain rfl := hE
                obtain rfl : F = 0 := HAG.out.1.1 rfl
                obtain ⟨hNM, hMaj, hM64, hMax⟩ := HAG.out.2 rfl
                have HALL := Aside0.mk (maj_lens HN.out.1 HN.out.2 HM.out)
                subst hNM
                obtain ⟨q, hq⟩ : ∃ q, q = a % l0.length := ⟨_, rfl⟩
                have hql : q < l0.length := by rw [hq]; exact Nat.mod_lt _ HN.out.2
                have hidx : Int.tmod (wrap64 (a : Int)) (l0.length : Int) = (q : Int) := by rw [hq]; exact at_index HN.out.1 HT.out.2
                obtain ⟨ad, A, c, e, hx0, hle, hC⟩ := at_L2 HR0.out (q : Int) (by omega) (by omega)
                cases e
                rw [Int.toNat_natCast] at hx0
                replace hx0 := (HW4.out.cell (World.block_lt_of_cell? _ _ hx0)).trans hx0
                obtain ⟨y, hy⟩ : ∃ y, y = rd_L2 l0 (q : Int) := ⟨_, rfl⟩
                rw [← hy] at hx0 hle hC
                have HC := Aside0.mk (Kd.C_below hC HW4.out)
                have HLE := Aside0.mk hle
                have hy64 : y.length ≤ 64 := by rw [hy]; exact HALL.out _ (rd_L2_mem (by omega))
                have z1 : (q : Int) < (l0.length : Int) := by omega
                have HS := Aside0.mk (show calxref08_SameBook.f 300 N N = some true by rw [same_book hM64 (by omega)]; simp)
                have HBG := Aside0.mk (show calxlaw08_begin.f 300 l0 N = some (beg l0 N : Int) from begin_is (by have := HN.out; omega) hM64)
                have hbl : beg l0 N ≤ l0.length := List.length_filter_le _ _
                obtain ⟨b, hb⟩ : ∃ b, b = beg l0 N := ⟨_, rfl⟩
                have hb2 : l0.length < 2 * b := by rw [hb]; exact hMaj
                rw [← hb] at HBG hbl
                obtain ⟨e2, he2⟩ : ∃ e2 : Int, wrap64 (2 * (b : Int)) = e2 := ⟨_, rfl⟩
                have hg2 : (l0.length : Int) < e2 := by have := HN.out; rw [← he2]; unfold wrap64; omega
                have HMX := Aside0.mk hMax
                have HM64 := Aside0.mk hM64
                clear hC hle hy hq hql hb hb2 hbl hMaj hM64 hMax HAG
                have hpre : ∀ kk : Nat, N.length < kk → kk ≤ y.length → kk ≤ 64 → Aside0 (calxlaw08_begin.f 300 l0 (y.take kk) = some (beg l0 (y.take kk) : Int)) ∧ Aside0 (2 * beg l0 (y.take kk) ≤ l0.length ∧ beg l0 (y.take kk) ≤ l0.length) := by
                  intro kk h1 h2 h3
                  have hlen : (y.take kk).length = kk := by rw [List.length_take]; omega
                  refine ⟨⟨begin_is (by have := HN.out; omega) (by rw [hlen]; exact h3)⟩, ⟨?_, List.length_filter_le _ _⟩⟩
                  have hn : ¬ Maj l0 (y.take kk) := fun hm => by have := HMX.out _ hm; omega
                  unfold Maj at hn
                  omega
                by_cases hk : y.length ≤ N.length
                · have z3 : ¬ ((N.length : Int) + 1 < (y.length : Int)) := by omega
                  have z4 : ¬ (N.length + 1 < y.length) := by omega
                  have z5 : (y.length : Int) ≤ (N.length : Int) := by omega
                  have z6 : (y.length : Int) ≤ wrap64 ((N.length : Int) + 1) := by have := HM64.out; unfold wrap64; omega
                  go_wp2_with fail
                  refine (calxlaw08_sanity.calls _ _ rfl).mono ?_
                  rintro e w5 ⟨rfl, hd⟩
                  have HB5 := Aside0.mk (below_then HW4.out (below_size HW4.out) hd)
                  have C5 := Aside0.mk (Kd.C_below HCM4.out hd)
                  have D5 := Aside0.mk (Kd.C_below HCN.out hd)
                  have Y5 := Aside0.mk (Kd.C_below HC.out hd)
                  clear hd
                  go_wp2_with fail
                  refine (calxref08_SameBook.calls 300 _ _ _ _ _ _ _ _ C5.out HLM.out D5.out HLN.out HS.out).mono ?_
                  rintro e w6 ⟨rfl, n6, rfl⟩
                  go_wp2_with fail
                  refine (calxlaw08_begin.calls 300 _ _ l0 _ _ N _ _ (Kd.C_drewN (Kd.C_below HR0.out HB5.out) _) HC0.out (Kd.C_drewN C5.out _) HLM.out HBG.out).mono ?_
                  rintro e w7 ⟨rfl, n7, rfl⟩
                  go_wp2
                  go_ret
                  exact ⟨rfl, pw_below_drewN HB5.out _⟩
                · obtain ⟨i0, hi, _, _, _⟩ := info_parts info29
                  by_cases hk2 : N.length + 1 < y.length
                  · obtain ⟨HP0, HQ0⟩ := hpre (N.length + 1) (by omega) (by omega) (by omega)
                    obtain ⟨P, hP⟩ : ∃ P, P = y.take (N.length + 1) := ⟨_, rfl⟩
                    have hPL : P.length = N.length + 1 := by rw [hP, List.length_take]; omega
                    have hcut := cut_to (P := Try.prog) 32 29 .i64 Try.underlying32 hi A y.length c ((N.length : Int) + 1) (by omega) (by omega) HLE.out
                    rw [show ((N.length : Int) + 1).toNat = P.length by rw [hPL]; omega] at hcut
                    rw [← hP] at HP0 HQ0
                    obtain ⟨b3, hb3⟩ : ∃ b3, b3 = beg l0 P := ⟨_, rfl⟩
                    rw [← hb3] at HP0 HQ0
                    obtain ⟨e3, he3⟩ : ∃ e3 : Int, wrap64 (2 * (b3 : Int)) = e3 := ⟨_, rfl⟩
                    have hg3 : e3 ≤ (l0.length : Int) := by have := HQ0.out; have := HN.out; rw [← he3]; unfold wrap64; omega
                    have HP := HP0
                    have HKY := Aside0.mk (show N.length + 1 ≤ y.length by omega)
                    have HPC := Aside0.mk (show P.length ≤ c by have := HLE.out; omega)
                    have HPL := Aside0.mk hP
                    have z3 : (N.length : Int) + 1 < (y.length : Int) := by omega
                    clear hP hb3 hi hPL hk
                    go_wp2_with fail
                    refine (calxlaw08_sanity.calls _ _ rfl).mono ?_
                    rintro e w5 ⟨rfl, hd⟩
                    have HB5 := Aside0.mk (below_then HW4.out (below_size HW4.out) hd)
                    have C5 := Aside0.mk (Kd.C_below HCM4.out hd)
                    have D5 := Aside0.mk (Kd.C_below HCN.out hd)
                    have Y5 := Aside0.mk (Kd.C_below HC.out hd)
                    clear hd
                    go_wp2_with fail
                    refine (calxref08_SameBook.calls 300 _ _ _ _ _ _ _ _ C5.out HLM.out D5.out HLN.out HS.out).mono ?_
                    rintro e w6 ⟨rfl, n6, rfl⟩
                    go_wp2_with fail
                    refine (calxlaw08_begin.calls 300 _ _ l0 _ _ N _ _ (Kd.C_drewN (Kd.C_below HR0.out HB5.out) _) HC0.out (Kd.C_drewN C5.out _) HLM.out HBG.out).mono ?_
                    rintro e w7 ⟨rfl, n7, rfl⟩
                    have P5 : Kd.C k29 w5 A P.length P := by rw [HPL.out]; exact Kd.C_take Y5.out HKY.out
                    go_wp2_with fail
                    refine (calxlaw08_begin.calls 300 _ _ l0 _ _ P _ _ (Kd.C_drewN (Kd.C_below HR0.out HB5.out) _) HC0.out (Kd.C_drewN P5 _) HPC.out HP.out).mono ?_
                    rintro e w8 ⟨rfl, n8, rfl⟩
                    go_wp2
                    go_ret
                    exact ⟨rfl, pw_below_drewN HB5.out _⟩
                  · obtain ⟨HP0, HQ0⟩ := hpre (y.length) (by omega) (by omega) (by omega)
                    obtain ⟨P, hP⟩ : ∃ P, P = y.take (y.length) := ⟨_, rfl⟩
                    have hPL : P.length = y.length := by rw [hP, List.length_take]; omega
                    have hcut := cut_to (P := Try.prog) 32 29 .i64 Try.underlying32 hi A y.length c ((y.length : Int)) (by omega) (by omega) HLE.out
                    rw [show ((y.length : Int)).toNat = P.length by rw [hPL]; omega] at hcut
                    rw [← hP] at HP0 HQ0
                    obtain ⟨b3, hb3⟩ : ∃ b3, b3 = beg l0 P := ⟨_, rfl⟩
                    rw [← hb3] at HP0 HQ0
                    obtain ⟨e3, he3⟩ : ∃ e3 : Int, wrap64 (2 * (b3 : Int)) = e3 := ⟨_, rfl⟩
                    have hg3 : e3 ≤ (l0.length : Int) := by have := HQ0.out; have := HN.out; rw [← he3]; unfold wrap64; omega
                    have HP := HP0
                    have HKY := Aside0.mk (show y.length ≤ y.length by omega)
                    have HPC := Aside0.mk (show P.length ≤ c by have := HLE.out; omega)
                    have HPL := Aside0.mk hP
                    have z3 : ¬ ((N.length : Int) + 1 < (y.length : Int)) := by omega
                    have z5 : ¬ ((y.length : Int) ≤ (N.length : Int)) := by omega
                    have z6 : ¬ (y.length ≤ N.length) := by omega
                    clear hP hb3 hi hPL
                    go_wp2_with fail
                    refine (calxlaw08_sanity.calls _ _ rfl).mono ?_
                    rintro e w5 ⟨rfl, hd⟩
                    have HB5 := Aside0.mk (below_then HW4.out (below_size HW4.out) hd)
                    have C5 := Aside0.mk (Kd.C_below HCM4.out hd)
                    have D5 := Aside0.mk (Kd.C_below HCN.out hd)
                    have Y5 := Aside0.mk (Kd.C_below HC.out hd)
                    clear hd
                    go_wp2_with fail
                    refine (calxref08_SameBook.calls 300 _ _ _ _ _ _ _ _ C5.out HLM.out D5.out HLN.out HS.out).mono ?_
                    rintro e w6 ⟨rfl, n6, rfl⟩
                    go_wp2_with fail
                    refine (calxlaw08_begin.calls 300 _ _ l0 _ _ N _ _ (Kd.C_drewN (Kd.C_below HR0.out HB5.out) _) HC0.out (Kd.C_drewN C5.out _) HLM.out HBG.out).mono ?_
                    rintro e w7 ⟨rfl, n7, rfl⟩
                    have P5 : Kd.C k29 w5 A P.length P := by rw [HPL.out]; exact Kd.C_take Y5.out HKY.out
                    go_wp2_with fail
                    refine (calxlaw08_begin.calls 300 _ _ l0 _ _ P _ _ (Kd.C_drewN (Kd.C_below HR0.out HB5.out) _) HC0.out (Kd.C_drewN P5 _) HPC.out HP.out).mono ?_
                    rintro e w8 ⟨rfl, n8, rfl⟩
                    go_wp2
                    go_ret
                    exact ⟨rfl, pw_below_drewN HB5.out _⟩
              · have hF : F ≠ 0 := fun h => hE (HAG.out.1.2 h)
                have g4 : (E != 0) = true := by simpa using hE
                have g5 : (F != 0) = true := by simpa using hF
                clear hE hF HAG
                go_wp2_with fail
                refine (calxlaw08_sanity.calls _ _ rfl).mono ?_
                rintro e w5 ⟨rfl, hd⟩
                have HB5 := Aside0.mk (below_then HW4.out (below_size HW4.out) hd)
                clear hd
                go_wp2
                go_ret
                exact ⟨rfl, HB5.out⟩
end Go.Proofs.Ytmfphlfakmnbmaa.B
end

section
namespace Go.Proofs.Ytmfphlfakmnbmaa.B
open Go.RowKit Go.Proofs.YtmfphlfakmnbmaaW.PrintWords Go.Proofs.YtmfphlfakmnbmaaW.PrintLast Go.Proofs.YtmfphlfakmnbmaaW.PrintMore
attribute [local go_sem] max2_int min2_int max_two min_two max_three min_three max_four min_four
theorem pureBookAgrees (l : List (List S29)) (_ : l.length ≤ 9223372036854775807) (_ : ∀ p ∈ l, ∀ x ∈ p, Wf4 x) (t : Int) (ht : (Lit.int .u8 t).wf = true) (a : Int) (ha : (Lit.int .u8 a).wf = true) : ∃ k, calxlaw08_BookAgrees.f k l t a = some true := by
  have u8 : ∀ x : Int, (Lit.int .u8 x).wf = true → 0 ≤ x ∧ x ≤ 255 := by
    intro x hx
    have h1 : IntKind.u8.min = 0 := rfl
    have h2 : IntKind.u8.max = 255 := rfl
    simp [Lit.wf] at hx
    omega
  refine ⟨0, ?_⟩
  unfold calxlaw08_BookAgrees.f
  rw [if_pos ⟨u8 t ht, u8 a ha⟩]
end Go.Proofs.Ytmfphlfakmnbmaa.B
end

section
namespace Go.Proofs.Ytmfphlfakmnbmaa.bookAgrees
open Go.ChangeShapes Go.WideShapes Go.ChangeAt Go.RowKit Go.Proofs.Ytmfphlfakmnbmaa.B
open Go.ChangeMaps (open_string shut_string)
theorem own : ownKnob Try.prog.godebug = none := by kernel_rfl
theorem laidOut : laidOutB Try.prog = true := by kernel_rfl
set_option maxRecDepth 100000 in
theorem lifted (os : Os) (started : os.Started) (H : Type) (enc : TypeId × Value → H) :
    ReturnsInHanded {} Try.checked os 4 .any (Rows.bookAgreesSpec.pre6 enc Try.prog Try.f4 Rows.bookAgreesRow.domain false) (Rows.bookAgreesSpec.post enc Try.prog Try.f4 false true false false) := by
  refine returnsInHanded_of_change_sized (C := Try.checked) own started (by kernel_rfl) Try.func4
    (ChangeSpec.witness6 (enc := enc) (C := Try.checked) false ⟨#[], #[.slice none 0 0, .int .u8 0, .int .u8 0], []⟩ 8 (by kernel_rfl) (by kernel_rfl) (by kernel_rfl) (by kernel_rfl)) ?_
  intro W base args ds gs before hval0 hW hcnd hsz0 _
  have hval : ∀ (j : Nat) t v, Try.f4.params[j]? = some t → args[j]? = some v → Value.okWide Try.prog W .any base t v := hval0
  have hW' := hW
  obtain ⟨p, q, hA0, hV, rfl, hfz, hnd⟩ := hW
  have hA : DataW.TrodAll enc Try.prog W 0 (fun _ => true) true Try.f4.params.toList args.toList ds p := hA0
  rw [Try.params4] at hA hval
  obtain ⟨v0, vs0, d0, ds0, p0, q0, hargs, rfl, rfl, h0, r0⟩ := trodAll_cons hA
  obtain ⟨v1, vs1, d1, ds1, p1, q1, rfl, rfl, rfl, h1, r1⟩ := trodAll_cons r0
  obtain ⟨v2, vs2, d2, ds2, p2, q2, rfl, rfl, rfl, h2, r2⟩ := trodAll_cons r1
  obtain ⟨rfl, rfl, rfl⟩ := trodAll_nil r2
  obtain rfl : args = #[v0, v1, v2] := by cases args; simp_all
  obtain ⟨rfl, rfl⟩ := trodVars_none hV
  have k0 := h0
  have lt0 : ∀ x ∈ p0, x.block < W.heap.size := by obtain ⟨m, hm⟩ := k0; exact DataW.trod_lt m _ _ _ hm
  obtain ⟨a0, len0, cap0, rfl⟩ := okWide_slice Try.underlying42 (hval 0 42 v0 rfl rfl)
  obtain ⟨l0, rfl, c0, r0C, o0⟩ := arg_slice opens42 h0
  obtain ⟨a1, rfl, rfl, rfl, w1⟩ := open_int Try.underlying5 (hval 1 5 v1 rfl rfl) h1
  obtain ⟨a2, rfl, rfl, rfl, w2⟩ := open_int Try.underlying5 (hval 2 5 v2 rfl rfl) h2
  clear hA0 hval0 hsz0
  obtain ⟨k, hk⟩ := pureBookAgrees l0 r0C.2.1 o0 a1 w1 a2 w2
  refine (calxlaw08_BookAgrees.calls k _ _ l0 a1 a2 true W r0C c0 hk).mono fun e W' ⟨he, bel⟩ => ?_
  subst he
  exact ⟨_, rfl, _, _, _, [], _, [], hW', trodAll_mk1 (shut_bool Try.underlying4 _), (trodAll_cons_mk (Below.trod laidOut (by kernel_rfl) (of_decide_eq_true (by kernel_rfl)) k0 bel lt0) (trodAll_cons_mk (shut_int Try.underlying5 w1) (trodAll_cons_mk (shut_int Try.underlying5 w2) trodAll_mk0))), rfl, bel.frame _, fun h => by cases h⟩
theorem over : Rows.bookAgreesRow.holds Try.pinned (OpenSpec.ofChange Rows.bookAgreesSpec) :=
  OpenClaim.holds_of_wide 4 Try.f4 rfl rfl rfl rfl rfl rfl rfl ⟨rfl, rfl, rfl, rfl, rfl⟩ rfl rfl rfl rfl rfl (by kernel_rfl) Try.func4 (by kernel_rfl)
    (of_decide_eq_true (by kernel_rfl)) (by unfold Func.isWrapper; first | (rw [if_pos (by decide +kernel)]; kernel_rfl) | (rw [if_neg (by decide +kernel)]; exact ⟨rfl, rfl⟩))
    (fun os started H enc _ => lifted os started H enc)
theorem proved : Rows.BookAgreesSaid := over
end Go.Proofs.Ytmfphlfakmnbmaa.bookAgrees
namespace Go.Proofs.Ytmfphlfakmnbmaa
theorem bookAgrees_holds : Rows.BookAgreesSaid := bookAgrees.proved
end Go.Proofs.Ytmfphlfakmnbmaa
end
