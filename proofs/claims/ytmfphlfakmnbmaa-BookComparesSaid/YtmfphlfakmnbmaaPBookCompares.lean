/- Proved: for every two books the law BookCompares returns true and leaves its arguments as they were. Conditions: none. -/
import Derived.WalkKit
import Derived.ProofKit
import Derived.OpenShut
import Derived.ShutString
import Derived.ChangeOld
import Derived.Below
import Derived.SizedLaws
import Derived.Test.YtmfphlfakmnbmaaRows
import Derived.Test.YtmfphlfakmnbmaaQ1
import Derived.Test.YtmfphlfakmnbmaaQ2
import Derived.Test.YtmfphlfakmnbmaaQ3
import Derived.Test.YtmfphlfakmnbmaaQ4
import Derived.Test.YtmfphlfakmnbmaaQ5
import Derived.Test.YtmfphlfakmnbmaaQ6
set_option linter.unusedVariables false
set_option linter.unusedSimpArgs false
section
namespace Go.Proofs.Ytmfphlfakmnbmaa.B
open Go.RowKit Go.Proofs.YtmfphlfakmnbmaaW.PrintWords Go.Proofs.YtmfphlfakmnbmaaW.PrintLast Go.Proofs.YtmfphlfakmnbmaaW.PrintMore
attribute [local go_sem] max2_int min2_int max_two min_two max_three min_three max_four min_four
mutual
def calxlaw08_BookCompares.j0 : Nat → List (S29) → List (S29) → Bool → Option (Bool)
  | 0, _, _, _ => none
  | k + 1, x0, x1, x44 => if x44 = true then ((calxlaw08_sanity.f).bind fun t103 => (some t103)) else ((book_Compare.f x0 x1).bind fun bt104 => ((book_Fork.f x0 x1).bind fun bt108 => (if bt104.2.2.2 = bt108.2.2.2.2 then (if bt104.2.2.2 = 0 then (if bt104.2.1 < 1 then (calxlaw08_BookCompares.j1 k x0 x1 bt104.1 bt104.2.2.1 bt108.1 bt108.2.2.2.1 true) else (calxlaw08_BookCompares.j1 k x0 x1 bt104.1 bt104.2.2.1 bt108.1 bt108.2.2.2.1 (decide (bt104.2.1 > 7)))) else ((calxlaw08_sanity.f).bind fun t117 => (some t117))) else (some false))))
def calxlaw08_BookCompares.j1 : Nat → List (S29) → List (S29) → Int → Bool → Int → Bool → Bool → Option (Bool)
  | 0, _, _, _, _, _, _, _ => none
  | k + 1, x0, x1, x5, x7, x9, x12, x74 => if x74 = true then (some false) else (calxlaw08_BookCompares.l0 k x0 x1 x5 x7 x9 x12 0 (x0.length : Int))
def calxlaw08_BookCompares.l0 : Nat → List (S29) → List (S29) → Int → Bool → Int → Bool → Int → Int → Option (Bool)
  | 0, _, _, _, _, _, _, _, _ => none
  | k + 1, x0, x1, x5, x7, x9, x12, x14, x15 => if x15 > 0 then ((book_Part.f x0 x14 x15).bind fun bt119 => ((book_Part.f x1 x14 x15).bind fun bt121 => (if bt119.2 = 0 then (calxlaw08_BookCompares.j3 k x0 x1 x5 x7 x9 x12 x14 x15 bt119.1 bt121.1 (bt121.2 != 0)) else (calxlaw08_BookCompares.j3 k x0 x1 x5 x7 x9 x12 x14 x15 bt119.1 bt121.1 true)))) else ((calxlaw08_sanity.f).bind fun t118 => (if t118 = true then (if (x7 == x12) = true then (some (x5 == x9)) else (some false)) else (some false)))
def calxlaw08_BookCompares.j3 : Nat → List (S29) → List (S29) → Int → Bool → Int → Bool → Int → Int → Int → Int → Bool → Option (Bool)
  | 0, _, _, _, _, _, _, _, _, _, _, _ => none
  | k + 1, x0, x1, x5, x7, x9, x12, x14, x15, x16, x18, x98 => if x98 = true then (some false) else (if x16 = x18 then (if 0 ≤ x14 then (if x14 ≤ (wrap64 (x14 + x15)) then (if (wrap64 (x14 + x15)) ≤ (x0.length : Int) then (if (wrap64 (x14 + x15)) ≤ (x1.length : Int) then ((calxref08_SameBook.f k ((x0.take ((wrap64 (x14 + x15)) : Int).toNat).drop (x14 : Int).toNat) ((x1.take ((wrap64 (x14 + x15)) : Int).toNat).drop (x14 : Int).toNat)).bind fun t131 => (calxlaw08_BookCompares.j4 k x0 x1 x5 x7 x9 x12 x14 x15 x16 x18 (!t131))) else (none)) else (none)) else (none)) else (none)) else (calxlaw08_BookCompares.j4 k x0 x1 x5 x7 x9 x12 x14 x15 x16 x18 false))
def calxlaw08_BookCompares.j4 : Nat → List (S29) → List (S29) → Int → Bool → Int → Bool → Int → Int → Int → Int → Bool → Option (Bool)
  | 0, _, _, _, _, _, _, _, _, _, _, _ => none
  | k + 1, x0, x1, x5, x7, x9, x12, x14, x15, x16, x18, x117 => if x117 = true then ((calxlaw08_sanity.f).bind fun t132 => (some t132)) else (if x15 = 1 then (calxlaw08_BookCompares.j5 k x0 x1 x5 x7 x9 x12 x14 x15 true) else (calxlaw08_BookCompares.j5 k x0 x1 x5 x7 x9 x12 x14 x15 (x16 == x18)))
def calxlaw08_BookCompares.j5 : Nat → List (S29) → List (S29) → Int → Bool → Int → Bool → Int → Int → Bool → Option (Bool)
  | 0, _, _, _, _, _, _, _, _, _ => none
  | k + 1, x0, x1, x5, x7, x9, x12, x14, x15, x125 => if x125 = true then ((calxlaw08_sanity.f).bind fun t133 => (if t133 = true then (if (x7 == x12) = true then (some (x5 == x9)) else (some false)) else (some false))) else (calxlaw08_BookCompares.l1 k x0 x1 x5 x7 x9 x12 x14 x15 1)
def calxlaw08_BookCompares.l1 : Nat → List (S29) → List (S29) → Int → Bool → Int → Bool → Int → Int → Int → Option (Bool)
  | 0, _, _, _, _, _, _, _, _, _ => none
  | k + 1, x0, x1, x5, x7, x9, x12, x14, x15, x20 => if (wrap64 (2 * x20)) < x15 then (calxlaw08_BookCompares.l1 k x0 x1 x5 x7 x9 x12 x14 x15 (wrap64 (2 * x20))) else ((book_Part.f x0 x14 x20).bind fun bt134 => ((book_Part.f x1 x14 x20).bind fun bt136 => (if bt134.2 = 0 then (calxlaw08_BookCompares.j7 k x0 x1 x5 x7 x9 x12 x14 x15 x20 bt134.1 bt136.1 (bt136.2 != 0)) else (calxlaw08_BookCompares.j7 k x0 x1 x5 x7 x9 x12 x14 x15 x20 bt134.1 bt136.1 true))))
def calxlaw08_BookCompares.j7 : Nat → List (S29) → List (S29) → Int → Bool → Int → Bool → Int → Int → Int → Int → Int → Bool → Option (Bool)
  | 0, _, _, _, _, _, _, _, _, _, _, _, _ => none
  | k + 1, x0, x1, x5, x7, x9, x12, x14, x15, x20, x21, x23, x151 => if x151 = true then (some false) else (if x21 = x23 then (if 0 ≤ x14 then (if x14 ≤ (wrap64 (x14 + x20)) then (if (wrap64 (x14 + x20)) ≤ (x0.length : Int) then (if (wrap64 (x14 + x20)) ≤ (x1.length : Int) then ((calxref08_SameBook.f k ((x0.take ((wrap64 (x14 + x20)) : Int).toNat).drop (x14 : Int).toNat) ((x1.take ((wrap64 (x14 + x20)) : Int).toNat).drop (x14 : Int).toNat)).bind fun t146 => (calxlaw08_BookCompares.j8 k x0 x1 x5 x7 x9 x12 x14 x15 x20 x21 x23 (!t146))) else (none)) else (none)) else (none)) else (none)) else (calxlaw08_BookCompares.j8 k x0 x1 x5 x7 x9 x12 x14 x15 x20 x21 x23 false))
def calxlaw08_BookCompares.j8 : Nat → List (S29) → List (S29) → Int → Bool → Int → Bool → Int → Int → Int → Int → Int → Bool → Option (Bool)
  | 0, _, _, _, _, _, _, _, _, _, _, _, _ => none
  | k + 1, x0, x1, x5, x7, x9, x12, x14, x15, x20, x21, x23, x170 => if x170 = true then ((calxlaw08_sanity.f).bind fun t147 => (some t147)) else (if x21 = x23 then (calxlaw08_BookCompares.l0 k x0 x1 x5 x7 x9 x12 (wrap64 (x14 + x20)) (wrap64 (x15 - x20))) else (calxlaw08_BookCompares.l0 k x0 x1 x5 x7 x9 x12 x14 x20))
end
def calxlaw08_BookCompares.f (k : Nat) (l0 : List (S29)) (l1 : List (S29)) : Option (Bool) := (calxlaw08_few.f l0).bind fun t101 => (if t101 = true then ((calxlaw08_few.f l1).bind fun t102 => (if t102 = true then (if (l0.length : Int) = (l1.length : Int) then (calxlaw08_BookCompares.j0 k l0 l1 ((l0.length : Int) == 0)) else (calxlaw08_BookCompares.j0 k l0 l1 true)) else (calxlaw08_BookCompares.j0 k l0 l1 true))) else (calxlaw08_BookCompares.j0 k l0 l1 true))
set_option maxHeartbeats 8000000 in
set_option maxRecDepth 100000 in
theorem calxlaw08_BookCompares.calls (k : Nat) (A0 : Option Addr) (c0 : Nat) (l0 : List (S29)) (A1 : Option Addr) (c1 : Nat) (l1 : List (S29)) (r : Bool) (w : World) (hr0 : Kd.C k29 w A0 l0.length l0) (hc0 : l0.length ≤ c0) (hr1 : Kd.C k29 w A1 l1.length l1) (hc1 : l1.length ≤ c1) (h : calxlaw08_BookCompares.f k l0 l1 = some r) :
    Calls Try.prog 14 #[.slice A0 l0.length c0, .slice A1 l1.length c1] w fun e w' => e = .returned (.bool r) ∧ Below w.heap.size w w' := by
  have HR0 := Aside0.mk hr0
  have HC0 := Aside0.mk hc0
  clear hr0 hc0
  have HR1 := Aside0.mk hr1
  have HC1 := Aside0.mk hc1
  clear hr1 hc1
  have HB := Aside0.mk (Below.refl w.heap.size w)
  have H : ((calxlaw08_few.f l0).bind fun t101 => (if t101 = true then ((calxlaw08_few.f l1).bind fun t102 => (if t102 = true then (if (l0.length : Int) = (l1.length : Int) then (calxlaw08_BookCompares.j0 k l0 l1 ((l0.length : Int) == 0)) else (calxlaw08_BookCompares.j0 k l0 l1 true)) else (calxlaw08_BookCompares.j0 k l0 l1 true))) else (calxlaw08_BookCompares.j0 k l0 l1 true))) = some r := h
  clear h
  have HC3 := Aside0.mk H
  clear H
  go_enter Try.func14, Try.ntmps14
  go_upto_region 1 with (fail)
  repeat (go_quiet (fail); go_upto_region 1 with (fail))
  go_cut [44] (fun v44 wc => ∃ (kq : Nat) (x44_2 : Bool), v44 = .bool x44_2 ∧ Aside0 (calxlaw08_BookCompares.j0 kq l0 l1 x44_2 = some r) ∧ Aside0 (kq ≤ k) ∧ Aside0 (Below w.heap.size w wc))
  case first =>
    have H := HC3.out
    clear HC3
    replace H := Option.bind_eq_some_iff.mp H
    obtain ⟨t101, A40, H⟩ := H
    replace H : (if t101 = true then ((calxlaw08_few.f l1).bind fun t102 => (if t102 = true then (if (l0.length : Int) = (l1.length : Int) then (calxlaw08_BookCompares.j0 k l0 l1 ((l0.length : Int) == 0)) else (calxlaw08_BookCompares.j0 k l0 l1 true)) else (calxlaw08_BookCompares.j0 k l0 l1 true))) else (calxlaw08_BookCompares.j0 k l0 l1 true)) = some r := H
    have A4 := Aside0.mk A40
    clear A40
    by_cases c5 : t101 = true
    · subst c5
      have H1 : ((calxlaw08_few.f l1).bind fun t102 => (if t102 = true then (if (l0.length : Int) = (l1.length : Int) then (calxlaw08_BookCompares.j0 k l0 l1 ((l0.length : Int) == 0)) else (calxlaw08_BookCompares.j0 k l0 l1 true)) else (calxlaw08_BookCompares.j0 k l0 l1 true))) = some r := by rw [if_pos rfl] at H; exact H
      clear H
      have H := H1
      clear H1
      replace H := Option.bind_eq_some_iff.mp H
      obtain ⟨t102, A60, H⟩ := H
      replace H : (if t102 = true then (if (l0.length : Int) = (l1.length : Int) then (calxlaw08_BookCompares.j0 k l0 l1 ((l0.length : Int) == 0)) else (calxlaw08_BookCompares.j0 k l0 l1 true)) else (calxlaw08_BookCompares.j0 k l0 l1 true)) = some r := H
      have A6 := Aside0.mk A60
      clear A60
      by_cases c7 : t102 = true
      · subst c7
        have H1 : (if (l0.length : Int) = (l1.length : Int) then (calxlaw08_BookCompares.j0 k l0 l1 ((l0.length : Int) == 0)) else (calxlaw08_BookCompares.j0 k l0 l1 true)) = some r := by rw [if_pos rfl] at H; exact H
        clear H
        have H := H1
        clear H1
        by_cases c8 : (l0.length : Int) = (l1.length : Int)
        · rw [if_pos c8] at H
          have c8b0 : ((l0.length : Int) == (l1.length : Int)) = true := beq_iff_eq.mpr c8
          have c8b1 : ((l0.length : Int) != (l1.length : Int)) = false := bne_eq_false_iff_eq.mpr c8
          have c8b2 : (l0.length == l1.length) = true := by first | simpa using c8 | (simp at c8 ⊢; omega)
          clear c8
          (first | rw [c8b0] | (simp only [i64_w, i32_w]; rw [c8b0]) | skip)
          have H' := Aside0.mk H
          clear H
          go_wp2_with (first | (go_at_call 27; (with_reducible refine (calxlaw08_few.calls _ _ l0 true _ ?side1 ?side2 A4.out).mono ?_); (case side1 => repeat (first | exact (Kd.C_below HR0.out HB.out) | (with_reducible refine Kd.C_alloc ?_ _) | (with_reducible refine Kd.C_drewN ?_ _) | (with_reducible refine Kd.C_drew ?_))); (case side2 => exact HC0.out); rintro e w' ⟨rfl, ⟨nd, rfl⟩⟩; (try first | exact ⟨rfl, _, World.drewN_drewN _ _ _⟩ | exact ⟨rfl, _, Eq.trans (World.drewN_drewN _ _ _) (congrArg (World.drewN _) (Nat.add_assoc _ _ _))⟩)) | (go_at_call 27; (with_reducible refine (calxlaw08_few.calls _ _ l1 true _ ?side1 ?side2 A6.out).mono ?_); (case side1 => repeat (first | exact (Kd.C_below HR1.out (by repeat (first | (with_reducible first | exact HB.out | apply below_alloc | apply pw_below_drewN | apply below_drew1) | exact HB.out))) | (with_reducible refine Kd.C_alloc ?_ _) | (with_reducible refine Kd.C_drewN ?_ _) | (with_reducible refine Kd.C_drew ?_))); (case side2 => exact HC1.out); rintro e w' ⟨rfl, ⟨nd, rfl⟩⟩; (try first | exact ⟨rfl, _, World.drewN_drewN _ _ _⟩ | exact ⟨rfl, _, Eq.trans (World.drewN_drewN _ _ _) (congrArg (World.drewN _) (Nat.add_assoc _ _ _))⟩)))
          repeat (go_quiet (first | (go_at_call 27; (with_reducible refine (calxlaw08_few.calls _ _ l0 true _ ?side1 ?side2 A4.out).mono ?_); (case side1 => repeat (first | exact (Kd.C_below HR0.out HB.out) | (with_reducible refine Kd.C_alloc ?_ _) | (with_reducible refine Kd.C_drewN ?_ _) | (with_reducible refine Kd.C_drew ?_))); (case side2 => exact HC0.out); rintro e w' ⟨rfl, ⟨nd, rfl⟩⟩; (try first | exact ⟨rfl, _, World.drewN_drewN _ _ _⟩ | exact ⟨rfl, _, Eq.trans (World.drewN_drewN _ _ _) (congrArg (World.drewN _) (Nat.add_assoc _ _ _))⟩)) | (go_at_call 27; (with_reducible refine (calxlaw08_few.calls _ _ l1 true _ ?side1 ?side2 A6.out).mono ?_); (case side1 => repeat (first | exact (Kd.C_below HR1.out (by repeat (first | (with_reducible first | exact HB.out | apply below_alloc | apply pw_below_drewN | apply below_drew1) | exact HB.out))) | (with_reducible refine Kd.C_alloc ?_ _) | (with_reducible refine Kd.C_drewN ?_ _) | (with_reducible refine Kd.C_drew ?_))); (case side2 => exact HC1.out); rintro e w' ⟨rfl, ⟨nd, rfl⟩⟩; (try first | exact ⟨rfl, _, World.drewN_drewN _ _ _⟩ | exact ⟨rfl, _, Eq.trans (World.drewN_drewN _ _ _) (congrArg (World.drewN _) (Nat.add_assoc _ _ _))⟩))); try go_wp2_with (first | (go_at_call 27; (with_reducible refine (calxlaw08_few.calls _ _ l0 true _ ?side1 ?side2 A4.out).mono ?_); (case side1 => repeat (first | exact (Kd.C_below HR0.out HB.out) | (with_reducible refine Kd.C_alloc ?_ _) | (with_reducible refine Kd.C_drewN ?_ _) | (with_reducible refine Kd.C_drew ?_))); (case side2 => exact HC0.out); rintro e w' ⟨rfl, ⟨nd, rfl⟩⟩; (try first | exact ⟨rfl, _, World.drewN_drewN _ _ _⟩ | exact ⟨rfl, _, Eq.trans (World.drewN_drewN _ _ _) (congrArg (World.drewN _) (Nat.add_assoc _ _ _))⟩)) | (go_at_call 27; (with_reducible refine (calxlaw08_few.calls _ _ l1 true _ ?side1 ?side2 A6.out).mono ?_); (case side1 => repeat (first | exact (Kd.C_below HR1.out (by repeat (first | (with_reducible first | exact HB.out | apply below_alloc | apply pw_below_drewN | apply below_drew1) | exact HB.out))) | (with_reducible refine Kd.C_alloc ?_ _) | (with_reducible refine Kd.C_drewN ?_ _) | (with_reducible refine Kd.C_drew ?_))); (case side2 => exact HC1.out); rintro e w' ⟨rfl, ⟨nd, rfl⟩⟩; (try first | exact ⟨rfl, _, World.drewN_drewN _ _ _⟩ | exact ⟨rfl, _, Eq.trans (World.drewN_drewN _ _ _) (congrArg (World.drewN _) (Nat.add_assoc _ _ _))⟩))))
          go_meet
          case rel => exact ⟨_, (((l0.length : Int) == 0)), (by first | rfl | (simp; done) | (simp [*]; done)), H', ⟨by first | omega | exact Nat.le_refl _⟩, ⟨by repeat (first | (with_reducible first | exact HB.out | apply below_alloc | apply pw_below_drewN | apply below_drew1) | exact HB.out)⟩⟩
        · rw [if_neg c8] at H
          have c8b0 : ((l0.length : Int) == (l1.length : Int)) = false := beq_eq_false_iff_ne.mpr c8
          have c8b1 : ((l0.length : Int) != (l1.length : Int)) = true := bne_iff_ne.mpr c8
          have c8b2 : (l0.length == l1.length) = false := by first | simpa using c8 | (simp at c8 ⊢; omega)
          (first | rw [c8b0] | (simp only [i64_w, i32_w]; rw [c8b0]) | skip)
          have H' := Aside0.mk H
          clear H
          go_wp2_with (first | (go_at_call 27; (with_reducible refine (calxlaw08_few.calls _ _ l0 true _ ?side1 ?side2 A4.out).mono ?_); (case side1 => repeat (first | exact (Kd.C_below HR0.out HB.out) | (with_reducible refine Kd.C_alloc ?_ _) | (with_reducible refine Kd.C_drewN ?_ _) | (with_reducible refine Kd.C_drew ?_))); (case side2 => exact HC0.out); rintro e w' ⟨rfl, ⟨nd, rfl⟩⟩; (try first | exact ⟨rfl, _, World.drewN_drewN _ _ _⟩ | exact ⟨rfl, _, Eq.trans (World.drewN_drewN _ _ _) (congrArg (World.drewN _) (Nat.add_assoc _ _ _))⟩)) | (go_at_call 27; (with_reducible refine (calxlaw08_few.calls _ _ l1 true _ ?side1 ?side2 A6.out).mono ?_); (case side1 => repeat (first | exact (Kd.C_below HR1.out (by repeat (first | (with_reducible first | exact HB.out | apply below_alloc | apply pw_below_drewN | apply below_drew1) | exact HB.out))) | (with_reducible refine Kd.C_alloc ?_ _) | (with_reducible refine Kd.C_drewN ?_ _) | (with_reducible refine Kd.C_drew ?_))); (case side2 => exact HC1.out); rintro e w' ⟨rfl, ⟨nd, rfl⟩⟩; (try first | exact ⟨rfl, _, World.drewN_drewN _ _ _⟩ | exact ⟨rfl, _, Eq.trans (World.drewN_drewN _ _ _) (congrArg (World.drewN _) (Nat.add_assoc _ _ _))⟩)))
          repeat (go_quiet (first | (go_at_call 27; (with_reducible refine (calxlaw08_few.calls _ _ l0 true _ ?side1 ?side2 A4.out).mono ?_); (case side1 => repeat (first | exact (Kd.C_below HR0.out HB.out) | (with_reducible refine Kd.C_alloc ?_ _) | (with_reducible refine Kd.C_drewN ?_ _) | (with_reducible refine Kd.C_drew ?_))); (case side2 => exact HC0.out); rintro e w' ⟨rfl, ⟨nd, rfl⟩⟩; (try first | exact ⟨rfl, _, World.drewN_drewN _ _ _⟩ | exact ⟨rfl, _, Eq.trans (World.drewN_drewN _ _ _) (congrArg (World.drewN _) (Nat.add_assoc _ _ _))⟩)) | (go_at_call 27; (with_reducible refine (calxlaw08_few.calls _ _ l1 true _ ?side1 ?side2 A6.out).mono ?_); (case side1 => repeat (first | exact (Kd.C_below HR1.out (by repeat (first | (with_reducible first | exact HB.out | apply below_alloc | apply pw_below_drewN | apply below_drew1) | exact HB.out))) | (with_reducible refine Kd.C_alloc ?_ _) | (with_reducible refine Kd.C_drewN ?_ _) | (with_reducible refine Kd.C_drew ?_))); (case side2 => exact HC1.out); rintro e w' ⟨rfl, ⟨nd, rfl⟩⟩; (try first | exact ⟨rfl, _, World.drewN_drewN _ _ _⟩ | exact ⟨rfl, _, Eq.trans (World.drewN_drewN _ _ _) (congrArg (World.drewN _) (Nat.add_assoc _ _ _))⟩))); try go_wp2_with (first | (go_at_call 27; (with_reducible refine (calxlaw08_few.calls _ _ l0 true _ ?side1 ?side2 A4.out).mono ?_); (case side1 => repeat (first | exact (Kd.C_below HR0.out HB.out) | (with_reducible refine Kd.C_alloc ?_ _) | (with_reducible refine Kd.C_drewN ?_ _) | (with_reducible refine Kd.C_drew ?_))); (case side2 => exact HC0.out); rintro e w' ⟨rfl, ⟨nd, rfl⟩⟩; (try first | exact ⟨rfl, _, World.drewN_drewN _ _ _⟩ | exact ⟨rfl, _, Eq.trans (World.drewN_drewN _ _ _) (congrArg (World.drewN _) (Nat.add_assoc _ _ _))⟩)) | (go_at_call 27; (with_reducible refine (calxlaw08_few.calls _ _ l1 true _ ?side1 ?side2 A6.out).mono ?_); (case side1 => repeat (first | exact (Kd.C_below HR1.out (by repeat (first | (with_reducible first | exact HB.out | apply below_alloc | apply pw_below_drewN | apply below_drew1) | exact HB.out))) | (with_reducible refine Kd.C_alloc ?_ _) | (with_reducible refine Kd.C_drewN ?_ _) | (with_reducible refine Kd.C_drew ?_))); (case side2 => exact HC1.out); rintro e w' ⟨rfl, ⟨nd, rfl⟩⟩; (try first | exact ⟨rfl, _, World.drewN_drewN _ _ _⟩ | exact ⟨rfl, _, Eq.trans (World.drewN_drewN _ _ _) (congrArg (World.drewN _) (Nat.add_assoc _ _ _))⟩))))
          go_meet
          case rel => exact ⟨_, (true), (by first | rfl | (simp; done) | (simp [*]; done)), H', ⟨by first | omega | exact Nat.le_refl _⟩, ⟨by repeat (first | (with_reducible first | exact HB.out | apply below_alloc | apply pw_below_drewN | apply below_drew1) | exact HB.out)⟩⟩
      · replace c7 := Bool.eq_false_iff.mpr c7
        subst c7
        have H1 : (calxlaw08_BookCompares.j0 k l0 l1 true) = some r := by rw [if_neg (show ¬ (false = true) by decide)] at H; exact H
        clear H
        have H := H1
        clear H1
        have H' := Aside0.mk H
        clear H
        go_wp2_with (first | (go_at_call 27; (with_reducible refine (calxlaw08_few.calls _ _ l0 true _ ?side1 ?side2 A4.out).mono ?_); (case side1 => repeat (first | exact (Kd.C_below HR0.out HB.out) | (with_reducible refine Kd.C_alloc ?_ _) | (with_reducible refine Kd.C_drewN ?_ _) | (with_reducible refine Kd.C_drew ?_))); (case side2 => exact HC0.out); rintro e w' ⟨rfl, ⟨nd, rfl⟩⟩; (try first | exact ⟨rfl, _, World.drewN_drewN _ _ _⟩ | exact ⟨rfl, _, Eq.trans (World.drewN_drewN _ _ _) (congrArg (World.drewN _) (Nat.add_assoc _ _ _))⟩)) | (go_at_call 27; (with_reducible refine (calxlaw08_few.calls _ _ l1 false _ ?side1 ?side2 A6.out).mono ?_); (case side1 => repeat (first | exact (Kd.C_below HR1.out (by repeat (first | (with_reducible first | exact HB.out | apply below_alloc | apply pw_below_drewN | apply below_drew1) | exact HB.out))) | (with_reducible refine Kd.C_alloc ?_ _) | (with_reducible refine Kd.C_drewN ?_ _) | (with_reducible refine Kd.C_drew ?_))); (case side2 => exact HC1.out); rintro e w' ⟨rfl, ⟨nd, rfl⟩⟩; (try first | exact ⟨rfl, _, World.drewN_drewN _ _ _⟩ | exact ⟨rfl, _, Eq.trans (World.drewN_drewN _ _ _) (congrArg (World.drewN _) (Nat.add_assoc _ _ _))⟩)))
        repeat (go_quiet (first | (go_at_call 27; (with_reducible refine (calxlaw08_few.calls _ _ l0 true _ ?side1 ?side2 A4.out).mono ?_); (case side1 => repeat (first | exact (Kd.C_below HR0.out HB.out) | (with_reducible refine Kd.C_alloc ?_ _) | (with_reducible refine Kd.C_drewN ?_ _) | (with_reducible refine Kd.C_drew ?_))); (case side2 => exact HC0.out); rintro e w' ⟨rfl, ⟨nd, rfl⟩⟩; (try first | exact ⟨rfl, _, World.drewN_drewN _ _ _⟩ | exact ⟨rfl, _, Eq.trans (World.drewN_drewN _ _ _) (congrArg (World.drewN _) (Nat.add_assoc _ _ _))⟩)) | (go_at_call 27; (with_reducible refine (calxlaw08_few.calls _ _ l1 false _ ?side1 ?side2 A6.out).mono ?_); (case side1 => repeat (first | exact (Kd.C_below HR1.out (by repeat (first | (with_reducible first | exact HB.out | apply below_alloc | apply pw_below_drewN | apply below_drew1) | exact HB.out))) | (with_reducible refine Kd.C_alloc ?_ _) | (with_reducible refine Kd.C_drewN ?_ _) | (with_reducible refine Kd.C_drew ?_))); (case side2 => exact HC1.out); rintro e w' ⟨rfl, ⟨nd, rfl⟩⟩; (try first | exact ⟨rfl, _, World.drewN_drewN _ _ _⟩ | exact ⟨rfl, _, Eq.trans (World.drewN_drewN _ _ _) (congrArg (World.drewN _) (Nat.add_assoc _ _ _))⟩))); try go_wp2_with (first | (go_at_call 27; (with_reducible refine (calxlaw08_few.calls _ _ l0 true _ ?side1 ?side2 A4.out).mono ?_); (case side1 => repeat (first | exact (Kd.C_below HR0.out HB.out) | (with_reducible refine Kd.C_alloc ?_ _) | (with_reducible refine Kd.C_drewN ?_ _) | (with_reducible refine Kd.C_drew ?_))); (case side2 => exact HC0.out); rintro e w' ⟨rfl, ⟨nd, rfl⟩⟩; (try first | exact ⟨rfl, _, World.drewN_drewN _ _ _⟩ | exact ⟨rfl, _, Eq.trans (World.drewN_drewN _ _ _) (congrArg (World.drewN _) (Nat.add_assoc _ _ _))⟩)) | (go_at_call 27; (with_reducible refine (calxlaw08_few.calls _ _ l1 false _ ?side1 ?side2 A6.out).mono ?_); (case side1 => repeat (first | exact (Kd.C_below HR1.out (by repeat (first | (with_reducible first | exact HB.out | apply below_alloc | apply pw_below_drewN | apply below_drew1) | exact HB.out))) | (with_reducible refine Kd.C_alloc ?_ _) | (with_reducible refine Kd.C_drewN ?_ _) | (with_reducible refine Kd.C_drew ?_))); (case side2 => exact HC1.out); rintro e w' ⟨rfl, ⟨nd, rfl⟩⟩; (try first | exact ⟨rfl, _, World.drewN_drewN _ _ _⟩ | exact ⟨rfl, _, Eq.trans (World.drewN_drewN _ _ _) (congrArg (World.drewN _) (Nat.add_assoc _ _ _))⟩))))
        go_meet
        case rel => exact ⟨_, (true), (by first | rfl | (simp; done) | (simp [*]; done)), H', ⟨by first | omega | exact Nat.le_refl _⟩, ⟨by repeat (first | (with_reducible first | exact HB.out | apply below_alloc | apply pw_below_drewN | apply below_drew1) | exact HB.out)⟩⟩
    · replace c5 := Bool.eq_false_iff.mpr c5
      subst c5
      have H1 : (calxlaw08_BookCompares.j0 k l0 l1 true) = some r := by rw [if_neg (show ¬ (false = true) by decide)] at H; exact H
      clear H
      have H := H1
      clear H1
      have H' := Aside0.mk H
      clear H
      go_wp2_with (first | (go_at_call 27; (with_reducible refine (calxlaw08_few.calls _ _ l0 false _ ?side1 ?side2 A4.out).mono ?_); (case side1 => repeat (first | exact (Kd.C_below HR0.out HB.out) | (with_reducible refine Kd.C_alloc ?_ _) | (with_reducible refine Kd.C_drewN ?_ _) | (with_reducible refine Kd.C_drew ?_))); (case side2 => exact HC0.out); rintro e w' ⟨rfl, ⟨nd, rfl⟩⟩; (try first | exact ⟨rfl, _, World.drewN_drewN _ _ _⟩ | exact ⟨rfl, _, Eq.trans (World.drewN_drewN _ _ _) (congrArg (World.drewN _) (Nat.add_assoc _ _ _))⟩)))
      repeat (go_quiet (first | (go_at_call 27; (with_reducible refine (calxlaw08_few.calls _ _ l0 false _ ?side1 ?side2 A4.out).mono ?_); (case side1 => repeat (first | exact (Kd.C_below HR0.out HB.out) | (with_reducible refine Kd.C_alloc ?_ _) | (with_reducible refine Kd.C_drewN ?_ _) | (with_reducible refine Kd.C_drew ?_))); (case side2 => exact HC0.out); rintro e w' ⟨rfl, ⟨nd, rfl⟩⟩; (try first | exact ⟨rfl, _, World.drewN_drewN _ _ _⟩ | exact ⟨rfl, _, Eq.trans (World.drewN_drewN _ _ _) (congrArg (World.drewN _) (Nat.add_assoc _ _ _))⟩))); try go_wp2_with (first | (go_at_call 27; (with_reducible refine (calxlaw08_few.calls _ _ l0 false _ ?side1 ?side2 A4.out).mono ?_); (case side1 => repeat (first | exact (Kd.C_below HR0.out HB.out) | (with_reducible refine Kd.C_alloc ?_ _) | (with_reducible refine Kd.C_drewN ?_ _) | (with_reducible refine Kd.C_drew ?_))); (case side2 => exact HC0.out); rintro e w' ⟨rfl, ⟨nd, rfl⟩⟩; (try first | exact ⟨rfl, _, World.drewN_drewN _ _ _⟩ | exact ⟨rfl, _, Eq.trans (World.drewN_drewN _ _ _) (congrArg (World.drewN _) (Nat.add_assoc _ _ _))⟩))))
      go_meet
      case rel => exact ⟨_, (true), (by first | rfl | (simp; done) | (simp [*]; done)), H', ⟨by first | omega | exact Nat.le_refl _⟩, ⟨by repeat (first | (with_reducible first | exact HB.out | apply below_alloc | apply pw_below_drewN | apply below_drew1) | exact HB.out)⟩⟩
  case rest =>
    clear HC3
    try clear c1
    try clear p2
    try clear c5
    try clear c7
    try clear c8
    try clear c8b0
    try clear c8b1
    try clear c8b2
    obtain ⟨kq, x44_2, rfl, HA, HJ2, HB⟩ := hcut
    cases kq with
    | zero => exact absurd HA.out (by simp [calxlaw08_BookCompares.j0])
    | succ kj2 =>
      have H := HA.out
      clear HA
      simp only [calxlaw08_BookCompares.j0] at H
      by_cases c9 : x44_2 = true
      · subst c9
        have H1 : ((calxlaw08_sanity.f).bind fun t103 => (some t103)) = some r := by rw [if_pos rfl] at H; exact H
        clear H
        have H := H1
        clear H1
        replace H := Option.bind_eq_some_iff.mp H
        obtain ⟨t103, A100, H⟩ := H
        replace H : (some t103) = some r := H
        have A10 := Aside0.mk A100
        clear A100
        obtain rfl := Option.some.inj H
        go_wp2_with (first | (go_at_call 22; (with_reducible refine (calxlaw08_sanity.calls  t103 _ A10.out).mono ?_); rintro e w11 ⟨rfl, hb⟩; have n0_ := Aside0.mk (below_step (by repeat (first | (with_reducible first | exact HB.out | apply below_alloc | apply pw_below_drewN | apply below_drew1) | exact HB.out)) hb); clear HB; have HB := n0_; clear n0_; (try clear hb); (try clear hb2); (try clear hk); (try clear hi)))
        repeat (go_quiet (first | (go_at_call 22; (with_reducible refine (calxlaw08_sanity.calls  t103 _ A10.out).mono ?_); rintro e w11 ⟨rfl, hb⟩; have n0_ := Aside0.mk (below_step (by repeat (first | (with_reducible first | exact HB.out | apply below_alloc | apply pw_below_drewN | apply below_drew1) | exact HB.out)) hb); clear HB; have HB := n0_; clear n0_; (try clear hb); (try clear hb2); (try clear hk); (try clear hi))); try go_wp2_with (first | (go_at_call 22; (with_reducible refine (calxlaw08_sanity.calls  t103 _ A10.out).mono ?_); rintro e w11 ⟨rfl, hb⟩; have n0_ := Aside0.mk (below_step (by repeat (first | (with_reducible first | exact HB.out | apply below_alloc | apply pw_below_drewN | apply below_drew1) | exact HB.out)) hb); clear HB; have HB := n0_; clear n0_; (try clear hb); (try clear hb2); (try clear hk); (try clear hi))))
        go_ret
        exact ⟨by first | rfl | (simp [errW_none, errW_some] <;> rfl) | (simp [*, errW_none, errW_some] <;> rfl), by repeat (first | (with_reducible first | exact HB.out | apply below_alloc | apply pw_below_drewN | apply below_drew1) | exact HB.out)⟩
      · replace c9 := Bool.eq_false_iff.mpr c9
        subst c9
        have H1 : ((book_Compare.f l0 l1).bind fun bt104 => ((book_Fork.f l0 l1).bind fun bt108 => (if bt104.2.2.2 = bt108.2.2.2.2 then (if bt104.2.2.2 = 0 then (if bt104.2.1 < 1 then (calxlaw08_BookCompares.j1 kj2 l0 l1 bt104.1 bt104.2.2.1 bt108.1 bt108.2.2.2.1 true) else (calxlaw08_BookCompares.j1 kj2 l0 l1 bt104.1 bt104.2.2.1 bt108.1 bt108.2.2.2.1 (decide (bt104.2.1 > 7)))) else ((calxlaw08_sanity.f).bind fun t117 => (some t117))) else (some false)))) = some r := by rw [if_neg (show ¬ (false = true) by decide)] at H; exact H
        clear H
        have H := H1
        clear H1
        replace H := Option.bind_eq_some_iff.mp H
        obtain ⟨⟨t104, t105, t106, t107⟩, A120, H⟩ := H
        replace H : ((book_Fork.f l0 l1).bind fun bt108 => (if t107 = bt108.2.2.2.2 then (if t107 = 0 then (if t105 < 1 then (calxlaw08_BookCompares.j1 kj2 l0 l1 t104 t106 bt108.1 bt108.2.2.2.1 true) else (calxlaw08_BookCompares.j1 kj2 l0 l1 t104 t106 bt108.1 bt108.2.2.2.1 (decide (t105 > 7)))) else ((calxlaw08_sanity.f).bind fun t117 => (some t117))) else (some false))) = some r := H
        have A12 := Aside0.mk A120
        clear A120
        replace H := Option.bind_eq_some_iff.mp H
        obtain ⟨⟨t108, t109, t110, t111, t112⟩, A130, H⟩ := H
        replace H : (if t107 = t112 then (if t107 = 0 then (if t105 < 1 then (calxlaw08_BookCompares.j1 kj2 l0 l1 t104 t106 t108 t111 true) else (calxlaw08_BookCompares.j1 kj2 l0 l1 t104 t106 t108 t111 (decide (t105 > 7)))) else ((calxlaw08_sanity.f).bind fun t117 => (some t117))) else (some false)) = some r := H
        have A13 := Aside0.mk A130
        clear A130
        by_cases c14 : t107 = t112
        · rw [if_pos c14] at H
          have c14b0 : (t107 == t112) = true := beq_iff_eq.mpr c14
          have c14b1 : (t107 != t112) = false := bne_eq_false_iff_eq.mpr c14
          clear c14
          by_cases c15 : t107 = 0
          · rw [if_pos c15] at H
            have c15b0 : (t107 == 0) = true := beq_iff_eq.mpr c15
            have c15b1 : (t107 != 0) = false := bne_eq_false_iff_eq.mpr c15
            clear c15
            have HC16 := Aside0.mk H
            clear H
            go_upto_region 9 with (first | (go_at_call 68; (with_reducible refine (book_Compare.calls _ _ l0 _ _ l1 t104 t105 t106 t107 _ ?side1 ?side2 ?side3 ?side4 A12.out).mono ?_); (case side1 => repeat (first | exact (Kd.C_below HR0.out HB.out) | (with_reducible refine Kd.C_alloc ?_ _) | (with_reducible refine Kd.C_drewN ?_ _) | (with_reducible refine Kd.C_drew ?_))); (case side2 => exact HC0.out); (case side3 => repeat (first | exact (Kd.C_below HR1.out HB.out) | (with_reducible refine Kd.C_alloc ?_ _) | (with_reducible refine Kd.C_drewN ?_ _) | (with_reducible refine Kd.C_drew ?_))); (case side4 => exact HC1.out); rintro e w17 ⟨rfl, hb⟩; have n0_ := Aside0.mk (below_step (by repeat (first | (with_reducible first | exact HB.out | apply below_alloc | apply pw_below_drewN | apply below_drew1) | exact HB.out)) hb); clear HB; have HB := n0_; clear n0_; (try clear hb); (try clear hb2); (try clear hk); (try clear hi)) | (go_at_call 66; (with_reducible refine (book_Fork.calls _ _ l0 _ _ l1 t108 t109 t110 t111 t112 _ ?side1 ?side2 ?side3 ?side4 A13.out).mono ?_); (case side1 => repeat (first | exact (Kd.C_below HR0.out HB.out) | (with_reducible refine Kd.C_alloc ?_ _) | (with_reducible refine Kd.C_drewN ?_ _) | (with_reducible refine Kd.C_drew ?_))); (case side2 => exact HC0.out); (case side3 => repeat (first | exact (Kd.C_below HR1.out HB.out) | (with_reducible refine Kd.C_alloc ?_ _) | (with_reducible refine Kd.C_drewN ?_ _) | (with_reducible refine Kd.C_drew ?_))); (case side4 => exact HC1.out); rintro e w18 ⟨v113, v115, rfl, ho0, ho1, hb⟩; have n0_ := Aside0.mk (Kd.R_lower ho0 (below_size (by repeat (first | (with_reducible first | exact HB.out | apply below_alloc | apply pw_below_drewN | apply below_drew1) | exact HB.out)))); have n1_ := Aside0.mk (Kd.R_lower ho1 (below_size (by repeat (first | (with_reducible first | exact HB.out | apply below_alloc | apply pw_below_drewN | apply below_drew1) | exact HB.out)))); have n2_ := Aside0.mk (below_step (by repeat (first | (with_reducible first | exact HB.out | apply below_alloc | apply pw_below_drewN | apply below_drew1) | exact HB.out)) hb); clear HB; have HO114 := n0_; have HO116 := n1_; have HB := n2_; clear n0_ n1_ n2_; (try clear hb); (try clear hb2); (try clear hk); (try clear hi); (try clear ho0); (try clear ho1)))
            repeat (go_quiet (first | (go_at_call 68; (with_reducible refine (book_Compare.calls _ _ l0 _ _ l1 t104 t105 t106 t107 _ ?side1 ?side2 ?side3 ?side4 A12.out).mono ?_); (case side1 => repeat (first | exact (Kd.C_below HR0.out HB.out) | (with_reducible refine Kd.C_alloc ?_ _) | (with_reducible refine Kd.C_drewN ?_ _) | (with_reducible refine Kd.C_drew ?_))); (case side2 => exact HC0.out); (case side3 => repeat (first | exact (Kd.C_below HR1.out HB.out) | (with_reducible refine Kd.C_alloc ?_ _) | (with_reducible refine Kd.C_drewN ?_ _) | (with_reducible refine Kd.C_drew ?_))); (case side4 => exact HC1.out); rintro e w17 ⟨rfl, hb⟩; have n0_ := Aside0.mk (below_step (by repeat (first | (with_reducible first | exact HB.out | apply below_alloc | apply pw_below_drewN | apply below_drew1) | exact HB.out)) hb); clear HB; have HB := n0_; clear n0_; (try clear hb); (try clear hb2); (try clear hk); (try clear hi)) | (go_at_call 66; (with_reducible refine (book_Fork.calls _ _ l0 _ _ l1 t108 t109 t110 t111 t112 _ ?side1 ?side2 ?side3 ?side4 A13.out).mono ?_); (case side1 => repeat (first | exact (Kd.C_below HR0.out HB.out) | (with_reducible refine Kd.C_alloc ?_ _) | (with_reducible refine Kd.C_drewN ?_ _) | (with_reducible refine Kd.C_drew ?_))); (case side2 => exact HC0.out); (case side3 => repeat (first | exact (Kd.C_below HR1.out HB.out) | (with_reducible refine Kd.C_alloc ?_ _) | (with_reducible refine Kd.C_drewN ?_ _) | (with_reducible refine Kd.C_drew ?_))); (case side4 => exact HC1.out); rintro e w18 ⟨v113, v115, rfl, ho0, ho1, hb⟩; have n0_ := Aside0.mk (Kd.R_lower ho0 (below_size (by repeat (first | (with_reducible first | exact HB.out | apply below_alloc | apply pw_below_drewN | apply below_drew1) | exact HB.out)))); have n1_ := Aside0.mk (Kd.R_lower ho1 (below_size (by repeat (first | (with_reducible first | exact HB.out | apply below_alloc | apply pw_below_drewN | apply below_drew1) | exact HB.out)))); have n2_ := Aside0.mk (below_step (by repeat (first | (with_reducible first | exact HB.out | apply below_alloc | apply pw_below_drewN | apply below_drew1) | exact HB.out)) hb); clear HB; have HO114 := n0_; have HO116 := n1_; have HB := n2_; clear n0_ n1_ n2_; (try clear hb); (try clear hb2); (try clear hk); (try clear hi); (try clear ho0); (try clear ho1))); go_upto_region 9 with (first | (go_at_call 68; (with_reducible refine (book_Compare.calls _ _ l0 _ _ l1 t104 t105 t106 t107 _ ?side1 ?side2 ?side3 ?side4 A12.out).mono ?_); (case side1 => repeat (first | exact (Kd.C_below HR0.out HB.out) | (with_reducible refine Kd.C_alloc ?_ _) | (with_reducible refine Kd.C_drewN ?_ _) | (with_reducible refine Kd.C_drew ?_))); (case side2 => exact HC0.out); (case side3 => repeat (first | exact (Kd.C_below HR1.out HB.out) | (with_reducible refine Kd.C_alloc ?_ _) | (with_reducible refine Kd.C_drewN ?_ _) | (with_reducible refine Kd.C_drew ?_))); (case side4 => exact HC1.out); rintro e w17 ⟨rfl, hb⟩; have n0_ := Aside0.mk (below_step (by repeat (first | (with_reducible first | exact HB.out | apply below_alloc | apply pw_below_drewN | apply below_drew1) | exact HB.out)) hb); clear HB; have HB := n0_; clear n0_; (try clear hb); (try clear hb2); (try clear hk); (try clear hi)) | (go_at_call 66; (with_reducible refine (book_Fork.calls _ _ l0 _ _ l1 t108 t109 t110 t111 t112 _ ?side1 ?side2 ?side3 ?side4 A13.out).mono ?_); (case side1 => repeat (first | exact (Kd.C_below HR0.out HB.out) | (with_reducible refine Kd.C_alloc ?_ _) | (with_reducible refine Kd.C_drewN ?_ _) | (with_reducible refine Kd.C_drew ?_))); (case side2 => exact HC0.out); (case side3 => repeat (first | exact (Kd.C_below HR1.out HB.out) | (with_reducible refine Kd.C_alloc ?_ _) | (with_reducible refine Kd.C_drewN ?_ _) | (with_reducible refine Kd.C_drew ?_))); (case side4 => exact HC1.out); rintro e w18 ⟨v113, v115, rfl, ho0, ho1, hb⟩; have n0_ := Aside0.mk (Kd.R_lower ho0 (below_size (by repeat (first | (with_reducible first | exact HB.out | apply below_alloc | apply pw_below_drewN | apply below_drew1) | exact HB.out)))); have n1_ := Aside0.mk (Kd.R_lower ho1 (below_size (by repeat (first | (with_reducible first | exact HB.out | apply below_alloc | apply pw_below_drewN | apply below_drew1) | exact HB.out)))); have n2_ := Aside0.mk (below_step (by repeat (first | (with_reducible first | exact HB.out | apply below_alloc | apply pw_below_drewN | apply below_drew1) | exact HB.out)) hb); clear HB; have HO114 := n0_; have HO116 := n1_; have HB := n2_; clear n0_ n1_ n2_; (try clear hb); (try clear hb2); (try clear hk); (try clear hi); (try clear ho0); (try clear ho1))))
            (try simp only [Act.put, List.setIfInBounds_toArray, List.set_cons_zero, List.set_cons_succ])
            go_cut [74] (fun v74 wc => ∃ (kq : Nat) (x74_15 : Bool), v74 = .bool x74_15 ∧ Aside0 (calxlaw08_BookCompares.j1 kq l0 l1 t104 t106 t108 t111 x74_15 = some r) ∧ Aside0 (kq ≤ kj2) ∧ Aside0 (Below w.heap.size w wc))
            case first =>
              have H := HC16.out
              clear HC16
              by_cases c19 : t105 < 1
              · rw [if_pos c19] at H
                have c19b0 : decide (t105 < 1) = true := decide_eq_true c19
                clear c19
                (first | rw [c19b0] | (simp only [i64_w, i32_w]; rw [c19b0]) | skip)
                have H' := Aside0.mk H
                clear H
                go_wp2
                repeat (go_quiet (fail); try go_wp2)
                go_meet
                case rel => exact ⟨_, (true), (by first | rfl | (simp; done) | (simp [*]; done)), H', ⟨by have := HJ2.out; first | omega | exact Nat.le_refl _⟩, ⟨by repeat (first | (with_reducible first | exact HB.out | apply below_alloc | apply pw_below_drewN | apply below_drew1) | exact HB.out)⟩⟩
              · rw [if_neg c19] at H
                have c19b0 : decide (t105 < 1) = false := decide_eq_false c19
                clear c19
                (first | rw [c19b0] | (simp only [i64_w, i32_w]; rw [c19b0]) | skip)
                have H' := Aside0.mk H
                clear H
                go_wp2
                repeat (go_quiet (fail); try go_wp2)
                go_meet
                case rel => exact ⟨_, (decide (t105 > 7)), (by first | rfl | (simp; done) | (simp [*]; done)), H', ⟨by have := HJ2.out; first | omega | exact Nat.le_refl _⟩, ⟨by repeat (first | (with_reducible first | exact HB.out | apply below_alloc | apply pw_below_drewN | apply below_drew1) | exact HB.out)⟩⟩
            case rest =>
              clear HC16
              try clear c1
              try clear p2
              try clear c5
              try clear c7
              try clear c8
              try clear c8b0
              try clear c8b1
              try clear c8b2
              try clear c9
              try clear c14
              try clear c14b0
              try clear c14b1
              try clear c15
              try clear c15b0
              try clear c15b1
              try clear c19
              try clear c19b0
              try clear p2
              obtain ⟨kq, x74_15, rfl, HA, HJ15, HB⟩ := hcut
              cases kq with
              | zero => exact absurd HA.out (by simp [calxlaw08_BookCompares.j1])
              | succ kj15 =>
                have H := HA.out
                clear HA
                simp only [calxlaw08_BookCompares.j1] at H
                by_cases c20 : x74_15 = true
                · subst c20
                  have H1 : (some false) = some r := by rw [if_pos rfl] at H; exact H
                  clear H
                  have H := H1
                  clear H1
                  obtain rfl := Option.some.inj H
                  go_wp2
                  repeat (go_quiet (fail); try go_wp2)
                  go_ret
                  exact ⟨by first | rfl | (simp [errW_none, errW_some] <;> rfl) | (simp [*, errW_none, errW_some] <;> rfl), by repeat (first | (with_reducible first | exact HB.out | apply below_alloc | apply pw_below_drewN | apply below_drew1) | exact HB.out)⟩
                · replace c20 := Bool.eq_false_iff.mpr c20
                  subst c20
                  have H1 : (calxlaw08_BookCompares.l0 kj15 l0 l1 t104 t106 t108 t111 0 (l0.length : Int)) = some r := by rw [if_neg (show ¬ (false = true) by decide)] at H; exact H
                  clear H
                  have H := H1
                  clear H1
                  have H' := Aside0.mk H
                  clear H
                  go_wp2
                  repeat (go_quiet (fail); try go_wp2)
                  go_loopg [14, 15] kj15 (fun kq v14 v15 w' => ∃ (x14_3 : Int) (x15_3 : Int), v14 = .int .i64 x14_3 ∧ v15 = .int .i64 x15_3 ∧ Aside0 (calxlaw08_BookCompares.l0 kq l0 l1 t104 t106 t108 t111 x14_3 x15_3 = some r) ∧ Aside0 (kq ≤ kj15) ∧ Aside0 (Below w.heap.size w w'))
                  case atStart => exact ⟨(0), ((l0.length : Int)), (by first | rfl | (simp; done) | (simp [*]; done)), (by first | rfl | (simp; done) | (simp [*]; done)), H', ⟨Nat.le_refl _⟩, ⟨by repeat (first | (with_reducible first | exact HB.out | apply below_alloc | apply pw_below_drewN | apply below_drew1) | exact HB.out)⟩⟩
                  case round =>
                    clear H'
                    try clear c1
                    try clear c2
                    try clear p2
                    try clear c5
                    try clear c7
                    try clear c8
                    try clear c8b0
                    try clear c8b1
                    try clear c8b2
                    try clear c9
                    try clear c14
                    try clear c14b0
                    try clear c14b1
                    try clear c15
                    try clear c15b0
                    try clear c15b1
                    try clear c19
                    try clear c19b0
                    try clear c20
                    try clear p2
                    obtain ⟨x14_3, x15_3, rfl, rfl, HA, HK3, HB⟩ := hrel
                    cases gk with
                    | zero => exact absurd HA.out (by simp [calxlaw08_BookCompares.l0])
                    | succ k3 =>
                      have H := HA.out
                      clear HA
                      simp only [calxlaw08_BookCompares.l0] at H
                      by_cases c21 : x15_3 > 0
                      · rw [if_pos c21] at H
                        have c21b0 : decide (0 < x15_3) = true := decide_eq_true c21
                        clear c21
                        replace H := Option.bind_eq_some_iff.mp H
                        obtain ⟨⟨t119, t120⟩, A220, H⟩ := H
                        replace H : ((book_Part.f l1 x14_3 x15_3).bind fun bt121 => (if t120 = 0 then (calxlaw08_BookCompares.j3 k3 l0 l1 t104 t106 t108 t111 x14_3 x15_3 t119 bt121.1 (bt121.2 != 0)) else (calxlaw08_BookCompares.j3 k3 l0 l1 t104 t106 t108 t111 x14_3 x15_3 t119 bt121.1 true))) = some r := H
                        have A22 := Aside0.mk A220
                        clear A220
                        replace H := Option.bind_eq_some_iff.mp H
                        obtain ⟨⟨t121, t122⟩, A230, H⟩ := H
                        replace H : (if t120 = 0 then (calxlaw08_BookCompares.j3 k3 l0 l1 t104 t106 t108 t111 x14_3 x15_3 t119 t121 (t122 != 0)) else (calxlaw08_BookCompares.j3 k3 l0 l1 t104 t106 t108 t111 x14_3 x15_3 t119 t121 true)) = some r := H
                        have A23 := Aside0.mk A230
                        clear A230
                        have HC24 := Aside0.mk H
                        clear H
                        go_upto_region 16 with (first | (go_at_call 33; (with_reducible refine (book_Part.calls _ _ l0 x14_3 x15_3 t119 t120 _ ?side1 ?side2 A22.out).mono ?_); (case side1 => repeat (first | exact (Kd.C_below HR0.out HB.out) | (with_reducible refine Kd.C_alloc ?_ _) | (with_reducible refine Kd.C_drewN ?_ _) | (with_reducible refine Kd.C_drew ?_))); (case side2 => exact HC0.out); rintro e w25 ⟨rfl, hb⟩; have n0_ := Aside0.mk (below_step (by repeat (first | (with_reducible first | exact HB.out | apply below_alloc | apply pw_below_drewN | apply below_drew1) | exact HB.out)) hb); clear HB; have HB := n0_; clear n0_; (try clear hb); (try clear hb2); (try clear hk); (try clear hi)) | (go_at_call 33; (with_reducible refine (book_Part.calls _ _ l1 x14_3 x15_3 t121 t122 _ ?side1 ?side2 A23.out).mono ?_); (case side1 => repeat (first | exact (Kd.C_below HR1.out HB.out) | (with_reducible refine Kd.C_alloc ?_ _) | (with_reducible refine Kd.C_drewN ?_ _) | (with_reducible refine Kd.C_drew ?_))); (case side2 => exact HC1.out); rintro e w26 ⟨rfl, hb⟩; have n0_ := Aside0.mk (below_step (by repeat (first | (with_reducible first | exact HB.out | apply below_alloc | apply pw_below_drewN | apply below_drew1) | exact HB.out)) hb); clear HB; have HB := n0_; clear n0_; (try clear hb); (try clear hb2); (try clear hk); (try clear hi)))
                        repeat (go_quiet (first | (go_at_call 33; (with_reducible refine (book_Part.calls _ _ l0 x14_3 x15_3 t119 t120 _ ?side1 ?side2 A22.out).mono ?_); (case side1 => repeat (first | exact (Kd.C_below HR0.out HB.out) | (with_reducible refine Kd.C_alloc ?_ _) | (with_reducible refine Kd.C_drewN ?_ _) | (with_reducible refine Kd.C_drew ?_))); (case side2 => exact HC0.out); rintro e w25 ⟨rfl, hb⟩; have n0_ := Aside0.mk (below_step (by repeat (first | (with_reducible first | exact HB.out | apply below_alloc | apply pw_below_drewN | apply below_drew1) | exact HB.out)) hb); clear HB; have HB := n0_; clear n0_; (try clear hb); (try clear hb2); (try clear hk); (try clear hi)) | (go_at_call 33; (with_reducible refine (book_Part.calls _ _ l1 x14_3 x15_3 t121 t122 _ ?side1 ?side2 A23.out).mono ?_); (case side1 => repeat (first | exact (Kd.C_below HR1.out HB.out) | (with_reducible refine Kd.C_alloc ?_ _) | (with_reducible refine Kd.C_drewN ?_ _) | (with_reducible refine Kd.C_drew ?_))); (case side2 => exact HC1.out); rintro e w26 ⟨rfl, hb⟩; have n0_ := Aside0.mk (below_step (by repeat (first | (with_reducible first | exact HB.out | apply below_alloc | apply pw_below_drewN | apply below_drew1) | exact HB.out)) hb); clear HB; have HB := n0_; clear n0_; (try clear hb); (try clear hb2); (try clear hk); (try clear hi))); go_upto_region 16 with (first | (go_at_call 33; (with_reducible refine (book_Part.calls _ _ l0 x14_3 x15_3 t119 t120 _ ?side1 ?side2 A22.out).mono ?_); (case side1 => repeat (first | exact (Kd.C_below HR0.out HB.out) | (with_reducible refine Kd.C_alloc ?_ _) | (with_reducible refine Kd.C_drewN ?_ _) | (with_reducible refine Kd.C_drew ?_))); (case side2 => exact HC0.out); rintro e w25 ⟨rfl, hb⟩; have n0_ := Aside0.mk (below_step (by repeat (first | (with_reducible first | exact HB.out | apply below_alloc | apply pw_below_drewN | apply below_drew1) | exact HB.out)) hb); clear HB; have HB := n0_; clear n0_; (try clear hb); (try clear hb2); (try clear hk); (try clear hi)) | (go_at_call 33; (with_reducible refine (book_Part.calls _ _ l1 x14_3 x15_3 t121 t122 _ ?side1 ?side2 A23.out).mono ?_); (case side1 => repeat (first | exact (Kd.C_below HR1.out HB.out) | (with_reducible refine Kd.C_alloc ?_ _) | (with_reducible refine Kd.C_drewN ?_ _) | (with_reducible refine Kd.C_drew ?_))); (case side2 => exact HC1.out); rintro e w26 ⟨rfl, hb⟩; have n0_ := Aside0.mk (below_step (by repeat (first | (with_reducible first | exact HB.out | apply below_alloc | apply pw_below_drewN | apply below_drew1) | exact HB.out)) hb); clear HB; have HB := n0_; clear n0_; (try clear hb); (try clear hb2); (try clear hk); (try clear hi))))
                        (try simp only [Act.put, List.setIfInBounds_toArray, List.set_cons_zero, List.set_cons_succ])
                        go_cut [98] (fun v98 wc => ∃ (kq : Nat) (x98_23 : Bool), v98 = .bool x98_23 ∧ Aside0 (calxlaw08_BookCompares.j3 kq l0 l1 t104 t106 t108 t111 x14_3 x15_3 t119 t121 x98_23 = some r) ∧ Aside0 (kq ≤ k3) ∧ Aside0 (Below w.heap.size w wc))
                        case first =>
                          have H := HC24.out
                          clear HC24
                          by_cases c27 : t120 = 0
                          · rw [if_pos c27] at H
                            have c27b0 : (t120 == 0) = true := beq_iff_eq.mpr c27
                            have c27b1 : (t120 != 0) = false := bne_eq_false_iff_eq.mpr c27
                            clear c27
                            (first | rw [c27b0] | (simp only [i64_w, i32_w]; rw [c27b0]) | skip)
                            have H' := Aside0.mk H
                            clear H
                            go_wp2
                            repeat (go_quiet (fail); try go_wp2)
                            go_meet
                            case rel => exact ⟨_, ((t122 != 0)), (by first | rfl | (simp; done) | (simp [*]; done)), H', ⟨by have := HJ2.out; have := HJ15.out; have := HK3.out; first | omega | exact Nat.le_refl _⟩, ⟨by repeat (first | (with_reducible first | exact HB.out | apply below_alloc | apply pw_below_drewN | apply below_drew1) | exact HB.out)⟩⟩
                          · rw [if_neg c27] at H
                            have c27b0 : (t120 == 0) = false := beq_eq_false_iff_ne.mpr c27
                            have c27b1 : (t120 != 0) = true := bne_iff_ne.mpr c27
                            (first | rw [c27b0] | (simp only [i64_w, i32_w]; rw [c27b0]) | skip)
                            have H' := Aside0.mk H
                            clear H
                            go_wp2
                            repeat (go_quiet (fail); try go_wp2)
                            go_meet
                            case rel => exact ⟨_, (true), (by first | rfl | (simp; done) | (simp [*]; done)), H', ⟨by have := HJ2.out; have := HJ15.out; have := HK3.out; first | omega | exact Nat.le_refl _⟩, ⟨by repeat (first | (with_reducible first | exact HB.out | apply below_alloc | apply pw_below_drewN | apply below_drew1) | exact HB.out)⟩⟩
                        case rest =>
                          clear HC24
                          try clear c1
                          try clear c2
                          try clear p2
                          try clear c5
                          try clear c7
                          try clear c8
                          try clear c8b0
                          try clear c8b1
                          try clear c8b2
                          try clear c9
                          try clear c14
                          try clear c14b0
                          try clear c14b1
                          try clear c15
                          try clear c15b0
                          try clear c15b1
                          try clear c19
                          try clear c19b0
                          try clear c20
                          try clear c21
                          try clear c21b0
                          try clear c27
                          try clear c27b0
                          try clear c27b1
                          try clear p2
                          obtain ⟨kq, x98_23, rfl, HA, HJ23, HB⟩ := hcut
                          cases kq with
                          | zero => exact absurd HA.out (by simp [calxlaw08_BookCompares.j3])
                          | succ kj23 =>
                            have H := HA.out
                            clear HA
                            simp only [calxlaw08_BookCompares.j3] at H
                            by_cases c28 : x98_23 = true
                            · subst c28
                              have H1 : (some false) = some r := by rw [if_pos rfl] at H; exact H
                              clear H
                              have H := H1
                              clear H1
                              obtain rfl := Option.some.inj H
                              go_wp2
                              repeat (go_quiet (fail); try go_wp2)
                              go_ret
                              exact ⟨by first | rfl | (simp [errW_none, errW_some] <;> rfl) | (simp [*, errW_none, errW_some] <;> rfl), by repeat (first | (with_reducible first | exact HB.out | apply below_alloc | apply pw_below_drewN | apply below_drew1) | exact HB.out)⟩
                            · replace c28 := Bool.eq_false_iff.mpr c28
                              subst c28
                              have H1 : (if t119 = t121 then (if 0 ≤ x14_3 then (if x14_3 ≤ (wrap64 (x14_3 + x15_3)) then (if (wrap64 (x14_3 + x15_3)) ≤ (l0.length : Int) then (if (wrap64 (x14_3 + x15_3)) ≤ (l1.length : Int) then ((calxref08_SameBook.f kj23 ((l0.take ((wrap64 (x14_3 + x15_3)) : Int).toNat).drop (x14_3 : Int).toNat) ((l1.take ((wrap64 (x14_3 + x15_3)) : Int).toNat).drop (x14_3 : Int).toNat)).bind fun t131 => (calxlaw08_BookCompares.j4 kj23 l0 l1 t104 t106 t108 t111 x14_3 x15_3 t119 t121 (!t131))) else (none)) else (none)) else (none)) else (none)) else (calxlaw08_BookCompares.j4 kj23 l0 l1 t104 t106 t108 t111 x14_3 x15_3 t119 t121 false)) = some r := by rw [if_neg (show ¬ (false = true) by decide)] at H; exact H
                              clear H
                              have H := H1
                              clear H1
                              have HC29 := Aside0.mk H
                              clear H
                              go_upto_region 18 with (fail)
                              repeat (go_quiet (fail); go_upto_region 18 with (fail))
                              go_cut [117] (fun v117 wc => ∃ (kq : Nat) (x117_28 : Bool), v117 = .bool x117_28 ∧ Aside0 (calxlaw08_BookCompares.j4 kq l0 l1 t104 t106 t108 t111 x14_3 x15_3 t119 t121 x117_28 = some r) ∧ Aside0 (kq ≤ kj23) ∧ Aside0 (Below w.heap.size w wc))
                              case first =>
                                have H := HC29.out
                                clear HC29
                                by_cases c30 : t119 = t121
                                · rw [if_pos c30] at H
                                  have c30b0 : (t119 == t121) = true := beq_iff_eq.mpr c30
                                  have c30b1 : (t119 != t121) = false := bne_eq_false_iff_eq.mpr c30
                                  clear c30
                                  (first | rw [c30b0] | (simp only [i64_w, i32_w]; rw [c30b0]) | skip)
                                  by_cases c31 : 0 ≤ x14_3
                                  · rw [if_pos c31] at H
                                    have c31b0 := eq_true c31
                                    have c31b1 : decide (0 ≤ x14_3) = true := decide_eq_true c31
                                    clear c31
                                    by_cases c32 : x14_3 ≤ (wrap64 (x14_3 + x15_3))
                                    · rw [if_pos c32] at H
                                      have c32b0 := eq_true c32
                                      have c32b1 : decide (x14_3 ≤ (wrap64 (x14_3 + x15_3))) = true := decide_eq_true c32
                                      by_cases c33 : (wrap64 (x14_3 + x15_3)) ≤ (l0.length : Int)
                                      · rw [if_pos c33] at H
                                        have c33b0 := eq_true c33
                                        have c33b1 : decide ((wrap64 (x14_3 + x15_3)) ≤ (l0.length : Int)) = true := decide_eq_true c33
                                        obtain ⟨y123, hy123⟩ : ∃ y_ : List (S29), y_ = ((l0.take ((wrap64 (x14_3 + x15_3)) : Int).toNat).drop (x14_3 : Int).toNat) := ⟨_, rfl⟩
                                        replace H : (if (wrap64 (x14_3 + x15_3)) ≤ (l1.length : Int) then ((calxref08_SameBook.f kj23 y123 ((l1.take ((wrap64 (x14_3 + x15_3)) : Int).toNat).drop (x14_3 : Int).toNat)).bind fun t131 => (calxlaw08_BookCompares.j4 kj23 l0 l1 t104 t106 t108 t111 x14_3 x15_3 t119 t121 (!t131))) else (none)) = some r := by first | (rw [hy123]; with_reducible exact H) | (have H2_ := (Option.bind_some _ _).symm.trans H; rw [hy123]; with_reducible exact H2_) | (have H2_ := (Option.bind_some _ _).symm.trans H; with_reducible exact H2_) | with_reducible exact H | (rw [hy123]; exact H) | exact H
                                        have Ny123 := Aside0.mk hy123
                                        clear hy123
                                        have c34b0 := eq_true (of_decide_eq_true (by first | (with_reducible assumption) | assumption) : 0 ≤ x14_3)
                                        have c35b0 := eq_true (of_decide_eq_true (by first | (with_reducible assumption) | assumption) : x14_3 ≤ (wrap64 (x14_3 + x15_3)))
                                        by_cases c36 : (wrap64 (x14_3 + x15_3)) ≤ (l1.length : Int)
                                        · rw [if_pos c36] at H
                                          have c36b0 := eq_true c36
                                          have c36b1 : decide ((wrap64 (x14_3 + x15_3)) ≤ (l1.length : Int)) = true := decide_eq_true c36
                                          obtain ⟨y127, hy127⟩ : ∃ y_ : List (S29), y_ = ((l1.take ((wrap64 (x14_3 + x15_3)) : Int).toNat).drop (x14_3 : Int).toNat) := ⟨_, rfl⟩
                                          replace H : ((calxref08_SameBook.f kj23 y123 y127).bind fun t131 => (calxlaw08_BookCompares.j4 kj23 l0 l1 t104 t106 t108 t111 x14_3 x15_3 t119 t121 (!t131))) = some r := by first | (rw [hy127]; with_reducible exact H) | (have H2_ := (Option.bind_some _ _).symm.trans H; rw [hy127]; with_reducible exact H2_) | (have H2_ := (Option.bind_some _ _).symm.trans H; with_reducible exact H2_) | with_reducible exact H | (rw [hy127]; exact H) | exact H
                                          have Ny127 := Aside0.mk hy127
                                          clear hy127
                                          replace H := Option.bind_eq_some_iff.mp H
                                          obtain ⟨t131, A370, H⟩ := H
                                          replace H : (calxlaw08_BookCompares.j4 kj23 l0 l1 t104 t106 t108 t111 x14_3 x15_3 t119 t121 (!t131)) = some r := H
                                          have A37 := Aside0.mk A370
                                          clear A370
                                          have H' := Aside0.mk H
                                          clear H
                                          have q38 : ((wrap64 (x14_3 + x15_3)) : Int) ≤ ((l0.length : Int) : Int) := of_decide_eq_true (by first | (with_reducible assumption) | assumption)
                                          obtain ⟨i038, hi038, _, hsz38, _⟩ := info_parts info29
                                          have hroom38 : l0.length ≤ c0 := HC0.out
                                          have hC38 : Kd.C k29 _ A0 l0.length l0 := HR0.out
                                          have ql38 : (x14_3 : Int) ≤ ((wrap64 (x14_3 + x15_3)) : Int) := of_decide_eq_true (by first | (with_reducible assumption) | assumption)
                                          have q038 : (0 : Int) ≤ (x14_3 : Int) := of_decide_eq_true (by first | (with_reducible assumption) | assumption)
                                          have hcut38 := cut_mid (P := Try.prog) 32 29 .i64 .i64 Try.underlying32 hi038 4 hsz38 A0 l0.length c0 x14_3 (wrap64 (x14_3 + x15_3)) q038 ql38 q38 hroom38
                                          have hr38 := Kd.C_mid (lo := (x14_3 : Int).toNat) (hi := ((wrap64 (x14_3 + x15_3)) : Int).toNat) (c := c0) hC38 (by omega) (by omega) hroom38
                                          obtain ⟨A38, hA38⟩ : ∃ A1_, A1_ = (if c0 = (x14_3 : Int).toNat then A0 else (A0 : Option Addr).map (·.add ((x14_3 : Int).toNat * 4))) := ⟨_, rfl⟩
                                          obtain ⟨c38, hc38⟩ : ∃ c1_, c1_ = c0 - (x14_3 : Int).toNat := ⟨_, rfl⟩
                                          have hy38 : y123.length = ((wrap64 (x14_3 + x15_3)) : Int).toNat - (x14_3 : Int).toNat := (by rw [Ny123.out, List.length_drop, List.length_take] <;> omega)
                                          rw [show ((l0).take ((wrap64 (x14_3 + x15_3)) : Int).toNat).drop (x14_3 : Int).toNat = y123 from Ny123.out.symm] at hr38
                                          replace hr38 : Kd.C k29 _ A38 y123.length y123 := (by rw [hA38]; exact hr38)
                                          rw [← hy38, ← hA38, ← hc38] at hcut38
                                          have HR126 := Aside0.mk hr38
                                          have HC126 := Aside0.mk (show y123.length ≤ c38 from by rw [hy38, hc38]; exact Nat.sub_le_sub_right (Nat.le_trans (by omega) hroom38) _)
                                          clear hr38 hC38 hroom38 hi038 hsz38 hc38
                                          have KY38 := Aside0.mk hy38
                                          have KA38 := Aside0.mk hA38
                                          clear hy38 hA38
                                          replace q38 := eq_true q38
                                          have q39 : ((wrap64 (x14_3 + x15_3)) : Int) ≤ ((l1.length : Int) : Int) := of_decide_eq_true (by first | (with_reducible assumption) | assumption)
                                          obtain ⟨i039, hi039, _, hsz39, _⟩ := info_parts info29
                                          have hroom39 : l1.length ≤ c1 := HC1.out
                                          have hC39 : Kd.C k29 _ A1 l1.length l1 := HR1.out
                                          have ql39 : (x14_3 : Int) ≤ ((wrap64 (x14_3 + x15_3)) : Int) := of_decide_eq_true (by first | (with_reducible assumption) | assumption)
                                          have q039 : (0 : Int) ≤ (x14_3 : Int) := of_decide_eq_true (by first | (with_reducible assumption) | assumption)
                                          have hcut39 := cut_mid (P := Try.prog) 32 29 .i64 .i64 Try.underlying32 hi039 4 hsz39 A1 l1.length c1 x14_3 (wrap64 (x14_3 + x15_3)) q039 ql39 q39 hroom39
                                          have hr39 := Kd.C_mid (lo := (x14_3 : Int).toNat) (hi := ((wrap64 (x14_3 + x15_3)) : Int).toNat) (c := c1) hC39 (by omega) (by omega) hroom39
                                          obtain ⟨A39, hA39⟩ : ∃ A1_, A1_ = (if c1 = (x14_3 : Int).toNat then A1 else (A1 : Option Addr).map (·.add ((x14_3 : Int).toNat * 4))) := ⟨_, rfl⟩
                                          obtain ⟨c39, hc39⟩ : ∃ c1_, c1_ = c1 - (x14_3 : Int).toNat := ⟨_, rfl⟩
                                          have hy39 : y127.length = ((wrap64 (x14_3 + x15_3)) : Int).toNat - (x14_3 : Int).toNat := (by rw [Ny127.out, List.length_drop, List.length_take] <;> omega)
                                          rw [show ((l1).take ((wrap64 (x14_3 + x15_3)) : Int).toNat).drop (x14_3 : Int).toNat = y127 from Ny127.out.symm] at hr39
                                          replace hr39 : Kd.C k29 _ A39 y127.length y127 := (by rw [hA39]; exact hr39)
                                          rw [← hy39, ← hA39, ← hc39] at hcut39
                                          have HR130 := Aside0.mk hr39
                                          have HC130 := Aside0.mk (show y127.length ≤ c39 from by rw [hy39, hc39]; exact Nat.sub_le_sub_right (Nat.le_trans (by omega) hroom39) _)
                                          clear hr39 hC39 hroom39 hi039 hsz39 hc39
                                          have KY39 := Aside0.mk hy39
                                          have KA39 := Aside0.mk hA39
                                          clear hy39 hA39
                                          replace q39 := eq_true q39
                                          go_wp2_with (first | (go_at_call 29; (with_reducible refine (calxref08_SameBook.calls kj23 _ _ y123 _ _ y127 t131 _ ?side1 ?side2 ?side3 ?side4 A37.out).mono ?_); (case side1 => repeat (first | exact (Kd.C_below HR126.out HB.out) | (with_reducible refine Kd.C_alloc ?_ _) | (with_reducible refine Kd.C_drewN ?_ _) | (with_reducible refine Kd.C_drew ?_))); (case side2 => exact HC126.out); (case side3 => repeat (first | exact (Kd.C_below HR130.out HB.out) | (with_reducible refine Kd.C_alloc ?_ _) | (with_reducible refine Kd.C_drewN ?_ _) | (with_reducible refine Kd.C_drew ?_))); (case side4 => exact HC130.out); rintro e w' ⟨rfl, ⟨nd, rfl⟩⟩; (try first | exact ⟨rfl, _, World.drewN_drewN _ _ _⟩ | exact ⟨rfl, _, Eq.trans (World.drewN_drewN _ _ _) (congrArg (World.drewN _) (Nat.add_assoc _ _ _))⟩)))
                                          repeat (go_quiet (first | (go_at_call 29; (with_reducible refine (calxref08_SameBook.calls kj23 _ _ y123 _ _ y127 t131 _ ?side1 ?side2 ?side3 ?side4 A37.out).mono ?_); (case side1 => repeat (first | exact (Kd.C_below HR126.out HB.out) | (with_reducible refine Kd.C_alloc ?_ _) | (with_reducible refine Kd.C_drewN ?_ _) | (with_reducible refine Kd.C_drew ?_))); (case side2 => exact HC126.out); (case side3 => repeat (first | exact (Kd.C_below HR130.out HB.out) | (with_reducible refine Kd.C_alloc ?_ _) | (with_reducible refine Kd.C_drewN ?_ _) | (with_reducible refine Kd.C_drew ?_))); (case side4 => exact HC130.out); rintro e w' ⟨rfl, ⟨nd, rfl⟩⟩; (try first | exact ⟨rfl, _, World.drewN_drewN _ _ _⟩ | exact ⟨rfl, _, Eq.trans (World.drewN_drewN _ _ _) (congrArg (World.drewN _) (Nat.add_assoc _ _ _))⟩))); try go_wp2_with (first | (go_at_call 29; (with_reducible refine (calxref08_SameBook.calls kj23 _ _ y123 _ _ y127 t131 _ ?side1 ?side2 ?side3 ?side4 A37.out).mono ?_); (case side1 => repeat (first | exact (Kd.C_below HR126.out HB.out) | (with_reducible refine Kd.C_alloc ?_ _) | (with_reducible refine Kd.C_drewN ?_ _) | (with_reducible refine Kd.C_drew ?_))); (case side2 => exact HC126.out); (case side3 => repeat (first | exact (Kd.C_below HR130.out HB.out) | (with_reducible refine Kd.C_alloc ?_ _) | (with_reducible refine Kd.C_drewN ?_ _) | (with_reducible refine Kd.C_drew ?_))); (case side4 => exact HC130.out); rintro e w' ⟨rfl, ⟨nd, rfl⟩⟩; (try first | exact ⟨rfl, _, World.drewN_drewN _ _ _⟩ | exact ⟨rfl, _, Eq.trans (World.drewN_drewN _ _ _) (congrArg (World.drewN _) (Nat.add_assoc _ _ _))⟩))))
                                          go_meet
                                          case rel => exact ⟨_, (!t131), (by first | rfl | (simp; done) | (simp [*]; done)), H', ⟨by have := HJ2.out; have := HJ15.out; have := HK3.out; have := HJ23.out; first | omega | exact Nat.le_refl _⟩, ⟨by repeat (first | (with_reducible first | exact HB.out | apply below_alloc | apply pw_below_drewN | apply below_drew1) | exact HB.out)⟩⟩
                                        · rw [if_neg c36] at H
                                          exact absurd H (by simp)
                                      · rw [if_neg c33] at H
                                        exact absurd H (by simp)
                                    · rw [if_neg c32] at H
                                      exact absurd H (by simp)
                                  · rw [if_neg c31] at H
                                    exact absurd H (by simp)
                                · rw [if_neg c30] at H
                                  have c30b0 : (t119 == t121) = false := beq_eq_false_iff_ne.mpr c30
                                  have c30b1 : (t119 != t121) = true := bne_iff_ne.mpr c30
                                  (first | rw [c30b0] | (simp only [i64_w, i32_w]; rw [c30b0]) | skip)
                                  have H' := Aside0.mk H
                                  clear H
                                  go_wp2
                                  repeat (go_quiet (fail); try go_wp2)
                                  go_meet
                                  case rel => exact ⟨_, (false), (by first | rfl | (simp; done) | (simp [*]; done)), H', ⟨by have := HJ2.out; have := HJ15.out; have := HK3.out; have := HJ23.out; first | omega | exact Nat.le_refl _⟩, ⟨by repeat (first | (with_reducible first | exact HB.out | apply below_alloc | apply pw_below_drewN | apply below_drew1) | exact HB.out)⟩⟩
                              case rest =>
                                clear HC29
                                try clear c1
                                try clear c2
                                try clear p2
                                try clear c3
                                try clear q3
                                try clear c5
                                try clear p6
                                try clear c7
                                try clear c8
                                try clear c8b0
                                try clear c8b1
                                try clear c8b2
                                try clear c9
                                try clear c14
                                try clear c14b0
                                try clear c14b1
                                try clear c15
                                try clear c15b0
                                try clear c15b1
                                try clear c19
                                try clear c19b0
                                try clear c20
                                try clear c21
                                try clear c21b0
                                try clear c27
                                try clear c27b0
                                try clear c27b1
                                try clear c28
                                try clear c30
                                try clear c30b0
                                try clear c30b1
                                try clear c31
                                try clear c31b0
                                try clear c31b1
                                try clear c32
                                try clear c32b0
                                try clear c32b1
                                try clear c33
                                try clear c33b0
                                try clear c33b1
                                try clear c34
                                try clear c34b0
                                try clear c35
                                try clear c35b0
                                try clear c36
                                try clear c36b0
                                try clear c36b1
                                try clear c38
                                try clear q38
                                try clear c39
                                try clear q39
                                try clear p2
                                try clear q038
                                try clear q039
                                try clear q38
                                try clear q39
                                obtain ⟨kq, x117_28, rfl, HA, HJ28, HB⟩ := hcut
                                cases kq with
                                | zero => exact absurd HA.out (by simp [calxlaw08_BookCompares.j4])
                                | succ kj28 =>
                                  have H := HA.out
                                  clear HA
                                  simp only [calxlaw08_BookCompares.j4] at H
                                  by_cases c40 : x117_28 = true
                                  · subst c40
                                    have H1 : ((calxlaw08_sanity.f).bind fun t132 => (some t132)) = some r := by rw [if_pos rfl] at H; exact H
                                    clear H
                                    have H := H1
                                    clear H1
                                    replace H := Option.bind_eq_some_iff.mp H
                                    obtain ⟨t132, A410, H⟩ := H
                                    replace H : (some t132) = some r := H
                                    have A41 := Aside0.mk A410
                                    clear A410
                                    obtain rfl := Option.some.inj H
                                    go_wp2_with (first | (go_at_call 22; (with_reducible refine (calxlaw08_sanity.calls  t132 _ A41.out).mono ?_); rintro e w42 ⟨rfl, hb⟩; have n0_ := Aside0.mk (below_step (by repeat (first | (with_reducible first | exact HB.out | apply below_alloc | apply pw_below_drewN | apply below_drew1) | exact HB.out)) hb); clear HB; have HB := n0_; clear n0_; (try clear hb); (try clear hb2); (try clear hk); (try clear hi)))
                                    repeat (go_quiet (first | (go_at_call 22; (with_reducible refine (calxlaw08_sanity.calls  t132 _ A41.out).mono ?_); rintro e w42 ⟨rfl, hb⟩; have n0_ := Aside0.mk (below_step (by repeat (first | (with_reducible first | exact HB.out | apply below_alloc | apply pw_below_drewN | apply below_drew1) | exact HB.out)) hb); clear HB; have HB := n0_; clear n0_; (try clear hb); (try clear hb2); (try clear hk); (try clear hi))); try go_wp2_with (first | (go_at_call 22; (with_reducible refine (calxlaw08_sanity.calls  t132 _ A41.out).mono ?_); rintro e w42 ⟨rfl, hb⟩; have n0_ := Aside0.mk (below_step (by repeat (first | (with_reducible first | exact HB.out | apply below_alloc | apply pw_below_drewN | apply below_drew1) | exact HB.out)) hb); clear HB; have HB := n0_; clear n0_; (try clear hb); (try clear hb2); (try clear hk); (try clear hi))))
                                    go_ret
                                    exact ⟨by first | rfl | (simp [errW_none, errW_some] <;> rfl) | (simp [*, errW_none, errW_some] <;> rfl), by repeat (first | (with_reducible first | exact HB.out | apply below_alloc | apply pw_below_drewN | apply below_drew1) | exact HB.out)⟩
                                  · replace c40 := Bool.eq_false_iff.mpr c40
                                    subst c40
                                    have H1 : (if x15_3 = 1 then (calxlaw08_BookCompares.j5 kj28 l0 l1 t104 t106 t108 t111 x14_3 x15_3 true) else (calxlaw08_BookCompares.j5 kj28 l0 l1 t104 t106 t108 t111 x14_3 x15_3 (t119 == t121))) = some r := by rw [if_neg (show ¬ (false = true) by decide)] at H; exact H
                                    clear H
                                    have H := H1
                                    clear H1
                                    have HC43 := Aside0.mk H
                                    clear H
                                    go_upto_region 20 with (fail)
                                    repeat (go_quiet (fail); go_upto_region 20 with (fail))
                                    go_cut [125] (fun v125 wc => ∃ (kq : Nat) (x125_42 : Bool), v125 = .bool x125_42 ∧ Aside0 (calxlaw08_BookCompares.j5 kq l0 l1 t104 t106 t108 t111 x14_3 x15_3 x125_42 = some r) ∧ Aside0 (kq ≤ kj28) ∧ Aside0 (Below w.heap.size w wc))
                                    case first =>
                                      have H := HC43.out
                                      clear HC43
                                      by_cases c44 : x15_3 = 1
                                      · rw [if_pos c44] at H
                                        have c44b0 : (x15_3 == 1) = true := beq_iff_eq.mpr c44
                                        have c44b1 : (x15_3 != 1) = false := bne_eq_false_iff_eq.mpr c44
                                        clear c44
                                        (first | rw [c44b0] | (simp only [i64_w, i32_w]; rw [c44b0]) | skip)
                                        have H' := Aside0.mk H
                                        clear H
                                        go_wp2
                                        repeat (go_quiet (fail); try go_wp2)
                                        go_meet
                                        case rel => exact ⟨_, (true), (by first | rfl | (simp; done) | (simp [*]; done)), H', ⟨by have := HJ2.out; have := HJ15.out; have := HK3.out; have := HJ23.out; have := HJ28.out; first | omega | exact Nat.le_refl _⟩, ⟨by repeat (first | (with_reducible first | exact HB.out | apply below_alloc | apply pw_below_drewN | apply below_drew1) | exact HB.out)⟩⟩
                                      · rw [if_neg c44] at H
                                        have c44b0 : (x15_3 == 1) = false := beq_eq_false_iff_ne.mpr c44
                                        have c44b1 : (x15_3 != 1) = true := bne_iff_ne.mpr c44
                                        (first | rw [c44b0] | (simp only [i64_w, i32_w]; rw [c44b0]) | skip)
                                        have H' := Aside0.mk H
                                        clear H
                                        go_wp2
                                        repeat (go_quiet (fail); try go_wp2)
                                        go_meet
                                        case rel => exact ⟨_, ((t119 == t121)), (by first | rfl | (simp; done) | (simp [*]; done)), H', ⟨by have := HJ2.out; have := HJ15.out; have := HK3.out; have := HJ23.out; have := HJ28.out; first | omega | exact Nat.le_refl _⟩, ⟨by repeat (first | (with_reducible first | exact HB.out | apply below_alloc | apply pw_below_drewN | apply below_drew1) | exact HB.out)⟩⟩
                                    case rest =>
                                      clear HC43
                                      try clear c1
                                      try clear c2
                                      try clear p2
                                      try clear c3
                                      try clear q3
                                      try clear c4
                                      try clear c5
                                      try clear p6
                                      try clear c7
                                      try clear c8
                                      try clear c8b0
                                      try clear c8b1
                                      try clear c8b2
                                      try clear c9
                                      try clear c14
                                      try clear c14b0
                                      try clear c14b1
                                      try clear c15
                                      try clear c15b0
                                      try clear c15b1
                                      try clear c19
                                      try clear c19b0
                                      try clear c20
                                      try clear c21
                                      try clear c21b0
                                      try clear c27
                                      try clear c27b0
                                      try clear c27b1
                                      try clear c28
                                      try clear c30
                                      try clear c30b0
                                      try clear c30b1
                                      try clear c31
                                      try clear c31b0
                                      try clear c31b1
                                      try clear c32
                                      try clear c32b0
                                      try clear c32b1
                                      try clear c33
                                      try clear c33b0
                                      try clear c33b1
                                      try clear c34
                                      try clear c34b0
                                      try clear c35
                                      try clear c35b0
                                      try clear c36
                                      try clear c36b0
                                      try clear c36b1
                                      try clear c38
                                      try clear q38
                                      try clear c39
                                      try clear q39
                                      try clear c40
                                      try clear c44
                                      try clear c44b0
                                      try clear c44b1
                                      try clear p2
                                      try clear p6
                                      try clear q038
                                      try clear q039
                                      try clear q3
                                      try clear q38
                                      try clear q39
                                      obtain ⟨kq, x125_42, rfl, HA, HJ42, HB⟩ := hcut
                                      cases kq with
                                      | zero => exact absurd HA.out (by simp [calxlaw08_BookCompares.j5])
                                      | succ kj42 =>
                                        have H := HA.out
                                        clear HA
                                        simp only [calxlaw08_BookCompares.j5] at H
                                        by_cases c45 : x125_42 = true
                                        · subst c45
                                          have H1 : ((calxlaw08_sanity.f).bind fun t133 => (if t133 = true then (if (t106 == t111) = true then (some (t104 == t108)) else (some false)) else (some false))) = some r := by rw [if_pos rfl] at H; exact H
                                          clear H
                                          have H := H1
                                          clear H1
                                          replace H := Option.bind_eq_some_iff.mp H
                                          obtain ⟨t133, A460, H⟩ := H
                                          replace H : (if t133 = true then (if (t106 == t111) = true then (some (t104 == t108)) else (some false)) else (some false)) = some r := H
                                          have A46 := Aside0.mk A460
                                          clear A460
                                          by_cases c47 : t133 = true
                                          · subst c47
                                            have H1 : (if (t106 == t111) = true then (some (t104 == t108)) else (some false)) = some r := by rw [if_pos rfl] at H; exact H
                                            clear H
                                            have H := H1
                                            clear H1
                                            by_cases c48 : (t106 == t111) = true
                                            · rw [if_pos c48] at H
                                              have c48b0 : (t106 == t111) = true := c48
                                              (try (have c48b1 : decide (t106 = t111) = true := by simpa using c48))
                                              (try (have c48b2 : (t106 == t111) = true := by simpa using c48))
                                              clear c48
                                              obtain rfl := Option.some.inj H
                                              go_wp2_with (first | (go_at_call 22; (with_reducible refine (calxlaw08_sanity.calls  true _ A46.out).mono ?_); rintro e w49 ⟨rfl, hb⟩; have n0_ := Aside0.mk (below_step (by repeat (first | (with_reducible first | exact HB.out | apply below_alloc | apply pw_below_drewN | apply below_drew1) | exact HB.out)) hb); clear HB; have HB := n0_; clear n0_; (try clear hb); (try clear hb2); (try clear hk); (try clear hi)))
                                              repeat (go_quiet (first | (go_at_call 22; (with_reducible refine (calxlaw08_sanity.calls  true _ A46.out).mono ?_); rintro e w49 ⟨rfl, hb⟩; have n0_ := Aside0.mk (below_step (by repeat (first | (with_reducible first | exact HB.out | apply below_alloc | apply pw_below_drewN | apply below_drew1) | exact HB.out)) hb); clear HB; have HB := n0_; clear n0_; (try clear hb); (try clear hb2); (try clear hk); (try clear hi))); try go_wp2_with (first | (go_at_call 22; (with_reducible refine (calxlaw08_sanity.calls  true _ A46.out).mono ?_); rintro e w49 ⟨rfl, hb⟩; have n0_ := Aside0.mk (below_step (by repeat (first | (with_reducible first | exact HB.out | apply below_alloc | apply pw_below_drewN | apply below_drew1) | exact HB.out)) hb); clear HB; have HB := n0_; clear n0_; (try clear hb); (try clear hb2); (try clear hk); (try clear hi))))
                                              go_ret
                                              exact ⟨by first | rfl | (simp [errW_none, errW_some] <;> rfl) | (simp [*, errW_none, errW_some] <;> rfl), by repeat (first | (with_reducible first | exact HB.out | apply below_alloc | apply pw_below_drewN | apply below_drew1) | exact HB.out)⟩
                                            · rw [if_neg c48] at H
                                              have c48b0 : (t106 == t111) = false := by simpa using c48
                                              (try (have c48b1 : decide (t106 = t111) = false := by simpa using c48))
                                              (try (have c48b2 : (t106 == t111) = false := by simpa using c48))
                                              (try (have c48b3 : ¬ (t106 = t111) := by simpa using c48))
                                              clear c48
                                              obtain rfl := Option.some.inj H
                                              go_wp2_with (first | (go_at_call 22; (with_reducible refine (calxlaw08_sanity.calls  true _ A46.out).mono ?_); rintro e w50 ⟨rfl, hb⟩; have n0_ := Aside0.mk (below_step (by repeat (first | (with_reducible first | exact HB.out | apply below_alloc | apply pw_below_drewN | apply below_drew1) | exact HB.out)) hb); clear HB; have HB := n0_; clear n0_; (try clear hb); (try clear hb2); (try clear hk); (try clear hi)))
                                              repeat (go_quiet (first | (go_at_call 22; (with_reducible refine (calxlaw08_sanity.calls  true _ A46.out).mono ?_); rintro e w50 ⟨rfl, hb⟩; have n0_ := Aside0.mk (below_step (by repeat (first | (with_reducible first | exact HB.out | apply below_alloc | apply pw_below_drewN | apply below_drew1) | exact HB.out)) hb); clear HB; have HB := n0_; clear n0_; (try clear hb); (try clear hb2); (try clear hk); (try clear hi))); try go_wp2_with (first | (go_at_call 22; (with_reducible refine (calxlaw08_sanity.calls  true _ A46.out).mono ?_); rintro e w50 ⟨rfl, hb⟩; have n0_ := Aside0.mk (below_step (by repeat (first | (with_reducible first | exact HB.out | apply below_alloc | apply pw_below_drewN | apply below_drew1) | exact HB.out)) hb); clear HB; have HB := n0_; clear n0_; (try clear hb); (try clear hb2); (try clear hk); (try clear hi))))
                                              go_ret
                                              exact ⟨by first | rfl | (simp [errW_none, errW_some] <;> rfl) | (simp [*, errW_none, errW_some] <;> rfl), by repeat (first | (with_reducible first | exact HB.out | apply below_alloc | apply pw_below_drewN | apply below_drew1) | exact HB.out)⟩
                                          · replace c47 := Bool.eq_false_iff.mpr c47
                                            subst c47
                                            have H1 : (some false) = some r := by rw [if_neg (show ¬ (false = true) by decide)] at H; exact H
                                            clear H
                                            have H := H1
                                            clear H1
                                            obtain rfl := Option.some.inj H
                                            go_wp2_with (first | (go_at_call 22; (with_reducible refine (calxlaw08_sanity.calls  false _ A46.out).mono ?_); rintro e w51 ⟨rfl, hb⟩; have n0_ := Aside0.mk (below_step (by repeat (first | (with_reducible first | exact HB.out | apply below_alloc | apply pw_below_drewN | apply below_drew1) | exact HB.out)) hb); clear HB; have HB := n0_; clear n0_; (try clear hb); (try clear hb2); (try clear hk); (try clear hi)))
                                            repeat (go_quiet (first | (go_at_call 22; (with_reducible refine (calxlaw08_sanity.calls  false _ A46.out).mono ?_); rintro e w51 ⟨rfl, hb⟩; have n0_ := Aside0.mk (below_step (by repeat (first | (with_reducible first | exact HB.out | apply below_alloc | apply pw_below_drewN | apply below_drew1) | exact HB.out)) hb); clear HB; have HB := n0_; clear n0_; (try clear hb); (try clear hb2); (try clear hk); (try clear hi))); try go_wp2_with (first | (go_at_call 22; (with_reducible refine (calxlaw08_sanity.calls  false _ A46.out).mono ?_); rintro e w51 ⟨rfl, hb⟩; have n0_ := Aside0.mk (below_step (by repeat (first | (with_reducible first | exact HB.out | apply below_alloc | apply pw_below_drewN | apply below_drew1) | exact HB.out)) hb); clear HB; have HB := n0_; clear n0_; (try clear hb); (try clear hb2); (try clear hk); (try clear hi))))
                                            go_ret
                                            exact ⟨by first | rfl | (simp [errW_none, errW_some] <;> rfl) | (simp [*, errW_none, errW_some] <;> rfl), by repeat (first | (with_reducible first | exact HB.out | apply below_alloc | apply pw_below_drewN | apply below_drew1) | exact HB.out)⟩
                                        · replace c45 := Bool.eq_false_iff.mpr c45
                                          subst c45
                                          have H1 : (calxlaw08_BookCompares.l1 kj42 l0 l1 t104 t106 t108 t111 x14_3 x15_3 1) = some r := by rw [if_neg (show ¬ (false = true) by decide)] at H; exact H
                                          clear H
                                          have H := H1
                                          clear H1
                                          have H' := Aside0.mk H
                                          clear H
                                          go_wp2
                                          repeat (go_quiet (fail); try go_wp2)
                                          go_loopg [20] kj42 (fun kq v20 w' => ∃ (x20_7 : Int), v20 = .int .i64 x20_7 ∧ Aside0 (calxlaw08_BookCompares.l1 kq l0 l1 t104 t106 t108 t111 x14_3 x15_3 x20_7 = some r) ∧ Aside0 (kq ≤ kj42) ∧ Aside0 (Below w.heap.size w w'))
                                          case atStart => exact ⟨(1), (by first | rfl | (simp; done) | (simp [*]; done)), H', ⟨Nat.le_refl _⟩, ⟨by repeat (first | (with_reducible first | exact HB.out | apply below_alloc | apply pw_below_drewN | apply below_drew1) | exact HB.out)⟩⟩
                                          case round =>
                                            clear H'
                                            try clear c1
                                            try clear c2
                                            try clear p2
                                            try clear c3
                                            try clear q3
                                            try clear c4
                                            try clear c5
                                            try clear p6
                                            try clear c7
                                            try clear c8
                                            try clear c8b0
                                            try clear c8b1
                                            try clear c8b2
                                            try clear c9
                                            try clear c14
                                            try clear c14b0
                                            try clear c14b1
                                            try clear c15
                                            try clear c15b0
                                            try clear c15b1
                                            try clear c19
                                            try clear c19b0
                                            try clear c20
                                            try clear c21
                                            try clear c21b0
                                            try clear c27
                                            try clear c27b0
                                            try clear c27b1
                                            try clear c28
                                            try clear c30
                                            try clear c30b0
                                            try clear c30b1
                                            try clear c31
                                            try clear c31b0
                                            try clear c31b1
                                            try clear c32
                                            try clear c32b0
                                            try clear c32b1
                                            try clear c33
                                            try clear c33b0
                                            try clear c33b1
                                            try clear c34
                                            try clear c34b0
                                            try clear c35
                                            try clear c35b0
                                            try clear c36
                                            try clear c36b0
                                            try clear c36b1
                                            try clear c38
                                            try clear q38
                                            try clear c39
                                            try clear q39
                                            try clear c40
                                            try clear c44
                                            try clear c44b0
                                            try clear c44b1
                                            try clear c45
                                            try clear c47
                                            try clear c48
                                            try clear c48b0
                                            try clear c48b1
                                            try clear c48b2
                                            try clear p2
                                            try clear p6
                                            try clear q038
                                            try clear q039
                                            try clear q3
                                            try clear q38
                                            try clear q39
                                            obtain ⟨x20_7, rfl, HA, HK7, HB⟩ := hrel
                                            cases gk with
                                            | zero => exact absurd HA.out (by simp [calxlaw08_BookCompares.l1])
                                            | succ k7 =>
                                              have H := HA.out
                                              clear HA
                                              simp only [calxlaw08_BookCompares.l1] at H
                                              by_cases c52 : (wrap64 (2 * x20_7)) < x15_3
                                              · rw [if_pos c52] at H
                                                have c52b0 : decide ((wrap64 (2 * x20_7)) < x15_3) = true := decide_eq_true c52
                                                clear c52
                                                have H' := Aside0.mk H
                                                clear H
                                                go_wp2
                                                repeat (go_quiet (fail); try go_wp2)
                                                go_roundg k7
                                                case measure => have := HJ2.out; have := HJ15.out; have := HK3.out; have := HJ23.out; have := HJ28.out; have := HJ42.out; have := HK7.out; omega
                                                case rel => exact ⟨(wrap64 (2 * x20_7)), (by first | rfl | (simp; done) | (simp [*]; done)), H', ⟨by have := HJ2.out; have := HJ15.out; have := HK3.out; have := HJ23.out; have := HJ28.out; have := HJ42.out; have := HK7.out; omega⟩, ⟨by repeat (first | (with_reducible first | exact HB.out | apply below_alloc | apply pw_below_drewN | apply below_drew1) | exact HB.out)⟩⟩
                                              · rw [if_neg c52] at H
                                                have c52b0 : decide ((wrap64 (2 * x20_7)) < x15_3) = false := decide_eq_false c52
                                                clear c52
                                                replace H := Option.bind_eq_some_iff.mp H
                                                obtain ⟨⟨t134, t135⟩, A530, H⟩ := H
                                                replace H : ((book_Part.f l1 x14_3 x20_7).bind fun bt136 => (if t135 = 0 then (calxlaw08_BookCompares.j7 k7 l0 l1 t104 t106 t108 t111 x14_3 x15_3 x20_7 t134 bt136.1 (bt136.2 != 0)) else (calxlaw08_BookCompares.j7 k7 l0 l1 t104 t106 t108 t111 x14_3 x15_3 x20_7 t134 bt136.1 true))) = some r := H
                                                have A53 := Aside0.mk A530
                                                clear A530
                                                replace H := Option.bind_eq_some_iff.mp H
                                                obtain ⟨⟨t136, t137⟩, A540, H⟩ := H
                                                replace H : (if t135 = 0 then (calxlaw08_BookCompares.j7 k7 l0 l1 t104 t106 t108 t111 x14_3 x15_3 x20_7 t134 t136 (t137 != 0)) else (calxlaw08_BookCompares.j7 k7 l0 l1 t104 t106 t108 t111 x14_3 x15_3 x20_7 t134 t136 true)) = some r := H
                                                have A54 := Aside0.mk A540
                                                clear A540
                                                have HC55 := Aside0.mk H
                                                clear H
                                                go_upto_region 26 with (first | (go_at_call 33; (with_reducible refine (book_Part.calls _ _ l0 x14_3 x20_7 t134 t135 _ ?side1 ?side2 A53.out).mono ?_); (case side1 => repeat (first | exact (Kd.C_below HR0.out HB.out) | (with_reducible refine Kd.C_alloc ?_ _) | (with_reducible refine Kd.C_drewN ?_ _) | (with_reducible refine Kd.C_drew ?_))); (case side2 => exact HC0.out); rintro e w56 ⟨rfl, hb⟩; have n0_ := Aside0.mk (below_step (by repeat (first | (with_reducible first | exact HB.out | apply below_alloc | apply pw_below_drewN | apply below_drew1) | exact HB.out)) hb); clear HB; have HB := n0_; clear n0_; (try clear hb); (try clear hb2); (try clear hk); (try clear hi)) | (go_at_call 33; (with_reducible refine (book_Part.calls _ _ l1 x14_3 x20_7 t136 t137 _ ?side1 ?side2 A54.out).mono ?_); (case side1 => repeat (first | exact (Kd.C_below HR1.out HB.out) | (with_reducible refine Kd.C_alloc ?_ _) | (with_reducible refine Kd.C_drewN ?_ _) | (with_reducible refine Kd.C_drew ?_))); (case side2 => exact HC1.out); rintro e w57 ⟨rfl, hb⟩; have n0_ := Aside0.mk (below_step (by repeat (first | (with_reducible first | exact HB.out | apply below_alloc | apply pw_below_drewN | apply below_drew1) | exact HB.out)) hb); clear HB; have HB := n0_; clear n0_; (try clear hb); (try clear hb2); (try clear hk); (try clear hi)))
                                                repeat (go_quiet (first | (go_at_call 33; (with_reducible refine (book_Part.calls _ _ l0 x14_3 x20_7 t134 t135 _ ?side1 ?side2 A53.out).mono ?_); (case side1 => repeat (first | exact (Kd.C_below HR0.out HB.out) | (with_reducible refine Kd.C_alloc ?_ _) | (with_reducible refine Kd.C_drewN ?_ _) | (with_reducible refine Kd.C_drew ?_))); (case side2 => exact HC0.out); rintro e w56 ⟨rfl, hb⟩; have n0_ := Aside0.mk (below_step (by repeat (first | (with_reducible first | exact HB.out | apply below_alloc | apply pw_below_drewN | apply below_drew1) | exact HB.out)) hb); clear HB; have HB := n0_; clear n0_; (try clear hb); (try clear hb2); (try clear hk); (try clear hi)) | (go_at_call 33; (with_reducible refine (book_Part.calls _ _ l1 x14_3 x20_7 t136 t137 _ ?side1 ?side2 A54.out).mono ?_); (case side1 => repeat (first | exact (Kd.C_below HR1.out HB.out) | (with_reducible refine Kd.C_alloc ?_ _) | (with_reducible refine Kd.C_drewN ?_ _) | (with_reducible refine Kd.C_drew ?_))); (case side2 => exact HC1.out); rintro e w57 ⟨rfl, hb⟩; have n0_ := Aside0.mk (below_step (by repeat (first | (with_reducible first | exact HB.out | apply below_alloc | apply pw_below_drewN | apply below_drew1) | exact HB.out)) hb); clear HB; have HB := n0_; clear n0_; (try clear hb); (try clear hb2); (try clear hk); (try clear hi))); go_upto_region 26 with (first | (go_at_call 33; (with_reducible refine (book_Part.calls _ _ l0 x14_3 x20_7 t134 t135 _ ?side1 ?side2 A53.out).mono ?_); (case side1 => repeat (first | exact (Kd.C_below HR0.out HB.out) | (with_reducible refine Kd.C_alloc ?_ _) | (with_reducible refine Kd.C_drewN ?_ _) | (with_reducible refine Kd.C_drew ?_))); (case side2 => exact HC0.out); rintro e w56 ⟨rfl, hb⟩; have n0_ := Aside0.mk (below_step (by repeat (first | (with_reducible first | exact HB.out | apply below_alloc | apply pw_below_drewN | apply below_drew1) | exact HB.out)) hb); clear HB; have HB := n0_; clear n0_; (try clear hb); (try clear hb2); (try clear hk); (try clear hi)) | (go_at_call 33; (with_reducible refine (book_Part.calls _ _ l1 x14_3 x20_7 t136 t137 _ ?side1 ?side2 A54.out).mono ?_); (case side1 => repeat (first | exact (Kd.C_below HR1.out HB.out) | (with_reducible refine Kd.C_alloc ?_ _) | (with_reducible refine Kd.C_drewN ?_ _) | (with_reducible refine Kd.C_drew ?_))); (case side2 => exact HC1.out); rintro e w57 ⟨rfl, hb⟩; have n0_ := Aside0.mk (below_step (by repeat (first | (with_reducible first | exact HB.out | apply below_alloc | apply pw_below_drewN | apply below_drew1) | exact HB.out)) hb); clear HB; have HB := n0_; clear n0_; (try clear hb); (try clear hb2); (try clear hk); (try clear hi))))
                                                (try simp only [Act.put, List.setIfInBounds_toArray, List.set_cons_zero, List.set_cons_succ])
                                                go_cut [151] (fun v151 wc => ∃ (kq : Nat) (x151_54 : Bool), v151 = .bool x151_54 ∧ Aside0 (calxlaw08_BookCompares.j7 kq l0 l1 t104 t106 t108 t111 x14_3 x15_3 x20_7 t134 t136 x151_54 = some r) ∧ Aside0 (kq ≤ k7) ∧ Aside0 (Below w.heap.size w wc))
                                                case first =>
                                                  have H := HC55.out
                                                  clear HC55
                                                  by_cases c58 : t135 = 0
                                                  · rw [if_pos c58] at H
                                                    have c58b0 : (t135 == 0) = true := beq_iff_eq.mpr c58
                                                    have c58b1 : (t135 != 0) = false := bne_eq_false_iff_eq.mpr c58
                                                    clear c58
                                                    (first | rw [c58b0] | (simp only [i64_w, i32_w]; rw [c58b0]) | skip)
                                                    have H' := Aside0.mk H
                                                    clear H
                                                    go_wp2
                                                    repeat (go_quiet (fail); try go_wp2)
                                                    go_meet
                                                    case rel => exact ⟨_, ((t137 != 0)), (by first | rfl | (simp; done) | (simp [*]; done)), H', ⟨by have := HJ2.out; have := HJ15.out; have := HK3.out; have := HJ23.out; have := HJ28.out; have := HJ42.out; have := HK7.out; first | omega | exact Nat.le_refl _⟩, ⟨by repeat (first | (with_reducible first | exact HB.out | apply below_alloc | apply pw_below_drewN | apply below_drew1) | exact HB.out)⟩⟩
                                                  · rw [if_neg c58] at H
                                                    have c58b0 : (t135 == 0) = false := beq_eq_false_iff_ne.mpr c58
                                                    have c58b1 : (t135 != 0) = true := bne_iff_ne.mpr c58
                                                    (first | rw [c58b0] | (simp only [i64_w, i32_w]; rw [c58b0]) | skip)
                                                    have H' := Aside0.mk H
                                                    clear H
                                                    go_wp2
                                                    repeat (go_quiet (fail); try go_wp2)
                                                    go_meet
                                                    case rel => exact ⟨_, (true), (by first | rfl | (simp; done) | (simp [*]; done)), H', ⟨by have := HJ2.out; have := HJ15.out; have := HK3.out; have := HJ23.out; have := HJ28.out; have := HJ42.out; have := HK7.out; first | omega | exact Nat.le_refl _⟩, ⟨by repeat (first | (with_reducible first | exact HB.out | apply below_alloc | apply pw_below_drewN | apply below_drew1) | exact HB.out)⟩⟩
                                                case rest =>
                                                  clear HC55
                                                  try clear c1
                                                  try clear c2
                                                  try clear p2
                                                  try clear c3
                                                  try clear q3
                                                  try clear c4
                                                  try clear c5
                                                  try clear p6
                                                  try clear c7
                                                  try clear c8
                                                  try clear c8b0
                                                  try clear c8b1
                                                  try clear c8b2
                                                  try clear c9
                                                  try clear c14
                                                  try clear c14b0
                                                  try clear c14b1
                                                  try clear c15
                                                  try clear c15b0
                                                  try clear c15b1
                                                  try clear c19
                                                  try clear c19b0
                                                  try clear c20
                                                  try clear c21
                                                  try clear c21b0
                                                  try clear c27
                                                  try clear c27b0
                                                  try clear c27b1
                                                  try clear c28
                                                  try clear c30
                                                  try clear c30b0
                                                  try clear c30b1
                                                  try clear c31
                                                  try clear c31b0
                                                  try clear c31b1
                                                  try clear c32
                                                  try clear c32b0
                                                  try clear c32b1
                                                  try clear c33
                                                  try clear c33b0
                                                  try clear c33b1
                                                  try clear c34
                                                  try clear c34b0
                                                  try clear c35
                                                  try clear c35b0
                                                  try clear c36
                                                  try clear c36b0
                                                  try clear c36b1
                                                  try clear c38
                                                  try clear q38
                                                  try clear c39
                                                  try clear q39
                                                  try clear c40
                                                  try clear c44
                                                  try clear c44b0
                                                  try clear c44b1
                                                  try clear c45
                                                  try clear c47
                                                  try clear c48
                                                  try clear c48b0
                                                  try clear c48b1
                                                  try clear c48b2
                                                  try clear c52
                                                  try clear c52b0
                                                  try clear c58
                                                  try clear c58b0
                                                  try clear c58b1
                                                  try clear p2
                                                  try clear p6
                                                  try clear q038
                                                  try clear q039
                                                  try clear q3
                                                  try clear q38
                                                  try clear q39
                                                  obtain ⟨kq, x151_54, rfl, HA, HJ54, HB⟩ := hcut
                                                  cases kq with
                                                  | zero => exact absurd HA.out (by simp [calxlaw08_BookCompares.j7])
                                                  | succ kj54 =>
                                                    have H := HA.out
                                                    clear HA
                                                    simp only [calxlaw08_BookCompares.j7] at H
                                                    by_cases c59 : x151_54 = true
                                                    · subst c59
                                                      have H1 : (some false) = some r := by rw [if_pos rfl] at H; exact H
                                                      clear H
                                                      have H := H1
                                                      clear H1
                                                      obtain rfl := Option.some.inj H
                                                      go_wp2
                                                      repeat (go_quiet (fail); try go_wp2)
                                                      go_ret
                                                      exact ⟨by first | rfl | (simp [errW_none, errW_some] <;> rfl) | (simp [*, errW_none, errW_some] <;> rfl), by repeat (first | (with_reducible first | exact HB.out | apply below_alloc | apply pw_below_drewN | apply below_drew1) | exact HB.out)⟩
                                                    · replace c59 := Bool.eq_false_iff.mpr c59
                                                      subst c59
                                                      have H1 : (if t134 = t136 then (if 0 ≤ x14_3 then (if x14_3 ≤ (wrap64 (x14_3 + x20_7)) then (if (wrap64 (x14_3 + x20_7)) ≤ (l0.length : Int) then (if (wrap64 (x14_3 + x20_7)) ≤ (l1.length : Int) then ((calxref08_SameBook.f kj54 ((l0.take ((wrap64 (x14_3 + x20_7)) : Int).toNat).drop (x14_3 : Int).toNat) ((l1.take ((wrap64 (x14_3 + x20_7)) : Int).toNat).drop (x14_3 : Int).toNat)).bind fun t146 => (calxlaw08_BookCompares.j8 kj54 l0 l1 t104 t106 t108 t111 x14_3 x15_3 x20_7 t134 t136 (!t146))) else (none)) else (none)) else (none)) else (none)) else (calxlaw08_BookCompares.j8 kj54 l0 l1 t104 t106 t108 t111 x14_3 x15_3 x20_7 t134 t136 false)) = some r := by rw [if_neg (show ¬ (false = true) by decide)] at H; exact H
                                                      clear H
                                                      have H := H1
                                                      clear H1
                                                      have HC60 := Aside0.mk H
                                                      clear H
                                                      go_upto_region 28 with (fail)
                                                      repeat (go_quiet (fail); go_upto_region 28 with (fail))
                                                      go_cut [170] (fun v170 wc => ∃ (kq : Nat) (x170_59 : Bool), v170 = .bool x170_59 ∧ Aside0 (calxlaw08_BookCompares.j8 kq l0 l1 t104 t106 t108 t111 x14_3 x15_3 x20_7 t134 t136 x170_59 = some r) ∧ Aside0 (kq ≤ kj54) ∧ Aside0 (Below w.heap.size w wc))
                                                      case first =>
                                                        have H := HC60.out
                                                        clear HC60
                                                        by_cases c61 : t134 = t136
                                                        · rw [if_pos c61] at H
                                                          have c61b0 : (t134 == t136) = true := beq_iff_eq.mpr c61
                                                          have c61b1 : (t134 != t136) = false := bne_eq_false_iff_eq.mpr c61
                                                          clear c61
                                                          (first | rw [c61b0] | (simp only [i64_w, i32_w]; rw [c61b0]) | skip)
                                                          by_cases c62 : 0 ≤ x14_3
                                                          · rw [if_pos c62] at H
                                                            have c62b0 := eq_true c62
                                                            have c62b1 : decide (0 ≤ x14_3) = true := decide_eq_true c62
                                                            clear c62
                                                            by_cases c63 : x14_3 ≤ (wrap64 (x14_3 + x20_7))
                                                            · rw [if_pos c63] at H
                                                              have c63b0 := eq_true c63
                                                              have c63b1 : decide (x14_3 ≤ (wrap64 (x14_3 + x20_7))) = true := decide_eq_true c63
                                                              by_cases c64 : (wrap64 (x14_3 + x20_7)) ≤ (l0.length : Int)
                                                              · rw [if_pos c64] at H
                                                                have c64b0 := eq_true c64
                                                                have c64b1 : decide ((wrap64 (x14_3 + x20_7)) ≤ (l0.length : Int)) = true := decide_eq_true c64
                                                                obtain ⟨y138, hy138⟩ : ∃ y_ : List (S29), y_ = ((l0.take ((wrap64 (x14_3 + x20_7)) : Int).toNat).drop (x14_3 : Int).toNat) := ⟨_, rfl⟩
                                                                replace H : (if (wrap64 (x14_3 + x20_7)) ≤ (l1.length : Int) then ((calxref08_SameBook.f kj54 y138 ((l1.take ((wrap64 (x14_3 + x20_7)) : Int).toNat).drop (x14_3 : Int).toNat)).bind fun t146 => (calxlaw08_BookCompares.j8 kj54 l0 l1 t104 t106 t108 t111 x14_3 x15_3 x20_7 t134 t136 (!t146))) else (none)) = some r := by first | (rw [hy138]; with_reducible exact H) | (have H2_ := (Option.bind_some _ _).symm.trans H; rw [hy138]; with_reducible exact H2_) | (have H2_ := (Option.bind_some _ _).symm.trans H; with_reducible exact H2_) | with_reducible exact H | (rw [hy138]; exact H) | exact H
                                                                have Ny138 := Aside0.mk hy138
                                                                clear hy138
                                                                have c65b0 := eq_true (of_decide_eq_true (by first | (with_reducible assumption) | assumption) : 0 ≤ x14_3)
                                                                have c66b0 := eq_true (of_decide_eq_true (by first | (with_reducible assumption) | assumption) : x14_3 ≤ (wrap64 (x14_3 + x20_7)))
                                                                by_cases c67 : (wrap64 (x14_3 + x20_7)) ≤ (l1.length : Int)
                                                                · rw [if_pos c67] at H
                                                                  have c67b0 := eq_true c67
                                                                  have c67b1 : decide ((wrap64 (x14_3 + x20_7)) ≤ (l1.length : Int)) = true := decide_eq_true c67
                                                                  obtain ⟨y142, hy142⟩ : ∃ y_ : List (S29), y_ = ((l1.take ((wrap64 (x14_3 + x20_7)) : Int).toNat).drop (x14_3 : Int).toNat) := ⟨_, rfl⟩
                                                                  replace H : ((calxref08_SameBook.f kj54 y138 y142).bind fun t146 => (calxlaw08_BookCompares.j8 kj54 l0 l1 t104 t106 t108 t111 x14_3 x15_3 x20_7 t134 t136 (!t146))) = some r := by first | (rw [hy142]; with_reducible exact H) | (have H2_ := (Option.bind_some _ _).symm.trans H; rw [hy142]; with_reducible exact H2_) | (have H2_ := (Option.bind_some _ _).symm.trans H; with_reducible exact H2_) | with_reducible exact H | (rw [hy142]; exact H) | exact H
                                                                  have Ny142 := Aside0.mk hy142
                                                                  clear hy142
                                                                  replace H := Option.bind_eq_some_iff.mp H
                                                                  obtain ⟨t146, A680, H⟩ := H
                                                                  replace H : (calxlaw08_BookCompares.j8 kj54 l0 l1 t104 t106 t108 t111 x14_3 x15_3 x20_7 t134 t136 (!t146)) = some r := H
                                                                  have A68 := Aside0.mk A680
                                                                  clear A680
                                                                  have H' := Aside0.mk H
                                                                  clear H
                                                                  have q69 : ((wrap64 (x14_3 + x20_7)) : Int) ≤ ((l0.length : Int) : Int) := of_decide_eq_true (by first | (with_reducible assumption) | assumption)
                                                                  obtain ⟨i069, hi069, _, hsz69, _⟩ := info_parts info29
                                                                  have hroom69 : l0.length ≤ c0 := HC0.out
                                                                  have hC69 : Kd.C k29 _ A0 l0.length l0 := HR0.out
                                                                  have ql69 : (x14_3 : Int) ≤ ((wrap64 (x14_3 + x20_7)) : Int) := of_decide_eq_true (by first | (with_reducible assumption) | assumption)
                                                                  have q069 : (0 : Int) ≤ (x14_3 : Int) := of_decide_eq_true (by first | (with_reducible assumption) | assumption)
                                                                  have hcut69 := cut_mid (P := Try.prog) 32 29 .i64 .i64 Try.underlying32 hi069 4 hsz69 A0 l0.length c0 x14_3 (wrap64 (x14_3 + x20_7)) q069 ql69 q69 hroom69
                                                                  have hr69 := Kd.C_mid (lo := (x14_3 : Int).toNat) (hi := ((wrap64 (x14_3 + x20_7)) : Int).toNat) (c := c0) hC69 (by omega) (by omega) hroom69
                                                                  obtain ⟨A69, hA69⟩ : ∃ A1_, A1_ = (if c0 = (x14_3 : Int).toNat then A0 else (A0 : Option Addr).map (·.add ((x14_3 : Int).toNat * 4))) := ⟨_, rfl⟩
                                                                  obtain ⟨c69, hc69⟩ : ∃ c1_, c1_ = c0 - (x14_3 : Int).toNat := ⟨_, rfl⟩
                                                                  have hy69 : y138.length = ((wrap64 (x14_3 + x20_7)) : Int).toNat - (x14_3 : Int).toNat := (by rw [Ny138.out, List.length_drop, List.length_take] <;> omega)
                                                                  rw [show ((l0).take ((wrap64 (x14_3 + x20_7)) : Int).toNat).drop (x14_3 : Int).toNat = y138 from Ny138.out.symm] at hr69
                                                                  replace hr69 : Kd.C k29 _ A69 y138.length y138 := (by rw [hA69]; exact hr69)
                                                                  rw [← hy69, ← hA69, ← hc69] at hcut69
                                                                  have HR141 := Aside0.mk hr69
                                                                  have HC141 := Aside0.mk (show y138.length ≤ c69 from by rw [hy69, hc69]; exact Nat.sub_le_sub_right (Nat.le_trans (by omega) hroom69) _)
                                                                  clear hr69 hC69 hroom69 hi069 hsz69 hc69
                                                                  have KY69 := Aside0.mk hy69
                                                                  have KA69 := Aside0.mk hA69
                                                                  clear hy69 hA69
                                                                  replace q69 := eq_true q69
                                                                  have q70 : ((wrap64 (x14_3 + x20_7)) : Int) ≤ ((l1.length : Int) : Int) := of_decide_eq_true (by first | (with_reducible assumption) | assumption)
                                                                  obtain ⟨i070, hi070, _, hsz70, _⟩ := info_parts info29
                                                                  have hroom70 : l1.length ≤ c1 := HC1.out
                                                                  have hC70 : Kd.C k29 _ A1 l1.length l1 := HR1.out
                                                                  have ql70 : (x14_3 : Int) ≤ ((wrap64 (x14_3 + x20_7)) : Int) := of_decide_eq_true (by first | (with_reducible assumption) | assumption)
                                                                  have q070 : (0 : Int) ≤ (x14_3 : Int) := of_decide_eq_true (by first | (with_reducible assumption) | assumption)
                                                                  have hcut70 := cut_mid (P := Try.prog) 32 29 .i64 .i64 Try.underlying32 hi070 4 hsz70 A1 l1.length c1 x14_3 (wrap64 (x14_3 + x20_7)) q070 ql70 q70 hroom70
                                                                  have hr70 := Kd.C_mid (lo := (x14_3 : Int).toNat) (hi := ((wrap64 (x14_3 + x20_7)) : Int).toNat) (c := c1) hC70 (by omega) (by omega) hroom70
                                                                  obtain ⟨A70, hA70⟩ : ∃ A1_, A1_ = (if c1 = (x14_3 : Int).toNat then A1 else (A1 : Option Addr).map (·.add ((x14_3 : Int).toNat * 4))) := ⟨_, rfl⟩
                                                                  obtain ⟨c70, hc70⟩ : ∃ c1_, c1_ = c1 - (x14_3 : Int).toNat := ⟨_, rfl⟩
                                                                  have hy70 : y142.length = ((wrap64 (x14_3 + x20_7)) : Int).toNat - (x14_3 : Int).toNat := (by rw [Ny142.out, List.length_drop, List.length_take] <;> omega)
                                                                  rw [show ((l1).take ((wrap64 (x14_3 + x20_7)) : Int).toNat).drop (x14_3 : Int).toNat = y142 from Ny142.out.symm] at hr70
                                                                  replace hr70 : Kd.C k29 _ A70 y142.length y142 := (by rw [hA70]; exact hr70)
                                                                  rw [← hy70, ← hA70, ← hc70] at hcut70
                                                                  have HR145 := Aside0.mk hr70
                                                                  have HC145 := Aside0.mk (show y142.length ≤ c70 from by rw [hy70, hc70]; exact Nat.sub_le_sub_right (Nat.le_trans (by omega) hroom70) _)
                                                                  clear hr70 hC70 hroom70 hi070 hsz70 hc70
                                                                  have KY70 := Aside0.mk hy70
                                                                  have KA70 := Aside0.mk hA70
                                                                  clear hy70 hA70
                                                                  replace q70 := eq_true q70
                                                                  go_wp2_with (first | (go_at_call 29; (with_reducible refine (calxref08_SameBook.calls kj54 _ _ y138 _ _ y142 t146 _ ?side1 ?side2 ?side3 ?side4 A68.out).mono ?_); (case side1 => repeat (first | exact (Kd.C_below HR141.out HB.out) | (with_reducible refine Kd.C_alloc ?_ _) | (with_reducible refine Kd.C_drewN ?_ _) | (with_reducible refine Kd.C_drew ?_))); (case side2 => exact HC141.out); (case side3 => repeat (first | exact (Kd.C_below HR145.out HB.out) | (with_reducible refine Kd.C_alloc ?_ _) | (with_reducible refine Kd.C_drewN ?_ _) | (with_reducible refine Kd.C_drew ?_))); (case side4 => exact HC145.out); rintro e w' ⟨rfl, ⟨nd, rfl⟩⟩; (try first | exact ⟨rfl, _, World.drewN_drewN _ _ _⟩ | exact ⟨rfl, _, Eq.trans (World.drewN_drewN _ _ _) (congrArg (World.drewN _) (Nat.add_assoc _ _ _))⟩)))
                                                                  repeat (go_quiet (first | (go_at_call 29; (with_reducible refine (calxref08_SameBook.calls kj54 _ _ y138 _ _ y142 t146 _ ?side1 ?side2 ?side3 ?side4 A68.out).mono ?_); (case side1 => repeat (first | exact (Kd.C_below HR141.out HB.out) | (with_reducible refine Kd.C_alloc ?_ _) | (with_reducible refine Kd.C_drewN ?_ _) | (with_reducible refine Kd.C_drew ?_))); (case side2 => exact HC141.out); (case side3 => repeat (first | exact (Kd.C_below HR145.out HB.out) | (with_reducible refine Kd.C_alloc ?_ _) | (with_reducible refine Kd.C_drewN ?_ _) | (with_reducible refine Kd.C_drew ?_))); (case side4 => exact HC145.out); rintro e w' ⟨rfl, ⟨nd, rfl⟩⟩; (try first | exact ⟨rfl, _, World.drewN_drewN _ _ _⟩ | exact ⟨rfl, _, Eq.trans (World.drewN_drewN _ _ _) (congrArg (World.drewN _) (Nat.add_assoc _ _ _))⟩))); try go_wp2_with (first | (go_at_call 29; (with_reducible refine (calxref08_SameBook.calls kj54 _ _ y138 _ _ y142 t146 _ ?side1 ?side2 ?side3 ?side4 A68.out).mono ?_); (case side1 => repeat (first | exact (Kd.C_below HR141.out HB.out) | (with_reducible refine Kd.C_alloc ?_ _) | (with_reducible refine Kd.C_drewN ?_ _) | (with_reducible refine Kd.C_drew ?_))); (case side2 => exact HC141.out); (case side3 => repeat (first | exact (Kd.C_below HR145.out HB.out) | (with_reducible refine Kd.C_alloc ?_ _) | (with_reducible refine Kd.C_drewN ?_ _) | (with_reducible refine Kd.C_drew ?_))); (case side4 => exact HC145.out); rintro e w' ⟨rfl, ⟨nd, rfl⟩⟩; (try first | exact ⟨rfl, _, World.drewN_drewN _ _ _⟩ | exact ⟨rfl, _, Eq.trans (World.drewN_drewN _ _ _) (congrArg (World.drewN _) (Nat.add_assoc _ _ _))⟩))))
                                                                  go_meet
                                                                  case rel => exact ⟨_, (!t146), (by first | rfl | (simp; done) | (simp [*]; done)), H', ⟨by have := HJ2.out; have := HJ15.out; have := HK3.out; have := HJ23.out; have := HJ28.out; have := HJ42.out; have := HK7.out; have := HJ54.out; first | omega | exact Nat.le_refl _⟩, ⟨by repeat (first | (with_reducible first | exact HB.out | apply below_alloc | apply pw_below_drewN | apply below_drew1) | exact HB.out)⟩⟩
                                                                · rw [if_neg c67] at H
                                                                  exact absurd H (by simp)
                                                              · rw [if_neg c64] at H
                                                                exact absurd H (by simp)
                                                            · rw [if_neg c63] at H
                                                              exact absurd H (by simp)
                                                          · rw [if_neg c62] at H
                                                            exact absurd H (by simp)
                                                        · rw [if_neg c61] at H
                                                          have c61b0 : (t134 == t136) = false := beq_eq_false_iff_ne.mpr c61
                                                          have c61b1 : (t134 != t136) = true := bne_iff_ne.mpr c61
                                                          (first | rw [c61b0] | (simp only [i64_w, i32_w]; rw [c61b0]) | skip)
                                                          have H' := Aside0.mk H
                                                          clear H
                                                          go_wp2
                                                          repeat (go_quiet (fail); try go_wp2)
                                                          go_meet
                                                          case rel => exact ⟨_, (false), (by first | rfl | (simp; done) | (simp [*]; done)), H', ⟨by have := HJ2.out; have := HJ15.out; have := HK3.out; have := HJ23.out; have := HJ28.out; have := HJ42.out; have := HK7.out; have := HJ54.out; first | omega | exact Nat.le_refl _⟩, ⟨by repeat (first | (with_reducible first | exact HB.out | apply below_alloc | apply pw_below_drewN | apply below_drew1) | exact HB.out)⟩⟩
                                                      case rest =>
                                                        clear HC60
                                                        try clear c1
                                                        try clear c2
                                                        try clear p2
                                                        try clear c3
                                                        try clear q3
                                                        try clear c4
                                                        try clear c5
                                                        try clear c6
                                                        try clear p6
                                                        try clear q6
                                                        try clear c7
                                                        try clear q7
                                                        try clear c8
                                                        try clear c8b0
                                                        try clear c8b1
                                                        try clear c8b2
                                                        try clear c9
                                                        try clear c14
                                                        try clear c14b0
                                                        try clear c14b1
                                                        try clear c15
                                                        try clear c15b0
                                                        try clear c15b1
                                                        try clear c19
                                                        try clear c19b0
                                                        try clear c20
                                                        try clear c21
                                                        try clear c21b0
                                                        try clear c27
                                                        try clear c27b0
                                                        try clear c27b1
                                                        try clear c28
                                                        try clear c30
                                                        try clear c30b0
                                                        try clear c30b1
                                                        try clear c31
                                                        try clear c31b0
                                                        try clear c31b1
                                                        try clear c32
                                                        try clear c32b0
                                                        try clear c32b1
                                                        try clear c33
                                                        try clear c33b0
                                                        try clear c33b1
                                                        try clear c34
                                                        try clear c34b0
                                                        try clear c35
                                                        try clear c35b0
                                                        try clear c36
                                                        try clear c36b0
                                                        try clear c36b1
                                                        try clear c38
                                                        try clear q38
                                                        try clear c39
                                                        try clear q39
                                                        try clear c40
                                                        try clear c44
                                                        try clear c44b0
                                                        try clear c44b1
                                                        try clear c45
                                                        try clear c47
                                                        try clear c48
                                                        try clear c48b0
                                                        try clear c48b1
                                                        try clear c48b2
                                                        try clear c52
                                                        try clear c52b0
                                                        try clear c58
                                                        try clear c58b0
                                                        try clear c58b1
                                                        try clear c59
                                                        try clear c61
                                                        try clear c61b0
                                                        try clear c61b1
                                                        try clear c62
                                                        try clear c62b0
                                                        try clear c62b1
                                                        try clear c63
                                                        try clear c63b0
                                                        try clear c63b1
                                                        try clear c64
                                                        try clear c64b0
                                                        try clear c64b1
                                                        try clear p64
                                                        try clear c65
                                                        try clear c65b0
                                                        try clear c66
                                                        try clear c66b0
                                                        try clear c67
                                                        try clear c67b0
                                                        try clear c67b1
                                                        try clear c69
                                                        try clear q69
                                                        try clear c70
                                                        try clear q70
                                                        try clear p2
                                                        try clear p6
                                                        try clear q038
                                                        try clear q039
                                                        try clear q069
                                                        try clear q070
                                                        try clear q3
                                                        try clear q38
                                                        try clear q39
                                                        try clear q69
                                                        try clear q70
                                                        obtain ⟨kq, x170_59, rfl, HA, HJ59, HB⟩ := hcut
                                                        cases kq with
                                                        | zero => exact absurd HA.out (by simp [calxlaw08_BookCompares.j8])
                                                        | succ kj59 =>
                                                          have H := HA.out
                                                          clear HA
                                                          simp only [calxlaw08_BookCompares.j8] at H
                                                          by_cases c71 : x170_59 = true
                                                          · subst c71
                                                            have H1 : ((calxlaw08_sanity.f).bind fun t147 => (some t147)) = some r := by rw [if_pos rfl] at H; exact H
                                                            clear H
                                                            have H := H1
                                                            clear H1
                                                            replace H := Option.bind_eq_some_iff.mp H
                                                            obtain ⟨t147, A720, H⟩ := H
                                                            replace H : (some t147) = some r := H
                                                            have A72 := Aside0.mk A720
                                                            clear A720
                                                            obtain rfl := Option.some.inj H
                                                            go_wp2_with (first | (go_at_call 22; (with_reducible refine (calxlaw08_sanity.calls  t147 _ A72.out).mono ?_); rintro e w73 ⟨rfl, hb⟩; have n0_ := Aside0.mk (below_step (by repeat (first | (with_reducible first | exact HB.out | apply below_alloc | apply pw_below_drewN | apply below_drew1) | exact HB.out)) hb); clear HB; have HB := n0_; clear n0_; (try clear hb); (try clear hb2); (try clear hk); (try clear hi)))
                                                            repeat (go_quiet (first | (go_at_call 22; (with_reducible refine (calxlaw08_sanity.calls  t147 _ A72.out).mono ?_); rintro e w73 ⟨rfl, hb⟩; have n0_ := Aside0.mk (below_step (by repeat (first | (with_reducible first | exact HB.out | apply below_alloc | apply pw_below_drewN | apply below_drew1) | exact HB.out)) hb); clear HB; have HB := n0_; clear n0_; (try clear hb); (try clear hb2); (try clear hk); (try clear hi))); try go_wp2_with (first | (go_at_call 22; (with_reducible refine (calxlaw08_sanity.calls  t147 _ A72.out).mono ?_); rintro e w73 ⟨rfl, hb⟩; have n0_ := Aside0.mk (below_step (by repeat (first | (with_reducible first | exact HB.out | apply below_alloc | apply pw_below_drewN | apply below_drew1) | exact HB.out)) hb); clear HB; have HB := n0_; clear n0_; (try clear hb); (try clear hb2); (try clear hk); (try clear hi))))
                                                            go_ret
                                                            exact ⟨by first | rfl | (simp [errW_none, errW_some] <;> rfl) | (simp [*, errW_none, errW_some] <;> rfl), by repeat (first | (with_reducible first | exact HB.out | apply below_alloc | apply pw_below_drewN | apply below_drew1) | exact HB.out)⟩
                                                          · replace c71 := Bool.eq_false_iff.mpr c71
                                                            subst c71
                                                            have H1 : (if t134 = t136 then (calxlaw08_BookCompares.l0 kj59 l0 l1 t104 t106 t108 t111 (wrap64 (x14_3 + x20_7)) (wrap64 (x15_3 - x20_7))) else (calxlaw08_BookCompares.l0 kj59 l0 l1 t104 t106 t108 t111 x14_3 x20_7)) = some r := by rw [if_neg (show ¬ (false = true) by decide)] at H; exact H
                                                            clear H
                                                            have H := H1
                                                            clear H1
                                                            by_cases c74 : t134 = t136
                                                            · rw [if_pos c74] at H
                                                              have c74b0 : (t134 == t136) = true := beq_iff_eq.mpr c74
                                                              have c74b1 : (t134 != t136) = false := bne_eq_false_iff_eq.mpr c74
                                                              clear c74
                                                              have H' := Aside0.mk H
                                                              clear H
                                                              go_wp2
                                                              repeat (go_quiet (fail); try go_wp2)
                                                              go_roundg kj59
                                                              case measure => have := HJ2.out; have := HJ15.out; have := HK3.out; have := HJ23.out; have := HJ28.out; have := HJ42.out; have := HK7.out; have := HJ54.out; have := HJ59.out; omega
                                                              case rel => exact ⟨(wrap64 (x14_3 + x20_7)), (wrap64 (x15_3 - x20_7)), (by first | rfl | (simp; done) | (simp [*]; done)), (by first | rfl | (simp; done) | (simp [*]; done)), H', ⟨by have := HJ2.out; have := HJ15.out; have := HK3.out; have := HJ23.out; have := HJ28.out; have := HJ42.out; have := HK7.out; have := HJ54.out; have := HJ59.out; omega⟩, ⟨by repeat (first | (with_reducible first | exact HB.out | apply below_alloc | apply pw_below_drewN | apply below_drew1) | exact HB.out)⟩⟩
                                                            · rw [if_neg c74] at H
                                                              have c74b0 : (t134 == t136) = false := beq_eq_false_iff_ne.mpr c74
                                                              have c74b1 : (t134 != t136) = true := bne_iff_ne.mpr c74
                                                              have H' := Aside0.mk H
                                                              clear H
                                                              go_wp2
                                                              repeat (go_quiet (fail); try go_wp2)
                                                              go_roundg kj59
                                                              case measure => have := HJ2.out; have := HJ15.out; have := HK3.out; have := HJ23.out; have := HJ28.out; have := HJ42.out; have := HK7.out; have := HJ54.out; have := HJ59.out; omega
                                                              case rel => exact ⟨(x14_3), (x20_7), (by first | rfl | (simp; done) | (simp [*]; done)), (by first | rfl | (simp; done) | (simp [*]; done)), H', ⟨by have := HJ2.out; have := HJ15.out; have := HK3.out; have := HJ23.out; have := HJ28.out; have := HJ42.out; have := HK7.out; have := HJ54.out; have := HJ59.out; omega⟩, ⟨by repeat (first | (with_reducible first | exact HB.out | apply below_alloc | apply pw_below_drewN | apply below_drew1) | exact HB.out)⟩⟩
                      · rw [if_neg c21] at H
                        have c21b0 : decide (0 < x15_3) = false := decide_eq_false c21
                        clear c21
                        replace H := Option.bind_eq_some_iff.mp H
                        obtain ⟨t118, A750, H⟩ := H
                        replace H : (if t118 = true then (if (t106 == t111) = true then (some (t104 == t108)) else (some false)) else (some false)) = some r := H
                        have A75 := Aside0.mk A750
                        clear A750
                        by_cases c76 : t118 = true
                        · subst c76
                          have H1 : (if (t106 == t111) = true then (some (t104 == t108)) else (some false)) = some r := by rw [if_pos rfl] at H; exact H
                          clear H
                          have H := H1
                          clear H1
                          by_cases c77 : (t106 == t111) = true
                          · rw [if_pos c77] at H
                            have c77b0 : (t106 == t111) = true := c77
                            (try (have c77b1 : decide (t106 = t111) = true := by simpa using c77))
                            (try (have c77b2 : (t106 == t111) = true := by simpa using c77))
                            clear c77
                            obtain rfl := Option.some.inj H
                            go_wp2_with (first | (go_at_call 22; (with_reducible refine (calxlaw08_sanity.calls  true _ A75.out).mono ?_); rintro e w78 ⟨rfl, hb⟩; have n0_ := Aside0.mk (below_step (by repeat (first | (with_reducible first | exact HB.out | apply below_alloc | apply pw_below_drewN | apply below_drew1) | exact HB.out)) hb); clear HB; have HB := n0_; clear n0_; (try clear hb); (try clear hb2); (try clear hk); (try clear hi)))
                            repeat (go_quiet (first | (go_at_call 22; (with_reducible refine (calxlaw08_sanity.calls  true _ A75.out).mono ?_); rintro e w78 ⟨rfl, hb⟩; have n0_ := Aside0.mk (below_step (by repeat (first | (with_reducible first | exact HB.out | apply below_alloc | apply pw_below_drewN | apply below_drew1) | exact HB.out)) hb); clear HB; have HB := n0_; clear n0_; (try clear hb); (try clear hb2); (try clear hk); (try clear hi))); try go_wp2_with (first | (go_at_call 22; (with_reducible refine (calxlaw08_sanity.calls  true _ A75.out).mono ?_); rintro e w78 ⟨rfl, hb⟩; have n0_ := Aside0.mk (below_step (by repeat (first | (with_reducible first | exact HB.out | apply below_alloc | apply pw_below_drewN | apply below_drew1) | exact HB.out)) hb); clear HB; have HB := n0_; clear n0_; (try clear hb); (try clear hb2); (try clear hk); (try clear hi))))
                            go_ret
                            exact ⟨by first | rfl | (simp [errW_none, errW_some] <;> rfl) | (simp [*, errW_none, errW_some] <;> rfl), by repeat (first | (with_reducible first | exact HB.out | apply below_alloc | apply pw_below_drewN | apply below_drew1) | exact HB.out)⟩
                          · rw [if_neg c77] at H
                            have c77b0 : (t106 == t111) = false := by simpa using c77
                            (try (have c77b1 : decide (t106 = t111) = false := by simpa using c77))
                            (try (have c77b2 : (t106 == t111) = false := by simpa using c77))
                            (try (have c77b3 : ¬ (t106 = t111) := by simpa using c77))
                            clear c77
                            obtain rfl := Option.some.inj H
                            go_wp2_with (first | (go_at_call 22; (with_reducible refine (calxlaw08_sanity.calls  true _ A75.out).mono ?_); rintro e w79 ⟨rfl, hb⟩; have n0_ := Aside0.mk (below_step (by repeat (first | (with_reducible first | exact HB.out | apply below_alloc | apply pw_below_drewN | apply below_drew1) | exact HB.out)) hb); clear HB; have HB := n0_; clear n0_; (try clear hb); (try clear hb2); (try clear hk); (try clear hi)))
                            repeat (go_quiet (first | (go_at_call 22; (with_reducible refine (calxlaw08_sanity.calls  true _ A75.out).mono ?_); rintro e w79 ⟨rfl, hb⟩; have n0_ := Aside0.mk (below_step (by repeat (first | (with_reducible first | exact HB.out | apply below_alloc | apply pw_below_drewN | apply below_drew1) | exact HB.out)) hb); clear HB; have HB := n0_; clear n0_; (try clear hb); (try clear hb2); (try clear hk); (try clear hi))); try go_wp2_with (first | (go_at_call 22; (with_reducible refine (calxlaw08_sanity.calls  true _ A75.out).mono ?_); rintro e w79 ⟨rfl, hb⟩; have n0_ := Aside0.mk (below_step (by repeat (first | (with_reducible first | exact HB.out | apply below_alloc | apply pw_below_drewN | apply below_drew1) | exact HB.out)) hb); clear HB; have HB := n0_; clear n0_; (try clear hb); (try clear hb2); (try clear hk); (try clear hi))))
                            go_ret
                            exact ⟨by first | rfl | (simp [errW_none, errW_some] <;> rfl) | (simp [*, errW_none, errW_some] <;> rfl), by repeat (first | (with_reducible first | exact HB.out | apply below_alloc | apply pw_below_drewN | apply below_drew1) | exact HB.out)⟩
                        · replace c76 := Bool.eq_false_iff.mpr c76
                          subst c76
                          have H1 : (some false) = some r := by rw [if_neg (show ¬ (false = true) by decide)] at H; exact H
                          clear H
                          have H := H1
                          clear H1
                          obtain rfl := Option.some.inj H
                          go_wp2_with (first | (go_at_call 22; (with_reducible refine (calxlaw08_sanity.calls  false _ A75.out).mono ?_); rintro e w80 ⟨rfl, hb⟩; have n0_ := Aside0.mk (below_step (by repeat (first | (with_reducible first | exact HB.out | apply below_alloc | apply pw_below_drewN | apply below_drew1) | exact HB.out)) hb); clear HB; have HB := n0_; clear n0_; (try clear hb); (try clear hb2); (try clear hk); (try clear hi)))
                          repeat (go_quiet (first | (go_at_call 22; (with_reducible refine (calxlaw08_sanity.calls  false _ A75.out).mono ?_); rintro e w80 ⟨rfl, hb⟩; have n0_ := Aside0.mk (below_step (by repeat (first | (with_reducible first | exact HB.out | apply below_alloc | apply pw_below_drewN | apply below_drew1) | exact HB.out)) hb); clear HB; have HB := n0_; clear n0_; (try clear hb); (try clear hb2); (try clear hk); (try clear hi))); try go_wp2_with (first | (go_at_call 22; (with_reducible refine (calxlaw08_sanity.calls  false _ A75.out).mono ?_); rintro e w80 ⟨rfl, hb⟩; have n0_ := Aside0.mk (below_step (by repeat (first | (with_reducible first | exact HB.out | apply below_alloc | apply pw_below_drewN | apply below_drew1) | exact HB.out)) hb); clear HB; have HB := n0_; clear n0_; (try clear hb); (try clear hb2); (try clear hk); (try clear hi))))
                          go_ret
                          exact ⟨by first | rfl | (simp [errW_none, errW_some] <;> rfl) | (simp [*, errW_none, errW_some] <;> rfl), by repeat (first | (with_reducible first | exact HB.out | apply below_alloc | apply pw_below_drewN | apply below_drew1) | exact HB.out)⟩
          · rw [if_neg c15] at H
            have c15b0 : (t107 == 0) = false := beq_eq_false_iff_ne.mpr c15
            have c15b1 : (t107 != 0) = true := bne_iff_ne.mpr c15
            replace H := Option.bind_eq_some_iff.mp H
            obtain ⟨t117, A810, H⟩ := H
            replace H : (some t117) = some r := H
            have A81 := Aside0.mk A810
            clear A810
            obtain rfl := Option.some.inj H
            go_wp2_with (first | (go_at_call 68; (with_reducible refine (book_Compare.calls _ _ l0 _ _ l1 t104 t105 t106 t107 _ ?side1 ?side2 ?side3 ?side4 A12.out).mono ?_); (case side1 => repeat (first | exact (Kd.C_below HR0.out HB.out) | (with_reducible refine Kd.C_alloc ?_ _) | (with_reducible refine Kd.C_drewN ?_ _) | (with_reducible refine Kd.C_drew ?_))); (case side2 => exact HC0.out); (case side3 => repeat (first | exact (Kd.C_below HR1.out HB.out) | (with_reducible refine Kd.C_alloc ?_ _) | (with_reducible refine Kd.C_drewN ?_ _) | (with_reducible refine Kd.C_drew ?_))); (case side4 => exact HC1.out); rintro e w82 ⟨rfl, hb⟩; have n0_ := Aside0.mk (below_step (by repeat (first | (with_reducible first | exact HB.out | apply below_alloc | apply pw_below_drewN | apply below_drew1) | exact HB.out)) hb); clear HB; have HB := n0_; clear n0_; (try clear hb); (try clear hb2); (try clear hk); (try clear hi)) | (go_at_call 66; (with_reducible refine (book_Fork.calls _ _ l0 _ _ l1 t108 t109 t110 t111 t112 _ ?side1 ?side2 ?side3 ?side4 A13.out).mono ?_); (case side1 => repeat (first | exact (Kd.C_below HR0.out HB.out) | (with_reducible refine Kd.C_alloc ?_ _) | (with_reducible refine Kd.C_drewN ?_ _) | (with_reducible refine Kd.C_drew ?_))); (case side2 => exact HC0.out); (case side3 => repeat (first | exact (Kd.C_below HR1.out HB.out) | (with_reducible refine Kd.C_alloc ?_ _) | (with_reducible refine Kd.C_drewN ?_ _) | (with_reducible refine Kd.C_drew ?_))); (case side4 => exact HC1.out); rintro e w83 ⟨v113, v115, rfl, ho0, ho1, hb⟩; have n0_ := Aside0.mk (Kd.R_lower ho0 (below_size (by repeat (first | (with_reducible first | exact HB.out | apply below_alloc | apply pw_below_drewN | apply below_drew1) | exact HB.out)))); have n1_ := Aside0.mk (Kd.R_lower ho1 (below_size (by repeat (first | (with_reducible first | exact HB.out | apply below_alloc | apply pw_below_drewN | apply below_drew1) | exact HB.out)))); have n2_ := Aside0.mk (below_step (by repeat (first | (with_reducible first | exact HB.out | apply below_alloc | apply pw_below_drewN | apply below_drew1) | exact HB.out)) hb); clear HB; have HO114 := n0_; have HO116 := n1_; have HB := n2_; clear n0_ n1_ n2_; (try clear hb); (try clear hb2); (try clear hk); (try clear hi); (try clear ho0); (try clear ho1)) | (go_at_call 22; (with_reducible refine (calxlaw08_sanity.calls  t117 _ A81.out).mono ?_); rintro e w84 ⟨rfl, hb⟩; have n0_ := Aside0.mk (Kd.R_below (by (with_reducible repeat (first | apply Kd.R_alloc | apply Kd.R_drewN | apply Kd.R_drew)); exact HO114.out) hb); have n1_ := Aside0.mk (Kd.R_below (by (with_reducible repeat (first | apply Kd.R_alloc | apply Kd.R_drewN | apply Kd.R_drew)); exact HO116.out) hb); have n2_ := Aside0.mk (below_step (by repeat (first | (with_reducible first | exact HB.out | apply below_alloc | apply pw_below_drewN | apply below_drew1) | exact HB.out)) hb); clear HO114; clear HO116; clear HB; have HO114 := n0_; have HO116 := n1_; have HB := n2_; clear n0_ n1_ n2_; (try clear hb); (try clear hb2); (try clear hk); (try clear hi)))
            repeat (go_quiet (first | (go_at_call 68; (with_reducible refine (book_Compare.calls _ _ l0 _ _ l1 t104 t105 t106 t107 _ ?side1 ?side2 ?side3 ?side4 A12.out).mono ?_); (case side1 => repeat (first | exact (Kd.C_below HR0.out HB.out) | (with_reducible refine Kd.C_alloc ?_ _) | (with_reducible refine Kd.C_drewN ?_ _) | (with_reducible refine Kd.C_drew ?_))); (case side2 => exact HC0.out); (case side3 => repeat (first | exact (Kd.C_below HR1.out HB.out) | (with_reducible refine Kd.C_alloc ?_ _) | (with_reducible refine Kd.C_drewN ?_ _) | (with_reducible refine Kd.C_drew ?_))); (case side4 => exact HC1.out); rintro e w82 ⟨rfl, hb⟩; have n0_ := Aside0.mk (below_step (by repeat (first | (with_reducible first | exact HB.out | apply below_alloc | apply pw_below_drewN | apply below_drew1) | exact HB.out)) hb); clear HB; have HB := n0_; clear n0_; (try clear hb); (try clear hb2); (try clear hk); (try clear hi)) | (go_at_call 66; (with_reducible refine (book_Fork.calls _ _ l0 _ _ l1 t108 t109 t110 t111 t112 _ ?side1 ?side2 ?side3 ?side4 A13.out).mono ?_); (case side1 => repeat (first | exact (Kd.C_below HR0.out HB.out) | (with_reducible refine Kd.C_alloc ?_ _) | (with_reducible refine Kd.C_drewN ?_ _) | (with_reducible refine Kd.C_drew ?_))); (case side2 => exact HC0.out); (case side3 => repeat (first | exact (Kd.C_below HR1.out HB.out) | (with_reducible refine Kd.C_alloc ?_ _) | (with_reducible refine Kd.C_drewN ?_ _) | (with_reducible refine Kd.C_drew ?_))); (case side4 => exact HC1.out); rintro e w83 ⟨v113, v115, rfl, ho0, ho1, hb⟩; have n0_ := Aside0.mk (Kd.R_lower ho0 (below_size (by repeat (first | (with_reducible first | exact HB.out | apply below_alloc | apply pw_below_drewN | apply below_drew1) | exact HB.out)))); have n1_ := Aside0.mk (Kd.R_lower ho1 (below_size (by repeat (first | (with_reducible first | exact HB.out | apply below_alloc | apply pw_below_drewN | apply below_drew1) | exact HB.out)))); have n2_ := Aside0.mk (below_step (by repeat (first | (with_reducible first | exact HB.out | apply below_alloc | apply pw_below_drewN | apply below_drew1) | exact HB.out)) hb); clear HB; have HO114 := n0_; have HO116 := n1_; have HB := n2_; clear n0_ n1_ n2_; (try clear hb); (try clear hb2); (try clear hk); (try clear hi); (try clear ho0); (try clear ho1)) | (go_at_call 22; (with_reducible refine (calxlaw08_sanity.calls  t117 _ A81.out).mono ?_); rintro e w84 ⟨rfl, hb⟩; have n0_ := Aside0.mk (Kd.R_below (by (with_reducible repeat (first | apply Kd.R_alloc | apply Kd.R_drewN | apply Kd.R_drew)); exact HO114.out) hb); have n1_ := Aside0.mk (Kd.R_below (by (with_reducible repeat (first | apply Kd.R_alloc | apply Kd.R_drewN | apply Kd.R_drew)); exact HO116.out) hb); have n2_ := Aside0.mk (below_step (by repeat (first | (with_reducible first | exact HB.out | apply below_alloc | apply pw_below_drewN | apply below_drew1) | exact HB.out)) hb); clear HO114; clear HO116; clear HB; have HO114 := n0_; have HO116 := n1_; have HB := n2_; clear n0_ n1_ n2_; (try clear hb); (try clear hb2); (try clear hk); (try clear hi))); try go_wp2_with (first | (go_at_call 68; (with_reducible refine (book_Compare.calls _ _ l0 _ _ l1 t104 t105 t106 t107 _ ?side1 ?side2 ?side3 ?side4 A12.out).mono ?_); (case side1 => repeat (first | exact (Kd.C_below HR0.out HB.out) | (with_reducible refine Kd.C_alloc ?_ _) | (with_reducible refine Kd.C_drewN ?_ _) | (with_reducible refine Kd.C_drew ?_))); (case side2 => exact HC0.out); (case side3 => repeat (first | exact (Kd.C_below HR1.out HB.out) | (with_reducible refine Kd.C_alloc ?_ _) | (with_reducible refine Kd.C_drewN ?_ _) | (with_reducible refine Kd.C_drew ?_))); (case side4 => exact HC1.out); rintro e w82 ⟨rfl, hb⟩; have n0_ := Aside0.mk (below_step (by repeat (first | (with_reducible first | exact HB.out | apply below_alloc | apply pw_below_drewN | apply below_drew1) | exact HB.out)) hb); clear HB; have HB := n0_; clear n0_; (try clear hb); (try clear hb2); (try clear hk); (try clear hi)) | (go_at_call 66; (with_reducible refine (book_Fork.calls _ _ l0 _ _ l1 t108 t109 t110 t111 t112 _ ?side1 ?side2 ?side3 ?side4 A13.out).mono ?_); (case side1 => repeat (first | exact (Kd.C_below HR0.out HB.out) | (with_reducible refine Kd.C_alloc ?_ _) | (with_reducible refine Kd.C_drewN ?_ _) | (with_reducible refine Kd.C_drew ?_))); (case side2 => exact HC0.out); (case side3 => repeat (first | exact (Kd.C_below HR1.out HB.out) | (with_reducible refine Kd.C_alloc ?_ _) | (with_reducible refine Kd.C_drewN ?_ _) | (with_reducible refine Kd.C_drew ?_))); (case side4 => exact HC1.out); rintro e w83 ⟨v113, v115, rfl, ho0, ho1, hb⟩; have n0_ := Aside0.mk (Kd.R_lower ho0 (below_size (by repeat (first | (with_reducible first | exact HB.out | apply below_alloc | apply pw_below_drewN | apply below_drew1) | exact HB.out)))); have n1_ := Aside0.mk (Kd.R_lower ho1 (below_size (by repeat (first | (with_reducible first | exact HB.out | apply below_alloc | apply pw_below_drewN | apply below_drew1) | exact HB.out)))); have n2_ := Aside0.mk (below_step (by repeat (first | (with_reducible first | exact HB.out | apply below_alloc | apply pw_below_drewN | apply below_drew1) | exact HB.out)) hb); clear HB; have HO114 := n0_; have HO116 := n1_; have HB := n2_; clear n0_ n1_ n2_; (try clear hb); (try clear hb2); (try clear hk); (try clear hi); (try clear ho0); (try clear ho1)) | (go_at_call 22; (with_reducible refine (calxlaw08_sanity.calls  t117 _ A81.out).mono ?_); rintro e w84 ⟨rfl, hb⟩; have n0_ := Aside0.mk (Kd.R_below (by (with_reducible repeat (first | apply Kd.R_alloc | apply Kd.R_drewN | apply Kd.R_drew)); exact HO114.out) hb); have n1_ := Aside0.mk (Kd.R_below (by (with_reducible repeat (first | apply Kd.R_alloc | apply Kd.R_drewN | apply Kd.R_drew)); exact HO116.out) hb); have n2_ := Aside0.mk (below_step (by repeat (first | (with_reducible first | exact HB.out | apply below_alloc | apply pw_below_drewN | apply below_drew1) | exact HB.out)) hb); clear HO114; clear HO116; clear HB; have HO114 := n0_; have HO116 := n1_; have HB := n2_; clear n0_ n1_ n2_; (try clear hb); (try clear hb2); (try clear hk); (try clear hi))))
            go_ret
            exact ⟨by first | rfl | (simp [errW_none, errW_some] <;> rfl) | (simp [*, errW_none, errW_some] <;> rfl), by repeat (first | (with_reducible first | exact HB.out | apply below_alloc | apply pw_below_drewN | apply below_drew1) | exact HB.out)⟩
        · rw [if_neg c14] at H
          have c14b0 : (t107 == t112) = false := beq_eq_false_iff_ne.mpr c14
          have c14b1 : (t107 != t112) = true := bne_iff_ne.mpr c14
          obtain rfl := Option.some.inj H
          go_wp2_with (first | (go_at_call 68; (with_reducible refine (book_Compare.calls _ _ l0 _ _ l1 t104 t105 t106 t107 _ ?side1 ?side2 ?side3 ?side4 A12.out).mono ?_); (case side1 => repeat (first | exact (Kd.C_below HR0.out HB.out) | (with_reducible refine Kd.C_alloc ?_ _) | (with_reducible refine Kd.C_drewN ?_ _) | (with_reducible refine Kd.C_drew ?_))); (case side2 => exact HC0.out); (case side3 => repeat (first | exact (Kd.C_below HR1.out HB.out) | (with_reducible refine Kd.C_alloc ?_ _) | (with_reducible refine Kd.C_drewN ?_ _) | (with_reducible refine Kd.C_drew ?_))); (case side4 => exact HC1.out); rintro e w85 ⟨rfl, hb⟩; have n0_ := Aside0.mk (below_step (by repeat (first | (with_reducible first | exact HB.out | apply below_alloc | apply pw_below_drewN | apply below_drew1) | exact HB.out)) hb); clear HB; have HB := n0_; clear n0_; (try clear hb); (try clear hb2); (try clear hk); (try clear hi)) | (go_at_call 66; (with_reducible refine (book_Fork.calls _ _ l0 _ _ l1 t108 t109 t110 t111 t112 _ ?side1 ?side2 ?side3 ?side4 A13.out).mono ?_); (case side1 => repeat (first | exact (Kd.C_below HR0.out HB.out) | (with_reducible refine Kd.C_alloc ?_ _) | (with_reducible refine Kd.C_drewN ?_ _) | (with_reducible refine Kd.C_drew ?_))); (case side2 => exact HC0.out); (case side3 => repeat (first | exact (Kd.C_below HR1.out HB.out) | (with_reducible refine Kd.C_alloc ?_ _) | (with_reducible refine Kd.C_drewN ?_ _) | (with_reducible refine Kd.C_drew ?_))); (case side4 => exact HC1.out); rintro e w86 ⟨v113, v115, rfl, ho0, ho1, hb⟩; have n0_ := Aside0.mk (Kd.R_lower ho0 (below_size (by repeat (first | (with_reducible first | exact HB.out | apply below_alloc | apply pw_below_drewN | apply below_drew1) | exact HB.out)))); have n1_ := Aside0.mk (Kd.R_lower ho1 (below_size (by repeat (first | (with_reducible first | exact HB.out | apply below_alloc | apply pw_below_drewN | apply below_drew1) | exact HB.out)))); have n2_ := Aside0.mk (below_step (by repeat (first | (with_reducible first | exact HB.out | apply below_alloc | apply pw_below_drewN | apply below_drew1) | exact HB.out)) hb); clear HB; have HO114 := n0_; have HO116 := n1_; have HB := n2_; clear n0_ n1_ n2_; (try clear hb); (try clear hb2); (try clear hk); (try clear hi); (try clear ho0); (try clear ho1)))
          repeat (go_quiet (first | (go_at_call 68; (with_reducible refine (book_Compare.calls _ _ l0 _ _ l1 t104 t105 t106 t107 _ ?side1 ?side2 ?side3 ?side4 A12.out).mono ?_); (case side1 => repeat (first | exact (Kd.C_below HR0.out HB.out) | (with_reducible refine Kd.C_alloc ?_ _) | (with_reducible refine Kd.C_drewN ?_ _) | (with_reducible refine Kd.C_drew ?_))); (case side2 => exact HC0.out); (case side3 => repeat (first | exact (Kd.C_below HR1.out HB.out) | (with_reducible refine Kd.C_alloc ?_ _) | (with_reducible refine Kd.C_drewN ?_ _) | (with_reducible refine Kd.C_drew ?_))); (case side4 => exact HC1.out); rintro e w85 ⟨rfl, hb⟩; have n0_ := Aside0.mk (below_step (by repeat (first | (with_reducible first | exact HB.out | apply below_alloc | apply pw_below_drewN | apply below_drew1) | exact HB.out)) hb); clear HB; have HB := n0_; clear n0_; (try clear hb); (try clear hb2); (try clear hk); (try clear hi)) | (go_at_call 66; (with_reducible refine (book_Fork.calls _ _ l0 _ _ l1 t108 t109 t110 t111 t112 _ ?side1 ?side2 ?side3 ?side4 A13.out).mono ?_); (case side1 => repeat (first | exact (Kd.C_below HR0.out HB.out) | (with_reducible refine Kd.C_alloc ?_ _) | (with_reducible refine Kd.C_drewN ?_ _) | (with_reducible refine Kd.C_drew ?_))); (case side2 => exact HC0.out); (case side3 => repeat (first | exact (Kd.C_below HR1.out HB.out) | (with_reducible refine Kd.C_alloc ?_ _) | (with_reducible refine Kd.C_drewN ?_ _) | (with_reducible refine Kd.C_drew ?_))); (case side4 => exact HC1.out); rintro e w86 ⟨v113, v115, rfl, ho0, ho1, hb⟩; have n0_ := Aside0.mk (Kd.R_lower ho0 (below_size (by repeat (first | (with_reducible first | exact HB.out | apply below_alloc | apply pw_below_drewN | apply below_drew1) | exact HB.out)))); have n1_ := Aside0.mk (Kd.R_lower ho1 (below_size (by repeat (first | (with_reducible first | exact HB.out | apply below_alloc | apply pw_below_drewN | apply below_drew1) | exact HB.out)))); have n2_ := Aside0.mk (below_step (by repeat (first | (with_reducible first | exact HB.out | apply below_alloc | apply pw_below_drewN | apply below_drew1) | exact HB.out)) hb); clear HB; have HO114 := n0_; have HO116 := n1_; have HB := n2_; clear n0_ n1_ n2_; (try clear hb); (try clear hb2); (try clear hk); (try clear hi); (try clear ho0); (try clear ho1))); try go_wp2_with (first | (go_at_call 68; (with_reducible refine (book_Compare.calls _ _ l0 _ _ l1 t104 t105 t106 t107 _ ?side1 ?side2 ?side3 ?side4 A12.out).mono ?_); (case side1 => repeat (first | exact (Kd.C_below HR0.out HB.out) | (with_reducible refine Kd.C_alloc ?_ _) | (with_reducible refine Kd.C_drewN ?_ _) | (with_reducible refine Kd.C_drew ?_))); (case side2 => exact HC0.out); (case side3 => repeat (first | exact (Kd.C_below HR1.out HB.out) | (with_reducible refine Kd.C_alloc ?_ _) | (with_reducible refine Kd.C_drewN ?_ _) | (with_reducible refine Kd.C_drew ?_))); (case side4 => exact HC1.out); rintro e w85 ⟨rfl, hb⟩; have n0_ := Aside0.mk (below_step (by repeat (first | (with_reducible first | exact HB.out | apply below_alloc | apply pw_below_drewN | apply below_drew1) | exact HB.out)) hb); clear HB; have HB := n0_; clear n0_; (try clear hb); (try clear hb2); (try clear hk); (try clear hi)) | (go_at_call 66; (with_reducible refine (book_Fork.calls _ _ l0 _ _ l1 t108 t109 t110 t111 t112 _ ?side1 ?side2 ?side3 ?side4 A13.out).mono ?_); (case side1 => repeat (first | exact (Kd.C_below HR0.out HB.out) | (with_reducible refine Kd.C_alloc ?_ _) | (with_reducible refine Kd.C_drewN ?_ _) | (with_reducible refine Kd.C_drew ?_))); (case side2 => exact HC0.out); (case side3 => repeat (first | exact (Kd.C_below HR1.out HB.out) | (with_reducible refine Kd.C_alloc ?_ _) | (with_reducible refine Kd.C_drewN ?_ _) | (with_reducible refine Kd.C_drew ?_))); (case side4 => exact HC1.out); rintro e w86 ⟨v113, v115, rfl, ho0, ho1, hb⟩; have n0_ := Aside0.mk (Kd.R_lower ho0 (below_size (by repeat (first | (with_reducible first | exact HB.out | apply below_alloc | apply pw_below_drewN | apply below_drew1) | exact HB.out)))); have n1_ := Aside0.mk (Kd.R_lower ho1 (below_size (by repeat (first | (with_reducible first | exact HB.out | apply below_alloc | apply pw_below_drewN | apply below_drew1) | exact HB.out)))); have n2_ := Aside0.mk (below_step (by repeat (first | (with_reducible first | exact HB.out | apply below_alloc | apply pw_below_drewN | apply below_drew1) | exact HB.out)) hb); clear HB; have HO114 := n0_; have HO116 := n1_; have HB := n2_; clear n0_ n1_ n2_; (try clear hb); (try clear hb2); (try clear hk); (try clear hi); (try clear ho0); (try clear ho1))))
          go_ret
          exact ⟨by first | rfl | (simp [errW_none, errW_some] <;> rfl) | (simp [*, errW_none, errW_some] <;> rfl), by repeat (first | (with_reducible first | exact HB.out | apply below_alloc | apply pw_below_drewN | apply below_drew1) | exact HB.out)⟩
end Go.Proofs.Ytmfphlfakmnbmaa.B
end

section
namespace Go.Proofs.Ytmfphlfakmnbmaa.B
open Go.RowKit Go.Proofs.YtmfphlfakmnbmaaW.PrintWords Go.Proofs.YtmfphlfakmnbmaaW.PrintLast Go.Proofs.YtmfphlfakmnbmaaW.PrintMore
attribute [local go_sem] max2_int min2_int max_two min_two max_three min_three max_four min_four
theorem half_pow {g m : Nat} (h2 : 2 ≤ g) (hm : m ≤ 6) (h : g ≤ 2 ^ (m + 1)) (h64 : g ≤ 64) : halfP g ≤ 2 ^ m ∧ g - halfP g ≤ 2 ^ m := by
  have : ∀ x : Fin 65, ∀ y : Fin 7, 2 ≤ x.val → x.val ≤ 2 ^ (y.val + 1) → halfP x.val ≤ 2 ^ y.val ∧ x.val - halfP x.val ≤ 2 ^ y.val := by decide +kernel
  exact this ⟨g, by omega⟩ ⟨m, by omega⟩ h2 h
theorem cmp_pairs : ∀ (m f : Nat) (a b : List S29) (i n : Nat), a.length ≤ 64 → m ≤ 6 → a.length ≤ 2 ^ m → n ≤ (cmpGo f a b i n).2 ∧ (cmpGo f a b i n).2 ≤ n + m
  | m, 0, a, b, i, n, _, _, _ => ⟨Nat.le_refl _, Nat.le_add_right _ _⟩
  | m, f + 1, a, b, i, n, h64, hm, h => by
    rw [cmpGo]
    by_cases h1 : a.length ≤ 1
    · rw [if_pos h1]; exact ⟨Nat.le_refl _, Nat.le_add_right _ _⟩
    · rw [if_neg h1]
      have hb := halfP_bounds (n := a.length) (by omega) h64
      obtain ⟨m, rfl⟩ : ∃ q, m = q + 1 := by
        cases m with
        | zero => simp at h; omega
        | succ m => exact ⟨m, rfl⟩
      have hp := half_pow (g := a.length) (m := m) (by omega) (by omega) h h64
      split
      · have := cmp_pairs m f (a.drop (halfP a.length)) (b.drop (halfP a.length)) (i + halfP a.length) (n + 1) (by rw [List.length_drop]; omega) (by omega) (by rw [List.length_drop]; exact hp.2)
        omega
      · have := cmp_pairs m f (a.take (halfP a.length)) (b.take (halfP a.length)) i (n + 1) (by rw [List.length_take]; omega) (by omega) (by rw [List.length_take]; omega)
        omega
theorem part_in {l : List S29} (hc : checkP l = 0) {i g : Nat} (h : i + g ≤ l.length) : book_Part.f l (i : Int) (g : Int) = some (rootP ((l.take (i + g)).drop i), 0) := by
  unfold book_Part.f partP
  rw [if_pos hc, if_pos (by omega)]
  unfold cutP
  rw [show ((i : Int) + (g : Int)).toNat = i + g by omega, Int.toNat_natCast]
theorem compares_half {x0 x1 : List S29} {x5 x9 : Int} {x7 x12 : Bool} {i g : Nat} (h64 : g ≤ 64) {r : Bool} : ∀ (f n : Nat), 1 ≤ n → n ≤ 64 → halfGo f g n = halfP g →
    Ev (fun k => calxlaw08_BookCompares.l1 k x0 x1 x5 x7 x9 x12 (i : Int) (g : Int) ((halfP g : Nat) : Int)) r → Ev (fun k => calxlaw08_BookCompares.l1 k x0 x1 x5 x7 x9 x12 (i : Int) (g : Int) (n : Int)) r := by
  intro f
  induction f with
  | zero =>
    intro n _ _ he hr
    have : n = halfP g := he
    rw [this]
    exact hr
  | succ f ih =>
    intro n h1 hn he hr
    rw [halfGo] at he
    by_cases hlt : 2 * n < g
    · rw [if_pos hlt] at he
      refine (ih (2 * n) (by omega) (by omega) he hr).step 0 fun k _ => ?_
      simp only [calxlaw08_BookCompares.l1]
      rw [show wrap64 (2 * (n : Int)) = ((2 * n : Nat) : Int) by unfold wrap64; omega, if_pos (by omega)]
    · rw [if_neg hlt] at he
      rw [he]
      exact hr
theorem wrap_sub {g h : Nat} (h1 : h ≤ g) (h2 : g ≤ 1000) : wrap64 ((g : Int) - (h : Int)) = ((g - h : Nat) : Int) := by unfold wrap64; omega
theorem wrap_add {g h : Nat} (h1 : h ≤ 1000) (h2 : g ≤ 1000) : wrap64 ((g : Int) + (h : Int)) = ((g + h : Nat) : Int) := by unfold wrap64; omega
theorem compares_go {a b : List S29} (ha : checkP a = 0) (hb : checkP b = 0) (hl : a.length = b.length) {n1 : Nat} :
    ∀ (f g i n : Nat), g ≤ f → 1 ≤ g → i + g ≤ a.length → a.take i = b.take i → rootP ((a.take (i + g)).drop i) ≠ rootP ((b.take (i + g)).drop i) → (cmpGo f ((a.take (i + g)).drop i) ((b.take (i + g)).drop i) i n).1 = n1 →
    Ev (fun k => calxlaw08_BookCompares.l0 k a b (n1 : Int) true (forkAt a b : Int) true (i : Int) (g : Int)) true := by
  have h64 := check_len ha
  have HA := Aside0.mk ha
  have HB := Aside0.mk hb
  clear ha hb
  intro f
  induction f with
  | zero => intro g i n hg h1; omega
  | succ f ih =>
    intro g i n hg h1 hi hpre hne hgo
    have hlenA : ((a.take (i + g)).drop i).length = g := by rw [List.length_drop, List.length_take]; omega
    rw [cmpGo, hlenA] at hgo
    -- the head of a round: both digests, which are not the same
    have head : ∀ r, Ev (fun k => calxlaw08_BookCompares.j5 k a b (n1 : Int) true (forkAt a b : Int) true (i : Int) (g : Int) (decide (g = 1))) r → Ev (fun k => calxlaw08_BookCompares.l0 k a b (n1 : Int) true (forkAt a b : Int) true (i : Int) (g : Int)) r := by
      intro r hr
      obtain ⟨X, hX⟩ : ∃ X, X = rootP ((a.take (i + g)).drop i) := ⟨_, rfl⟩
      obtain ⟨Y, hY⟩ : ∃ Y, Y = rootP ((b.take (i + g)).drop i) := ⟨_, rfl⟩
      rw [← hX, ← hY] at hne
      have hXY : (X == Y) = false := by rw [beq_eq_false_iff_ne]; exact hne
      have h4 : Ev (fun k => calxlaw08_BookCompares.j4 k a b (n1 : Int) true (forkAt a b : Int) true (i : Int) (g : Int) X Y false) r := by
        refine hr.step 0 fun k _ => ?_
        simp only [calxlaw08_BookCompares.j4]
        rw [if_neg (by decide)]
        by_cases hg1 : g = 1
        · rw [if_pos (by omega), decide_eq_true hg1]
        · rw [if_neg (by omega), decide_eq_false hg1, hXY]
      have h3 : Ev (fun k => calxlaw08_BookCompares.j3 k a b (n1 : Int) true (forkAt a b : Int) true (i : Int) (g : Int) X Y false) r := by
        refine h4.step 0 fun k _ => ?_
        simp only [calxlaw08_BookCompares.j3]
        rw [if_neg (by decide), if_neg hne]
      refine h3.step 0 fun k _ => ?_
      simp only [calxlaw08_BookCompares.l0]
      rw [if_pos (by omega), part_in HA.out hi, Option.bind_some, part_in HB.out (by omega), Option.bind_some, if_pos rfl, ← hX, ← hY]
      rfl
    by_cases hg1 : g = 1
    · subst hg1
      rw [if_pos (by omega)] at hgo
      have hn1 : n1 = i := hgo.symm
      subst hn1
      refine head true ?_
      have hfork : forkAt a b = n1 := by
        refine forkAt_hit (by omega) ?_ (fun j hj => ?_)
        · cases hh : neP (a.getD n1 z29) (b.getD n1 z29) with
          | true => rfl
          | false =>
            exfalso
            apply hne
            have he := neP_iff.1 hh
            have hone : ∀ {l : List S29}, n1 < l.length → (l.take (n1 + 1)).drop n1 = [l.getD n1 z29] := fun {l} h => by
              rw [List.take_succ_eq_append_getElem h, List.drop_append_of_le_length (by rw [List.length_take]; omega), List.drop_eq_nil_of_le (by rw [List.length_take]; omega), List.nil_append]
              simp [List.getD_eq_getElem?_getD, List.getElem?_eq_getElem h]
            rw [hone (by omega), hone (by omega), he]
        · have h2 : (a.take n1)[j]? = (b.take n1)[j]? := by rw [hpre]
          rw [List.getElem?_take, List.getElem?_take, if_pos hj, if_pos hj] at h2
          rw [neP_iff, List.getD_eq_getElem?_getD, List.getD_eq_getElem?_getD, h2]
      refine Ev.now 0 fun k _ => ?_
      simp only [calxlaw08_BookCompares.j5]
      rw [if_pos (by simp)]
      show ((some true).bind fun t133 => _) = _
      rw [Option.bind_some, if_pos rfl, if_pos (by rfl), hfork]
      simp
    · rw [if_neg (by omega)] at hgo
      have hb2 := halfP_bounds (n := g) (by omega) (by omega)
      obtain ⟨h, hh⟩ : ∃ h, h = halfP g := ⟨_, rfl⟩
      rw [← hh] at hb2 hgo
      rw [cut_take2 a (by omega), cut_take2 b (by omega), cut_drop2 a (by omega), cut_drop2 b (by omega)] at hgo
      obtain ⟨U, hU⟩ : ∃ U, U = rootP ((a.take (i + h)).drop i) := ⟨_, rfl⟩
      obtain ⟨V, hV⟩ : ∃ V, V = rootP ((b.take (i + h)).drop i) := ⟨_, rfl⟩
      rw [← hU, ← hV] at hgo
      have HGO := Aside0.mk hgo
      have HNE := Aside0.mk hne
      have HU := Aside0.mk hU
      have HV := Aside0.mk hV
      clear hgo hne hU hV
      refine head true ?_
      have hl1 : Ev (fun k => calxlaw08_BookCompares.l1 k a b (n1 : Int) true (forkAt a b : Int) true (i : Int) (g : Int) ((halfP g : Nat) : Int)) true → Ev (fun k => calxlaw08_BookCompares.j5 k a b (n1 : Int) true (forkAt a b : Int) true (i : Int) (g : Int) (decide (g = 1))) true := by
        intro hr
        refine (compares_half (by omega) 7 1 (by omega) (by omega) rfl hr).step 0 fun k _ => ?_
        simp only [calxlaw08_BookCompares.j5]
        rw [decide_eq_false hg1, if_neg (by decide)]
        rfl
      refine hl1 ?_
      rw [← hh]
      -- the exit of the halving loop
      have hexit : Ev (fun k => calxlaw08_BookCompares.j7 k a b (n1 : Int) true (forkAt a b : Int) true (i : Int) (g : Int) (h : Int) U V false) true → Ev (fun k => calxlaw08_BookCompares.l1 k a b (n1 : Int) true (forkAt a b : Int) true (i : Int) (g : Int) (h : Int)) true := by
        intro hr
        refine hr.step 0 fun k _ => ?_
        simp only [calxlaw08_BookCompares.l1]
        rw [show wrap64 (2 * (h : Int)) = 2 * (h : Int) by unfold wrap64; omega, if_neg (by omega), part_in HA.out (by omega), Option.bind_some, part_in HB.out (by omega), Option.bind_some, if_pos rfl, ← HU.out, ← HV.out]
        rfl
      refine hexit ?_
      have hw : wrap64 ((i : Int) + (h : Int)) = ((i + h : Nat) : Int) := wrap_add (by omega) (by omega)
      have hw2 : wrap64 ((g : Int) - (h : Int)) = ((g - h : Nat) : Int) := wrap_sub (by omega) (by omega)
      by_cases huv : U = V
      · have hgo := HGO.out
        rw [if_pos huv] at hgo
        by_cases hsame : (a.take (i + h)).drop i = (b.take (i + h)).drop i
        · -- go on in the right half
          have hpre2 : a.take (i + h) = b.take (i + h) := by
            have e1 : ∀ l : List S29, l.take (i + h) = l.take i ++ (l.take (i + h)).drop i := fun l => by
              conv => lhs; rw [← List.take_append_drop i (l.take (i + h))]
              rw [List.take_take, show min i (i + h) = i by omega]
            rw [e1 a, e1 b, hpre, hsame]
          have hne2 : rootP ((a.take (i + h + (g - h))).drop (i + h)) ≠ rootP ((b.take (i + h + (g - h))).drop (i + h)) := by
            intro he
            apply HNE.out
            have hlenB : ((b.take (i + g)).drop i).length = g := by rw [List.length_drop, List.length_take]; omega
            have r1 := rootP_cut ((a.take (i + g)).drop i) (by omega) (by omega)
            have r2 := rootP_cut ((b.take (i + g)).drop i) (by omega) (by omega)
            rw [hlenA, ← hh, cut_take2 a (by omega), cut_drop2 a (by omega)] at r1
            rw [hlenB, ← hh, cut_take2 b (by omega), cut_drop2 b (by omega)] at r2
            rw [r1, r2, he, ← HU.out, ← HV.out, huv]
          have hr := ih (g - h) (i + h) (n + 1) (by omega) (by omega) (by omega) hpre2 hne2 hgo
          have h8 : Ev (fun k => calxlaw08_BookCompares.j8 k a b (n1 : Int) true (forkAt a b : Int) true (i : Int) (g : Int) (h : Int) U V false) true := by
            refine hr.step 0 fun k _ => ?_
            simp only [calxlaw08_BookCompares.j8]
            rw [if_neg (by decide), if_pos huv, hw, hw2]
          refine h8.step 100 fun k hk => ?_
          simp only [calxlaw08_BookCompares.j7]
          rw [if_neg (by decide), if_pos huv, hw, if_pos (by omega), if_pos (by omega), if_pos (by omega), if_pos (by omega), Int.toNat_natCast, Int.toNat_natCast, same_book (by rw [List.length_drop, List.length_take]; omega) (by omega), Option.bind_some, decide_eq_true hsame]
          rfl
        · -- two trees with the same digest, though their entries are different
          have h8 : Ev (fun k => calxlaw08_BookCompares.j8 k a b (n1 : Int) true (forkAt a b : Int) true (i : Int) (g : Int) (h : Int) U V true) true := by
            refine Ev.now 0 fun k _ => ?_
            simp only [calxlaw08_BookCompares.j8]
            rw [if_pos trivial]
            rfl
          refine h8.step 100 fun k hk => ?_
          simp only [calxlaw08_BookCompares.j7]
          rw [if_neg (by decide), if_pos huv, hw, if_pos (by omega), if_pos (by omega), if_pos (by omega), if_pos (by omega), Int.toNat_natCast, Int.toNat_natCast, same_book (by rw [List.length_drop, List.length_take]; omega) (by omega), Option.bind_some, decide_eq_false hsame]
          rfl
      · have hgo := HGO.out
        rw [if_neg huv] at hgo
        have hr := ih h i (n + 1) (by omega) (by omega) (by omega) hpre (by rw [← HU.out, ← HV.out]; exact huv) hgo
        have h8 : Ev (fun k => calxlaw08_BookCompares.j8 k a b (n1 : Int) true (forkAt a b : Int) true (i : Int) (g : Int) (h : Int) U V false) true := by
          refine hr.step 0 fun k _ => ?_
          simp only [calxlaw08_BookCompares.j8]
          rw [if_neg (by decide), if_neg huv]
        refine h8.step 0 fun k _ => ?_
        simp only [calxlaw08_BookCompares.j7]
        rw [if_neg (by decide), if_neg huv]
theorem compares_main {a b : List S29} (hl : a.length = b.length) (h0 : a.length ≠ 0) : Ev (fun k => calxlaw08_BookCompares.j0 k a b false) true := by
  by_cases ha : checkP a = 0
  · by_cases hb : checkP b = 0
    · have h64 := check_len ha
      have hmin : min a.length b.length = a.length := by omega
      obtain ⟨hf1, hf2, hf3⟩ := fork_spec a b
      by_cases hr : rootP a = rootP b
      · have hcp : compareP a b = ((a.length : Int), 1, false, 0) := by
          unfold compareP
          rw [if_pos ha, if_pos hb, if_pos ⟨hl, h0⟩, if_pos hr]
        -- the first round ends it
        have hA : (a.take (0 + a.length)).drop 0 = a := by rw [Nat.zero_add, List.take_length, List.drop_zero]
        have hB : (b.take (0 + a.length)).drop 0 = b := by rw [Nat.zero_add, hl, List.take_length, List.drop_zero]
        have hpa := part_in ha (i := 0) (g := a.length) (by omega)
        have hpb := part_in hb (i := 0) (g := a.length) (by omega)
        rw [hA] at hpa
        rw [hB] at hpb
        have hj1 : ∀ (m : Int) (is : Bool), (a = b → (m = (a.length : Int) ∧ is = false)) → Ev (fun k => calxlaw08_BookCompares.j1 k a b (a.length : Int) false m is false) true := by
          intro m is hm
          have h4 : Ev (fun k => calxlaw08_BookCompares.j4 k a b (a.length : Int) false m is 0 (a.length : Int) (rootP a) (rootP b) (!decide (a = b))) true := by
            by_cases hab : a = b
            · obtain ⟨rfl, rfl⟩ := hm hab
              have h5 : Ev (fun k => calxlaw08_BookCompares.j5 k a b (a.length : Int) false (a.length : Int) false 0 (a.length : Int) true) true := by
                refine Ev.now 0 fun k _ => ?_
                simp only [calxlaw08_BookCompares.j5]
                rw [if_pos trivial]
                show ((some true).bind fun t133 => _) = _
                rw [Option.bind_some, if_pos rfl, if_pos (by rfl)]
                simp
              refine h5.step 0 fun k _ => ?_
              simp only [calxlaw08_BookCompares.j4]
              rw [decide_eq_true hab, if_neg (by decide), show (rootP a == rootP b) = true by rw [beq_iff_eq]; exact hr]
              split <;> rfl
            · refine Ev.now 0 fun k _ => ?_
              simp only [calxlaw08_BookCompares.j4]
              rw [decide_eq_false hab, if_pos (by rfl)]
              rfl
          have h3 : Ev (fun k => calxlaw08_BookCompares.j3 k a b (a.length : Int) false m is 0 (a.length : Int) (rootP a) (rootP b) false) true := by
            refine h4.step 100 fun k hk => ?_
            simp only [calxlaw08_BookCompares.j3]
            have hw : wrap64 (0 + (a.length : Int)) = ((0 + a.length : Nat) : Int) := by unfold wrap64; omega
            rw [if_neg (by decide), if_pos hr, hw, if_pos (by omega), if_pos (by omega), if_pos (by omega), if_pos (by omega), Int.toNat_natCast, show (0 : Int).toNat = 0 from rfl, hA, hB, same_book h64 (by omega), Option.bind_some]
          have hl0 : Ev (fun k => calxlaw08_BookCompares.l0 k a b (a.length : Int) false m is 0 (a.length : Int)) true := by
            refine h3.step 0 fun k _ => ?_
            simp only [calxlaw08_BookCompares.l0]
            rw [if_pos (by omega), show book_Part.f a 0 (a.length : Int) = some (rootP a, 0) from hpa, Option.bind_some, show book_Part.f b 0 (a.length : Int) = some (rootP b, 0) from hpb, Option.bind_some, if_pos rfl]
            rfl
          refine hl0.step 0 fun k _ => ?_
          simp only [calxlaw08_BookCompares.j1]
          rw [if_neg (by decide)]
        have hfe : a = b → (forkP a b).1 = (a.length : Int) ∧ (forkP a b).2.2.2.1 = false := by
          intro hab
          unfold forkP
          rw [if_pos ha, if_pos hb]
          have : forkAt a b = min a.length b.length := forkAt_none (fun i hi => by rw [hab]; exact neP_iff.2 rfl)
          rw [this, if_pos rfl, hmin]
          exact ⟨rfl, rfl⟩
        have hfz : (forkP a b).2.2.2.2 = 0 := by
          unfold forkP
          rw [if_pos ha, if_pos hb]
          split <;> rfl
        refine (hj1 _ _ hfe).step 0 fun k _ => ?_
        simp only [calxlaw08_BookCompares.j0]
        rw [if_neg (by decide)]
        unfold book_Compare.f book_Fork.f
        rw [Option.bind_some, Option.bind_some, hcp, hfz, if_pos rfl, if_pos rfl, if_neg (by show ¬ ((1 : Int) < 1); decide)]
        rfl
      · have hcp : compareP a b = (((cmpGo 64 a b 0 1).1 : Int), ((cmpGo 64 a b 0 1).2 : Int), true, 0) := by
          unfold compareP
          rw [if_pos ha, if_pos hb, if_pos ⟨hl, h0⟩, if_neg hr]
        have hpairs := cmp_pairs 6 64 a b 0 1 h64 (Nat.le_refl _) (by show a.length ≤ 64; exact h64)
        have hab : forkAt a b ≠ min a.length b.length := by
          intro he
          apply hr
          rw [he, hmin, List.take_length] at hf2
          conv at hf2 => rhs; rw [hl, List.take_length]
          rw [hf2]
        have hfk : forkP a b = ((forkAt a b : Int), standsP a (forkAt a b), standsP b (forkAt a b), true, 0) := by
          unfold forkP
          rw [if_pos ha, if_pos hb, if_neg hab]
        have hgo := compares_go ha hb hl (n1 := (cmpGo 64 a b 0 1).1) 64 a.length 0 1 h64 (by omega) (by omega) rfl (by
          rw [Nat.zero_add, List.take_length, hl, List.take_length, List.drop_zero, List.drop_zero]; exact hr) (by
          rw [Nat.zero_add, List.take_length, hl, List.take_length, List.drop_zero, List.drop_zero])
        have hj1 : Ev (fun k => calxlaw08_BookCompares.j1 k a b ((cmpGo 64 a b 0 1).1 : Int) true (forkAt a b : Int) true false) true := by
          refine hgo.step 0 fun k _ => ?_
          simp only [calxlaw08_BookCompares.j1]
          rw [if_neg (by decide)]
          rfl
        refine hj1.step 0 fun k _ => ?_
        simp only [calxlaw08_BookCompares.j0]
        rw [if_neg (by decide)]
        unfold book_Compare.f book_Fork.f
        rw [Option.bind_some, Option.bind_some, hcp, hfk, if_pos rfl, if_pos rfl, if_neg (by show ¬ (((cmpGo 64 a b 0 1).2 : Int) < 1); omega), decide_eq_false (by show ¬ (((cmpGo 64 a b 0 1).2 : Int) > 7); omega)]
    · refine Ev.now 0 fun k _ => ?_
      simp only [calxlaw08_BookCompares.j0]
      rw [if_neg (by decide)]
      unfold book_Compare.f book_Fork.f compareP forkP
      rw [if_pos ha, if_neg hb, if_pos ha, if_neg hb, Option.bind_some, Option.bind_some, if_pos rfl, if_neg hb]
      rfl
  · refine Ev.now 0 fun k _ => ?_
    simp only [calxlaw08_BookCompares.j0]
    rw [if_neg (by decide)]
    unfold book_Compare.f book_Fork.f compareP forkP
    rw [if_neg ha, if_neg ha, Option.bind_some, Option.bind_some, if_pos rfl, if_neg ha]
    rfl
theorem pureBookCompares (a : List S29) (_ : a.length ≤ 9223372036854775807) (_ : ∀ x ∈ a, Wf4 x) (b : List S29) (_ : b.length ≤ 9223372036854775807) (_ : ∀ x ∈ b, Wf4 x) : ∃ k, calxlaw08_BookCompares.f k a b = some true := by
  have hf : ∀ l, ∃ b, calxlaw08_few.f l = some b := by intro l; unfold calxlaw08_few.f; split; exact ⟨_, rfl⟩; split <;> exact ⟨_, rfl⟩
  obtain ⟨t1, ht1⟩ := hf a
  obtain ⟨t2, ht2⟩ := hf b
  have htrue : Ev (fun k => calxlaw08_BookCompares.j0 k a b true) true := by
    refine Ev.now 0 fun k _ => ?_
    simp only [calxlaw08_BookCompares.j0]
    rfl
  refine Ev.at_ (f := fun k => calxlaw08_BookCompares.f k a b) ?_
  have hj : ∀ t : Bool, (t = false → a.length = b.length ∧ a.length ≠ 0) → Ev (fun k => calxlaw08_BookCompares.j0 k a b t) true := by
    intro t ht
    cases t with
    | true => exact htrue
    | false => exact compares_main (ht rfl).1 (ht rfl).2
  cases t1 with
  | false =>
    refine htrue.same 0 fun k _ => ?_
    unfold calxlaw08_BookCompares.f
    rw [ht1, Option.bind_some, if_neg (by decide)]
  | true =>
    cases t2 with
    | false =>
      refine htrue.same 0 fun k _ => ?_
      unfold calxlaw08_BookCompares.f
      rw [ht1, Option.bind_some, if_pos rfl, ht2, Option.bind_some, if_neg (by decide)]
    | true =>
      by_cases hl : a.length = b.length
      · refine (hj ((a.length : Int) == 0) (fun h => ⟨hl, fun e => by rw [beq_eq_false_iff_ne] at h; omega⟩)).same 0 fun k _ => ?_
        unfold calxlaw08_BookCompares.f
        rw [ht1, Option.bind_some, if_pos rfl, ht2, Option.bind_some, if_pos rfl, if_pos (by omega)]
      · refine htrue.same 0 fun k _ => ?_
        unfold calxlaw08_BookCompares.f
        rw [ht1, Option.bind_some, if_pos rfl, ht2, Option.bind_some, if_pos rfl, if_neg (by omega)]
end Go.Proofs.Ytmfphlfakmnbmaa.B
end

section
namespace Go.Proofs.Ytmfphlfakmnbmaa.bookCompares
open Go.ChangeShapes Go.WideShapes Go.ChangeAt Go.RowKit Go.Proofs.Ytmfphlfakmnbmaa.B
open Go.ChangeMaps (open_string shut_string)
theorem own : ownKnob Try.prog.godebug = none := by kernel_rfl
theorem laidOut : laidOutB Try.prog = true := by kernel_rfl
set_option maxRecDepth 100000 in
theorem lifted (os : Os) (started : os.Started) (H : Type) (enc : TypeId × Value → H) :
    ReturnsInHanded {} Try.checked os 14 .any (Rows.bookComparesSpec.pre6 enc Try.prog Try.f14 Rows.bookComparesRow.domain false) (Rows.bookComparesSpec.post enc Try.prog Try.f14 false true false false) := by
  refine returnsInHanded_of_change_sized (C := Try.checked) own started (by kernel_rfl) Try.func14
    (ChangeSpec.witness6 (enc := enc) (C := Try.checked) false ⟨#[], #[.slice none 0 0, .slice none 0 0], []⟩ 8 (by kernel_rfl) (by kernel_rfl) (by kernel_rfl) (by kernel_rfl)) ?_
  intro W base args ds gs before hval0 hW hcnd hsz0 _
  have hval : ∀ (j : Nat) t v, Try.f14.params[j]? = some t → args[j]? = some v → Value.okWide Try.prog W .any base t v := hval0
  have hW' := hW
  obtain ⟨p, q, hA0, hV, rfl, hfz, hnd⟩ := hW
  have hA : DataW.TrodAll enc Try.prog W 0 (fun _ => true) true Try.f14.params.toList args.toList ds p := hA0
  rw [Try.params14] at hA hval
  obtain ⟨v0, vs0, d0, ds0, p0, q0, hargs, rfl, rfl, h0, r0⟩ := trodAll_cons hA
  obtain ⟨v1, vs1, d1, ds1, p1, q1, rfl, rfl, rfl, h1, r1⟩ := trodAll_cons r0
  obtain ⟨rfl, rfl, rfl⟩ := trodAll_nil r1
  obtain rfl : args = #[v0, v1] := by cases args; simp_all
  obtain ⟨rfl, rfl⟩ := trodVars_none hV
  have k0 := h0
  have lt0 : ∀ x ∈ p0, x.block < W.heap.size := by obtain ⟨m, hm⟩ := k0; exact DataW.trod_lt m _ _ _ hm
  obtain ⟨a0, len0, cap0, rfl⟩ := okWide_slice Try.underlying32 (hval 0 32 v0 rfl rfl)
  obtain ⟨l0, rfl, c0, r0C, o0⟩ := arg_slice opens32 h0
  have k1 := h1
  have lt1 : ∀ x ∈ p1, x.block < W.heap.size := by obtain ⟨m, hm⟩ := k1; exact DataW.trod_lt m _ _ _ hm
  obtain ⟨a1, len1, cap1, rfl⟩ := okWide_slice Try.underlying32 (hval 1 32 v1 rfl rfl)
  obtain ⟨l1, rfl, c1, r1C, o1⟩ := arg_slice opens32 h1
  clear hA0 hval0 hsz0
  obtain ⟨k, hk⟩ := pureBookCompares l0 r0C.2.1 o0 l1 r1C.2.1 o1
  refine (calxlaw08_BookCompares.calls k _ _ l0 _ _ l1 true W r0C c0 r1C c1 hk).mono fun e W' ⟨he, bel⟩ => ?_
  subst he
  exact ⟨_, rfl, _, _, _, [], _, [], hW', trodAll_mk1 (shut_bool Try.underlying4 _), (trodAll_cons_mk (Below.trod laidOut (by kernel_rfl) (of_decide_eq_true (by kernel_rfl)) k0 bel lt0) (trodAll_cons_mk (Below.trod laidOut (by kernel_rfl) (of_decide_eq_true (by kernel_rfl)) k1 bel lt1) trodAll_mk0)), rfl, bel.frame _, fun h => by cases h⟩
theorem over : Rows.bookComparesRow.holds Try.pinned (OpenSpec.ofChange Rows.bookComparesSpec) :=
  OpenClaim.holds_of_wide 14 Try.f14 rfl rfl rfl rfl rfl rfl rfl ⟨rfl, rfl, rfl, rfl, rfl⟩ rfl rfl rfl rfl rfl (by kernel_rfl) Try.func14 (by kernel_rfl)
    (of_decide_eq_true (by kernel_rfl)) (by unfold Func.isWrapper; first | (rw [if_pos (by decide +kernel)]; kernel_rfl) | (rw [if_neg (by decide +kernel)]; exact ⟨rfl, rfl⟩))
    (fun os started H enc _ => lifted os started H enc)
theorem proved : Rows.BookComparesSaid := over
end Go.Proofs.Ytmfphlfakmnbmaa.bookCompares
namespace Go.Proofs.Ytmfphlfakmnbmaa
theorem bookCompares_holds : Rows.BookComparesSaid := bookCompares.proved
end Go.Proofs.Ytmfphlfakmnbmaa
end
