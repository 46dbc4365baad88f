/- Proved: for every book, every list of cuts, every turn and every piece left out the law BookWhole returns true and leaves its arguments as they were. Conditions: none. -/
import Derived.WalkKit
import Derived.ProofKit
import Derived.OpenShut
import Derived.ShutString
import Derived.ChangeOld
import Derived.Below
import Derived.SizedLaws
import Derived.Test.YtmfphlfakmnbmaaRows
import Derived.Test.YtmfphlfakmnbmaaQ1
import Derived.Test.YtmfphlfakmnbmaaQ2
import Derived.Test.YtmfphlfakmnbmaaQ3
import Derived.Test.YtmfphlfakmnbmaaQ4
import Derived.Test.YtmfphlfakmnbmaaQ5
import Derived.Test.YtmfphlfakmnbmaaPBookWhole1
set_option linter.unusedVariables false
set_option linter.unusedSimpArgs false
section
namespace Go.Proofs.Ytmfphlfakmnbmaa.B
open Go.RowKit Go.Proofs.YtmfphlfakmnbmaaW.PrintWords Go.Proofs.YtmfphlfakmnbmaaW.PrintLast Go.Proofs.YtmfphlfakmnbmaaW.PrintMore
attribute [local go_sem] max2_int min2_int max_two min_two max_three min_three max_four min_four
mutual
def calxlaw08_BookWhole.j0 : Nat → List (S29) → List Int → Int → Int → Bool → Option (Bool)
  | 0, _, _, _, _, _ => none
  | k + 1, x0, x1, x2, x3, x35 => if x35 = true then ((calxlaw08_sanity.f).bind fun t102 => (some t102)) else ((book_Root.f x0).bind fun bt103 => (if bt103.2 = 0 then (calxlaw08_BookWhole.l0 k x0 x1 x2 x3 bt103.1 ([] : List (S34)) 0 0) else ((calxlaw08_sanity.f).bind fun t105 => (some t105))))
def calxlaw08_BookWhole.l0 : Nat → List (S29) → List Int → Int → Int → Int → List (S34) → Int → Int → Option (Bool)
  | 0, _, _, _, _, _, _, _, _ => none
  | k + 1, x0, x1, x2, x3, x9, x11, x12, x13 => if x12 < (x0.length : Int) then (if x13 < (x1.length : Int) then (if 0 ≤ x13 then ((some (([] : List (S29)) : List (S29))).bind fun y107 => (if 0 ≤ x12 then (if x12 ≤ (wrap64 (x12 + (mn (wrap64 ((x0.length : Int) - x12)) (wrap64 (1 + (Int.tmod (wrap64 (rd x1 x13)) 9)))))) then (if (wrap64 (x12 + (mn (wrap64 ((x0.length : Int) - x12)) (wrap64 (1 + (Int.tmod (wrap64 (rd x1 x13)) 9)))))) ≤ (x0.length : Int) then ((some ((x0.take ((wrap64 (x12 + (mn (wrap64 ((x0.length : Int) - x12)) (wrap64 (1 + (Int.tmod (wrap64 (rd x1 x13)) 9)))))) : Int).toNat).drop (x12 : Int).toNat : List (S29))).bind fun y110 => (if y107.length + y110.length < 4398046511104 then (if x11.length < 4398046511104 then (calxlaw08_BookWhole.l0 k x0 x1 x2 x3 x9 (x11 ++ [(⟨x12, (y107 ++ y110)⟩ : S34)]) (wrap64 (x12 + (mn (wrap64 ((x0.length : Int) - x12)) (wrap64 (1 + (Int.tmod (wrap64 (rd x1 x13)) 9)))))) (wrap64 (x13 + 1))) else (none)) else (none))) else (none)) else (none)) else (none))) else (none)) else ((some (([] : List (S29)) : List (S29))).bind fun y120 => (if 0 ≤ x12 then (if x12 ≤ (wrap64 (x12 + (wrap64 ((x0.length : Int) - x12)))) then (if (wrap64 (x12 + (wrap64 ((x0.length : Int) - x12)))) ≤ (x0.length : Int) then ((some ((x0.take ((wrap64 (x12 + (wrap64 ((x0.length : Int) - x12)))) : Int).toNat).drop (x12 : Int).toNat : List (S29))).bind fun y123 => (if y120.length + y123.length < 4398046511104 then (if x11.length < 4398046511104 then (calxlaw08_BookWhole.l0 k x0 x1 x2 x3 x9 (x11 ++ [(⟨x12, (y120 ++ y123)⟩ : S34)]) (wrap64 (x12 + (wrap64 ((x0.length : Int) - x12)))) (wrap64 (x13 + 1))) else (none)) else (none))) else (none)) else (none)) else (none)))) else (calxlaw08_BookWhole.l1 k x0 x2 x3 x9 x11 ([] : List (S34)) 0)
def calxlaw08_BookWhole.l1 : Nat → List (S29) → Int → Int → Int → List (S34) → List (S34) → Int → Option (Bool)
  | 0, _, _, _, _, _, _, _ => none
  | k + 1, x0, x2, x3, x9, x11, x15, x16 => if x16 < (x11.length : Int) then (if (x11.length : Int) = 0 then (none) else (if 0 ≤ (Int.tmod (wrap64 (x16 + (wrap64 (x2)))) (x11.length : Int)) then (if (Int.tmod (wrap64 (x16 + (wrap64 (x2)))) (x11.length : Int)) < (x11.length : Int) then (if x15.length < 4398046511104 then (calxlaw08_BookWhole.l1 k x0 x2 x3 x9 x11 (x15 ++ [(⟨(rd_T34 x11 (Int.tmod (wrap64 (x16 + (wrap64 (x2)))) (x11.length : Int))).f0, (rd_T34 x11 (Int.tmod (wrap64 (x16 + (wrap64 (x2)))) (x11.length : Int))).f1⟩ : S34)]) (wrap64 (x16 + 1))) else (none)) else (none)) else (none))) else ((book_Whole.f x15 (x0.length : Int) x9).bind fun bt137 => (if (x15.length : Int) = 0 then (none) else ((some (([] : List (S34)) : List (S34))).bind fun y141 => (if 0 ≤ (Int.tmod (wrap64 (x3)) (x15.length : Int)) then (if (Int.tmod (wrap64 (x3)) (x15.length : Int)) ≤ (x15.length : Int) then ((some (x15.take ((Int.tmod (wrap64 (x3)) (x15.length : Int)) : Int).toNat : List (S34))).bind fun y144 => (if y141.length + y144.length < 4398046511104 then ((some (y141 ++ y144 : List (S34))).bind fun y149 => (if 0 ≤ (wrap64 ((Int.tmod (wrap64 (x3)) (x15.length : Int)) + 1)) then (if (wrap64 ((Int.tmod (wrap64 (x3)) (x15.length : Int)) + 1)) ≤ (x15.length : Int) then ((some (x15.drop ((wrap64 ((Int.tmod (wrap64 (x3)) (x15.length : Int)) + 1)) : Int).toNat : List (S34))).bind fun y152 => (if y149.length + y152.length < 4398046511104 then ((book_Whole.f (y149 ++ y152) (x0.length : Int) x9).bind fun bt160 => ((calxlaw08_sanity.f).bind fun t164 => (if t164 = true then (if bt137.2 = 0 then ((calxref08_SameBook.f k bt137.1 x0).bind fun t165 => (if t165 = true then (some (bt160.2 == 5)) else (some false))) else (some false)) else (some false)))) else (none))) else (none)) else (none))) else (none))) else (none)) else (none)))))
end
def calxlaw08_BookWhole.f (k : Nat) (l0 : List (S29)) (l1 : List Int) (a2 : Int) (a3 : Int) : Option (Bool) := (calxlaw08_few.f l0).bind fun t101 => (if t101 = true then (if (l0.length : Int) = 0 then (calxlaw08_BookWhole.j0 k l0 l1 a2 a3 true) else (calxlaw08_BookWhole.j0 k l0 l1 a2 a3 (decide ((l1.length : Int) > 11)))) else (calxlaw08_BookWhole.j0 k l0 l1 a2 a3 true))
theorem calxlaw08_BookWhole.mono_l : ∀ k, (∀ y0 y1 y2 y3 y4, LeO (calxlaw08_BookWhole.j0 k y0 y1 y2 y3 y4) (calxlaw08_BookWhole.j0 (k + 1) y0 y1 y2 y3 y4)) ∧ (∀ y0 y1 y2 y3 y4 y5 y6 y7, LeO (calxlaw08_BookWhole.l0 k y0 y1 y2 y3 y4 y5 y6 y7) (calxlaw08_BookWhole.l0 (k + 1) y0 y1 y2 y3 y4 y5 y6 y7)) ∧ (∀ y0 y1 y2 y3 y4 y5 y6, LeO (calxlaw08_BookWhole.l1 k y0 y1 y2 y3 y4 y5 y6) (calxlaw08_BookWhole.l1 (k + 1) y0 y1 y2 y3 y4 y5 y6))
  | 0 => ⟨fun _ _ _ _ _ r h => by simp [calxlaw08_BookWhole.j0] at h, fun _ _ _ _ _ _ _ _ r h => by simp [calxlaw08_BookWhole.l0] at h, fun _ _ _ _ _ _ _ r h => by simp [calxlaw08_BookWhole.l1] at h⟩
  | k + 1 => by
    obtain ⟨ih0, ih1, ih2⟩ := calxlaw08_BookWhole.mono_l k
    refine ⟨?_, ?_, ?_⟩
    · intro y0 y1 y2 y3 y4
      unfold calxlaw08_BookWhole.j0
      repeat' first
      | (with_reducible exact ih0 _ _ _ _ _)
      | (with_reducible exact ih1 _ _ _ _ _ _ _ _)
      | (with_reducible exact ih2 _ _ _ _ _ _ _)
      | (with_reducible exact calxref08_SameBook.mono _ _ _)
      | (with_reducible exact LeO.refl _)
      | (with_reducible exact LeO.none _)
      | (with_reducible refine LeO.ite ?_ ?_)
      | (with_reducible refine LeO.bind ?_ (fun _ => ?_))
      | exact ih0 _ _ _ _ _
      | exact ih1 _ _ _ _ _ _ _ _
      | exact ih2 _ _ _ _ _ _ _
      | exact calxref08_SameBook.mono _ _ _
      | exact LeO.none _
      | refine LeO.ite ?_ ?_
      | refine LeO.bind ?_ (fun _ => ?_)
    · intro y0 y1 y2 y3 y4 y5 y6 y7
      unfold calxlaw08_BookWhole.l0
      repeat' first
      | (with_reducible exact ih0 _ _ _ _ _)
      | (with_reducible exact ih1 _ _ _ _ _ _ _ _)
      | (with_reducible exact ih2 _ _ _ _ _ _ _)
      | (with_reducible exact calxref08_SameBook.mono _ _ _)
      | (with_reducible exact LeO.refl _)
      | (with_reducible exact LeO.none _)
      | (with_reducible refine LeO.ite ?_ ?_)
      | (with_reducible refine LeO.bind ?_ (fun _ => ?_))
      | exact ih0 _ _ _ _ _
      | exact ih1 _ _ _ _ _ _ _ _
      | exact ih2 _ _ _ _ _ _ _
      | exact calxref08_SameBook.mono _ _ _
      | exact LeO.none _
      | refine LeO.ite ?_ ?_
      | refine LeO.bind ?_ (fun _ => ?_)
    · intro y0 y1 y2 y3 y4 y5 y6
      unfold calxlaw08_BookWhole.l1
      repeat' first
      | (with_reducible exact ih0 _ _ _ _ _)
      | (with_reducible exact ih1 _ _ _ _ _ _ _ _)
      | (with_reducible exact ih2 _ _ _ _ _ _ _)
      | (with_reducible exact calxref08_SameBook.mono _ _ _)
      | (with_reducible exact LeO.refl _)
      | (with_reducible exact LeO.none _)
      | (with_reducible refine LeO.ite ?_ ?_)
      | (with_reducible refine LeO.bind ?_ (fun _ => ?_))
      | exact ih0 _ _ _ _ _
      | exact ih1 _ _ _ _ _ _ _ _
      | exact ih2 _ _ _ _ _ _ _
      | exact calxref08_SameBook.mono _ _ _
      | exact LeO.none _
      | refine LeO.ite ?_ ?_
      | refine LeO.bind ?_ (fun _ => ?_)
theorem calxlaw08_BookWhole.mono : ∀ a0 a1 a2 a3 k, LeO (calxlaw08_BookWhole.f k a0 a1 a2 a3) (calxlaw08_BookWhole.f (k + 1) a0 a1 a2 a3) := by
  intro a0 a1 a2 a3 k
  obtain ⟨ih0, ih1, ih2⟩ := calxlaw08_BookWhole.mono_l k
  unfold calxlaw08_BookWhole.f
  repeat' first
      | (with_reducible exact ih0 _ _ _ _ _)
      | (with_reducible exact ih1 _ _ _ _ _ _ _ _)
      | (with_reducible exact ih2 _ _ _ _ _ _ _)
      | (with_reducible exact calxref08_SameBook.mono _ _ _)
      | (with_reducible exact LeO.refl _)
      | (with_reducible exact LeO.none _)
      | (with_reducible refine LeO.ite ?_ ?_)
      | (with_reducible refine LeO.bind ?_ (fun _ => ?_))
      | exact ih0 _ _ _ _ _
      | exact ih1 _ _ _ _ _ _ _ _
      | exact ih2 _ _ _ _ _ _ _
      | exact calxref08_SameBook.mono _ _ _
      | exact LeO.none _
      | refine LeO.ite ?_ ?_
      | refine LeO.bind ?_ (fun _ => ?_)
def calxlaw08_BookWhole.T23 : Bool × List (List Nat × List Nat) := (true, [([], []), ([], []), ([], []), ([1, 2], [1, 2]), ([0, 3], [0, 3]), ([], []), ([], []), ([6], [6]), ([5, 7], [5, 7]), ([4, 8, 4], [4, 8]), ([9, 9, 0, 1, 2, 3, 4, 5, 6, 7, 8, 9], [9])])
def calxlaw08_BookWhole.B23 : List Nat := [0, 0, 0, 6, 15, 0, 0, 64, 224, 511, 1023]
theorem calxlaw08_BookWhole.tab23 : rtab .any (opsOf Try.f11 23) = calxlaw08_BookWhole.T23 := by kernel_rfl
theorem calxlaw08_BookWhole.bits23 : waitsOk calxlaw08_BookWhole.T23.2 calxlaw08_BookWhole.B23 = true := by kernel_rfl
set_option maxHeartbeats 8000000 in
set_option maxRecDepth 100000 in
theorem calxlaw08_BookWhole.calls (k : Nat) (A0 : Option Addr) (c0 : Nat) (l0 : List (S29)) (A1 : Option Addr) (c1 : Nat) (l1 : List Int) (a2 : Int) (a3 : Int) (r : Bool) (w : World) (hr0 : Kd.C k29 w A0 l0.length l0) (hc0 : l0.length ≤ c0) (hr1 : Kd.C (Kd.int .u8) w A1 l1.length l1) (hc1 : l1.length ≤ c1) (h : calxlaw08_BookWhole.f k l0 l1 a2 a3 = some r) :
    Calls Try.prog 11 #[.slice A0 l0.length c0, .slice A1 l1.length c1, .int .u8 a2, .int .u8 a3] w fun e w' => e = .returned (.bool r) ∧ Below w.heap.size w w' := by
  have hu34 := Try.underlying34
  have HR0 := Aside0.mk hr0
  have HC0 := Aside0.mk hc0
  clear hr0 hc0
  have HR1 := Aside0.mk hr1
  have HC1 := Aside0.mk hc1
  clear hr1 hc1
  have HB := Aside0.mk (Below.refl w.heap.size w)
  have H : ((calxlaw08_few.f l0).bind fun t101 => (if t101 = true then (if (l0.length : Int) = 0 then (calxlaw08_BookWhole.j0 k l0 l1 a2 a3 true) else (calxlaw08_BookWhole.j0 k l0 l1 a2 a3 (decide ((l1.length : Int) > 11)))) else (calxlaw08_BookWhole.j0 k l0 l1 a2 a3 true))) = some r := h
  clear h
  have HC5 := Aside0.mk H
  clear H
  go_enter Try.func11, Try.ntmps11
  go_upto_region 1 with (fail)
  go_cut [35] (fun v35 wc => ∃ (kq : Nat) (x35_4 : Bool), v35 = .bool x35_4 ∧ Aside0 (calxlaw08_BookWhole.j0 kq l0 l1 a2 a3 x35_4 = some r) ∧ Aside0 (kq ≤ k) ∧ Aside0 (Below w.heap.size w wc))
  case first =>
    have H := HC5.out
    clear HC5
    replace H := Option.bind_eq_some_iff.mp H
    obtain ⟨t101, A60, H⟩ := H
    replace H : (if t101 = true then (if (l0.length : Int) = 0 then (calxlaw08_BookWhole.j0 k l0 l1 a2 a3 true) else (calxlaw08_BookWhole.j0 k l0 l1 a2 a3 (decide ((l1.length : Int) > 11)))) else (calxlaw08_BookWhole.j0 k l0 l1 a2 a3 true)) = some r := H
    have A6 := Aside0.mk A60
    clear A60
    by_cases c7 : t101 = true
    · subst c7
      have H1 : (if (l0.length : Int) = 0 then (calxlaw08_BookWhole.j0 k l0 l1 a2 a3 true) else (calxlaw08_BookWhole.j0 k l0 l1 a2 a3 (decide ((l1.length : Int) > 11)))) = some r := by rw [if_pos rfl] at H; exact H
      clear H
      have H := H1
      clear H1
      by_cases c8 : (l0.length : Int) = 0
      · rw [if_pos c8] at H
        have c8b0 : ((l0.length : Int) == 0) = true := beq_iff_eq.mpr c8
        have c8b1 : ((l0.length : Int) != 0) = false := bne_eq_false_iff_eq.mpr c8
        clear c8
        (first | rw [c8b0] | (simp only [i64_w, i32_w]; rw [c8b0]) | skip)
        have H' := Aside0.mk H
        clear H
        go_wp2_with (first | ((with_reducible refine gate_callee (f := 27) rfl ?_); refine goesL_ (some 24) rfl rfl Try.func27 (by kernel_rfl) rfl #[.slice A0 l0.length c0] rfl (by (try simp only [List.map_toArray, List.map_cons, List.map_nil]); first | done | rfl | (simp only [List.length_drop, List.length_take]; rfl)) ?_; (with_reducible refine (calxlaw08_few.calls _ _ l0 true _ ?side1 ?side2 A6.out).mono ?_); (case side1 => repeat (first | exact (Kd.C_below HR0.out HB.out) | (with_reducible refine Kd.C_alloc ?_ _) | (with_reducible refine Kd.C_drewN ?_ _) | (with_reducible refine Kd.C_drew ?_))); (case side2 => exact HC0.out); rintro e w' ⟨rfl, ⟨nd, rfl⟩⟩; refine ⟨_, rfl, ?_⟩))
        go_meet
        case rel => exact ⟨_, (true), (by first | rfl | (simp; done) | (simp [*]; done)), H', ⟨by first | omega | exact Nat.le_refl _⟩, ⟨by repeat (first | (with_reducible first | exact HB.out | apply below_alloc | apply pw_below_drewN | apply below_drew1) | exact HB.out)⟩⟩
      · rw [if_neg c8] at H
        have c8b0 : ((l0.length : Int) == 0) = false := beq_eq_false_iff_ne.mpr c8
        have c8b1 : ((l0.length : Int) != 0) = true := bne_iff_ne.mpr c8
        have c8b2 : ¬ (l0 = []) := fun h_ => c8 (by rw [h_]; rfl)
        (first | rw [c8b0] | (simp only [i64_w, i32_w]; rw [c8b0]) | skip)
        have H' := Aside0.mk H
        clear H
        go_wp2_with (first | ((with_reducible refine gate_callee (f := 27) rfl ?_); refine goesL_ (some 24) rfl rfl Try.func27 (by kernel_rfl) rfl #[.slice A0 l0.length c0] rfl (by (try simp only [List.map_toArray, List.map_cons, List.map_nil]); first | done | rfl | (simp only [List.length_drop, List.length_take]; rfl)) ?_; (with_reducible refine (calxlaw08_few.calls _ _ l0 true _ ?side1 ?side2 A6.out).mono ?_); (case side1 => repeat (first | exact (Kd.C_below HR0.out HB.out) | (with_reducible refine Kd.C_alloc ?_ _) | (with_reducible refine Kd.C_drewN ?_ _) | (with_reducible refine Kd.C_drew ?_))); (case side2 => exact HC0.out); rintro e w' ⟨rfl, ⟨nd, rfl⟩⟩; refine ⟨_, rfl, ?_⟩))
        go_meet
        case rel => exact ⟨_, (decide ((l1.length : Int) > 11)), (by first | rfl | (simp; done) | (simp [*]; done)), H', ⟨by first | omega | exact Nat.le_refl _⟩, ⟨by repeat (first | (with_reducible first | exact HB.out | apply below_alloc | apply pw_below_drewN | apply below_drew1) | exact HB.out)⟩⟩
    · replace c7 := Bool.eq_false_iff.mpr c7
      subst c7
      have H1 : (calxlaw08_BookWhole.j0 k l0 l1 a2 a3 true) = some r := by rw [if_neg (show ¬ (false = true) by decide)] at H; exact H
      clear H
      have H := H1
      clear H1
      have H' := Aside0.mk H
      clear H
      go_wp2_with (first | ((with_reducible refine gate_callee (f := 27) rfl ?_); refine goesL_ (some 24) rfl rfl Try.func27 (by kernel_rfl) rfl #[.slice A0 l0.length c0] rfl (by (try simp only [List.map_toArray, List.map_cons, List.map_nil]); first | done | rfl | (simp only [List.length_drop, List.length_take]; rfl)) ?_; (with_reducible refine (calxlaw08_few.calls _ _ l0 false _ ?side1 ?side2 A6.out).mono ?_); (case side1 => repeat (first | exact (Kd.C_below HR0.out HB.out) | (with_reducible refine Kd.C_alloc ?_ _) | (with_reducible refine Kd.C_drewN ?_ _) | (with_reducible refine Kd.C_drew ?_))); (case side2 => exact HC0.out); rintro e w' ⟨rfl, ⟨nd, rfl⟩⟩; refine ⟨_, rfl, ?_⟩))
      go_meet
      case rel => exact ⟨_, (true), (by first | rfl | (simp; done) | (simp [*]; done)), H', ⟨by first | omega | exact Nat.le_refl _⟩, ⟨by repeat (first | (with_reducible first | exact HB.out | apply below_alloc | apply pw_below_drewN | apply below_drew1) | exact HB.out)⟩⟩
  case rest =>
    clear HC5
    try clear c1
    try clear c2
    try clear p2
    try clear c7
    try clear c8
    try clear c8b0
    try clear c8b1
    try clear c8b2
    obtain ⟨kq, x35_4, rfl, HA, HJ4, HB⟩ := hcut
    cases kq with
    | zero => exact absurd HA.out (by simp [calxlaw08_BookWhole.j0])
    | succ kj4 =>
      have H := HA.out
      clear HA
      simp only [calxlaw08_BookWhole.j0] at H
      by_cases c9 : x35_4 = true
      · subst c9
        have H1 : ((calxlaw08_sanity.f).bind fun t102 => (some t102)) = some r := by rw [if_pos rfl] at H; exact H
        clear H
        have H := H1
        clear H1
        replace H := Option.bind_eq_some_iff.mp H
        obtain ⟨t102, A100, H⟩ := H
        replace H : (some t102) = some r := H
        have A10 := Aside0.mk A100
        clear A100
        obtain rfl := Option.some.inj H
        go_wp2_with (first | ((with_reducible refine gate_callee (f := 22) rfl ?_); refine goesL_ (some 36) rfl rfl Try.func22 (by kernel_rfl) rfl #[] rfl (by (try simp only [List.map_toArray, List.map_cons, List.map_nil]); first | done | rfl | (simp only [List.length_drop, List.length_take]; rfl)) ?_; (with_reducible refine (calxlaw08_sanity.calls  t102 _ A10.out).mono ?_); rintro e w11 ⟨rfl, hb⟩; refine ⟨_, rfl, ?_⟩; have n0_ := Aside0.mk (below_step (by repeat (first | (with_reducible first | exact HB.out | apply below_alloc | apply pw_below_drewN | apply below_drew1) | exact HB.out)) hb); clear HB; have HB := n0_; clear n0_; (try clear hb); (try clear hb2); (try clear hk); (try clear hi)))
        go_ret
        exact ⟨by first | rfl | (simp [errW_none, errW_some] <;> rfl) | (simp [*, errW_none, errW_some] <;> rfl), by repeat (first | (with_reducible first | exact HB.out | apply below_alloc | apply pw_below_drewN | apply below_drew1) | exact HB.out)⟩
      · replace c9 := Bool.eq_false_iff.mpr c9
        subst c9
        have H1 : ((book_Root.f l0).bind fun bt103 => (if bt103.2 = 0 then (calxlaw08_BookWhole.l0 kj4 l0 l1 a2 a3 bt103.1 ([] : List (S34)) 0 0) else ((calxlaw08_sanity.f).bind fun t105 => (some t105)))) = some r := by rw [if_neg (show ¬ (false = true) by decide)] at H; exact H
        clear H
        have H := H1
        clear H1
        replace H := Option.bind_eq_some_iff.mp H
        obtain ⟨⟨t103, t104⟩, A120, H⟩ := H
        replace H : (if t104 = 0 then (calxlaw08_BookWhole.l0 kj4 l0 l1 a2 a3 t103 ([] : List (S34)) 0 0) else ((calxlaw08_sanity.f).bind fun t105 => (some t105))) = some r := H
        have A12 := Aside0.mk A120
        clear A120
        by_cases c13 : t104 = 0
        · rw [if_pos c13] at H
          have c13b0 : (t104 == 0) = true := beq_iff_eq.mpr c13
          have c13b1 : (t104 != 0) = false := bne_eq_false_iff_eq.mpr c13
          clear c13
          have H' := Aside0.mk H
          clear H
          go_wp2_with (first | ((with_reducible refine gate_callee (f := 32) rfl ?_); refine goesL_ (some 39) rfl rfl Try.func32 (by kernel_rfl) rfl #[.slice A0 l0.length c0] rfl (by (try simp only [List.map_toArray, List.map_cons, List.map_nil]); first | done | rfl | (simp only [List.length_drop, List.length_take]; rfl)) ?_; (with_reducible refine (book_Root.calls _ _ l0 t103 t104 _ ?side1 ?side2 A12.out).mono ?_); (case side1 => repeat (first | exact (Kd.C_below HR0.out HB.out) | (with_reducible refine Kd.C_alloc ?_ _) | (with_reducible refine Kd.C_drewN ?_ _) | (with_reducible refine Kd.C_drew ?_))); (case side2 => exact HC0.out); rintro e w14 ⟨rfl, hb⟩; refine ⟨_, rfl, ?_⟩; have n0_ := Aside0.mk (below_step (by repeat (first | (with_reducible first | exact HB.out | apply below_alloc | apply pw_below_drewN | apply below_drew1) | exact HB.out)) hb); clear HB; have HB := n0_; clear n0_; (try clear hb); (try clear hb2); (try clear hk); (try clear hi)))
          go_loopg [11, 12, 13] kj4 (fun kq v11 v12 v13 w' => ∃ (x11_2 : List (S34)) (x12_2 : Int) (x13_2 : Int), v12 = .int .i64 x12_2 ∧ v13 = .int .i64 x13_2 ∧ Aside0 (calxlaw08_BookWhole.l0 kq l0 l1 a2 a3 t103 x11_2 x12_2 x13_2 = some r) ∧ Aside0 (kq ≤ kj4) ∧ Aside0 (Kd.N k34 34 w' w.heap.size (fun _ => True) v11 x11_2) ∧ Aside0 (Below w.heap.size w w'))
          case atStart => exact ⟨(([] : List (S34))), (0), (0), (by first | rfl | (simp; done) | (simp [*]; done)), (by first | rfl | (simp; done) | (simp [*]; done)), H', ⟨Nat.le_refl _⟩, ⟨by first | exact Kd.S_nil _ _ _ _ _ | exact Kd.N_nil _ _ _ _ _ | exact Kd.V_nil _ _ _ _ _ | exact Kd.Q_nil _ _ _ _ _ | exact Kd.R_nil _ _ _ _ _⟩, ⟨by repeat (first | (with_reducible first | exact HB.out | apply below_alloc | apply pw_below_drewN | apply below_drew1) | exact HB.out)⟩⟩
          case round =>
            clear H'
            try clear c1
            try clear c2
            try clear p2
            try clear c3
            try clear c7
            try clear c8
            try clear c8b0
            try clear c8b1
            try clear c8b2
            try clear c9
            try clear c11
            try clear c13
            try clear c13b0
            try clear c13b1
            try clear p2
            obtain ⟨x11_2, x12_2, x13_2, rfl, rfl, HA, HK2, HO_11, HB⟩ := hrel
            cases gk with
            | zero => exact absurd HA.out (by simp [calxlaw08_BookWhole.l0])
            | succ k2 =>
              have H := HA.out
              clear HA
              simp only [calxlaw08_BookWhole.l0] at H
              by_cases c15 : x12_2 < (l0.length : Int)
              · rw [if_pos c15] at H
                have c15b0 : decide (x12_2 < (l0.length : Int)) = true := decide_eq_true c15
                clear c15
                by_cases c16 : x13_2 < (l1.length : Int)
                · rw [if_pos c16] at H
                  have c16b0 : decide (x13_2 < (l1.length : Int)) = true := decide_eq_true c16
                  clear c16
                  by_cases c17 : 0 ≤ x13_2
                  · rw [if_pos c17] at H
                    have c17b0 : decide (0 ≤ x13_2) = true := decide_eq_true c17
                    clear c17
                    obtain ⟨ji18, hji18⟩ : ∃ j_ : Int, (mn (wrap64 ((l0.length : Int) - x12_2)) (wrap64 (1 + (Int.tmod (wrap64 (rd l1 x13_2)) 9)))) = j_ := ⟨_, rfl⟩
                    replace H : ((some (([] : List (S29)) : List (S29))).bind fun y107 => (if 0 ≤ x12_2 then (if x12_2 ≤ (wrap64 (x12_2 + (ji18))) then (if (wrap64 (x12_2 + (ji18))) ≤ (l0.length : Int) then ((some ((l0.take ((wrap64 (x12_2 + (ji18))) : Int).toNat).drop (x12_2 : Int).toNat : List (S29))).bind fun y110 => (if y107.length + y110.length < 4398046511104 then (if x11_2.length < 4398046511104 then (calxlaw08_BookWhole.l0 k2 l0 l1 a2 a3 t103 (x11_2 ++ [(⟨x12_2, (y107 ++ y110)⟩ : S34)]) (wrap64 (x12_2 + (ji18))) (wrap64 (x13_2 + 1))) else (none)) else (none))) else (none)) else (none)) else (none))) = some r := by first | (rw [hji18] at H; exact H) | (simp only [hji18] at H ⊢; exact H)
                    have hji18_ : (if (wrap64 (1 + (Int.tmod (wrap64 (rd l1 x13_2)) 9))) < (wrap64 ((l0.length : Int) - x12_2)) then (wrap64 (1 + (Int.tmod (wrap64 (rd l1 x13_2)) 9))) else (wrap64 ((l0.length : Int) - x12_2))) = ji18 := hji18
                    obtain ⟨y107, hy107⟩ : ∃ y_ : List (S29), y_ = (([] : List (S29))) := ⟨_, rfl⟩
                    replace H : (if 0 ≤ x12_2 then (if x12_2 ≤ (wrap64 (x12_2 + (ji18))) then (if (wrap64 (x12_2 + (ji18))) ≤ (l0.length : Int) then ((some ((l0.take ((wrap64 (x12_2 + (ji18))) : Int).toNat).drop (x12_2 : Int).toNat : List (S29))).bind fun y110 => (if y107.length + y110.length < 4398046511104 then (if x11_2.length < 4398046511104 then (calxlaw08_BookWhole.l0 k2 l0 l1 a2 a3 t103 (x11_2 ++ [(⟨x12_2, (y107 ++ y110)⟩ : S34)]) (wrap64 (x12_2 + (ji18))) (wrap64 (x13_2 + 1))) else (none)) else (none))) else (none)) else (none)) else (none)) = some r := by first | (rw [hy107]; with_reducible exact H) | (have H2_ := (Option.bind_some _ _).symm.trans H; rw [hy107]; with_reducible exact H2_) | (have H2_ := (Option.bind_some _ _).symm.trans H; with_reducible exact H2_) | with_reducible exact H | (rw [hy107]; exact H) | exact H
                    have Ny107 := Aside0.mk hy107
                    clear hy107
                    by_cases c19 : 0 ≤ x12_2
                    · rw [if_pos c19] at H
                      have c19b0 := eq_true c19
                      have c19b1 : decide (0 ≤ x12_2) = true := decide_eq_true c19
                      clear c19
                      by_cases c20 : x12_2 ≤ (wrap64 (x12_2 + (ji18)))
                      · rw [if_pos c20] at H
                        have c20b0 := eq_true c20
                        have c20b1 : decide (x12_2 ≤ (wrap64 (x12_2 + (ji18)))) = true := decide_eq_true c20
                        by_cases c21 : (wrap64 (x12_2 + (ji18))) ≤ (l0.length : Int)
                        · rw [if_pos c21] at H
                          have c21b0 := eq_true c21
                          have c21b1 : decide ((wrap64 (x12_2 + (ji18))) ≤ (l0.length : Int)) = true := decide_eq_true c21
                          obtain ⟨y110, hy110⟩ : ∃ y_ : List (S29), y_ = ((l0.take ((wrap64 (x12_2 + (ji18))) : Int).toNat).drop (x12_2 : Int).toNat) := ⟨_, rfl⟩
                          replace H : (if y107.length + y110.length < 4398046511104 then (if x11_2.length < 4398046511104 then (calxlaw08_BookWhole.l0 k2 l0 l1 a2 a3 t103 (x11_2 ++ [(⟨x12_2, (y107 ++ y110)⟩ : S34)]) (wrap64 (x12_2 + (ji18))) (wrap64 (x13_2 + 1))) else (none)) else (none)) = some r := by first | (rw [hy110]; with_reducible exact H) | (have H2_ := (Option.bind_some _ _).symm.trans H; rw [hy110]; with_reducible exact H2_) | (have H2_ := (Option.bind_some _ _).symm.trans H; with_reducible exact H2_) | with_reducible exact H | (rw [hy110]; exact H) | exact H
                          have Ny110 := Aside0.mk hy110
                          clear hy110
                          by_cases c22 : y107.length + y110.length < 4398046511104
                          · rw [if_pos c22] at H
                            have LMc22 := Aside0.mk c22
                            clear c22
                            obtain ⟨y114, hy114⟩ : ∃ y_ : List (S29), y_ = (y107 ++ y110) := ⟨_, rfl⟩
                            replace H : (if x11_2.length < 4398046511104 then (calxlaw08_BookWhole.l0 k2 l0 l1 a2 a3 t103 (x11_2 ++ [(⟨x12_2, y114⟩ : S34)]) (wrap64 (x12_2 + (ji18))) (wrap64 (x13_2 + 1))) else (none)) = some r := by first | (rw [hy114]; with_reducible exact H) | (have H2_ := (Option.bind_some _ _).symm.trans H; rw [hy114]; with_reducible exact H2_) | (have H2_ := (Option.bind_some _ _).symm.trans H; with_reducible exact H2_) | with_reducible exact H | (rw [hy114]; exact H) | exact H
                            have Ny114 := Aside0.mk hy114
                            clear hy114
                            by_cases c23 : x11_2.length < 4398046511104
                            · rw [if_pos c23] at H
                              have LMc23 := Aside0.mk c23
                              clear c23
                              obtain ⟨y117, hy117⟩ : ∃ y_ : List (S34), y_ = (x11_2 ++ [(⟨x12_2, y114⟩ : S34)]) := ⟨_, rfl⟩
                              replace H : (calxlaw08_BookWhole.l0 k2 l0 l1 a2 a3 t103 y117 (wrap64 (x12_2 + (ji18))) (wrap64 (x13_2 + 1))) = some r := by first | (rw [hy117]; with_reducible exact H) | (have H2_ := (Option.bind_some _ _).symm.trans H; rw [hy117]; with_reducible exact H2_) | (have H2_ := (Option.bind_some _ _).symm.trans H; with_reducible exact H2_) | with_reducible exact H | (rw [hy117]; exact H) | exact H
                              have Ny117 := Aside0.mk hy117
                              clear hy117
                              have H' := Aside0.mk H
                              clear H
                              have p106 : 0 ≤ (x13_2 : Int) := of_decide_eq_true (by first | (with_reducible assumption) | assumption)
                              have q106 : x13_2 < (l1.length : Int) := of_decide_eq_true (by first | (with_reducible assumption) | assumption)
                              obtain ⟨ad106, e106, hx106_0⟩ := Kd.at_int HR1.out x13_2 p106 q106
                              cases e106
                              replace hx106_0 := (HB.out.cell (World.block_lt_of_cell? w _ hx106_0)).trans hx106_0
                              replace p106 := eq_true p106
                              replace q106 := eq_true q106
                              go_wp2_with (first | ((with_reducible refine gate_dst (N := 70) rfl ?_); (try (refine gate_guard (by rfl) ?_; dsimp only)); refine Kd.R_lit k29 _ 29 ?hg (N := 70) ?hd (xs := ([] : List (S29))) (inner := []) (ok := fun _ => True) (okp := fun _ => True) ?hr ?hp (fun _ hk => hk) trivial (Below.refl _ _) (Nat.le_refl _) (by simp) ?_; (case hd => rfl); (case hg => rfl); (case hr => first | (go_simp; done) | (go_simp; rfl)); (case hp => exact (Reps.none _ _)); intro v108 w24 ho25 hb hg_ hnew_; clear hg_ hnew_; (first | rw [← Ny107.out] at ho25 | (simp only [Int.reduceToNat] at ho25; rw [← Ny107.out] at ho25)); have n0_ := Aside0.mk (Kd.N_elder' (by (with_reducible repeat (first | apply Kd.N_alloc | apply Kd.N_drewN | apply Kd.N_drew)); exact HO_11.out) (Kd.R_base ho25) hb); have n1_ := Aside0.mk (Kd.R_lower ho25 (below_size (by repeat (first | (with_reducible first | exact HB.out | apply below_alloc | apply pw_below_drewN | apply below_drew1) | exact HB.out)))); have n2_ := Aside0.mk (below_step (by repeat (first | (with_reducible first | exact HB.out | apply below_alloc | apply pw_below_drewN | apply below_drew1) | exact HB.out)) hb); clear HO_11; clear HB; have HO_11 := n0_; have HO109 := n1_; have HB := n2_; clear n0_ n1_ n2_; clear hb ho25; have q26 : ((wrap64 (x12_2 + (ji18))) : Int) ≤ ((l0.length : Int) : Int) := of_decide_eq_true (by first | (with_reducible assumption) | assumption); obtain ⟨i026, hi026, _, hsz26, _⟩ := info_parts info29; have hroom26 : l0.length ≤ c0 := HC0.out; have hC26 : Kd.C k29 _ A0 l0.length l0 := HR0.out; have ql26 : (x12_2 : Int) ≤ ((wrap64 (x12_2 + (ji18))) : Int) := of_decide_eq_true (by first | (with_reducible assumption) | assumption); have q026 : (0 : Int) ≤ (x12_2 : Int) := of_decide_eq_true (by first | (with_reducible assumption) | assumption); have hcut26 := cut_mid (P := Try.prog) 32 29 .i64 .i64 Try.underlying32 hi026 4 hsz26 A0 l0.length c0 x12_2 (wrap64 (x12_2 + (ji18))) q026 ql26 q26 hroom26; have hr26 := Kd.C_mid (lo := (x12_2 : Int).toNat) (hi := ((wrap64 (x12_2 + (ji18))) : Int).toNat) (c := c0) hC26 (by omega) (by omega) hroom26; obtain ⟨A26, hA26⟩ : ∃ A1, A1 = (if c0 = (x12_2 : Int).toNat then A0 else (A0 : Option Addr).map (·.add ((x12_2 : Int).toNat * 4))) := ⟨_, rfl⟩; obtain ⟨c26, hc26⟩ : ∃ c1, c1 = c0 - (x12_2 : Int).toNat := ⟨_, rfl⟩; have hy26 : y110.length = ((wrap64 (x12_2 + (ji18))) : Int).toNat - (x12_2 : Int).toNat := (by rw [Ny110.out, List.length_drop, List.length_take] <;> omega); rw [show ((l0).take ((wrap64 (x12_2 + (ji18))) : Int).toNat).drop (x12_2 : Int).toNat = y110 from Ny110.out.symm] at hr26; replace hr26 : Kd.C k29 _ A26 y110.length y110 := (by rw [hA26]; exact hr26); rw [← hy26, ← hA26, ← hc26] at hcut26; have HR113 := Aside0.mk hr26; have HC113 := Aside0.mk (show y110.length ≤ c26 from by rw [hy26, hc26]; exact Nat.sub_le_sub_right (Nat.le_trans (by omega) hroom26) _); clear hr26 hC26 hroom26 hi026 hsz26 hc26; have KY26 := Aside0.mk hy26; have KA26 := Aside0.mk hA26; clear hy26 hA26; replace q26 := eq_true q26) | ((with_reducible refine gate_builtin (b := .append) (xs := #[.tmp 70, .tmp 76]) rfl ?_); (try (refine gate_guard (by rfl) ?_; dsimp only)); at_builtin; refine Kd.R_append_rows k29 (w0 := w) w.heap.size rfl (.tmp 70) (.tmp 76) 32 29 (.agg #[(.int .i64 0), (.int .i64 0), (.int .i64 0), (.int .i64 0)]) 32 rfl Try.underlying32 info29 rfl (by decide) (by omega) v108 y107 y110 _ _ _ (fun _ => True) (fun _ => False) rfl rfl ?aO ?aR (fun _ _ h => h) (fun _ h => h.elim) ?aF ?aB ?aS ?aL ?_; (case aR => repeat (first | exact (Kd.C_below HR113.out HB.out) | (with_reducible refine Kd.C_alloc ?_ _) | (with_reducible refine Kd.C_drewN ?_ _) | (with_reducible refine Kd.C_drew ?_))); (case aB => exact (by repeat (first | (with_reducible first | exact HB.out | apply below_alloc | apply pw_below_drewN | apply below_drew1) | exact HB.out))); (case aF => exact (fun _ _ => trivial)); (case aO => exact (by (with_reducible repeat (first | apply Kd.R_alloc | apply Kd.R_drewN | apply Kd.R_drew)); exact HO109.out)); (case aS => exact (below_size (by repeat (first | (with_reducible first | exact HB.out | apply below_alloc | apply pw_below_drewN | apply below_drew1) | exact HB.out)))); (case aL => have := LMc22.out; omega); intro v115 w27 ho hb hg hat; rw [← Ny114.out] at ho; have n0_ := Aside0.mk (Kd.N_afterv (ok := (fun _ => True)) (by (with_reducible repeat (first | apply Kd.N_alloc | apply Kd.N_drewN | apply Kd.N_drew)); exact HO_11.out) hg hat); have n1_ := Aside0.mk (hb); have n2_ := Aside0.mk (ho); clear HO_11; clear HB; clear HO109; have HO_11 := n0_; have HB := n1_; have HO116 := n2_; clear n0_ n1_ n2_; clear ho hb hg hat; obtain ⟨Ao28, co28, eo28⟩ := Kd.R_slice HO116.out; subst eo28) | ((with_reducible refine gate_builtin (b := .append) (xs := #[.tmp 68, .tmp 79]) rfl ?_); (try (refine gate_guard (by rfl) ?_; dsimp only)); at_builtin; refine Kd.N_append k34 (w0 := w) w.heap.size rfl (.tmp 68) (.tmp 79) 22 34 (.agg #[(.int .i64 0), (.slice none 0 0)]) 32 rfl Try.underlying22 info34 rfl (by decide) (by omega) u11 x11_2 (⟨x12_2, y114⟩ : S34) [.int .i64 x12_2, .slice Ao28 y114.length co28] (fun _ => True) (fun k_ => ((fun _ => True)) k_ ∧ some k_ ≠ (u11 : Value).ownBlock) rfl rfl ?aP (fun _ hk => hk) ?aF ?aO ?aB ?aS ?aL ?_; (case aP => exact (k34_mkF _ _ (⟨x12_2, y114⟩ : S34) (Kd.R_reads' (Kd.R_mono (ok' := (fun k_ => ((fun _ => True)) k_ ∧ some k_ ≠ (u11 : Value).ownBlock)) (Kd.R_apart' (HO116.out) (Kd.N_typed HO_11.out) (by decide)) (fun k_ hk => ⟨trivial, hk.2⟩))).2.1 (Kd.R_F (Kd.R_mono (ok' := (fun k_ => ((fun _ => True)) k_ ∧ some k_ ≠ (u11 : Value).ownBlock)) (Kd.R_apart' (HO116.out) (Kd.N_typed HO_11.out) (by decide)) (fun k_ hk => ⟨trivial, hk.2⟩))))); (case aB => exact (by repeat (first | (with_reducible first | exact HB.out | apply below_alloc | apply pw_below_drewN | apply below_drew1) | exact HB.out))); (case aF => exact (fun _ _ => trivial)); (case aO => exact (by (with_reducible repeat (first | apply Kd.N_alloc | apply Kd.N_drewN | apply Kd.N_drew)); exact Kd.N_mono HO_11.out (fun _ hk => trivial))); (case aS => exact (below_size (by repeat (first | (with_reducible first | exact HB.out | apply below_alloc | apply pw_below_drewN | apply below_drew1) | exact HB.out)))); (case aL => have := LMc23.out; omega); intro v118 w29 ho hb hg hat; rw [← Ny117.out] at ho; have n0_ := Aside0.mk (hb); have n1_ := Aside0.mk (ho); clear HB; clear HO_11; clear HO116; have HB := n0_; have HO119 := n1_; clear n0_ n1_; clear ho hb hg hat))
                              go_roundg k2
                              case measure => have := HJ4.out; have := HK2.out; omega
                              case rel => exact ⟨(y117), (wrap64 (x12_2 + (ji18))), (wrap64 (x13_2 + 1)), (by first | rfl | (simp; done) | (simp only [← hji18] <;> (first | rfl | simp)) | (simp [*]; done)), (by first | rfl | (simp; done) | (simp [*]; done)), H', ⟨by have := HJ4.out; have := HK2.out; omega⟩, ⟨by (with_reducible repeat (first | apply Kd.N_alloc | apply Kd.N_drewN | apply Kd.N_drew)); exact HO119.out⟩, ⟨by repeat (first | (with_reducible first | exact HB.out | apply below_alloc | apply pw_below_drewN | apply below_drew1) | exact HB.out)⟩⟩
                            · rw [if_neg c23] at H
                              exact absurd H (by simp)
                          · rw [if_neg c22] at H
                            exact absurd H (by simp)
                        · rw [if_neg c21] at H
                          exact absurd H (by simp)
                      · rw [if_neg c20] at H
                        exact absurd H (by simp)
                    · rw [if_neg c19] at H
                      exact absurd H (by simp)
                  · rw [if_neg c17] at H
                    exact absurd H (by simp)
                · rw [if_neg c16] at H
                  have c16b0 : decide (x13_2 < (l1.length : Int)) = false := decide_eq_false c16
                  clear c16
                  obtain ⟨y120, hy120⟩ : ∃ y_ : List (S29), y_ = (([] : List (S29))) := ⟨_, rfl⟩
                  replace H : (if 0 ≤ x12_2 then (if x12_2 ≤ (wrap64 (x12_2 + (wrap64 ((l0.length : Int) - x12_2)))) then (if (wrap64 (x12_2 + (wrap64 ((l0.length : Int) - x12_2)))) ≤ (l0.length : Int) then ((some ((l0.take ((wrap64 (x12_2 + (wrap64 ((l0.length : Int) - x12_2)))) : Int).toNat).drop (x12_2 : Int).toNat : List (S29))).bind fun y123 => (if y120.length + y123.length < 4398046511104 then (if x11_2.length < 4398046511104 then (calxlaw08_BookWhole.l0 k2 l0 l1 a2 a3 t103 (x11_2 ++ [(⟨x12_2, (y120 ++ y123)⟩ : S34)]) (wrap64 (x12_2 + (wrap64 ((l0.length : Int) - x12_2)))) (wrap64 (x13_2 + 1))) else (none)) else (none))) else (none)) else (none)) else (none)) = some r := by first | (rw [hy120]; with_reducible exact H) | (have H2_ := (Option.bind_some _ _).symm.trans H; rw [hy120]; with_reducible exact H2_) | (have H2_ := (Option.bind_some _ _).symm.trans H; with_reducible exact H2_) | with_reducible exact H | (rw [hy120]; exact H) | exact H
                  have Ny120 := Aside0.mk hy120
                  clear hy120
                  by_cases c30 : 0 ≤ x12_2
                  · rw [if_pos c30] at H
                    have c30b0 := eq_true c30
                    have c30b1 : decide (0 ≤ x12_2) = true := decide_eq_true c30
                    clear c30
                    by_cases c31 : x12_2 ≤ (wrap64 (x12_2 + (wrap64 ((l0.length : Int) - x12_2))))
                    · rw [if_pos c31] at H
                      have c31b0 := eq_true c31
                      have c31b1 : decide (x12_2 ≤ (wrap64 (x12_2 + (wrap64 ((l0.length : Int) - x12_2))))) = true := decide_eq_true c31
                      by_cases c32 : (wrap64 (x12_2 + (wrap64 ((l0.length : Int) - x12_2)))) ≤ (l0.length : Int)
                      · rw [if_pos c32] at H
                        have c32b0 := eq_true c32
                        have c32b1 : decide ((wrap64 (x12_2 + (wrap64 ((l0.length : Int) - x12_2)))) ≤ (l0.length : Int)) = true := decide_eq_true c32
                        obtain ⟨y123, hy123⟩ : ∃ y_ : List (S29), y_ = ((l0.take ((wrap64 (x12_2 + (wrap64 ((l0.length : Int) - x12_2)))) : Int).toNat).drop (x12_2 : Int).toNat) := ⟨_, rfl⟩
                        replace H : (if y120.length + y123.length < 4398046511104 then (if x11_2.length < 4398046511104 then (calxlaw08_BookWhole.l0 k2 l0 l1 a2 a3 t103 (x11_2 ++ [(⟨x12_2, (y120 ++ y123)⟩ : S34)]) (wrap64 (x12_2 + (wrap64 ((l0.length : Int) - x12_2)))) (wrap64 (x13_2 + 1))) else (none)) else (none)) = some r := by first | (rw [hy123]; with_reducible exact H) | (have H2_ := (Option.bind_some _ _).symm.trans H; rw [hy123]; with_reducible exact H2_) | (have H2_ := (Option.bind_some _ _).symm.trans H; with_reducible exact H2_) | with_reducible exact H | (rw [hy123]; exact H) | exact H
                        have Ny123 := Aside0.mk hy123
                        clear hy123
                        by_cases c33 : y120.length + y123.length < 4398046511104
                        · rw [if_pos c33] at H
                          have LMc33 := Aside0.mk c33
                          clear c33
                          obtain ⟨y127, hy127⟩ : ∃ y_ : List (S29), y_ = (y120 ++ y123) := ⟨_, rfl⟩
                          replace H : (if x11_2.length < 4398046511104 then (calxlaw08_BookWhole.l0 k2 l0 l1 a2 a3 t103 (x11_2 ++ [(⟨x12_2, y127⟩ : S34)]) (wrap64 (x12_2 + (wrap64 ((l0.length : Int) - x12_2)))) (wrap64 (x13_2 + 1))) else (none)) = some r := by first | (rw [hy127]; with_reducible exact H) | (have H2_ := (Option.bind_some _ _).symm.trans H; rw [hy127]; with_reducible exact H2_) | (have H2_ := (Option.bind_some _ _).symm.trans H; with_reducible exact H2_) | with_reducible exact H | (rw [hy127]; exact H) | exact H
                          have Ny127 := Aside0.mk hy127
                          clear hy127
                          by_cases c34 : x11_2.length < 4398046511104
                          · rw [if_pos c34] at H
                            have LMc34 := Aside0.mk c34
                            clear c34
                            obtain ⟨y130, hy130⟩ : ∃ y_ : List (S34), y_ = (x11_2 ++ [(⟨x12_2, y127⟩ : S34)]) := ⟨_, rfl⟩
                            replace H : (calxlaw08_BookWhole.l0 k2 l0 l1 a2 a3 t103 y130 (wrap64 (x12_2 + (wrap64 ((l0.length : Int) - x12_2)))) (wrap64 (x13_2 + 1))) = some r := by first | (rw [hy130]; with_reducible exact H) | (have H2_ := (Option.bind_some _ _).symm.trans H; rw [hy130]; with_reducible exact H2_) | (have H2_ := (Option.bind_some _ _).symm.trans H; with_reducible exact H2_) | with_reducible exact H | (rw [hy130]; exact H) | exact H
                            have Ny130 := Aside0.mk hy130
                            clear hy130
                            have H' := Aside0.mk H
                            clear H
                            go_wp2_with (first | ((with_reducible refine gate_dst (N := 70) rfl ?_); (try (refine gate_guard (by rfl) ?_; dsimp only)); refine Kd.R_lit k29 _ 29 ?hg (N := 70) ?hd (xs := ([] : List (S29))) (inner := []) (ok := fun _ => True) (okp := fun _ => True) ?hr ?hp (fun _ hk => hk) trivial (Below.refl _ _) (Nat.le_refl _) (by simp) ?_; (case hd => rfl); (case hg => rfl); (case hr => first | (go_simp; done) | (go_simp; rfl)); (case hp => exact (Reps.none _ _)); intro v121 w35 ho36 hb hg_ hnew_; clear hg_ hnew_; (first | rw [← Ny120.out] at ho36 | (simp only [Int.reduceToNat] at ho36; rw [← Ny120.out] at ho36)); have n0_ := Aside0.mk (Kd.N_elder' (by (with_reducible repeat (first | apply Kd.N_alloc | apply Kd.N_drewN | apply Kd.N_drew)); exact HO_11.out) (Kd.R_base ho36) hb); have n1_ := Aside0.mk (Kd.R_lower ho36 (below_size (by repeat (first | (with_reducible first | exact HB.out | apply below_alloc | apply pw_below_drewN | apply below_drew1) | exact HB.out)))); have n2_ := Aside0.mk (below_step (by repeat (first | (with_reducible first | exact HB.out | apply below_alloc | apply pw_below_drewN | apply below_drew1) | exact HB.out)) hb); clear HO_11; clear HB; have HO_11 := n0_; have HO122 := n1_; have HB := n2_; clear n0_ n1_ n2_; clear hb ho36; have q37 : ((wrap64 (x12_2 + (wrap64 ((l0.length : Int) - x12_2)))) : Int) ≤ ((l0.length : Int) : Int) := of_decide_eq_true (by first | (with_reducible assumption) | assumption); obtain ⟨i037, hi037, _, hsz37, _⟩ := info_parts info29; have hroom37 : l0.length ≤ c0 := HC0.out; have hC37 : Kd.C k29 _ A0 l0.length l0 := HR0.out; have ql37 : (x12_2 : Int) ≤ ((wrap64 (x12_2 + (wrap64 ((l0.length : Int) - x12_2)))) : Int) := of_decide_eq_true (by first | (with_reducible assumption) | assumption); have q037 : (0 : Int) ≤ (x12_2 : Int) := of_decide_eq_true (by first | (with_reducible assumption) | assumption); have hcut37 := cut_mid (P := Try.prog) 32 29 .i64 .i64 Try.underlying32 hi037 4 hsz37 A0 l0.length c0 x12_2 (wrap64 (x12_2 + (wrap64 ((l0.length : Int) - x12_2)))) q037 ql37 q37 hroom37; have hr37 := Kd.C_mid (lo := (x12_2 : Int).toNat) (hi := ((wrap64 (x12_2 + (wrap64 ((l0.length : Int) - x12_2)))) : Int).toNat) (c := c0) hC37 (by omega) (by omega) hroom37; obtain ⟨A37, hA37⟩ : ∃ A1, A1 = (if c0 = (x12_2 : Int).toNat then A0 else (A0 : Option Addr).map (·.add ((x12_2 : Int).toNat * 4))) := ⟨_, rfl⟩; obtain ⟨c37, hc37⟩ : ∃ c1, c1 = c0 - (x12_2 : Int).toNat := ⟨_, rfl⟩; have hy37 : y123.length = ((wrap64 (x12_2 + (wrap64 ((l0.length : Int) - x12_2)))) : Int).toNat - (x12_2 : Int).toNat := (by rw [Ny123.out, List.length_drop, List.length_take] <;> omega); rw [show ((l0).take ((wrap64 (x12_2 + (wrap64 ((l0.length : Int) - x12_2)))) : Int).toNat).drop (x12_2 : Int).toNat = y123 from Ny123.out.symm] at hr37; replace hr37 : Kd.C k29 _ A37 y123.length y123 := (by rw [hA37]; exact hr37); rw [← hy37, ← hA37, ← hc37] at hcut37; have HR126 := Aside0.mk hr37; have HC126 := Aside0.mk (show y123.length ≤ c37 from by rw [hy37, hc37]; exact Nat.sub_le_sub_right (Nat.le_trans (by omega) hroom37) _); clear hr37 hC37 hroom37 hi037 hsz37 hc37; have KY37 := Aside0.mk hy37; have KA37 := Aside0.mk hA37; clear hy37 hA37; replace q37 := eq_true q37) | ((with_reducible refine gate_builtin (b := .append) (xs := #[.tmp 70, .tmp 76]) rfl ?_); (try (refine gate_guard (by rfl) ?_; dsimp only)); at_builtin; refine Kd.R_append_rows k29 (w0 := w) w.heap.size rfl (.tmp 70) (.tmp 76) 32 29 (.agg #[(.int .i64 0), (.int .i64 0), (.int .i64 0), (.int .i64 0)]) 32 rfl Try.underlying32 info29 rfl (by decide) (by omega) v121 y120 y123 _ _ _ (fun _ => True) (fun _ => False) rfl rfl ?aO ?aR (fun _ _ h => h) (fun _ h => h.elim) ?aF ?aB ?aS ?aL ?_; (case aR => repeat (first | exact (Kd.C_below HR126.out HB.out) | (with_reducible refine Kd.C_alloc ?_ _) | (with_reducible refine Kd.C_drewN ?_ _) | (with_reducible refine Kd.C_drew ?_))); (case aB => exact (by repeat (first | (with_reducible first | exact HB.out | apply below_alloc | apply pw_below_drewN | apply below_drew1) | exact HB.out))); (case aF => exact (fun _ _ => trivial)); (case aO => exact (by (with_reducible repeat (first | apply Kd.R_alloc | apply Kd.R_drewN | apply Kd.R_drew)); exact HO122.out)); (case aS => exact (below_size (by repeat (first | (with_reducible first | exact HB.out | apply below_alloc | apply pw_below_drewN | apply below_drew1) | exact HB.out)))); (case aL => have := LMc33.out; omega); intro v128 w38 ho hb hg hat; rw [← Ny127.out] at ho; have n0_ := Aside0.mk (Kd.N_afterv (ok := (fun _ => True)) (by (with_reducible repeat (first | apply Kd.N_alloc | apply Kd.N_drewN | apply Kd.N_drew)); exact HO_11.out) hg hat); have n1_ := Aside0.mk (hb); have n2_ := Aside0.mk (ho); clear HO_11; clear HB; clear HO122; have HO_11 := n0_; have HB := n1_; have HO129 := n2_; clear n0_ n1_ n2_; clear ho hb hg hat; obtain ⟨Ao39, co39, eo39⟩ := Kd.R_slice HO129.out; subst eo39) | ((with_reducible refine gate_builtin (b := .append) (xs := #[.tmp 68, .tmp 79]) rfl ?_); (try (refine gate_guard (by rfl) ?_; dsimp only)); at_builtin; refine Kd.N_append k34 (w0 := w) w.heap.size rfl (.tmp 68) (.tmp 79) 22 34 (.agg #[(.int .i64 0), (.slice none 0 0)]) 32 rfl Try.underlying22 info34 rfl (by decide) (by omega) u11 x11_2 (⟨x12_2, y127⟩ : S34) [.int .i64 x12_2, .slice Ao39 y127.length co39] (fun _ => True) (fun k_ => ((fun _ => True)) k_ ∧ some k_ ≠ (u11 : Value).ownBlock) rfl rfl ?aP (fun _ hk => hk) ?aF ?aO ?aB ?aS ?aL ?_; (case aP => exact (k34_mkF _ _ (⟨x12_2, y127⟩ : S34) (Kd.R_reads' (Kd.R_mono (ok' := (fun k_ => ((fun _ => True)) k_ ∧ some k_ ≠ (u11 : Value).ownBlock)) (Kd.R_apart' (HO129.out) (Kd.N_typed HO_11.out) (by decide)) (fun k_ hk => ⟨trivial, hk.2⟩))).2.1 (Kd.R_F (Kd.R_mono (ok' := (fun k_ => ((fun _ => True)) k_ ∧ some k_ ≠ (u11 : Value).ownBlock)) (Kd.R_apart' (HO129.out) (Kd.N_typed HO_11.out) (by decide)) (fun k_ hk => ⟨trivial, hk.2⟩))))); (case aB => exact (by repeat (first | (with_reducible first | exact HB.out | apply below_alloc | apply pw_below_drewN | apply below_drew1) | exact HB.out))); (case aF => exact (fun _ _ => trivial)); (case aO => exact (by (with_reducible repeat (first | apply Kd.N_alloc | apply Kd.N_drewN | apply Kd.N_drew)); exact Kd.N_mono HO_11.out (fun _ hk => trivial))); (case aS => exact (below_size (by repeat (first | (with_reducible first | exact HB.out | apply below_alloc | apply pw_below_drewN | apply below_drew1) | exact HB.out)))); (case aL => have := LMc34.out; omega); intro v131 w40 ho hb hg hat; rw [← Ny130.out] at ho; have n0_ := Aside0.mk (hb); have n1_ := Aside0.mk (ho); clear HB; clear HO_11; clear HO129; have HB := n0_; have HO132 := n1_; clear n0_ n1_; clear ho hb hg hat))
                            go_roundg k2
                            case measure => have := HJ4.out; have := HK2.out; omega
                            case rel => exact ⟨(y130), (wrap64 (x12_2 + (wrap64 ((l0.length : Int) - x12_2)))), (wrap64 (x13_2 + 1)), (by first | rfl | (simp; done) | (simp [*]; done)), (by first | rfl | (simp; done) | (simp [*]; done)), H', ⟨by have := HJ4.out; have := HK2.out; omega⟩, ⟨by (with_reducible repeat (first | apply Kd.N_alloc | apply Kd.N_drewN | apply Kd.N_drew)); exact HO132.out⟩, ⟨by repeat (first | (with_reducible first | exact HB.out | apply below_alloc | apply pw_below_drewN | apply below_drew1) | exact HB.out)⟩⟩
                          · rw [if_neg c34] at H
                            exact absurd H (by simp)
                        · rw [if_neg c33] at H
                          exact absurd H (by simp)
                      · rw [if_neg c32] at H
                        exact absurd H (by simp)
                    · rw [if_neg c31] at H
                      exact absurd H (by simp)
                  · rw [if_neg c30] at H
                    exact absurd H (by simp)
              · rw [if_neg c15] at H
                have c15b0 : decide (x12_2 < (l0.length : Int)) = false := decide_eq_false c15
                clear c15
                have H' := Aside0.mk H
                clear H
                go_wp2
                go_loopg [15, 16] k2 (fun kq v15 v16 w' => ∃ (x15_3 : List (S34)) (x16_3 : Int), v16 = .int .i64 x16_3 ∧ Aside0 (calxlaw08_BookWhole.l1 kq l0 a2 a3 t103 x11_2 x15_3 x16_3 = some r) ∧ Aside0 (kq ≤ k2) ∧ Aside0 (Kd.N k34 34 w' w.heap.size (fun k_ => some k_ ≠ (v15 : Value).ownBlock) u11 x11_2) ∧ Aside0 (Kd.N k34 34 w' w.heap.size (fun k_ => some k_ ≠ (u11 : Value).ownBlock) v15 x15_3) ∧ Aside0 (Below w.heap.size w w'))
                case atStart => exact ⟨(([] : List (S34))), (0), (by first | rfl | (simp; done) | (simp [*]; done)), H', ⟨Nat.le_refl _⟩, ⟨by (with_reducible repeat (first | apply Kd.N_alloc | apply Kd.N_drewN | apply Kd.N_drew)); exact Kd.N_mono HO_11.out (fun _ hk => (by simp [Value.ownBlock]))⟩, ⟨by first | exact Kd.S_nil _ _ _ _ _ | exact Kd.N_nil _ _ _ _ _ | exact Kd.V_nil _ _ _ _ _ | exact Kd.Q_nil _ _ _ _ _ | exact Kd.R_nil _ _ _ _ _⟩, ⟨by repeat (first | (with_reducible first | exact HB.out | apply below_alloc | apply pw_below_drewN | apply below_drew1) | exact HB.out)⟩⟩
                case round =>
                  clear H'
                  try clear c1
                  try clear p1
                  try clear q1
                  try clear hx1
                  try clear c2
                  try clear p2
                  try clear q2
                  try clear c3
                  try clear q3
                  try clear p6
                  try clear c7
                  try clear c8
                  try clear c8b0
                  try clear c8b1
                  try clear c8b2
                  try clear c9
                  try clear p10
                  try clear q10
                  try clear hx10
                  try clear c11
                  try clear c13
                  try clear c13b0
                  try clear c13b1
                  try clear c15
                  try clear c15b0
                  try clear c16
                  try clear c16b0
                  try clear c17
                  try clear c17b0
                  try clear c19
                  try clear c19b0
                  try clear c19b1
                  try clear c20
                  try clear c20b0
                  try clear c20b1
                  try clear c21
                  try clear c21b0
                  try clear c21b1
                  try clear c22
                  try clear c23
                  try clear c26
                  try clear q26
                  try clear c27
                  try clear c30
                  try clear c30b0
                  try clear c30b1
                  try clear c31
                  try clear c31b0
                  try clear c31b1
                  try clear c32
                  try clear c32b0
                  try clear c32b1
                  try clear c33
                  try clear c34
                  try clear c37
                  try clear q37
                  try clear hx106_0
                  try clear p106
                  try clear p2
                  try clear q026
                  try clear q037
                  try clear q106
                  try clear q26
                  try clear q37
                  obtain ⟨x15_3, x16_3, rfl, HA, HK3, HO_11, HO_15, HB⟩ := hrel
                  cases gk with
                  | zero => exact absurd HA.out (by simp [calxlaw08_BookWhole.l1])
                  | succ k3 =>
                    have H := HA.out
                    clear HA
                    simp only [calxlaw08_BookWhole.l1] at H
                    by_cases c41 : x16_3 < (x11_2.length : Int)
                    · rw [if_pos c41] at H
                      have c41b0 : decide (x16_3 < (x11_2.length : Int)) = true := decide_eq_true c41
                      clear c41
                      by_cases c42 : (x11_2.length : Int) = 0
                      · rw [if_pos c42] at H
                        exact absurd H (by simp)
                      · rw [if_neg c42] at H
                        have c42b0 : ((x11_2.length : Int) == 0) = false := beq_eq_false_iff_ne.mpr c42
                        have c42b1 : ((x11_2.length : Int) != 0) = true := bne_iff_ne.mpr c42
                        have c42b2 : ¬ (x11_2 = []) := fun h_ => c42 (by rw [h_]; rfl)
                        obtain ⟨ji43, hji43⟩ : ∃ j_ : Int, (Int.tmod (wrap64 (x16_3 + (wrap64 (a2)))) (x11_2.length : Int)) = j_ := ⟨_, rfl⟩
                        replace H : (if 0 ≤ (ji43) then (if (ji43) < (x11_2.length : Int) then (if x15_3.length < 4398046511104 then (calxlaw08_BookWhole.l1 k3 l0 a2 a3 t103 x11_2 (x15_3 ++ [(⟨(rd_T34 x11_2 (ji43)).f0, (rd_T34 x11_2 (ji43)).f1⟩ : S34)]) (wrap64 (x16_3 + 1))) else (none)) else (none)) else (none)) = some r := by first | (rw [hji43] at H; exact H) | (simp only [hji43] at H ⊢; exact H)
                        by_cases c44 : 0 ≤ (ji43)
                        · rw [if_pos c44] at H
                          have c44b0 : decide (0 ≤ (ji43)) = true := decide_eq_true c44
                          clear c44
                          by_cases c45 : (ji43) < (x11_2.length : Int)
                          · rw [if_pos c45] at H
                            have c45b0 : decide ((ji43) < (x11_2.length : Int)) = true := decide_eq_true c45
                            clear c45
                            by_cases c46 : x15_3.length < 4398046511104
                            · rw [if_pos c46] at H
                              have LMc46 := Aside0.mk c46
                              clear c46
                              obtain ⟨y134, hy134⟩ : ∃ y_ : List (S34), y_ = (x15_3 ++ [(⟨(rd_T34 x11_2 (ji43)).f0, (rd_T34 x11_2 (ji43)).f1⟩ : S34)]) := ⟨_, rfl⟩
                              replace H : (calxlaw08_BookWhole.l1 k3 l0 a2 a3 t103 x11_2 y134 (wrap64 (x16_3 + 1))) = some r := by first | (rw [hy134]; with_reducible exact H) | (have H2_ := (Option.bind_some _ _).symm.trans H; rw [hy134]; with_reducible exact H2_) | (have H2_ := (Option.bind_some _ _).symm.trans H; with_reducible exact H2_) | with_reducible exact H | (rw [hy134]; exact H) | exact H
                              have Ny134 := Aside0.mk hy134
                              clear hy134
                              have H' := Aside0.mk H
                              clear H
                              obtain ⟨Ao47, co47, eo47⟩ := Kd.N_slice HO_11.out
                              subst eo47
                              have p133 : 0 ≤ ((ji43) : Int) := of_decide_eq_true (by first | (with_reducible assumption) | assumption)
                              have q133 : (ji43) < (x11_2.length : Int) := of_decide_eq_true (by first | (with_reducible assumption) | assumption)
                              obtain ⟨ad133, A133_1, c133_1, e133, hx133_0, hx133_1, hl133_1, hi133_1⟩ := at_T34 (Kd.N_reads' HO_11.out).2.2 (ji43) p133 q133
                              cases e133
                              obtain ⟨ce133, hce133, hMe133, hcc133⟩ := Kd.N_get HO_11.out z34 (ji43) p133 (by first | exact q133 | exact of_decide_eq_true (by first | (with_reducible assumption) | assumption) | (have e_ := (Kd.N_reads' HO_11.out).1; omega))
                              obtain ⟨ua133_1, uc133_1, rfl, ul133_1, ge133_1⟩ := k34_openF hMe133
                              have hv133_1 := hcc133 1 _ rfl
                              rw [add_field _ _ 1 (by omega)] at hv133_1
                              replace hv133_1 := Option.some.inj (hv133_1.symm.trans hx133_1)
                              injection hv133_1 with hva_ hvn_ hvc_
                              rw [hva_] at ge133_1
                              rw [hvc_] at ul133_1
                              have HL133_1 := Aside0.mk (show Kd.V k29 29 _ w.heap.size _ _ ((rd_T34 x11_2 (ji43)).f1) from Kd.V_mk ul133_1 ge133_1)
                              clear hva_ hvn_ hvc_ ge133_1 ul133_1
                              clear hcc133 hce133
                              have HR133_1 := Aside0.mk hi133_1
                              have HC133_1 := Aside0.mk hl133_1
                              clear hi133_1 hl133_1
                              replace p133 := eq_true p133
                              replace q133 := eq_true q133
                              go_wp2_with (first | ((with_reducible refine gate_builtin (b := .append) (xs := #[.tmp 90, .tmp 101]) rfl ?_); (try (refine gate_guard (by rfl) ?_; dsimp only)); at_builtin; refine Kd.N_append k34 (w0 := w) w.heap.size rfl (.tmp 90) (.tmp 101) 22 34 (.agg #[(.int .i64 0), (.slice none 0 0)]) 32 rfl Try.underlying22 info34 rfl (by decide) (by omega) u15 x15_3 (⟨(rd_T34 x11_2 (ji43)).f0, (rd_T34 x11_2 (ji43)).f1⟩ : S34) [.int .i64 ((rd_T34 x11_2 (ji43)).f0), .slice A133_1 ((rd_T34 x11_2 (ji43)).f1).length c133_1] (fun k_ => some k_ ≠ (.slice (some ad133) x11_2.length co47 : Value).ownBlock) (fun k_ => ((fun k_ => some k_ ≠ (.slice (some ad133) x11_2.length co47 : Value).ownBlock)) k_ ∧ some k_ ≠ (u15 : Value).ownBlock) rfl rfl ?aP (fun _ hk => hk) ?aF ?aO ?aB ?aS ?aL ?_; (case aP => exact (k34_mkF _ _ (⟨(rd_T34 x11_2 (ji43)).f0, (rd_T34 x11_2 (ji43)).f1⟩ : S34) (Kd.V_reads' (Kd.V_mono (ok' := (fun k_ => ((fun k_ => some k_ ≠ (.slice (some ad133) x11_2.length co47 : Value).ownBlock)) k_ ∧ some k_ ≠ (u15 : Value).ownBlock)) (HL133_1.out) (fun k_ hk => ⟨hk.2, hk.1⟩))).2.1 (Kd.V_F (Kd.V_mono (ok' := (fun k_ => ((fun k_ => some k_ ≠ (.slice (some ad133) x11_2.length co47 : Value).ownBlock)) k_ ∧ some k_ ≠ (u15 : Value).ownBlock)) (HL133_1.out) (fun k_ hk => ⟨hk.2, hk.1⟩))))); (case aB => exact (by repeat (first | (with_reducible first | exact HB.out | apply below_alloc | apply pw_below_drewN | apply below_drew1) | exact HB.out))); (case aF => exact (fun k_ hk => Kd.fresh' (Kd.N_lt (by (with_reducible repeat (first | apply Kd.N_alloc | apply Kd.N_drewN | apply Kd.N_drew)); exact HO_11.out)) k_ hk)); (case aO => exact (by (with_reducible repeat (first | apply Kd.N_alloc | apply Kd.N_drewN | apply Kd.N_drew)); exact HO_15.out)); (case aS => exact (below_size (by repeat (first | (with_reducible first | exact HB.out | apply below_alloc | apply pw_below_drewN | apply below_drew1) | exact HB.out)))); (case aL => have := LMc46.out; omega); intro v135 w48 ho hb hg hat; rw [← Ny134.out] at ho; have n0_ := Aside0.mk (Kd.N_afterv (ok := (fun _ => True)) (by (with_reducible repeat (first | apply Kd.N_alloc | apply Kd.N_drewN | apply Kd.N_drew)); exact Kd.N_mono HO_11.out (fun _ hk => ⟨trivial, hk⟩)) hg hat); have n1_ := Aside0.mk (Kd.V_afterv (ok := (fun k_ => some k_ ≠ (.slice (some ad133) x11_2.length co47 : Value).ownBlock)) (by (with_reducible repeat (first | apply Kd.V_alloc | apply Kd.V_drewN | apply Kd.V_drew)); exact Kd.V_mono HL133_1.out (fun _ hk => ⟨hk.2, hk.1⟩)) hg hat); have n2_ := Aside0.mk (hb); have n3_ := Aside0.mk (ho); clear HO_11; clear HL133_1; clear HB; clear HO_15; have HO_11 := n0_; have HL133_1 := n1_; have HB := n2_; have HO136 := n3_; clear n0_ n1_ n2_ n3_; clear ho hb hg hat))
                              go_roundg k3
                              case measure => have := HJ4.out; have := HK2.out; have := HK3.out; omega
                              case rel => exact ⟨(y134), (wrap64 (x16_3 + 1)), (by first | rfl | (simp; done) | (simp [*]; done)), H', ⟨by have := HJ4.out; have := HK2.out; have := HK3.out; omega⟩, ⟨by (with_reducible repeat (first | apply Kd.N_alloc | apply Kd.N_drewN | apply Kd.N_drew)); exact Kd.N_mono HO_11.out (fun _ hk => hk.2)⟩, ⟨by (with_reducible repeat (first | apply Kd.N_alloc | apply Kd.N_drewN | apply Kd.N_drew)); exact HO136.out⟩, ⟨by repeat (first | (with_reducible first | exact HB.out | apply below_alloc | apply pw_below_drewN | apply below_drew1) | exact HB.out)⟩⟩
                            · rw [if_neg c46] at H
                              exact absurd H (by simp)
                          · rw [if_neg c45] at H
                            exact absurd H (by simp)
                        · rw [if_neg c44] at H
                          exact absurd H (by simp)
                    · rw [if_neg c41] at H
                      have c41b0 : decide (x16_3 < (x11_2.length : Int)) = false := decide_eq_false c41
                      clear c41
                      replace H := Option.bind_eq_some_iff.mp H
                      obtain ⟨⟨t137, t138⟩, A490, H⟩ := H
                      replace H : (if (x15_3.length : Int) = 0 then (none) else ((some (([] : List (S34)) : List (S34))).bind fun y141 => (if 0 ≤ (Int.tmod (wrap64 (a3)) (x15_3.length : Int)) then (if (Int.tmod (wrap64 (a3)) (x15_3.length : Int)) ≤ (x15_3.length : Int) then ((some (x15_3.take ((Int.tmod (wrap64 (a3)) (x15_3.length : Int)) : Int).toNat : List (S34))).bind fun y144 => (if y141.length + y144.length < 4398046511104 then ((some (y141 ++ y144 : List (S34))).bind fun y149 => (if 0 ≤ (wrap64 ((Int.tmod (wrap64 (a3)) (x15_3.length : Int)) + 1)) then (if (wrap64 ((Int.tmod (wrap64 (a3)) (x15_3.length : Int)) + 1)) ≤ (x15_3.length : Int) then ((some (x15_3.drop ((wrap64 ((Int.tmod (wrap64 (a3)) (x15_3.length : Int)) + 1)) : Int).toNat : List (S34))).bind fun y152 => (if y149.length + y152.length < 4398046511104 then ((book_Whole.f (y149 ++ y152) (l0.length : Int) t103).bind fun bt160 => ((calxlaw08_sanity.f).bind fun t164 => (if t164 = true then (if t138 = 0 then ((calxref08_SameBook.f k3 t137 l0).bind fun t165 => (if t165 = true then (some (bt160.2 == 5)) else (some false))) else (some false)) else (some false)))) else (none))) else (none)) else (none))) else (none))) else (none)) else (none)))) = some r := H
                      have A49 := Aside0.mk A490
                      clear A490
                      by_cases c50 : (x15_3.length : Int) = 0
                      · rw [if_pos c50] at H
                        exact absurd H (by simp)
                      · rw [if_neg c50] at H
                        have c50b0 : ((x15_3.length : Int) == 0) = false := beq_eq_false_iff_ne.mpr c50
                        have c50b1 : ((x15_3.length : Int) != 0) = true := bne_iff_ne.mpr c50
                        have c50b2 : ¬ (x15_3 = []) := fun h_ => c50 (by rw [h_]; rfl)
                        obtain ⟨y141, hy141⟩ : ∃ y_ : List (S34), y_ = (([] : List (S34))) := ⟨_, rfl⟩
                        replace H : (if 0 ≤ (Int.tmod (wrap64 (a3)) (x15_3.length : Int)) then (if (Int.tmod (wrap64 (a3)) (x15_3.length : Int)) ≤ (x15_3.length : Int) then ((some (x15_3.take ((Int.tmod (wrap64 (a3)) (x15_3.length : Int)) : Int).toNat : List (S34))).bind fun y144 => (if y141.length + y144.length < 4398046511104 then ((some (y141 ++ y144 : List (S34))).bind fun y149 => (if 0 ≤ (wrap64 ((Int.tmod (wrap64 (a3)) (x15_3.length : Int)) + 1)) then (if (wrap64 ((Int.tmod (wrap64 (a3)) (x15_3.length : Int)) + 1)) ≤ (x15_3.length : Int) then ((some (x15_3.drop ((wrap64 ((Int.tmod (wrap64 (a3)) (x15_3.length : Int)) + 1)) : Int).toNat : List (S34))).bind fun y152 => (if y149.length + y152.length < 4398046511104 then ((book_Whole.f (y149 ++ y152) (l0.length : Int) t103).bind fun bt160 => ((calxlaw08_sanity.f).bind fun t164 => (if t164 = true then (if t138 = 0 then ((calxref08_SameBook.f k3 t137 l0).bind fun t165 => (if t165 = true then (some (bt160.2 == 5)) else (some false))) else (some false)) else (some false)))) else (none))) else (none)) else (none))) else (none))) else (none)) else (none)) = some r := by first | (rw [hy141]; with_reducible exact H) | (have H2_ := (Option.bind_some _ _).symm.trans H; rw [hy141]; with_reducible exact H2_) | (have H2_ := (Option.bind_some _ _).symm.trans H; with_reducible exact H2_) | with_reducible exact H | (rw [hy141]; exact H) | exact H
                        have Ny141 := Aside0.mk hy141
                        clear hy141
                        obtain ⟨ji51, hji51⟩ : ∃ j_ : Int, (Int.tmod (wrap64 (a3)) (x15_3.length : Int)) = j_ := ⟨_, rfl⟩
                        replace H : (if 0 ≤ (ji51) then (if (ji51) ≤ (x15_3.length : Int) then ((some (x15_3.take ((ji51) : Int).toNat : List (S34))).bind fun y144 => (if y141.length + y144.length < 4398046511104 then ((some (y141 ++ y144 : List (S34))).bind fun y149 => (if 0 ≤ (wrap64 ((ji51) + 1)) then (if (wrap64 ((ji51) + 1)) ≤ (x15_3.length : Int) then ((some (x15_3.drop ((wrap64 ((ji51) + 1)) : Int).toNat : List (S34))).bind fun y152 => (if y149.length + y152.length < 4398046511104 then ((book_Whole.f (y149 ++ y152) (l0.length : Int) t103).bind fun bt160 => ((calxlaw08_sanity.f).bind fun t164 => (if t164 = true then (if t138 = 0 then ((calxref08_SameBook.f k3 t137 l0).bind fun t165 => (if t165 = true then (some (bt160.2 == 5)) else (some false))) else (some false)) else (some false)))) else (none))) else (none)) else (none))) else (none))) else (none)) else (none)) = some r := by first | (rw [hji51] at H; exact H) | (simp only [hji51] at H ⊢; exact H)
                        (try rw [hji51] at A49)
                        by_cases c52 : 0 ≤ (ji51)
                        · rw [if_pos c52] at H
                          have c52b0 := eq_true c52
                          have c52b1 : decide (0 ≤ (ji51)) = true := decide_eq_true c52
                          clear c52
                          by_cases c53 : (ji51) ≤ (x15_3.length : Int)
                          · rw [if_pos c53] at H
                            have c53b0 := eq_true c53
                            have c53b1 : decide ((ji51) ≤ (x15_3.length : Int)) = true := decide_eq_true c53
                            clear c53
                            obtain ⟨y144, hy144⟩ : ∃ y_ : List (S34), y_ = (x15_3.take ((ji51) : Int).toNat) := ⟨_, rfl⟩
                            replace H : (if y141.length + y144.length < 4398046511104 then ((some (y141 ++ y144 : List (S34))).bind fun y149 => (if 0 ≤ (wrap64 ((ji51) + 1)) then (if (wrap64 ((ji51) + 1)) ≤ (x15_3.length : Int) then ((some (x15_3.drop ((wrap64 ((ji51) + 1)) : Int).toNat : List (S34))).bind fun y152 => (if y149.length + y152.length < 4398046511104 then ((book_Whole.f (y149 ++ y152) (l0.length : Int) t103).bind fun bt160 => ((calxlaw08_sanity.f).bind fun t164 => (if t164 = true then (if t138 = 0 then ((calxref08_SameBook.f k3 t137 l0).bind fun t165 => (if t165 = true then (some (bt160.2 == 5)) else (some false))) else (some false)) else (some false)))) else (none))) else (none)) else (none))) else (none)) = some r := by first | (rw [hy144]; with_reducible exact H) | (have H2_ := (Option.bind_some _ _).symm.trans H; rw [hy144]; with_reducible exact H2_) | (have H2_ := (Option.bind_some _ _).symm.trans H; with_reducible exact H2_) | with_reducible exact H | (rw [hy144]; exact H) | exact H
                            have Ny144 := Aside0.mk hy144
                            clear hy144
                            by_cases c54 : y141.length + y144.length < 4398046511104
                            · rw [if_pos c54] at H
                              have LMc54 := Aside0.mk c54
                              clear c54
                              obtain ⟨y149, hy149⟩ : ∃ y_ : List (S34), y_ = (y141 ++ y144) := ⟨_, rfl⟩
                              replace H : (if 0 ≤ (wrap64 ((ji51) + 1)) then (if (wrap64 ((ji51) + 1)) ≤ (x15_3.length : Int) then ((some (x15_3.drop ((wrap64 ((ji51) + 1)) : Int).toNat : List (S34))).bind fun y152 => (if y149.length + y152.length < 4398046511104 then ((book_Whole.f (y149 ++ y152) (l0.length : Int) t103).bind fun bt160 => ((calxlaw08_sanity.f).bind fun t164 => (if t164 = true then (if t138 = 0 then ((calxref08_SameBook.f k3 t137 l0).bind fun t165 => (if t165 = true then (some (bt160.2 == 5)) else (some false))) else (some false)) else (some false)))) else (none))) else (none)) else (none)) = some r := by first | (rw [hy149]; with_reducible exact H) | (have H2_ := (Option.bind_some _ _).symm.trans H; rw [hy149]; with_reducible exact H2_) | (have H2_ := (Option.bind_some _ _).symm.trans H; with_reducible exact H2_) | with_reducible exact H | (rw [hy149]; exact H) | exact H
                              have Ny149 := Aside0.mk hy149
                              clear hy149
                              obtain ⟨ji55, hji55⟩ : ∃ j_ : Int, (wrap64 ((ji51) + 1)) = j_ := ⟨_, rfl⟩
                              replace H : (if 0 ≤ (ji55) then (if (ji55) ≤ (x15_3.length : Int) then ((some (x15_3.drop ((ji55) : Int).toNat : List (S34))).bind fun y152 => (if y149.length + y152.length < 4398046511104 then ((book_Whole.f (y149 ++ y152) (l0.length : Int) t103).bind fun bt160 => ((calxlaw08_sanity.f).bind fun t164 => (if t164 = true then (if t138 = 0 then ((calxref08_SameBook.f k3 t137 l0).bind fun t165 => (if t165 = true then (some (bt160.2 == 5)) else (some false))) else (some false)) else (some false)))) else (none))) else (none)) else (none)) = some r := by first | (rw [hji55] at H; exact H) | (simp only [hji55] at H ⊢; exact H)
                              (try rw [hji55] at A49)
                              have hji55w : (IntKind.i64.wrap ((ji51) + 1)) = ji55 := (i64_w _).trans hji55
                              by_cases c56 : 0 ≤ (ji55)
                              · rw [if_pos c56] at H
                                have c56b0 := eq_true c56
                                have c56b1 : decide (0 ≤ (ji55)) = true := decide_eq_true c56
                                clear c56
                                by_cases c57 : (ji55) ≤ (x15_3.length : Int)
                                · rw [if_pos c57] at H
                                  have c57b0 := eq_true c57
                                  have c57b1 : decide ((ji55) ≤ (x15_3.length : Int)) = true := decide_eq_true c57
                                  clear c57
                                  obtain ⟨y152, hy152⟩ : ∃ y_ : List (S34), y_ = (x15_3.drop ((ji55) : Int).toNat) := ⟨_, rfl⟩
                                  replace H : (if y149.length + y152.length < 4398046511104 then ((book_Whole.f (y149 ++ y152) (l0.length : Int) t103).bind fun bt160 => ((calxlaw08_sanity.f).bind fun t164 => (if t164 = true then (if t138 = 0 then ((calxref08_SameBook.f k3 t137 l0).bind fun t165 => (if t165 = true then (some (bt160.2 == 5)) else (some false))) else (some false)) else (some false)))) else (none)) = some r := by first | (rw [hy152]; with_reducible exact H) | (have H2_ := (Option.bind_some _ _).symm.trans H; rw [hy152]; with_reducible exact H2_) | (have H2_ := (Option.bind_some _ _).symm.trans H; with_reducible exact H2_) | with_reducible exact H | (rw [hy152]; exact H) | exact H
                                  have Ny152 := Aside0.mk hy152
                                  clear hy152
                                  by_cases c58 : y149.length + y152.length < 4398046511104
                                  · rw [if_pos c58] at H
                                    have LMc58 := Aside0.mk c58
                                    clear c58
                                    obtain ⟨y157, hy157⟩ : ∃ y_ : List (S34), y_ = (y149 ++ y152) := ⟨_, rfl⟩
                                    replace H : ((book_Whole.f y157 (l0.length : Int) t103).bind fun bt160 => ((calxlaw08_sanity.f).bind fun t164 => (if t164 = true then (if t138 = 0 then ((calxref08_SameBook.f k3 t137 l0).bind fun t165 => (if t165 = true then (some (bt160.2 == 5)) else (some false))) else (some false)) else (some false)))) = some r := by first | (rw [hy157]; with_reducible exact H) | (have H2_ := (Option.bind_some _ _).symm.trans H; rw [hy157]; with_reducible exact H2_) | (have H2_ := (Option.bind_some _ _).symm.trans H; with_reducible exact H2_) | with_reducible exact H | (rw [hy157]; exact H) | exact H
                                    have Ny157 := Aside0.mk hy157
                                    clear hy157
                                    replace H := Option.bind_eq_some_iff.mp H
                                    obtain ⟨⟨t160, t161⟩, A590, H⟩ := H
                                    replace H : ((calxlaw08_sanity.f).bind fun t164 => (if t164 = true then (if t138 = 0 then ((calxref08_SameBook.f k3 t137 l0).bind fun t165 => (if t165 = true then (some (t161 == 5)) else (some false))) else (some false)) else (some false))) = some r := H
                                    have A59 := Aside0.mk A590
                                    clear A590
                                    replace H := Option.bind_eq_some_iff.mp H
                                    obtain ⟨t164, A600, H⟩ := H
                                    replace H : (if t164 = true then (if t138 = 0 then ((calxref08_SameBook.f k3 t137 l0).bind fun t165 => (if t165 = true then (some (t161 == 5)) else (some false))) else (some false)) else (some false)) = some r := H
                                    have A60 := Aside0.mk A600
                                    clear A600
                                    by_cases c61 : t164 = true
                                    · subst c61
                                      have H1 : (if t138 = 0 then ((calxref08_SameBook.f k3 t137 l0).bind fun t165 => (if t165 = true then (some (t161 == 5)) else (some false))) else (some false)) = some r := by rw [if_pos rfl] at H; exact H
                                      clear H
                                      have H := H1
                                      clear H1
                                      by_cases c62 : t138 = 0
                                      · rw [if_pos c62] at H
                                        have c62b0 : (t138 == 0) = true := beq_iff_eq.mpr c62
                                        have c62b1 : (t138 != 0) = false := bne_eq_false_iff_eq.mpr c62
                                        clear c62
                                        replace H := Option.bind_eq_some_iff.mp H
                                        obtain ⟨t165, A630, H⟩ := H
                                        replace H : (if t165 = true then (some (t161 == 5)) else (some false)) = some r := H
                                        have A63 := Aside0.mk A630
                                        clear A630
                                        by_cases c64 : t165 = true
                                        · subst c64
                                          have H1 : (some (t161 == 5)) = some r := by rw [if_pos rfl] at H; exact H
                                          clear H
                                          have H := H1
                                          clear H1
                                          obtain rfl := Option.some.inj H
                                          obtain ⟨Ao65, co65, eo65⟩ := Kd.N_slice HO_11.out
                                          subst eo65
                                          obtain ⟨Ao66, co66, eo66⟩ := Kd.N_slice HO_15.out
                                          subst eo66
                                          try go_wp2_with (first | ((with_reducible refine gate_callee (f := 59) rfl ?_); refine goesL_ (some 108) rfl rfl Try.func59 (by kernel_rfl) rfl #[.slice Ao66 x15_3.length co66, .int .i64 (l0.length : Int), .int .i64 t103] rfl (by (try simp only [List.map_toArray, List.map_cons, List.map_nil]); first | done | rfl | (simp only [List.length_drop, List.length_take]; rfl)) ?_; (with_reducible refine (book_Whole.calls _ _ x15_3 (l0.length : Int) t103 t137 t138 _ ?side1 ?side2 A49.out).mono ?_); (case side1 => repeat (first | exact (Kd.N_reads' HO_15.out).2.2 | (with_reducible refine Kd.C_alloc ?_ _) | (with_reducible refine Kd.C_drewN ?_ _) | (with_reducible refine Kd.C_drew ?_))); (case side2 => exact (Kd.N_reads' HO_15.out).2.1); rintro e w67 ⟨v139, rfl, ho0, hb⟩; refine ⟨_, rfl, ?_⟩; have n0_ := Aside0.mk (Kd.N_elder' (by (with_reducible repeat (first | apply Kd.N_alloc | apply Kd.N_drewN | apply Kd.N_drew)); exact HO_11.out) (Kd.R_base ho0) hb); have n1_ := Aside0.mk (Kd.N_elder' (by (with_reducible repeat (first | apply Kd.N_alloc | apply Kd.N_drewN | apply Kd.N_drew)); exact HO_15.out) (Kd.R_base ho0) hb); have n2_ := Aside0.mk (Kd.R_lower ho0 (below_size (by repeat (first | (with_reducible first | exact HB.out | apply below_alloc | apply pw_below_drewN | apply below_drew1) | exact HB.out)))); have n3_ := Aside0.mk (below_step (by repeat (first | (with_reducible first | exact HB.out | apply below_alloc | apply pw_below_drewN | apply below_drew1) | exact HB.out)) hb); clear HO_11; clear HO_15; clear HB; have HO_11 := n0_; have HO_15 := n1_; have HO140 := n2_; have HB := n3_; clear n0_ n1_ n2_ n3_; (try clear hb); (try clear hb2); (try clear hk); (try clear hi); (try clear ho0)))
                                          have n0_ := Aside0.mk (Kd.N_drew HO_11.out)
                                          have n1_ := Aside0.mk (Kd.N_drew HO_15.out)
                                          have n2_ := Aside0.mk (Kd.R_drew HO140.out)
                                          have n3_ := Aside0.mk (below_drew1 HB.out)
                                          clear HO_11
                                          clear HO_15
                                          clear HO140
                                          clear HB
                                          have HO_11 := n0_
                                          have HO_15 := n1_
                                          have HO140 := n2_
                                          have HB := n3_
                                          clear n0_ n1_ n2_ n3_
                                          have q69 : ((ji51) : Int) ≤ ((x15_3.length : Int) : Int) := of_decide_eq_true (by first | (with_reducible assumption) | assumption)
                                          obtain ⟨i069, hi069, _, hsz69, _⟩ := info_parts info34
                                          have hroom69 : x15_3.length ≤ co66 := (Kd.N_reads' HO_15.out).2.1
                                          have hC69 : Kd.F k34 _ _ Ao66 x15_3.length x15_3 := (Kd.V_at (base := w.heap.size) (Kd.N_V HO_15.out)).2.2
                                          have hcut69 := cut_to (P := Try.prog) 22 34 .i64 Try.underlying22 hi069 Ao66 x15_3.length co66 (ji51) (of_decide_eq_true (by first | (with_reducible assumption) | assumption)) q69 hroom69
                                          have hr69 := Kd.F_take (m := ((ji51) : Int).toNat) hC69 (by omega)
                                          have hy69 : y144.length = ((ji51) : Int).toNat := (by rw [Ny144.out, List.length_take]; omega)
                                          rw [← Ny144.out] at hr69
                                          rw [← hy69] at hcut69
                                          have HO148 := Aside0.mk (show Kd.V k34 34 _ w.heap.size _ (.slice Ao66 y144.length co66) y144 from Kd.V_mk (by omega) hr69)
                                          have HC148 := Aside0.mk (show y144.length ≤ co66 from by omega)
                                          clear hr69 hC69 hroom69 hi069 hsz69
                                          have KY69 := Aside0.mk hy69
                                          clear hy69
                                          replace q69 := eq_true q69
                                          have q70 : ((ji55) : Int) ≤ ((x15_3.length : Int) : Int) := of_decide_eq_true (by first | (with_reducible assumption) | assumption)
                                          obtain ⟨i070, hi070, _, hsz70, _⟩ := info_parts info34
                                          have hroom70 : x15_3.length ≤ co66 := (Kd.N_reads' HO_15.out).2.1
                                          have hC70 : Kd.F k34 _ _ Ao66 x15_3.length x15_3 := (Kd.V_at (base := w.heap.size) (Kd.N_V HO_15.out)).2.2
                                          have q070 : (0 : Int) ≤ ((ji55) : Int) := of_decide_eq_true (by first | (with_reducible assumption) | assumption)
                                          have hcut70 := cut_from (P := Try.prog) 22 34 .i64 Try.underlying22 hi070 2 hsz70 Ao66 x15_3.length co66 (ji55) q070 q70
                                          have hr70 := Kd.F_cut (m := ((ji55) : Int).toNat) (c := co66) hC70 (by omega) hroom70
                                          obtain ⟨A70, hA70⟩ : ∃ A1, A1 = (if co66 = ((ji55) : Int).toNat then Ao66 else (Ao66 : Option Addr).map (·.add (((ji55) : Int).toNat * 2))) := ⟨_, rfl⟩
                                          obtain ⟨c70, hc70⟩ : ∃ c1, c1 = co66 - ((ji55) : Int).toNat := ⟨_, rfl⟩
                                          have hy70 : y152.length = x15_3.length - ((ji55) : Int).toNat := (by rw [Ny152.out, List.length_drop] <;> omega)
                                          rw [show (x15_3).drop ((ji55) : Int).toNat = y152 from Ny152.out.symm] at hr70
                                          replace hr70 : Kd.F k34 _ _ A70 y152.length y152 := (by rw [hA70]; exact hr70)
                                          rw [← hy70, ← hA70, ← hc70] at hcut70
                                          have HO156 := Aside0.mk (show Kd.V k34 34 _ w.heap.size _ (.slice A70 y152.length c70) y152 from Kd.V_mk (by rw [hy70, hc70]; exact Nat.sub_le_sub_right hroom70 _) hr70)
                                          have HC156 := Aside0.mk (show y152.length ≤ c70 from by rw [hy70, hc70]; exact Nat.sub_le_sub_right hroom70 _)
                                          clear hr70 hC70 hroom70 hi070 hsz70 hc70
                                          have KY70 := Aside0.mk hy70
                                          have KA70 := Aside0.mk hA70
                                          clear hy70 hA70
                                          replace q70 := eq_true q70
                                          refine start_ (n := 11) (S := fun w' => True) (ds := []) #[false, false, false, false, false, false, false, false, false, false, false] (by kernel_rfl) rfl rfl trivial (fun hHeld => ?_); refine with_tabW calxlaw08_BookWhole.tab23 calxlaw08_BookWhole.bits23 (fun HT_ HW_ => ?_)
                                          generalize w67.drew = w68 at HO_11 HO_15 HO140 HB HO148 HO156 hHeld ⊢
                                          refine pure_ (i := 1) (N := some 117) (v := ?_) (a' := ?_) #[false, true, false, false, false, false, false, false, false, false, false] rfl rfl (any_of HT_.out (by kernel_rfl)) (fun _ _ _ h => h) (Or.inl ⟨by rfl, ?_⟩) ?_ ?_
                                          rotate_left
                                          · intro w'
                                            go_simp
                                            with_reducible rfl
                                          rotate_left
                                          · simp only [Act.put, List.setIfInBounds_toArray, List.set_cons_zero, List.set_cons_succ, i64_w, i32_w]
                                            rfl
                                          refine pure_ (i := 2) (N := some 118) (v := ?_) (a' := ?_) #[false, true, true, false, false, false, false, false, false, false, false] rfl rfl (any_of HT_.out (by kernel_rfl)) (fun _ _ _ h => h) (Or.inl ⟨by rfl, ?_⟩) ?_ ?_
                                          rotate_left
                                          · intro w'
                                            go_simp
                                            with_reducible rfl
                                          rotate_left
                                          · simp only [Act.put, List.setIfInBounds_toArray, List.set_cons_zero, List.set_cons_succ, i64_w, i32_w]
                                            rfl
                                          refine pure_ (i := 3) (N := some 119) (v := ?_) (a' := ?_) #[false, true, true, true, false, false, false, false, false, false, false] rfl rfl (any_of HT_.out (by kernel_rfl)) (fun _ _ _ h => h) (Or.inl ⟨by rfl, ?_⟩) ?_ ?_
                                          rotate_left
                                          · intro w'
                                            go_simp
                                            with_reducible rfl
                                          rotate_left
                                          · simp only [Act.put, List.setIfInBounds_toArray, List.set_cons_zero, List.set_cons_succ, i64_w, i32_w]
                                            rfl
                                          refine pure_ (i := 5) (N := some 121) (v := ?_) (a' := ?_) #[false, true, true, true, false, true, false, false, false, false, false] rfl rfl (any_of HT_.out (by kernel_rfl)) (fun _ _ _ h => h) (Or.inl ⟨by rfl, ?_⟩) ?_ ?_
                                          rotate_left
                                          · intro w'
                                            go_simp
                                            with_reducible rfl
                                          rotate_left
                                          · simp only [Act.put, List.setIfInBounds_toArray, List.set_cons_zero, List.set_cons_succ, i64_w, i32_w]
                                            rfl
                                          refine pure_ (i := 6) (N := some 122) (v := ?_) (a' := ?_) #[false, true, true, true, false, true, true, false, false, false, false] rfl rfl (any_of HT_.out (by kernel_rfl)) (fun _ _ _ h => h) (Or.inl ⟨by rfl, ?_⟩) ?_ ?_
                                          rotate_left
                                          · intro w'
                                            go_simp
                                            with_reducible rfl
                                          rotate_left
                                          · simp only [Act.put, List.setIfInBounds_toArray, List.set_cons_zero, List.set_cons_succ, i64_w, i32_w]
                                            rfl
                                          refine pure_ (i := 7) (N := some 123) (v := ?_) (a' := ?_) #[false, true, true, true, false, true, true, true, false, false, false] rfl rfl (any_of HT_.out (by kernel_rfl)) (fun _ _ _ h => h) (Or.inl ⟨by rfl, ?_⟩) ?_ ?_
                                          rotate_left
                                          · intro w'
                                            go_simp
                                            with_reducible rfl
                                          rotate_left
                                          · simp only [Act.put, List.setIfInBounds_toArray, List.set_cons_zero, List.set_cons_succ, i64_w, i32_w]
                                            rfl
                                          refine pure_ (i := 8) (N := some 124) (v := ?_) (a' := ?_) #[false, true, true, true, false, true, true, true, true, false, false] rfl rfl (any_of HT_.out (by kernel_rfl)) (fun _ _ _ h => h) (Or.inl ⟨by rfl, ?_⟩) ?_ ?_
                                          rotate_left
                                          · intro w'
                                            go_simp
                                            with_reducible rfl
                                          rotate_left
                                          · simp only [Act.put, List.setIfInBounds_toArray, List.set_cons_zero, List.set_cons_succ, i64_w, i32_w]
                                            rfl
                                          refine one_ (i := 0) (N := some 116) #[true, true, true, true, false, true, true, true, true, false, false] rfl rfl (one_of HT_.out (by kernel_rfl)) (by decide) (fun K hK => ?_)
                                          refine Kd.N_lit_step k34 _ 34 ?hg (N' := 116) ?hd (xs := ([] : List (S34))) (inner := []) (ok := (fun k_ => some k_ ≠ (.slice Ao65 x11_2.length co65 : Value).ownBlock ∧ some k_ ≠ (.slice Ao66 x15_3.length co66 : Value).ownBlock ∧ some k_ ≠ (v139 : Value).ownBlock)) (okp := (fun k_ => some k_ ≠ (.slice Ao65 x11_2.length co65 : Value).ownBlock ∧ some k_ ≠ (.slice Ao66 x15_3.length co66 : Value).ownBlock ∧ some k_ ≠ (v139 : Value).ownBlock)) ?hr ?hp (fun _ hk => hk) ((show ∀ k_, w68.heap.size ≤ k_ → (fun k_ => some k_ ≠ (.slice Ao65 x11_2.length co65 : Value).ownBlock ∧ some k_ ≠ (.slice Ao66 x15_3.length co66 : Value).ownBlock ∧ some k_ ≠ (v139 : Value).ownBlock) k_ from fun k_ hk => ⟨Kd.fresh' (Kd.N_lt (by (with_reducible repeat (first | apply Kd.N_alloc | apply Kd.N_drewN | apply Kd.N_drew)); exact HO_11.out)) k_ hk, Kd.fresh' (Kd.N_lt (by (with_reducible repeat (first | apply Kd.N_alloc | apply Kd.N_drewN | apply Kd.N_drew)); exact HO_15.out)) k_ hk, Kd.fresh' (Kd.R_lt (by (with_reducible repeat (first | apply Kd.R_alloc | apply Kd.R_drewN | apply Kd.R_drew)); exact HO140.out)) k_ hk⟩) _ (Nat.le_refl _)) (Below.refl _ _) (Nat.le_refl _) (by simp) ?_; (case hd => rfl); (case hg => rfl); (case hr => first | (go_simp; done) | (go_simp; rfl)); (case hp => exact (Reps.none _ _))
                                          intro v142 w71 ho72 hb hg_ hnew_
                                          clear hg_ hnew_
                                          (first | rw [← Ny141.out] at ho72 | (simp only [Int.reduceToNat] at ho72; rw [← Ny141.out] at ho72))
                                          have n0_ := Aside0.mk (Kd.N_elder' (by (with_reducible repeat (first | apply Kd.N_alloc | apply Kd.N_drewN | apply Kd.N_drew)); exact HO_11.out) (Kd.N_base ho72) hb)
                                          have n1_ := Aside0.mk (Kd.N_elder' (by (with_reducible repeat (first | apply Kd.N_alloc | apply Kd.N_drewN | apply Kd.N_drew)); exact HO_15.out) (Kd.N_base ho72) hb)
                                          have n2_ := Aside0.mk (Kd.R_below (by (with_reducible repeat (first | apply Kd.R_alloc | apply Kd.R_drewN | apply Kd.R_drew)); exact HO140.out) hb)
                                          have n3_ := Aside0.mk (Kd.V_elder' (by (with_reducible repeat (first | apply Kd.V_alloc | apply Kd.V_drewN | apply Kd.V_drew)); exact HO148.out) (Kd.N_base ho72) hb)
                                          have n4_ := Aside0.mk (Kd.V_elder' (by (with_reducible repeat (first | apply Kd.V_alloc | apply Kd.V_drewN | apply Kd.V_drew)); exact HO156.out) (Kd.N_base ho72) hb)
                                          have n5_ := Aside0.mk (Kd.N_lower ho72 (below_size (by repeat (first | (with_reducible first | exact HB.out | apply below_alloc | apply pw_below_drewN | apply below_drew1) | exact HB.out))))
                                          have n6_ := Aside0.mk (below_step (by repeat (first | (with_reducible first | exact HB.out | apply below_alloc | apply pw_below_drewN | apply below_drew1) | exact HB.out)) hb)
                                          clear HO_11
                                          clear HO_15
                                          clear HO140
                                          clear HO148
                                          clear HO156
                                          clear HB
                                          have HO_11 := n0_
                                          have HO_15 := n1_
                                          have HO140 := n2_
                                          have HO148 := n3_
                                          have HO156 := n4_
                                          have HO143 := n5_
                                          have HB := n6_
                                          clear n0_ n1_ n2_ n3_ n4_ n5_ n6_
                                          clear hb ho72
                                          refine hK.out _ _ trivial (fun hHeld => ?_)
                                          clear hK K
                                          refine norm_ (a' := ?_) ?_ ?_
                                          rotate_left
                                          · show Act.put _ (some 116) _ = _
                                            simp only [Act.put, List.setIfInBounds_toArray, List.set_cons_zero, List.set_cons_succ, i64_w, i32_w]
                                            rfl
                                          refine one_ (i := 4) (N := some 120) #[true, true, true, true, true, true, true, true, true, false, false] rfl rfl (one_of HT_.out (by kernel_rfl)) (by decide) (fun K hK => ?_)
                                          refine Kd.N_append_rows_step k34 (w0 := w) w.heap.size (by rfl) (.tmp 116) (.tmp 119) 22 34 (.agg #[(.int .i64 0), (.slice none 0 0)]) 32 rfl Try.underlying22 info34 rfl (by decide) (by omega) v142 y141 y144 _ _ _ (fun k_ => some k_ ≠ (.slice Ao65 x11_2.length co65 : Value).ownBlock ∧ some k_ ≠ (v139 : Value).ownBlock) (fun k_ => ((fun k_ => some k_ ≠ (.slice Ao65 x11_2.length co65 : Value).ownBlock ∧ some k_ ≠ (v139 : Value).ownBlock)) k_ ∧ some k_ ≠ (v142 : Value).ownBlock) rfl rfl ?aO ?aR (fun _ hk => hk) ?aF ?aB ?aS ?aL ?_
                                          (case aR => exact (by skip; exact Kd.V_F (Kd.V_mono (ok' := (fun k_ => ((fun k_ => some k_ ≠ (.slice Ao65 x11_2.length co65 : Value).ownBlock ∧ some k_ ≠ (v139 : Value).ownBlock)) k_ ∧ some k_ ≠ (v142 : Value).ownBlock)) (HO148.out) (fun k_ hk => ⟨⟨hk.1.1, hk.1.2⟩, hk.2⟩))))
                                          (case aB => exact (by repeat (first | (with_reducible first | exact HB.out | apply below_alloc | apply pw_below_drewN | apply below_drew1) | exact HB.out)))
                                          (case aF => exact (fun k_ hk => ⟨Kd.fresh' (Kd.N_lt (by (with_reducible repeat (first | apply Kd.N_alloc | apply Kd.N_drewN | apply Kd.N_drew)); exact HO_11.out)) k_ hk, Kd.fresh' (Kd.R_lt (by (with_reducible repeat (first | apply Kd.R_alloc | apply Kd.R_drewN | apply Kd.R_drew)); exact HO140.out)) k_ hk⟩))
                                          (case aO => exact (by (with_reducible repeat (first | apply Kd.N_alloc | apply Kd.N_drewN | apply Kd.N_drew)); exact Kd.N_mono HO143.out (fun _ hk => ⟨hk.1, hk.2.2⟩)))
                                          (case aS => exact (below_size (by repeat (first | (with_reducible first | exact HB.out | apply below_alloc | apply pw_below_drewN | apply below_drew1) | exact HB.out))))
                                          (case aL => have := LMc54.out; omega)
                                          intro v150 w73 ho hb hg hat
                                          rw [← Ny149.out] at ho
                                          have n0_ := Aside0.mk (Kd.N_afterv (ok := (fun k_ => some k_ ≠ (.slice Ao66 x15_3.length co66 : Value).ownBlock ∧ some k_ ≠ (v139 : Value).ownBlock)) (by (with_reducible repeat (first | apply Kd.N_alloc | apply Kd.N_drewN | apply Kd.N_drew)); exact HO_11.out) hg hat)
                                          have n1_ := Aside0.mk (Kd.N_afterv (ok := (fun k_ => some k_ ≠ (.slice Ao65 x11_2.length co65 : Value).ownBlock ∧ some k_ ≠ (v139 : Value).ownBlock)) (by (with_reducible repeat (first | apply Kd.N_alloc | apply Kd.N_drewN | apply Kd.N_drew)); exact HO_15.out) hg hat)
                                          have n2_ := Aside0.mk (Kd.R_over' (by (with_reducible repeat (first | apply Kd.R_alloc | apply Kd.R_drewN | apply Kd.R_drew)); exact HO140.out) (Kd.N_typed (by (with_reducible repeat (first | apply Kd.N_alloc | apply Kd.N_drewN | apply Kd.N_drew)); exact HO143.out)) (by decide) hg)
                                          have n3_ := Aside0.mk (Kd.V_afterv (ok := (fun k_ => some k_ ≠ (.slice Ao65 x11_2.length co65 : Value).ownBlock ∧ some k_ ≠ (v139 : Value).ownBlock)) (by (with_reducible repeat (first | apply Kd.V_alloc | apply Kd.V_drewN | apply Kd.V_drew)); exact HO148.out) hg hat)
                                          have n4_ := Aside0.mk (Kd.V_afterv (ok := (fun k_ => some k_ ≠ (.slice Ao65 x11_2.length co65 : Value).ownBlock ∧ some k_ ≠ (v139 : Value).ownBlock)) (by (with_reducible repeat (first | apply Kd.V_alloc | apply Kd.V_drewN | apply Kd.V_drew)); exact HO156.out) hg hat)
                                          have n5_ := Aside0.mk (hb)
                                          have n6_ := Aside0.mk (ho)
                                          clear HO_11
                                          clear HO_15
                                          clear HO140
                                          clear HO148
                                          clear HO156
                                          clear HB
                                          clear HO143
                                          have HO_11 := n0_
                                          have HO_15 := n1_
                                          have HO140 := n2_
                                          have HO148 := n3_
                                          have HO156 := n4_
                                          have HB := n5_
                                          have HO151 := n6_
                                          clear n0_ n1_ n2_ n3_ n4_ n5_ n6_
                                          clear ho hb hg hat
                                          refine hK.out _ _ trivial (fun hHeld => ?_)
                                          clear hK K
                                          refine norm_ (a' := ?_) ?_ ?_
                                          rotate_left
                                          · show Act.put _ (some 120) _ = _
                                            simp only [Act.put, List.setIfInBounds_toArray, List.set_cons_zero, List.set_cons_succ, i64_w, i32_w]
                                            rfl
                                          refine one_ (i := 9) (N := some 125) #[true, true, true, true, true, true, true, true, true, true, false] rfl rfl (one_of HT_.out (by kernel_rfl)) (by decide) (fun K hK => ?_)
                                          refine Kd.N_append_rows_step k34 (w0 := w) w.heap.size (by rfl) (.tmp 120) (.tmp 124) 22 34 (.agg #[(.int .i64 0), (.slice none 0 0)]) 32 rfl Try.underlying22 info34 rfl (by decide) (by omega) v150 y149 y152 _ _ _ (fun k_ => some k_ ≠ (.slice Ao65 x11_2.length co65 : Value).ownBlock ∧ some k_ ≠ (v139 : Value).ownBlock) (fun k_ => ((fun k_ => some k_ ≠ (.slice Ao65 x11_2.length co65 : Value).ownBlock ∧ some k_ ≠ (v139 : Value).ownBlock)) k_ ∧ some k_ ≠ (v150 : Value).ownBlock) rfl rfl ?aO ?aR (fun _ hk => hk) ?aF ?aB ?aS ?aL ?_
                                          (case aR => exact (by skip; exact Kd.V_F (Kd.V_mono (ok' := (fun k_ => ((fun k_ => some k_ ≠ (.slice Ao65 x11_2.length co65 : Value).ownBlock ∧ some k_ ≠ (v139 : Value).ownBlock)) k_ ∧ some k_ ≠ (v150 : Value).ownBlock)) (HO156.out) (fun k_ hk => ⟨⟨hk.1.1, hk.1.2⟩, hk.2⟩))))
                                          (case aB => exact (by repeat (first | (with_reducible first | exact HB.out | apply below_alloc | apply pw_below_drewN | apply below_drew1) | exact HB.out)))
                                          (case aF => exact (fun k_ hk => ⟨Kd.fresh' (Kd.N_lt (by (with_reducible repeat (first | apply Kd.N_alloc | apply Kd.N_drewN | apply Kd.N_drew)); exact HO_11.out)) k_ hk, Kd.fresh' (Kd.R_lt (by (with_reducible repeat (first | apply Kd.R_alloc | apply Kd.R_drewN | apply Kd.R_drew)); exact HO140.out)) k_ hk⟩))
                                          (case aO => exact (by (with_reducible repeat (first | apply Kd.N_alloc | apply Kd.N_drewN | apply Kd.N_drew)); exact HO151.out))
                                          (case aS => exact (below_size (by repeat (first | (with_reducible first | exact HB.out | apply below_alloc | apply pw_below_drewN | apply below_drew1) | exact HB.out))))
                                          (case aL => have := LMc58.out; omega)
                                          intro v158 w74 ho hb hg hat
                                          rw [← Ny157.out] at ho
                                          have n0_ := Aside0.mk (Kd.N_afterv (ok := (fun k_ => some k_ ≠ (.slice Ao66 x15_3.length co66 : Value).ownBlock ∧ some k_ ≠ (v139 : Value).ownBlock)) (by (with_reducible repeat (first | apply Kd.N_alloc | apply Kd.N_drewN | apply Kd.N_drew)); exact HO_11.out) hg hat)
                                          have n1_ := Aside0.mk (Kd.N_afterv (ok := (fun k_ => some k_ ≠ (.slice Ao65 x11_2.length co65 : Value).ownBlock ∧ some k_ ≠ (v139 : Value).ownBlock)) (by (with_reducible repeat (first | apply Kd.N_alloc | apply Kd.N_drewN | apply Kd.N_drew)); exact HO_15.out) hg hat)
                                          have n2_ := Aside0.mk (Kd.R_over' (by (with_reducible repeat (first | apply Kd.R_alloc | apply Kd.R_drewN | apply Kd.R_drew)); exact HO140.out) (Kd.N_typed (by (with_reducible repeat (first | apply Kd.N_alloc | apply Kd.N_drewN | apply Kd.N_drew)); exact HO151.out)) (by decide) hg)
                                          have n3_ := Aside0.mk (Kd.V_afterv (ok := (fun k_ => some k_ ≠ (.slice Ao65 x11_2.length co65 : Value).ownBlock ∧ some k_ ≠ (v139 : Value).ownBlock)) (by (with_reducible repeat (first | apply Kd.V_alloc | apply Kd.V_drewN | apply Kd.V_drew)); exact HO148.out) hg hat)
                                          have n4_ := Aside0.mk (Kd.V_afterv (ok := (fun k_ => some k_ ≠ (.slice Ao65 x11_2.length co65 : Value).ownBlock ∧ some k_ ≠ (v139 : Value).ownBlock)) (by (with_reducible repeat (first | apply Kd.V_alloc | apply Kd.V_drewN | apply Kd.V_drew)); exact HO156.out) hg hat)
                                          have n5_ := Aside0.mk (hb)
                                          have n6_ := Aside0.mk (ho)
                                          clear HO_11
                                          clear HO_15
                                          clear HO140
                                          clear HO148
                                          clear HO156
                                          clear HB
                                          clear HO151
                                          have HO_11 := n0_
                                          have HO_15 := n1_
                                          have HO140 := n2_
                                          have HO148 := n3_
                                          have HO156 := n4_
                                          have HB := n5_
                                          have HO159 := n6_
                                          clear n0_ n1_ n2_ n3_ n4_ n5_ n6_
                                          clear ho hb hg hat
                                          refine hK.out _ _ trivial (fun hHeld => ?_)
                                          clear hK K
                                          refine norm_ (a' := ?_) ?_ ?_
                                          rotate_left
                                          · show Act.put _ (some 125) _ = _
                                            simp only [Act.put, List.setIfInBounds_toArray, List.set_cons_zero, List.set_cons_succ, i64_w, i32_w]
                                            rfl
                                          refine pure_ (i := 10) (N := some 20) (v := ?_) (a' := ?_) #[true, true, true, true, true, true, true, true, true, true, true] rfl rfl (any_of HT_.out (by kernel_rfl)) (fun _ _ _ h => h) (Or.inl ⟨by rfl, ?_⟩) ?_ ?_
                                          rotate_left
                                          · intro w'
                                            go_simp
                                            with_reducible rfl
                                          rotate_left
                                          · simp only [Act.put, List.setIfInBounds_toArray, List.set_cons_zero, List.set_cons_succ, i64_w, i32_w]
                                            rfl
                                          refine done_ (done_of HT_.out (by kernel_rfl)) ?_
                                          obtain ⟨Ao75, co75, eo75⟩ := Kd.N_slice HO159.out
                                          subst eo75
                                          try go_wp2_with (first | ((with_reducible refine gate_callee (f := 59) rfl ?_); refine goesL_ (some 131) rfl rfl Try.func59 (by kernel_rfl) rfl #[.slice Ao75 y157.length co75, .int .i64 (l0.length : Int), .int .i64 t103] rfl (by (try simp only [List.map_toArray, List.map_cons, List.map_nil]); first | done | rfl | (simp only [List.length_drop, List.length_take]; rfl)) ?_; (with_reducible refine (book_Whole.calls _ _ y157 (l0.length : Int) t103 t160 t161 _ ?side1 ?side2 A59.out).mono ?_); (case side1 => repeat (first | exact (Kd.N_reads' HO159.out).2.2 | (with_reducible refine Kd.C_alloc ?_ _) | (with_reducible refine Kd.C_drewN ?_ _) | (with_reducible refine Kd.C_drew ?_))); (case side2 => exact (Kd.N_reads' HO159.out).2.1); rintro e w76 ⟨v162, rfl, ho0, hb⟩; refine ⟨_, rfl, ?_⟩; have n0_ := Aside0.mk (Kd.N_elder' (by (with_reducible repeat (first | apply Kd.N_alloc | apply Kd.N_drewN | apply Kd.N_drew)); exact HO_11.out) (Kd.R_base ho0) hb); have n1_ := Aside0.mk (Kd.N_elder' (by (with_reducible repeat (first | apply Kd.N_alloc | apply Kd.N_drewN | apply Kd.N_drew)); exact HO_15.out) (Kd.R_base ho0) hb); have n2_ := Aside0.mk (Kd.R_elder' (by (with_reducible repeat (first | apply Kd.R_alloc | apply Kd.R_drewN | apply Kd.R_drew)); exact HO140.out) (Kd.R_base ho0) hb); have n3_ := Aside0.mk (Kd.V_elder' (by (with_reducible repeat (first | apply Kd.V_alloc | apply Kd.V_drewN | apply Kd.V_drew)); exact HO148.out) (Kd.R_base ho0) hb); have n4_ := Aside0.mk (Kd.V_elder' (by (with_reducible repeat (first | apply Kd.V_alloc | apply Kd.V_drewN | apply Kd.V_drew)); exact HO156.out) (Kd.R_base ho0) hb); have n5_ := Aside0.mk (Kd.N_elder' (by (with_reducible repeat (first | apply Kd.N_alloc | apply Kd.N_drewN | apply Kd.N_drew)); exact HO159.out) (Kd.R_base ho0) hb); have n6_ := Aside0.mk (Kd.R_lower (Kd.R_new' ho0 (Kd.R_lt (by (with_reducible repeat (first | apply Kd.R_alloc | apply Kd.R_drewN | apply Kd.R_drew)); exact HO140.out))) (below_size (by repeat (first | (with_reducible first | exact HB.out | apply below_alloc | apply pw_below_drewN | apply below_drew1) | exact HB.out)))); have n7_ := Aside0.mk (below_step (by repeat (first | (with_reducible first | exact HB.out | apply below_alloc | apply pw_below_drewN | apply below_drew1) | exact HB.out)) hb); clear HO_11; clear HO_15; clear HO140; clear HO148; clear HO156; clear HO159; clear HB; have HO_11 := n0_; have HO_15 := n1_; have HO140 := n2_; have HO148 := n3_; have HO156 := n4_; have HO159 := n5_; have HO163 := n6_; have HB := n7_; clear n0_ n1_ n2_ n3_ n4_ n5_ n6_ n7_; (try clear hb); (try clear hb2); (try clear hk); (try clear hi); (try clear ho0)) | ((with_reducible refine gate_callee (f := 22) rfl ?_); refine goesL_ (some 134) rfl rfl Try.func22 (by kernel_rfl) rfl #[] rfl (by (try simp only [List.map_toArray, List.map_cons, List.map_nil]); first | done | rfl | (simp only [List.length_drop, List.length_take]; rfl)) ?_; (with_reducible refine (calxlaw08_sanity.calls  true _ A60.out).mono ?_); rintro e w77 ⟨rfl, hb⟩; refine ⟨_, rfl, ?_⟩; have n0_ := Aside0.mk (Kd.N_below (by (with_reducible repeat (first | apply Kd.N_alloc | apply Kd.N_drewN | apply Kd.N_drew)); exact HO_11.out) hb); have n1_ := Aside0.mk (Kd.N_below (by (with_reducible repeat (first | apply Kd.N_alloc | apply Kd.N_drewN | apply Kd.N_drew)); exact HO_15.out) hb); have n2_ := Aside0.mk (Kd.R_below (by (with_reducible repeat (first | apply Kd.R_alloc | apply Kd.R_drewN | apply Kd.R_drew)); exact HO140.out) hb); have n3_ := Aside0.mk (Kd.V_below (by (with_reducible repeat (first | apply Kd.V_alloc | apply Kd.V_drewN | apply Kd.V_drew)); exact HO148.out) hb); have n4_ := Aside0.mk (Kd.V_below (by (with_reducible repeat (first | apply Kd.V_alloc | apply Kd.V_drewN | apply Kd.V_drew)); exact HO156.out) hb); have n5_ := Aside0.mk (Kd.N_below (by (with_reducible repeat (first | apply Kd.N_alloc | apply Kd.N_drewN | apply Kd.N_drew)); exact HO159.out) hb); have n6_ := Aside0.mk (Kd.R_below (by (with_reducible repeat (first | apply Kd.R_alloc | apply Kd.R_drewN | apply Kd.R_drew)); exact HO163.out) hb); have n7_ := Aside0.mk (below_step (by repeat (first | (with_reducible first | exact HB.out | apply below_alloc | apply pw_below_drewN | apply below_drew1) | exact HB.out)) hb); clear HO_11; clear HO_15; clear HO140; clear HO148; clear HO156; clear HO159; clear HO163; clear HB; have HO_11 := n0_; have HO_15 := n1_; have HO140 := n2_; have HO148 := n3_; have HO156 := n4_; have HO159 := n5_; have HO163 := n6_; have HB := n7_; clear n0_ n1_ n2_ n3_ n4_ n5_ n6_ n7_; (try clear hb); (try clear hb2); (try clear hk); (try clear hi); obtain ⟨Ao78, co78, eo78⟩ := Kd.R_slice HO140.out; subst eo78) | (go_at_call 29; (with_reducible refine (calxref08_SameBook.calls k3 _ _ t137 _ _ l0 true _ ?side1 ?side2 ?side3 ?side4 A63.out).mono ?_); (case side1 => repeat (first | exact (Kd.R_reads' HO140.out).2.2 | (with_reducible refine Kd.C_alloc ?_ _) | (with_reducible refine Kd.C_drewN ?_ _) | (with_reducible refine Kd.C_drew ?_))); (case side2 => exact (Kd.R_reads' HO140.out).2.1); (case side3 => repeat (first | exact (Kd.C_below HR0.out HB.out) | (with_reducible refine Kd.C_alloc ?_ _) | (with_reducible refine Kd.C_drewN ?_ _) | (with_reducible refine Kd.C_drew ?_))); (case side4 => exact HC0.out); rintro e w' ⟨rfl, ⟨nd, rfl⟩⟩))
                                          go_ret
                                          exact ⟨by first | rfl | (simp [errW_none, errW_some] <;> rfl) | (simp only [← hji51, ← hji55]; first | rfl | (simp [errW_none, errW_some] <;> rfl)) | (simp [*, errW_none, errW_some] <;> rfl), by repeat (first | (with_reducible first | exact HB.out | apply below_alloc | apply pw_below_drewN | apply below_drew1) | exact HB.out)⟩
                                        · replace c64 := Bool.eq_false_iff.mpr c64
                                          subst c64
                                          have H1 : (some false) = some r := by rw [if_neg (show ¬ (false = true) by decide)] at H; exact H
                                          clear H
                                          have H := H1
                                          clear H1
                                          obtain rfl := Option.some.inj H
                                          obtain ⟨Ao79, co79, eo79⟩ := Kd.N_slice HO_11.out
                                          subst eo79
                                          obtain ⟨Ao80, co80, eo80⟩ := Kd.N_slice HO_15.out
                                          subst eo80
                                          try go_wp2_with (first | ((with_reducible refine gate_callee (f := 59) rfl ?_); refine goesL_ (some 108) rfl rfl Try.func59 (by kernel_rfl) rfl #[.slice Ao80 x15_3.length co80, .int .i64 (l0.length : Int), .int .i64 t103] rfl (by (try simp only [List.map_toArray, List.map_cons, List.map_nil]); first | done | rfl | (simp only [List.length_drop, List.length_take]; rfl)) ?_; (with_reducible refine (book_Whole.calls _ _ x15_3 (l0.length : Int) t103 t137 t138 _ ?side1 ?side2 A49.out).mono ?_); (case side1 => repeat (first | exact (Kd.N_reads' HO_15.out).2.2 | (with_reducible refine Kd.C_alloc ?_ _) | (with_reducible refine Kd.C_drewN ?_ _) | (with_reducible refine Kd.C_drew ?_))); (case side2 => exact (Kd.N_reads' HO_15.out).2.1); rintro e w81 ⟨v139, rfl, ho0, hb⟩; refine ⟨_, rfl, ?_⟩; have n0_ := Aside0.mk (Kd.N_elder' (by (with_reducible repeat (first | apply Kd.N_alloc | apply Kd.N_drewN | apply Kd.N_drew)); exact HO_11.out) (Kd.R_base ho0) hb); have n1_ := Aside0.mk (Kd.N_elder' (by (with_reducible repeat (first | apply Kd.N_alloc | apply Kd.N_drewN | apply Kd.N_drew)); exact HO_15.out) (Kd.R_base ho0) hb); have n2_ := Aside0.mk (Kd.R_lower ho0 (below_size (by repeat (first | (with_reducible first | exact HB.out | apply below_alloc | apply pw_below_drewN | apply below_drew1) | exact HB.out)))); have n3_ := Aside0.mk (below_step (by repeat (first | (with_reducible first | exact HB.out | apply below_alloc | apply pw_below_drewN | apply below_drew1) | exact HB.out)) hb); clear HO_11; clear HO_15; clear HB; have HO_11 := n0_; have HO_15 := n1_; have HO140 := n2_; have HB := n3_; clear n0_ n1_ n2_ n3_; (try clear hb); (try clear hb2); (try clear hk); (try clear hi); (try clear ho0)))
                                          have n0_ := Aside0.mk (Kd.N_drew HO_11.out)
                                          have n1_ := Aside0.mk (Kd.N_drew HO_15.out)
                                          have n2_ := Aside0.mk (Kd.R_drew HO140.out)
                                          have n3_ := Aside0.mk (below_drew1 HB.out)
                                          clear HO_11
                                          clear HO_15
                                          clear HO140
                                          clear HB
                                          have HO_11 := n0_
                                          have HO_15 := n1_
                                          have HO140 := n2_
                                          have HB := n3_
                                          clear n0_ n1_ n2_ n3_
                                          have q83 : ((ji51) : Int) ≤ ((x15_3.length : Int) : Int) := of_decide_eq_true (by first | (with_reducible assumption) | assumption)
                                          obtain ⟨i083, hi083, _, hsz83, _⟩ := info_parts info34
                                          have hroom83 : x15_3.length ≤ co80 := (Kd.N_reads' HO_15.out).2.1
                                          have hC83 : Kd.F k34 _ _ Ao80 x15_3.length x15_3 := (Kd.V_at (base := w.heap.size) (Kd.N_V HO_15.out)).2.2
                                          have hcut83 := cut_to (P := Try.prog) 22 34 .i64 Try.underlying22 hi083 Ao80 x15_3.length co80 (ji51) (of_decide_eq_true (by first | (with_reducible assumption) | assumption)) q83 hroom83
                                          have hr83 := Kd.F_take (m := ((ji51) : Int).toNat) hC83 (by omega)
                                          have hy83 : y144.length = ((ji51) : Int).toNat := (by rw [Ny144.out, List.length_take]; omega)
                                          rw [← Ny144.out] at hr83
                                          rw [← hy83] at hcut83
                                          have HO148 := Aside0.mk (show Kd.V k34 34 _ w.heap.size _ (.slice Ao80 y144.length co80) y144 from Kd.V_mk (by omega) hr83)
                                          have HC148 := Aside0.mk (show y144.length ≤ co80 from by omega)
                                          clear hr83 hC83 hroom83 hi083 hsz83
                                          have KY83 := Aside0.mk hy83
                                          clear hy83
                                          replace q83 := eq_true q83
                                          have q84 : ((ji55) : Int) ≤ ((x15_3.length : Int) : Int) := of_decide_eq_true (by first | (with_reducible assumption) | assumption)
                                          obtain ⟨i084, hi084, _, hsz84, _⟩ := info_parts info34
                                          have hroom84 : x15_3.length ≤ co80 := (Kd.N_reads' HO_15.out).2.1
                                          have hC84 : Kd.F k34 _ _ Ao80 x15_3.length x15_3 := (Kd.V_at (base := w.heap.size) (Kd.N_V HO_15.out)).2.2
                                          have q084 : (0 : Int) ≤ ((ji55) : Int) := of_decide_eq_true (by first | (with_reducible assumption) | assumption)
                                          have hcut84 := cut_from (P := Try.prog) 22 34 .i64 Try.underlying22 hi084 2 hsz84 Ao80 x15_3.length co80 (ji55) q084 q84
                                          have hr84 := Kd.F_cut (m := ((ji55) : Int).toNat) (c := co80) hC84 (by omega) hroom84
                                          obtain ⟨A84, hA84⟩ : ∃ A1, A1 = (if co80 = ((ji55) : Int).toNat then Ao80 else (Ao80 : Option Addr).map (·.add (((ji55) : Int).toNat * 2))) := ⟨_, rfl⟩
                                          obtain ⟨c84, hc84⟩ : ∃ c1, c1 = co80 - ((ji55) : Int).toNat := ⟨_, rfl⟩
                                          have hy84 : y152.length = x15_3.length - ((ji55) : Int).toNat := (by rw [Ny152.out, List.length_drop] <;> omega)
                                          rw [show (x15_3).drop ((ji55) : Int).toNat = y152 from Ny152.out.symm] at hr84
                                          replace hr84 : Kd.F k34 _ _ A84 y152.length y152 := (by rw [hA84]; exact hr84)
                                          rw [← hy84, ← hA84, ← hc84] at hcut84
                                          have HO156 := Aside0.mk (show Kd.V k34 34 _ w.heap.size _ (.slice A84 y152.length c84) y152 from Kd.V_mk (by rw [hy84, hc84]; exact Nat.sub_le_sub_right hroom84 _) hr84)
                                          have HC156 := Aside0.mk (show y152.length ≤ c84 from by rw [hy84, hc84]; exact Nat.sub_le_sub_right hroom84 _)
                                          clear hr84 hC84 hroom84 hi084 hsz84 hc84
                                          have KY84 := Aside0.mk hy84
                                          have KA84 := Aside0.mk hA84
                                          clear hy84 hA84
                                          replace q84 := eq_true q84
                                          refine start_ (n := 11) (S := fun w' => True) (ds := []) #[false, false, false, false, false, false, false, false, false, false, false] (by kernel_rfl) rfl rfl trivial (fun hHeld => ?_); refine with_tabW calxlaw08_BookWhole.tab23 calxlaw08_BookWhole.bits23 (fun HT_ HW_ => ?_)
                                          generalize w81.drew = w82 at HO_11 HO_15 HO140 HB HO148 HO156 hHeld ⊢
                                          refine pure_ (i := 1) (N := some 117) (v := ?_) (a' := ?_) #[false, true, false, false, false, false, false, false, false, false, false] rfl rfl (any_of HT_.out (by kernel_rfl)) (fun _ _ _ h => h) (Or.inl ⟨by rfl, ?_⟩) ?_ ?_
                                          rotate_left
                                          · intro w'
                                            go_simp
                                            with_reducible rfl
                                          rotate_left
                                          · simp only [Act.put, List.setIfInBounds_toArray, List.set_cons_zero, List.set_cons_succ, i64_w, i32_w]
                                            rfl
                                          refine pure_ (i := 2) (N := some 118) (v := ?_) (a' := ?_) #[false, true, true, false, false, false, false, false, false, false, false] rfl rfl (any_of HT_.out (by kernel_rfl)) (fun _ _ _ h => h) (Or.inl ⟨by rfl, ?_⟩) ?_ ?_
                                          rotate_left
                                          · intro w'
                                            go_simp
                                            with_reducible rfl
                                          rotate_left
                                          · simp only [Act.put, List.setIfInBounds_toArray, List.set_cons_zero, List.set_cons_succ, i64_w, i32_w]
                                            rfl
                                          refine pure_ (i := 3) (N := some 119) (v := ?_) (a' := ?_) #[false, true, true, true, false, false, false, false, false, false, false] rfl rfl (any_of HT_.out (by kernel_rfl)) (fun _ _ _ h => h) (Or.inl ⟨by rfl, ?_⟩) ?_ ?_
                                          rotate_left
                                          · intro w'
                                            go_simp
                                            with_reducible rfl
                                          rotate_left
                                          · simp only [Act.put, List.setIfInBounds_toArray, List.set_cons_zero, List.set_cons_succ, i64_w, i32_w]
                                            rfl
                                          refine pure_ (i := 5) (N := some 121) (v := ?_) (a' := ?_) #[false, true, true, true, false, true, false, false, false, false, false] rfl rfl (any_of HT_.out (by kernel_rfl)) (fun _ _ _ h => h) (Or.inl ⟨by rfl, ?_⟩) ?_ ?_
                                          rotate_left
                                          · intro w'
                                            go_simp
                                            with_reducible rfl
                                          rotate_left
                                          · simp only [Act.put, List.setIfInBounds_toArray, List.set_cons_zero, List.set_cons_succ, i64_w, i32_w]
                                            rfl
                                          refine pure_ (i := 6) (N := some 122) (v := ?_) (a' := ?_) #[false, true, true, true, false, true, true, false, false, false, false] rfl rfl (any_of HT_.out (by kernel_rfl)) (fun _ _ _ h => h) (Or.inl ⟨by rfl, ?_⟩) ?_ ?_
                                          rotate_left
                                          · intro w'
                                            go_simp
                                            with_reducible rfl
                                          rotate_left
                                          · simp only [Act.put, List.setIfInBounds_toArray, List.set_cons_zero, List.set_cons_succ, i64_w, i32_w]
                                            rfl
                                          refine pure_ (i := 7) (N := some 123) (v := ?_) (a' := ?_) #[false, true, true, true, false, true, true, true, false, false, false] rfl rfl (any_of HT_.out (by kernel_rfl)) (fun _ _ _ h => h) (Or.inl ⟨by rfl, ?_⟩) ?_ ?_
                                          rotate_left
                                          · intro w'
                                            go_simp
                                            with_reducible rfl
                                          rotate_left
                                          · simp only [Act.put, List.setIfInBounds_toArray, List.set_cons_zero, List.set_cons_succ, i64_w, i32_w]
                                            rfl
                                          refine pure_ (i := 8) (N := some 124) (v := ?_) (a' := ?_) #[false, true, true, true, false, true, true, true, true, false, false] rfl rfl (any_of HT_.out (by kernel_rfl)) (fun _ _ _ h => h) (Or.inl ⟨by rfl, ?_⟩) ?_ ?_
                                          rotate_left
                                          · intro w'
                                            go_simp
                                            with_reducible rfl
                                          rotate_left
                                          · simp only [Act.put, List.setIfInBounds_toArray, List.set_cons_zero, List.set_cons_succ, i64_w, i32_w]
                                            rfl
                                          refine one_ (i := 0) (N := some 116) #[true, true, true, true, false, true, true, true, true, false, false] rfl rfl (one_of HT_.out (by kernel_rfl)) (by decide) (fun K hK => ?_)
                                          refine Kd.N_lit_step k34 _ 34 ?hg (N' := 116) ?hd (xs := ([] : List (S34))) (inner := []) (ok := (fun k_ => some k_ ≠ (.slice Ao79 x11_2.length co79 : Value).ownBlock ∧ some k_ ≠ (.slice Ao80 x15_3.length co80 : Value).ownBlock ∧ some k_ ≠ (v139 : Value).ownBlock)) (okp := (fun k_ => some k_ ≠ (.slice Ao79 x11_2.length co79 : Value).ownBlock ∧ some k_ ≠ (.slice Ao80 x15_3.length co80 : Value).ownBlock ∧ some k_ ≠ (v139 : Value).ownBlock)) ?hr ?hp (fun _ hk => hk) ((show ∀ k_, w82.heap.size ≤ k_ → (fun k_ => some k_ ≠ (.slice Ao79 x11_2.length co79 : Value).ownBlock ∧ some k_ ≠ (.slice Ao80 x15_3.length co80 : Value).ownBlock ∧ some k_ ≠ (v139 : Value).ownBlock) k_ from fun k_ hk => ⟨Kd.fresh' (Kd.N_lt (by (with_reducible repeat (first | apply Kd.N_alloc | apply Kd.N_drewN | apply Kd.N_drew)); exact HO_11.out)) k_ hk, Kd.fresh' (Kd.N_lt (by (with_reducible repeat (first | apply Kd.N_alloc | apply Kd.N_drewN | apply Kd.N_drew)); exact HO_15.out)) k_ hk, Kd.fresh' (Kd.R_lt (by (with_reducible repeat (first | apply Kd.R_alloc | apply Kd.R_drewN | apply Kd.R_drew)); exact HO140.out)) k_ hk⟩) _ (Nat.le_refl _)) (Below.refl _ _) (Nat.le_refl _) (by simp) ?_; (case hd => rfl); (case hg => rfl); (case hr => first | (go_simp; done) | (go_simp; rfl)); (case hp => exact (Reps.none _ _))
                                          intro v142 w85 ho86 hb hg_ hnew_
                                          clear hg_ hnew_
                                          (first | rw [← Ny141.out] at ho86 | (simp only [Int.reduceToNat] at ho86; rw [← Ny141.out] at ho86))
                                          have n0_ := Aside0.mk (Kd.N_elder' (by (with_reducible repeat (first | apply Kd.N_alloc | apply Kd.N_drewN | apply Kd.N_drew)); exact HO_11.out) (Kd.N_base ho86) hb)
                                          have n1_ := Aside0.mk (Kd.N_elder' (by (with_reducible repeat (first | apply Kd.N_alloc | apply Kd.N_drewN | apply Kd.N_drew)); exact HO_15.out) (Kd.N_base ho86) hb)
                                          have n2_ := Aside0.mk (Kd.R_below (by (with_reducible repeat (first | apply Kd.R_alloc | apply Kd.R_drewN | apply Kd.R_drew)); exact HO140.out) hb)
                                          have n3_ := Aside0.mk (Kd.V_elder' (by (with_reducible repeat (first | apply Kd.V_alloc | apply Kd.V_drewN | apply Kd.V_drew)); exact HO148.out) (Kd.N_base ho86) hb)
                                          have n4_ := Aside0.mk (Kd.V_elder' (by (with_reducible repeat (first | apply Kd.V_alloc | apply Kd.V_drewN | apply Kd.V_drew)); exact HO156.out) (Kd.N_base ho86) hb)
                                          have n5_ := Aside0.mk (Kd.N_lower ho86 (below_size (by repeat (first | (with_reducible first | exact HB.out | apply below_alloc | apply pw_below_drewN | apply below_drew1) | exact HB.out))))
                                          have n6_ := Aside0.mk (below_step (by repeat (first | (with_reducible first | exact HB.out | apply below_alloc | apply pw_below_drewN | apply below_drew1) | exact HB.out)) hb)
                                          clear HO_11
                                          clear HO_15
                                          clear HO140
                                          clear HO148
                                          clear HO156
                                          clear HB
                                          have HO_11 := n0_
                                          have HO_15 := n1_
                                          have HO140 := n2_
                                          have HO148 := n3_
                                          have HO156 := n4_
                                          have HO143 := n5_
                                          have HB := n6_
                                          clear n0_ n1_ n2_ n3_ n4_ n5_ n6_
                                          clear hb ho86
                                          refine hK.out _ _ trivial (fun hHeld => ?_)
                                          clear hK K
                                          refine norm_ (a' := ?_) ?_ ?_
                                          rotate_left
                                          · show Act.put _ (some 116) _ = _
                                            simp only [Act.put, List.setIfInBounds_toArray, List.set_cons_zero, List.set_cons_succ, i64_w, i32_w]
                                            rfl
                                          refine one_ (i := 4) (N := some 120) #[true, true, true, true, true, true, true, true, true, false, false] rfl rfl (one_of HT_.out (by kernel_rfl)) (by decide) (fun K hK => ?_)
                                          refine Kd.N_append_rows_step k34 (w0 := w) w.heap.size (by rfl) (.tmp 116) (.tmp 119) 22 34 (.agg #[(.int .i64 0), (.slice none 0 0)]) 32 rfl Try.underlying22 info34 rfl (by decide) (by omega) v142 y141 y144 _ _ _ (fun k_ => some k_ ≠ (.slice Ao79 x11_2.length co79 : Value).ownBlock ∧ some k_ ≠ (v139 : Value).ownBlock) (fun k_ => ((fun k_ => some k_ ≠ (.slice Ao79 x11_2.length co79 : Value).ownBlock ∧ some k_ ≠ (v139 : Value).ownBlock)) k_ ∧ some k_ ≠ (v142 : Value).ownBlock) rfl rfl ?aO ?aR (fun _ hk => hk) ?aF ?aB ?aS ?aL ?_
                                          (case aR => exact (by skip; exact Kd.V_F (Kd.V_mono (ok' := (fun k_ => ((fun k_ => some k_ ≠ (.slice Ao79 x11_2.length co79 : Value).ownBlock ∧ some k_ ≠ (v139 : Value).ownBlock)) k_ ∧ some k_ ≠ (v142 : Value).ownBlock)) (HO148.out) (fun k_ hk => ⟨⟨hk.1.1, hk.1.2⟩, hk.2⟩))))
                                          (case aB => exact (by repeat (first | (with_reducible first | exact HB.out | apply below_alloc | apply pw_below_drewN | apply below_drew1) | exact HB.out)))
                                          (case aF => exact (fun k_ hk => ⟨Kd.fresh' (Kd.N_lt (by (with_reducible repeat (first | apply Kd.N_alloc | apply Kd.N_drewN | apply Kd.N_drew)); exact HO_11.out)) k_ hk, Kd.fresh' (Kd.R_lt (by (with_reducible repeat (first | apply Kd.R_alloc | apply Kd.R_drewN | apply Kd.R_drew)); exact HO140.out)) k_ hk⟩))
                                          (case aO => exact (by (with_reducible repeat (first | apply Kd.N_alloc | apply Kd.N_drewN | apply Kd.N_drew)); exact Kd.N_mono HO143.out (fun _ hk => ⟨hk.1, hk.2.2⟩)))
                                          (case aS => exact (below_size (by repeat (first | (with_reducible first | exact HB.out | apply below_alloc | apply pw_below_drewN | apply below_drew1) | exact HB.out))))
                                          (case aL => have := LMc54.out; omega)
                                          intro v150 w87 ho hb hg hat
                                          rw [← Ny149.out] at ho
                                          have n0_ := Aside0.mk (Kd.N_afterv (ok := (fun k_ => some k_ ≠ (.slice Ao80 x15_3.length co80 : Value).ownBlock ∧ some k_ ≠ (v139 : Value).ownBlock)) (by (with_reducible repeat (first | apply Kd.N_alloc | apply Kd.N_drewN | apply Kd.N_drew)); exact HO_11.out) hg hat)
                                          have n1_ := Aside0.mk (Kd.N_afterv (ok := (fun k_ => some k_ ≠ (.slice Ao79 x11_2.length co79 : Value).ownBlock ∧ some k_ ≠ (v139 : Value).ownBlock)) (by (with_reducible repeat (first | apply Kd.N_alloc | apply Kd.N_drewN | apply Kd.N_drew)); exact HO_15.out) hg hat)
                                          have n2_ := Aside0.mk (Kd.R_over' (by (with_reducible repeat (first | apply Kd.R_alloc | apply Kd.R_drewN | apply Kd.R_drew)); exact HO140.out) (Kd.N_typed (by (with_reducible repeat (first | apply Kd.N_alloc | apply Kd.N_drewN | apply Kd.N_drew)); exact HO143.out)) (by decide) hg)
                                          have n3_ := Aside0.mk (Kd.V_afterv (ok := (fun k_ => some k_ ≠ (.slice Ao79 x11_2.length co79 : Value).ownBlock ∧ some k_ ≠ (v139 : Value).ownBlock)) (by (with_reducible repeat (first | apply Kd.V_alloc | apply Kd.V_drewN | apply Kd.V_drew)); exact HO148.out) hg hat)
                                          have n4_ := Aside0.mk (Kd.V_afterv (ok := (fun k_ => some k_ ≠ (.slice Ao79 x11_2.length co79 : Value).ownBlock ∧ some k_ ≠ (v139 : Value).ownBlock)) (by (with_reducible repeat (first | apply Kd.V_alloc | apply Kd.V_drewN | apply Kd.V_drew)); exact HO156.out) hg hat)
                                          have n5_ := Aside0.mk (hb)
                                          have n6_ := Aside0.mk (ho)
                                          clear HO_11
                                          clear HO_15
                                          clear HO140
                                          clear HO148
                                          clear HO156
                                          clear HB
                                          clear HO143
                                          have HO_11 := n0_
                                          have HO_15 := n1_
                                          have HO140 := n2_
                                          have HO148 := n3_
                                          have HO156 := n4_
                                          have HB := n5_
                                          have HO151 := n6_
                                          clear n0_ n1_ n2_ n3_ n4_ n5_ n6_
                                          clear ho hb hg hat
                                          refine hK.out _ _ trivial (fun hHeld => ?_)
                                          clear hK K
                                          refine norm_ (a' := ?_) ?_ ?_
                                          rotate_left
                                          · show Act.put _ (some 120) _ = _
                                            simp only [Act.put, List.setIfInBounds_toArray, List.set_cons_zero, List.set_cons_succ, i64_w, i32_w]
                                            rfl
                                          refine one_ (i := 9) (N := some 125) #[true, true, true, true, true, true, true, true, true, true, false] rfl rfl (one_of HT_.out (by kernel_rfl)) (by decide) (fun K hK => ?_)
                                          refine Kd.N_append_rows_step k34 (w0 := w) w.heap.size (by rfl) (.tmp 120) (.tmp 124) 22 34 (.agg #[(.int .i64 0), (.slice none 0 0)]) 32 rfl Try.underlying22 info34 rfl (by decide) (by omega) v150 y149 y152 _ _ _ (fun k_ => some k_ ≠ (.slice Ao79 x11_2.length co79 : Value).ownBlock ∧ some k_ ≠ (v139 : Value).ownBlock) (fun k_ => ((fun k_ => some k_ ≠ (.slice Ao79 x11_2.length co79 : Value).ownBlock ∧ some k_ ≠ (v139 : Value).ownBlock)) k_ ∧ some k_ ≠ (v150 : Value).ownBlock) rfl rfl ?aO ?aR (fun _ hk => hk) ?aF ?aB ?aS ?aL ?_
                                          (case aR => exact (by skip; exact Kd.V_F (Kd.V_mono (ok' := (fun k_ => ((fun k_ => some k_ ≠ (.slice Ao79 x11_2.length co79 : Value).ownBlock ∧ some k_ ≠ (v139 : Value).ownBlock)) k_ ∧ some k_ ≠ (v150 : Value).ownBlock)) (HO156.out) (fun k_ hk => ⟨⟨hk.1.1, hk.1.2⟩, hk.2⟩))))
                                          (case aB => exact (by repeat (first | (with_reducible first | exact HB.out | apply below_alloc | apply pw_below_drewN | apply below_drew1) | exact HB.out)))
                                          (case aF => exact (fun k_ hk => ⟨Kd.fresh' (Kd.N_lt (by (with_reducible repeat (first | apply Kd.N_alloc | apply Kd.N_drewN | apply Kd.N_drew)); exact HO_11.out)) k_ hk, Kd.fresh' (Kd.R_lt (by (with_reducible repeat (first | apply Kd.R_alloc | apply Kd.R_drewN | apply Kd.R_drew)); exact HO140.out)) k_ hk⟩))
                                          (case aO => exact (by (with_reducible repeat (first | apply Kd.N_alloc | apply Kd.N_drewN | apply Kd.N_drew)); exact HO151.out))
                                          (case aS => exact (below_size (by repeat (first | (with_reducible first | exact HB.out | apply below_alloc | apply pw_below_drewN | apply below_drew1) | exact HB.out))))
                                          (case aL => have := LMc58.out; omega)
                                          intro v158 w88 ho hb hg hat
                                          rw [← Ny157.out] at ho
                                          have n0_ := Aside0.mk (Kd.N_afterv (ok := (fun k_ => some k_ ≠ (.slice Ao80 x15_3.length co80 : Value).ownBlock ∧ some k_ ≠ (v139 : Value).ownBlock)) (by (with_reducible repeat (first | apply Kd.N_alloc | apply Kd.N_drewN | apply Kd.N_drew)); exact HO_11.out) hg hat)
                                          have n1_ := Aside0.mk (Kd.N_afterv (ok := (fun k_ => some k_ ≠ (.slice Ao79 x11_2.length co79 : Value).ownBlock ∧ some k_ ≠ (v139 : Value).ownBlock)) (by (with_reducible repeat (first | apply Kd.N_alloc | apply Kd.N_drewN | apply Kd.N_drew)); exact HO_15.out) hg hat)
                                          have n2_ := Aside0.mk (Kd.R_over' (by (with_reducible repeat (first | apply Kd.R_alloc | apply Kd.R_drewN | apply Kd.R_drew)); exact HO140.out) (Kd.N_typed (by (with_reducible repeat (first | apply Kd.N_alloc | apply Kd.N_drewN | apply Kd.N_drew)); exact HO151.out)) (by decide) hg)
                                          have n3_ := Aside0.mk (Kd.V_afterv (ok := (fun k_ => some k_ ≠ (.slice Ao79 x11_2.length co79 : Value).ownBlock ∧ some k_ ≠ (v139 : Value).ownBlock)) (by (with_reducible repeat (first | apply Kd.V_alloc | apply Kd.V_drewN | apply Kd.V_drew)); exact HO148.out) hg hat)
                                          have n4_ := Aside0.mk (Kd.V_afterv (ok := (fun k_ => some k_ ≠ (.slice Ao79 x11_2.length co79 : Value).ownBlock ∧ some k_ ≠ (v139 : Value).ownBlock)) (by (with_reducible repeat (first | apply Kd.V_alloc | apply Kd.V_drewN | apply Kd.V_drew)); exact HO156.out) hg hat)
                                          have n5_ := Aside0.mk (hb)
                                          have n6_ := Aside0.mk (ho)
                                          clear HO_11
                                          clear HO_15
                                          clear HO140
                                          clear HO148
                                          clear HO156
                                          clear HB
                                          clear HO151
                                          have HO_11 := n0_
                                          have HO_15 := n1_
                                          have HO140 := n2_
                                          have HO148 := n3_
                                          have HO156 := n4_
                                          have HB := n5_
                                          have HO159 := n6_
                                          clear n0_ n1_ n2_ n3_ n4_ n5_ n6_
                                          clear ho hb hg hat
                                          refine hK.out _ _ trivial (fun hHeld => ?_)
                                          clear hK K
                                          refine norm_ (a' := ?_) ?_ ?_
                                          rotate_left
                                          · show Act.put _ (some 125) _ = _
                                            simp only [Act.put, List.setIfInBounds_toArray, List.set_cons_zero, List.set_cons_succ, i64_w, i32_w]
                                            rfl
                                          refine pure_ (i := 10) (N := some 20) (v := ?_) (a' := ?_) #[true, true, true, true, true, true, true, true, true, true, true] rfl rfl (any_of HT_.out (by kernel_rfl)) (fun _ _ _ h => h) (Or.inl ⟨by rfl, ?_⟩) ?_ ?_
                                          rotate_left
                                          · intro w'
                                            go_simp
                                            with_reducible rfl
                                          rotate_left
                                          · simp only [Act.put, List.setIfInBounds_toArray, List.set_cons_zero, List.set_cons_succ, i64_w, i32_w]
                                            rfl
                                          refine done_ (done_of HT_.out (by kernel_rfl)) ?_
                                          obtain ⟨Ao89, co89, eo89⟩ := Kd.N_slice HO159.out
                                          subst eo89
                                          try go_wp2_with (first | ((with_reducible refine gate_callee (f := 59) rfl ?_); refine goesL_ (some 131) rfl rfl Try.func59 (by kernel_rfl) rfl #[.slice Ao89 y157.length co89, .int .i64 (l0.length : Int), .int .i64 t103] rfl (by (try simp only [List.map_toArray, List.map_cons, List.map_nil]); first | done | rfl | (simp only [List.length_drop, List.length_take]; rfl)) ?_; (with_reducible refine (book_Whole.calls _ _ y157 (l0.length : Int) t103 t160 t161 _ ?side1 ?side2 A59.out).mono ?_); (case side1 => repeat (first | exact (Kd.N_reads' HO159.out).2.2 | (with_reducible refine Kd.C_alloc ?_ _) | (with_reducible refine Kd.C_drewN ?_ _) | (with_reducible refine Kd.C_drew ?_))); (case side2 => exact (Kd.N_reads' HO159.out).2.1); rintro e w90 ⟨v162, rfl, ho0, hb⟩; refine ⟨_, rfl, ?_⟩; have n0_ := Aside0.mk (Kd.N_elder' (by (with_reducible repeat (first | apply Kd.N_alloc | apply Kd.N_drewN | apply Kd.N_drew)); exact HO_11.out) (Kd.R_base ho0) hb); have n1_ := Aside0.mk (Kd.N_elder' (by (with_reducible repeat (first | apply Kd.N_alloc | apply Kd.N_drewN | apply Kd.N_drew)); exact HO_15.out) (Kd.R_base ho0) hb); have n2_ := Aside0.mk (Kd.R_elder' (by (with_reducible repeat (first | apply Kd.R_alloc | apply Kd.R_drewN | apply Kd.R_drew)); exact HO140.out) (Kd.R_base ho0) hb); have n3_ := Aside0.mk (Kd.V_elder' (by (with_reducible repeat (first | apply Kd.V_alloc | apply Kd.V_drewN | apply Kd.V_drew)); exact HO148.out) (Kd.R_base ho0) hb); have n4_ := Aside0.mk (Kd.V_elder' (by (with_reducible repeat (first | apply Kd.V_alloc | apply Kd.V_drewN | apply Kd.V_drew)); exact HO156.out) (Kd.R_base ho0) hb); have n5_ := Aside0.mk (Kd.N_elder' (by (with_reducible repeat (first | apply Kd.N_alloc | apply Kd.N_drewN | apply Kd.N_drew)); exact HO159.out) (Kd.R_base ho0) hb); have n6_ := Aside0.mk (Kd.R_lower (Kd.R_new' ho0 (Kd.R_lt (by (with_reducible repeat (first | apply Kd.R_alloc | apply Kd.R_drewN | apply Kd.R_drew)); exact HO140.out))) (below_size (by repeat (first | (with_reducible first | exact HB.out | apply below_alloc | apply pw_below_drewN | apply below_drew1) | exact HB.out)))); have n7_ := Aside0.mk (below_step (by repeat (first | (with_reducible first | exact HB.out | apply below_alloc | apply pw_below_drewN | apply below_drew1) | exact HB.out)) hb); clear HO_11; clear HO_15; clear HO140; clear HO148; clear HO156; clear HO159; clear HB; have HO_11 := n0_; have HO_15 := n1_; have HO140 := n2_; have HO148 := n3_; have HO156 := n4_; have HO159 := n5_; have HO163 := n6_; have HB := n7_; clear n0_ n1_ n2_ n3_ n4_ n5_ n6_ n7_; (try clear hb); (try clear hb2); (try clear hk); (try clear hi); (try clear ho0)) | ((with_reducible refine gate_callee (f := 22) rfl ?_); refine goesL_ (some 134) rfl rfl Try.func22 (by kernel_rfl) rfl #[] rfl (by (try simp only [List.map_toArray, List.map_cons, List.map_nil]); first | done | rfl | (simp only [List.length_drop, List.length_take]; rfl)) ?_; (with_reducible refine (calxlaw08_sanity.calls  true _ A60.out).mono ?_); rintro e w91 ⟨rfl, hb⟩; refine ⟨_, rfl, ?_⟩; have n0_ := Aside0.mk (Kd.N_below (by (with_reducible repeat (first | apply Kd.N_alloc | apply Kd.N_drewN | apply Kd.N_drew)); exact HO_11.out) hb); have n1_ := Aside0.mk (Kd.N_below (by (with_reducible repeat (first | apply Kd.N_alloc | apply Kd.N_drewN | apply Kd.N_drew)); exact HO_15.out) hb); have n2_ := Aside0.mk (Kd.R_below (by (with_reducible repeat (first | apply Kd.R_alloc | apply Kd.R_drewN | apply Kd.R_drew)); exact HO140.out) hb); have n3_ := Aside0.mk (Kd.V_below (by (with_reducible repeat (first | apply Kd.V_alloc | apply Kd.V_drewN | apply Kd.V_drew)); exact HO148.out) hb); have n4_ := Aside0.mk (Kd.V_below (by (with_reducible repeat (first | apply Kd.V_alloc | apply Kd.V_drewN | apply Kd.V_drew)); exact HO156.out) hb); have n5_ := Aside0.mk (Kd.N_below (by (with_reducible repeat (first | apply Kd.N_alloc | apply Kd.N_drewN | apply Kd.N_drew)); exact HO159.out) hb); have n6_ := Aside0.mk (Kd.R_below (by (with_reducible repeat (first | apply Kd.R_alloc | apply Kd.R_drewN | apply Kd.R_drew)); exact HO163.out) hb); have n7_ := Aside0.mk (below_step (by repeat (first | (with_reducible first | exact HB.out | apply below_alloc | apply pw_below_drewN | apply below_drew1) | exact HB.out)) hb); clear HO_11; clear HO_15; clear HO140; clear HO148; clear HO156; clear HO159; clear HO163; clear HB; have HO_11 := n0_; have HO_15 := n1_; have HO140 := n2_; have HO148 := n3_; have HO156 := n4_; have HO159 := n5_; have HO163 := n6_; have HB := n7_; clear n0_ n1_ n2_ n3_ n4_ n5_ n6_ n7_; (try clear hb); (try clear hb2); (try clear hk); (try clear hi); obtain ⟨Ao92, co92, eo92⟩ := Kd.R_slice HO140.out; subst eo92) | (go_at_call 29; (with_reducible refine (calxref08_SameBook.calls k3 _ _ t137 _ _ l0 false _ ?side1 ?side2 ?side3 ?side4 A63.out).mono ?_); (case side1 => repeat (first | exact (Kd.R_reads' HO140.out).2.2 | (with_reducible refine Kd.C_alloc ?_ _) | (with_reducible refine Kd.C_drewN ?_ _) | (with_reducible refine Kd.C_drew ?_))); (case side2 => exact (Kd.R_reads' HO140.out).2.1); (case side3 => repeat (first | exact (Kd.C_below HR0.out HB.out) | (with_reducible refine Kd.C_alloc ?_ _) | (with_reducible refine Kd.C_drewN ?_ _) | (with_reducible refine Kd.C_drew ?_))); (case side4 => exact HC0.out); rintro e w' ⟨rfl, ⟨nd, rfl⟩⟩))
                                          go_ret
                                          exact ⟨by first | rfl | (simp [errW_none, errW_some] <;> rfl) | (simp only [← hji51, ← hji55]; first | rfl | (simp [errW_none, errW_some] <;> rfl)) | (simp [*, errW_none, errW_some] <;> rfl), by repeat (first | (with_reducible first | exact HB.out | apply below_alloc | apply pw_below_drewN | apply below_drew1) | exact HB.out)⟩
                                      · rw [if_neg c62] at H
                                        have c62b0 : (t138 == 0) = false := beq_eq_false_iff_ne.mpr c62
                                        have c62b1 : (t138 != 0) = true := bne_iff_ne.mpr c62
                                        obtain rfl := Option.some.inj H
                                        obtain ⟨Ao93, co93, eo93⟩ := Kd.N_slice HO_11.out
                                        subst eo93
                                        obtain ⟨Ao94, co94, eo94⟩ := Kd.N_slice HO_15.out
                                        subst eo94
                                        try go_wp2_with (first | ((with_reducible refine gate_callee (f := 59) rfl ?_); refine goesL_ (some 108) rfl rfl Try.func59 (by kernel_rfl) rfl #[.slice Ao94 x15_3.length co94, .int .i64 (l0.length : Int), .int .i64 t103] rfl (by (try simp only [List.map_toArray, List.map_cons, List.map_nil]); first | done | rfl | (simp only [List.length_drop, List.length_take]; rfl)) ?_; (with_reducible refine (book_Whole.calls _ _ x15_3 (l0.length : Int) t103 t137 t138 _ ?side1 ?side2 A49.out).mono ?_); (case side1 => repeat (first | exact (Kd.N_reads' HO_15.out).2.2 | (with_reducible refine Kd.C_alloc ?_ _) | (with_reducible refine Kd.C_drewN ?_ _) | (with_reducible refine Kd.C_drew ?_))); (case side2 => exact (Kd.N_reads' HO_15.out).2.1); rintro e w95 ⟨v139, rfl, ho0, hb⟩; refine ⟨_, rfl, ?_⟩; have n0_ := Aside0.mk (Kd.N_elder' (by (with_reducible repeat (first | apply Kd.N_alloc | apply Kd.N_drewN | apply Kd.N_drew)); exact HO_11.out) (Kd.R_base ho0) hb); have n1_ := Aside0.mk (Kd.N_elder' (by (with_reducible repeat (first | apply Kd.N_alloc | apply Kd.N_drewN | apply Kd.N_drew)); exact HO_15.out) (Kd.R_base ho0) hb); have n2_ := Aside0.mk (Kd.R_lower ho0 (below_size (by repeat (first | (with_reducible first | exact HB.out | apply below_alloc | apply pw_below_drewN | apply below_drew1) | exact HB.out)))); have n3_ := Aside0.mk (below_step (by repeat (first | (with_reducible first | exact HB.out | apply below_alloc | apply pw_below_drewN | apply below_drew1) | exact HB.out)) hb); clear HO_11; clear HO_15; clear HB; have HO_11 := n0_; have HO_15 := n1_; have HO140 := n2_; have HB := n3_; clear n0_ n1_ n2_ n3_; (try clear hb); (try clear hb2); (try clear hk); (try clear hi); (try clear ho0)))
                                        have n0_ := Aside0.mk (Kd.N_drew HO_11.out)
                                        have n1_ := Aside0.mk (Kd.N_drew HO_15.out)
                                        have n2_ := Aside0.mk (Kd.R_drew HO140.out)
                                        have n3_ := Aside0.mk (below_drew1 HB.out)
                                        clear HO_11
                                        clear HO_15
                                        clear HO140
                                        clear HB
                                        have HO_11 := n0_
                                        have HO_15 := n1_
                                        have HO140 := n2_
                                        have HB := n3_
                                        clear n0_ n1_ n2_ n3_
                                        have q97 : ((ji51) : Int) ≤ ((x15_3.length : Int) : Int) := of_decide_eq_true (by first | (with_reducible assumption) | assumption)
                                        obtain ⟨i097, hi097, _, hsz97, _⟩ := info_parts info34
                                        have hroom97 : x15_3.length ≤ co94 := (Kd.N_reads' HO_15.out).2.1
                                        have hC97 : Kd.F k34 _ _ Ao94 x15_3.length x15_3 := (Kd.V_at (base := w.heap.size) (Kd.N_V HO_15.out)).2.2
                                        have hcut97 := cut_to (P := Try.prog) 22 34 .i64 Try.underlying22 hi097 Ao94 x15_3.length co94 (ji51) (of_decide_eq_true (by first | (with_reducible assumption) | assumption)) q97 hroom97
                                        have hr97 := Kd.F_take (m := ((ji51) : Int).toNat) hC97 (by omega)
                                        have hy97 : y144.length = ((ji51) : Int).toNat := (by rw [Ny144.out, List.length_take]; omega)
                                        rw [← Ny144.out] at hr97
                                        rw [← hy97] at hcut97
                                        have HO148 := Aside0.mk (show Kd.V k34 34 _ w.heap.size _ (.slice Ao94 y144.length co94) y144 from Kd.V_mk (by omega) hr97)
                                        have HC148 := Aside0.mk (show y144.length ≤ co94 from by omega)
                                        clear hr97 hC97 hroom97 hi097 hsz97
                                        have KY97 := Aside0.mk hy97
                                        clear hy97
                                        replace q97 := eq_true q97
                                        have q98 : ((ji55) : Int) ≤ ((x15_3.length : Int) : Int) := of_decide_eq_true (by first | (with_reducible assumption) | assumption)
                                        obtain ⟨i098, hi098, _, hsz98, _⟩ := info_parts info34
                                        have hroom98 : x15_3.length ≤ co94 := (Kd.N_reads' HO_15.out).2.1
                                        have hC98 : Kd.F k34 _ _ Ao94 x15_3.length x15_3 := (Kd.V_at (base := w.heap.size) (Kd.N_V HO_15.out)).2.2
                                        have q098 : (0 : Int) ≤ ((ji55) : Int) := of_decide_eq_true (by first | (with_reducible assumption) | assumption)
                                        have hcut98 := cut_from (P := Try.prog) 22 34 .i64 Try.underlying22 hi098 2 hsz98 Ao94 x15_3.length co94 (ji55) q098 q98
                                        have hr98 := Kd.F_cut (m := ((ji55) : Int).toNat) (c := co94) hC98 (by omega) hroom98
                                        obtain ⟨A98, hA98⟩ : ∃ A1, A1 = (if co94 = ((ji55) : Int).toNat then Ao94 else (Ao94 : Option Addr).map (·.add (((ji55) : Int).toNat * 2))) := ⟨_, rfl⟩
                                        obtain ⟨c98, hc98⟩ : ∃ c1, c1 = co94 - ((ji55) : Int).toNat := ⟨_, rfl⟩
                                        have hy98 : y152.length = x15_3.length - ((ji55) : Int).toNat := (by rw [Ny152.out, List.length_drop] <;> omega)
                                        rw [show (x15_3).drop ((ji55) : Int).toNat = y152 from Ny152.out.symm] at hr98
                                        replace hr98 : Kd.F k34 _ _ A98 y152.length y152 := (by rw [hA98]; exact hr98)
                                        rw [← hy98, ← hA98, ← hc98] at hcut98
                                        have HO156 := Aside0.mk (show Kd.V k34 34 _ w.heap.size _ (.slice A98 y152.length c98) y152 from Kd.V_mk (by rw [hy98, hc98]; exact Nat.sub_le_sub_right hroom98 _) hr98)
                                        have HC156 := Aside0.mk (show y152.length ≤ c98 from by rw [hy98, hc98]; exact Nat.sub_le_sub_right hroom98 _)
                                        clear hr98 hC98 hroom98 hi098 hsz98 hc98
                                        have KY98 := Aside0.mk hy98
                                        have KA98 := Aside0.mk hA98
                                        clear hy98 hA98
                                        replace q98 := eq_true q98
                                        refine start_ (n := 11) (S := fun w' => True) (ds := []) #[false, false, false, false, false, false, false, false, false, false, false] (by kernel_rfl) rfl rfl trivial (fun hHeld => ?_); refine with_tabW calxlaw08_BookWhole.tab23 calxlaw08_BookWhole.bits23 (fun HT_ HW_ => ?_)
                                        generalize w95.drew = w96 at HO_11 HO_15 HO140 HB HO148 HO156 hHeld ⊢
                                        refine pure_ (i := 1) (N := some 117) (v := ?_) (a' := ?_) #[false, true, false, false, false, false, false, false, false, false, false] rfl rfl (any_of HT_.out (by kernel_rfl)) (fun _ _ _ h => h) (Or.inl ⟨by rfl, ?_⟩) ?_ ?_
                                        rotate_left
                                        · intro w'
                                          go_simp
                                          with_reducible rfl
                                        rotate_left
                                        · simp only [Act.put, List.setIfInBounds_toArray, List.set_cons_zero, List.set_cons_succ, i64_w, i32_w]
                                          rfl
                                        refine pure_ (i := 2) (N := some 118) (v := ?_) (a' := ?_) #[false, true, true, false, false, false, false, false, false, false, false] rfl rfl (any_of HT_.out (by kernel_rfl)) (fun _ _ _ h => h) (Or.inl ⟨by rfl, ?_⟩) ?_ ?_
                                        rotate_left
                                        · intro w'
                                          go_simp
                                          with_reducible rfl
                                        rotate_left
                                        · simp only [Act.put, List.setIfInBounds_toArray, List.set_cons_zero, List.set_cons_succ, i64_w, i32_w]
                                          rfl
                                        refine pure_ (i := 3) (N := some 119) (v := ?_) (a' := ?_) #[false, true, true, true, false, false, false, false, false, false, false] rfl rfl (any_of HT_.out (by kernel_rfl)) (fun _ _ _ h => h) (Or.inl ⟨by rfl, ?_⟩) ?_ ?_
                                        rotate_left
                                        · intro w'
                                          go_simp
                                          with_reducible rfl
                                        rotate_left
                                        · simp only [Act.put, List.setIfInBounds_toArray, List.set_cons_zero, List.set_cons_succ, i64_w, i32_w]
                                          rfl
                                        refine pure_ (i := 5) (N := some 121) (v := ?_) (a' := ?_) #[false, true, true, true, false, true, false, false, false, false, false] rfl rfl (any_of HT_.out (by kernel_rfl)) (fun _ _ _ h => h) (Or.inl ⟨by rfl, ?_⟩) ?_ ?_
                                        rotate_left
                                        · intro w'
                                          go_simp
                                          with_reducible rfl
                                        rotate_left
                                        · simp only [Act.put, List.setIfInBounds_toArray, List.set_cons_zero, List.set_cons_succ, i64_w, i32_w]
                                          rfl
                                        refine pure_ (i := 6) (N := some 122) (v := ?_) (a' := ?_) #[false, true, true, true, false, true, true, false, false, false, false] rfl rfl (any_of HT_.out (by kernel_rfl)) (fun _ _ _ h => h) (Or.inl ⟨by rfl, ?_⟩) ?_ ?_
                                        rotate_left
                                        · intro w'
                                          go_simp
                                          with_reducible rfl
                                        rotate_left
                                        · simp only [Act.put, List.setIfInBounds_toArray, List.set_cons_zero, List.set_cons_succ, i64_w, i32_w]
                                          rfl
                                        refine pure_ (i := 7) (N := some 123) (v := ?_) (a' := ?_) #[false, true, true, true, false, true, true, true, false, false, false] rfl rfl (any_of HT_.out (by kernel_rfl)) (fun _ _ _ h => h) (Or.inl ⟨by rfl, ?_⟩) ?_ ?_
                                        rotate_left
                                        · intro w'
                                          go_simp
                                          with_reducible rfl
                                        rotate_left
                                        · simp only [Act.put, List.setIfInBounds_toArray, List.set_cons_zero, List.set_cons_succ, i64_w, i32_w]
                                          rfl
                                        refine pure_ (i := 8) (N := some 124) (v := ?_) (a' := ?_) #[false, true, true, true, false, true, true, true, true, false, false] rfl rfl (any_of HT_.out (by kernel_rfl)) (fun _ _ _ h => h) (Or.inl ⟨by rfl, ?_⟩) ?_ ?_
                                        rotate_left
                                        · intro w'
                                          go_simp
                                          with_reducible rfl
                                        rotate_left
                                        · simp only [Act.put, List.setIfInBounds_toArray, List.set_cons_zero, List.set_cons_succ, i64_w, i32_w]
                                          rfl
                                        refine one_ (i := 0) (N := some 116) #[true, true, true, true, false, true, true, true, true, false, false] rfl rfl (one_of HT_.out (by kernel_rfl)) (by decide) (fun K hK => ?_)
                                        refine Kd.N_lit_step k34 _ 34 ?hg (N' := 116) ?hd (xs := ([] : List (S34))) (inner := []) (ok := (fun k_ => some k_ ≠ (.slice Ao93 x11_2.length co93 : Value).ownBlock ∧ some k_ ≠ (.slice Ao94 x15_3.length co94 : Value).ownBlock ∧ some k_ ≠ (v139 : Value).ownBlock)) (okp := (fun k_ => some k_ ≠ (.slice Ao93 x11_2.length co93 : Value).ownBlock ∧ some k_ ≠ (.slice Ao94 x15_3.length co94 : Value).ownBlock ∧ some k_ ≠ (v139 : Value).ownBlock)) ?hr ?hp (fun _ hk => hk) ((show ∀ k_, w96.heap.size ≤ k_ → (fun k_ => some k_ ≠ (.slice Ao93 x11_2.length co93 : Value).ownBlock ∧ some k_ ≠ (.slice Ao94 x15_3.length co94 : Value).ownBlock ∧ some k_ ≠ (v139 : Value).ownBlock) k_ from fun k_ hk => ⟨Kd.fresh' (Kd.N_lt (by (with_reducible repeat (first | apply Kd.N_alloc | apply Kd.N_drewN | apply Kd.N_drew)); exact HO_11.out)) k_ hk, Kd.fresh' (Kd.N_lt (by (with_reducible repeat (first | apply Kd.N_alloc | apply Kd.N_drewN | apply Kd.N_drew)); exact HO_15.out)) k_ hk, Kd.fresh' (Kd.R_lt (by (with_reducible repeat (first | apply Kd.R_alloc | apply Kd.R_drewN | apply Kd.R_drew)); exact HO140.out)) k_ hk⟩) _ (Nat.le_refl _)) (Below.refl _ _) (Nat.le_refl _) (by simp) ?_; (case hd => rfl); (case hg => rfl); (case hr => first | (go_simp; done) | (go_simp; rfl)); (case hp => exact (Reps.none _ _))
                                        intro v142 w99 ho100 hb hg_ hnew_
                                        clear hg_ hnew_
                                        (first | rw [← Ny141.out] at ho100 | (simp only [Int.reduceToNat] at ho100; rw [← Ny141.out] at ho100))
                                        have n0_ := Aside0.mk (Kd.N_elder' (by (with_reducible repeat (first | apply Kd.N_alloc | apply Kd.N_drewN | apply Kd.N_drew)); exact HO_11.out) (Kd.N_base ho100) hb)
                                        have n1_ := Aside0.mk (Kd.N_elder' (by (with_reducible repeat (first | apply Kd.N_alloc | apply Kd.N_drewN | apply Kd.N_drew)); exact HO_15.out) (Kd.N_base ho100) hb)
                                        have n2_ := Aside0.mk (Kd.R_below (by (with_reducible repeat (first | apply Kd.R_alloc | apply Kd.R_drewN | apply Kd.R_drew)); exact HO140.out) hb)
                                        have n3_ := Aside0.mk (Kd.V_elder' (by (with_reducible repeat (first | apply Kd.V_alloc | apply Kd.V_drewN | apply Kd.V_drew)); exact HO148.out) (Kd.N_base ho100) hb)
                                        have n4_ := Aside0.mk (Kd.V_elder' (by (with_reducible repeat (first | apply Kd.V_alloc | apply Kd.V_drewN | apply Kd.V_drew)); exact HO156.out) (Kd.N_base ho100) hb)
                                        have n5_ := Aside0.mk (Kd.N_lower ho100 (below_size (by repeat (first | (with_reducible first | exact HB.out | apply below_alloc | apply pw_below_drewN | apply below_drew1) | exact HB.out))))
                                        have n6_ := Aside0.mk (below_step (by repeat (first | (with_reducible first | exact HB.out | apply below_alloc | apply pw_below_drewN | apply below_drew1) | exact HB.out)) hb)
                                        clear HO_11
                                        clear HO_15
                                        clear HO140
                                        clear HO148
                                        clear HO156
                                        clear HB
                                        have HO_11 := n0_
                                        have HO_15 := n1_
                                        have HO140 := n2_
                                        have HO148 := n3_
                                        have HO156 := n4_
                                        have HO143 := n5_
                                        have HB := n6_
                                        clear n0_ n1_ n2_ n3_ n4_ n5_ n6_
                                        clear hb ho100
                                        refine hK.out _ _ trivial (fun hHeld => ?_)
                                        clear hK K
                                        refine norm_ (a' := ?_) ?_ ?_
                                        rotate_left
                                        · show Act.put _ (some 116) _ = _
                                          simp only [Act.put, List.setIfInBounds_toArray, List.set_cons_zero, List.set_cons_succ, i64_w, i32_w]
                                          rfl
                                        refine one_ (i := 4) (N := some 120) #[true, true, true, true, true, true, true, true, true, false, false] rfl rfl (one_of HT_.out (by kernel_rfl)) (by decide) (fun K hK => ?_)
                                        refine Kd.N_append_rows_step k34 (w0 := w) w.heap.size (by rfl) (.tmp 116) (.tmp 119) 22 34 (.agg #[(.int .i64 0), (.slice none 0 0)]) 32 rfl Try.underlying22 info34 rfl (by decide) (by omega) v142 y141 y144 _ _ _ (fun k_ => some k_ ≠ (.slice Ao93 x11_2.length co93 : Value).ownBlock ∧ some k_ ≠ (v139 : Value).ownBlock) (fun k_ => ((fun k_ => some k_ ≠ (.slice Ao93 x11_2.length co93 : Value).ownBlock ∧ some k_ ≠ (v139 : Value).ownBlock)) k_ ∧ some k_ ≠ (v142 : Value).ownBlock) rfl rfl ?aO ?aR (fun _ hk => hk) ?aF ?aB ?aS ?aL ?_
                                        (case aR => exact (by skip; exact Kd.V_F (Kd.V_mono (ok' := (fun k_ => ((fun k_ => some k_ ≠ (.slice Ao93 x11_2.length co93 : Value).ownBlock ∧ some k_ ≠ (v139 : Value).ownBlock)) k_ ∧ some k_ ≠ (v142 : Value).ownBlock)) (HO148.out) (fun k_ hk => ⟨⟨hk.1.1, hk.1.2⟩, hk.2⟩))))
                                        (case aB => exact (by repeat (first | (with_reducible first | exact HB.out | apply below_alloc | apply pw_below_drewN | apply below_drew1) | exact HB.out)))
                                        (case aF => exact (fun k_ hk => ⟨Kd.fresh' (Kd.N_lt (by (with_reducible repeat (first | apply Kd.N_alloc | apply Kd.N_drewN | apply Kd.N_drew)); exact HO_11.out)) k_ hk, Kd.fresh' (Kd.R_lt (by (with_reducible repeat (first | apply Kd.R_alloc | apply Kd.R_drewN | apply Kd.R_drew)); exact HO140.out)) k_ hk⟩))
                                        (case aO => exact (by (with_reducible repeat (first | apply Kd.N_alloc | apply Kd.N_drewN | apply Kd.N_drew)); exact Kd.N_mono HO143.out (fun _ hk => ⟨hk.1, hk.2.2⟩)))
                                        (case aS => exact (below_size (by repeat (first | (with_reducible first | exact HB.out | apply below_alloc | apply pw_below_drewN | apply below_drew1) | exact HB.out))))
                                        (case aL => have := LMc54.out; omega)
                                        intro v150 w101 ho hb hg hat
                                        rw [← Ny149.out] at ho
                                        have n0_ := Aside0.mk (Kd.N_afterv (ok := (fun k_ => some k_ ≠ (.slice Ao94 x15_3.length co94 : Value).ownBlock ∧ some k_ ≠ (v139 : Value).ownBlock)) (by (with_reducible repeat (first | apply Kd.N_alloc | apply Kd.N_drewN | apply Kd.N_drew)); exact HO_11.out) hg hat)
                                        have n1_ := Aside0.mk (Kd.N_afterv (ok := (fun k_ => some k_ ≠ (.slice Ao93 x11_2.length co93 : Value).ownBlock ∧ some k_ ≠ (v139 : Value).ownBlock)) (by (with_reducible repeat (first | apply Kd.N_alloc | apply Kd.N_drewN | apply Kd.N_drew)); exact HO_15.out) hg hat)
                                        have n2_ := Aside0.mk (Kd.R_over' (by (with_reducible repeat (first | apply Kd.R_alloc | apply Kd.R_drewN | apply Kd.R_drew)); exact HO140.out) (Kd.N_typed (by (with_reducible repeat (first | apply Kd.N_alloc | apply Kd.N_drewN | apply Kd.N_drew)); exact HO143.out)) (by decide) hg)
                                        have n3_ := Aside0.mk (Kd.V_afterv (ok := (fun k_ => some k_ ≠ (.slice Ao93 x11_2.length co93 : Value).ownBlock ∧ some k_ ≠ (v139 : Value).ownBlock)) (by (with_reducible repeat (first | apply Kd.V_alloc | apply Kd.V_drewN | apply Kd.V_drew)); exact HO148.out) hg hat)
                                        have n4_ := Aside0.mk (Kd.V_afterv (ok := (fun k_ => some k_ ≠ (.slice Ao93 x11_2.length co93 : Value).ownBlock ∧ some k_ ≠ (v139 : Value).ownBlock)) (by (with_reducible repeat (first | apply Kd.V_alloc | apply Kd.V_drewN | apply Kd.V_drew)); exact HO156.out) hg hat)
                                        have n5_ := Aside0.mk (hb)
                                        have n6_ := Aside0.mk (ho)
                                        clear HO_11
                                        clear HO_15
                                        clear HO140
                                        clear HO148
                                        clear HO156
                                        clear HB
                                        clear HO143
                                        have HO_11 := n0_
                                        have HO_15 := n1_
                                        have HO140 := n2_
                                        have HO148 := n3_
                                        have HO156 := n4_
                                        have HB := n5_
                                        have HO151 := n6_
                                        clear n0_ n1_ n2_ n3_ n4_ n5_ n6_
                                        clear ho hb hg hat
                                        refine hK.out _ _ trivial (fun hHeld => ?_)
                                        clear hK K
                                        refine norm_ (a' := ?_) ?_ ?_
                                        rotate_left
                                        · show Act.put _ (some 120) _ = _
                                          simp only [Act.put, List.setIfInBounds_toArray, List.set_cons_zero, List.set_cons_succ, i64_w, i32_w]
                                          rfl
                                        refine one_ (i := 9) (N := some 125) #[true, true, true, true, true, true, true, true, true, true, false] rfl rfl (one_of HT_.out (by kernel_rfl)) (by decide) (fun K hK => ?_)
                                        refine Kd.N_append_rows_step k34 (w0 := w) w.heap.size (by rfl) (.tmp 120) (.tmp 124) 22 34 (.agg #[(.int .i64 0), (.slice none 0 0)]) 32 rfl Try.underlying22 info34 rfl (by decide) (by omega) v150 y149 y152 _ _ _ (fun k_ => some k_ ≠ (.slice Ao93 x11_2.length co93 : Value).ownBlock ∧ some k_ ≠ (v139 : Value).ownBlock) (fun k_ => ((fun k_ => some k_ ≠ (.slice Ao93 x11_2.length co93 : Value).ownBlock ∧ some k_ ≠ (v139 : Value).ownBlock)) k_ ∧ some k_ ≠ (v150 : Value).ownBlock) rfl rfl ?aO ?aR (fun _ hk => hk) ?aF ?aB ?aS ?aL ?_
                                        (case aR => exact (by skip; exact Kd.V_F (Kd.V_mono (ok' := (fun k_ => ((fun k_ => some k_ ≠ (.slice Ao93 x11_2.length co93 : Value).ownBlock ∧ some k_ ≠ (v139 : Value).ownBlock)) k_ ∧ some k_ ≠ (v150 : Value).ownBlock)) (HO156.out) (fun k_ hk => ⟨⟨hk.1.1, hk.1.2⟩, hk.2⟩))))
                                        (case aB => exact (by repeat (first | (with_reducible first | exact HB.out | apply below_alloc | apply pw_below_drewN | apply below_drew1) | exact HB.out)))
                                        (case aF => exact (fun k_ hk => ⟨Kd.fresh' (Kd.N_lt (by (with_reducible repeat (first | apply Kd.N_alloc | apply Kd.N_drewN | apply Kd.N_drew)); exact HO_11.out)) k_ hk, Kd.fresh' (Kd.R_lt (by (with_reducible repeat (first | apply Kd.R_alloc | apply Kd.R_drewN | apply Kd.R_drew)); exact HO140.out)) k_ hk⟩))
                                        (case aO => exact (by (with_reducible repeat (first | apply Kd.N_alloc | apply Kd.N_drewN | apply Kd.N_drew)); exact HO151.out))
                                        (case aS => exact (below_size (by repeat (first | (with_reducible first | exact HB.out | apply below_alloc | apply pw_below_drewN | apply below_drew1) | exact HB.out))))
                                        (case aL => have := LMc58.out; omega)
                                        intro v158 w102 ho hb hg hat
                                        rw [← Ny157.out] at ho
                                        have n0_ := Aside0.mk (Kd.N_afterv (ok := (fun k_ => some k_ ≠ (.slice Ao94 x15_3.length co94 : Value).ownBlock ∧ some k_ ≠ (v139 : Value).ownBlock)) (by (with_reducible repeat (first | apply Kd.N_alloc | apply Kd.N_drewN | apply Kd.N_drew)); exact HO_11.out) hg hat)
                                        have n1_ := Aside0.mk (Kd.N_afterv (ok := (fun k_ => some k_ ≠ (.slice Ao93 x11_2.length co93 : Value).ownBlock ∧ some k_ ≠ (v139 : Value).ownBlock)) (by (with_reducible repeat (first | apply Kd.N_alloc | apply Kd.N_drewN | apply Kd.N_drew)); exact HO_15.out) hg hat)
                                        have n2_ := Aside0.mk (Kd.R_over' (by (with_reducible repeat (first | apply Kd.R_alloc | apply Kd.R_drewN | apply Kd.R_drew)); exact HO140.out) (Kd.N_typed (by (with_reducible repeat (first | apply Kd.N_alloc | apply Kd.N_drewN | apply Kd.N_drew)); exact HO151.out)) (by decide) hg)
                                        have n3_ := Aside0.mk (Kd.V_afterv (ok := (fun k_ => some k_ ≠ (.slice Ao93 x11_2.length co93 : Value).ownBlock ∧ some k_ ≠ (v139 : Value).ownBlock)) (by (with_reducible repeat (first | apply Kd.V_alloc | apply Kd.V_drewN | apply Kd.V_drew)); exact HO148.out) hg hat)
                                        have n4_ := Aside0.mk (Kd.V_afterv (ok := (fun k_ => some k_ ≠ (.slice Ao93 x11_2.length co93 : Value).ownBlock ∧ some k_ ≠ (v139 : Value).ownBlock)) (by (with_reducible repeat (first | apply Kd.V_alloc | apply Kd.V_drewN | apply Kd.V_drew)); exact HO156.out) hg hat)
                                        have n5_ := Aside0.mk (hb)
                                        have n6_ := Aside0.mk (ho)
                                        clear HO_11
                                        clear HO_15
                                        clear HO140
                                        clear HO148
                                        clear HO156
                                        clear HB
                                        clear HO151
                                        have HO_11 := n0_
                                        have HO_15 := n1_
                                        have HO140 := n2_
                                        have HO148 := n3_
                                        have HO156 := n4_
                                        have HB := n5_
                                        have HO159 := n6_
                                        clear n0_ n1_ n2_ n3_ n4_ n5_ n6_
                                        clear ho hb hg hat
                                        refine hK.out _ _ trivial (fun hHeld => ?_)
                                        clear hK K
                                        refine norm_ (a' := ?_) ?_ ?_
                                        rotate_left
                                        · show Act.put _ (some 125) _ = _
                                          simp only [Act.put, List.setIfInBounds_toArray, List.set_cons_zero, List.set_cons_succ, i64_w, i32_w]
                                          rfl
                                        refine pure_ (i := 10) (N := some 20) (v := ?_) (a' := ?_) #[true, true, true, true, true, true, true, true, true, true, true] rfl rfl (any_of HT_.out (by kernel_rfl)) (fun _ _ _ h => h) (Or.inl ⟨by rfl, ?_⟩) ?_ ?_
                                        rotate_left
                                        · intro w'
                                          go_simp
                                          with_reducible rfl
                                        rotate_left
                                        · simp only [Act.put, List.setIfInBounds_toArray, List.set_cons_zero, List.set_cons_succ, i64_w, i32_w]
                                          rfl
                                        refine done_ (done_of HT_.out (by kernel_rfl)) ?_
                                        obtain ⟨Ao103, co103, eo103⟩ := Kd.N_slice HO159.out
                                        subst eo103
                                        try go_wp2_with (first | ((with_reducible refine gate_callee (f := 59) rfl ?_); refine goesL_ (some 131) rfl rfl Try.func59 (by kernel_rfl) rfl #[.slice Ao103 y157.length co103, .int .i64 (l0.length : Int), .int .i64 t103] rfl (by (try simp only [List.map_toArray, List.map_cons, List.map_nil]); first | done | rfl | (simp only [List.length_drop, List.length_take]; rfl)) ?_; (with_reducible refine (book_Whole.calls _ _ y157 (l0.length : Int) t103 t160 t161 _ ?side1 ?side2 A59.out).mono ?_); (case side1 => repeat (first | exact (Kd.N_reads' HO159.out).2.2 | (with_reducible refine Kd.C_alloc ?_ _) | (with_reducible refine Kd.C_drewN ?_ _) | (with_reducible refine Kd.C_drew ?_))); (case side2 => exact (Kd.N_reads' HO159.out).2.1); rintro e w104 ⟨v162, rfl, ho0, hb⟩; refine ⟨_, rfl, ?_⟩; have n0_ := Aside0.mk (Kd.N_elder' (by (with_reducible repeat (first | apply Kd.N_alloc | apply Kd.N_drewN | apply Kd.N_drew)); exact HO_11.out) (Kd.R_base ho0) hb); have n1_ := Aside0.mk (Kd.N_elder' (by (with_reducible repeat (first | apply Kd.N_alloc | apply Kd.N_drewN | apply Kd.N_drew)); exact HO_15.out) (Kd.R_base ho0) hb); have n2_ := Aside0.mk (Kd.R_elder' (by (with_reducible repeat (first | apply Kd.R_alloc | apply Kd.R_drewN | apply Kd.R_drew)); exact HO140.out) (Kd.R_base ho0) hb); have n3_ := Aside0.mk (Kd.V_elder' (by (with_reducible repeat (first | apply Kd.V_alloc | apply Kd.V_drewN | apply Kd.V_drew)); exact HO148.out) (Kd.R_base ho0) hb); have n4_ := Aside0.mk (Kd.V_elder' (by (with_reducible repeat (first | apply Kd.V_alloc | apply Kd.V_drewN | apply Kd.V_drew)); exact HO156.out) (Kd.R_base ho0) hb); have n5_ := Aside0.mk (Kd.N_elder' (by (with_reducible repeat (first | apply Kd.N_alloc | apply Kd.N_drewN | apply Kd.N_drew)); exact HO159.out) (Kd.R_base ho0) hb); have n6_ := Aside0.mk (Kd.R_lower (Kd.R_new' ho0 (Kd.R_lt (by (with_reducible repeat (first | apply Kd.R_alloc | apply Kd.R_drewN | apply Kd.R_drew)); exact HO140.out))) (below_size (by repeat (first | (with_reducible first | exact HB.out | apply below_alloc | apply pw_below_drewN | apply below_drew1) | exact HB.out)))); have n7_ := Aside0.mk (below_step (by repeat (first | (with_reducible first | exact HB.out | apply below_alloc | apply pw_below_drewN | apply below_drew1) | exact HB.out)) hb); clear HO_11; clear HO_15; clear HO140; clear HO148; clear HO156; clear HO159; clear HB; have HO_11 := n0_; have HO_15 := n1_; have HO140 := n2_; have HO148 := n3_; have HO156 := n4_; have HO159 := n5_; have HO163 := n6_; have HB := n7_; clear n0_ n1_ n2_ n3_ n4_ n5_ n6_ n7_; (try clear hb); (try clear hb2); (try clear hk); (try clear hi); (try clear ho0)) | ((with_reducible refine gate_callee (f := 22) rfl ?_); refine goesL_ (some 134) rfl rfl Try.func22 (by kernel_rfl) rfl #[] rfl (by (try simp only [List.map_toArray, List.map_cons, List.map_nil]); first | done | rfl | (simp only [List.length_drop, List.length_take]; rfl)) ?_; (with_reducible refine (calxlaw08_sanity.calls  true _ A60.out).mono ?_); rintro e w105 ⟨rfl, hb⟩; refine ⟨_, rfl, ?_⟩; have n0_ := Aside0.mk (Kd.N_below (by (with_reducible repeat (first | apply Kd.N_alloc | apply Kd.N_drewN | apply Kd.N_drew)); exact HO_11.out) hb); have n1_ := Aside0.mk (Kd.N_below (by (with_reducible repeat (first | apply Kd.N_alloc | apply Kd.N_drewN | apply Kd.N_drew)); exact HO_15.out) hb); have n2_ := Aside0.mk (Kd.R_below (by (with_reducible repeat (first | apply Kd.R_alloc | apply Kd.R_drewN | apply Kd.R_drew)); exact HO140.out) hb); have n3_ := Aside0.mk (Kd.V_below (by (with_reducible repeat (first | apply Kd.V_alloc | apply Kd.V_drewN | apply Kd.V_drew)); exact HO148.out) hb); have n4_ := Aside0.mk (Kd.V_below (by (with_reducible repeat (first | apply Kd.V_alloc | apply Kd.V_drewN | apply Kd.V_drew)); exact HO156.out) hb); have n5_ := Aside0.mk (Kd.N_below (by (with_reducible repeat (first | apply Kd.N_alloc | apply Kd.N_drewN | apply Kd.N_drew)); exact HO159.out) hb); have n6_ := Aside0.mk (Kd.R_below (by (with_reducible repeat (first | apply Kd.R_alloc | apply Kd.R_drewN | apply Kd.R_drew)); exact HO163.out) hb); have n7_ := Aside0.mk (below_step (by repeat (first | (with_reducible first | exact HB.out | apply below_alloc | apply pw_below_drewN | apply below_drew1) | exact HB.out)) hb); clear HO_11; clear HO_15; clear HO140; clear HO148; clear HO156; clear HO159; clear HO163; clear HB; have HO_11 := n0_; have HO_15 := n1_; have HO140 := n2_; have HO148 := n3_; have HO156 := n4_; have HO159 := n5_; have HO163 := n6_; have HB := n7_; clear n0_ n1_ n2_ n3_ n4_ n5_ n6_ n7_; (try clear hb); (try clear hb2); (try clear hk); (try clear hi)))
                                        go_ret
                                        exact ⟨by first | rfl | (simp [errW_none, errW_some] <;> rfl) | (simp only [← hji51, ← hji55]; first | rfl | (simp [errW_none, errW_some] <;> rfl)) | (simp [*, errW_none, errW_some] <;> rfl), by repeat (first | (with_reducible first | exact HB.out | apply below_alloc | apply pw_below_drewN | apply below_drew1) | exact HB.out)⟩
                                    · replace c61 := Bool.eq_false_iff.mpr c61
                                      subst c61
                                      have H1 : (some false) = some r := by rw [if_neg (show ¬ (false = true) by decide)] at H; exact H
                                      clear H
                                      have H := H1
                                      clear H1
                                      obtain rfl := Option.some.inj H
                                      obtain ⟨Ao106, co106, eo106⟩ := Kd.N_slice HO_11.out
                                      subst eo106
                                      obtain ⟨Ao107, co107, eo107⟩ := Kd.N_slice HO_15.out
                                      subst eo107
                                      try go_wp2_with (first | ((with_reducible refine gate_callee (f := 59) rfl ?_); refine goesL_ (some 108) rfl rfl Try.func59 (by kernel_rfl) rfl #[.slice Ao107 x15_3.length co107, .int .i64 (l0.length : Int), .int .i64 t103] rfl (by (try simp only [List.map_toArray, List.map_cons, List.map_nil]); first | done | rfl | (simp only [List.length_drop, List.length_take]; rfl)) ?_; (with_reducible refine (book_Whole.calls _ _ x15_3 (l0.length : Int) t103 t137 t138 _ ?side1 ?side2 A49.out).mono ?_); (case side1 => repeat (first | exact (Kd.N_reads' HO_15.out).2.2 | (with_reducible refine Kd.C_alloc ?_ _) | (with_reducible refine Kd.C_drewN ?_ _) | (with_reducible refine Kd.C_drew ?_))); (case side2 => exact (Kd.N_reads' HO_15.out).2.1); rintro e w108 ⟨v139, rfl, ho0, hb⟩; refine ⟨_, rfl, ?_⟩; have n0_ := Aside0.mk (Kd.N_elder' (by (with_reducible repeat (first | apply Kd.N_alloc | apply Kd.N_drewN | apply Kd.N_drew)); exact HO_11.out) (Kd.R_base ho0) hb); have n1_ := Aside0.mk (Kd.N_elder' (by (with_reducible repeat (first | apply Kd.N_alloc | apply Kd.N_drewN | apply Kd.N_drew)); exact HO_15.out) (Kd.R_base ho0) hb); have n2_ := Aside0.mk (Kd.R_lower ho0 (below_size (by repeat (first | (with_reducible first | exact HB.out | apply below_alloc | apply pw_below_drewN | apply below_drew1) | exact HB.out)))); have n3_ := Aside0.mk (below_step (by repeat (first | (with_reducible first | exact HB.out | apply below_alloc | apply pw_below_drewN | apply below_drew1) | exact HB.out)) hb); clear HO_11; clear HO_15; clear HB; have HO_11 := n0_; have HO_15 := n1_; have HO140 := n2_; have HB := n3_; clear n0_ n1_ n2_ n3_; (try clear hb); (try clear hb2); (try clear hk); (try clear hi); (try clear ho0)))
                                      have n0_ := Aside0.mk (Kd.N_drew HO_11.out)
                                      have n1_ := Aside0.mk (Kd.N_drew HO_15.out)
                                      have n2_ := Aside0.mk (Kd.R_drew HO140.out)
                                      have n3_ := Aside0.mk (below_drew1 HB.out)
                                      clear HO_11
                                      clear HO_15
                                      clear HO140
                                      clear HB
                                      have HO_11 := n0_
                                      have HO_15 := n1_
                                      have HO140 := n2_
                                      have HB := n3_
                                      clear n0_ n1_ n2_ n3_
                                      have q110 : ((ji51) : Int) ≤ ((x15_3.length : Int) : Int) := of_decide_eq_true (by first | (with_reducible assumption) | assumption)
                                      obtain ⟨i0110, hi0110, _, hsz110, _⟩ := info_parts info34
                                      have hroom110 : x15_3.length ≤ co107 := (Kd.N_reads' HO_15.out).2.1
                                      have hC110 : Kd.F k34 _ _ Ao107 x15_3.length x15_3 := (Kd.V_at (base := w.heap.size) (Kd.N_V HO_15.out)).2.2
                                      have hcut110 := cut_to (P := Try.prog) 22 34 .i64 Try.underlying22 hi0110 Ao107 x15_3.length co107 (ji51) (of_decide_eq_true (by first | (with_reducible assumption) | assumption)) q110 hroom110
                                      have hr110 := Kd.F_take (m := ((ji51) : Int).toNat) hC110 (by omega)
                                      have hy110 : y144.length = ((ji51) : Int).toNat := (by rw [Ny144.out, List.length_take]; omega)
                                      rw [← Ny144.out] at hr110
                                      rw [← hy110] at hcut110
                                      have HO148 := Aside0.mk (show Kd.V k34 34 _ w.heap.size _ (.slice Ao107 y144.length co107) y144 from Kd.V_mk (by omega) hr110)
                                      have HC148 := Aside0.mk (show y144.length ≤ co107 from by omega)
                                      clear hr110 hC110 hroom110 hi0110 hsz110
                                      have KY110 := Aside0.mk hy110
                                      clear hy110
                                      replace q110 := eq_true q110
                                      have q111 : ((ji55) : Int) ≤ ((x15_3.length : Int) : Int) := of_decide_eq_true (by first | (with_reducible assumption) | assumption)
                                      obtain ⟨i0111, hi0111, _, hsz111, _⟩ := info_parts info34
                                      have hroom111 : x15_3.length ≤ co107 := (Kd.N_reads' HO_15.out).2.1
                                      have hC111 : Kd.F k34 _ _ Ao107 x15_3.length x15_3 := (Kd.V_at (base := w.heap.size) (Kd.N_V HO_15.out)).2.2
                                      have q0111 : (0 : Int) ≤ ((ji55) : Int) := of_decide_eq_true (by first | (with_reducible assumption) | assumption)
                                      have hcut111 := cut_from (P := Try.prog) 22 34 .i64 Try.underlying22 hi0111 2 hsz111 Ao107 x15_3.length co107 (ji55) q0111 q111
                                      have hr111 := Kd.F_cut (m := ((ji55) : Int).toNat) (c := co107) hC111 (by omega) hroom111
                                      obtain ⟨A111, hA111⟩ : ∃ A1, A1 = (if co107 = ((ji55) : Int).toNat then Ao107 else (Ao107 : Option Addr).map (·.add (((ji55) : Int).toNat * 2))) := ⟨_, rfl⟩
                                      obtain ⟨c111, hc111⟩ : ∃ c1, c1 = co107 - ((ji55) : Int).toNat := ⟨_, rfl⟩
                                      have hy111 : y152.length = x15_3.length - ((ji55) : Int).toNat := (by rw [Ny152.out, List.length_drop] <;> omega)
                                      rw [show (x15_3).drop ((ji55) : Int).toNat = y152 from Ny152.out.symm] at hr111
                                      replace hr111 : Kd.F k34 _ _ A111 y152.length y152 := (by rw [hA111]; exact hr111)
                                      rw [← hy111, ← hA111, ← hc111] at hcut111
                                      have HO156 := Aside0.mk (show Kd.V k34 34 _ w.heap.size _ (.slice A111 y152.length c111) y152 from Kd.V_mk (by rw [hy111, hc111]; exact Nat.sub_le_sub_right hroom111 _) hr111)
                                      have HC156 := Aside0.mk (show y152.length ≤ c111 from by rw [hy111, hc111]; exact Nat.sub_le_sub_right hroom111 _)
                                      clear hr111 hC111 hroom111 hi0111 hsz111 hc111
                                      have KY111 := Aside0.mk hy111
                                      have KA111 := Aside0.mk hA111
                                      clear hy111 hA111
                                      replace q111 := eq_true q111
                                      refine start_ (n := 11) (S := fun w' => True) (ds := []) #[false, false, false, false, false, false, false, false, false, false, false] (by kernel_rfl) rfl rfl trivial (fun hHeld => ?_); refine with_tabW calxlaw08_BookWhole.tab23 calxlaw08_BookWhole.bits23 (fun HT_ HW_ => ?_)
                                      generalize w108.drew = w109 at HO_11 HO_15 HO140 HB HO148 HO156 hHeld ⊢
                                      refine pure_ (i := 1) (N := some 117) (v := ?_) (a' := ?_) #[false, true, false, false, false, false, false, false, false, false, false] rfl rfl (any_of HT_.out (by kernel_rfl)) (fun _ _ _ h => h) (Or.inl ⟨by rfl, ?_⟩) ?_ ?_
                                      rotate_left
                                      · intro w'
                                        go_simp
                                        with_reducible rfl
                                      rotate_left
                                      · simp only [Act.put, List.setIfInBounds_toArray, List.set_cons_zero, List.set_cons_succ, i64_w, i32_w]
                                        rfl
                                      refine pure_ (i := 2) (N := some 118) (v := ?_) (a' := ?_) #[false, true, true, false, false, false, false, false, false, false, false] rfl rfl (any_of HT_.out (by kernel_rfl)) (fun _ _ _ h => h) (Or.inl ⟨by rfl, ?_⟩) ?_ ?_
                                      rotate_left
                                      · intro w'
                                        go_simp
                                        with_reducible rfl
                                      rotate_left
                                      · simp only [Act.put, List.setIfInBounds_toArray, List.set_cons_zero, List.set_cons_succ, i64_w, i32_w]
                                        rfl
                                      refine pure_ (i := 3) (N := some 119) (v := ?_) (a' := ?_) #[false, true, true, true, false, false, false, false, false, false, false] rfl rfl (any_of HT_.out (by kernel_rfl)) (fun _ _ _ h => h) (Or.inl ⟨by rfl, ?_⟩) ?_ ?_
                                      rotate_left
                                      · intro w'
                                        go_simp
                                        with_reducible rfl
                                      rotate_left
                                      · simp only [Act.put, List.setIfInBounds_toArray, List.set_cons_zero, List.set_cons_succ, i64_w, i32_w]
                                        rfl
                                      refine pure_ (i := 5) (N := some 121) (v := ?_) (a' := ?_) #[false, true, true, true, false, true, false, false, false, false, false] rfl rfl (any_of HT_.out (by kernel_rfl)) (fun _ _ _ h => h) (Or.inl ⟨by rfl, ?_⟩) ?_ ?_
                                      rotate_left
                                      · intro w'
                                        go_simp
                                        with_reducible rfl
                                      rotate_left
                                      · simp only [Act.put, List.setIfInBounds_toArray, List.set_cons_zero, List.set_cons_succ, i64_w, i32_w]
                                        rfl
                                      refine pure_ (i := 6) (N := some 122) (v := ?_) (a' := ?_) #[false, true, true, true, false, true, true, false, false, false, false] rfl rfl (any_of HT_.out (by kernel_rfl)) (fun _ _ _ h => h) (Or.inl ⟨by rfl, ?_⟩) ?_ ?_
                                      rotate_left
                                      · intro w'
                                        go_simp
                                        with_reducible rfl
                                      rotate_left
                                      · simp only [Act.put, List.setIfInBounds_toArray, List.set_cons_zero, List.set_cons_succ, i64_w, i32_w]
                                        rfl
                                      refine pure_ (i := 7) (N := some 123) (v := ?_) (a' := ?_) #[false, true, true, true, false, true, true, true, false, false, false] rfl rfl (any_of HT_.out (by kernel_rfl)) (fun _ _ _ h => h) (Or.inl ⟨by rfl, ?_⟩) ?_ ?_
                                      rotate_left
                                      · intro w'
                                        go_simp
                                        with_reducible rfl
                                      rotate_left
                                      · simp only [Act.put, List.setIfInBounds_toArray, List.set_cons_zero, List.set_cons_succ, i64_w, i32_w]
                                        rfl
                                      refine pure_ (i := 8) (N := some 124) (v := ?_) (a' := ?_) #[false, true, true, true, false, true, true, true, true, false, false] rfl rfl (any_of HT_.out (by kernel_rfl)) (fun _ _ _ h => h) (Or.inl ⟨by rfl, ?_⟩) ?_ ?_
                                      rotate_left
                                      · intro w'
                                        go_simp
                                        with_reducible rfl
                                      rotate_left
                                      · simp only [Act.put, List.setIfInBounds_toArray, List.set_cons_zero, List.set_cons_succ, i64_w, i32_w]
                                        rfl
                                      refine one_ (i := 0) (N := some 116) #[true, true, true, true, false, true, true, true, true, false, false] rfl rfl (one_of HT_.out (by kernel_rfl)) (by decide) (fun K hK => ?_)
                                      refine Kd.N_lit_step k34 _ 34 ?hg (N' := 116) ?hd (xs := ([] : List (S34))) (inner := []) (ok := (fun k_ => some k_ ≠ (.slice Ao106 x11_2.length co106 : Value).ownBlock ∧ some k_ ≠ (.slice Ao107 x15_3.length co107 : Value).ownBlock ∧ some k_ ≠ (v139 : Value).ownBlock)) (okp := (fun k_ => some k_ ≠ (.slice Ao106 x11_2.length co106 : Value).ownBlock ∧ some k_ ≠ (.slice Ao107 x15_3.length co107 : Value).ownBlock ∧ some k_ ≠ (v139 : Value).ownBlock)) ?hr ?hp (fun _ hk => hk) ((show ∀ k_, w109.heap.size ≤ k_ → (fun k_ => some k_ ≠ (.slice Ao106 x11_2.length co106 : Value).ownBlock ∧ some k_ ≠ (.slice Ao107 x15_3.length co107 : Value).ownBlock ∧ some k_ ≠ (v139 : Value).ownBlock) k_ from fun k_ hk => ⟨Kd.fresh' (Kd.N_lt (by (with_reducible repeat (first | apply Kd.N_alloc | apply Kd.N_drewN | apply Kd.N_drew)); exact HO_11.out)) k_ hk, Kd.fresh' (Kd.N_lt (by (with_reducible repeat (first | apply Kd.N_alloc | apply Kd.N_drewN | apply Kd.N_drew)); exact HO_15.out)) k_ hk, Kd.fresh' (Kd.R_lt (by (with_reducible repeat (first | apply Kd.R_alloc | apply Kd.R_drewN | apply Kd.R_drew)); exact HO140.out)) k_ hk⟩) _ (Nat.le_refl _)) (Below.refl _ _) (Nat.le_refl _) (by simp) ?_; (case hd => rfl); (case hg => rfl); (case hr => first | (go_simp; done) | (go_simp; rfl)); (case hp => exact (Reps.none _ _))
                                      intro v142 w112 ho113 hb hg_ hnew_
                                      clear hg_ hnew_
                                      (first | rw [← Ny141.out] at ho113 | (simp only [Int.reduceToNat] at ho113; rw [← Ny141.out] at ho113))
                                      have n0_ := Aside0.mk (Kd.N_elder' (by (with_reducible repeat (first | apply Kd.N_alloc | apply Kd.N_drewN | apply Kd.N_drew)); exact HO_11.out) (Kd.N_base ho113) hb)
                                      have n1_ := Aside0.mk (Kd.N_elder' (by (with_reducible repeat (first | apply Kd.N_alloc | apply Kd.N_drewN | apply Kd.N_drew)); exact HO_15.out) (Kd.N_base ho113) hb)
                                      have n2_ := Aside0.mk (Kd.R_below (by (with_reducible repeat (first | apply Kd.R_alloc | apply Kd.R_drewN | apply Kd.R_drew)); exact HO140.out) hb)
                                      have n3_ := Aside0.mk (Kd.V_elder' (by (with_reducible repeat (first | apply Kd.V_alloc | apply Kd.V_drewN | apply Kd.V_drew)); exact HO148.out) (Kd.N_base ho113) hb)
                                      have n4_ := Aside0.mk (Kd.V_elder' (by (with_reducible repeat (first | apply Kd.V_alloc | apply Kd.V_drewN | apply Kd.V_drew)); exact HO156.out) (Kd.N_base ho113) hb)
                                      have n5_ := Aside0.mk (Kd.N_lower ho113 (below_size (by repeat (first | (with_reducible first | exact HB.out | apply below_alloc | apply pw_below_drewN | apply below_drew1) | exact HB.out))))
                                      have n6_ := Aside0.mk (below_step (by repeat (first | (with_reducible first | exact HB.out | apply below_alloc | apply pw_below_drewN | apply below_drew1) | exact HB.out)) hb)
                                      clear HO_11
                                      clear HO_15
                                      clear HO140
                                      clear HO148
                                      clear HO156
                                      clear HB
                                      have HO_11 := n0_
                                      have HO_15 := n1_
                                      have HO140 := n2_
                                      have HO148 := n3_
                                      have HO156 := n4_
                                      have HO143 := n5_
                                      have HB := n6_
                                      clear n0_ n1_ n2_ n3_ n4_ n5_ n6_
                                      clear hb ho113
                                      refine hK.out _ _ trivial (fun hHeld => ?_)
                                      clear hK K
                                      refine norm_ (a' := ?_) ?_ ?_
                                      rotate_left
                                      · show Act.put _ (some 116) _ = _
                                        simp only [Act.put, List.setIfInBounds_toArray, List.set_cons_zero, List.set_cons_succ, i64_w, i32_w]
                                        rfl
                                      refine one_ (i := 4) (N := some 120) #[true, true, true, true, true, true, true, true, true, false, false] rfl rfl (one_of HT_.out (by kernel_rfl)) (by decide) (fun K hK => ?_)
                                      refine Kd.N_append_rows_step k34 (w0 := w) w.heap.size (by rfl) (.tmp 116) (.tmp 119) 22 34 (.agg #[(.int .i64 0), (.slice none 0 0)]) 32 rfl Try.underlying22 info34 rfl (by decide) (by omega) v142 y141 y144 _ _ _ (fun k_ => some k_ ≠ (.slice Ao106 x11_2.length co106 : Value).ownBlock ∧ some k_ ≠ (v139 : Value).ownBlock) (fun k_ => ((fun k_ => some k_ ≠ (.slice Ao106 x11_2.length co106 : Value).ownBlock ∧ some k_ ≠ (v139 : Value).ownBlock)) k_ ∧ some k_ ≠ (v142 : Value).ownBlock) rfl rfl ?aO ?aR (fun _ hk => hk) ?aF ?aB ?aS ?aL ?_
                                      (case aR => exact (by skip; exact Kd.V_F (Kd.V_mono (ok' := (fun k_ => ((fun k_ => some k_ ≠ (.slice Ao106 x11_2.length co106 : Value).ownBlock ∧ some k_ ≠ (v139 : Value).ownBlock)) k_ ∧ some k_ ≠ (v142 : Value).ownBlock)) (HO148.out) (fun k_ hk => ⟨⟨hk.1.1, hk.1.2⟩, hk.2⟩))))
                                      (case aB => exact (by repeat (first | (with_reducible first | exact HB.out | apply below_alloc | apply pw_below_drewN | apply below_drew1) | exact HB.out)))
                                      (case aF => exact (fun k_ hk => ⟨Kd.fresh' (Kd.N_lt (by (with_reducible repeat (first | apply Kd.N_alloc | apply Kd.N_drewN | apply Kd.N_drew)); exact HO_11.out)) k_ hk, Kd.fresh' (Kd.R_lt (by (with_reducible repeat (first | apply Kd.R_alloc | apply Kd.R_drewN | apply Kd.R_drew)); exact HO140.out)) k_ hk⟩))
                                      (case aO => exact (by (with_reducible repeat (first | apply Kd.N_alloc | apply Kd.N_drewN | apply Kd.N_drew)); exact Kd.N_mono HO143.out (fun _ hk => ⟨hk.1, hk.2.2⟩)))
                                      (case aS => exact (below_size (by repeat (first | (with_reducible first | exact HB.out | apply below_alloc | apply pw_below_drewN | apply below_drew1) | exact HB.out))))
                                      (case aL => have := LMc54.out; omega)
                                      intro v150 w114 ho hb hg hat
                                      rw [← Ny149.out] at ho
                                      have n0_ := Aside0.mk (Kd.N_afterv (ok := (fun k_ => some k_ ≠ (.slice Ao107 x15_3.length co107 : Value).ownBlock ∧ some k_ ≠ (v139 : Value).ownBlock)) (by (with_reducible repeat (first | apply Kd.N_alloc | apply Kd.N_drewN | apply Kd.N_drew)); exact HO_11.out) hg hat)
                                      have n1_ := Aside0.mk (Kd.N_afterv (ok := (fun k_ => some k_ ≠ (.slice Ao106 x11_2.length co106 : Value).ownBlock ∧ some k_ ≠ (v139 : Value).ownBlock)) (by (with_reducible repeat (first | apply Kd.N_alloc | apply Kd.N_drewN | apply Kd.N_drew)); exact HO_15.out) hg hat)
                                      have n2_ := Aside0.mk (Kd.R_over' (by (with_reducible repeat (first | apply Kd.R_alloc | apply Kd.R_drewN | apply Kd.R_drew)); exact HO140.out) (Kd.N_typed (by (with_reducible repeat (first | apply Kd.N_alloc | apply Kd.N_drewN | apply Kd.N_drew)); exact HO143.out)) (by decide) hg)
                                      have n3_ := Aside0.mk (Kd.V_afterv (ok := (fun k_ => some k_ ≠ (.slice Ao106 x11_2.length co106 : Value).ownBlock ∧ some k_ ≠ (v139 : Value).ownBlock)) (by (with_reducible repeat (first | apply Kd.V_alloc | apply Kd.V_drewN | apply Kd.V_drew)); exact HO148.out) hg hat)
                                      have n4_ := Aside0.mk (Kd.V_afterv (ok := (fun k_ => some k_ ≠ (.slice Ao106 x11_2.length co106 : Value).ownBlock ∧ some k_ ≠ (v139 : Value).ownBlock)) (by (with_reducible repeat (first | apply Kd.V_alloc | apply Kd.V_drewN | apply Kd.V_drew)); exact HO156.out) hg hat)
                                      have n5_ := Aside0.mk (hb)
                                      have n6_ := Aside0.mk (ho)
                                      clear HO_11
                                      clear HO_15
                                      clear HO140
                                      clear HO148
                                      clear HO156
                                      clear HB
                                      clear HO143
                                      have HO_11 := n0_
                                      have HO_15 := n1_
                                      have HO140 := n2_
                                      have HO148 := n3_
                                      have HO156 := n4_
                                      have HB := n5_
                                      have HO151 := n6_
                                      clear n0_ n1_ n2_ n3_ n4_ n5_ n6_
                                      clear ho hb hg hat
                                      refine hK.out _ _ trivial (fun hHeld => ?_)
                                      clear hK K
                                      refine norm_ (a' := ?_) ?_ ?_
                                      rotate_left
                                      · show Act.put _ (some 120) _ = _
                                        simp only [Act.put, List.setIfInBounds_toArray, List.set_cons_zero, List.set_cons_succ, i64_w, i32_w]
                                        rfl
                                      refine one_ (i := 9) (N := some 125) #[true, true, true, true, true, true, true, true, true, true, false] rfl rfl (one_of HT_.out (by kernel_rfl)) (by decide) (fun K hK => ?_)
                                      refine Kd.N_append_rows_step k34 (w0 := w) w.heap.size (by rfl) (.tmp 120) (.tmp 124) 22 34 (.agg #[(.int .i64 0), (.slice none 0 0)]) 32 rfl Try.underlying22 info34 rfl (by decide) (by omega) v150 y149 y152 _ _ _ (fun k_ => some k_ ≠ (.slice Ao106 x11_2.length co106 : Value).ownBlock ∧ some k_ ≠ (v139 : Value).ownBlock) (fun k_ => ((fun k_ => some k_ ≠ (.slice Ao106 x11_2.length co106 : Value).ownBlock ∧ some k_ ≠ (v139 : Value).ownBlock)) k_ ∧ some k_ ≠ (v150 : Value).ownBlock) rfl rfl ?aO ?aR (fun _ hk => hk) ?aF ?aB ?aS ?aL ?_
                                      (case aR => exact (by skip; exact Kd.V_F (Kd.V_mono (ok' := (fun k_ => ((fun k_ => some k_ ≠ (.slice Ao106 x11_2.length co106 : Value).ownBlock ∧ some k_ ≠ (v139 : Value).ownBlock)) k_ ∧ some k_ ≠ (v150 : Value).ownBlock)) (HO156.out) (fun k_ hk => ⟨⟨hk.1.1, hk.1.2⟩, hk.2⟩))))
                                      (case aB => exact (by repeat (first | (with_reducible first | exact HB.out | apply below_alloc | apply pw_below_drewN | apply below_drew1) | exact HB.out)))
                                      (case aF => exact (fun k_ hk => ⟨Kd.fresh' (Kd.N_lt (by (with_reducible repeat (first | apply Kd.N_alloc | apply Kd.N_drewN | apply Kd.N_drew)); exact HO_11.out)) k_ hk, Kd.fresh' (Kd.R_lt (by (with_reducible repeat (first | apply Kd.R_alloc | apply Kd.R_drewN | apply Kd.R_drew)); exact HO140.out)) k_ hk⟩))
                                      (case aO => exact (by (with_reducible repeat (first | apply Kd.N_alloc | apply Kd.N_drewN | apply Kd.N_drew)); exact HO151.out))
                                      (case aS => exact (below_size (by repeat (first | (with_reducible first | exact HB.out | apply below_alloc | apply pw_below_drewN | apply below_drew1) | exact HB.out))))
                                      (case aL => have := LMc58.out; omega)
                                      intro v158 w115 ho hb hg hat
                                      rw [← Ny157.out] at ho
                                      have n0_ := Aside0.mk (Kd.N_afterv (ok := (fun k_ => some k_ ≠ (.slice Ao107 x15_3.length co107 : Value).ownBlock ∧ some k_ ≠ (v139 : Value).ownBlock)) (by (with_reducible repeat (first | apply Kd.N_alloc | apply Kd.N_drewN | apply Kd.N_drew)); exact HO_11.out) hg hat)
                                      have n1_ := Aside0.mk (Kd.N_afterv (ok := (fun k_ => some k_ ≠ (.slice Ao106 x11_2.length co106 : Value).ownBlock ∧ some k_ ≠ (v139 : Value).ownBlock)) (by (with_reducible repeat (first | apply Kd.N_alloc | apply Kd.N_drewN | apply Kd.N_drew)); exact HO_15.out) hg hat)
                                      have n2_ := Aside0.mk (Kd.R_over' (by (with_reducible repeat (first | apply Kd.R_alloc | apply Kd.R_drewN | apply Kd.R_drew)); exact HO140.out) (Kd.N_typed (by (with_reducible repeat (first | apply Kd.N_alloc | apply Kd.N_drewN | apply Kd.N_drew)); exact HO151.out)) (by decide) hg)
                                      have n3_ := Aside0.mk (Kd.V_afterv (ok := (fun k_ => some k_ ≠ (.slice Ao106 x11_2.length co106 : Value).ownBlock ∧ some k_ ≠ (v139 : Value).ownBlock)) (by (with_reducible repeat (first | apply Kd.V_alloc | apply Kd.V_drewN | apply Kd.V_drew)); exact HO148.out) hg hat)
                                      have n4_ := Aside0.mk (Kd.V_afterv (ok := (fun k_ => some k_ ≠ (.slice Ao106 x11_2.length co106 : Value).ownBlock ∧ some k_ ≠ (v139 : Value).ownBlock)) (by (with_reducible repeat (first | apply Kd.V_alloc | apply Kd.V_drewN | apply Kd.V_drew)); exact HO156.out) hg hat)
                                      have n5_ := Aside0.mk (hb)
                                      have n6_ := Aside0.mk (ho)
                                      clear HO_11
                                      clear HO_15
                                      clear HO140
                                      clear HO148
                                      clear HO156
                                      clear HB
                                      clear HO151
                                      have HO_11 := n0_
                                      have HO_15 := n1_
                                      have HO140 := n2_
                                      have HO148 := n3_
                                      have HO156 := n4_
                                      have HB := n5_
                                      have HO159 := n6_
                                      clear n0_ n1_ n2_ n3_ n4_ n5_ n6_
                                      clear ho hb hg hat
                                      refine hK.out _ _ trivial (fun hHeld => ?_)
                                      clear hK K
                                      refine norm_ (a' := ?_) ?_ ?_
                                      rotate_left
                                      · show Act.put _ (some 125) _ = _
                                        simp only [Act.put, List.setIfInBounds_toArray, List.set_cons_zero, List.set_cons_succ, i64_w, i32_w]
                                        rfl
                                      refine pure_ (i := 10) (N := some 20) (v := ?_) (a' := ?_) #[true, true, true, true, true, true, true, true, true, true, true] rfl rfl (any_of HT_.out (by kernel_rfl)) (fun _ _ _ h => h) (Or.inl ⟨by rfl, ?_⟩) ?_ ?_
                                      rotate_left
                                      · intro w'
                                        go_simp
                                        with_reducible rfl
                                      rotate_left
                                      · simp only [Act.put, List.setIfInBounds_toArray, List.set_cons_zero, List.set_cons_succ, i64_w, i32_w]
                                        rfl
                                      refine done_ (done_of HT_.out (by kernel_rfl)) ?_
                                      obtain ⟨Ao116, co116, eo116⟩ := Kd.N_slice HO159.out
                                      subst eo116
                                      try go_wp2_with (first | ((with_reducible refine gate_callee (f := 59) rfl ?_); refine goesL_ (some 131) rfl rfl Try.func59 (by kernel_rfl) rfl #[.slice Ao116 y157.length co116, .int .i64 (l0.length : Int), .int .i64 t103] rfl (by (try simp only [List.map_toArray, List.map_cons, List.map_nil]); first | done | rfl | (simp only [List.length_drop, List.length_take]; rfl)) ?_; (with_reducible refine (book_Whole.calls _ _ y157 (l0.length : Int) t103 t160 t161 _ ?side1 ?side2 A59.out).mono ?_); (case side1 => repeat (first | exact (Kd.N_reads' HO159.out).2.2 | (with_reducible refine Kd.C_alloc ?_ _) | (with_reducible refine Kd.C_drewN ?_ _) | (with_reducible refine Kd.C_drew ?_))); (case side2 => exact (Kd.N_reads' HO159.out).2.1); rintro e w117 ⟨v162, rfl, ho0, hb⟩; refine ⟨_, rfl, ?_⟩; have n0_ := Aside0.mk (Kd.N_elder' (by (with_reducible repeat (first | apply Kd.N_alloc | apply Kd.N_drewN | apply Kd.N_drew)); exact HO_11.out) (Kd.R_base ho0) hb); have n1_ := Aside0.mk (Kd.N_elder' (by (with_reducible repeat (first | apply Kd.N_alloc | apply Kd.N_drewN | apply Kd.N_drew)); exact HO_15.out) (Kd.R_base ho0) hb); have n2_ := Aside0.mk (Kd.R_elder' (by (with_reducible repeat (first | apply Kd.R_alloc | apply Kd.R_drewN | apply Kd.R_drew)); exact HO140.out) (Kd.R_base ho0) hb); have n3_ := Aside0.mk (Kd.V_elder' (by (with_reducible repeat (first | apply Kd.V_alloc | apply Kd.V_drewN | apply Kd.V_drew)); exact HO148.out) (Kd.R_base ho0) hb); have n4_ := Aside0.mk (Kd.V_elder' (by (with_reducible repeat (first | apply Kd.V_alloc | apply Kd.V_drewN | apply Kd.V_drew)); exact HO156.out) (Kd.R_base ho0) hb); have n5_ := Aside0.mk (Kd.N_elder' (by (with_reducible repeat (first | apply Kd.N_alloc | apply Kd.N_drewN | apply Kd.N_drew)); exact HO159.out) (Kd.R_base ho0) hb); have n6_ := Aside0.mk (Kd.R_lower (Kd.R_new' ho0 (Kd.R_lt (by (with_reducible repeat (first | apply Kd.R_alloc | apply Kd.R_drewN | apply Kd.R_drew)); exact HO140.out))) (below_size (by repeat (first | (with_reducible first | exact HB.out | apply below_alloc | apply pw_below_drewN | apply below_drew1) | exact HB.out)))); have n7_ := Aside0.mk (below_step (by repeat (first | (with_reducible first | exact HB.out | apply below_alloc | apply pw_below_drewN | apply below_drew1) | exact HB.out)) hb); clear HO_11; clear HO_15; clear HO140; clear HO148; clear HO156; clear HO159; clear HB; have HO_11 := n0_; have HO_15 := n1_; have HO140 := n2_; have HO148 := n3_; have HO156 := n4_; have HO159 := n5_; have HO163 := n6_; have HB := n7_; clear n0_ n1_ n2_ n3_ n4_ n5_ n6_ n7_; (try clear hb); (try clear hb2); (try clear hk); (try clear hi); (try clear ho0)) | ((with_reducible refine gate_callee (f := 22) rfl ?_); refine goesL_ (some 134) rfl rfl Try.func22 (by kernel_rfl) rfl #[] rfl (by (try simp only [List.map_toArray, List.map_cons, List.map_nil]); first | done | rfl | (simp only [List.length_drop, List.length_take]; rfl)) ?_; (with_reducible refine (calxlaw08_sanity.calls  false _ A60.out).mono ?_); rintro e w118 ⟨rfl, hb⟩; refine ⟨_, rfl, ?_⟩; have n0_ := Aside0.mk (Kd.N_below (by (with_reducible repeat (first | apply Kd.N_alloc | apply Kd.N_drewN | apply Kd.N_drew)); exact HO_11.out) hb); have n1_ := Aside0.mk (Kd.N_below (by (with_reducible repeat (first | apply Kd.N_alloc | apply Kd.N_drewN | apply Kd.N_drew)); exact HO_15.out) hb); have n2_ := Aside0.mk (Kd.R_below (by (with_reducible repeat (first | apply Kd.R_alloc | apply Kd.R_drewN | apply Kd.R_drew)); exact HO140.out) hb); have n3_ := Aside0.mk (Kd.V_below (by (with_reducible repeat (first | apply Kd.V_alloc | apply Kd.V_drewN | apply Kd.V_drew)); exact HO148.out) hb); have n4_ := Aside0.mk (Kd.V_below (by (with_reducible repeat (first | apply Kd.V_alloc | apply Kd.V_drewN | apply Kd.V_drew)); exact HO156.out) hb); have n5_ := Aside0.mk (Kd.N_below (by (with_reducible repeat (first | apply Kd.N_alloc | apply Kd.N_drewN | apply Kd.N_drew)); exact HO159.out) hb); have n6_ := Aside0.mk (Kd.R_below (by (with_reducible repeat (first | apply Kd.R_alloc | apply Kd.R_drewN | apply Kd.R_drew)); exact HO163.out) hb); have n7_ := Aside0.mk (below_step (by repeat (first | (with_reducible first | exact HB.out | apply below_alloc | apply pw_below_drewN | apply below_drew1) | exact HB.out)) hb); clear HO_11; clear HO_15; clear HO140; clear HO148; clear HO156; clear HO159; clear HO163; clear HB; have HO_11 := n0_; have HO_15 := n1_; have HO140 := n2_; have HO148 := n3_; have HO156 := n4_; have HO159 := n5_; have HO163 := n6_; have HB := n7_; clear n0_ n1_ n2_ n3_ n4_ n5_ n6_ n7_; (try clear hb); (try clear hb2); (try clear hk); (try clear hi)))
                                      go_ret
                                      exact ⟨by first | rfl | (simp [errW_none, errW_some] <;> rfl) | (simp only [← hji51, ← hji55]; first | rfl | (simp [errW_none, errW_some] <;> rfl)) | (simp [*, errW_none, errW_some] <;> rfl), by repeat (first | (with_reducible first | exact HB.out | apply below_alloc | apply pw_below_drewN | apply below_drew1) | exact HB.out)⟩
                                  · rw [if_neg c58] at H
                                    exact absurd H (by simp)
                                · rw [if_neg c57] at H
                                  exact absurd H (by simp)
                              · rw [if_neg c56] at H
                                exact absurd H (by simp)
                            · rw [if_neg c54] at H
                              exact absurd H (by simp)
                          · rw [if_neg c53] at H
                            exact absurd H (by simp)
                        · rw [if_neg c52] at H
                          exact absurd H (by simp)
        · rw [if_neg c13] at H
          have c13b0 : (t104 == 0) = false := beq_eq_false_iff_ne.mpr c13
          have c13b1 : (t104 != 0) = true := bne_iff_ne.mpr c13
          replace H := Option.bind_eq_some_iff.mp H
          obtain ⟨t105, A1190, H⟩ := H
          replace H : (some t105) = some r := H
          have A119 := Aside0.mk A1190
          clear A1190
          obtain rfl := Option.some.inj H
          go_wp2_with (first | ((with_reducible refine gate_callee (f := 32) rfl ?_); refine goesL_ (some 39) rfl rfl Try.func32 (by kernel_rfl) rfl #[.slice A0 l0.length c0] rfl (by (try simp only [List.map_toArray, List.map_cons, List.map_nil]); first | done | rfl | (simp only [List.length_drop, List.length_take]; rfl)) ?_; (with_reducible refine (book_Root.calls _ _ l0 t103 t104 _ ?side1 ?side2 A12.out).mono ?_); (case side1 => repeat (first | exact (Kd.C_below HR0.out HB.out) | (with_reducible refine Kd.C_alloc ?_ _) | (with_reducible refine Kd.C_drewN ?_ _) | (with_reducible refine Kd.C_drew ?_))); (case side2 => exact HC0.out); rintro e w120 ⟨rfl, hb⟩; refine ⟨_, rfl, ?_⟩; have n0_ := Aside0.mk (below_step (by repeat (first | (with_reducible first | exact HB.out | apply below_alloc | apply pw_below_drewN | apply below_drew1) | exact HB.out)) hb); clear HB; have HB := n0_; clear n0_; (try clear hb); (try clear hb2); (try clear hk); (try clear hi)) | ((with_reducible refine gate_callee (f := 22) rfl ?_); refine goesL_ (some 44) rfl rfl Try.func22 (by kernel_rfl) rfl #[] rfl (by (try simp only [List.map_toArray, List.map_cons, List.map_nil]); first | done | rfl | (simp only [List.length_drop, List.length_take]; rfl)) ?_; (with_reducible refine (calxlaw08_sanity.calls  t105 _ A119.out).mono ?_); rintro e w121 ⟨rfl, hb⟩; refine ⟨_, rfl, ?_⟩; have n0_ := Aside0.mk (below_step (by repeat (first | (with_reducible first | exact HB.out | apply below_alloc | apply pw_below_drewN | apply below_drew1) | exact HB.out)) hb); clear HB; have HB := n0_; clear n0_; (try clear hb); (try clear hb2); (try clear hk); (try clear hi)))
          go_ret
          exact ⟨by first | rfl | (simp [errW_none, errW_some] <;> rfl) | (simp [*, errW_none, errW_some] <;> rfl), by repeat (first | (with_reducible first | exact HB.out | apply below_alloc | apply pw_below_drewN | apply below_drew1) | exact HB.out)⟩
end Go.Proofs.Ytmfphlfakmnbmaa.B
end

section
namespace Go.Proofs.Ytmfphlfakmnbmaa.B
open Go.RowKit Go.Proofs.YtmfphlfakmnbmaaW.PrintWords Go.Proofs.YtmfphlfakmnbmaaW.PrintLast Go.Proofs.YtmfphlfakmnbmaaW.PrintMore
attribute [local go_sem] max2_int min2_int max_two min_two max_three min_three max_four min_four
theorem rot_mod {m t n : Nat} (hm : m < n) : (m + t) % n = if m + t % n < n then m + t % n else m + t % n - n := by
  have hn : 0 < n := by omega
  have hr : t % n < n := Nat.mod_lt _ hn
  rw [Nat.add_mod, Nat.mod_eq_of_lt hm]
  split
  · rename_i h; exact Nat.mod_eq_of_lt h
  · rename_i h
    rw [Nat.mod_eq_sub_mod (by omega)]
    exact Nat.mod_eq_of_lt (by omega)
structure WInv (l : List S29) (at_ : Nat) (ps : List S34) : Prop where
  le : at_ ≤ l.length
  cut : ∀ p ∈ ps, Cut l p ∧ p.f0.toNat + p.f1.length ≤ at_
  cov : ∀ q, q < at_ → ∃ p ∈ ps, p.f0.toNat ≤ q ∧ q < p.f0.toNat + p.f1.length
  apart : ps.Pairwise (fun (p q : S34) => p.f0.toNat + p.f1.length ≤ q.f0.toNat)
theorem WInv.next {l : List S29} {at_ : Nat} {ps : List S34} (h : WInv l at_ ps) {n : Nat} (h1 : 1 ≤ n) (h2 : at_ + n ≤ l.length) : WInv l (at_ + n) (ps ++ [⟨(at_ : Int), (l.take (at_ + n)).drop at_⟩]) := by
  have hl : ((l.take (at_ + n)).drop at_).length = n := by simp; omega
  have hc : Cut l ⟨(at_ : Int), (l.take (at_ + n)).drop at_⟩ := by
    refine ⟨by show 1 ≤ ((l.take (at_ + n)).drop at_).length; omega, by show (0 : Int) ≤ (at_ : Int); omega, by show (at_ : Int).toNat + ((l.take (at_ + n)).drop at_).length ≤ l.length; rw [hl]; omega, ?_⟩
    show (l.take (at_ + n)).drop at_ = (l.drop (at_ : Int).toNat).take ((l.take (at_ + n)).drop at_).length
    rw [hl, Int.toNat_natCast, List.drop_take, show at_ + n - at_ = n by omega]
  refine ⟨h2, fun p hp => ?_, fun q hq => ?_, ?_⟩
  · rcases List.mem_append.1 hp with hp | hp
    · have := h.cut p hp
      exact ⟨this.1, by omega⟩
    · rw [List.mem_singleton.1 hp]
      exact ⟨hc, by show (at_ : Int).toNat + ((l.take (at_ + n)).drop at_).length ≤ at_ + n; rw [hl]; omega⟩
  · by_cases hlt : q < at_
    · obtain ⟨p, hp, h3⟩ := h.cov q hlt
      exact ⟨p, List.mem_append_left _ hp, h3⟩
    · exact ⟨_, List.mem_append_right _ (List.mem_singleton.2 rfl), by show (at_ : Int).toNat ≤ q; omega, by show q < (at_ : Int).toNat + ((l.take (at_ + n)).drop at_).length; rw [hl]; omega⟩
  · refine List.pairwise_append.2 ⟨h.apart, List.pairwise_singleton _ _, fun a ha b hb => ?_⟩
    rw [List.mem_singleton.1 hb]
    have := (h.cut a ha).2
    show a.f0.toNat + a.f1.length ≤ (at_ : Int).toNat
    omega
def turned (ps : List S34) (t : Nat) (i : Nat) : List S34 := (List.range i).map (fun j => ps.getD ((j + t) % ps.length) z34)
theorem turned_get {ps : List S34} {t i j : Nat} (h : j < (turned ps t i).length) (hn : 0 < ps.length) : (turned ps t i)[j] = ps[(j + t) % ps.length]'(Nat.mod_lt _ hn) := by
  unfold turned
  simp [List.getD_eq_getElem?_getD, List.getElem?_eq_getElem (Nat.mod_lt (j + t) hn)]
theorem turned_len (ps : List S34) (t i : Nat) : (turned ps t i).length = i := by simp [turned]
theorem whole_end {l : List S29} (hc : checkP l = 0) (hl : 0 < l.length) {ps : List S34} (h : WInv l l.length ps) (h12 : ps.length ≤ 12) (t g : Nat) (hn : 0 < ps.length) :
    wholeP (turned ps t ps.length) (l.length : Int) (rootP l) = (l, 0) ∧ (wholeP ((turned ps t ps.length).take (g % ps.length) ++ (turned ps t ps.length).drop (g % ps.length + 1)) (l.length : Int) (rootP l)).2 = 5 := by
  have hlen := turned_len ps t ps.length
  have hmem : ∀ p ∈ turned ps t ps.length, Cut l p := by
    intro p hp
    obtain ⟨j, hj, rfl⟩ := List.mem_iff_getElem.1 hp
    rw [turned_get hj hn]
    exact (h.cut _ (List.getElem_mem _)).1
  have hk : g % ps.length < ps.length := Nat.mod_lt _ hn
  constructor
  · refine whole_all hc (by rw [hlen]; exact h12) hmem (fun q hq => ?_)
    obtain ⟨p, hp, h1, h2⟩ := h.cov q hq
    obtain ⟨m, hm, rfl⟩ := List.mem_iff_getElem.1 hp
    have hr : t % ps.length < ps.length := Nat.mod_lt _ hn
    obtain ⟨j, hj, hjm⟩ : ∃ j, j < ps.length ∧ (j + t) % ps.length = m := by
      by_cases hle : t % ps.length ≤ m
      · exact ⟨m - t % ps.length, by omega, by rw [rot_mod (by omega), if_pos (by omega)]; omega⟩
      · exact ⟨m + ps.length - t % ps.length, by omega, by rw [rot_mod (by omega), if_neg (by omega)]; omega⟩
    have hj' : j < (turned ps t ps.length).length := by rw [hlen]; exact hj
    refine ⟨(turned ps t ps.length)[j], List.getElem_mem _, ?_⟩
    rw [turned_get hj' hn]
    simp only [hjm]
    exact ⟨h1, h2⟩
  · have hk' : g % ps.length < (turned ps t ps.length).length := by rw [hlen]; exact hk
    have hck := hmem _ (List.getElem_mem hk')
    have hcl := (h.cut _ (List.getElem_mem (Nat.mod_lt (g % ps.length + t) hn))).2
    rw [← turned_get hk' hn] at hcl
    refine whole_gone hc (by rw [List.length_append, List.length_take, List.length_drop, hlen]; omega) (fun p hp => ?_) (q := (turned ps t ps.length)[g % ps.length].f0.toNat) (by have := hck.1; omega) (fun p hp => ?_)
    · rcases List.mem_append.1 hp with hp | hp
      · exact hmem p (List.mem_of_mem_take hp)
      · exact hmem p (List.mem_of_mem_drop hp)
    · obtain ⟨m, hm, hne, rfl⟩ : ∃ m, ∃ hm : m < (turned ps t ps.length).length, m ≠ g % ps.length ∧ (turned ps t ps.length)[m] = p := by
        rcases List.mem_append.1 hp with hp | hp
        · obtain ⟨i, hi, rfl⟩ := List.mem_iff_getElem.1 hp
          rw [List.length_take] at hi
          exact ⟨i, by omega, by omega, by rw [List.getElem_take]⟩
        · obtain ⟨i, hi, rfl⟩ := List.mem_iff_getElem.1 hp
          rw [List.length_drop] at hi
          exact ⟨g % ps.length + 1 + i, by omega, by omega, by rw [List.getElem_drop]⟩
      rw [hlen] at hm
      have hm' : m < (turned ps t ps.length).length := by rw [hlen]; exact hm
      rw [turned_get hm' hn, turned_get hk' hn]
      have hr : t % ps.length < ps.length := Nat.mod_lt _ hn
      have hd : (m + t) % ps.length ≠ (g % ps.length + t) % ps.length := by
        rw [rot_mod hm, rot_mod hk]
        split <;> split <;> omega
      have h1 : 1 ≤ (ps[(g % ps.length + t) % ps.length]'(Nat.mod_lt _ hn)).f1.length := (h.cut _ (List.getElem_mem _)).1.1
      have h2 : 1 ≤ (ps[(m + t) % ps.length]'(Nat.mod_lt _ hn)).f1.length := (h.cut _ (List.getElem_mem _)).1.1
      rcases Nat.lt_or_gt_of_ne hd with hlt | hgt
      · have := (List.pairwise_iff_getElem.1 h.apart) _ _ (Nat.mod_lt _ hn) (Nat.mod_lt _ hn) hlt
        omega
      · have := (List.pairwise_iff_getElem.1 h.apart) _ _ (Nat.mod_lt _ hn) (Nat.mod_lt _ hn) hgt
        omega
theorem tmod_nat {a n : Nat} : Int.tmod (a : Int) (n : Int) = ((a % n : Nat) : Int) := by
  rw [Int.tmod_eq_emod_of_nonneg (by omega)]; rfl
theorem whole_l1 {l : List S29} (hc : checkP l = 0) (hl : 0 < l.length) {ps : List S34} (h : WInv l l.length ps) (h12 : ps.length ≤ 12) (hn : 0 < ps.length) {t g : Nat} (ht : t ≤ 255) (hg : g ≤ 255) :
    ∀ (d i : Nat), i + d = ps.length → Ev (fun k => calxlaw08_BookWhole.l1 k l (t : Int) (g : Int) (rootP l) ps (turned ps t i) (i : Int)) true := by
  have h64 := check_len hc
  have hwt := Aside0.mk (show wrap64 (t : Int) = (t : Int) by unfold wrap64; omega)
  have hwg := Aside0.mk (show wrap64 (g : Int) = (g : Int) by unfold wrap64; omega)
  intro d
  induction d with
  | zero =>
    intro i hi
    obtain rfl : i = ps.length := by omega
    obtain ⟨w1, w2⟩ := whole_end hc hl h h12 t g hn
    have hk : g % ps.length < ps.length := Nat.mod_lt _ hn
    have hlen := turned_len ps t ps.length
    obtain ⟨other, ho⟩ : ∃ other, other = turned ps t ps.length := ⟨_, rfl⟩
    rw [← ho] at w1 w2 hlen ⊢
    refine Ev.now 200 fun k hk2 => ?_
    have hw3 := Aside0.mk (show wrap64 (((g % ps.length : Nat) : Int) + 1) = ((g % ps.length + 1 : Nat) : Int) from wrap_nat (by omega))
    simp only [calxlaw08_BookWhole.l1]
    rw [if_neg (by omega)]
    have e1 : book_Whole.f other (l.length : Int) (rootP l) = some (l, 0) := by unfold book_Whole.f; rw [w1]
    obtain ⟨x, hx⟩ : ∃ x, wholeP (other.take (g % ps.length) ++ other.drop (g % ps.length + 1)) (l.length : Int) (rootP l) = (x, 5) := ⟨_, Prod.ext rfl w2⟩
    have e2 : book_Whole.f (other.take (g % ps.length) ++ other.drop (g % ps.length + 1)) (l.length : Int) (rootP l) = some (x, 5) := by unfold book_Whole.f; rw [hx]
    clear w1 w2 hx
    rw [e1, Option.bind_some, hlen, if_neg (by omega), Option.bind_some, hwg.out, tmod_nat, hw3.out, if_pos (by omega), if_pos (by omega), Option.bind_some,
      if_pos (by simp only [List.length_nil, List.length_take]; omega), Option.bind_some, if_pos (by omega), if_pos (by omega), Option.bind_some, Int.toNat_natCast, Int.toNat_natCast, List.nil_append,
      if_pos (by rw [List.length_take, List.length_drop]; omega), e2, Option.bind_some]
    unfold calxlaw08_sanity.f
    rw [Option.bind_some, if_pos rfl, if_pos rfl, same_book h64 (by omega), Option.bind_some, if_pos (by simp)]
    rfl
  | succ d ih =>
    intro i hi
    have hw1 := Aside0.mk (show wrap64 ((i : Int) + (t : Int)) = ((i + t : Nat) : Int) by unfold wrap64; omega)
    have hmod : (i + t) % ps.length < ps.length := Nat.mod_lt _ hn
    refine (ih (i + 1) (by omega)).step 0 fun k _ => ?_
    simp only [calxlaw08_BookWhole.l1]
    rw [if_pos (by omega), if_neg (by omega), hwt.out, hw1.out, tmod_nat, if_pos (by omega), if_pos (by omega), if_pos (by rw [turned_len]; omega), wrap_nat (by omega)]
    congr 1
    unfold turned
    rw [List.range_succ, List.map_append]
    simp only [List.map_cons, List.map_nil]
    congr 1
theorem whole_l0 {l : List S29} (hc : checkP l = 0) (hl : 0 < l.length) {cuts : List Int} (hcl : cuts.length ≤ 11) (hcu : ∀ x ∈ cuts, 0 ≤ x ∧ x ≤ 255) {t g : Nat} (ht : t ≤ 255) (hg : g ≤ 255) :
    ∀ (d at_ : Nat) (ps : List S34), at_ + d = l.length → WInv l at_ ps → (ps.length ≤ cuts.length ∨ at_ = l.length) → ps.length ≤ 12 → Ev (fun k => calxlaw08_BookWhole.l0 k l cuts (t : Int) (g : Int) (rootP l) ps (at_ : Int) (ps.length : Int)) true := by
  have h64 := check_len hc
  intro d
  induction d using Nat.strongRecOn with
  | _ d ih =>
  intro at_ ps hd h hps h12
  by_cases hlt : at_ < l.length
  · by_cases hci : ps.length < cuts.length
    · have hcx := hcu cuts[ps.length] (List.getElem_mem _)
      obtain ⟨c, hcc⟩ : ∃ c : Nat, cuts[ps.length] = (c : Int) := ⟨cuts[ps.length].toNat, by omega⟩
      have hwc := Aside0.mk (show wrap64 (c : Int) = (c : Int) by unfold wrap64; omega)
      have hmod : c % 9 < 9 := Nat.mod_lt _ (by omega)
      have hw1 := Aside0.mk (show wrap64 (1 + ((c % 9 : Nat) : Int)) = ((1 + c % 9 : Nat) : Int) by unfold wrap64; omega)
      have hw2 := Aside0.mk (show wrap64 ((l.length : Int) - (at_ : Int)) = ((l.length - at_ : Nat) : Int) by unfold wrap64; omega)
      have hmn := Aside0.mk (show mn ((l.length - at_ : Nat) : Int) ((1 + c % 9 : Nat) : Int) = ((min (l.length - at_) (1 + c % 9) : Nat) : Int) by unfold mn; split <;> omega)
      obtain ⟨n, hn⟩ : ∃ n, n = min (l.length - at_) (1 + c % 9) := ⟨_, rfl⟩
      have hw3 := Aside0.mk (show wrap64 ((at_ : Int) + (n : Int)) = ((at_ + n : Nat) : Int) by unfold wrap64; omega)
      have hnx := h.next (n := n) (by omega) (by omega)
      have hrec := ih (d - n) (by omega) (at_ + n) _ (by omega) hnx (by rw [List.length_append, List.length_singleton]; omega) (by rw [List.length_append, List.length_singleton]; omega)
      refine hrec.step 0 fun k _ => ?_
      simp only [calxlaw08_BookWhole.l0]
      have htm : Int.tmod (c : Int) 9 = ((c % 9 : Nat) : Int) := tmod_nat (a := c) (n := 9)
      rw [if_pos (by omega), if_pos (by omega), if_pos (by omega), rd_getElem hci, hcc, hwc.out, htm, hw1.out, hw2.out, hmn.out, ← hn, hw3.out]
      simp only [Option.bind_some, List.nil_append]
      rw [if_pos (by omega), if_pos (by omega), if_pos (by omega), Int.toNat_natCast, Int.toNat_natCast, if_pos (by simp only [List.length_nil, List.length_drop, List.length_take]; omega), if_pos (by omega), wrap_nat (by omega), List.length_append, List.length_singleton]
    · have hw2 := Aside0.mk (show wrap64 ((l.length : Int) - (at_ : Int)) = ((l.length - at_ : Nat) : Int) by unfold wrap64; omega)
      have hw3 := Aside0.mk (show wrap64 ((at_ : Int) + ((l.length - at_ : Nat) : Int)) = ((at_ + (l.length - at_) : Nat) : Int) by unfold wrap64; omega)
      have hnx := h.next (n := l.length - at_) (by omega) (by omega)
      have hrec := ih 0 (by omega) (at_ + (l.length - at_)) _ (by omega) hnx (Or.inr (by omega)) (by rw [List.length_append, List.length_singleton]; omega)
      refine hrec.step 0 fun k _ => ?_
      simp only [calxlaw08_BookWhole.l0]
      rw [if_pos (by omega), if_neg (by omega), hw2.out, hw3.out]
      simp only [Option.bind_some, List.nil_append]
      rw [if_pos (by omega), if_pos (by omega), if_pos (by omega), Int.toNat_natCast, Int.toNat_natCast, if_pos (by simp only [List.length_nil, List.length_drop, List.length_take]; omega), if_pos (by omega), wrap_nat (by omega), List.length_append, List.length_singleton]
  · have he : at_ = l.length := by have := h.le; omega
    subst he
    have hn : 0 < ps.length := by
      obtain ⟨p, hp, _⟩ := h.cov 0 hl
      exact List.length_pos_of_mem hp
    have h1 := whole_l1 hc hl h h12 hn ht hg ps.length 0 (by omega)
    refine h1.step 0 fun k _ => ?_
    simp only [calxlaw08_BookWhole.l0]
    rw [if_neg (by omega)]
    rfl
theorem pureBookWhole (l : List S29) (_ : l.length ≤ 9223372036854775807) (_ : ∀ x ∈ l, Wf4 x) (cuts : List Int) (_ : cuts.length ≤ 9223372036854775807) (hcu : ∀ x ∈ cuts, (Lit.int .u8 x).wf = true) (a2 : Int) (h2 : (Lit.int .u8 a2).wf = true) (a3 : Int) (h3 : (Lit.int .u8 a3).wf = true) : ∃ k, calxlaw08_BookWhole.f k l cuts a2 a3 = some true := by
  have u8 : ∀ x : Int, (Lit.int .u8 x).wf = true → 0 ≤ x ∧ x ≤ 255 := by
    intro x hx
    have h1 : IntKind.u8.min = 0 := rfl
    have h2 : IntKind.u8.max = 255 := rfl
    simp [Lit.wf] at hx
    omega
  have b2 := u8 a2 h2
  have b3 := u8 a3 h3
  obtain ⟨t, rfl⟩ := Int.eq_ofNat_of_zero_le b2.1
  obtain ⟨g, rfl⟩ := Int.eq_ofNat_of_zero_le b3.1
  have hj : ∀ x, (x = false → 0 < l.length ∧ cuts.length ≤ 11) → Ev (fun k => calxlaw08_BookWhole.j0 k l cuts (t : Int) (g : Int) x) true := by
    intro x hx
    cases x with
    | true => exact Ev.now 0 fun k _ => rfl
    | false =>
      obtain ⟨hl, hcl⟩ := hx rfl
      by_cases hc : checkP l = 0
      · have h0 : WInv l 0 [] := ⟨by omega, fun p hp => (by cases hp), fun q hq => (by omega), List.Pairwise.nil⟩
        have h1 := whole_l0 hc hl hcl (fun x hx => u8 x (hcu x hx)) (t := t) (g := g) (by omega) (by omega) l.length 0 [] (by omega) h0 (Or.inl (by simp)) (by simp)
        refine h1.step 0 fun k _ => ?_
        simp only [calxlaw08_BookWhole.j0]
        rw [if_neg (by decide)]
        unfold book_Root.f book_Check.f book_root.f
        simp only [Option.bind_some]
        rw [if_pos hc, if_pos (check_len hc)]
        simp only [Option.bind_some, if_true]
        rfl
      · refine Ev.now 0 fun k _ => ?_
        simp only [calxlaw08_BookWhole.j0]
        rw [if_neg (by decide)]
        unfold book_Root.f book_Check.f
        simp only [Option.bind_some]
        rw [if_neg hc]
        simp only [Option.bind_some]
        rw [if_neg hc]
        rfl
  refine Ev.at_ (f := fun k => calxlaw08_BookWhole.f k l cuts (t : Int) (g : Int)) ?_
  have hf : ∃ b, calxlaw08_few.f l = some b := by unfold calxlaw08_few.f; split; exact ⟨_, rfl⟩; split <;> exact ⟨_, rfl⟩
  obtain ⟨b, hb⟩ := hf
  cases b with
  | false =>
    refine (hj true (fun h => by cases h)).same 0 fun k _ => ?_
    unfold calxlaw08_BookWhole.f
    rw [hb]; rfl
  | true =>
    by_cases h0 : l.length = 0
    · refine (hj true (fun h => by cases h)).same 0 fun k _ => ?_
      unfold calxlaw08_BookWhole.f
      rw [hb, Option.bind_some, if_pos rfl, if_pos (by omega)]
    · refine (hj (decide ((cuts.length : Int) > 11)) (fun h => ⟨by omega, by have := of_decide_eq_false h; omega⟩)).same 0 fun k _ => ?_
      unfold calxlaw08_BookWhole.f
      rw [hb, Option.bind_some, if_pos rfl, if_neg (by omega)]
end Go.Proofs.Ytmfphlfakmnbmaa.B
end

section
namespace Go.Proofs.Ytmfphlfakmnbmaa.bookWhole
open Go.ChangeShapes Go.WideShapes Go.ChangeAt Go.RowKit Go.Proofs.Ytmfphlfakmnbmaa.B
open Go.ChangeMaps (open_string shut_string)
theorem own : ownKnob Try.prog.godebug = none := by kernel_rfl
theorem laidOut : laidOutB Try.prog = true := by kernel_rfl
set_option maxRecDepth 100000 in
theorem lifted (os : Os) (started : os.Started) (H : Type) (enc : TypeId × Value → H) :
    ReturnsInHanded {} Try.checked os 11 .any (Rows.bookWholeSpec.pre6 enc Try.prog Try.f11 Rows.bookWholeRow.domain false) (Rows.bookWholeSpec.post enc Try.prog Try.f11 false true false false) := by
  refine returnsInHanded_of_change_sized (C := Try.checked) own started (by kernel_rfl) Try.func11
    (ChangeSpec.witness6 (enc := enc) (C := Try.checked) false ⟨#[], #[.slice none 0 0, .slice none 0 0, .int .u8 0, .int .u8 0], []⟩ 8 (by kernel_rfl) (by kernel_rfl) (by kernel_rfl) (by kernel_rfl)) ?_
  intro W base args ds gs before hval0 hW hcnd hsz0 _
  have hval : ∀ (j : Nat) t v, Try.f11.params[j]? = some t → args[j]? = some v → Value.okWide Try.prog W .any base t v := hval0
  have hW' := hW
  obtain ⟨p, q, hA0, hV, rfl, hfz, hnd⟩ := hW
  have hA : DataW.TrodAll enc Try.prog W 0 (fun _ => true) true Try.f11.params.toList args.toList ds p := hA0
  rw [Try.params11] at hA hval
  obtain ⟨v0, vs0, d0, ds0, p0, q0, hargs, rfl, rfl, h0, r0⟩ := trodAll_cons hA
  obtain ⟨v1, vs1, d1, ds1, p1, q1, rfl, rfl, rfl, h1, r1⟩ := trodAll_cons r0
  obtain ⟨v2, vs2, d2, ds2, p2, q2, rfl, rfl, rfl, h2, r2⟩ := trodAll_cons r1
  obtain ⟨v3, vs3, d3, ds3, p3, q3, rfl, rfl, rfl, h3, r3⟩ := trodAll_cons r2
  obtain ⟨rfl, rfl, rfl⟩ := trodAll_nil r3
  obtain rfl : args = #[v0, v1, v2, v3] := by cases args; simp_all
  obtain ⟨rfl, rfl⟩ := trodVars_none hV
  have k0 := h0
  have lt0 : ∀ x ∈ p0, x.block < W.heap.size := by obtain ⟨m, hm⟩ := k0; exact DataW.trod_lt m _ _ _ hm
  obtain ⟨a0, len0, cap0, rfl⟩ := okWide_slice Try.underlying32 (hval 0 32 v0 rfl rfl)
  obtain ⟨l0, rfl, c0, r0C, o0⟩ := arg_slice opens32 h0
  have k1 := h1
  have lt1 : ∀ x ∈ p1, x.block < W.heap.size := by obtain ⟨m, hm⟩ := k1; exact DataW.trod_lt m _ _ _ hm
  obtain ⟨a1, len1, cap1, rfl⟩ := okWide_slice Try.underlying85 (hval 1 85 v1 rfl rfl)
  obtain ⟨l1, rfl, c1, r1C, o1⟩ := arg_slice opens85 h1
  obtain ⟨a2, rfl, rfl, rfl, w2⟩ := open_int Try.underlying5 (hval 2 5 v2 rfl rfl) h2
  obtain ⟨a3, rfl, rfl, rfl, w3⟩ := open_int Try.underlying5 (hval 3 5 v3 rfl rfl) h3
  clear hA0 hval0 hsz0
  obtain ⟨k, hk⟩ := pureBookWhole l0 r0C.2.1 o0 l1 r1C.2.1 o1 a2 w2 a3 w3
  refine (calxlaw08_BookWhole.calls k _ _ l0 _ _ l1 a2 a3 true W r0C c0 r1C c1 hk).mono fun e W' ⟨he, bel⟩ => ?_
  subst he
  exact ⟨_, rfl, _, _, _, [], _, [], hW', trodAll_mk1 (shut_bool Try.underlying4 _), (trodAll_cons_mk (Below.trod laidOut (by kernel_rfl) (of_decide_eq_true (by kernel_rfl)) k0 bel lt0) (trodAll_cons_mk (Below.trod laidOut (by kernel_rfl) (of_decide_eq_true (by kernel_rfl)) k1 bel lt1) (trodAll_cons_mk (shut_int Try.underlying5 w2) (trodAll_cons_mk (shut_int Try.underlying5 w3) trodAll_mk0)))), rfl, bel.frame _, fun h => by cases h⟩
theorem over : Rows.bookWholeRow.holds Try.pinned (OpenSpec.ofChange Rows.bookWholeSpec) :=
  OpenClaim.holds_of_wide 11 Try.f11 rfl rfl rfl rfl rfl rfl rfl ⟨rfl, rfl, rfl, rfl, rfl⟩ rfl rfl rfl rfl rfl (by kernel_rfl) Try.func11 (by kernel_rfl)
    (of_decide_eq_true (by kernel_rfl)) (by unfold Func.isWrapper; first | (rw [if_pos (by decide +kernel)]; kernel_rfl) | (rw [if_neg (by decide +kernel)]; exact ⟨rfl, rfl⟩))
    (fun os started H enc _ => lifted os started H enc)
theorem proved : Rows.BookWholeSaid := over
end Go.Proofs.Ytmfphlfakmnbmaa.bookWhole
namespace Go.Proofs.Ytmfphlfakmnbmaa
theorem bookWhole_holds : Rows.BookWholeSaid := bookWhole.proved
end Go.Proofs.Ytmfphlfakmnbmaa
end
