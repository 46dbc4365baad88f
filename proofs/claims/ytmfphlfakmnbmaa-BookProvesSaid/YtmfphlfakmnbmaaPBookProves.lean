/- Proved: for every book and every two indices the law BookProves returns true and leaves its arguments as they were. Conditions: none. -/
import Derived.WalkKit
import Derived.ProofKit
import Derived.OpenShut
import Derived.ShutString
import Derived.ChangeOld
import Derived.Below
import Derived.SizedLaws
import Derived.Test.YtmfphlfakmnbmaaRows
import Derived.Test.YtmfphlfakmnbmaaQ1
import Derived.Test.YtmfphlfakmnbmaaQ2
import Derived.Test.YtmfphlfakmnbmaaQ3
import Derived.Test.YtmfphlfakmnbmaaQ4
import Derived.Test.YtmfphlfakmnbmaaQ5
import Derived.Test.YtmfphlfakmnbmaaQ6
set_option linter.unusedVariables false
set_option linter.unusedSimpArgs false
section
namespace Go.Proofs.Ytmfphlfakmnbmaa.B
open Go.RowKit Go.Proofs.YtmfphlfakmnbmaaW.PrintWords Go.Proofs.YtmfphlfakmnbmaaW.PrintLast Go.Proofs.YtmfphlfakmnbmaaW.PrintMore
attribute [local go_sem] max2_int min2_int max_two min_two max_three min_three max_four min_four
mutual
def calxlaw08_BookProves.j0 : Nat → List (S29) → Int → Int → Bool → Option (Bool)
  | 0, _, _, _, _ => none
  | k + 1, x0, x1, x2, x23 => if x23 = true then ((calxlaw08_sanity.f).bind fun t102 => (some t102)) else ((book_Root.f x0).bind fun bt103 => (if bt103.2 = 0 then (if (x0.length : Int) = 0 then (none) else ((book_Stands.f k x0 (Int.tmod (wrap64 (x1)) (x0.length : Int))).bind fun bt106 => (if 0 ≤ (Int.tmod (wrap64 (x1)) (x0.length : Int)) then (if (Int.tmod (wrap64 (x1)) (x0.length : Int)) < (x0.length : Int) then ((book_Gap.f x0 (Int.tmod (wrap64 (x1)) (x0.length : Int)) ((rd_T29 x0 (Int.tmod (wrap64 (x1)) (x0.length : Int))).f0) ((rd_T29 x0 (Int.tmod (wrap64 (x1)) (x0.length : Int))).f1) ((rd_T29 x0 (Int.tmod (wrap64 (x1)) (x0.length : Int))).f2) ((rd_T29 x0 (Int.tmod (wrap64 (x1)) (x0.length : Int))).f3) bt106.1).bind fun bt111 => (if bt106.2 = 0 then (if bt111.2.2.2 = 0 then (if bt111.2.2.1 = true then (calxlaw08_BookProves.j1 k x0 bt103.1 (Int.tmod (wrap64 (x1)) (x0.length : Int)) (Int.tmod (wrap64 (x2)) (x0.length : Int)) bt106.1 true) else ((book_CheckStands.f k bt103.1 (x0.length : Int) (Int.tmod (wrap64 (x1)) (x0.length : Int)) ((rd_T29 x0 (Int.tmod (wrap64 (x1)) (x0.length : Int))).f0) ((rd_T29 x0 (Int.tmod (wrap64 (x1)) (x0.length : Int))).f1) ((rd_T29 x0 (Int.tmod (wrap64 (x1)) (x0.length : Int))).f2) ((rd_T29 x0 (Int.tmod (wrap64 (x1)) (x0.length : Int))).f3) bt106.1).bind fun t121 => (calxlaw08_BookProves.j1 k x0 bt103.1 (Int.tmod (wrap64 (x1)) (x0.length : Int)) (Int.tmod (wrap64 (x2)) (x0.length : Int)) bt106.1 (t121 != 0)))) else (calxlaw08_BookProves.j1 k x0 bt103.1 (Int.tmod (wrap64 (x1)) (x0.length : Int)) (Int.tmod (wrap64 (x2)) (x0.length : Int)) bt106.1 true)) else (calxlaw08_BookProves.j1 k x0 bt103.1 (Int.tmod (wrap64 (x1)) (x0.length : Int)) (Int.tmod (wrap64 (x2)) (x0.length : Int)) bt106.1 true))) else (none)) else (none)))) else ((calxlaw08_sanity.f).bind fun t105 => (some t105))))
def calxlaw08_BookProves.j1 : Nat → List (S29) → Int → Int → Int → List (S129) → Bool → Option (Bool)
  | 0, _, _, _, _, _, _ => none
  | k + 1, x0, x7, x9, x10, x11, x82 => if x82 = true then (some false) else ((calxlaw08_sanity.f).bind fun t122 => (if t122 = true then (if 0 ≤ x9 then (if x9 < (x0.length : Int) then ((calxlaw08_shown.f k x0 x7 x10 ((rd_T29 x0 x9).f0) ((rd_T29 x0 x9).f1) ((rd_T29 x0 x9).f2) ((rd_T29 x0 x9).f3) x11).bind fun t124 => (some t124)) else (none)) else (none)) else (some false)))
end
def calxlaw08_BookProves.f (k : Nat) (l0 : List (S29)) (a1 : Int) (a2 : Int) : Option (Bool) := (calxlaw08_few.f l0).bind fun t101 => (if t101 = true then (calxlaw08_BookProves.j0 k l0 a1 a2 ((l0.length : Int) == 0)) else (calxlaw08_BookProves.j0 k l0 a1 a2 true))
set_option maxHeartbeats 8000000 in
set_option maxRecDepth 100000 in
theorem calxlaw08_BookProves.calls (k : Nat) (A0 : Option Addr) (c0 : Nat) (l0 : List (S29)) (a1 : Int) (a2 : Int) (r : Bool) (w : World) (hr0 : Kd.C k29 w A0 l0.length l0) (hc0 : l0.length ≤ c0) (h : calxlaw08_BookProves.f k l0 a1 a2 = some r) :
    Calls Try.prog 19 #[.slice A0 l0.length c0, .int .u8 a1, .int .u8 a2] w fun e w' => e = .returned (.bool r) ∧ Below w.heap.size w w' := by
  have hu29 := Try.underlying29
  have hu67 := Try.underlying67
  have HR0 := Aside0.mk hr0
  have HC0 := Aside0.mk hc0
  clear hr0 hc0
  have HB := Aside0.mk (Below.refl w.heap.size w)
  have H : ((calxlaw08_few.f l0).bind fun t101 => (if t101 = true then (calxlaw08_BookProves.j0 k l0 a1 a2 ((l0.length : Int) == 0)) else (calxlaw08_BookProves.j0 k l0 a1 a2 true))) = some r := h
  clear h
  have HC4 := Aside0.mk H
  clear H
  go_enter Try.func19, Try.ntmps19
  go_upto_region 1 with (fail)
  go_cut [23] (fun v23 wc => ∃ (kq : Nat) (x23_3 : Bool), v23 = .bool x23_3 ∧ Aside0 (calxlaw08_BookProves.j0 kq l0 a1 a2 x23_3 = some r) ∧ Aside0 (kq ≤ k) ∧ Aside0 (Below w.heap.size w wc))
  case first =>
    have H := HC4.out
    clear HC4
    replace H := Option.bind_eq_some_iff.mp H
    obtain ⟨t101, A50, H⟩ := H
    replace H : (if t101 = true then (calxlaw08_BookProves.j0 k l0 a1 a2 ((l0.length : Int) == 0)) else (calxlaw08_BookProves.j0 k l0 a1 a2 true)) = some r := H
    have A5 := Aside0.mk A50
    clear A50
    by_cases c6 : t101 = true
    · subst c6
      have H1 : (calxlaw08_BookProves.j0 k l0 a1 a2 ((l0.length : Int) == 0)) = some r := by rw [if_pos rfl] at H; exact H
      clear H
      have H := H1
      clear H1
      have H' := Aside0.mk H
      clear H
      go_wp2_with (first | ((with_reducible refine gate_callee (f := 27) rfl ?_); refine goesL_ (some 17) rfl rfl Try.func27 (by kernel_rfl) rfl #[.slice A0 l0.length c0] rfl (by (try simp only [List.map_toArray, List.map_cons, List.map_nil]); first | done | rfl | (simp only [List.length_drop, List.length_take]; rfl)) ?_; (with_reducible refine (calxlaw08_few.calls _ _ l0 true _ ?side1 ?side2 A5.out).mono ?_); (case side1 => repeat (first | exact (Kd.C_below HR0.out HB.out) | (with_reducible refine Kd.C_alloc ?_ _) | (with_reducible refine Kd.C_drewN ?_ _) | (with_reducible refine Kd.C_drew ?_))); (case side2 => exact HC0.out); rintro e w' ⟨rfl, ⟨nd, rfl⟩⟩; refine ⟨_, rfl, ?_⟩))
      go_meet
      case rel => exact ⟨_, (((l0.length : Int) == 0)), (by first | rfl | (simp; done) | (simp [*]; done)), H', ⟨by first | omega | exact Nat.le_refl _⟩, ⟨by repeat (first | (with_reducible first | exact HB.out | apply below_alloc | apply pw_below_drewN | apply below_drew1) | exact HB.out)⟩⟩
    · replace c6 := Bool.eq_false_iff.mpr c6
      subst c6
      have H1 : (calxlaw08_BookProves.j0 k l0 a1 a2 true) = some r := by rw [if_neg (show ¬ (false = true) by decide)] at H; exact H
      clear H
      have H := H1
      clear H1
      have H' := Aside0.mk H
      clear H
      go_wp2_with (first | ((with_reducible refine gate_callee (f := 27) rfl ?_); refine goesL_ (some 17) rfl rfl Try.func27 (by kernel_rfl) rfl #[.slice A0 l0.length c0] rfl (by (try simp only [List.map_toArray, List.map_cons, List.map_nil]); first | done | rfl | (simp only [List.length_drop, List.length_take]; rfl)) ?_; (with_reducible refine (calxlaw08_few.calls _ _ l0 false _ ?side1 ?side2 A5.out).mono ?_); (case side1 => repeat (first | exact (Kd.C_below HR0.out HB.out) | (with_reducible refine Kd.C_alloc ?_ _) | (with_reducible refine Kd.C_drewN ?_ _) | (with_reducible refine Kd.C_drew ?_))); (case side2 => exact HC0.out); rintro e w' ⟨rfl, ⟨nd, rfl⟩⟩; refine ⟨_, rfl, ?_⟩))
      go_meet
      case rel => exact ⟨_, (true), (by first | rfl | (simp; done) | (simp [*]; done)), H', ⟨by first | omega | exact Nat.le_refl _⟩, ⟨by repeat (first | (with_reducible first | exact HB.out | apply below_alloc | apply pw_below_drewN | apply below_drew1) | exact HB.out)⟩⟩
  case rest =>
    clear HC4
    try clear c1
    try clear c2
    try clear p2
    try clear c6
    obtain ⟨kq, x23_3, rfl, HA, HJ3, HB⟩ := hcut
    cases kq with
    | zero => exact absurd HA.out (by simp [calxlaw08_BookProves.j0])
    | succ kj3 =>
      have H := HA.out
      clear HA
      simp only [calxlaw08_BookProves.j0] at H
      by_cases c7 : x23_3 = true
      · subst c7
        have H1 : ((calxlaw08_sanity.f).bind fun t102 => (some t102)) = some r := by rw [if_pos rfl] at H; exact H
        clear H
        have H := H1
        clear H1
        replace H := Option.bind_eq_some_iff.mp H
        obtain ⟨t102, A80, H⟩ := H
        replace H : (some t102) = some r := H
        have A8 := Aside0.mk A80
        clear A80
        obtain rfl := Option.some.inj H
        go_wp2_with (first | ((with_reducible refine gate_callee (f := 22) rfl ?_); refine goesL_ (some 24) rfl rfl Try.func22 (by kernel_rfl) rfl #[] rfl (by (try simp only [List.map_toArray, List.map_cons, List.map_nil]); first | done | rfl | (simp only [List.length_drop, List.length_take]; rfl)) ?_; (with_reducible refine (calxlaw08_sanity.calls  t102 _ A8.out).mono ?_); rintro e w9 ⟨rfl, hb⟩; refine ⟨_, rfl, ?_⟩; have n0_ := Aside0.mk (below_step (by repeat (first | (with_reducible first | exact HB.out | apply below_alloc | apply pw_below_drewN | apply below_drew1) | exact HB.out)) hb); clear HB; have HB := n0_; clear n0_; (try clear hb); (try clear hb2); (try clear hk); (try clear hi)))
        go_ret
        exact ⟨by first | rfl | (simp [errW_none, errW_some] <;> rfl) | (simp [*, errW_none, errW_some] <;> rfl), by repeat (first | (with_reducible first | exact HB.out | apply below_alloc | apply pw_below_drewN | apply below_drew1) | exact HB.out)⟩
      · replace c7 := Bool.eq_false_iff.mpr c7
        subst c7
        have H1 : ((book_Root.f l0).bind fun bt103 => (if bt103.2 = 0 then (if (l0.length : Int) = 0 then (none) else ((book_Stands.f kj3 l0 (Int.tmod (wrap64 (a1)) (l0.length : Int))).bind fun bt106 => (if 0 ≤ (Int.tmod (wrap64 (a1)) (l0.length : Int)) then (if (Int.tmod (wrap64 (a1)) (l0.length : Int)) < (l0.length : Int) then ((book_Gap.f l0 (Int.tmod (wrap64 (a1)) (l0.length : Int)) ((rd_T29 l0 (Int.tmod (wrap64 (a1)) (l0.length : Int))).f0) ((rd_T29 l0 (Int.tmod (wrap64 (a1)) (l0.length : Int))).f1) ((rd_T29 l0 (Int.tmod (wrap64 (a1)) (l0.length : Int))).f2) ((rd_T29 l0 (Int.tmod (wrap64 (a1)) (l0.length : Int))).f3) bt106.1).bind fun bt111 => (if bt106.2 = 0 then (if bt111.2.2.2 = 0 then (if bt111.2.2.1 = true then (calxlaw08_BookProves.j1 kj3 l0 bt103.1 (Int.tmod (wrap64 (a1)) (l0.length : Int)) (Int.tmod (wrap64 (a2)) (l0.length : Int)) bt106.1 true) else ((book_CheckStands.f kj3 bt103.1 (l0.length : Int) (Int.tmod (wrap64 (a1)) (l0.length : Int)) ((rd_T29 l0 (Int.tmod (wrap64 (a1)) (l0.length : Int))).f0) ((rd_T29 l0 (Int.tmod (wrap64 (a1)) (l0.length : Int))).f1) ((rd_T29 l0 (Int.tmod (wrap64 (a1)) (l0.length : Int))).f2) ((rd_T29 l0 (Int.tmod (wrap64 (a1)) (l0.length : Int))).f3) bt106.1).bind fun t121 => (calxlaw08_BookProves.j1 kj3 l0 bt103.1 (Int.tmod (wrap64 (a1)) (l0.length : Int)) (Int.tmod (wrap64 (a2)) (l0.length : Int)) bt106.1 (t121 != 0)))) else (calxlaw08_BookProves.j1 kj3 l0 bt103.1 (Int.tmod (wrap64 (a1)) (l0.length : Int)) (Int.tmod (wrap64 (a2)) (l0.length : Int)) bt106.1 true)) else (calxlaw08_BookProves.j1 kj3 l0 bt103.1 (Int.tmod (wrap64 (a1)) (l0.length : Int)) (Int.tmod (wrap64 (a2)) (l0.length : Int)) bt106.1 true))) else (none)) else (none)))) else ((calxlaw08_sanity.f).bind fun t105 => (some t105)))) = some r := by rw [if_neg (show ¬ (false = true) by decide)] at H; exact H
        clear H
        have H := H1
        clear H1
        replace H := Option.bind_eq_some_iff.mp H
        obtain ⟨⟨t103, t104⟩, A100, H⟩ := H
        replace H : (if t104 = 0 then (if (l0.length : Int) = 0 then (none) else ((book_Stands.f kj3 l0 (Int.tmod (wrap64 (a1)) (l0.length : Int))).bind fun bt106 => (if 0 ≤ (Int.tmod (wrap64 (a1)) (l0.length : Int)) then (if (Int.tmod (wrap64 (a1)) (l0.length : Int)) < (l0.length : Int) then ((book_Gap.f l0 (Int.tmod (wrap64 (a1)) (l0.length : Int)) ((rd_T29 l0 (Int.tmod (wrap64 (a1)) (l0.length : Int))).f0) ((rd_T29 l0 (Int.tmod (wrap64 (a1)) (l0.length : Int))).f1) ((rd_T29 l0 (Int.tmod (wrap64 (a1)) (l0.length : Int))).f2) ((rd_T29 l0 (Int.tmod (wrap64 (a1)) (l0.length : Int))).f3) bt106.1).bind fun bt111 => (if bt106.2 = 0 then (if bt111.2.2.2 = 0 then (if bt111.2.2.1 = true then (calxlaw08_BookProves.j1 kj3 l0 t103 (Int.tmod (wrap64 (a1)) (l0.length : Int)) (Int.tmod (wrap64 (a2)) (l0.length : Int)) bt106.1 true) else ((book_CheckStands.f kj3 t103 (l0.length : Int) (Int.tmod (wrap64 (a1)) (l0.length : Int)) ((rd_T29 l0 (Int.tmod (wrap64 (a1)) (l0.length : Int))).f0) ((rd_T29 l0 (Int.tmod (wrap64 (a1)) (l0.length : Int))).f1) ((rd_T29 l0 (Int.tmod (wrap64 (a1)) (l0.length : Int))).f2) ((rd_T29 l0 (Int.tmod (wrap64 (a1)) (l0.length : Int))).f3) bt106.1).bind fun t121 => (calxlaw08_BookProves.j1 kj3 l0 t103 (Int.tmod (wrap64 (a1)) (l0.length : Int)) (Int.tmod (wrap64 (a2)) (l0.length : Int)) bt106.1 (t121 != 0)))) else (calxlaw08_BookProves.j1 kj3 l0 t103 (Int.tmod (wrap64 (a1)) (l0.length : Int)) (Int.tmod (wrap64 (a2)) (l0.length : Int)) bt106.1 true)) else (calxlaw08_BookProves.j1 kj3 l0 t103 (Int.tmod (wrap64 (a1)) (l0.length : Int)) (Int.tmod (wrap64 (a2)) (l0.length : Int)) bt106.1 true))) else (none)) else (none)))) else ((calxlaw08_sanity.f).bind fun t105 => (some t105))) = some r := H
        have A10 := Aside0.mk A100
        clear A100
        by_cases c11 : t104 = 0
        · rw [if_pos c11] at H
          have c11b0 : (t104 == 0) = true := beq_iff_eq.mpr c11
          have c11b1 : (t104 != 0) = false := bne_eq_false_iff_eq.mpr c11
          clear c11
          by_cases c12 : (l0.length : Int) = 0
          · rw [if_pos c12] at H
            exact absurd H (by simp)
          · rw [if_neg c12] at H
            have c12b0 : ((l0.length : Int) == 0) = false := beq_eq_false_iff_ne.mpr c12
            have c12b1 : ((l0.length : Int) != 0) = true := bne_iff_ne.mpr c12
            have c12b2 : ¬ (l0 = []) := fun h_ => c12 (by rw [h_]; rfl)
            replace H := Option.bind_eq_some_iff.mp H
            obtain ⟨⟨t106, t107⟩, A130, H⟩ := H
            replace H : (if 0 ≤ (Int.tmod (wrap64 (a1)) (l0.length : Int)) then (if (Int.tmod (wrap64 (a1)) (l0.length : Int)) < (l0.length : Int) then ((book_Gap.f l0 (Int.tmod (wrap64 (a1)) (l0.length : Int)) ((rd_T29 l0 (Int.tmod (wrap64 (a1)) (l0.length : Int))).f0) ((rd_T29 l0 (Int.tmod (wrap64 (a1)) (l0.length : Int))).f1) ((rd_T29 l0 (Int.tmod (wrap64 (a1)) (l0.length : Int))).f2) ((rd_T29 l0 (Int.tmod (wrap64 (a1)) (l0.length : Int))).f3) t106).bind fun bt111 => (if t107 = 0 then (if bt111.2.2.2 = 0 then (if bt111.2.2.1 = true then (calxlaw08_BookProves.j1 kj3 l0 t103 (Int.tmod (wrap64 (a1)) (l0.length : Int)) (Int.tmod (wrap64 (a2)) (l0.length : Int)) t106 true) else ((book_CheckStands.f kj3 t103 (l0.length : Int) (Int.tmod (wrap64 (a1)) (l0.length : Int)) ((rd_T29 l0 (Int.tmod (wrap64 (a1)) (l0.length : Int))).f0) ((rd_T29 l0 (Int.tmod (wrap64 (a1)) (l0.length : Int))).f1) ((rd_T29 l0 (Int.tmod (wrap64 (a1)) (l0.length : Int))).f2) ((rd_T29 l0 (Int.tmod (wrap64 (a1)) (l0.length : Int))).f3) t106).bind fun t121 => (calxlaw08_BookProves.j1 kj3 l0 t103 (Int.tmod (wrap64 (a1)) (l0.length : Int)) (Int.tmod (wrap64 (a2)) (l0.length : Int)) t106 (t121 != 0)))) else (calxlaw08_BookProves.j1 kj3 l0 t103 (Int.tmod (wrap64 (a1)) (l0.length : Int)) (Int.tmod (wrap64 (a2)) (l0.length : Int)) t106 true)) else (calxlaw08_BookProves.j1 kj3 l0 t103 (Int.tmod (wrap64 (a1)) (l0.length : Int)) (Int.tmod (wrap64 (a2)) (l0.length : Int)) t106 true))) else (none)) else (none)) = some r := H
            have A13 := Aside0.mk A130
            clear A130
            obtain ⟨ji14, hji14⟩ : ∃ j_ : Int, (Int.tmod (wrap64 (a1)) (l0.length : Int)) = j_ := ⟨_, rfl⟩
            replace H : (if 0 ≤ (ji14) then (if (ji14) < (l0.length : Int) then ((book_Gap.f l0 (ji14) ((rd_T29 l0 (ji14)).f0) ((rd_T29 l0 (ji14)).f1) ((rd_T29 l0 (ji14)).f2) ((rd_T29 l0 (ji14)).f3) t106).bind fun bt111 => (if t107 = 0 then (if bt111.2.2.2 = 0 then (if bt111.2.2.1 = true then (calxlaw08_BookProves.j1 kj3 l0 t103 ji14 (Int.tmod (wrap64 (a2)) (l0.length : Int)) t106 true) else ((book_CheckStands.f kj3 t103 (l0.length : Int) (ji14) ((rd_T29 l0 (ji14)).f0) ((rd_T29 l0 (ji14)).f1) ((rd_T29 l0 (ji14)).f2) ((rd_T29 l0 (ji14)).f3) t106).bind fun t121 => (calxlaw08_BookProves.j1 kj3 l0 t103 ji14 (Int.tmod (wrap64 (a2)) (l0.length : Int)) t106 (t121 != 0)))) else (calxlaw08_BookProves.j1 kj3 l0 t103 ji14 (Int.tmod (wrap64 (a2)) (l0.length : Int)) t106 true)) else (calxlaw08_BookProves.j1 kj3 l0 t103 ji14 (Int.tmod (wrap64 (a2)) (l0.length : Int)) t106 true))) else (none)) else (none)) = some r := by first | (rw [hji14] at H; exact H) | (simp only [hji14] at H ⊢; exact H)
            (try rw [hji14] at A10)
            (try rw [hji14] at A13)
            by_cases c15 : 0 ≤ (ji14)
            · rw [if_pos c15] at H
              have c15b0 : decide (0 ≤ (ji14)) = true := decide_eq_true c15
              clear c15
              by_cases c16 : (ji14) < (l0.length : Int)
              · rw [if_pos c16] at H
                have c16b0 : decide ((ji14) < (l0.length : Int)) = true := decide_eq_true c16
                clear c16
                replace H := Option.bind_eq_some_iff.mp H
                obtain ⟨⟨t111, t114, t117, t118⟩, A170, H⟩ := H
                replace H : (if t107 = 0 then (if t118 = 0 then (if t117 = true then (calxlaw08_BookProves.j1 kj3 l0 t103 ji14 (Int.tmod (wrap64 (a2)) (l0.length : Int)) t106 true) else ((book_CheckStands.f kj3 t103 (l0.length : Int) (ji14) ((rd_T29 l0 (ji14)).f0) ((rd_T29 l0 (ji14)).f1) ((rd_T29 l0 (ji14)).f2) ((rd_T29 l0 (ji14)).f3) t106).bind fun t121 => (calxlaw08_BookProves.j1 kj3 l0 t103 ji14 (Int.tmod (wrap64 (a2)) (l0.length : Int)) t106 (t121 != 0)))) else (calxlaw08_BookProves.j1 kj3 l0 t103 ji14 (Int.tmod (wrap64 (a2)) (l0.length : Int)) t106 true)) else (calxlaw08_BookProves.j1 kj3 l0 t103 ji14 (Int.tmod (wrap64 (a2)) (l0.length : Int)) t106 true)) = some r := H
                have A17 := Aside0.mk A170
                clear A170
                have HC18 := Aside0.mk H
                clear H
                go_upto_region 10 with (first | ((with_reducible refine gate_callee (f := 32) rfl ?_); refine goesL_ (some 27) rfl rfl Try.func32 (by kernel_rfl) rfl #[.slice A0 l0.length c0] rfl (by (try simp only [List.map_toArray, List.map_cons, List.map_nil]); first | done | rfl | (simp only [List.length_drop, List.length_take]; rfl)) ?_; (with_reducible refine (book_Root.calls _ _ l0 t103 t104 _ ?side1 ?side2 A10.out).mono ?_); (case side1 => repeat (first | exact (Kd.C_below HR0.out HB.out) | (with_reducible refine Kd.C_alloc ?_ _) | (with_reducible refine Kd.C_drewN ?_ _) | (with_reducible refine Kd.C_drew ?_))); (case side2 => exact HC0.out); rintro e w19 ⟨rfl, hb⟩; refine ⟨_, rfl, ?_⟩; have n0_ := Aside0.mk (below_step (by repeat (first | (with_reducible first | exact HB.out | apply below_alloc | apply pw_below_drewN | apply below_drew1) | exact HB.out)) hb); clear HB; have HB := n0_; clear n0_; (try clear hb); (try clear hb2); (try clear hk); (try clear hi)) | ((with_reducible refine gate_callee (f := 53) rfl ?_); refine goesL_ (some 46) rfl rfl Try.func53 (by kernel_rfl) rfl #[.slice A0 l0.length c0, .int .i64 ji14] rfl (by (try simp only [List.map_toArray, List.map_cons, List.map_nil]); first | done | (simp only [hji14]; rfl) | rfl | (simp only [List.length_drop, List.length_take]; rfl)) ?_; (with_reducible refine (book_Stands.calls kj3 _ _ l0 ji14 t106 t107 _ ?side1 ?side2 A13.out).mono ?_); (case side1 => repeat (first | exact (Kd.C_below HR0.out HB.out) | (with_reducible refine Kd.C_alloc ?_ _) | (with_reducible refine Kd.C_drewN ?_ _) | (with_reducible refine Kd.C_drew ?_))); (case side2 => exact HC0.out); rintro e w20 ⟨v108, rfl, ho0, hb⟩; refine ⟨_, rfl, ?_⟩; have n0_ := Aside0.mk (Kd.R_lower ho0 (below_size (by repeat (first | (with_reducible first | exact HB.out | apply below_alloc | apply pw_below_drewN | apply below_drew1) | exact HB.out)))); have n1_ := Aside0.mk (below_step (by repeat (first | (with_reducible first | exact HB.out | apply below_alloc | apply pw_below_drewN | apply below_drew1) | exact HB.out)) hb); clear HB; have HO109 := n0_; have HB := n1_; clear n0_ n1_; (try clear hb); (try clear hb2); (try clear hk); (try clear hi); (try clear ho0); have p110 : 0 ≤ ((ji14) : Int) := of_decide_eq_true (by first | (with_reducible assumption) | assumption); have q110 : (ji14) < (l0.length : Int) := of_decide_eq_true (by first | (with_reducible assumption) | assumption); obtain ⟨ad110, e110, hx110_0, hx110_1, hx110_2, hx110_3⟩ := at_T29 HR0.out (ji14) p110 q110; cases e110; replace hx110_0 := (HB.out.cell (World.block_lt_of_cell? w _ hx110_0)).trans hx110_0; replace hx110_1 := (HB.out.cell (World.block_lt_of_cell? w _ hx110_1)).trans hx110_1; replace hx110_2 := (HB.out.cell (World.block_lt_of_cell? w _ hx110_2)).trans hx110_2; replace hx110_3 := (HB.out.cell (World.block_lt_of_cell? w _ hx110_3)).trans hx110_3; replace p110 := eq_true p110; replace q110 := eq_true q110; obtain ⟨Ao21, co21, eo21⟩ := Kd.R_slice HO109.out; subst eo21) | ((with_reducible refine gate_callee (f := 76) rfl ?_); refine goesL_ (some 57) rfl rfl Try.func76 (by kernel_rfl) rfl #[.slice (some ad110) l0.length c0, .int .i64 ji14, .agg #[.int .i64 ((rd_T29 l0 (ji14)).f0), .int .i64 ((rd_T29 l0 (ji14)).f1), .int .i64 ((rd_T29 l0 (ji14)).f2), .int .i64 ((rd_T29 l0 (ji14)).f3)], .slice Ao21 t106.length co21] rfl (by (try simp only [List.map_toArray, List.map_cons, List.map_nil]); first | done | (simp only [hji14]; rfl) | rfl | (simp only [List.length_drop, List.length_take]; rfl)) ?_; (with_reducible refine (book_Gap.calls _ _ l0 ji14 ((rd_T29 l0 (ji14)).f0) ((rd_T29 l0 (ji14)).f1) ((rd_T29 l0 (ji14)).f2) ((rd_T29 l0 (ji14)).f3) _ _ t106 t111 t114 t117 t118 _ ?side1 ?side2 ?side3 ?side4 A17.out).mono ?_); (case side1 => repeat (first | exact (Kd.C_below HR0.out HB.out) | (with_reducible refine Kd.C_alloc ?_ _) | (with_reducible refine Kd.C_drewN ?_ _) | (with_reducible refine Kd.C_drew ?_))); (case side2 => exact HC0.out); (case side3 => repeat (first | exact (Kd.R_reads' HO109.out).2.2 | (with_reducible refine Kd.C_alloc ?_ _) | (with_reducible refine Kd.C_drewN ?_ _) | (with_reducible refine Kd.C_drew ?_))); (case side4 => exact (Kd.R_reads' HO109.out).2.1); rintro e w22 ⟨v112, v115, rfl, ho0, ho1, hb⟩; refine ⟨_, rfl, ?_⟩; have n0_ := Aside0.mk (Kd.R_below (by (with_reducible repeat (first | apply Kd.R_alloc | apply Kd.R_drewN | apply Kd.R_drew)); exact HO109.out) hb); have n1_ := Aside0.mk (Kd.V_lower (Kd.V_mono (ok' := fun k_ => some k_ ≠ (.slice Ao21 t106.length co21 : Value).ownBlock) ho0 (fun k_ hk_ => (Kd.fresh' (Kd.R_lt (by (with_reducible repeat (first | apply Kd.R_alloc | apply Kd.R_drewN | apply Kd.R_drew)); exact HO109.out)) k_ hk_))) (below_size (by repeat (first | (with_reducible first | exact HB.out | apply below_alloc | apply pw_below_drewN | apply below_drew1) | exact HB.out)))); have n2_ := Aside0.mk (Kd.V_lower (Kd.V_mono (ok' := fun k_ => some k_ ≠ (.slice Ao21 t106.length co21 : Value).ownBlock) ho1 (fun k_ hk_ => (Kd.fresh' (Kd.R_lt (by (with_reducible repeat (first | apply Kd.R_alloc | apply Kd.R_drewN | apply Kd.R_drew)); exact HO109.out)) k_ hk_))) (below_size (by repeat (first | (with_reducible first | exact HB.out | apply below_alloc | apply pw_below_drewN | apply below_drew1) | exact HB.out)))); have n3_ := Aside0.mk (below_step (by repeat (first | (with_reducible first | exact HB.out | apply below_alloc | apply pw_below_drewN | apply below_drew1) | exact HB.out)) hb); clear HO109; clear HB; have HO109 := n0_; have HO113 := n1_; have HO116 := n2_; have HB := n3_; clear n0_ n1_ n2_ n3_; (try clear hb); (try clear hb2); (try clear hk); (try clear hi); (try clear ho0); (try clear ho1)) | ((with_reducible refine gate_dst (N := 13) rfl ?_); (try (refine gate_guard (by rfl) ?_; dsimp only)); refine box_event ?hg (N := 13) ?hd (cs := #[.slice none 0 0, .slice none 0 0]) (t := 67) ?hr ?_; (case hd => rfl); (case hg => rfl); (case hr => first | (go_simp; done) | (go_simp; rfl)); intro gb119 hg w23 hbox hb; have n0_ := Aside0.mk (Kd.R_below (by (with_reducible repeat (first | apply Kd.R_alloc | apply Kd.R_drewN | apply Kd.R_drew)); exact HO109.out) hb); have n1_ := Aside0.mk (Kd.V_below (Kd.V_elderB (by (with_reducible repeat (first | apply Kd.V_alloc | apply Kd.V_drewN | apply Kd.V_drew)); exact HO113.out) gb119 (Nat.le_of_eq hg.symm)) hb); have n2_ := Aside0.mk (Kd.V_below (Kd.V_elderB (by (with_reducible repeat (first | apply Kd.V_alloc | apply Kd.V_drewN | apply Kd.V_drew)); exact HO116.out) gb119 (Nat.le_of_eq hg.symm)) hb); have n3_ := Aside0.mk (below_step (by repeat (first | (with_reducible first | exact HB.out | apply below_alloc | apply pw_below_drewN | apply below_drew1) | exact HB.out)) hb); have n4_ := Aside0.mk (hbox); have n5_ := Aside0.mk ((by rw [hg]; exact (below_size (by repeat (first | (with_reducible first | exact HB.out | apply below_alloc | apply pw_below_drewN | apply below_drew1) | exact HB.out))) : w.heap.size ≤ gb119)); have n6_ := Aside0.mk ((by rw [hg]; exact (below_size (by repeat (first | (with_reducible first | exact HB.out | apply below_alloc | apply pw_below_drewN | apply below_drew1) | exact HB.out))) : w.heap.size ≤ gb119)); clear HO109; clear HO113; clear HO116; clear HB; have HO109 := n0_; have HO113 := n1_; have HO116 := n2_; have HB := n3_; have BK119 := n4_; have GW119 := n5_; have GE119 := n6_; clear n0_ n1_ n2_ n3_ n4_ n5_ n6_; clear hb hbox hg; obtain ⟨Ao24, co24, eo24⟩ := Kd.V_slice HO113.out; subst eo24; have hcz25_0 : w23.cell? ⟨gb119, 0, none⟩ = some (.slice none 0 0) := (blk_cell BK119.out 0).trans rfl; have hcz25_1 : w23.cell? ⟨gb119, 1, none⟩ = some (.slice none 0 0) := (blk_cell BK119.out 1).trans rfl; have hfz25_0 := blk_frozen BK119.out 0; have hfz25_1 := blk_frozen BK119.out 1; obtain ⟨Ao26, co26, eo26⟩ := Kd.V_slice HO116.out; subst eo26))
                (try simp only [Act.put, List.setIfInBounds_toArray, List.set_cons_zero, List.set_cons_succ])
                go_cut [82] (fun v82 wc => ∃ (kq : Nat) (x82_17 : Bool), v82 = .bool x82_17 ∧ Aside0 (calxlaw08_BookProves.j1 kq l0 t103 ji14 (Int.tmod (wrap64 (a2)) (l0.length : Int)) t106 x82_17 = some r) ∧ Aside0 (kq ≤ kj3) ∧ Aside0 (Kd.R k129 129 wc w.heap.size (fun _ => True) (.slice Ao21 t106.length co21) t106) ∧ Aside0 (Kd.V (Kd.int .i64) 3 wc w.heap.size (fun k_ => some k_ ≠ ((.slice Ao21 t106.length co21) : Value).ownBlock ∧ k_ ≠ gb119) (.slice Ao24 t111.length co24) t111) ∧ Aside0 (Kd.V (Kd.int .i64) 3 wc w.heap.size (fun k_ => some k_ ≠ ((.slice Ao21 t106.length co21) : Value).ownBlock ∧ k_ ≠ gb119) (.slice Ao26 t114.length co26) t114) ∧ Aside0 (wc.heap[gb119]? = some (.cells #[(.slice Ao24 t111.length co24), (.slice Ao26 t114.length co26)] 67 (0, 0))) ∧ Aside0 (Below w.heap.size w wc))
                case first =>
                  have H := HC18.out
                  clear HC18
                  by_cases c27 : t107 = 0
                  · rw [if_pos c27] at H
                    have c27b0 : (t107 == 0) = true := beq_iff_eq.mpr c27
                    have c27b1 : (t107 != 0) = false := bne_eq_false_iff_eq.mpr c27
                    clear c27
                    (first | rw [c27b0] | (simp only [i64_w, i32_w]; rw [c27b0]) | skip)
                    by_cases c28 : t118 = 0
                    · rw [if_pos c28] at H
                      have c28b0 : (t118 == 0) = true := beq_iff_eq.mpr c28
                      have c28b1 : (t118 != 0) = false := bne_eq_false_iff_eq.mpr c28
                      clear c28
                      by_cases c29 : t117 = true
                      · subst c29
                        have H1 : (calxlaw08_BookProves.j1 kj3 l0 t103 ji14 (Int.tmod (wrap64 (a2)) (l0.length : Int)) t106 true) = some r := by rw [if_pos rfl] at H; exact H
                        clear H
                        have H := H1
                        clear H1
                        have H' := Aside0.mk H
                        clear H
                        go_wp2
                        go_meet
                        case rel => exact ⟨_, (true), (by first | rfl | (simp; done) | (simp [*]; done)), H', ⟨by have := HJ3.out; first | omega | exact Nat.le_refl _⟩, ⟨by (with_reducible repeat (first | apply Kd.R_alloc | apply Kd.R_drewN | apply Kd.R_drew)); exact Kd.R_mono (Kd.R_far (p := ⟨gb119, 1, none⟩) (Kd.R_far (p := ⟨gb119, 0, none⟩) (Kd.R_types HO109.out BK119.out (by decide)) (fun _ hk => hk.2) (.slice Ao24 t111.length co24)) (fun _ hk => hk.2) (.slice Ao26 t114.length co26)) (fun _ hk => trivial)⟩, ⟨by (with_reducible repeat (first | apply Kd.V_alloc | apply Kd.V_drewN | apply Kd.V_drew)); exact Kd.V_mono (Kd.V_far (p := ⟨gb119, 1, none⟩) (Kd.V_far (p := ⟨gb119, 0, none⟩) (Kd.V_mono HO113.out (fun k_ hk => (⟨hk, hk.2⟩ : _ ∧ k_ ≠ gb119))) (fun _ hk => hk.2) (.slice Ao24 t111.length co24)) (fun _ hk => hk.2) (.slice Ao26 t114.length co26)) (fun _ hk => ⟨hk.1.1, hk.1.2⟩)⟩, ⟨by (with_reducible repeat (first | apply Kd.V_alloc | apply Kd.V_drewN | apply Kd.V_drew)); exact Kd.V_mono (Kd.V_far (p := ⟨gb119, 1, none⟩) (Kd.V_far (p := ⟨gb119, 0, none⟩) (Kd.V_mono HO116.out (fun k_ hk => (⟨hk, hk.2⟩ : _ ∧ k_ ≠ gb119))) (fun _ hk => hk.2) (.slice Ao24 t111.length co24)) (fun _ hk => hk.2) (.slice Ao26 t114.length co26)) (fun _ hk => ⟨hk.1.1, hk.1.2⟩)⟩, ⟨by (with_reducible repeat (first | refine blk_drewN ?_ _ | refine blk_drew ?_ | refine blk_alloc ?_ _)); refine blk_put (cs := #[.slice Ao24 t111.length co24, .slice none 0 0]) ?_ 1 _ rfl; (with_reducible repeat (first | refine blk_drewN ?_ _ | refine blk_drew ?_ | refine blk_alloc ?_ _)); refine blk_put (cs := #[.slice none 0 0, .slice none 0 0]) ?_ 0 _ rfl; (with_reducible repeat (first | refine blk_drewN ?_ _ | refine blk_drew ?_ | refine blk_alloc ?_ _)); exact BK119.out⟩, ⟨by repeat (first | (with_reducible first | exact HB.out | apply below_alloc | apply pw_below_drewN | apply below_drew1 | refine below_set ?_ GE119.out) | exact HB.out)⟩⟩
                      · replace c29 := Bool.eq_false_iff.mpr c29
                        subst c29
                        have H1 : ((book_CheckStands.f kj3 t103 (l0.length : Int) (ji14) ((rd_T29 l0 (ji14)).f0) ((rd_T29 l0 (ji14)).f1) ((rd_T29 l0 (ji14)).f2) ((rd_T29 l0 (ji14)).f3) t106).bind fun t121 => (calxlaw08_BookProves.j1 kj3 l0 t103 ji14 (Int.tmod (wrap64 (a2)) (l0.length : Int)) t106 (t121 != 0))) = some r := by rw [if_neg (show ¬ (false = true) by decide)] at H; exact H
                        clear H
                        have H := H1
                        clear H1
                        replace H := Option.bind_eq_some_iff.mp H
                        obtain ⟨t121, A300, H⟩ := H
                        replace H : (calxlaw08_BookProves.j1 kj3 l0 t103 ji14 (Int.tmod (wrap64 (a2)) (l0.length : Int)) t106 (t121 != 0)) = some r := H
                        have A30 := Aside0.mk A300
                        clear A300
                        have H' := Aside0.mk H
                        clear H
                        have p120 : 0 ≤ ((ji14) : Int) := of_decide_eq_true (by first | (with_reducible assumption) | assumption)
                        have q120 : (ji14) < (l0.length : Int) := of_decide_eq_true (by first | (with_reducible assumption) | assumption)
                        obtain ⟨ad120, e120, hx120_0, hx120_1, hx120_2, hx120_3⟩ := at_T29 HR0.out (ji14) p120 q120
                        obtain rfl : ad110 = ad120 := (by injection e120)
                        have hn120_0 : ad110.block ≠ gb119 := Nat.ne_of_lt (Nat.lt_of_lt_of_le (by have := World.block_lt_of_cell? _ _ hx120_0; first | rwa [add_block] at this | exact this) GW119.out)
                        have hn120_1 : ad110.block ≠ gb119 := Nat.ne_of_lt (Nat.lt_of_lt_of_le (by have := World.block_lt_of_cell? _ _ hx120_0; first | rwa [add_block] at this | exact this) GW119.out)
                        replace hx120_0 := (HB.out.cell (World.block_lt_of_cell? w _ hx120_0)).trans hx120_0
                        replace hx120_1 := (HB.out.cell (World.block_lt_of_cell? w _ hx120_1)).trans hx120_1
                        replace hx120_2 := (HB.out.cell (World.block_lt_of_cell? w _ hx120_2)).trans hx120_2
                        replace hx120_3 := (HB.out.cell (World.block_lt_of_cell? w _ hx120_3)).trans hx120_3
                        replace hx120_0 := (cell_far (p := ⟨gb119, 0, none⟩) (by first | (rw [add_block]; exact hn120_0) | (show (Addr.add _ _).block ≠ _; rw [add_block]; exact hn120_0) | exact hn120_0) (.slice Ao24 t111.length co24)).trans hx120_0
                        replace hx120_1 := (cell_far (p := ⟨gb119, 0, none⟩) (by first | (rw [add_block]; exact hn120_0) | (show (Addr.add _ _).block ≠ _; rw [add_block]; exact hn120_0) | exact hn120_0) (.slice Ao24 t111.length co24)).trans hx120_1
                        replace hx120_2 := (cell_far (p := ⟨gb119, 0, none⟩) (by first | (rw [add_block]; exact hn120_0) | (show (Addr.add _ _).block ≠ _; rw [add_block]; exact hn120_0) | exact hn120_0) (.slice Ao24 t111.length co24)).trans hx120_2
                        replace hx120_3 := (cell_far (p := ⟨gb119, 0, none⟩) (by first | (rw [add_block]; exact hn120_0) | (show (Addr.add _ _).block ≠ _; rw [add_block]; exact hn120_0) | exact hn120_0) (.slice Ao24 t111.length co24)).trans hx120_3
                        replace hx120_0 := (cell_far (p := ⟨gb119, 1, none⟩) (by first | (rw [add_block]; exact hn120_1) | (show (Addr.add _ _).block ≠ _; rw [add_block]; exact hn120_1) | exact hn120_1) (.slice Ao26 t114.length co26)).trans hx120_0
                        replace hx120_1 := (cell_far (p := ⟨gb119, 1, none⟩) (by first | (rw [add_block]; exact hn120_1) | (show (Addr.add _ _).block ≠ _; rw [add_block]; exact hn120_1) | exact hn120_1) (.slice Ao26 t114.length co26)).trans hx120_1
                        replace hx120_2 := (cell_far (p := ⟨gb119, 1, none⟩) (by first | (rw [add_block]; exact hn120_1) | (show (Addr.add _ _).block ≠ _; rw [add_block]; exact hn120_1) | exact hn120_1) (.slice Ao26 t114.length co26)).trans hx120_2
                        replace hx120_3 := (cell_far (p := ⟨gb119, 1, none⟩) (by first | (rw [add_block]; exact hn120_1) | (show (Addr.add _ _).block ≠ _; rw [add_block]; exact hn120_1) | exact hn120_1) (.slice Ao26 t114.length co26)).trans hx120_3
                        clear hn120_0
                        clear hn120_1
                        replace p120 := eq_true p120
                        replace q120 := eq_true q120
                        go_wp2_with (first | (go_at_call 54; (with_reducible refine (book_CheckStands.calls kj3 t103 (l0.length : Int) ji14 ((rd_T29 l0 (ji14)).f0) ((rd_T29 l0 (ji14)).f1) ((rd_T29 l0 (ji14)).f2) ((rd_T29 l0 (ji14)).f3) _ _ t106 t121 _ ?side1 ?side2 A30.out).mono ?_); (case side1 => refine (Kd.R_reads' (e := 129) (base := w.heap.size) (ok := fun k_ => True) (n := t106.length) (c := co21) ?_).2.2; exact (by (with_reducible repeat (first | apply Kd.R_alloc | apply Kd.R_drewN | apply Kd.R_drew)); exact (Kd.R_mono (Kd.R_far (p := ⟨gb119, 1, none⟩) (Kd.R_far (p := ⟨gb119, 0, none⟩) (Kd.R_types HO109.out BK119.out (by decide)) (fun _ hk => hk.2) (.slice Ao24 t111.length co24)) (fun _ hk => hk.2) (.slice Ao26 t114.length co26)) (fun _ h_ => h_.1)))); (case side2 => exact (Kd.R_reads' HO109.out).2.1); rintro e w31 ⟨rfl, hb⟩; have n0_ := Aside0.mk (Kd.R_below (by (with_reducible repeat (first | apply Kd.R_alloc | apply Kd.R_drewN | apply Kd.R_drew)); exact (Kd.R_mono (Kd.R_far (p := ⟨gb119, 1, none⟩) (Kd.R_far (p := ⟨gb119, 0, none⟩) (Kd.R_types HO109.out BK119.out (by decide)) (fun _ hk => hk.2) (.slice Ao24 t111.length co24)) (fun _ hk => hk.2) (.slice Ao26 t114.length co26)) (fun _ h_ => h_.1))) hb); have n1_ := Aside0.mk (Kd.V_below (by (with_reducible repeat (first | apply Kd.V_alloc | apply Kd.V_drewN | apply Kd.V_drew)); exact (Kd.V_mono (Kd.V_far (p := ⟨gb119, 1, none⟩) (Kd.V_far (p := ⟨gb119, 0, none⟩) (Kd.V_mono HO113.out (fun k_ hk => (⟨hk, hk.2⟩ : _ ∧ k_ ≠ gb119))) (fun _ hk => hk.2) (.slice Ao24 t111.length co24)) (fun _ hk => hk.2) (.slice Ao26 t114.length co26)) (fun _ h_ => h_.1))) hb); have n2_ := Aside0.mk (Kd.V_below (by (with_reducible repeat (first | apply Kd.V_alloc | apply Kd.V_drewN | apply Kd.V_drew)); exact (Kd.V_mono (Kd.V_far (p := ⟨gb119, 1, none⟩) (Kd.V_far (p := ⟨gb119, 0, none⟩) (Kd.V_mono HO116.out (fun k_ hk => (⟨hk, hk.2⟩ : _ ∧ k_ ≠ gb119))) (fun _ hk => hk.2) (.slice Ao24 t111.length co24)) (fun _ hk => hk.2) (.slice Ao26 t114.length co26)) (fun _ h_ => h_.1))) hb); have n3_ := Aside0.mk (blk_below (g := gb119) (o := .cells #[.slice Ao24 t111.length co24, .slice Ao26 t114.length co26] 67 (0, 0)) (by (with_reducible repeat (first | refine blk_drewN ?_ _ | refine blk_drew ?_ | refine blk_alloc ?_ _)); refine blk_put (cs := #[.slice Ao24 t111.length co24, .slice none 0 0]) ?_ 1 _ rfl; (with_reducible repeat (first | refine blk_drewN ?_ _ | refine blk_drew ?_ | refine blk_alloc ?_ _)); refine blk_put (cs := #[.slice none 0 0, .slice none 0 0]) ?_ 0 _ rfl; (with_reducible repeat (first | refine blk_drewN ?_ _ | refine blk_drew ?_ | refine blk_alloc ?_ _)); exact BK119.out) hb); have n4_ := Aside0.mk (below_step (by repeat (first | (with_reducible first | exact HB.out | apply below_alloc | apply pw_below_drewN | apply below_drew1 | refine below_set ?_ GE119.out) | exact HB.out)) hb); clear HO109; clear HO113; clear HO116; clear BK119; clear HB; have HO109 := n0_; have HO113 := n1_; have HO116 := n2_; have BK119 := n3_; have HB := n4_; clear n0_ n1_ n2_ n3_ n4_; (try clear hb); (try clear hb2); (try clear hk); (try clear hi)))
                        go_meet
                        case rel => exact ⟨_, ((t121 != 0)), (by first | rfl | (simp; done) | (simp [*]; done)), H', ⟨by have := HJ3.out; first | omega | exact Nat.le_refl _⟩, ⟨by (with_reducible repeat (first | apply Kd.R_alloc | apply Kd.R_drewN | apply Kd.R_drew)); exact HO109.out⟩, ⟨by (with_reducible repeat (first | apply Kd.V_alloc | apply Kd.V_drewN | apply Kd.V_drew)); exact HO113.out⟩, ⟨by (with_reducible repeat (first | apply Kd.V_alloc | apply Kd.V_drewN | apply Kd.V_drew)); exact HO116.out⟩, ⟨by (with_reducible repeat (first | refine blk_drewN ?_ _ | refine blk_drew ?_ | refine blk_alloc ?_ _)); exact BK119.out⟩, ⟨by repeat (first | (with_reducible first | exact HB.out | apply below_alloc | apply pw_below_drewN | apply below_drew1 | refine below_set ?_ GE119.out) | exact HB.out)⟩⟩
                    · rw [if_neg c28] at H
                      have c28b0 : (t118 == 0) = false := beq_eq_false_iff_ne.mpr c28
                      have c28b1 : (t118 != 0) = true := bne_iff_ne.mpr c28
                      have H' := Aside0.mk H
                      clear H
                      go_wp2
                      go_meet
                      case rel => exact ⟨_, (true), (by first | rfl | (simp; done) | (simp [*]; done)), H', ⟨by have := HJ3.out; first | omega | exact Nat.le_refl _⟩, ⟨by (with_reducible repeat (first | apply Kd.R_alloc | apply Kd.R_drewN | apply Kd.R_drew)); exact Kd.R_mono (Kd.R_far (p := ⟨gb119, 1, none⟩) (Kd.R_far (p := ⟨gb119, 0, none⟩) (Kd.R_types HO109.out BK119.out (by decide)) (fun _ hk => hk.2) (.slice Ao24 t111.length co24)) (fun _ hk => hk.2) (.slice Ao26 t114.length co26)) (fun _ hk => trivial)⟩, ⟨by (with_reducible repeat (first | apply Kd.V_alloc | apply Kd.V_drewN | apply Kd.V_drew)); exact Kd.V_mono (Kd.V_far (p := ⟨gb119, 1, none⟩) (Kd.V_far (p := ⟨gb119, 0, none⟩) (Kd.V_mono HO113.out (fun k_ hk => (⟨hk, hk.2⟩ : _ ∧ k_ ≠ gb119))) (fun _ hk => hk.2) (.slice Ao24 t111.length co24)) (fun _ hk => hk.2) (.slice Ao26 t114.length co26)) (fun _ hk => ⟨hk.1.1, hk.1.2⟩)⟩, ⟨by (with_reducible repeat (first | apply Kd.V_alloc | apply Kd.V_drewN | apply Kd.V_drew)); exact Kd.V_mono (Kd.V_far (p := ⟨gb119, 1, none⟩) (Kd.V_far (p := ⟨gb119, 0, none⟩) (Kd.V_mono HO116.out (fun k_ hk => (⟨hk, hk.2⟩ : _ ∧ k_ ≠ gb119))) (fun _ hk => hk.2) (.slice Ao24 t111.length co24)) (fun _ hk => hk.2) (.slice Ao26 t114.length co26)) (fun _ hk => ⟨hk.1.1, hk.1.2⟩)⟩, ⟨by (with_reducible repeat (first | refine blk_drewN ?_ _ | refine blk_drew ?_ | refine blk_alloc ?_ _)); refine blk_put (cs := #[.slice Ao24 t111.length co24, .slice none 0 0]) ?_ 1 _ rfl; (with_reducible repeat (first | refine blk_drewN ?_ _ | refine blk_drew ?_ | refine blk_alloc ?_ _)); refine blk_put (cs := #[.slice none 0 0, .slice none 0 0]) ?_ 0 _ rfl; (with_reducible repeat (first | refine blk_drewN ?_ _ | refine blk_drew ?_ | refine blk_alloc ?_ _)); exact BK119.out⟩, ⟨by repeat (first | (with_reducible first | exact HB.out | apply below_alloc | apply pw_below_drewN | apply below_drew1 | refine below_set ?_ GE119.out) | exact HB.out)⟩⟩
                  · rw [if_neg c27] at H
                    have c27b0 : (t107 == 0) = false := beq_eq_false_iff_ne.mpr c27
                    have c27b1 : (t107 != 0) = true := bne_iff_ne.mpr c27
                    (first | rw [c27b0] | (simp only [i64_w, i32_w]; rw [c27b0]) | skip)
                    have H' := Aside0.mk H
                    clear H
                    go_wp2
                    go_meet
                    case rel => exact ⟨_, (true), (by first | rfl | (simp; done) | (simp [*]; done)), H', ⟨by have := HJ3.out; first | omega | exact Nat.le_refl _⟩, ⟨by (with_reducible repeat (first | apply Kd.R_alloc | apply Kd.R_drewN | apply Kd.R_drew)); exact Kd.R_mono (Kd.R_far (p := ⟨gb119, 1, none⟩) (Kd.R_far (p := ⟨gb119, 0, none⟩) (Kd.R_types HO109.out BK119.out (by decide)) (fun _ hk => hk.2) (.slice Ao24 t111.length co24)) (fun _ hk => hk.2) (.slice Ao26 t114.length co26)) (fun _ hk => trivial)⟩, ⟨by (with_reducible repeat (first | apply Kd.V_alloc | apply Kd.V_drewN | apply Kd.V_drew)); exact Kd.V_mono (Kd.V_far (p := ⟨gb119, 1, none⟩) (Kd.V_far (p := ⟨gb119, 0, none⟩) (Kd.V_mono HO113.out (fun k_ hk => (⟨hk, hk.2⟩ : _ ∧ k_ ≠ gb119))) (fun _ hk => hk.2) (.slice Ao24 t111.length co24)) (fun _ hk => hk.2) (.slice Ao26 t114.length co26)) (fun _ hk => ⟨hk.1.1, hk.1.2⟩)⟩, ⟨by (with_reducible repeat (first | apply Kd.V_alloc | apply Kd.V_drewN | apply Kd.V_drew)); exact Kd.V_mono (Kd.V_far (p := ⟨gb119, 1, none⟩) (Kd.V_far (p := ⟨gb119, 0, none⟩) (Kd.V_mono HO116.out (fun k_ hk => (⟨hk, hk.2⟩ : _ ∧ k_ ≠ gb119))) (fun _ hk => hk.2) (.slice Ao24 t111.length co24)) (fun _ hk => hk.2) (.slice Ao26 t114.length co26)) (fun _ hk => ⟨hk.1.1, hk.1.2⟩)⟩, ⟨by (with_reducible repeat (first | refine blk_drewN ?_ _ | refine blk_drew ?_ | refine blk_alloc ?_ _)); refine blk_put (cs := #[.slice Ao24 t111.length co24, .slice none 0 0]) ?_ 1 _ rfl; (with_reducible repeat (first | refine blk_drewN ?_ _ | refine blk_drew ?_ | refine blk_alloc ?_ _)); refine blk_put (cs := #[.slice none 0 0, .slice none 0 0]) ?_ 0 _ rfl; (with_reducible repeat (first | refine blk_drewN ?_ _ | refine blk_drew ?_ | refine blk_alloc ?_ _)); exact BK119.out⟩, ⟨by repeat (first | (with_reducible first | exact HB.out | apply below_alloc | apply pw_below_drewN | apply below_drew1 | refine below_set ?_ GE119.out) | exact HB.out)⟩⟩
                case rest =>
                  clear HC18
                  try clear c1
                  try clear p1
                  try clear q1
                  try clear hx1
                  try clear c2
                  try clear p2
                  try clear c3
                  try clear c5
                  try clear c6
                  try clear p6
                  try clear c7
                  try clear c11
                  try clear c11b0
                  try clear c11b1
                  try clear p11
                  try clear q11
                  try clear hx11
                  try clear c12
                  try clear c12b0
                  try clear c12b1
                  try clear c12b2
                  try clear p12
                  try clear q12
                  try clear hx12
                  try clear c15
                  try clear c15b0
                  try clear c16
                  try clear c16b0
                  try clear c19
                  try clear c22
                  try clear c27
                  try clear c27b0
                  try clear c27b1
                  try clear c28
                  try clear c28b0
                  try clear c28b1
                  try clear c29
                  try clear hcz25_0
                  try clear hcz25_1
                  try clear hfz25_0
                  try clear hfz25_1
                  try clear hx110_0
                  try clear hx110_1
                  try clear hx110_2
                  try clear hx110_3
                  try clear hx120_0
                  try clear hx120_1
                  try clear hx120_2
                  try clear hx120_3
                  try clear p110
                  try clear p120
                  try clear p2
                  try clear q110
                  try clear q120
                  obtain ⟨kq, x82_17, rfl, HA, HJ17, HO_11, HO_120000, HO_120001, BK119, HB⟩ := hcut
                  cases kq with
                  | zero => exact absurd HA.out (by simp [calxlaw08_BookProves.j1])
                  | succ kj17 =>
                    have H := HA.out
                    clear HA
                    simp only [calxlaw08_BookProves.j1] at H
                    by_cases c32 : x82_17 = true
                    · subst c32
                      have H1 : (some false) = some r := by rw [if_pos rfl] at H; exact H
                      clear H
                      have H := H1
                      clear H1
                      obtain rfl := Option.some.inj H
                      go_wp2
                      go_ret
                      exact ⟨by first | rfl | (simp [errW_none, errW_some] <;> rfl) | (simp only [← hji14]; first | rfl | (simp [errW_none, errW_some] <;> rfl)) | (simp [*, errW_none, errW_some] <;> rfl), by repeat (first | (with_reducible first | exact HB.out | apply below_alloc | apply pw_below_drewN | apply below_drew1 | refine below_set ?_ GE119.out) | exact HB.out)⟩
                    · replace c32 := Bool.eq_false_iff.mpr c32
                      subst c32
                      have H1 : ((calxlaw08_sanity.f).bind fun t122 => (if t122 = true then (if 0 ≤ ji14 then (if ji14 < (l0.length : Int) then ((calxlaw08_shown.f kj17 l0 t103 (Int.tmod (wrap64 (a2)) (l0.length : Int)) ((rd_T29 l0 ji14).f0) ((rd_T29 l0 ji14).f1) ((rd_T29 l0 ji14).f2) ((rd_T29 l0 ji14).f3) t106).bind fun t124 => (some t124)) else (none)) else (none)) else (some false))) = some r := by rw [if_neg (show ¬ (false = true) by decide)] at H; exact H
                      clear H
                      have H := H1
                      clear H1
                      replace H := Option.bind_eq_some_iff.mp H
                      obtain ⟨t122, A330, H⟩ := H
                      replace H : (if t122 = true then (if 0 ≤ ji14 then (if ji14 < (l0.length : Int) then ((calxlaw08_shown.f kj17 l0 t103 (Int.tmod (wrap64 (a2)) (l0.length : Int)) ((rd_T29 l0 ji14).f0) ((rd_T29 l0 ji14).f1) ((rd_T29 l0 ji14).f2) ((rd_T29 l0 ji14).f3) t106).bind fun t124 => (some t124)) else (none)) else (none)) else (some false)) = some r := H
                      have A33 := Aside0.mk A330
                      clear A330
                      by_cases c34 : t122 = true
                      · subst c34
                        have H1 : (if 0 ≤ ji14 then (if ji14 < (l0.length : Int) then ((calxlaw08_shown.f kj17 l0 t103 (Int.tmod (wrap64 (a2)) (l0.length : Int)) ((rd_T29 l0 ji14).f0) ((rd_T29 l0 ji14).f1) ((rd_T29 l0 ji14).f2) ((rd_T29 l0 ji14).f3) t106).bind fun t124 => (some t124)) else (none)) else (none)) = some r := by rw [if_pos rfl] at H; exact H
                        clear H
                        have H := H1
                        clear H1
                        by_cases c35 : 0 ≤ ji14
                        · rw [if_pos c35] at H
                          have c35b0 : decide (0 ≤ ji14) = true := decide_eq_true c35
                          clear c35
                          by_cases c36 : ji14 < (l0.length : Int)
                          · rw [if_pos c36] at H
                            have c36b0 : decide (ji14 < (l0.length : Int)) = true := decide_eq_true c36
                            clear c36
                            replace H := Option.bind_eq_some_iff.mp H
                            obtain ⟨t124, A370, H⟩ := H
                            replace H : (some t124) = some r := H
                            have A37 := Aside0.mk A370
                            clear A370
                            obtain rfl := Option.some.inj H
                            go_wp2_with (first | ((with_reducible refine gate_callee (f := 22) rfl ?_); refine goesL_ (some 83) rfl rfl Try.func22 (by kernel_rfl) rfl #[] rfl (by (try simp only [List.map_toArray, List.map_cons, List.map_nil]); first | done | rfl | (simp only [List.length_drop, List.length_take]; rfl)) ?_; (with_reducible refine (calxlaw08_sanity.calls  true _ A33.out).mono ?_); rintro e w38 ⟨rfl, hb⟩; refine ⟨_, rfl, ?_⟩; have n0_ := Aside0.mk (Kd.R_below (by (with_reducible repeat (first | apply Kd.R_alloc | apply Kd.R_drewN | apply Kd.R_drew)); exact HO_11.out) hb); have n1_ := Aside0.mk (Kd.V_below (by (with_reducible repeat (first | apply Kd.V_alloc | apply Kd.V_drewN | apply Kd.V_drew)); exact HO_120000.out) hb); have n2_ := Aside0.mk (Kd.V_below (by (with_reducible repeat (first | apply Kd.V_alloc | apply Kd.V_drewN | apply Kd.V_drew)); exact HO_120001.out) hb); have n3_ := Aside0.mk (blk_below (g := gb119) (o := .cells #[.slice Ao24 t111.length co24, .slice Ao26 t114.length co26] 67 (0, 0)) (by (with_reducible repeat (first | refine blk_drewN ?_ _ | refine blk_drew ?_ | refine blk_alloc ?_ _)); exact BK119.out) hb); have n4_ := Aside0.mk (below_step (by repeat (first | (with_reducible first | exact HB.out | apply below_alloc | apply pw_below_drewN | apply below_drew1 | refine below_set ?_ GE119.out) | exact HB.out)) hb); clear HO_11; clear HO_120000; clear HO_120001; clear BK119; clear HB; have HO_11 := n0_; have HO_120000 := n1_; have HO_120001 := n2_; have BK119 := n3_; have HB := n4_; clear n0_ n1_ n2_ n3_ n4_; (try clear hb); (try clear hb2); (try clear hk); (try clear hi); have p123 : 0 ≤ (ji14 : Int) := of_decide_eq_true (by first | (with_reducible assumption) | assumption); have q123 : ji14 < (l0.length : Int) := of_decide_eq_true (by first | (with_reducible assumption) | assumption); obtain ⟨ad123, e123, hx123_0, hx123_1, hx123_2, hx123_3⟩ := at_T29 HR0.out ji14 p123 q123; obtain rfl : ad110 = ad123 := (by injection e123); replace hx123_0 := (HB.out.cell (World.block_lt_of_cell? w _ hx123_0)).trans hx123_0; replace hx123_1 := (HB.out.cell (World.block_lt_of_cell? w _ hx123_1)).trans hx123_1; replace hx123_2 := (HB.out.cell (World.block_lt_of_cell? w _ hx123_2)).trans hx123_2; replace hx123_3 := (HB.out.cell (World.block_lt_of_cell? w _ hx123_3)).trans hx123_3; replace p123 := eq_true p123; replace q123 := eq_true q123) | (go_at_call 79; (with_reducible refine (calxlaw08_shown.calls kj17 _ _ l0 t103 (Int.tmod (wrap64 (a2)) (l0.length : Int)) ((rd_T29 l0 ji14).f0) ((rd_T29 l0 ji14).f1) ((rd_T29 l0 ji14).f2) ((rd_T29 l0 ji14).f3) _ _ t106 t124 _ ?side1 ?side2 ?side3 ?side4 A37.out).mono ?_); (case side1 => repeat (first | exact (Kd.C_below HR0.out HB.out) | (with_reducible refine Kd.C_alloc ?_ _) | (with_reducible refine Kd.C_drewN ?_ _) | (with_reducible refine Kd.C_drew ?_))); (case side2 => exact HC0.out); (case side3 => repeat (first | exact (Kd.R_reads' HO_11.out).2.2 | (with_reducible refine Kd.C_alloc ?_ _) | (with_reducible refine Kd.C_drewN ?_ _) | (with_reducible refine Kd.C_drew ?_))); (case side4 => exact (Kd.R_reads' HO_11.out).2.1); rintro e w39 ⟨rfl, hb⟩; have n0_ := Aside0.mk (Kd.R_below (by (with_reducible repeat (first | apply Kd.R_alloc | apply Kd.R_drewN | apply Kd.R_drew)); exact HO_11.out) hb); have n1_ := Aside0.mk (Kd.V_below (by (with_reducible repeat (first | apply Kd.V_alloc | apply Kd.V_drewN | apply Kd.V_drew)); exact HO_120000.out) hb); have n2_ := Aside0.mk (Kd.V_below (by (with_reducible repeat (first | apply Kd.V_alloc | apply Kd.V_drewN | apply Kd.V_drew)); exact HO_120001.out) hb); have n3_ := Aside0.mk (blk_below (g := gb119) (o := .cells #[.slice Ao24 t111.length co24, .slice Ao26 t114.length co26] 67 (0, 0)) (by (with_reducible repeat (first | refine blk_drewN ?_ _ | refine blk_drew ?_ | refine blk_alloc ?_ _)); exact BK119.out) hb); have n4_ := Aside0.mk (below_step (by repeat (first | (with_reducible first | exact HB.out | apply below_alloc | apply pw_below_drewN | apply below_drew1 | refine below_set ?_ GE119.out) | exact HB.out)) hb); clear HO_11; clear HO_120000; clear HO_120001; clear BK119; clear HB; have HO_11 := n0_; have HO_120000 := n1_; have HO_120001 := n2_; have BK119 := n3_; have HB := n4_; clear n0_ n1_ n2_ n3_ n4_; (try clear hb); (try clear hb2); (try clear hk); (try clear hi)))
                            go_ret
                            exact ⟨by first | rfl | (simp [errW_none, errW_some] <;> rfl) | (simp only [← hji14]; first | rfl | (simp [errW_none, errW_some] <;> rfl)) | (simp [*, errW_none, errW_some] <;> rfl), by repeat (first | (with_reducible first | exact HB.out | apply below_alloc | apply pw_below_drewN | apply below_drew1 | refine below_set ?_ GE119.out) | exact HB.out)⟩
                          · rw [if_neg c36] at H
                            exact absurd H (by simp)
                        · rw [if_neg c35] at H
                          exact absurd H (by simp)
                      · replace c34 := Bool.eq_false_iff.mpr c34
                        subst c34
                        have H1 : (some false) = some r := by rw [if_neg (show ¬ (false = true) by decide)] at H; exact H
                        clear H
                        have H := H1
                        clear H1
                        obtain rfl := Option.some.inj H
                        go_wp2_with (first | ((with_reducible refine gate_callee (f := 22) rfl ?_); refine goesL_ (some 83) rfl rfl Try.func22 (by kernel_rfl) rfl #[] rfl (by (try simp only [List.map_toArray, List.map_cons, List.map_nil]); first | done | rfl | (simp only [List.length_drop, List.length_take]; rfl)) ?_; (with_reducible refine (calxlaw08_sanity.calls  false _ A33.out).mono ?_); rintro e w40 ⟨rfl, hb⟩; refine ⟨_, rfl, ?_⟩; have n0_ := Aside0.mk (Kd.R_below (by (with_reducible repeat (first | apply Kd.R_alloc | apply Kd.R_drewN | apply Kd.R_drew)); exact HO_11.out) hb); have n1_ := Aside0.mk (Kd.V_below (by (with_reducible repeat (first | apply Kd.V_alloc | apply Kd.V_drewN | apply Kd.V_drew)); exact HO_120000.out) hb); have n2_ := Aside0.mk (Kd.V_below (by (with_reducible repeat (first | apply Kd.V_alloc | apply Kd.V_drewN | apply Kd.V_drew)); exact HO_120001.out) hb); have n3_ := Aside0.mk (blk_below (g := gb119) (o := .cells #[.slice Ao24 t111.length co24, .slice Ao26 t114.length co26] 67 (0, 0)) (by (with_reducible repeat (first | refine blk_drewN ?_ _ | refine blk_drew ?_ | refine blk_alloc ?_ _)); exact BK119.out) hb); have n4_ := Aside0.mk (below_step (by repeat (first | (with_reducible first | exact HB.out | apply below_alloc | apply pw_below_drewN | apply below_drew1 | refine below_set ?_ GE119.out) | exact HB.out)) hb); clear HO_11; clear HO_120000; clear HO_120001; clear BK119; clear HB; have HO_11 := n0_; have HO_120000 := n1_; have HO_120001 := n2_; have BK119 := n3_; have HB := n4_; clear n0_ n1_ n2_ n3_ n4_; (try clear hb); (try clear hb2); (try clear hk); (try clear hi)))
                        go_ret
                        exact ⟨by first | rfl | (simp [errW_none, errW_some] <;> rfl) | (simp only [← hji14]; first | rfl | (simp [errW_none, errW_some] <;> rfl)) | (simp [*, errW_none, errW_some] <;> rfl), by repeat (first | (with_reducible first | exact HB.out | apply below_alloc | apply pw_below_drewN | apply below_drew1 | refine below_set ?_ GE119.out) | exact HB.out)⟩
              · rw [if_neg c16] at H
                exact absurd H (by simp)
            · rw [if_neg c15] at H
              exact absurd H (by simp)
        · rw [if_neg c11] at H
          have c11b0 : (t104 == 0) = false := beq_eq_false_iff_ne.mpr c11
          have c11b1 : (t104 != 0) = true := bne_iff_ne.mpr c11
          replace H := Option.bind_eq_some_iff.mp H
          obtain ⟨t105, A410, H⟩ := H
          replace H : (some t105) = some r := H
          have A41 := Aside0.mk A410
          clear A410
          obtain rfl := Option.some.inj H
          go_wp2_with (first | ((with_reducible refine gate_callee (f := 32) rfl ?_); refine goesL_ (some 27) rfl rfl Try.func32 (by kernel_rfl) rfl #[.slice A0 l0.length c0] rfl (by (try simp only [List.map_toArray, List.map_cons, List.map_nil]); first | done | rfl | (simp only [List.length_drop, List.length_take]; rfl)) ?_; (with_reducible refine (book_Root.calls _ _ l0 t103 t104 _ ?side1 ?side2 A10.out).mono ?_); (case side1 => repeat (first | exact (Kd.C_below HR0.out HB.out) | (with_reducible refine Kd.C_alloc ?_ _) | (with_reducible refine Kd.C_drewN ?_ _) | (with_reducible refine Kd.C_drew ?_))); (case side2 => exact HC0.out); rintro e w42 ⟨rfl, hb⟩; refine ⟨_, rfl, ?_⟩; have n0_ := Aside0.mk (below_step (by repeat (first | (with_reducible first | exact HB.out | apply below_alloc | apply pw_below_drewN | apply below_drew1) | exact HB.out)) hb); clear HB; have HB := n0_; clear n0_; (try clear hb); (try clear hb2); (try clear hk); (try clear hi)) | ((with_reducible refine gate_callee (f := 22) rfl ?_); refine goesL_ (some 32) rfl rfl Try.func22 (by kernel_rfl) rfl #[] rfl (by (try simp only [List.map_toArray, List.map_cons, List.map_nil]); first | done | rfl | (simp only [List.length_drop, List.length_take]; rfl)) ?_; (with_reducible refine (calxlaw08_sanity.calls  t105 _ A41.out).mono ?_); rintro e w43 ⟨rfl, hb⟩; refine ⟨_, rfl, ?_⟩; have n0_ := Aside0.mk (below_step (by repeat (first | (with_reducible first | exact HB.out | apply below_alloc | apply pw_below_drewN | apply below_drew1) | exact HB.out)) hb); clear HB; have HB := n0_; clear n0_; (try clear hb); (try clear hb2); (try clear hk); (try clear hi)))
          go_ret
          exact ⟨by first | rfl | (simp [errW_none, errW_some] <;> rfl) | (simp [*, errW_none, errW_some] <;> rfl), by repeat (first | (with_reducible first | exact HB.out | apply below_alloc | apply pw_below_drewN | apply below_drew1) | exact HB.out)⟩
end Go.Proofs.Ytmfphlfakmnbmaa.B
end

section
namespace Go.Proofs.Ytmfphlfakmnbmaa.B
open Go.RowKit Go.Proofs.YtmfphlfakmnbmaaW.PrintWords Go.Proofs.YtmfphlfakmnbmaaW.PrintLast Go.Proofs.YtmfphlfakmnbmaaW.PrintMore
attribute [local go_sem] max2_int min2_int max_two min_two max_three min_three max_four min_four
theorem pureBookProves (l : List S29) (_ : l.length ≤ 9223372036854775807) (_ : ∀ x ∈ l, Wf4 x) (a : Int) (w1 : (Lit.int .u8 a).wf = true) (o : Int) (w2 : (Lit.int .u8 o).wf = true) : ∃ k, calxlaw08_BookProves.f k l a o = some true := by
  have u8 : ∀ x : Int, (Lit.int .u8 x).wf = true → 0 ≤ x ∧ x ≤ 255 := by
    intro x hx
    have h1 : IntKind.u8.min = 0 := rfl
    have h2 : IntKind.u8.max = 255 := rfl
    simp [Lit.wf] at hx
    omega
  have ha := u8 a w1
  have ho := u8 o w2
  refine ⟨502, ?_⟩
  have hf : ∃ b, calxlaw08_few.f l = some b := by unfold calxlaw08_few.f; split; exact ⟨_, rfl⟩; split <;> exact ⟨_, rfl⟩
  obtain ⟨t, ht⟩ := hf
  have htrue : calxlaw08_BookProves.j0 502 l a o true = some true := by
    simp only [calxlaw08_BookProves.j0]
    rfl
  have hmain : ∀ t : Bool, (t = false → l.length ≠ 0) → calxlaw08_BookProves.j0 502 l a o t = some true := by
    intro t ht0
    cases t with
    | true => exact htrue
    | false =>
      have h0 := ht0 rfl
      simp only [calxlaw08_BookProves.j0]
      rw [if_neg (by decide), book_Root_is, Option.bind_some]
      unfold rootA
      by_cases hc : checkP l = 0
      · have h64 := check_len hc
        rw [if_pos hc]
        obtain ⟨i, hi⟩ : ∃ i : Nat, i = (Int.tmod (wrap64 a) (l.length : Int)).toNat := ⟨_, rfl⟩
        obtain ⟨j, hj⟩ : ∃ j : Nat, j = (Int.tmod (wrap64 o) (l.length : Int)).toNat := ⟨_, rfl⟩
        have e1 : wrap64 a = a := by unfold wrap64; omega
        have e2 : wrap64 o = o := by unfold wrap64; omega
        have hmod : ∀ x : Int, 0 ≤ x → 0 ≤ Int.tmod x (l.length : Int) ∧ Int.tmod x (l.length : Int) < (l.length : Int) := fun x hx => by
          rw [Int.tmod_eq_emod_of_nonneg hx]
          exact ⟨Int.emod_nonneg _ (by omega), Int.emod_lt_of_pos _ (by omega)⟩
        rw [e1] at hi
        rw [e2] at hj
        have ti : Int.tmod (wrap64 a) (l.length : Int) = (i : Int) := by rw [e1, hi]; have := (hmod a ha.1).1; omega
        have tj : Int.tmod (wrap64 o) (l.length : Int) = (j : Int) := by rw [e2, hj]; have := (hmod o ho.1).1; omega
        have hil : i < l.length := by have := hmod a ha.1; omega
        have hjl : j < l.length := by have := hmod o ho.1; omega
        have hya : rd_T29 l (i : Int) = l.getD i z29 := rfl
        rw [ti, tj]
        clear hi hj e1 e2 hmod ti tj
        rw [if_pos rfl, if_neg (by omega), Stands_own hc hil (by omega), Option.bind_some, if_pos (by omega), if_pos (by omega), hya]
        unfold book_Gap.f
        rw [Option.bind_some]
        rw [show gapAns l (i : Int) ⟨(l.getD i z29).f0, (l.getD i z29).f1, (l.getD i z29).f2, (l.getD i z29).f3⟩ (standsP l i) = ([], [], false, 0) from gap_own hc hil]
        rw [if_pos rfl, if_pos rfl, if_neg (by decide), cs_is, Option.bind_some, own_cs hc hil]
        simp only [calxlaw08_BookProves.j1]
        rw [if_neg (by decide)]
        show ((some true).bind fun t122 => _) = _
        rw [Option.bind_some, if_pos rfl, if_pos (by omega), if_pos (by omega), hya, shown_is hc hjl (l.getD i z29) (standsP l i) (by omega), Option.bind_some]
      · rw [if_neg hc]
        show (if checkP l = 0 then _ else _) = _
        rw [if_neg hc]
        rfl
  unfold calxlaw08_BookProves.f
  rw [ht, Option.bind_some]
  cases t with
  | true => rw [if_pos rfl]; exact hmain _ (fun h => fun e => by rw [e] at h; cases h)
  | false => rw [if_neg (by decide)]; exact htrue
end Go.Proofs.Ytmfphlfakmnbmaa.B
end

section
namespace Go.Proofs.Ytmfphlfakmnbmaa.bookProves
open Go.ChangeShapes Go.WideShapes Go.ChangeAt Go.RowKit Go.Proofs.Ytmfphlfakmnbmaa.B
open Go.ChangeMaps (open_string shut_string)
theorem own : ownKnob Try.prog.godebug = none := by kernel_rfl
theorem laidOut : laidOutB Try.prog = true := by kernel_rfl
set_option maxRecDepth 100000 in
theorem lifted (os : Os) (started : os.Started) (H : Type) (enc : TypeId × Value → H) :
    ReturnsInHanded {} Try.checked os 19 .any (Rows.bookProvesSpec.pre6 enc Try.prog Try.f19 Rows.bookProvesRow.domain false) (Rows.bookProvesSpec.post enc Try.prog Try.f19 false true false false) := by
  refine returnsInHanded_of_change_sized (C := Try.checked) own started (by kernel_rfl) Try.func19
    (ChangeSpec.witness6 (enc := enc) (C := Try.checked) false ⟨#[], #[.slice none 0 0, .int .u8 0, .int .u8 0], []⟩ 8 (by kernel_rfl) (by kernel_rfl) (by kernel_rfl) (by kernel_rfl)) ?_
  intro W base args ds gs before hval0 hW hcnd hsz0 _
  have hval : ∀ (j : Nat) t v, Try.f19.params[j]? = some t → args[j]? = some v → Value.okWide Try.prog W .any base t v := hval0
  have hW' := hW
  obtain ⟨p, q, hA0, hV, rfl, hfz, hnd⟩ := hW
  have hA : DataW.TrodAll enc Try.prog W 0 (fun _ => true) true Try.f19.params.toList args.toList ds p := hA0
  rw [Try.params19] at hA hval
  obtain ⟨v0, vs0, d0, ds0, p0, q0, hargs, rfl, rfl, h0, r0⟩ := trodAll_cons hA
  obtain ⟨v1, vs1, d1, ds1, p1, q1, rfl, rfl, rfl, h1, r1⟩ := trodAll_cons r0
  obtain ⟨v2, vs2, d2, ds2, p2, q2, rfl, rfl, rfl, h2, r2⟩ := trodAll_cons r1
  obtain ⟨rfl, rfl, rfl⟩ := trodAll_nil r2
  obtain rfl : args = #[v0, v1, v2] := by cases args; simp_all
  obtain ⟨rfl, rfl⟩ := trodVars_none hV
  have k0 := h0
  have lt0 : ∀ x ∈ p0, x.block < W.heap.size := by obtain ⟨m, hm⟩ := k0; exact DataW.trod_lt m _ _ _ hm
  obtain ⟨a0, len0, cap0, rfl⟩ := okWide_slice Try.underlying32 (hval 0 32 v0 rfl rfl)
  obtain ⟨l0, rfl, c0, r0C, o0⟩ := arg_slice opens32 h0
  obtain ⟨a1, rfl, rfl, rfl, w1⟩ := open_int Try.underlying5 (hval 1 5 v1 rfl rfl) h1
  obtain ⟨a2, rfl, rfl, rfl, w2⟩ := open_int Try.underlying5 (hval 2 5 v2 rfl rfl) h2
  clear hA0 hval0 hsz0
  obtain ⟨k, hk⟩ := pureBookProves l0 r0C.2.1 o0 a1 w1 a2 w2
  refine (calxlaw08_BookProves.calls k _ _ l0 a1 a2 true W r0C c0 hk).mono fun e W' ⟨he, bel⟩ => ?_
  subst he
  exact ⟨_, rfl, _, _, _, [], _, [], hW', trodAll_mk1 (shut_bool Try.underlying4 _), (trodAll_cons_mk (Below.trod laidOut (by kernel_rfl) (of_decide_eq_true (by kernel_rfl)) k0 bel lt0) (trodAll_cons_mk (shut_int Try.underlying5 w1) (trodAll_cons_mk (shut_int Try.underlying5 w2) trodAll_mk0))), rfl, bel.frame _, fun h => by cases h⟩
theorem over : Rows.bookProvesRow.holds Try.pinned (OpenSpec.ofChange Rows.bookProvesSpec) :=
  OpenClaim.holds_of_wide 19 Try.f19 rfl rfl rfl rfl rfl rfl rfl ⟨rfl, rfl, rfl, rfl, rfl⟩ rfl rfl rfl rfl rfl (by kernel_rfl) Try.func19 (by kernel_rfl)
    (of_decide_eq_true (by kernel_rfl)) (by unfold Func.isWrapper; first | (rw [if_pos (by decide +kernel)]; kernel_rfl) | (rw [if_neg (by decide +kernel)]; exact ⟨rfl, rfl⟩))
    (fun os started H enc _ => lifted os started H enc)
theorem proved : Rows.BookProvesSaid := over
end Go.Proofs.Ytmfphlfakmnbmaa.bookProves
namespace Go.Proofs.Ytmfphlfakmnbmaa
theorem bookProves_holds : Rows.BookProvesSaid := bookProves.proved
end Go.Proofs.Ytmfphlfakmnbmaa
end
