import Derived.Test.YtmfphlfakmnbmaaQ1
import Derived.Test.YtmfphlfakmnbmaaQ2
import Derived.Test.YtmfphlfakmnbmaaQ3
import Derived.Test.YtmfphlfakmnbmaaQ4
set_option linter.unusedVariables false
set_option linter.unusedSimpArgs false
section
namespace Go.Proofs.Ytmfphlfakmnbmaa.B
open Go.RowKit Go.Proofs.YtmfphlfakmnbmaaW.PrintWords Go.Proofs.YtmfphlfakmnbmaaW.PrintLast Go.Proofs.YtmfphlfakmnbmaaW.PrintMore
attribute [local go_sem] max2_int min2_int max_two min_two max_three min_three max_four min_four
theorem eqA39 (d : Nat) (w : World) (x0 y0 : Int) (x1 y1 : Int) :
    (Op.equalIn (d + 2) 39 (.agg #[.int .i64 x0, .int .i64 x1]) (.agg #[.int .i64 y0, .int .i64 y1])).run Try.prog w = .ok (x0 == y0 && (x1 == y1)) w := by
  refine eqA_of Try.underlying39 (by kernel_rfl) ?_
  refine eqf_cons (by rfl) (by go_simp; rfl) (by go_simp; rfl) (by go_simp) ?_
  exact eqf_last (by rfl) (by go_simp; rfl) (by go_simp; rfl) (by go_simp)
end Go.Proofs.Ytmfphlfakmnbmaa.B
end

section
namespace Go.Proofs.Ytmfphlfakmnbmaa.B
open Go.RowKit Go.Proofs.YtmfphlfakmnbmaaW.PrintWords Go.Proofs.YtmfphlfakmnbmaaW.PrintLast Go.Proofs.YtmfphlfakmnbmaaW.PrintMore
attribute [local go_sem] max2_int min2_int max_two min_two max_three min_three max_four min_four
attribute [local go_sem high] eqA39
def calxref08_SameSpans.l0 : Nat → List (S39) → List (S39) → Int → Option (Bool)
  | 0, _, _, _ => none
  | k + 1, x0, x1, x5 => if x5 < (x0.length : Int) then (if 0 ≤ x5 then (if x5 < (x1.length : Int) then (if (!(((rd_T39 x0 x5).f0) == ((rd_T39 x1 x5).f0)) || (!(((rd_T39 x0 x5).f1) == ((rd_T39 x1 x5).f1)))) = true then (some false) else (calxref08_SameSpans.l0 k x0 x1 (wrap64 (x5 + 1)))) else (none)) else (none)) else (some true)
def calxref08_SameSpans.f (k : Nat) (l0 : List (S39)) (l1 : List (S39)) : Option (Bool) := if (l0.length : Int) = (l1.length : Int) then (calxref08_SameSpans.l0 k l0 l1 0) else (some false)
set_option maxHeartbeats 8000000 in
set_option maxRecDepth 100000 in
theorem calxref08_SameSpans.calls (k : Nat) (A0 : Option Addr) (c0 : Nat) (l0 : List (S39)) (A1 : Option Addr) (c1 : Nat) (l1 : List (S39)) (r : Bool) (w : World) (hr0 : Kd.C k39 w A0 l0.length l0) (hc0 : l0.length ≤ c0) (hr1 : Kd.C k39 w A1 l1.length l1) (hc1 : l1.length ≤ c1) (h : calxref08_SameSpans.f k l0 l1 = some r) :
    Calls Try.prog 65 #[.slice A0 l0.length c0, .slice A1 l1.length c1] w fun e w' => e = .returned (.bool r) ∧ Drawn0 w w' := by
  have hu39 := Try.underlying39
  have HR0 := Aside0.mk hr0
  have HC0 := Aside0.mk hc0
  clear hr0 hc0
  have HR1 := Aside0.mk hr1
  have HC1 := Aside0.mk hc1
  clear hr1 hc1
  have H : (if (l0.length : Int) = (l1.length : Int) then (calxref08_SameSpans.l0 k l0 l1 0) else (some false)) = some r := h
  clear h
  by_cases c3 : (l0.length : Int) = (l1.length : Int)
  · rw [if_pos c3] at H
    have c3b0 : ((l0.length : Int) == (l1.length : Int)) = true := beq_iff_eq.mpr c3
    have c3b1 : ((l0.length : Int) != (l1.length : Int)) = false := bne_eq_false_iff_eq.mpr c3
    have c3b2 : (l0.length == l1.length) = true := by first | simpa using c3 | (simp at c3 ⊢; omega)
    clear c3
    have H' := Aside0.mk H
    clear H
    go_enter Try.func65, Try.ntmps65
    go_wp2
    repeat (go_quiet (fail); try go_wp2)
    go_loopg [5] k (fun kq v5 w' => ∃ (x5_1 : Int), v5 = .int .i64 x5_1 ∧ Aside0 (calxref08_SameSpans.l0 kq l0 l1 x5_1 = some r) ∧ Aside0 (kq ≤ k) ∧ Drawn0 w w')
    case atStart => exact ⟨(0), (by first | rfl | (simp; done) | (simp [*]; done)), H', ⟨Nat.le_refl _⟩, by repeat (first | exact Drawn0.refl _ | apply Drawn0.step)⟩
    case round =>
      clear H'
      try clear c1
      try clear p2
      try clear c3
      try clear c3b0
      try clear c3b1
      try clear c3b2
      obtain ⟨x5_1, rfl, HA, HK1, ⟨m1, rfl⟩⟩ := hrel
      cases gk with
      | zero => exact absurd HA.out (by simp [calxref08_SameSpans.l0])
      | succ k1 =>
        have H := HA.out
        clear HA
        simp only [calxref08_SameSpans.l0] at H
        by_cases c4 : x5_1 < (l0.length : Int)
        · rw [if_pos c4] at H
          have c4b0 : decide (x5_1 < (l0.length : Int)) = true := decide_eq_true c4
          clear c4
          by_cases c5 : 0 ≤ x5_1
          · rw [if_pos c5] at H
            have c5b0 : decide (0 ≤ x5_1) = true := decide_eq_true c5
            clear c5
            by_cases c6 : x5_1 < (l1.length : Int)
            · rw [if_pos c6] at H
              have c6b0 : decide (x5_1 < (l1.length : Int)) = true := decide_eq_true c6
              clear c6
              by_cases c7 : (!(((rd_T39 l0 x5_1).f0) == ((rd_T39 l1 x5_1).f0)) || (!(((rd_T39 l0 x5_1).f1) == ((rd_T39 l1 x5_1).f1)))) = true
              · rw [if_pos c7] at H
                have c7b0 : (!(((rd_T39 l0 x5_1).f0) == ((rd_T39 l1 x5_1).f0)) || (!(((rd_T39 l0 x5_1).f1) == ((rd_T39 l1 x5_1).f1)))) = true := c7
                clear c7
                obtain rfl := Option.some.inj H
                have p101 : 0 ≤ (x5_1 : Int) := of_decide_eq_true (by first | (with_reducible assumption) | assumption)
                have q101 : x5_1 < (l0.length : Int) := of_decide_eq_true (by first | (with_reducible assumption) | assumption)
                obtain ⟨ad101, e101, hx101_0, hx101_1⟩ := at_T39 HR0.out x5_1 p101 q101
                cases e101
                replace p101 := eq_true p101
                replace q101 := eq_true q101
                have p102 : 0 ≤ (x5_1 : Int) := of_decide_eq_true (by first | (with_reducible assumption) | assumption)
                have q102 : x5_1 < (l1.length : Int) := of_decide_eq_true (by first | (with_reducible assumption) | assumption)
                obtain ⟨ad102, e102, hx102_0, hx102_1⟩ := at_T39 HR1.out x5_1 p102 q102
                cases e102
                replace p102 := eq_true p102
                replace q102 := eq_true q102
                go_wp2
                repeat (go_quiet (fail); try go_wp2)
                go_ret
                exact ⟨by first | rfl | (simp; done) | (simp [*]; done), by repeat (first | exact Drawn0.refl _ | apply Drawn0.step)⟩
              · rw [if_neg c7] at H
                have c7b0 : (!(((rd_T39 l0 x5_1).f0) == ((rd_T39 l1 x5_1).f0)) || (!(((rd_T39 l0 x5_1).f1) == ((rd_T39 l1 x5_1).f1)))) = false := by simpa using c7
                clear c7
                have H' := Aside0.mk H
                clear H
                have p101 : 0 ≤ (x5_1 : Int) := of_decide_eq_true (by first | (with_reducible assumption) | assumption)
                have q101 : x5_1 < (l0.length : Int) := of_decide_eq_true (by first | (with_reducible assumption) | assumption)
                obtain ⟨ad101, e101, hx101_0, hx101_1⟩ := at_T39 HR0.out x5_1 p101 q101
                cases e101
                replace p101 := eq_true p101
                replace q101 := eq_true q101
                have p102 : 0 ≤ (x5_1 : Int) := of_decide_eq_true (by first | (with_reducible assumption) | assumption)
                have q102 : x5_1 < (l1.length : Int) := of_decide_eq_true (by first | (with_reducible assumption) | assumption)
                obtain ⟨ad102, e102, hx102_0, hx102_1⟩ := at_T39 HR1.out x5_1 p102 q102
                cases e102
                replace p102 := eq_true p102
                replace q102 := eq_true q102
                go_wp2
                repeat (go_quiet (fail); try go_wp2)
                go_roundg k1
                case measure => have := HK1.out; omega
                case rel => exact ⟨(wrap64 (x5_1 + 1)), (by first | rfl | (simp; done) | (simp [*]; done)), H', ⟨by have := HK1.out; omega⟩, by repeat (first | exact Drawn0.refl _ | apply Drawn0.step)⟩
            · rw [if_neg c6] at H
              exact absurd H (by simp)
          · rw [if_neg c5] at H
            exact absurd H (by simp)
        · rw [if_neg c4] at H
          have c4b0 : decide (x5_1 < (l0.length : Int)) = false := decide_eq_false c4
          clear c4
          obtain rfl := Option.some.inj H
          go_wp2
          repeat (go_quiet (fail); try go_wp2)
          go_ret
          exact ⟨by first | rfl | (simp; done) | (simp [*]; done), by repeat (first | exact Drawn0.refl _ | apply Drawn0.step)⟩
  · rw [if_neg c3] at H
    have c3b0 : ((l0.length : Int) == (l1.length : Int)) = false := beq_eq_false_iff_ne.mpr c3
    have c3b1 : ((l0.length : Int) != (l1.length : Int)) = true := bne_iff_ne.mpr c3
    have c3b2 : (l0.length == l1.length) = false := by first | simpa using c3 | (simp at c3 ⊢; omega)
    obtain rfl := Option.some.inj H
    go_enter Try.func65, Try.ntmps65
    go_wp2
    repeat (go_quiet (fail); try go_wp2)
    go_ret
    exact ⟨by first | rfl | (simp; done) | (simp [*]; done), by repeat (first | exact Drawn0.refl _ | apply Drawn0.step)⟩
end Go.Proofs.Ytmfphlfakmnbmaa.B
end

section
namespace Go.Proofs.Ytmfphlfakmnbmaa.B
open Go.RowKit Go.Proofs.YtmfphlfakmnbmaaW.PrintWords Go.Proofs.YtmfphlfakmnbmaaW.PrintLast Go.Proofs.YtmfphlfakmnbmaaW.PrintMore
attribute [local go_sem] max2_int min2_int max_two min_two max_three min_three max_four min_four
def calxlaw08_A.f  : Option (Int × Int × Int × Int) := some (1, 0, 5, 10)
set_option maxHeartbeats 8000000 in
set_option maxRecDepth 100000 in
theorem calxlaw08_A.calls  (r1 : Int) (r2 : Int) (r3 : Int) (r4 : Int) (w : World) (h : calxlaw08_A.f  = some (r1, r2, r3, r4)) :
    Calls Try.prog 81 #[] w fun e w' => e = .returned (.agg #[.int .i64 r1, .int .i64 r2, .int .i64 r3, .int .i64 r4]) ∧ Below w.heap.size w w' := by
  have hu29 := Try.underlying29
  have HB := Aside0.mk (Below.refl w.heap.size w)
  have H : (some (1, 0, 5, 10)) = some (r1, r2, r3, r4) := h
  clear h
  simp only [Option.some.injEq, Prod.mk.injEq] at H
  obtain ⟨rfl, rfl, rfl, rfl⟩ := H
  go_enter Try.func81, Try.ntmps81
  go_wp2_with (first | ((with_reducible refine gate_dst (N := 0) rfl ?_); refine box_event ?hg (N := 0) ?hd (cs := #[.int .i64 0, .int .i64 0, .int .i64 0, .int .i64 0]) (t := 29) ?hr ?_; (case hd => rfl); (case hg => rfl); (case hr => first | (go_simp; done) | (go_simp; rfl)); intro gb101 hg w1 hbox hb; have n0_ := Aside0.mk (below_step (by repeat (first | (with_reducible first | exact HB.out | apply below_alloc | apply pw_below_drewN | apply below_drew1) | exact HB.out)) hb); have n1_ := Aside0.mk (hbox); have n2_ := Aside0.mk ((by rw [hg]; exact (below_size (by repeat (first | (with_reducible first | exact HB.out | apply below_alloc | apply pw_below_drewN | apply below_drew1) | exact HB.out))) : w.heap.size ≤ gb101)); have n3_ := Aside0.mk ((by rw [hg]; exact (below_size (by repeat (first | (with_reducible first | exact HB.out | apply below_alloc | apply pw_below_drewN | apply below_drew1) | exact HB.out))) : w.heap.size ≤ gb101)); clear HB; have HB := n0_; have BK101 := n1_; have GW101 := n2_; have GE101 := n3_; clear n0_ n1_ n2_ n3_; clear hb hbox hg; have hcz2_0 : w1.cell? ⟨gb101, 0, none⟩ = some (.int .i64 0) := (blk_cell BK101.out 0).trans rfl; have hcz2_1 : w1.cell? ⟨gb101, 1, none⟩ = some (.int .i64 0) := (blk_cell BK101.out 1).trans rfl; have hcz2_2 : w1.cell? ⟨gb101, 2, none⟩ = some (.int .i64 0) := (blk_cell BK101.out 2).trans rfl; have hcz2_3 : w1.cell? ⟨gb101, 3, none⟩ = some (.int .i64 0) := (blk_cell BK101.out 3).trans rfl; have hfz2_0 := blk_frozen BK101.out 0; have hfz2_1 := blk_frozen BK101.out 1; have hfz2_2 := blk_frozen BK101.out 2; have hfz2_3 := blk_frozen BK101.out 3))
  refine bodyPost_ret (results_cell_row rfl _ _ gb101 29 #[.int .i64 1, .int .i64 0, .int .i64 5, .int .i64 10] (0, 0) _ rfl (by (with_reducible repeat (first | refine blk_drewN ?_ _ | refine blk_drew ?_ | refine blk_alloc ?_ _)); refine blk_put (cs := #[.int .i64 1, .int .i64 0, .int .i64 5, .int .i64 0]) ?_ 3 _ rfl; (with_reducible repeat (first | refine blk_drewN ?_ _ | refine blk_drew ?_ | refine blk_alloc ?_ _)); refine blk_put (cs := #[.int .i64 1, .int .i64 0, .int .i64 0, .int .i64 0]) ?_ 2 _ rfl; (with_reducible repeat (first | refine blk_drewN ?_ _ | refine blk_drew ?_ | refine blk_alloc ?_ _)); refine blk_put (cs := #[.int .i64 1, .int .i64 0, .int .i64 0, .int .i64 0]) ?_ 1 _ rfl; (with_reducible repeat (first | refine blk_drewN ?_ _ | refine blk_drew ?_ | refine blk_alloc ?_ _)); refine blk_put (cs := #[.int .i64 0, .int .i64 0, .int .i64 0, .int .i64 0]) ?_ 0 _ rfl; (with_reducible repeat (first | refine blk_drewN ?_ _ | refine blk_drew ?_ | refine blk_alloc ?_ _)); exact BK101.out) Try.underlying29 rfl (by kernel_rfl)) rfl ?_
  exact ⟨by first | rfl | (simp [errW_none, errW_some] <;> rfl) | (simp [*, errW_none, errW_some] <;> rfl), by repeat (first | (with_reducible first | exact HB.out | apply below_alloc | apply pw_below_drewN | apply below_drew1 | refine below_set ?_ GE101.out) | exact HB.out)⟩
end Go.Proofs.Ytmfphlfakmnbmaa.B
end

section
namespace Go.Proofs.Ytmfphlfakmnbmaa.B
open Go.RowKit Go.Proofs.YtmfphlfakmnbmaaW.PrintWords Go.Proofs.YtmfphlfakmnbmaaW.PrintLast Go.Proofs.YtmfphlfakmnbmaaW.PrintMore
attribute [local go_sem] max2_int min2_int max_two min_two max_three min_three max_four min_four
def calxlaw08_B.f  : Option (Int × Int × Int × Int) := some (1, 1, 5, 4)
set_option maxHeartbeats 8000000 in
set_option maxRecDepth 100000 in
theorem calxlaw08_B.calls  (r1 : Int) (r2 : Int) (r3 : Int) (r4 : Int) (w : World) (h : calxlaw08_B.f  = some (r1, r2, r3, r4)) :
    Calls Try.prog 82 #[] w fun e w' => e = .returned (.agg #[.int .i64 r1, .int .i64 r2, .int .i64 r3, .int .i64 r4]) ∧ Below w.heap.size w w' := by
  have hu29 := Try.underlying29
  have HB := Aside0.mk (Below.refl w.heap.size w)
  have H : (some (1, 1, 5, 4)) = some (r1, r2, r3, r4) := h
  clear h
  simp only [Option.some.injEq, Prod.mk.injEq] at H
  obtain ⟨rfl, rfl, rfl, rfl⟩ := H
  go_enter Try.func82, Try.ntmps82
  go_wp2_with (first | ((with_reducible refine gate_dst (N := 0) rfl ?_); refine box_event ?hg (N := 0) ?hd (cs := #[.int .i64 0, .int .i64 0, .int .i64 0, .int .i64 0]) (t := 29) ?hr ?_; (case hd => rfl); (case hg => rfl); (case hr => first | (go_simp; done) | (go_simp; rfl)); intro gb101 hg w1 hbox hb; have n0_ := Aside0.mk (below_step (by repeat (first | (with_reducible first | exact HB.out | apply below_alloc | apply pw_below_drewN | apply below_drew1) | exact HB.out)) hb); have n1_ := Aside0.mk (hbox); have n2_ := Aside0.mk ((by rw [hg]; exact (below_size (by repeat (first | (with_reducible first | exact HB.out | apply below_alloc | apply pw_below_drewN | apply below_drew1) | exact HB.out))) : w.heap.size ≤ gb101)); have n3_ := Aside0.mk ((by rw [hg]; exact (below_size (by repeat (first | (with_reducible first | exact HB.out | apply below_alloc | apply pw_below_drewN | apply below_drew1) | exact HB.out))) : w.heap.size ≤ gb101)); clear HB; have HB := n0_; have BK101 := n1_; have GW101 := n2_; have GE101 := n3_; clear n0_ n1_ n2_ n3_; clear hb hbox hg; have hcz2_0 : w1.cell? ⟨gb101, 0, none⟩ = some (.int .i64 0) := (blk_cell BK101.out 0).trans rfl; have hcz2_1 : w1.cell? ⟨gb101, 1, none⟩ = some (.int .i64 0) := (blk_cell BK101.out 1).trans rfl; have hcz2_2 : w1.cell? ⟨gb101, 2, none⟩ = some (.int .i64 0) := (blk_cell BK101.out 2).trans rfl; have hcz2_3 : w1.cell? ⟨gb101, 3, none⟩ = some (.int .i64 0) := (blk_cell BK101.out 3).trans rfl; have hfz2_0 := blk_frozen BK101.out 0; have hfz2_1 := blk_frozen BK101.out 1; have hfz2_2 := blk_frozen BK101.out 2; have hfz2_3 := blk_frozen BK101.out 3))
  refine bodyPost_ret (results_cell_row rfl _ _ gb101 29 #[.int .i64 1, .int .i64 1, .int .i64 5, .int .i64 4] (0, 0) _ rfl (by (with_reducible repeat (first | refine blk_drewN ?_ _ | refine blk_drew ?_ | refine blk_alloc ?_ _)); refine blk_put (cs := #[.int .i64 1, .int .i64 1, .int .i64 5, .int .i64 0]) ?_ 3 _ rfl; (with_reducible repeat (first | refine blk_drewN ?_ _ | refine blk_drew ?_ | refine blk_alloc ?_ _)); refine blk_put (cs := #[.int .i64 1, .int .i64 1, .int .i64 0, .int .i64 0]) ?_ 2 _ rfl; (with_reducible repeat (first | refine blk_drewN ?_ _ | refine blk_drew ?_ | refine blk_alloc ?_ _)); refine blk_put (cs := #[.int .i64 1, .int .i64 0, .int .i64 0, .int .i64 0]) ?_ 1 _ rfl; (with_reducible repeat (first | refine blk_drewN ?_ _ | refine blk_drew ?_ | refine blk_alloc ?_ _)); refine blk_put (cs := #[.int .i64 0, .int .i64 0, .int .i64 0, .int .i64 0]) ?_ 0 _ rfl; (with_reducible repeat (first | refine blk_drewN ?_ _ | refine blk_drew ?_ | refine blk_alloc ?_ _)); exact BK101.out) Try.underlying29 rfl (by kernel_rfl)) rfl ?_
  exact ⟨by first | rfl | (simp [errW_none, errW_some] <;> rfl) | (simp [*, errW_none, errW_some] <;> rfl), by repeat (first | (with_reducible first | exact HB.out | apply below_alloc | apply pw_below_drewN | apply below_drew1 | refine below_set ?_ GE101.out) | exact HB.out)⟩
end Go.Proofs.Ytmfphlfakmnbmaa.B
end

section
namespace Go.Proofs.Ytmfphlfakmnbmaa.B
open Go.RowKit Go.Proofs.YtmfphlfakmnbmaaW.PrintWords Go.Proofs.YtmfphlfakmnbmaaW.PrintLast Go.Proofs.YtmfphlfakmnbmaaW.PrintMore
attribute [local go_sem] max2_int min2_int max_two min_two max_three min_three max_four min_four
def calxlaw08_C.f  : Option (Int × Int × Int × Int) := some (3, 0, 6, 7)
set_option maxHeartbeats 8000000 in
set_option maxRecDepth 100000 in
theorem calxlaw08_C.calls  (r1 : Int) (r2 : Int) (r3 : Int) (r4 : Int) (w : World) (h : calxlaw08_C.f  = some (r1, r2, r3, r4)) :
    Calls Try.prog 83 #[] w fun e w' => e = .returned (.agg #[.int .i64 r1, .int .i64 r2, .int .i64 r3, .int .i64 r4]) ∧ Below w.heap.size w w' := by
  have hu29 := Try.underlying29
  have HB := Aside0.mk (Below.refl w.heap.size w)
  have H : (some (3, 0, 6, 7)) = some (r1, r2, r3, r4) := h
  clear h
  simp only [Option.some.injEq, Prod.mk.injEq] at H
  obtain ⟨rfl, rfl, rfl, rfl⟩ := H
  go_enter Try.func83, Try.ntmps83
  go_wp2_with (first | ((with_reducible refine gate_dst (N := 0) rfl ?_); refine box_event ?hg (N := 0) ?hd (cs := #[.int .i64 0, .int .i64 0, .int .i64 0, .int .i64 0]) (t := 29) ?hr ?_; (case hd => rfl); (case hg => rfl); (case hr => first | (go_simp; done) | (go_simp; rfl)); intro gb101 hg w1 hbox hb; have n0_ := Aside0.mk (below_step (by repeat (first | (with_reducible first | exact HB.out | apply below_alloc | apply pw_below_drewN | apply below_drew1) | exact HB.out)) hb); have n1_ := Aside0.mk (hbox); have n2_ := Aside0.mk ((by rw [hg]; exact (below_size (by repeat (first | (with_reducible first | exact HB.out | apply below_alloc | apply pw_below_drewN | apply below_drew1) | exact HB.out))) : w.heap.size ≤ gb101)); have n3_ := Aside0.mk ((by rw [hg]; exact (below_size (by repeat (first | (with_reducible first | exact HB.out | apply below_alloc | apply pw_below_drewN | apply below_drew1) | exact HB.out))) : w.heap.size ≤ gb101)); clear HB; have HB := n0_; have BK101 := n1_; have GW101 := n2_; have GE101 := n3_; clear n0_ n1_ n2_ n3_; clear hb hbox hg; have hcz2_0 : w1.cell? ⟨gb101, 0, none⟩ = some (.int .i64 0) := (blk_cell BK101.out 0).trans rfl; have hcz2_1 : w1.cell? ⟨gb101, 1, none⟩ = some (.int .i64 0) := (blk_cell BK101.out 1).trans rfl; have hcz2_2 : w1.cell? ⟨gb101, 2, none⟩ = some (.int .i64 0) := (blk_cell BK101.out 2).trans rfl; have hcz2_3 : w1.cell? ⟨gb101, 3, none⟩ = some (.int .i64 0) := (blk_cell BK101.out 3).trans rfl; have hfz2_0 := blk_frozen BK101.out 0; have hfz2_1 := blk_frozen BK101.out 1; have hfz2_2 := blk_frozen BK101.out 2; have hfz2_3 := blk_frozen BK101.out 3))
  refine bodyPost_ret (results_cell_row rfl _ _ gb101 29 #[.int .i64 3, .int .i64 0, .int .i64 6, .int .i64 7] (0, 0) _ rfl (by (with_reducible repeat (first | refine blk_drewN ?_ _ | refine blk_drew ?_ | refine blk_alloc ?_ _)); refine blk_put (cs := #[.int .i64 3, .int .i64 0, .int .i64 6, .int .i64 0]) ?_ 3 _ rfl; (with_reducible repeat (first | refine blk_drewN ?_ _ | refine blk_drew ?_ | refine blk_alloc ?_ _)); refine blk_put (cs := #[.int .i64 3, .int .i64 0, .int .i64 0, .int .i64 0]) ?_ 2 _ rfl; (with_reducible repeat (first | refine blk_drewN ?_ _ | refine blk_drew ?_ | refine blk_alloc ?_ _)); refine blk_put (cs := #[.int .i64 3, .int .i64 0, .int .i64 0, .int .i64 0]) ?_ 1 _ rfl; (with_reducible repeat (first | refine blk_drewN ?_ _ | refine blk_drew ?_ | refine blk_alloc ?_ _)); refine blk_put (cs := #[.int .i64 0, .int .i64 0, .int .i64 0, .int .i64 0]) ?_ 0 _ rfl; (with_reducible repeat (first | refine blk_drewN ?_ _ | refine blk_drew ?_ | refine blk_alloc ?_ _)); exact BK101.out) Try.underlying29 rfl (by kernel_rfl)) rfl ?_
  exact ⟨by first | rfl | (simp [errW_none, errW_some] <;> rfl) | (simp [*, errW_none, errW_some] <;> rfl), by repeat (first | (with_reducible first | exact HB.out | apply below_alloc | apply pw_below_drewN | apply below_drew1 | refine below_set ?_ GE101.out) | exact HB.out)⟩
end Go.Proofs.Ytmfphlfakmnbmaa.B
end

section
namespace Go.Proofs.Ytmfphlfakmnbmaa.B
open Go.RowKit Go.Proofs.YtmfphlfakmnbmaaW.PrintWords Go.Proofs.YtmfphlfakmnbmaaW.PrintLast Go.Proofs.YtmfphlfakmnbmaaW.PrintMore
attribute [local go_sem] max2_int min2_int max_two min_two max_three min_three max_four min_four
def calxlaw08_places.l0 : Nat → List (S129) → List Int → Int → Option (Bool)
  | 0, _, _, _ => none
  | k + 1, x0, x1, x5 => if x5 < (x0.length : Int) then (if 0 ≤ x5 then (if 0 ≤ (wrap64 (2 * x5)) then (if (wrap64 (2 * x5)) < (x1.length : Int) then (if ((rd_T129 x0 x5).f0) = (rd x1 (wrap64 (2 * x5))) then (if 0 ≤ (wrap64 ((wrap64 (2 * x5)) + 1)) then (if (wrap64 ((wrap64 (2 * x5)) + 1)) < (x1.length : Int) then (if ((rd_T129 x0 x5).f1) = (rd x1 (wrap64 ((wrap64 (2 * x5)) + 1))) then (calxlaw08_places.l0 k x0 x1 (wrap64 (x5 + 1))) else (some false)) else (none)) else (none)) else (some false)) else (none)) else (none)) else (none)) else (some true)
def calxlaw08_places.f (k : Nat) (l0 : List (S129)) (l1 : List Int) : Option (Bool) := if (wrap64 (2 * (l0.length : Int))) = (l1.length : Int) then (calxlaw08_places.l0 k l0 l1 0) else (some false)
set_option maxHeartbeats 8000000 in
set_option maxRecDepth 100000 in
theorem calxlaw08_places.calls (k : Nat) (A0 : Option Addr) (c0 : Nat) (l0 : List (S129)) (A1 : Option Addr) (c1 : Nat) (l1 : List Int) (r : Bool) (w : World) (hr0 : Kd.C k129 w A0 l0.length l0) (hc0 : l0.length ≤ c0) (hr1 : Kd.C (Kd.int .i64) w A1 l1.length l1) (hc1 : l1.length ≤ c1) (h : calxlaw08_places.f k l0 l1 = some r) :
    Calls Try.prog 84 #[.slice A0 l0.length c0, .slice A1 l1.length c1] w fun e w' => e = .returned (.bool r) ∧ Drawn0 w w' := by
  have HR0 := Aside0.mk hr0
  have HC0 := Aside0.mk hc0
  clear hr0 hc0
  have HR1 := Aside0.mk hr1
  have HC1 := Aside0.mk hc1
  clear hr1 hc1
  have H : (if (wrap64 (2 * (l0.length : Int))) = (l1.length : Int) then (calxlaw08_places.l0 k l0 l1 0) else (some false)) = some r := h
  clear h
  by_cases c3 : (wrap64 (2 * (l0.length : Int))) = (l1.length : Int)
  · rw [if_pos c3] at H
    have c3b0 : ((wrap64 (2 * (l0.length : Int))) == (l1.length : Int)) = true := beq_iff_eq.mpr c3
    have c3b1 : ((wrap64 (2 * (l0.length : Int))) != (l1.length : Int)) = false := bne_eq_false_iff_eq.mpr c3
    clear c3
    have H' := Aside0.mk H
    clear H
    go_enter Try.func84, Try.ntmps84
    go_wp2
    repeat (go_quiet (fail); try go_wp2)
    go_loopg [5] k (fun kq v5 w' => ∃ (x5_1 : Int), v5 = .int .i64 x5_1 ∧ Aside0 (calxlaw08_places.l0 kq l0 l1 x5_1 = some r) ∧ Aside0 (kq ≤ k) ∧ Drawn0 w w')
    case atStart => exact ⟨(0), (by first | rfl | (simp; done) | (simp [*]; done)), H', ⟨Nat.le_refl _⟩, by repeat (first | exact Drawn0.refl _ | apply Drawn0.step)⟩
    case round =>
      clear H'
      try clear c1
      try clear p2
      try clear c3
      try clear c3b0
      try clear c3b1
      obtain ⟨x5_1, rfl, HA, HK1, ⟨m1, rfl⟩⟩ := hrel
      cases gk with
      | zero => exact absurd HA.out (by simp [calxlaw08_places.l0])
      | succ k1 =>
        have H := HA.out
        clear HA
        simp only [calxlaw08_places.l0] at H
        by_cases c4 : x5_1 < (l0.length : Int)
        · rw [if_pos c4] at H
          have c4b0 : decide (x5_1 < (l0.length : Int)) = true := decide_eq_true c4
          clear c4
          by_cases c5 : 0 ≤ x5_1
          · rw [if_pos c5] at H
            have c5b0 : decide (0 ≤ x5_1) = true := decide_eq_true c5
            clear c5
            obtain ⟨ji6, hji6⟩ : ∃ j_ : Int, (wrap64 (2 * x5_1)) = j_ := ⟨_, rfl⟩
            replace H : (if 0 ≤ (ji6) then (if (ji6) < (l1.length : Int) then (if ((rd_T129 l0 x5_1).f0) = (rd l1 (ji6)) then (if 0 ≤ (wrap64 ((ji6) + 1)) then (if (wrap64 ((ji6) + 1)) < (l1.length : Int) then (if ((rd_T129 l0 x5_1).f1) = (rd l1 (wrap64 ((ji6) + 1))) then (calxlaw08_places.l0 k1 l0 l1 (wrap64 (x5_1 + 1))) else (some false)) else (none)) else (none)) else (some false)) else (none)) else (none)) = some r := by first | (rw [hji6] at H; exact H) | (simp only [hji6] at H ⊢; exact H)
            have hji6w : (IntKind.i64.wrap (2 * x5_1)) = ji6 := (i64_w _).trans hji6
            by_cases c7 : 0 ≤ (ji6)
            · rw [if_pos c7] at H
              have c7b0 : decide (0 ≤ (ji6)) = true := decide_eq_true c7
              clear c7
              by_cases c8 : (ji6) < (l1.length : Int)
              · rw [if_pos c8] at H
                have c8b0 : decide ((ji6) < (l1.length : Int)) = true := decide_eq_true c8
                clear c8
                by_cases c9 : ((rd_T129 l0 x5_1).f0) = (rd l1 (ji6))
                · rw [if_pos c9] at H
                  have c9b0 : (((rd_T129 l0 x5_1).f0) == (rd l1 (ji6))) = true := beq_iff_eq.mpr c9
                  have c9b1 : (((rd_T129 l0 x5_1).f0) != (rd l1 (ji6))) = false := bne_eq_false_iff_eq.mpr c9
                  clear c9
                  obtain ⟨ji10, hji10⟩ : ∃ j_ : Int, (wrap64 ((ji6) + 1)) = j_ := ⟨_, rfl⟩
                  replace H : (if 0 ≤ (ji10) then (if (ji10) < (l1.length : Int) then (if ((rd_T129 l0 x5_1).f1) = (rd l1 (ji10)) then (calxlaw08_places.l0 k1 l0 l1 (wrap64 (x5_1 + 1))) else (some false)) else (none)) else (none)) = some r := by first | (rw [hji10] at H; exact H) | (simp only [hji10] at H ⊢; exact H)
                  have hji10w : (IntKind.i64.wrap ((ji6) + 1)) = ji10 := (i64_w _).trans hji10
                  by_cases c11 : 0 ≤ (ji10)
                  · rw [if_pos c11] at H
                    have c11b0 : decide (0 ≤ (ji10)) = true := decide_eq_true c11
                    clear c11
                    by_cases c12 : (ji10) < (l1.length : Int)
                    · rw [if_pos c12] at H
                      have c12b0 : decide ((ji10) < (l1.length : Int)) = true := decide_eq_true c12
                      clear c12
                      by_cases c13 : ((rd_T129 l0 x5_1).f1) = (rd l1 (ji10))
                      · rw [if_pos c13] at H
                        have c13b0 : (((rd_T129 l0 x5_1).f1) == (rd l1 (ji10))) = true := beq_iff_eq.mpr c13
                        have c13b1 : (((rd_T129 l0 x5_1).f1) != (rd l1 (ji10))) = false := bne_eq_false_iff_eq.mpr c13
                        clear c13
                        have H' := Aside0.mk H
                        clear H
                        have p101 : 0 ≤ (x5_1 : Int) := of_decide_eq_true (by first | (with_reducible assumption) | assumption)
                        have q101 : x5_1 < (l0.length : Int) := of_decide_eq_true (by first | (with_reducible assumption) | assumption)
                        obtain ⟨ad101, e101, hx101_0, hx101_1, hx101_2⟩ := at_T129 HR0.out x5_1 p101 q101
                        cases e101
                        replace p101 := eq_true p101
                        replace q101 := eq_true q101
                        have p102 : 0 ≤ ((ji6) : Int) := of_decide_eq_true (by first | (with_reducible assumption) | assumption)
                        have q102 : (ji6) < (l1.length : Int) := of_decide_eq_true (by first | (with_reducible assumption) | assumption)
                        obtain ⟨ad102, e102, hx102_0⟩ := Kd.at_int HR1.out (ji6) p102 q102
                        cases e102
                        replace p102 := eq_true p102
                        replace q102 := eq_true q102
                        have p103 : 0 ≤ (x5_1 : Int) := of_decide_eq_true (by first | (with_reducible assumption) | assumption)
                        have q103 : x5_1 < (l0.length : Int) := of_decide_eq_true (by first | (with_reducible assumption) | assumption)
                        obtain ⟨ad103, e103, hx103_0, hx103_1, hx103_2⟩ := at_T129 HR0.out x5_1 p103 q103
                        obtain rfl : ad101 = ad103 := (by injection e103)
                        replace p103 := eq_true p103
                        replace q103 := eq_true q103
                        have p104 : 0 ≤ ((ji10) : Int) := of_decide_eq_true (by first | (with_reducible assumption) | assumption)
                        have q104 : (ji10) < (l1.length : Int) := of_decide_eq_true (by first | (with_reducible assumption) | assumption)
                        obtain ⟨ad104, e104, hx104_0⟩ := Kd.at_int HR1.out (ji10) p104 q104
                        obtain rfl : ad102 = ad104 := (by injection e104)
                        replace p104 := eq_true p104
                        replace q104 := eq_true q104
                        go_wp2
                        repeat (go_quiet (fail); try go_wp2)
                        go_roundg k1
                        case measure => have := HK1.out; omega
                        case rel => exact ⟨(wrap64 (x5_1 + 1)), (by first | rfl | (simp; done) | (simp [*]; done)), H', ⟨by have := HK1.out; omega⟩, by repeat (first | exact Drawn0.refl _ | apply Drawn0.step)⟩
                      · rw [if_neg c13] at H
                        have c13b0 : (((rd_T129 l0 x5_1).f1) == (rd l1 (ji10))) = false := beq_eq_false_iff_ne.mpr c13
                        have c13b1 : (((rd_T129 l0 x5_1).f1) != (rd l1 (ji10))) = true := bne_iff_ne.mpr c13
                        obtain rfl := Option.some.inj H
                        have p101 : 0 ≤ (x5_1 : Int) := of_decide_eq_true (by first | (with_reducible assumption) | assumption)
                        have q101 : x5_1 < (l0.length : Int) := of_decide_eq_true (by first | (with_reducible assumption) | assumption)
                        obtain ⟨ad101, e101, hx101_0, hx101_1, hx101_2⟩ := at_T129 HR0.out x5_1 p101 q101
                        cases e101
                        replace p101 := eq_true p101
                        replace q101 := eq_true q101
                        have p102 : 0 ≤ ((ji6) : Int) := of_decide_eq_true (by first | (with_reducible assumption) | assumption)
                        have q102 : (ji6) < (l1.length : Int) := of_decide_eq_true (by first | (with_reducible assumption) | assumption)
                        obtain ⟨ad102, e102, hx102_0⟩ := Kd.at_int HR1.out (ji6) p102 q102
                        cases e102
                        replace p102 := eq_true p102
                        replace q102 := eq_true q102
                        have p103 : 0 ≤ (x5_1 : Int) := of_decide_eq_true (by first | (with_reducible assumption) | assumption)
                        have q103 : x5_1 < (l0.length : Int) := of_decide_eq_true (by first | (with_reducible assumption) | assumption)
                        obtain ⟨ad103, e103, hx103_0, hx103_1, hx103_2⟩ := at_T129 HR0.out x5_1 p103 q103
                        obtain rfl : ad101 = ad103 := (by injection e103)
                        replace p103 := eq_true p103
                        replace q103 := eq_true q103
                        have p104 : 0 ≤ ((ji10) : Int) := of_decide_eq_true (by first | (with_reducible assumption) | assumption)
                        have q104 : (ji10) < (l1.length : Int) := of_decide_eq_true (by first | (with_reducible assumption) | assumption)
                        obtain ⟨ad104, e104, hx104_0⟩ := Kd.at_int HR1.out (ji10) p104 q104
                        obtain rfl : ad102 = ad104 := (by injection e104)
                        replace p104 := eq_true p104
                        replace q104 := eq_true q104
                        go_wp2
                        repeat (go_quiet (fail); try go_wp2)
                        go_ret
                        exact ⟨by first | rfl | (simp; done) | (simp only [← hji6, ← hji10] <;> (first | rfl | simp)) | (simp [*]; done), by repeat (first | exact Drawn0.refl _ | apply Drawn0.step)⟩
                    · rw [if_neg c12] at H
                      exact absurd H (by simp)
                  · rw [if_neg c11] at H
                    exact absurd H (by simp)
                · rw [if_neg c9] at H
                  have c9b0 : (((rd_T129 l0 x5_1).f0) == (rd l1 (ji6))) = false := beq_eq_false_iff_ne.mpr c9
                  have c9b1 : (((rd_T129 l0 x5_1).f0) != (rd l1 (ji6))) = true := bne_iff_ne.mpr c9
                  obtain rfl := Option.some.inj H
                  have p101 : 0 ≤ (x5_1 : Int) := of_decide_eq_true (by first | (with_reducible assumption) | assumption)
                  have q101 : x5_1 < (l0.length : Int) := of_decide_eq_true (by first | (with_reducible assumption) | assumption)
                  obtain ⟨ad101, e101, hx101_0, hx101_1, hx101_2⟩ := at_T129 HR0.out x5_1 p101 q101
                  cases e101
                  replace p101 := eq_true p101
                  replace q101 := eq_true q101
                  have p102 : 0 ≤ ((ji6) : Int) := of_decide_eq_true (by first | (with_reducible assumption) | assumption)
                  have q102 : (ji6) < (l1.length : Int) := of_decide_eq_true (by first | (with_reducible assumption) | assumption)
                  obtain ⟨ad102, e102, hx102_0⟩ := Kd.at_int HR1.out (ji6) p102 q102
                  cases e102
                  replace p102 := eq_true p102
                  replace q102 := eq_true q102
                  go_wp2
                  repeat (go_quiet (fail); try go_wp2)
                  go_ret
                  exact ⟨by first | rfl | (simp; done) | (simp only [← hji6] <;> (first | rfl | simp)) | (simp [*]; done), by repeat (first | exact Drawn0.refl _ | apply Drawn0.step)⟩
              · rw [if_neg c8] at H
                exact absurd H (by simp)
            · rw [if_neg c7] at H
              exact absurd H (by simp)
          · rw [if_neg c5] at H
            exact absurd H (by simp)
        · rw [if_neg c4] at H
          have c4b0 : decide (x5_1 < (l0.length : Int)) = false := decide_eq_false c4
          clear c4
          obtain rfl := Option.some.inj H
          go_wp2
          repeat (go_quiet (fail); try go_wp2)
          go_ret
          exact ⟨by first | rfl | (simp; done) | (simp [*]; done), by repeat (first | exact Drawn0.refl _ | apply Drawn0.step)⟩
  · rw [if_neg c3] at H
    have c3b0 : ((wrap64 (2 * (l0.length : Int))) == (l1.length : Int)) = false := beq_eq_false_iff_ne.mpr c3
    have c3b1 : ((wrap64 (2 * (l0.length : Int))) != (l1.length : Int)) = true := bne_iff_ne.mpr c3
    obtain rfl := Option.some.inj H
    go_enter Try.func84, Try.ntmps84
    go_wp2
    repeat (go_quiet (fail); try go_wp2)
    go_ret
    exact ⟨by first | rfl | (simp; done) | (simp [*]; done), by repeat (first | exact Drawn0.refl _ | apply Drawn0.step)⟩
end Go.Proofs.Ytmfphlfakmnbmaa.B
end

section
namespace Go.Proofs.Ytmfphlfakmnbmaa.B
open Go.RowKit Go.Proofs.YtmfphlfakmnbmaaW.PrintWords Go.Proofs.YtmfphlfakmnbmaaW.PrintLast Go.Proofs.YtmfphlfakmnbmaaW.PrintMore
attribute [local go_sem] max2_int min2_int max_two min_two max_three min_three max_four min_four
abbrev eA : S29 := ⟨1, 0, 5, 10⟩
abbrev eB : S29 := ⟨1, 1, 5, 4⟩
abbrev eC : S29 := ⟨3, 0, 6, 7⟩
abbrev l3 : List S29 := [eA, eB, eC]
abbrev tS : List S129 := [⟨0, 1, 646776846⟩, ⟨2, 1, 599416721⟩]
abbrev tG2 : List S129 := [⟨0, 2, 1127476328⟩, ⟨2, 1, 599416721⟩]
abbrev tG1 : List S129 := [⟨0, 1, 646776846⟩, ⟨1, 1, 2072880994⟩, ⟨2, 1, 599416721⟩]
theorem sanD : book_Digest.f [2] = some (1000006, 0) := by kernel_rfl
theorem sanR : book_Root.f l3 = some (674735587, 0) := by kernel_rfl
theorem sanA : book_Leaf.f 1 0 5 10 = some (646776846, 0) := by kernel_rfl
theorem sanB : book_Leaf.f 1 1 5 4 = some (2072880994, 0) := by kernel_rfl
theorem sanC : book_Leaf.f 3 0 6 7 = some (599416721, 0) := by kernel_rfl
theorem sanN2 : book_Node.f 2 646776846 2072880994 = some (1127476328, 0) := by kernel_rfl
theorem sanN3 : book_Node.f 3 1127476328 599416721 = some (674735587, 0) := by kernel_rfl
theorem sanS : book_Stands.f 10 l3 1 = some (tS, 0) := by kernel_rfl
theorem sanG2 : book_Grown.f 10 l3 2 = some (tG2, 0) := by kernel_rfl
theorem sanG1 : book_Grown.f 10 l3 1 = some (tG1, 0) := by kernel_rfl
theorem sanF : book_Fork.f l3 [eA, eC] = some (1, tS, [⟨0, 1, 646776846⟩], true, 0) := by kernel_rfl
theorem sanP1 : calxlaw08_places.f 10 tS [0, 1, 2, 1] = some true := by kernel_rfl
theorem sanP2 : calxlaw08_places.f 10 tG2 [0, 2, 2, 1] = some true := by kernel_rfl
theorem sanP3 : calxlaw08_places.f 10 tG1 [0, 1, 1, 1, 2, 1] = some true := by kernel_rfl
theorem sanP4 : calxlaw08_places.f 10 [⟨0, 1, 646776846⟩] [0, 1] = some true := by kernel_rfl
theorem sanJ : book_Join.f [⟨0, [eA, eB]⟩, ⟨1, [eB, eC]⟩] = some ([⟨0, l3⟩], 0) := by kernel_rfl
theorem sanM : book_Missing.f [⟨1, [eB]⟩] 3 = some ([⟨0, 0⟩, ⟨2, 2⟩], 0) := by kernel_rfl
theorem sanT : book_Total.f l3 0 5 3 = some (10, 0) := by kernel_rfl
theorem sanMj : book_Majority.f [l3, [eA, eB], [eA, eC]] = some ([eA, eB], 0) := by kernel_rfl
theorem sanB1 : calxref08_SameBook.f 10 l3 l3 = some true := by kernel_rfl
theorem sanB2 : calxref08_SameBook.f 10 [eA, eB] [eA, eB] = some true := by kernel_rfl
theorem sanSp : calxref08_SameSpans.f 10 [⟨0, 0⟩, ⟨2, 2⟩] [⟨0, 0⟩, ⟨2, 2⟩] = some true := by kernel_rfl
theorem C_block {α : Type} {d : Kd α} {W : World} {g : Nat} {t : TypeId} {inner : List Value} {ps : List α} (hr : Reps (d.K W) d.sz ps inner) (hb : W.heap[g]? = some (.cells inner.toArray t (0, 0))) (hm : ps.length ≤ 9223372036854775807) : d.C W (some ⟨g, 0, none⟩) ps.length ps := by
  refine ⟨rfl, hm, fun _ => ⟨⟨g, 0, none⟩, rfl, fun j p hj => ?_⟩⟩
  have hk := hr.2 j p hj
  refine ⟨_, d.K_len hk, hk, fun i u hu => ?_⟩
  rw [add_plain, blk_cell hb]
  rw [List.getElem?_take] at hu
  split at hu
  · rw [List.getElem?_drop] at hu
    simpa using hu
  · cases hu
end Go.Proofs.Ytmfphlfakmnbmaa.B
end

section
namespace Go.Proofs.Ytmfphlfakmnbmaa.B
open Go.RowKit Go.Proofs.YtmfphlfakmnbmaaW.PrintWords Go.Proofs.YtmfphlfakmnbmaaW.PrintLast Go.Proofs.YtmfphlfakmnbmaaW.PrintMore
attribute [local go_sem] max2_int min2_int max_two min_two max_three min_three max_four min_four
def calxlaw08_sanity.f : Option Bool := some true
def R22_17.T : Bool × List (List Nat × List Nat) := (true, [([], []), ([0], [0]), ([1], [1]), ([], []), ([3], [3]), ([4], [4]), ([2, 5], [2, 5]), ([6], [6]), ([7], [7]), ([8], [8]), ([8], [8]), ([9, 7, 0, 1, 2, 3, 4, 5, 6, 7, 8, 9], [9]), ([10, 11, 0, 1, 2, 3, 4, 5, 6, 7, 8, 9, 10, 11], [10])])
def R22_17.B : List Nat := [0, 1, 3, 0, 8, 24, 63, 127, 255, 511, 511, 1023, 4095]
theorem R22_17.tab : rtab .any (opsOf Try.f22 17) = R22_17.T := by kernel_rfl
theorem R22_17.bits : waitsOk R22_17.T.2 R22_17.B = true := by kernel_rfl
def R22_20.T : Bool × List (List Nat × List Nat) := (true, [([], []), ([], []), ([1], [1]), ([], []), ([3], []), ([3, 4], [3, 4]), ([0, 2, 5], [0, 2, 5]), ([6, 4], [6]), ([7], [7]), ([8], [8]), ([8], [8]), ([9, 7, 0, 1, 2, 3, 4, 5, 6, 7, 8, 9], [9]), ([10, 11, 0, 1, 2, 3, 4, 5, 6, 7, 8, 9, 10, 11], [10])])
def R22_20.B : List Nat := [0, 0, 2, 0, 8, 24, 63, 127, 255, 511, 511, 1023, 4095]
theorem R22_20.tab : rtab .any (opsOf Try.f22 20) = R22_20.T := by kernel_rfl
theorem R22_20.bits : waitsOk R22_20.T.2 R22_20.B = true := by kernel_rfl
set_option maxRecDepth 100000 in
set_option maxHeartbeats 4000000 in
theorem calxlaw08_sanity.calls (r : Bool) (w : World) (h : calxlaw08_sanity.f = some r) : Calls Try.prog 22 #[] w fun e w' => e = .returned (.bool r) ∧ Below w.heap.size w w' := by
  obtain rfl := Option.some.inj h
  clear h
  have hu29 := Try.underlying29
  have hu34 := Try.underlying34
  have hu39 := Try.underlying39
  have hu129 := Try.underlying129
  have hn := run_not'
  have B0 := Aside0.mk (Below.refl w.heap.size w)
  go_enter Try.func22, Try.ntmps22
  go_wp2_with fail
  refine (calxlaw08_A.calls 1 0 5 10 _ rfl).mono ?_
  rintro e u1 ⟨rfl, hd⟩
  have B1 := Aside0.mk (below_step (by repeat (first | exact B0.out | apply below_alloc | apply pw_below_drewN | apply below_drew1)) hd)
  clear hd B0 
  go_wp2_with fail
  refine (calxlaw08_B.calls 1 1 5 4 _ rfl).mono ?_
  rintro e u2 ⟨rfl, hd⟩
  have B2 := Aside0.mk (below_step (by repeat (first | exact B1.out | apply below_alloc | apply pw_below_drewN | apply below_drew1)) hd)
  clear hd B1 
  go_wp2_with fail
  refine (calxlaw08_C.calls 3 0 6 7 _ rfl).mono ?_
  rintro e u3 ⟨rfl, hd⟩
  have B3 := Aside0.mk (below_step (by repeat (first | exact B2.out | apply below_alloc | apply pw_below_drewN | apply below_drew1)) hd)
  clear hd B2 
  have l_0 := Aside0.mk (show Kd.C k29 (u3.alloc (.cells #[.int .i64 1, .int .i64 0, .int .i64 5, .int .i64 10, .int .i64 1, .int .i64 1, .int .i64 5, .int .i64 4, .int .i64 3, .int .i64 0, .int .i64 6, .int .i64 7] 29)) (some ⟨u3.heap.size, 0, none⟩) l3.length l3 from C_block (inner := [.int .i64 1, .int .i64 0, .int .i64 5, .int .i64 10, .int .i64 1, .int .i64 1, .int .i64 5, .int .i64 4, .int .i64 3, .int .i64 0, .int .i64 6, .int .i64 7]) (Reps.front (k29_mk _ eA) rfl (Reps.front (k29_mk _ eB) rfl (Reps.front (k29_mk _ eC) rfl (Reps.none _ _) rfl) rfl) rfl) (blk_new' _ _ _ rfl) (by decide))
  go_wp2_with fail
  refine (book_Digest.calls (some ⟨u3.heap.size + 1, 0, none⟩) 1 [2] _ _ _ (C_intsBlock [2] (blk_new' _ _ _ (by simp)) (by decide)) (by decide) sanD).mono ?_
  rintro e u4 ⟨rfl, nq, rfl⟩
  go_wp2_with fail
  refine (book_Root.calls _ 3 l3 _ _ _ (by repeat (first | exact l_0.out | apply Kd.C_alloc | apply Kd.C_drewN | apply Kd.C_drew)) (by decide) sanR).mono ?_
  rintro e u5 ⟨rfl, hd⟩
  have B4 := Aside0.mk (below_step (by repeat (first | exact B3.out | apply below_alloc | apply pw_below_drewN | apply below_drew1)) hd)
  have l_4 := Aside0.mk (show Kd.C k29 u5 (some ⟨u3.heap.size, 0, none⟩) l3.length l3 from Kd.C_below (by repeat (first | exact l_0.out | apply Kd.C_alloc | apply Kd.C_drewN | apply Kd.C_drew)) hd)
  clear hd B3 l_0
  go_wp2_with fail
  refine (calxlaw08_A.calls 1 0 5 10 _ rfl).mono ?_
  rintro e u6 ⟨rfl, hd⟩
  have B5 := Aside0.mk (below_step (by repeat (first | exact B4.out | apply below_alloc | apply pw_below_drewN | apply below_drew1)) hd)
  have l_5 := Aside0.mk (show Kd.C k29 u6 (some ⟨u3.heap.size, 0, none⟩) l3.length l3 from Kd.C_below (by repeat (first | exact l_4.out | apply Kd.C_alloc | apply Kd.C_drewN | apply Kd.C_drew)) hd)
  clear hd B4 l_4
  go_wp2_with fail
  refine (book_Leaf.calls 1 0 5 10 _ _ _ sanA).mono ?_
  rintro e u7 ⟨rfl, hd⟩
  have B6 := Aside0.mk (below_step (by repeat (first | exact B5.out | apply below_alloc | apply pw_below_drewN | apply below_drew1)) hd)
  have l_6 := Aside0.mk (show Kd.C k29 u7 (some ⟨u3.heap.size, 0, none⟩) l3.length l3 from Kd.C_below (by repeat (first | exact l_5.out | apply Kd.C_alloc | apply Kd.C_drewN | apply Kd.C_drew)) hd)
  clear hd B5 l_5
  go_wp2_with fail
  refine (calxlaw08_B.calls 1 1 5 4 _ rfl).mono ?_
  rintro e u8 ⟨rfl, hd⟩
  have B7 := Aside0.mk (below_step (by repeat (first | exact B6.out | apply below_alloc | apply pw_below_drewN | apply below_drew1)) hd)
  have l_7 := Aside0.mk (show Kd.C k29 u8 (some ⟨u3.heap.size, 0, none⟩) l3.length l3 from Kd.C_below (by repeat (first | exact l_6.out | apply Kd.C_alloc | apply Kd.C_drewN | apply Kd.C_drew)) hd)
  clear hd B6 l_6
  go_wp2_with fail
  refine (book_Leaf.calls 1 1 5 4 _ _ _ sanB).mono ?_
  rintro e u9 ⟨rfl, hd⟩
  have B8 := Aside0.mk (below_step (by repeat (first | exact B7.out | apply below_alloc | apply pw_below_drewN | apply below_drew1)) hd)
  have l_8 := Aside0.mk (show Kd.C k29 u9 (some ⟨u3.heap.size, 0, none⟩) l3.length l3 from Kd.C_below (by repeat (first | exact l_7.out | apply Kd.C_alloc | apply Kd.C_drewN | apply Kd.C_drew)) hd)
  clear hd B7 l_7
  go_wp2_with fail
  refine (calxlaw08_C.calls 3 0 6 7 _ rfl).mono ?_
  rintro e u10 ⟨rfl, hd⟩
  have B9 := Aside0.mk (below_step (by repeat (first | exact B8.out | apply below_alloc | apply pw_below_drewN | apply below_drew1)) hd)
  have l_9 := Aside0.mk (show Kd.C k29 u10 (some ⟨u3.heap.size, 0, none⟩) l3.length l3 from Kd.C_below (by repeat (first | exact l_8.out | apply Kd.C_alloc | apply Kd.C_drewN | apply Kd.C_drew)) hd)
  clear hd B8 l_8
  go_wp2_with fail
  refine (book_Leaf.calls 3 0 6 7 _ _ _ sanC).mono ?_
  rintro e u11 ⟨rfl, hd⟩
  have B10 := Aside0.mk (below_step (by repeat (first | exact B9.out | apply below_alloc | apply pw_below_drewN | apply below_drew1)) hd)
  have l_10 := Aside0.mk (show Kd.C k29 u11 (some ⟨u3.heap.size, 0, none⟩) l3.length l3 from Kd.C_below (by repeat (first | exact l_9.out | apply Kd.C_alloc | apply Kd.C_drewN | apply Kd.C_drew)) hd)
  clear hd B9 l_9
  go_wp2_with fail
  refine (book_Node.calls _ _ _ _ _ _ sanN2).mono ?_
  rintro e u12 ⟨rfl, hd⟩
  have B11 := Aside0.mk (below_step (by repeat (first | exact B10.out | apply below_alloc | apply pw_below_drewN | apply below_drew1)) hd)
  have l_11 := Aside0.mk (show Kd.C k29 u12 (some ⟨u3.heap.size, 0, none⟩) l3.length l3 from Kd.C_below (by repeat (first | exact l_10.out | apply Kd.C_alloc | apply Kd.C_drewN | apply Kd.C_drew)) hd)
  clear hd B10 l_10
  go_wp2_with fail
  refine (book_Node.calls _ _ _ _ _ _ sanN3).mono ?_
  rintro e u13 ⟨rfl, hd⟩
  have B12 := Aside0.mk (below_step (by repeat (first | exact B11.out | apply below_alloc | apply pw_below_drewN | apply below_drew1)) hd)
  have l_12 := Aside0.mk (show Kd.C k29 u13 (some ⟨u3.heap.size, 0, none⟩) l3.length l3 from Kd.C_below (by repeat (first | exact l_11.out | apply Kd.C_alloc | apply Kd.C_drewN | apply Kd.C_drew)) hd)
  clear hd B11 l_11
  go_wp2_with fail
  refine (book_Stands.calls 10 _ 3 l3 _ _ _ _ (by repeat (first | exact l_12.out | apply Kd.C_alloc | apply Kd.C_drewN | apply Kd.C_drew)) (by decide) sanS).mono ?_
  rintro e u14 ⟨v0, rfl, hr, hd⟩
  have B13 := Aside0.mk (below_step (by repeat (first | exact B12.out | apply below_alloc | apply pw_below_drewN | apply below_drew1)) hd)
  have l_13 := Aside0.mk (show Kd.C k29 u14 (some ⟨u3.heap.size, 0, none⟩) l3.length l3 from Kd.C_below (by repeat (first | exact l_12.out | apply Kd.C_alloc | apply Kd.C_drewN | apply Kd.C_drew)) hd)
  clear hd B12 l_12
  obtain ⟨gp, cp, rfl, _, _, _⟩ := Kd.R_form hr (by decide)
  have Cp : Kd.C k129 u14 (some ⟨gp, 0, none⟩) tS.length tS ∧ tS.length ≤ cp := by
    obtain ⟨_, _, e_, h1_, h_⟩ := Kd.R_reads hr
    injection e_ with e1 _ e3
    rw [e1, e3]
    exact ⟨h_, h1_⟩
  have p_0 := Aside0.mk Cp.1
  have Lp := Aside0.mk Cp.2
  clear Cp hr
  go_wp2_with fail
  refine (book_Grown.calls 10 _ 3 l3 _ _ _ _ (by repeat (first | exact l_13.out | apply Kd.C_alloc | apply Kd.C_drewN | apply Kd.C_drew)) (by decide) sanG2).mono ?_
  rintro e u15 ⟨v0, rfl, hr, hd⟩
  have B14 := Aside0.mk (below_step (by repeat (first | exact B13.out | apply below_alloc | apply pw_below_drewN | apply below_drew1)) hd)
  have l_14 := Aside0.mk (show Kd.C k29 u15 (some ⟨u3.heap.size, 0, none⟩) l3.length l3 from Kd.C_below (by repeat (first | exact l_13.out | apply Kd.C_alloc | apply Kd.C_drewN | apply Kd.C_drew)) hd)
  have p_14 := Aside0.mk (show Kd.C k129 u15 (some ⟨gp, 0, none⟩) tS.length tS from Kd.C_below (by repeat (first | exact p_0.out | apply Kd.C_alloc | apply Kd.C_drewN | apply Kd.C_drew)) hd)
  clear hd B13 l_13 p_0
  obtain ⟨gq, cq, rfl, _, _, _⟩ := Kd.R_form hr (by decide)
  have Cq : Kd.C k129 u15 (some ⟨gq, 0, none⟩) tG2.length tG2 ∧ tG2.length ≤ cq := by
    obtain ⟨_, _, e_, h1_, h_⟩ := Kd.R_reads hr
    injection e_ with e1 _ e3
    rw [e1, e3]
    exact ⟨h_, h1_⟩
  have q_0 := Aside0.mk Cq.1
  have Lq := Aside0.mk Cq.2
  clear Cq hr
  go_wp2_with fail
  refine (book_Grown.calls 10 _ 3 l3 _ _ _ _ (by repeat (first | exact l_14.out | apply Kd.C_alloc | apply Kd.C_drewN | apply Kd.C_drew)) (by decide) sanG1).mono ?_
  rintro e u16 ⟨v0, rfl, hr, hd⟩
  have B15 := Aside0.mk (below_step (by repeat (first | exact B14.out | apply below_alloc | apply pw_below_drewN | apply below_drew1)) hd)
  have l_15 := Aside0.mk (show Kd.C k29 u16 (some ⟨u3.heap.size, 0, none⟩) l3.length l3 from Kd.C_below (by repeat (first | exact l_14.out | apply Kd.C_alloc | apply Kd.C_drewN | apply Kd.C_drew)) hd)
  have p_15 := Aside0.mk (show Kd.C k129 u16 (some ⟨gp, 0, none⟩) tS.length tS from Kd.C_below (by repeat (first | exact p_14.out | apply Kd.C_alloc | apply Kd.C_drewN | apply Kd.C_drew)) hd)
  have q_15 := Aside0.mk (show Kd.C k129 u16 (some ⟨gq, 0, none⟩) tG2.length tG2 from Kd.C_below (by repeat (first | exact q_0.out | apply Kd.C_alloc | apply Kd.C_drewN | apply Kd.C_drew)) hd)
  clear hd B14 l_14 p_14 q_0
  obtain ⟨gs, cs, rfl, _, _, _⟩ := Kd.R_form hr (by decide)
  have Cs : Kd.C k129 u16 (some ⟨gs, 0, none⟩) tG1.length tG1 ∧ tG1.length ≤ cs := by
    obtain ⟨_, _, e_, h1_, h_⟩ := Kd.R_reads hr
    injection e_ with e1 _ e3
    rw [e1, e3]
    exact ⟨h_, h1_⟩
  have s_0 := Aside0.mk Cs.1
  have Ls := Aside0.mk Cs.2
  clear Cs hr
  go_wp2_with fail
  refine (calxlaw08_A.calls 1 0 5 10 _ rfl).mono ?_
  rintro e u17 ⟨rfl, hd⟩
  have B16 := Aside0.mk (below_step (by repeat (first | exact B15.out | apply below_alloc | apply pw_below_drewN | apply below_drew1)) hd)
  have l_16 := Aside0.mk (show Kd.C k29 u17 (some ⟨u3.heap.size, 0, none⟩) l3.length l3 from Kd.C_below (by repeat (first | exact l_15.out | apply Kd.C_alloc | apply Kd.C_drewN | apply Kd.C_drew)) hd)
  have p_16 := Aside0.mk (show Kd.C k129 u17 (some ⟨gp, 0, none⟩) tS.length tS from Kd.C_below (by repeat (first | exact p_15.out | apply Kd.C_alloc | apply Kd.C_drewN | apply Kd.C_drew)) hd)
  have q_16 := Aside0.mk (show Kd.C k129 u17 (some ⟨gq, 0, none⟩) tG2.length tG2 from Kd.C_below (by repeat (first | exact q_15.out | apply Kd.C_alloc | apply Kd.C_drewN | apply Kd.C_drew)) hd)
  have s_16 := Aside0.mk (show Kd.C k129 u17 (some ⟨gs, 0, none⟩) tG1.length tG1 from Kd.C_below (by repeat (first | exact s_0.out | apply Kd.C_alloc | apply Kd.C_drewN | apply Kd.C_drew)) hd)
  clear hd B15 l_15 p_15 q_15 s_0
  go_wp2_with fail
  refine (calxlaw08_C.calls 3 0 6 7 _ rfl).mono ?_
  rintro e u18 ⟨rfl, hd⟩
  have B17 := Aside0.mk (below_step (by repeat (first | exact B16.out | apply below_alloc | apply pw_below_drewN | apply below_drew1)) hd)
  have l_17 := Aside0.mk (show Kd.C k29 u18 (some ⟨u3.heap.size, 0, none⟩) l3.length l3 from Kd.C_below (by repeat (first | exact l_16.out | apply Kd.C_alloc | apply Kd.C_drewN | apply Kd.C_drew)) hd)
  have p_17 := Aside0.mk (show Kd.C k129 u18 (some ⟨gp, 0, none⟩) tS.length tS from Kd.C_below (by repeat (first | exact p_16.out | apply Kd.C_alloc | apply Kd.C_drewN | apply Kd.C_drew)) hd)
  have q_17 := Aside0.mk (show Kd.C k129 u18 (some ⟨gq, 0, none⟩) tG2.length tG2 from Kd.C_below (by repeat (first | exact q_16.out | apply Kd.C_alloc | apply Kd.C_drewN | apply Kd.C_drew)) hd)
  have s_17 := Aside0.mk (show Kd.C k129 u18 (some ⟨gs, 0, none⟩) tG1.length tG1 from Kd.C_below (by repeat (first | exact s_16.out | apply Kd.C_alloc | apply Kd.C_drewN | apply Kd.C_drew)) hd)
  clear hd B16 l_16 p_16 q_16 s_16
  have m_0 := Aside0.mk (show Kd.C k29 (u18.alloc (.cells #[.int .i64 1, .int .i64 0, .int .i64 5, .int .i64 10, .int .i64 3, .int .i64 0, .int .i64 6, .int .i64 7] 29)) (some ⟨u18.heap.size, 0, none⟩) 2 [eA, eC] from C_block (inner := [.int .i64 1, .int .i64 0, .int .i64 5, .int .i64 10, .int .i64 3, .int .i64 0, .int .i64 6, .int .i64 7]) (Reps.front (k29_mk _ eA) rfl (Reps.front (k29_mk _ eC) rfl (Reps.none _ _) rfl) rfl) (blk_new' _ _ _ rfl) (by decide))
  go_wp2_with fail
  refine (book_Fork.calls _ 3 l3 _ 2 [eA, eC] _ _ _ _ _ _ (by repeat (first | exact l_17.out | apply Kd.C_alloc | apply Kd.C_drewN | apply Kd.C_drew)) (by decide) m_0.out (by decide) sanF).mono ?_
  rintro e u19 ⟨v1, v2, rfl, hr1, hr2, hd⟩
  clear m_0
  have B18 := Aside0.mk (below_step (by repeat (first | exact B17.out | apply below_alloc | apply pw_below_drewN | apply below_drew1)) hd)
  have l_18 := Aside0.mk (show Kd.C k29 u19 (some ⟨u3.heap.size, 0, none⟩) l3.length l3 from Kd.C_below (by repeat (first | exact l_17.out | apply Kd.C_alloc | apply Kd.C_drewN | apply Kd.C_drew)) hd)
  have p_18 := Aside0.mk (show Kd.C k129 u19 (some ⟨gp, 0, none⟩) tS.length tS from Kd.C_below (by repeat (first | exact p_17.out | apply Kd.C_alloc | apply Kd.C_drewN | apply Kd.C_drew)) hd)
  have q_18 := Aside0.mk (show Kd.C k129 u19 (some ⟨gq, 0, none⟩) tG2.length tG2 from Kd.C_below (by repeat (first | exact q_17.out | apply Kd.C_alloc | apply Kd.C_drewN | apply Kd.C_drew)) hd)
  have s_18 := Aside0.mk (show Kd.C k129 u19 (some ⟨gs, 0, none⟩) tG1.length tG1 from Kd.C_below (by repeat (first | exact s_17.out | apply Kd.C_alloc | apply Kd.C_drewN | apply Kd.C_drew)) hd)
  clear hd B17 l_17 p_17 q_17 s_17
  obtain ⟨gx, cx, rfl, _, _, _⟩ := Kd.R_form hr1 (by decide)
  have Cx : Kd.C k129 u19 (some ⟨gx, 0, none⟩) tS.length tS ∧ tS.length ≤ cx := by
    obtain ⟨_, _, e_, h1_, h_⟩ := Kd.R_reads hr1
    injection e_ with e1 _ e3
    rw [e1, e3]
    exact ⟨h_, h1_⟩
  have x_0 := Aside0.mk Cx.1
  have Lx := Aside0.mk Cx.2
  clear Cx hr1
  obtain ⟨gy, cy, rfl, _, _, _⟩ := Kd.R_form hr2 (by decide)
  have Cy : Kd.C k129 u19 (some ⟨gy, 0, none⟩) 1 [⟨0, 1, 646776846⟩] ∧ 1 ≤ cy := by
    obtain ⟨_, _, e_, h1_, h_⟩ := Kd.R_reads hr2
    injection e_ with e1 _ e3
    rw [e1, e3]
    exact ⟨h_, h1_⟩
  have y_0 := Aside0.mk Cy.1
  have Ly := Aside0.mk Cy.2
  clear Cy hr2
  obtain ⟨ad0, e0, _, _, hd2⟩ := at_T129 p_18.out (0 : Int) (by decide) (by decide)
  injection e0 with e0
  subst e0
  obtain ⟨ad0, e0, _, _, hd5⟩ := at_T129 p_18.out (1 : Int) (by decide) (by decide)
  injection e0 with e0
  subst e0
  have hq2 : ∀ o n, ((u19.alloc o).drewN n).cell? ⟨gp, 2, none⟩ = some (.int .i64 646776846) := fun o n => (World.cell?_alloc_lt _ _ _ (World.block_lt_of_cell? _ _ hd2)).trans hd2
  have hq5 : ∀ o n, ((u19.alloc o).drewN n).cell? ⟨gp, 5, none⟩ = some (.int .i64 599416721) := fun o n => (World.cell?_alloc_lt _ _ _ (World.block_lt_of_cell? _ _ hd5)).trans hd5
  clear hd2 hd5
  go_wp2_with fail
  refine (calxlaw08_places.calls 10 _ _ tS _ 4 [0, 1, 2, 1] _ _ (by repeat (first | exact p_18.out | apply Kd.C_alloc | apply Kd.C_drewN | apply Kd.C_drew)) Lp.out (C_intsBlock [0, 1, 2, 1] (blk_new' _ _ _ (by simp)) (by decide)) (by decide) sanP1).mono ?_
  rintro e u ⟨rfl, n0, rfl⟩
  have z0 : (0 : Int) < 2 := by decide
  have z1 : (1 : Int) < 2 := by decide
  go_wp2_with fail
  refine (calxlaw08_places.calls 10 _ _ tG2 _ 4 [0, 2, 2, 1] _ _ (by repeat (first | exact q_18.out | apply Kd.C_alloc | apply Kd.C_drewN | apply Kd.C_drew)) Lq.out (C_intsBlock [0, 2, 2, 1] (blk_new' _ _ _ (by simp)) (by decide)) (by decide) sanP2).mono ?_
  rintro e u ⟨rfl, n1, rfl⟩
  go_wp2_with fail
  refine (calxlaw08_places.calls 10 _ _ tG1 _ 6 [0, 1, 1, 1, 2, 1] _ _ (by repeat (first | exact s_18.out | apply Kd.C_alloc | apply Kd.C_drewN | apply Kd.C_drew)) Ls.out (C_intsBlock [0, 1, 1, 1, 2, 1] (blk_new' _ _ _ (by simp)) (by decide)) (by decide) sanP3).mono ?_
  rintro e u ⟨rfl, n2, rfl⟩
  go_wp2_with fail
  refine (calxlaw08_places.calls 10 _ _ tS _ 4 [0, 1, 2, 1] _ _ (by repeat (first | exact x_0.out | apply Kd.C_alloc | apply Kd.C_drewN | apply Kd.C_drew)) Lx.out (C_intsBlock [0, 1, 2, 1] (blk_new' _ _ _ (by simp)) (by decide)) (by decide) sanP1).mono ?_
  rintro e u ⟨rfl, n3, rfl⟩
  go_wp2_with fail
  refine (calxlaw08_places.calls 10 _ _ [(⟨0, 1, 646776846⟩ : S129)] _ 2 [0, 1] _ _ (by repeat (first | exact y_0.out | apply Kd.C_alloc | apply Kd.C_drewN | apply Kd.C_drew)) Ly.out (C_intsBlock [0, 1] (blk_new' _ _ _ (by simp)) (by decide)) (by decide) sanP4).mono ?_
  rintro e u20 ⟨rfl, hdr⟩
  have hd := hdr.below
  clear hdr hq2 hq5 z0 z1
  have B19 := Aside0.mk (below_step (by repeat (first | exact B18.out | apply below_alloc | apply pw_below_drewN | apply below_drew1)) hd)
  have l_19 := Aside0.mk (show Kd.C k29 u20 (some ⟨u3.heap.size, 0, none⟩) l3.length l3 from Kd.C_below (by repeat (first | exact l_18.out | apply Kd.C_alloc | apply Kd.C_drewN | apply Kd.C_drew)) hd)
  clear hd B18 l_18
  obtain ⟨bl, hbl⟩ : ∃ bl, bl = u3.heap.size := ⟨_, rfl⟩
  obtain ⟨i0, hi, _, hsz, _⟩ := info_parts info29
  have hA : ∀ W : World, (Instr.slice 32 (.slice (some ⟨bl, 0, none⟩) 3 3) none (some (.int .i64 2)) none).run Try.prog W = .ok (.slice (some ⟨bl, 0, none⟩) 2 3) W := cut_to (P := Try.prog) 32 29 .i64 Try.underlying32 hi (some ⟨bl, 0, none⟩) 3 3 2 (by decide) (by decide) (by decide)
  have hB : ∀ W : World, (Instr.slice 32 (.slice (some ⟨bl, 0, none⟩) 3 3) (some (.int .i64 1)) none none).run Try.prog W = .ok (.slice (some ⟨bl, 4, none⟩) 2 2) W := by
    have h := cut_from (P := Try.prog) 32 29 .i64 Try.underlying32 hi 4 hsz (some ⟨bl, 0, none⟩) 3 3 1 (by decide) (by decide)
    simpa [add_plain] using h
  have hM : ∀ W : World, (Instr.slice 32 (.slice (some ⟨bl, 0, none⟩) 3 3) (some (.int .i64 1)) (some (.int .i64 2)) none).run Try.prog W = .ok (.slice (some ⟨bl, 4, none⟩) 1 2) W := by
    have h := cut_mid (P := Try.prog) 32 29 .i64 .i64 Try.underlying32 hi 4 hsz (some ⟨bl, 0, none⟩) 3 3 1 2 (by decide) (by decide) (by decide) (by decide)
    simpa [add_plain] using h
  clear hi hsz
  have k_0 := Aside0.mk (show Kd.C k29 u20 (some ⟨bl, 0, none⟩) 3 l3 by rw [hbl]; exact l_19.out)
  have a_0 := Aside0.mk (show Kd.C k29 u20 (some ⟨bl, 0, none⟩) 2 [eA, eB] from Kd.C_take (m := 2) (show Kd.C k29 u20 (some ⟨bl, 0, none⟩) l3.length l3 from k_0.out) (by decide))
  have b_0 := Aside0.mk (show Kd.C k29 u20 (some ⟨bl, 4, none⟩) 2 [eB, eC] by have h := Kd.C_drop (c := 3) (m := 1) (show Kd.C k29 u20 (some ⟨bl, 0, none⟩) l3.length l3 from k_0.out) (by decide) (by decide); simpa [add_plain, show k29.sz = 4 from rfl] using h)
  have m_0 := Aside0.mk (show Kd.C k29 u20 (some ⟨bl, 4, none⟩) 1 [eB] from Kd.C_take (m := 1) (xs := [eB, eC]) b_0.out (by decide))
  rw [← hbl]
  clear hbl l_19
  go_wp2
  have B20 := Aside0.mk (below_drew1 (by repeat (first | exact B19.out | apply below_alloc | apply pw_below_drewN | apply below_drew1)))
  have k_20 := Aside0.mk (show Kd.C k29 (u20).drew (some ⟨bl, 0, none⟩) 3 l3 from Kd.C_drew (by repeat (first | exact k_0.out | apply Kd.C_alloc | apply Kd.C_drewN | apply Kd.C_drew)))
  have a_20 := Aside0.mk (show Kd.C k29 (u20).drew (some ⟨bl, 0, none⟩) 2 [eA, eB] from Kd.C_drew (by repeat (first | exact a_0.out | apply Kd.C_alloc | apply Kd.C_drewN | apply Kd.C_drew)))
  have b_20 := Aside0.mk (show Kd.C k29 (u20).drew (some ⟨bl, 4, none⟩) 2 [eB, eC] from Kd.C_drew (by repeat (first | exact b_0.out | apply Kd.C_alloc | apply Kd.C_drewN | apply Kd.C_drew)))
  have m_20 := Aside0.mk (show Kd.C k29 (u20).drew (some ⟨bl, 4, none⟩) 1 [eB] from Kd.C_drew (by repeat (first | exact m_0.out | apply Kd.C_alloc | apply Kd.C_drewN | apply Kd.C_drew)))
  clear B19 k_0 a_0 b_0 m_0
  refine start_ (n := 13) (S := fun w' => True) (ds := []) #[false, false, false, false, false, false, false, false, false, false, false, false, false] (by kernel_rfl) rfl rfl trivial (fun hHeld => ?_); refine with_tabW R22_17.tab R22_17.bits (fun HT_ HW_ => ?_)
  generalize (u20).drew = d17 at B20 k_20 a_20 b_20 m_20 hHeld ⊢
  refine pure_ (i := 0) (N := (some 206)) (v := ?_) (a' := ?_) #[true, false, false, false, false, false, false, false, false, false, false, false, false] rfl rfl (any_of HT_.out (by kernel_rfl)) (fun _ _ _ h => h) (Or.inl ⟨by rfl, ?_⟩) ?_ ?_
  rotate_left
  · intro w'
    go_simp
    with_reducible rfl
  rotate_left
  · simp only [Act.put, List.setIfInBounds_toArray, List.set_cons_zero, List.set_cons_succ, i64_w, i32_w]
    rfl
  refine pure_ (i := 1) (N := (some 207)) (v := ?_) (a' := ?_) #[true, true, false, false, false, false, false, false, false, false, false, false, false] rfl rfl (any_of HT_.out (by kernel_rfl)) (fun _ _ _ h => h) (Or.inl ⟨by rfl, ?_⟩) ?_ ?_
  rotate_left
  · intro w'
    go_simp
    with_reducible rfl
  rotate_left
  · simp only [Act.put, List.setIfInBounds_toArray, List.set_cons_zero, List.set_cons_succ, i64_w, i32_w]
    rfl
  refine pure_ (i := 2) (N := (some 208)) (v := ?_) (a' := ?_) #[true, true, true, false, false, false, false, false, false, false, false, false, false] rfl rfl (any_of HT_.out (by kernel_rfl)) (fun _ _ _ h => h) (Or.inl ⟨by rfl, ?_⟩) ?_ ?_
  rotate_left
  · intro w'
    go_simp
    with_reducible rfl
  rotate_left
  · simp only [Act.put, List.setIfInBounds_toArray, List.set_cons_zero, List.set_cons_succ, i64_w, i32_w]
    rfl
  refine pure_ (i := 3) (N := (some 209)) (v := ?_) (a' := ?_) #[true, true, true, true, false, false, false, false, false, false, false, false, false] rfl rfl (any_of HT_.out (by kernel_rfl)) (fun _ _ _ h => h) (Or.inl ⟨by rfl, ?_⟩) ?_ ?_
  rotate_left
  · intro w'
    go_simp
    with_reducible rfl
  rotate_left
  · simp only [Act.put, List.setIfInBounds_toArray, List.set_cons_zero, List.set_cons_succ, i64_w, i32_w]
    rfl
  refine pure_ (i := 4) (N := (some 210)) (v := ?_) (a' := ?_) #[true, true, true, true, true, false, false, false, false, false, false, false, false] rfl rfl (any_of HT_.out (by kernel_rfl)) (fun _ _ _ h => h) (Or.inl ⟨by rfl, ?_⟩) ?_ ?_
  rotate_left
  · intro w'
    go_simp
    with_reducible rfl
  rotate_left
  · simp only [Act.put, List.setIfInBounds_toArray, List.set_cons_zero, List.set_cons_succ, i64_w, i32_w]
    rfl
  refine pure_ (i := 5) (N := (some 211)) (v := ?_) (a' := ?_) #[true, true, true, true, true, true, false, false, false, false, false, false, false] rfl rfl (any_of HT_.out (by kernel_rfl)) (fun _ _ _ h => h) (Or.inl ⟨by rfl, ?_⟩) ?_ ?_
  rotate_left
  · intro w'
    go_simp
    with_reducible rfl
  rotate_left
  · simp only [Act.put, List.setIfInBounds_toArray, List.set_cons_zero, List.set_cons_succ, i64_w, i32_w]
    rfl
  refine one_ (i := 6) (N := (some 212)) #[true, true, true, true, true, true, true, false, false, false, false, false, false] rfl rfl (one_of HT_.out (by kernel_rfl)) (by decide) (fun K hK => ?_)
  refine value_ (w1 := ?_) (v := ?_) (by rfl) rfl ?_ ?_
  rotate_left 2
  · go_simp
    constructor
    · rfl
    · rfl
  refine hK.out _ _ trivial (fun hHeld => ?_)
  clear hK K
  refine norm_ (a' := ?_) ?_ ?_
  rotate_left
  · show Act.put _ (some 212) _ = _
    simp only [Act.put, List.setIfInBounds_toArray, List.set_cons_zero, List.set_cons_succ, i64_w, i32_w]
    rfl
  refine one_ (i := 7) (N := (some 213)) #[true, true, true, true, true, true, true, true, false, false, false, false, false] rfl rfl (one_of HT_.out (by kernel_rfl)) (by decide) (fun K hK => ?_)
  refine goes_ Try.func23 (by kernel_rfl) rfl #[.slice (some ⟨d17.heap.size, 0, none⟩) 2 2] (by rfl) rfl rfl (by (try simp only [List.map_toArray, List.map_cons, List.map_nil]); first | done | rfl | (simp only [List.length_drop, List.length_take]; rfl)) ?_
  refine (book_Join.calls (some ⟨d17.heap.size, 0, none⟩) 2 [⟨0, [eA, eB]⟩, ⟨1, [eB, eC]⟩] _ _ _ (C_block (inner := [.int .i64 0, .slice (some ⟨bl, 0, none⟩) 2 3, .int .i64 1, .slice (some ⟨bl, 4, none⟩) 2 2]) (ps := [(⟨0, [eA, eB]⟩ : S34), (⟨1, [eB, eC]⟩ : S34)]) (Reps.front (k34_mk _ (⟨0, [eA, eB]⟩ : S34) (show 2 ≤ 3 by decide) (by repeat (first | exact a_20.out | apply Kd.C_alloc | apply Kd.C_drewN | apply Kd.C_drew))) rfl (Reps.front (k34_mk _ (⟨1, [eB, eC]⟩ : S34) (show 2 ≤ 2 by decide) (by repeat (first | exact b_20.out | apply Kd.C_alloc | apply Kd.C_drewN | apply Kd.C_drew))) rfl (Reps.none _ _) rfl) rfl) (blk_new' _ _ _ (by simp)) (by decide)) (by decide) sanJ).mono ?_
  rintro e u21 ⟨v0, rfl, hr0, hd⟩
  have hr := Kd.S_R hr0
  clear hr0
  refine ⟨_, rfl, ?_⟩
  have B21 := Aside0.mk (below_step (by repeat (first | exact B20.out | apply below_alloc | apply pw_below_drewN | apply below_drew1)) hd)
  have k_21 := Aside0.mk (show Kd.C k29 u21 (some ⟨bl, 0, none⟩) 3 l3 from Kd.C_below (by repeat (first | exact k_20.out | apply Kd.C_alloc | apply Kd.C_drewN | apply Kd.C_drew)) hd)
  have a_21 := Aside0.mk (show Kd.C k29 u21 (some ⟨bl, 0, none⟩) 2 [eA, eB] from Kd.C_below (by repeat (first | exact a_20.out | apply Kd.C_alloc | apply Kd.C_drewN | apply Kd.C_drew)) hd)
  have b_21 := Aside0.mk (show Kd.C k29 u21 (some ⟨bl, 4, none⟩) 2 [eB, eC] from Kd.C_below (by repeat (first | exact b_20.out | apply Kd.C_alloc | apply Kd.C_drewN | apply Kd.C_drew)) hd)
  have m_21 := Aside0.mk (show Kd.C k29 u21 (some ⟨bl, 4, none⟩) 1 [eB] from Kd.C_below (by repeat (first | exact m_20.out | apply Kd.C_alloc | apply Kd.C_drewN | apply Kd.C_drew)) hd)
  clear hd B20 k_20 a_20 b_20 m_20
  obtain ⟨gj, cj, rfl, _, _, _⟩ := Kd.R_form hr (by decide)
  have Cj : Kd.C k34 u21 (some ⟨gj, 0, none⟩) 1 [(⟨0, l3⟩ : S34)] ∧ 1 ≤ cj := by
    obtain ⟨_, _, e_, h1_, h_⟩ := Kd.R_reads hr
    injection e_ with e1 _ e3
    rw [e1, e3]
    exact ⟨h_, h1_⟩
  have j_0 := Aside0.mk Cj.1
  have Lj := Aside0.mk Cj.2
  clear Cj hr
  refine hK.out _ _ trivial (fun hHeld => ?_)
  clear hK K
  refine norm_ (a' := ?_) ?_ ?_
  rotate_left
  · show Act.put _ (some 213) _ = _
    simp only [Act.put, List.setIfInBounds_toArray, List.set_cons_zero, List.set_cons_succ, i64_w, i32_w]
    rfl
  refine pure_ (i := 8) (N := (some 205)) (v := ?_) (a' := ?_) #[true, true, true, true, true, true, true, true, true, false, false, false, false] rfl rfl (any_of HT_.out (by kernel_rfl)) (fun _ _ _ h => h) (Or.inl ⟨by rfl, ?_⟩) ?_ ?_
  rotate_left
  · intro w'
    go_simp
    with_reducible rfl
  rotate_left
  · simp only [Act.put, List.setIfInBounds_toArray, List.set_cons_zero, List.set_cons_succ, i64_w, i32_w]
    rfl
  refine pure_ (i := 9) (N := (some 214)) (v := ?_) (a' := ?_) #[true, true, true, true, true, true, true, true, true, true, false, false, false] rfl rfl (any_of HT_.out (by kernel_rfl)) (fun _ _ _ h => h) (Or.inl ⟨by rfl, ?_⟩) ?_ ?_
  rotate_left
  · intro w'
    go_simp
    with_reducible rfl
  rotate_left
  · simp only [Act.put, List.setIfInBounds_toArray, List.set_cons_zero, List.set_cons_succ, i64_w, i32_w]
    rfl
  refine pure_ (i := 10) (N := (some 215)) (v := ?_) (a' := ?_) #[true, true, true, true, true, true, true, true, true, true, true, false, false] rfl rfl (any_of HT_.out (by kernel_rfl)) (fun _ _ _ h => h) (Or.inl ⟨by rfl, ?_⟩) ?_ ?_
  rotate_left
  · intro w'
    go_simp
    with_reducible rfl
  rotate_left
  · simp only [Act.put, List.setIfInBounds_toArray, List.set_cons_zero, List.set_cons_succ, i64_w, i32_w]
    rfl
  refine pure_ (i := 11) (N := (some 27)) (v := ?_) (a' := ?_) #[true, true, true, true, true, true, true, true, true, true, true, true, false] rfl rfl (any_of HT_.out (by kernel_rfl)) (fun _ _ _ h => h) (Or.inl ⟨by rfl, ?_⟩) ?_ ?_
  rotate_left
  · intro w'
    go_simp
    with_reducible rfl
  rotate_left
  · simp only [Act.put, List.setIfInBounds_toArray, List.set_cons_zero, List.set_cons_succ, i64_w, i32_w]
    rfl
  refine pure_ (i := 12) (N := (some 28)) (v := ?_) (a' := ?_) #[true, true, true, true, true, true, true, true, true, true, true, true, true] rfl rfl (any_of HT_.out (by kernel_rfl)) (fun _ _ _ h => h) (Or.inl ⟨by rfl, ?_⟩) ?_ ?_
  rotate_left
  · intro w'
    go_simp
    with_reducible rfl
  rotate_left
  · simp only [Act.put, List.setIfInBounds_toArray, List.set_cons_zero, List.set_cons_succ, i64_w, i32_w]
    rfl
  refine done_ (done_of HT_.out (by kernel_rfl)) ?_
  go_wp2_with fail
  refine (book_Missing.calls (some ⟨u21.heap.size, 0, none⟩) 1 [⟨1, [eB]⟩] 3 _ _ _ (C_block (inner := [.int .i64 1, .slice (some ⟨bl, 4, none⟩) 1 2]) (ps := [(⟨1, [eB]⟩ : S34)]) (Reps.front (k34_mk _ (⟨1, [eB]⟩ : S34) (show 1 ≤ 2 by decide) (by repeat (first | exact m_21.out | apply Kd.C_alloc | apply Kd.C_drewN | apply Kd.C_drew))) rfl (Reps.none _ _) rfl) (blk_new' _ _ _ (by simp)) (by decide)) (by decide) sanM).mono ?_
  rintro e u22 ⟨v0, rfl, hr, hd⟩
  have B22 := Aside0.mk (below_step (by repeat (first | exact B21.out | apply below_alloc | apply pw_below_drewN | apply below_drew1)) hd)
  have k_22 := Aside0.mk (show Kd.C k29 u22 (some ⟨bl, 0, none⟩) 3 l3 from Kd.C_below (by repeat (first | exact k_21.out | apply Kd.C_alloc | apply Kd.C_drewN | apply Kd.C_drew)) hd)
  have a_22 := Aside0.mk (show Kd.C k29 u22 (some ⟨bl, 0, none⟩) 2 [eA, eB] from Kd.C_below (by repeat (first | exact a_21.out | apply Kd.C_alloc | apply Kd.C_drewN | apply Kd.C_drew)) hd)
  have b_22 := Aside0.mk (show Kd.C k29 u22 (some ⟨bl, 4, none⟩) 2 [eB, eC] from Kd.C_below (by repeat (first | exact b_21.out | apply Kd.C_alloc | apply Kd.C_drewN | apply Kd.C_drew)) hd)
  have m_22 := Aside0.mk (show Kd.C k29 u22 (some ⟨bl, 4, none⟩) 1 [eB] from Kd.C_below (by repeat (first | exact m_21.out | apply Kd.C_alloc | apply Kd.C_drewN | apply Kd.C_drew)) hd)
  have j_22 := Aside0.mk (show Kd.C k34 u22 (some ⟨gj, 0, none⟩) 1 [(⟨0, l3⟩ : S34)] from Kd.C_below (by repeat (first | exact j_0.out | apply Kd.C_alloc | apply Kd.C_drewN | apply Kd.C_drew)) hd)
  clear hd B21 k_21 a_21 b_21 m_21 j_0
  obtain ⟨gz, cz, rfl, _, _, _⟩ := Kd.R_form hr (by decide)
  have Cz : Kd.C k39 u22 (some ⟨gz, 0, none⟩) 2 [(⟨0, 0⟩ : S39), ⟨2, 2⟩] ∧ 2 ≤ cz := by
    obtain ⟨_, _, e_, h1_, h_⟩ := Kd.R_reads hr
    injection e_ with e1 _ e3
    rw [e1, e3]
    exact ⟨h_, h1_⟩
  have z_0 := Aside0.mk Cz.1
  have Lz := Aside0.mk Cz.2
  clear Cz hr
  go_wp2_with fail
  refine (book_Total.calls _ 3 l3 0 5 3 _ _ _ (by repeat (first | exact k_22.out | apply Kd.C_alloc | apply Kd.C_drewN | apply Kd.C_drew)) (by decide) sanT).mono ?_
  rintro e u23 ⟨rfl, hd⟩
  have B23 := Aside0.mk (below_step (by repeat (first | exact B22.out | apply below_alloc | apply pw_below_drewN | apply below_drew1)) hd)
  have k_23 := Aside0.mk (show Kd.C k29 u23 (some ⟨bl, 0, none⟩) 3 l3 from Kd.C_below (by repeat (first | exact k_22.out | apply Kd.C_alloc | apply Kd.C_drewN | apply Kd.C_drew)) hd)
  have a_23 := Aside0.mk (show Kd.C k29 u23 (some ⟨bl, 0, none⟩) 2 [eA, eB] from Kd.C_below (by repeat (first | exact a_22.out | apply Kd.C_alloc | apply Kd.C_drewN | apply Kd.C_drew)) hd)
  have b_23 := Aside0.mk (show Kd.C k29 u23 (some ⟨bl, 4, none⟩) 2 [eB, eC] from Kd.C_below (by repeat (first | exact b_22.out | apply Kd.C_alloc | apply Kd.C_drewN | apply Kd.C_drew)) hd)
  have m_23 := Aside0.mk (show Kd.C k29 u23 (some ⟨bl, 4, none⟩) 1 [eB] from Kd.C_below (by repeat (first | exact m_22.out | apply Kd.C_alloc | apply Kd.C_drewN | apply Kd.C_drew)) hd)
  have j_23 := Aside0.mk (show Kd.C k34 u23 (some ⟨gj, 0, none⟩) 1 [(⟨0, l3⟩ : S34)] from Kd.C_below (by repeat (first | exact j_22.out | apply Kd.C_alloc | apply Kd.C_drewN | apply Kd.C_drew)) hd)
  have z_23 := Aside0.mk (show Kd.C k39 u23 (some ⟨gz, 0, none⟩) 2 [(⟨0, 0⟩ : S39), ⟨2, 2⟩] from Kd.C_below (by repeat (first | exact z_0.out | apply Kd.C_alloc | apply Kd.C_drewN | apply Kd.C_drew)) hd)
  clear hd B22 k_22 a_22 b_22 m_22 j_22 z_0
  go_wp2
  have B24 := Aside0.mk (below_drew1 (by repeat (first | exact B23.out | apply below_alloc | apply pw_below_drewN | apply below_drew1)))
  have k_24 := Aside0.mk (show Kd.C k29 (u23).drew (some ⟨bl, 0, none⟩) 3 l3 from Kd.C_drew (by repeat (first | exact k_23.out | apply Kd.C_alloc | apply Kd.C_drewN | apply Kd.C_drew)))
  have a_24 := Aside0.mk (show Kd.C k29 (u23).drew (some ⟨bl, 0, none⟩) 2 [eA, eB] from Kd.C_drew (by repeat (first | exact a_23.out | apply Kd.C_alloc | apply Kd.C_drewN | apply Kd.C_drew)))
  have b_24 := Aside0.mk (show Kd.C k29 (u23).drew (some ⟨bl, 4, none⟩) 2 [eB, eC] from Kd.C_drew (by repeat (first | exact b_23.out | apply Kd.C_alloc | apply Kd.C_drewN | apply Kd.C_drew)))
  have m_24 := Aside0.mk (show Kd.C k29 (u23).drew (some ⟨bl, 4, none⟩) 1 [eB] from Kd.C_drew (by repeat (first | exact m_23.out | apply Kd.C_alloc | apply Kd.C_drewN | apply Kd.C_drew)))
  have j_24 := Aside0.mk (show Kd.C k34 (u23).drew (some ⟨gj, 0, none⟩) 1 [(⟨0, l3⟩ : S34)] from Kd.C_drew (by repeat (first | exact j_23.out | apply Kd.C_alloc | apply Kd.C_drewN | apply Kd.C_drew)))
  have z_24 := Aside0.mk (show Kd.C k39 (u23).drew (some ⟨gz, 0, none⟩) 2 [(⟨0, 0⟩ : S39), ⟨2, 2⟩] from Kd.C_drew (by repeat (first | exact z_23.out | apply Kd.C_alloc | apply Kd.C_drewN | apply Kd.C_drew)))
  clear B23 k_23 a_23 b_23 m_23 j_23 z_23
  refine start_ (n := 13) (S := fun w' => True) (ds := []) #[false, false, false, false, false, false, false, false, false, false, false, false, false] (by kernel_rfl) rfl rfl trivial (fun hHeld => ?_); refine with_tabW R22_20.tab R22_20.bits (fun HT_ HW_ => ?_)
  generalize (u23).drew = d20 at B24 k_24 a_24 b_24 m_24 j_24 z_24 hHeld ⊢
  refine pure_ (i := 0) (N := (some 230)) (v := ?_) (a' := ?_) #[true, false, false, false, false, false, false, false, false, false, false, false, false] rfl rfl (any_of HT_.out (by kernel_rfl)) (fun _ _ _ h => h) (Or.inl ⟨by rfl, ?_⟩) ?_ ?_
  rotate_left
  · intro w'
    go_simp
    with_reducible rfl
  rotate_left
  · simp only [Act.put, List.setIfInBounds_toArray, List.set_cons_zero, List.set_cons_succ, i64_w, i32_w]
    rfl
  refine pure_ (i := 1) (N := (some 231)) (v := ?_) (a' := ?_) #[true, true, false, false, false, false, false, false, false, false, false, false, false] rfl rfl (any_of HT_.out (by kernel_rfl)) (fun _ _ _ h => h) (Or.inl ⟨by rfl, ?_⟩) ?_ ?_
  rotate_left
  · intro w'
    go_simp
    with_reducible rfl
  rotate_left
  · simp only [Act.put, List.setIfInBounds_toArray, List.set_cons_zero, List.set_cons_succ, i64_w, i32_w]
    rfl
  refine pure_ (i := 2) (N := (some 232)) (v := ?_) (a' := ?_) #[true, true, true, false, false, false, false, false, false, false, false, false, false] rfl rfl (any_of HT_.out (by kernel_rfl)) (fun _ _ _ h => h) (Or.inl ⟨by rfl, ?_⟩) ?_ ?_
  rotate_left
  · intro w'
    go_simp
    with_reducible rfl
  rotate_left
  · simp only [Act.put, List.setIfInBounds_toArray, List.set_cons_zero, List.set_cons_succ, i64_w, i32_w]
    rfl
  refine one_ (i := 3) (N := (some 233)) #[true, true, true, true, false, false, false, false, false, false, false, false, false] rfl rfl (one_of HT_.out (by kernel_rfl)) (by decide) (fun K hK => ?_)
  refine goes_ Try.func81 (by kernel_rfl) rfl #[] (by rfl) rfl rfl (by (try simp only [List.map_toArray, List.map_cons, List.map_nil]); first | done | rfl | (simp only [List.length_drop, List.length_take]; rfl)) ?_
  refine (calxlaw08_A.calls 1 0 5 10 _ rfl).mono ?_
  rintro e u24 ⟨rfl, hd⟩
  refine ⟨_, rfl, ?_⟩
  have B25 := Aside0.mk (below_step (by repeat (first | exact B24.out | apply below_alloc | apply pw_below_drewN | apply below_drew1)) hd)
  have k_25 := Aside0.mk (show Kd.C k29 u24 (some ⟨bl, 0, none⟩) 3 l3 from Kd.C_below (by repeat (first | exact k_24.out | apply Kd.C_alloc | apply Kd.C_drewN | apply Kd.C_drew)) hd)
  have a_25 := Aside0.mk (show Kd.C k29 u24 (some ⟨bl, 0, none⟩) 2 [eA, eB] from Kd.C_below (by repeat (first | exact a_24.out | apply Kd.C_alloc | apply Kd.C_drewN | apply Kd.C_drew)) hd)
  have b_25 := Aside0.mk (show Kd.C k29 u24 (some ⟨bl, 4, none⟩) 2 [eB, eC] from Kd.C_below (by repeat (first | exact b_24.out | apply Kd.C_alloc | apply Kd.C_drewN | apply Kd.C_drew)) hd)
  have m_25 := Aside0.mk (show Kd.C k29 u24 (some ⟨bl, 4, none⟩) 1 [eB] from Kd.C_below (by repeat (first | exact m_24.out | apply Kd.C_alloc | apply Kd.C_drewN | apply Kd.C_drew)) hd)
  have j_25 := Aside0.mk (show Kd.C k34 u24 (some ⟨gj, 0, none⟩) 1 [(⟨0, l3⟩ : S34)] from Kd.C_below (by repeat (first | exact j_24.out | apply Kd.C_alloc | apply Kd.C_drewN | apply Kd.C_drew)) hd)
  have z_25 := Aside0.mk (show Kd.C k39 u24 (some ⟨gz, 0, none⟩) 2 [(⟨0, 0⟩ : S39), ⟨2, 2⟩] from Kd.C_below (by repeat (first | exact z_24.out | apply Kd.C_alloc | apply Kd.C_drewN | apply Kd.C_drew)) hd)
  clear hd B24 k_24 a_24 b_24 m_24 j_24 z_24
  refine hK.out _ _ trivial (fun hHeld => ?_)
  clear hK K
  refine norm_ (a' := ?_) ?_ ?_
  rotate_left
  · show Act.put _ (some 233) _ = _
    simp only [Act.put, List.setIfInBounds_toArray, List.set_cons_zero, List.set_cons_succ, i64_w, i32_w]
    rfl
  refine one_ (i := 4) (N := (some 234)) #[true, true, true, true, true, false, false, false, false, false, false, false, false] rfl rfl (one_of HT_.out (by kernel_rfl)) (by decide) (fun K hK => ?_)
  refine goes_ Try.func83 (by kernel_rfl) rfl #[] (by rfl) rfl rfl (by (try simp only [List.map_toArray, List.map_cons, List.map_nil]); first | done | rfl | (simp only [List.length_drop, List.length_take]; rfl)) ?_
  refine (calxlaw08_C.calls 3 0 6 7 _ rfl).mono ?_
  rintro e u25 ⟨rfl, hd⟩
  refine ⟨_, rfl, ?_⟩
  have B26 := Aside0.mk (below_step (by repeat (first | exact B25.out | apply below_alloc | apply pw_below_drewN | apply below_drew1)) hd)
  have k_26 := Aside0.mk (show Kd.C k29 u25 (some ⟨bl, 0, none⟩) 3 l3 from Kd.C_below (by repeat (first | exact k_25.out | apply Kd.C_alloc | apply Kd.C_drewN | apply Kd.C_drew)) hd)
  have a_26 := Aside0.mk (show Kd.C k29 u25 (some ⟨bl, 0, none⟩) 2 [eA, eB] from Kd.C_below (by repeat (first | exact a_25.out | apply Kd.C_alloc | apply Kd.C_drewN | apply Kd.C_drew)) hd)
  have b_26 := Aside0.mk (show Kd.C k29 u25 (some ⟨bl, 4, none⟩) 2 [eB, eC] from Kd.C_below (by repeat (first | exact b_25.out | apply Kd.C_alloc | apply Kd.C_drewN | apply Kd.C_drew)) hd)
  have m_26 := Aside0.mk (show Kd.C k29 u25 (some ⟨bl, 4, none⟩) 1 [eB] from Kd.C_below (by repeat (first | exact m_25.out | apply Kd.C_alloc | apply Kd.C_drewN | apply Kd.C_drew)) hd)
  have j_26 := Aside0.mk (show Kd.C k34 u25 (some ⟨gj, 0, none⟩) 1 [(⟨0, l3⟩ : S34)] from Kd.C_below (by repeat (first | exact j_25.out | apply Kd.C_alloc | apply Kd.C_drewN | apply Kd.C_drew)) hd)
  have z_26 := Aside0.mk (show Kd.C k39 u25 (some ⟨gz, 0, none⟩) 2 [(⟨0, 0⟩ : S39), ⟨2, 2⟩] from Kd.C_below (by repeat (first | exact z_25.out | apply Kd.C_alloc | apply Kd.C_drewN | apply Kd.C_drew)) hd)
  clear hd B25 k_25 a_25 b_25 m_25 j_25 z_25
  refine hK.out _ _ trivial (fun hHeld => ?_)
  clear hK K
  refine norm_ (a' := ?_) ?_ ?_
  rotate_left
  · show Act.put _ (some 234) _ = _
    simp only [Act.put, List.setIfInBounds_toArray, List.set_cons_zero, List.set_cons_succ, i64_w, i32_w]
    rfl
  refine one_ (i := 5) (N := (some 235)) #[true, true, true, true, true, true, false, false, false, false, false, false, false] rfl rfl (one_of HT_.out (by kernel_rfl)) (by decide) (fun K hK => ?_)
  refine value_ (w1 := ?_) (v := ?_) (by rfl) rfl ?_ ?_
  rotate_left 2
  · go_simp
    constructor
    · rfl
    · rfl
  refine hK.out _ _ trivial (fun hHeld => ?_)
  clear hK K
  refine norm_ (a' := ?_) ?_ ?_
  rotate_left
  · show Act.put _ (some 235) _ = _
    simp only [Act.put, List.setIfInBounds_toArray, List.set_cons_zero, List.set_cons_succ, i64_w, i32_w]
    rfl
  refine one_ (i := 6) (N := (some 236)) #[true, true, true, true, true, true, true, false, false, false, false, false, false] rfl rfl (one_of HT_.out (by kernel_rfl)) (by decide) (fun K hK => ?_)
  refine value_ (w1 := ?_) (v := ?_) (by rfl) rfl ?_ ?_
  rotate_left 2
  · go_simp
    constructor
    · rfl
    · rfl
  refine hK.out _ _ trivial (fun hHeld => ?_)
  clear hK K
  refine norm_ (a' := ?_) ?_ ?_
  rotate_left
  · show Act.put _ (some 236) _ = _
    simp only [Act.put, List.setIfInBounds_toArray, List.set_cons_zero, List.set_cons_succ, i64_w, i32_w]
    rfl
  refine one_ (i := 7) (N := (some 237)) #[true, true, true, true, true, true, true, true, false, false, false, false, false] rfl rfl (one_of HT_.out (by kernel_rfl)) (by decide) (fun K hK => ?_)
  refine goes_ Try.func28 (by kernel_rfl) rfl #[.slice (some ⟨u25.heap.size + 1, 0, none⟩) 3 3] (by rfl) rfl rfl (by (try simp only [List.map_toArray, List.map_cons, List.map_nil]); first | done | rfl | (simp only [List.length_drop, List.length_take]; rfl)) ?_
  have n_0 := Aside0.mk (show Kd.C k29 ((u25.alloc (.cells #[.int .i64 1, .int .i64 0, .int .i64 5, .int .i64 10, .int .i64 3, .int .i64 0, .int .i64 6, .int .i64 7] 29)).alloc (.cells #[.slice (some ⟨bl, 0, none⟩) 3 3, .slice (some ⟨bl, 0, none⟩) 2 3, .slice (some ⟨u25.heap.size, 0, none⟩) 2 2] 32)) (some ⟨u25.heap.size, 0, none⟩) 2 [eA, eC] from C_block (inner := [.int .i64 1, .int .i64 0, .int .i64 5, .int .i64 10, .int .i64 3, .int .i64 0, .int .i64 6, .int .i64 7]) (Reps.front (k29_mk _ eA) rfl (Reps.front (k29_mk _ eC) rfl (Reps.none _ _) rfl) rfl) (blk_alloc (blk_new' _ _ _ rfl) _) (by decide))
  refine (book_Majority.calls (some ⟨u25.heap.size + 1, 0, none⟩) 3 [l3, [eA, eB], [eA, eC]] _ _ _ (C_block (inner := [.slice (some ⟨bl, 0, none⟩) 3 3, .slice (some ⟨bl, 0, none⟩) 2 3, .slice (some ⟨u25.heap.size, 0, none⟩) 2 2]) (ps := [l3, [eA, eB], [eA, eC]]) (Reps.front ⟨_, _, rfl, (show 3 ≤ 3 by decide), (by repeat (first | exact k_26.out | apply Kd.C_alloc | apply Kd.C_drewN | apply Kd.C_drew))⟩ rfl (Reps.front ⟨_, _, rfl, (show 2 ≤ 3 by decide), (by repeat (first | exact a_26.out | apply Kd.C_alloc | apply Kd.C_drewN | apply Kd.C_drew))⟩ rfl (Reps.front ⟨_, _, rfl, (show 2 ≤ 2 by decide), n_0.out⟩ rfl (Reps.none _ _) rfl) rfl) rfl) (blk_new' _ _ _ (by simp)) (by decide)) (by decide) sanMj).mono ?_
  rintro e u26 ⟨v0, rfl, hr, hd⟩
  refine ⟨_, rfl, ?_⟩
  have B27 := Aside0.mk (below_step (by repeat (first | exact B26.out | apply below_alloc | apply pw_below_drewN | apply below_drew1)) hd)
  have k_27 := Aside0.mk (show Kd.C k29 u26 (some ⟨bl, 0, none⟩) 3 l3 from Kd.C_below (by repeat (first | exact k_26.out | apply Kd.C_alloc | apply Kd.C_drewN | apply Kd.C_drew)) hd)
  have a_27 := Aside0.mk (show Kd.C k29 u26 (some ⟨bl, 0, none⟩) 2 [eA, eB] from Kd.C_below (by repeat (first | exact a_26.out | apply Kd.C_alloc | apply Kd.C_drewN | apply Kd.C_drew)) hd)
  have b_27 := Aside0.mk (show Kd.C k29 u26 (some ⟨bl, 4, none⟩) 2 [eB, eC] from Kd.C_below (by repeat (first | exact b_26.out | apply Kd.C_alloc | apply Kd.C_drewN | apply Kd.C_drew)) hd)
  have m_27 := Aside0.mk (show Kd.C k29 u26 (some ⟨bl, 4, none⟩) 1 [eB] from Kd.C_below (by repeat (first | exact m_26.out | apply Kd.C_alloc | apply Kd.C_drewN | apply Kd.C_drew)) hd)
  have j_27 := Aside0.mk (show Kd.C k34 u26 (some ⟨gj, 0, none⟩) 1 [(⟨0, l3⟩ : S34)] from Kd.C_below (by repeat (first | exact j_26.out | apply Kd.C_alloc | apply Kd.C_drewN | apply Kd.C_drew)) hd)
  have z_27 := Aside0.mk (show Kd.C k39 u26 (some ⟨gz, 0, none⟩) 2 [(⟨0, 0⟩ : S39), ⟨2, 2⟩] from Kd.C_below (by repeat (first | exact z_26.out | apply Kd.C_alloc | apply Kd.C_drewN | apply Kd.C_drew)) hd)
  clear hd B26 k_26 a_26 b_26 m_26 j_26 z_26
  obtain ⟨gw, cw, rfl, _, _, _⟩ := Kd.R_form hr (by decide)
  have Cw : Kd.C k29 u26 (some ⟨gw, 0, none⟩) 2 [eA, eB] ∧ 2 ≤ cw := by
    obtain ⟨_, _, e_, h1_, h_⟩ := Kd.R_reads hr
    injection e_ with e1 _ e3
    rw [e1, e3]
    exact ⟨h_, h1_⟩
  have w_0 := Aside0.mk Cw.1
  have Lw := Aside0.mk Cw.2
  clear Cw hr
  refine hK.out _ _ trivial (fun hHeld => ?_)
  clear hK K
  refine norm_ (a' := ?_) ?_ ?_
  rotate_left
  · show Act.put _ (some 237) _ = _
    simp only [Act.put, List.setIfInBounds_toArray, List.set_cons_zero, List.set_cons_succ, i64_w, i32_w]
    rfl
  refine pure_ (i := 8) (N := (some 229)) (v := ?_) (a' := ?_) #[true, true, true, true, true, true, true, true, true, false, false, false, false] rfl rfl (any_of HT_.out (by kernel_rfl)) (fun _ _ _ h => h) (Or.inl ⟨by rfl, ?_⟩) ?_ ?_
  rotate_left
  · intro w'
    go_simp
    with_reducible rfl
  rotate_left
  · simp only [Act.put, List.setIfInBounds_toArray, List.set_cons_zero, List.set_cons_succ, i64_w, i32_w]
    rfl
  refine pure_ (i := 9) (N := (some 238)) (v := ?_) (a' := ?_) #[true, true, true, true, true, true, true, true, true, true, false, false, false] rfl rfl (any_of HT_.out (by kernel_rfl)) (fun _ _ _ h => h) (Or.inl ⟨by rfl, ?_⟩) ?_ ?_
  rotate_left
  · intro w'
    go_simp
    with_reducible rfl
  rotate_left
  · simp only [Act.put, List.setIfInBounds_toArray, List.set_cons_zero, List.set_cons_succ, i64_w, i32_w]
    rfl
  refine pure_ (i := 10) (N := (some 239)) (v := ?_) (a' := ?_) #[true, true, true, true, true, true, true, true, true, true, true, false, false] rfl rfl (any_of HT_.out (by kernel_rfl)) (fun _ _ _ h => h) (Or.inl ⟨by rfl, ?_⟩) ?_ ?_
  rotate_left
  · intro w'
    go_simp
    with_reducible rfl
  rotate_left
  · simp only [Act.put, List.setIfInBounds_toArray, List.set_cons_zero, List.set_cons_succ, i64_w, i32_w]
    rfl
  refine pure_ (i := 11) (N := (some 33)) (v := ?_) (a' := ?_) #[true, true, true, true, true, true, true, true, true, true, true, true, false] rfl rfl (any_of HT_.out (by kernel_rfl)) (fun _ _ _ h => h) (Or.inl ⟨by rfl, ?_⟩) ?_ ?_
  rotate_left
  · intro w'
    go_simp
    with_reducible rfl
  rotate_left
  · simp only [Act.put, List.setIfInBounds_toArray, List.set_cons_zero, List.set_cons_succ, i64_w, i32_w]
    rfl
  refine pure_ (i := 12) (N := (some 34)) (v := ?_) (a' := ?_) #[true, true, true, true, true, true, true, true, true, true, true, true, true] rfl rfl (any_of HT_.out (by kernel_rfl)) (fun _ _ _ h => h) (Or.inl ⟨by rfl, ?_⟩) ?_ ?_
  rotate_left
  · intro w'
    go_simp
    with_reducible rfl
  rotate_left
  · simp only [Act.put, List.setIfInBounds_toArray, List.set_cons_zero, List.set_cons_succ, i64_w, i32_w]
    rfl
  refine done_ (done_of HT_.out (by kernel_rfl)) ?_
  obtain ⟨ad0, A9, c9, e0, hy0, hy1, hle, hC9⟩ := at_T34 j_27.out (0 : Int) (by decide) (by decide)
  injection e0 with e0
  subst e0
  have hz0 : u26.cell? ⟨gj, 0, none⟩ = some (.int .i64 0) := hy0
  have hz1 : u26.cell? ⟨gj, 1, none⟩ = some (.slice A9 3 c9) := hy1
  have h9 := Aside0.mk (show Kd.C k29 u26 A9 3 l3 from hC9)
  have hle9 := Aside0.mk (show l3.length ≤ c9 from hle)
  have zz : (0 : Int) < 1 := by decide
  clear hy0 hy1 hle hC9
  go_wp2_with fail
  refine (calxref08_SameBook.calls 10 A9 c9 l3 _ 3 l3 _ _ h9.out hle9.out (by repeat (first | exact k_27.out | apply Kd.C_alloc | apply Kd.C_drewN | apply Kd.C_drew)) (by decide) sanB1).mono ?_
  rintro e u ⟨rfl, m1, rfl⟩
  go_wp2_with fail
  refine (calxref08_SameSpans.calls 10 _ _ [⟨0, 0⟩, ⟨2, 2⟩] _ 2 [⟨0, 0⟩, ⟨2, 2⟩] _ _ (by repeat (first | exact z_27.out | apply Kd.C_alloc | apply Kd.C_drewN | apply Kd.C_drew)) Lz.out (C_block (inner := [.int .i64 0, .int .i64 0, .int .i64 2, .int .i64 2]) (ps := [(⟨0, 0⟩ : S39), ⟨2, 2⟩]) (Reps.front (k39_mk _ (⟨0, 0⟩ : S39)) rfl (Reps.front (k39_mk _ (⟨2, 2⟩ : S39)) rfl (Reps.none _ _) rfl) rfl) (blk_new' _ _ _ (by simp)) (by decide)) (by decide) sanSp).mono ?_
  rintro e u ⟨rfl, m2, rfl⟩
  go_wp2_with fail
  refine (calxref08_SameBook.calls 10 _ _ [eA, eB] _ 3 [eA, eB] _ _ (by repeat (first | exact w_0.out | apply Kd.C_alloc | apply Kd.C_drewN | apply Kd.C_drew)) Lw.out (by repeat (first | exact a_27.out | apply Kd.C_alloc | apply Kd.C_drewN | apply Kd.C_drew)) (by decide) sanB2).mono ?_
  rintro e u ⟨rfl, m3, rfl⟩
  go_wp2
  go_ret
  exact ⟨rfl, (by repeat (first | exact B27.out | apply below_alloc | apply pw_below_drewN | apply below_drew1))⟩
end Go.Proofs.Ytmfphlfakmnbmaa.B
end

section
namespace Go.Proofs.Ytmfphlfakmnbmaa.B
open Go.RowKit Go.Proofs.YtmfphlfakmnbmaaW.PrintWords Go.Proofs.YtmfphlfakmnbmaaW.PrintLast Go.Proofs.YtmfphlfakmnbmaaW.PrintMore
attribute [local go_sem] max2_int min2_int max_two min_two max_three min_three max_four min_four
def calxlaw08_few.f (l0 : List (S29)) : Option (Bool) := if (l0.length : Int) ≤ 30 then (some true) else (if (l0.length : Int) > 64 then (some (decide ((l0.length : Int) ≤ 80))) else (some false))
set_option maxHeartbeats 8000000 in
set_option maxRecDepth 100000 in
theorem calxlaw08_few.calls (A0 : Option Addr) (c0 : Nat) (l0 : List (S29)) (r : Bool) (w : World) (hr0 : Kd.C k29 w A0 l0.length l0) (hc0 : l0.length ≤ c0) (h : calxlaw08_few.f l0 = some r) :
    Calls Try.prog 27 #[.slice A0 l0.length c0] w fun e w' => e = .returned (.bool r) ∧ Drawn0 w w' := by
  have HR0 := Aside0.mk hr0
  have HC0 := Aside0.mk hc0
  clear hr0 hc0
  have H : (if (l0.length : Int) ≤ 30 then (some true) else (if (l0.length : Int) > 64 then (some (decide ((l0.length : Int) ≤ 80))) else (some false))) = some r := h
  clear h
  by_cases c2 : (l0.length : Int) ≤ 30
  · rw [if_pos c2] at H
    have c2b0 : decide ((l0.length : Int) ≤ 30) = true := decide_eq_true c2
    have c2b1 : decide (l0.length ≤ 30) = true := decide_eq_true (by omega)
    clear c2
    obtain rfl := Option.some.inj H
    go_enter Try.func27, Try.ntmps27
    go_wp2
    go_ret
    exact ⟨by first | rfl | (simp; done) | (simp [*]; done), by repeat (first | exact Drawn0.refl _ | apply Drawn0.step)⟩
  · rw [if_neg c2] at H
    have c2b0 : decide ((l0.length : Int) ≤ 30) = false := decide_eq_false c2
    have c2b1 : decide (l0.length ≤ 30) = false := decide_eq_false (by omega)
    clear c2
    by_cases c3 : (l0.length : Int) > 64
    · rw [if_pos c3] at H
      have c3b0 : decide (64 < (l0.length : Int)) = true := decide_eq_true c3
      have c3b1 : decide (64 < l0.length) = true := decide_eq_true (by omega)
      clear c3
      obtain rfl := Option.some.inj H
      go_enter Try.func27, Try.ntmps27
      go_wp2
      go_ret
      exact ⟨by first | rfl | (simp; done) | (simp [*]; done), by repeat (first | exact Drawn0.refl _ | apply Drawn0.step)⟩
    · rw [if_neg c3] at H
      have c3b0 : decide (64 < (l0.length : Int)) = false := decide_eq_false c3
      have c3b1 : decide (64 < l0.length) = false := decide_eq_false (by omega)
      clear c3
      obtain rfl := Option.some.inj H
      go_enter Try.func27, Try.ntmps27
      go_wp2
      go_ret
      exact ⟨by first | rfl | (simp; done) | (simp [*]; done), by repeat (first | exact Drawn0.refl _ | apply Drawn0.step)⟩
end Go.Proofs.Ytmfphlfakmnbmaa.B
end

section
namespace Go.Proofs.Ytmfphlfakmnbmaa.B
open Go.RowKit Go.Proofs.YtmfphlfakmnbmaaW.PrintWords Go.Proofs.YtmfphlfakmnbmaaW.PrintLast Go.Proofs.YtmfphlfakmnbmaaW.PrintMore
attribute [local go_sem] max2_int min2_int max_two min_two max_three min_three max_four min_four
def calxref08_Root.f (k : Nat) (l0 : List (S29)) : Option (Int × Int) := (calxref08_Check.f k l0).bind fun t101 => (if t101 = 0 then ((calxref08_root.f l0).bind fun t102 => (some (t102, 0))) else (some (0, t101)))
theorem calxref08_Root.mono : ∀ a0 k, LeO (calxref08_Root.f k a0) (calxref08_Root.f (k + 1) a0) := by
  intro a0 k
  unfold calxref08_Root.f
  repeat' first
      | (with_reducible exact calxref08_Check.mono _ _)
      | (with_reducible exact LeO.refl _)
      | (with_reducible exact LeO.none _)
      | (with_reducible refine LeO.ite ?_ ?_)
      | (with_reducible refine LeO.bind ?_ (fun _ => ?_))
      | exact calxref08_Check.mono _ _
      | exact LeO.none _
      | refine LeO.ite ?_ ?_
      | refine LeO.bind ?_ (fun _ => ?_)
set_option maxHeartbeats 8000000 in
set_option maxRecDepth 100000 in
theorem calxref08_Root.calls (k : Nat) (A0 : Option Addr) (c0 : Nat) (l0 : List (S29)) (r1 : Int) (r2 : Int) (w : World) (hr0 : Kd.C k29 w A0 l0.length l0) (hc0 : l0.length ≤ c0) (h : calxref08_Root.f k l0 = some (r1, r2)) :
    Calls Try.prog 40 #[.slice A0 l0.length c0] w fun e w' => e = .returned (.tuple #[.int .i64 r1, .int .i64 r2]) ∧ Below w.heap.size w w' := by
  have HR0 := Aside0.mk hr0
  have HC0 := Aside0.mk hc0
  clear hr0 hc0
  have HB := Aside0.mk (Below.refl w.heap.size w)
  have H : ((calxref08_Check.f k l0).bind fun t101 => (if t101 = 0 then ((calxref08_root.f l0).bind fun t102 => (some (t102, 0))) else (some (0, t101)))) = some (r1, r2) := h
  clear h
  replace H := Option.bind_eq_some_iff.mp H
  obtain ⟨t101, A20, H⟩ := H
  replace H : (if t101 = 0 then ((calxref08_root.f l0).bind fun t102 => (some (t102, 0))) else (some (0, t101))) = some (r1, r2) := H
  have A2 := Aside0.mk A20
  clear A20
  by_cases c3 : t101 = 0
  · rw [if_pos c3] at H
    have c3b0 : (t101 == 0) = true := beq_iff_eq.mpr c3
    have c3b1 : (t101 != 0) = false := bne_eq_false_iff_eq.mpr c3
    clear c3
    replace H := Option.bind_eq_some_iff.mp H
    obtain ⟨t102, A40, H⟩ := H
    replace H : (some (t102, 0)) = some (r1, r2) := H
    have A4 := Aside0.mk A40
    clear A40
    simp only [Option.some.injEq, Prod.mk.injEq] at H
    obtain ⟨rfl, rfl⟩ := H
    go_enter Try.func40, Try.ntmps40
    go_wp2_with (first | ((with_reducible refine gate_callee (f := 43) rfl ?_); refine goesL_ (some 6) rfl rfl Try.func43 (by kernel_rfl) rfl #[.slice A0 l0.length c0] rfl (by (try simp only [List.map_toArray, List.map_cons, List.map_nil]); first | done | rfl | (simp only [List.length_drop, List.length_take]; rfl)) ?_; (with_reducible refine (calxref08_Check.calls k _ _ l0 t101 _ ?side1 ?side2 A2.out).mono ?_); (case side1 => repeat (first | exact HR0.out | (with_reducible refine Kd.C_alloc ?_ _) | (with_reducible refine Kd.C_drewN ?_ _) | (with_reducible refine Kd.C_drew ?_))); (case side2 => exact HC0.out); rintro e w5 ⟨rfl, hb⟩; refine ⟨_, rfl, ?_⟩; have n0_ := Aside0.mk (below_step (by repeat (first | (with_reducible first | exact HB.out | apply below_alloc | apply pw_below_drewN | apply below_drew1) | exact HB.out)) hb); clear HB; have HB := n0_; clear n0_; (try clear hb); (try clear hb2); (try clear hk); (try clear hi)) | ((with_reducible refine gate_callee (f := 106) rfl ?_); refine goesL_ (some 11) rfl rfl Try.func106 (by kernel_rfl) rfl #[.slice A0 l0.length c0] rfl (by (try simp only [List.map_toArray, List.map_cons, List.map_nil]); first | done | rfl | (simp only [List.length_drop, List.length_take]; rfl)) ?_; (with_reducible refine (calxref08_root.calls _ _ l0 t102 _ ?side1 ?side2 A4.out).mono ?_); (case side1 => repeat (first | exact (Kd.C_below HR0.out HB.out) | (with_reducible refine Kd.C_alloc ?_ _) | (with_reducible refine Kd.C_drewN ?_ _) | (with_reducible refine Kd.C_drew ?_))); (case side2 => exact HC0.out); rintro e w6 ⟨rfl, hb⟩; refine ⟨_, rfl, ?_⟩; have n0_ := Aside0.mk (below_step (by repeat (first | (with_reducible first | exact HB.out | apply below_alloc | apply pw_below_drewN | apply below_drew1) | exact HB.out)) hb); clear HB; have HB := n0_; clear n0_; (try clear hb); (try clear hb2); (try clear hk); (try clear hi)))
    go_ret2
    exact ⟨by first | rfl | (simp [errW_none, errW_some] <;> rfl) | (simp [*, errW_none, errW_some] <;> rfl), by repeat (first | (with_reducible first | exact HB.out | apply below_alloc | apply pw_below_drewN | apply below_drew1) | exact HB.out)⟩
  · rw [if_neg c3] at H
    have c3b0 : (t101 == 0) = false := beq_eq_false_iff_ne.mpr c3
    have c3b1 : (t101 != 0) = true := bne_iff_ne.mpr c3
    simp only [Option.some.injEq, Prod.mk.injEq] at H
    obtain ⟨rfl, rfl⟩ := H
    go_enter Try.func40, Try.ntmps40
    go_wp2_with (first | ((with_reducible refine gate_callee (f := 43) rfl ?_); refine goesL_ (some 6) rfl rfl Try.func43 (by kernel_rfl) rfl #[.slice A0 l0.length c0] rfl (by (try simp only [List.map_toArray, List.map_cons, List.map_nil]); first | done | rfl | (simp only [List.length_drop, List.length_take]; rfl)) ?_; (with_reducible refine (calxref08_Check.calls k _ _ l0 t101 _ ?side1 ?side2 A2.out).mono ?_); (case side1 => repeat (first | exact HR0.out | (with_reducible refine Kd.C_alloc ?_ _) | (with_reducible refine Kd.C_drewN ?_ _) | (with_reducible refine Kd.C_drew ?_))); (case side2 => exact HC0.out); rintro e w7 ⟨rfl, hb⟩; refine ⟨_, rfl, ?_⟩; have n0_ := Aside0.mk (below_step (by repeat (first | (with_reducible first | exact HB.out | apply below_alloc | apply pw_below_drewN | apply below_drew1) | exact HB.out)) hb); clear HB; have HB := n0_; clear n0_; (try clear hb); (try clear hb2); (try clear hk); (try clear hi)))
    go_ret2
    exact ⟨by first | rfl | (simp [errW_none, errW_some] <;> rfl) | (simp [*, errW_none, errW_some] <;> rfl), by repeat (first | (with_reducible first | exact HB.out | apply below_alloc | apply pw_below_drewN | apply below_drew1) | exact HB.out)⟩
end Go.Proofs.Ytmfphlfakmnbmaa.B
end

section
namespace Go.Proofs.Ytmfphlfakmnbmaa.B
open Go.RowKit Go.Proofs.YtmfphlfakmnbmaaW.PrintWords Go.Proofs.YtmfphlfakmnbmaaW.PrintLast Go.Proofs.YtmfphlfakmnbmaaW.PrintMore
attribute [local go_sem] max2_int min2_int max_two min_two max_three min_three max_four min_four
def rootA (l : List S29) : Int × Int := if checkP l = 0 then (rootP l, 0) else (0, checkP l)
theorem ref_Root_is (l : List S29) : calxref08_Root.f 100 l = some (rootA l) := by
  unfold calxref08_Root.f rootA
  rw [ref_check l (by omega)]
  simp only [Option.bind_some]
  by_cases h : checkP l = 0
  · rw [if_pos h, if_pos h]
    unfold calxref08_root.f
    rw [if_pos (check_len h)]
    rfl
  · rw [if_neg h, if_neg h]
end Go.Proofs.Ytmfphlfakmnbmaa.B
end

section
namespace Go.Proofs.Ytmfphlfakmnbmaa.B
open Go.RowKit Go.Proofs.YtmfphlfakmnbmaaW.PrintWords Go.Proofs.YtmfphlfakmnbmaaW.PrintLast Go.Proofs.YtmfphlfakmnbmaaW.PrintMore
attribute [local go_sem] max2_int min2_int max_two min_two max_three min_three max_four min_four
def R170_2.T : Bool × List (List Nat × List Nat) := (true, [([], []), ([0], [0]), ([], []), ([2], [2]), ([], []), ([4], [4]), ([3, 5], [3, 5]), ([1, 6], [1, 6]), ([], []), ([8], [8]), ([], []), ([10], [10]), ([9, 11], [9, 11]), ([], []), ([], []), ([14], [14]), ([12, 13, 15], [12, 13, 15]), ([7, 0, 1, 2, 3, 4, 5, 6, 7], [7]), ([16, 17, 0, 1, 2, 3, 4, 5, 6, 7, 8, 9, 10, 11, 12, 13, 14, 15, 16, 17], [16])])
def R170_2.B : List Nat := [0, 1, 0, 4, 0, 16, 60, 127, 0, 256, 0, 1024, 3840, 0, 0, 16384, 65280, 255, 262143]
theorem R170_2.tab : rtab .any (opsOf Try.f170 2) = R170_2.T := by kernel_rfl
theorem R170_2.bits : waitsOk R170_2.T.2 R170_2.B = true := by kernel_rfl
def R170_3.T : Bool × List (List Nat × List Nat) := (true, [([], []), ([0], [0]), ([], []), ([2], [2]), ([], []), ([4], [4]), ([3, 5], [3, 5]), ([1, 6], [1, 6]), ([], []), ([8], [8]), ([], []), ([10], [10]), ([9, 11], [9, 11]), ([], []), ([13], [13]), ([], []), ([12, 14, 15], [12, 14, 15]), ([7, 0, 1, 2, 3, 4, 5, 6, 7], [7]), ([16, 17, 0, 1, 2, 3, 4, 5, 6, 7, 8, 9, 10, 11, 12, 13, 14, 15, 16, 17], [16])])
def R170_3.B : List Nat := [0, 1, 0, 4, 0, 16, 60, 127, 0, 256, 0, 1024, 3840, 0, 8192, 0, 65280, 255, 262143]
theorem R170_3.tab : rtab .any (opsOf Try.f170 3) = R170_3.T := by kernel_rfl
theorem R170_3.bits : waitsOk R170_3.T.2 R170_3.B = true := by kernel_rfl
end Go.Proofs.Ytmfphlfakmnbmaa.B
end

section
namespace Go.Proofs.Ytmfphlfakmnbmaa.B
open Go.RowKit Go.Proofs.YtmfphlfakmnbmaaW.PrintWords Go.Proofs.YtmfphlfakmnbmaaW.PrintLast Go.Proofs.YtmfphlfakmnbmaaW.PrintMore
attribute [local go_sem] max2_int min2_int max_two min_two max_three min_three max_four min_four
def R142_9.T : Bool × List (List Nat × List Nat) := (true, [([], []), ([], []), ([1], [1]), ([0, 2], [0, 2]), ([], []), ([4, 3], [4]), ([3, 5, 0, 1, 2, 3], [0, 3]), ([5, 6, 0, 1, 2, 3, 4, 5, 6], [5])])
def R142_9.B : List Nat := [0, 0, 2, 7, 0, 31, 63, 127]
theorem R142_9.tab : rtab .any (opsOf Try.f142 9) = R142_9.T := by kernel_rfl
theorem R142_9.bits : waitsOk R142_9.T.2 R142_9.B = true := by kernel_rfl
end Go.Proofs.Ytmfphlfakmnbmaa.B
end

section
namespace Go.Proofs.Ytmfphlfakmnbmaa.B
open Go.RowKit Go.Proofs.YtmfphlfakmnbmaaW.PrintWords Go.Proofs.YtmfphlfakmnbmaaW.PrintLast Go.Proofs.YtmfphlfakmnbmaaW.PrintMore
attribute [local go_sem] max2_int min2_int max_two min_two max_three min_three max_four min_four
theorem eqA164 (d : Nat) (w : World) (x0 y0 : Int) (x1 y1 : Int) :
    (Op.equalIn (d + 2) 164 (.agg #[.int .i64 x0, .int .i64 x1]) (.agg #[.int .i64 y0, .int .i64 y1])).run Try.prog w = .ok (x0 == y0 && (x1 == y1)) w := by
  refine eqA_of Try.underlying164 (by kernel_rfl) ?_
  refine eqf_cons (by rfl) (by go_simp; rfl) (by go_simp; rfl) (by go_simp) ?_
  exact eqf_last (by rfl) (by go_simp; rfl) (by go_simp; rfl) (by go_simp)
end Go.Proofs.Ytmfphlfakmnbmaa.B
end

section
namespace Go.Proofs.Ytmfphlfakmnbmaa.B
open Go.RowKit Go.Proofs.YtmfphlfakmnbmaaW.PrintWords Go.Proofs.YtmfphlfakmnbmaaW.PrintLast Go.Proofs.YtmfphlfakmnbmaaW.PrintMore
attribute [local go_sem] max2_int min2_int max_two min_two max_three min_three max_four min_four
attribute [local go_sem high] eqA164
theorem placed162_calls (a b c d e' : Int) (w : World) : Calls Try.prog 162 #[.agg #[.int .i64 a, .int .i64 b, .int .i64 c], .agg #[.int .i64 d, .int .i64 e']] w fun e w' => e = .returned (.bool (a == d && b == e')) ∧ Below w.heap.size w w' := by
  have hu129 := Try.underlying129
  have hu164 := Try.underlying164
  go_enter Try.func162, Try.ntmps162
  go_wp2
  go_ret
  exact ⟨by simp, by repeat (first | exact Below.refl _ _ | apply below_alloc | apply pw_below_drewN)⟩
def sameAt (p : List S129) (t : List S164) (i : Nat) : Bool := (p.getD i z129).f0 == (t.getD i z164).f0 && (p.getD i z129).f1 == (t.getD i z164).f1
def placedP (p : List S129) (t : List S164) : Bool := decide (p.length = t.length) && (List.range p.length).all (sameAt p t)
set_option maxRecDepth 100000 in
set_option maxHeartbeats 1000000 in
theorem equal162_calls (A0 : Option Addr) (c0 : Nat) (l0 : List S129) (A1 : Option Addr) (c1 : Nat) (l1 : List S164) (w : World) (hr0 : Kd.C k129 w A0 l0.length l0) (hc0 : l0.length ≤ c0) (hr1 : Kd.C k164 w A1 l1.length l1) (hc1 : l1.length ≤ c1) :
    Calls Try.prog 161 #[.slice A0 l0.length c0, .slice A1 l1.length c1, .func (.func 162) #[] #[]] w fun e w' => e = .returned (.bool (placedP l0 l1)) ∧ Below w.heap.size w w' := by
  have HR0 := Aside0.mk hr0
  have HR1 := Aside0.mk hr1
  have hm := hr0.2.1
  clear hr0 hc0 hr1 hc1
  have hu129 := Try.underlying129
  have hu164 := Try.underlying164
  have hn := run_not
  by_cases hl : l0.length = l1.length
  · have g1 : ((l0.length : Int) != (l1.length : Int)) = false := by rw [hl]; simp
    have g2 : (l0.length != l1.length) = false := by rw [hl]; simp
    have g3 : (l0.length == l1.length) = true := by rw [hl]; simp
    have HL := Aside0.mk hl
    clear hl
    go_enter Try.func161, Try.ntmps161
    go_wp2
    go_loopw [17] (fun v17 wr => ∃ j : Nat, j ≤ l0.length ∧ v17 = .int .i64 (j : Int) ∧ Aside0 (∀ i, i < j → sameAt l0 l1 i = true) ∧ Aside0 (Below w.heap.size w wr)) (fun v17 _ => l0.length - (intOf v17).toNat)
    case atStart => exact ⟨0, Nat.zero_le _, rfl, ⟨fun i hi => absurd hi (by omega)⟩, ⟨Below.refl _ _⟩⟩
    case round =>
      obtain ⟨j, hj, rfl, HA, HBw⟩ := hrel
      by_cases hlt : j < l0.length
      · have hlt1 : j < l1.length := by have := HL.out; omega
        obtain ⟨ad, e, hx0, hx1, hx2⟩ := at_T129 (Kd.C_below HR0.out HBw.out) (j : Int) (by omega) (by omega)
        cases e
        obtain ⟨ae, e, hy0, hy1⟩ := at_T164 (Kd.C_below HR1.out HBw.out) (j : Int) (by omega) (by omega)
        cases e
        rw [Int.toNat_natCast] at hx0 hx1 hx2 hy0 hy1
        have hz0 : ∀ o, (wr.alloc o).cell? _ = _ := fun o => pw_cell_below (below_alloc (Below.refl _ _) o) hy0
        have hz1 : ∀ o, (wr.alloc o).cell? _ = _ := fun o => pw_cell_below (below_alloc (Below.refl _ _) o) hy1
        clear hy0 hy1
        cases hb : sameAt l0 l1 j with
        | true =>
          have HB := Aside0.mk (show ((rd_T129 l0 (j : Int)).f0 == (rd_T164 l1 (j : Int)).f0 && (rd_T129 l0 (j : Int)).f1 == (rd_T164 l1 (j : Int)).f1) = true from hb)
          clear hb
          go_wp2_with (go_at_call 162; refine (placed162_calls _ _ _ _ _ _).mono ?_; rintro e w' ⟨rfl, hd⟩; rw [HB.out]; have HD := Aside0.mk hd; clear hd)
          go_roundw
          case rel => exact ⟨j + 1, by omega, by go_num, ⟨fun i hi => if h : i = j then by subst h; exact HB.out else HA.out i (by omega)⟩, ⟨below_then (below_alloc (below_alloc HBw.out _) _) (below_size (below_alloc (below_alloc HBw.out _) _)) HD.out⟩⟩
          case measure => simp [intOf]; omega
        | false =>
          have HF := Aside0.mk (show placedP l0 l1 = false by
            unfold placedP
            rw [Bool.and_eq_false_iff]
            refine .inr ?_
            rw [List.all_eq_false]
            exact ⟨j, List.mem_range.2 hlt, by rw [hb]; decide⟩)
          have HB := Aside0.mk (show ((rd_T129 l0 (j : Int)).f0 == (rd_T164 l1 (j : Int)).f0 && (rd_T129 l0 (j : Int)).f1 == (rd_T164 l1 (j : Int)).f1) = false from hb)
          clear hb
          go_wp2_with (go_at_call 162; refine (placed162_calls _ _ _ _ _ _).mono ?_; rintro e w' ⟨rfl, hd⟩; rw [HB.out]; have HD := Aside0.mk hd; clear hd)
          go_ret
          exact ⟨by rw [HF.out]; rfl, below_then (below_alloc (below_alloc HBw.out _) _) (below_size (below_alloc (below_alloc HBw.out _) _)) HD.out⟩
      · have HF := Aside0.mk (show placedP l0 l1 = true by
          unfold placedP
          rw [Bool.and_eq_true]
          refine ⟨by simpa using HL.out, ?_⟩
          rw [List.all_eq_true]
          exact fun i hi => HA.out i (by have := List.mem_range.1 hi; omega))
        go_wp2
        go_ret
        exact ⟨by rw [HF.out]; rfl, HBw.out⟩
  · have g1 : ((l0.length : Int) != (l1.length : Int)) = true := by simp; omega
    have g2 : (l0.length != l1.length) = true := by simp; omega
    have g3 : (l0.length == l1.length) = false := by simp; omega
    have HF := Aside0.mk (show placedP l0 l1 = false by
      unfold placedP
      rw [Bool.and_eq_false_iff]
      exact .inl (by simpa using hl))
    clear hl
    go_enter Try.func161, Try.ntmps161
    go_wp2
    go_ret
    exact ⟨by rw [HF.out]; rfl, Below.refl _ _⟩
def book_placed.f (l0 : List S129) (l1 : List S164) : Option Bool := some (placedP l0 l1)
set_option maxRecDepth 100000 in
theorem book_placed.calls (A0 : Option Addr) (c0 : Nat) (l0 : List S129) (A1 : Option Addr) (c1 : Nat) (l1 : List S164) (r : Bool) (w : World) (hr0 : Kd.C k129 w A0 l0.length l0) (hc0 : l0.length ≤ c0) (hr1 : Kd.C k164 w A1 l1.length l1) (hc1 : l1.length ≤ c1) (h : book_placed.f l0 l1 = some r) :
    Calls Try.prog 126 #[.slice A0 l0.length c0, .slice A1 l1.length c1] w fun e w' => e = .returned (.bool r) ∧ Below w.heap.size w w' := by
  obtain rfl := Option.some.inj h
  have HR0 := Aside0.mk hr0
  have HC0 := Aside0.mk hc0
  have HR1 := Aside0.mk hr1
  have HC1 := Aside0.mk hc1
  clear hr0 hc0 hr1 hc1 h
  go_enter Try.func126, Try.ntmps126
  go_wp2_with (go_at_call 161; refine (equal162_calls _ _ _ _ _ _ _ HR0.out HC0.out HR1.out HC1.out).mono ?_; rintro e w' ⟨rfl, hd⟩; have HD := Aside0.mk hd; clear hd)
  go_ret
  exact ⟨rfl, HD.out⟩
end Go.Proofs.Ytmfphlfakmnbmaa.B
end

section
namespace Go.Proofs.Ytmfphlfakmnbmaa.B
open Go.RowKit Go.Proofs.YtmfphlfakmnbmaaW.PrintWords Go.Proofs.YtmfphlfakmnbmaaW.PrintLast Go.Proofs.YtmfphlfakmnbmaaW.PrintMore
attribute [local go_sem] max2_int min2_int max_two min_two max_three min_three max_four min_four
theorem digests159_calls (a b c : Int) (w : World) : Calls Try.prog 159 #[.agg #[.int .i64 a, .int .i64 b, .int .i64 c]] w fun e w' => e = .returned (.bool (!isDigP c)) ∧ Below w.heap.size w w' := by
  have hn := run_not
  have hu129 := Try.underlying129
  go_enter Try.func159, Try.ntmps159
  go_wp2_with (go_at_call 92; refine (book_isDigest.calls _ _ _ (isDigest_some c)).mono ?_; rintro e w' ⟨rfl, nq, rfl⟩)
  go_ret
  exact ⟨rfl, by repeat (first | exact Below.refl _ _ | apply below_alloc | apply pw_below_drewN)⟩
def digestsP (l : List S129) : Bool := l.all fun x => isDigP x.f2
def badTwig (l : List S129) : Int := match l.findIdx? (fun x => !isDigP x.f2) with | some i => (i : Int) | none => -1
theorem badTwig_hit (l : List S129) (j : Nat) (h : j < l.length) (hb : isDigP (l.getD j z129).f2 = false) (hall : ∀ i, i < j → isDigP (l.getD i z129).f2 = true) : badTwig l = (j : Int) := by
  unfold badTwig
  have : l.findIdx? (fun x => !isDigP x.f2) = some j := by
    rw [List.findIdx?_eq_some_iff_getElem]
    refine ⟨h, by simpa [List.getD_eq_getElem?_getD, List.getElem?_eq_getElem h] using hb, fun i hi => ?_⟩
    have := hall i hi
    simpa [List.getD_eq_getElem?_getD, List.getElem?_eq_getElem (Nat.lt_trans hi h)] using this
  rw [this]
theorem badTwig_none (l : List S129) (hall : ∀ i, i < l.length → isDigP (l.getD i z129).f2 = true) : badTwig l = -1 := by
  unfold badTwig
  have : l.findIdx? (fun x => !isDigP x.f2) = none := by
    rw [List.findIdx?_eq_none_iff]
    intro x hx
    obtain ⟨i, hi, rfl⟩ := List.mem_iff_getElem.1 hx
    have := hall i hi
    simpa [List.getD_eq_getElem?_getD, List.getElem?_eq_getElem hi] using this
  rw [this]
theorem badTwig_ge (l : List S129) : decide (0 ≤ badTwig l) = !digestsP l := by
  unfold badTwig digestsP
  cases h : l.findIdx? (fun x => !isDigP x.f2) with
  | none =>
    rw [List.findIdx?_eq_none_iff] at h
    have : (l.all fun x => isDigP x.f2) = true := List.all_eq_true.2 fun x hx => by simpa using h x hx
    rw [this]
    simp
  | some i =>
    rw [List.findIdx?_eq_some_iff_getElem] at h
    obtain ⟨h1, h2, _⟩ := h
    have : (l.all fun x => isDigP x.f2) = false := List.all_eq_false.2 ⟨l[i], List.getElem_mem h1, by simpa using h2⟩
    rw [this]
    simp
set_option maxRecDepth 100000 in
set_option maxHeartbeats 1000000 in
theorem index159_calls (A0 : Option Addr) (c0 : Nat) (l0 : List S129) (w : World) (hr0 : Kd.C k129 w A0 l0.length l0) (hc0 : l0.length ≤ c0) :
    Calls Try.prog 173 #[.slice A0 l0.length c0, .func (.func 159) #[] #[]] w fun e w' => e = .returned (.int .i64 (badTwig l0)) ∧ Below w.heap.size w w' := by
  have HR0 := Aside0.mk hr0
  have hm := hr0.2.1
  have HC0 := Aside0.mk hc0
  clear hr0 hc0
  have hu129 := Try.underlying129
  go_enter Try.func173, Try.ntmps173
  go_wp2
  go_loopw [8] (fun v8 wr => ∃ j : Nat, j ≤ l0.length ∧ v8 = .int .i64 (j : Int) ∧ Aside0 (∀ i, i < j → isDigP (l0.getD i z129).f2 = true) ∧ Aside0 (Below w.heap.size w wr)) (fun v8 _ => l0.length - (intOf v8).toNat)
  case atStart => exact ⟨0, Nat.zero_le _, rfl, ⟨fun i hi => absurd hi (by omega)⟩, ⟨Below.refl _ _⟩⟩
  case round =>
    obtain ⟨j, hj, rfl, HA, HBw⟩ := hrel
    by_cases hlt : j < l0.length
    · obtain ⟨ad, e, hx0, hx1, hx2⟩ := at_T129 (Kd.C_below HR0.out HBw.out) (j : Int) (by omega) (by omega)
      cases e
      rw [Int.toNat_natCast] at hx0 hx1 hx2
      cases hb : isDigP (rd_T129 l0 (j : Int)).f2 with
      | true =>
        have HB := Aside0.mk hb
        clear hb
        go_wp2_with (go_at_call 159; refine (digests159_calls _ _ _ _).mono ?_; rintro e w' ⟨rfl, hd⟩; rw [HB.out]; have HD := Aside0.mk hd; clear hd)
        go_roundw
        case rel => exact ⟨j + 1, by omega, by go_num, ⟨fun i hi => if h : i = j then by subst h; exact HB.out else HA.out i (by omega)⟩, ⟨below_then HBw.out (below_size HBw.out) HD.out⟩⟩
        case measure => simp [intOf]; omega
      | false =>
        have HB := Aside0.mk hb
        clear hb
        go_wp2_with (go_at_call 159; refine (digests159_calls _ _ _ _).mono ?_; rintro e w' ⟨rfl, hd⟩; rw [HB.out]; have HD := Aside0.mk hd; clear hd)
        go_ret
        exact ⟨by rw [badTwig_hit l0 j hlt HB.out HA.out]; rfl, below_then HBw.out (below_size HBw.out) HD.out⟩
    · go_wp2
      go_ret
      exact ⟨by rw [badTwig_none l0 (fun i hi => HA.out i (by omega))]; rfl, HBw.out⟩
set_option maxRecDepth 100000 in
theorem contains159_calls (A0 : Option Addr) (c0 : Nat) (l0 : List S129) (w : World) (hr0 : Kd.C k129 w A0 l0.length l0) (hc0 : l0.length ≤ c0) :
    Calls Try.prog 158 #[.slice A0 l0.length c0, .func (.func 159) #[] #[]] w fun e w' => e = .returned (.bool (!digestsP l0)) ∧ Below w.heap.size w w' := by
  have HR0 := Aside0.mk hr0
  have HC0 := Aside0.mk hc0
  clear hr0 hc0
  have HG := Aside0.mk (badTwig_ge l0)
  go_enter Try.func158, Try.ntmps158
  go_wp2_with (go_at_call 173; refine (index159_calls _ _ _ _ HR0.out HC0.out).mono ?_; rintro e w' ⟨rfl, hd⟩; have HD := Aside0.mk hd; clear hd)
  go_ret
  exact ⟨by rw [← HG.out]; rfl, HD.out⟩
def book_digests.f (l0 : List S129) : Option Bool := some (digestsP l0)
set_option maxRecDepth 100000 in
theorem book_digests.calls (A0 : Option Addr) (c0 : Nat) (l0 : List S129) (r : Bool) (w : World) (hr0 : Kd.C k129 w A0 l0.length l0) (hc0 : l0.length ≤ c0) (h : book_digests.f l0 = some r) :
    Calls Try.prog 123 #[.slice A0 l0.length c0] w fun e w' => e = .returned (.bool r) ∧ Below w.heap.size w w' := by
  obtain rfl := Option.some.inj h
  have HR0 := Aside0.mk hr0
  have HC0 := Aside0.mk hc0
  clear hr0 hc0 h
  have hn := run_not
  go_enter Try.func123, Try.ntmps123
  go_wp2_with (go_at_call 158; refine (contains159_calls _ _ _ _ HR0.out HC0.out).mono ?_; rintro e w' ⟨rfl, hd⟩; have HD := Aside0.mk hd; clear hd)
  go_ret
  exact ⟨by simp, HD.out⟩
end Go.Proofs.Ytmfphlfakmnbmaa.B
end

section
namespace Go.Proofs.Ytmfphlfakmnbmaa.B
open Go.RowKit Go.Proofs.YtmfphlfakmnbmaaW.PrintWords Go.Proofs.YtmfphlfakmnbmaaW.PrintLast Go.Proofs.YtmfphlfakmnbmaaW.PrintMore
attribute [local go_sem] max2_int min2_int max_two min_two max_three min_three max_four min_four
theorem placed_len {p : List S129} {ts : List S164} (h : placedP p ts = true) : p.length = ts.length := by
  unfold placedP at h
  rw [Bool.and_eq_true, decide_eq_true_eq] at h
  exact h.1
theorem placed_at {p : List S129} {ts : List S164} (h : placedP p ts = true) {i : Nat} (hi : i < p.length) : (p.getD i z129).f0 = (ts.getD i z164).f0 ∧ (p.getD i z129).f1 = (ts.getD i z164).f1 := by
  unfold placedP at h
  rw [Bool.and_eq_true, List.all_eq_true] at h
  have := h.2 i (List.mem_range.2 hi)
  unfold sameAt at this
  rw [Bool.and_eq_true, beq_iff_eq, beq_iff_eq] at this
  exact this
theorem placed_iff {p : List S129} {ts : List S164} : placedP p ts = true ↔ p.map (fun y => (⟨y.f0, y.f1⟩ : S164)) = ts := by
  constructor
  · intro h
    have hl := placed_len h
    refine List.ext_getElem (by rw [List.length_map]; exact hl) (fun i h1 h2 => ?_)
    have hi : i < p.length := by rw [List.length_map] at h1; exact h1
    have h3 := placed_at h hi
    rw [List.getElem_map]
    have e1 : p.getD i z129 = p[i] := by simp [List.getD_eq_getElem?_getD, List.getElem?_eq_getElem hi]
    have e2 : ts.getD i z164 = ts[i] := by simp [List.getD_eq_getElem?_getD, List.getElem?_eq_getElem h2]
    rw [e1, e2] at h3
    cases hts : ts[i] with
    | mk f g => rw [hts] at h3; rw [h3.1, h3.2]
  · intro h
    subst h
    unfold placedP
    rw [Bool.and_eq_true, decide_eq_true_eq, List.all_eq_true]
    refine ⟨by rw [List.length_map], fun i hi => ?_⟩
    have hi := List.mem_range.1 hi
    unfold sameAt
    have e1 : p.getD i z129 = p[i] := by simp [List.getD_eq_getElem?_getD, List.getElem?_eq_getElem hi]
    have e2 : (p.map (fun y => (⟨y.f0, y.f1⟩ : S164))).getD i z164 = ⟨p[i].f0, p[i].f1⟩ := by simp [List.getD_eq_getElem?_getD, List.getElem?_eq_getElem hi]
    rw [e1, e2]
    simp
end Go.Proofs.Ytmfphlfakmnbmaa.B
end

section
namespace Go.Proofs.Ytmfphlfakmnbmaa.B
open Go.RowKit Go.Proofs.YtmfphlfakmnbmaaW.PrintWords Go.Proofs.YtmfphlfakmnbmaaW.PrintLast Go.Proofs.YtmfphlfakmnbmaaW.PrintMore
attribute [local go_sem] max2_int min2_int max_two min_two max_three min_three max_four min_four
def partedF : Nat → Nat → Nat → Nat → List S164
  | 0, f, g, _ => [⟨(f : Int), (g : Int)⟩]
  | k + 1, f, g, x => if f + g ≤ x ∨ x ≤ f then [⟨(f : Int), (g : Int)⟩] else partedF k f (halfP g) x ++ partedF k (f + halfP g) (g - halfP g) x
theorem partedF_length : ∀ (n g f x : Nat), g ≤ n → g ≤ 64 → (partedF n f g x).length ≤ g + 1 ∧ (1 ≤ g → (partedF n f g x).length ≤ g)
  | 0, g, f, x, h, _ => by
    obtain rfl : g = 0 := by omega
    exact ⟨Nat.le_refl _, fun h => by omega⟩
  | n + 1, g, f, x, h, h64 => by
    rw [partedF]
    split
    · exact ⟨by rw [List.length_singleton]; omega, fun h => by rw [List.length_singleton]; omega⟩
    · rename_i hx
      have hb := halfP_bounds (n := g) (by omega) h64
      have h1 := (partedF_length n (halfP g) f x (by omega) (by omega)).2 (by omega)
      have h2 := (partedF_length n (g - halfP g) (f + halfP g) x (by omega) (by omega)).2 (by omega)
      rw [List.length_append]
      exact ⟨by omega, fun _ => by omega⟩
theorem parted_some (x : Nat) : ∀ (n g f k : Nat), g ≤ n → f + g ≤ 64 → 2 * n + 13 ≤ k → book_parted.f k (f : Int) (g : Int) (x : Int) = some (partedF n f g x) := by
  intro n
  induction n with
  | zero =>
    intro g f k hg hfg hk
    obtain ⟨k, rfl⟩ : ∃ m, k = m + 2 := ⟨k - 2, by omega⟩
    obtain rfl : g = 0 := by omega
    rw [show k + 2 = (k + 1) + 1 from rfl]
    simp only [book_parted.f]
    rw [show wrap64 ((f : Int) + ((0 : Nat) : Int)) = (f : Int) by unfold wrap64; omega]
    by_cases h : f ≤ x
    · rw [if_pos (by omega)]
      simp only [book_parted.j0]
      rw [if_pos trivial]
      rfl
    · rw [if_neg (by omega)]
      simp only [book_parted.j0]
      rw [if_pos (by rw [decide_eq_true_eq]; omega)]
      rfl
  | succ n ih =>
    intro g f k hg hfg hk
    obtain ⟨k, rfl⟩ : ∃ m, k = m + 2 := ⟨k - 2, by omega⟩
    rw [show k + 2 = (k + 1) + 1 from rfl]
    simp only [book_parted.f]
    rw [show wrap64 ((f : Int) + (g : Int)) = ((f + g : Nat) : Int) by unfold wrap64; omega, partedF]
    by_cases h1 : f + g ≤ x
    · rw [if_pos (by omega), if_pos (Or.inl h1)]
      simp only [book_parted.j0]
      rw [if_pos trivial]
    · rw [if_neg (by omega)]
      by_cases h2 : x ≤ f
      · rw [if_pos (Or.inr h2)]
        simp only [book_parted.j0]
        rw [if_pos (by rw [decide_eq_true_eq]; omega)]
      · rw [if_neg (by omega)]
        have hb := halfP_bounds (n := g) (by omega) (by omega)
        obtain ⟨h, hh⟩ : ∃ h, h = halfP g := ⟨_, rfl⟩
        rw [← hh] at hb ⊢
        have hhalf : book_half.f k (g : Int) = some (h : Int) := by rw [hh]; exact at_rounds (g := fun k => book_half.f k (g : Int)) (fun k => book_half.mono _ _) (show 10 ≤ k by omega) (book_half_some (by omega))
        have l1 := (partedF_length n h f x (by omega) (by omega)).2 (by omega)
        have l2 := (partedF_length n (g - h) (f + h) x (by omega) (by omega)).2 (by omega)
        simp only [book_parted.j0]
        unfold book_tree_halves.f
        rw [if_neg (by rw [decide_eq_true_eq]; omega), hhalf, Option.bind_some, Option.bind_some, show wrap64 ((f : Int) + (h : Int)) = ((f + h : Nat) : Int) by unfold wrap64; omega, show wrap64 ((g : Int) - (h : Int)) = ((g - h : Nat) : Int) by unfold wrap64; omega]
        dsimp only
        rw [ih h f k (by omega) (by omega) (by omega), Option.bind_some, ih (g - h) (f + h) k (by omega) (by omega) (by omega), Option.bind_some, if_pos (by omega)]
end Go.Proofs.Ytmfphlfakmnbmaa.B
end

section
namespace Go.Proofs.Ytmfphlfakmnbmaa.B
open Go.RowKit Go.Proofs.YtmfphlfakmnbmaaW.PrintWords Go.Proofs.YtmfphlfakmnbmaaW.PrintLast Go.Proofs.YtmfphlfakmnbmaaW.PrintMore
attribute [local go_sem] max2_int min2_int max_two min_two max_three min_three max_four min_four
open Go.Maps (Keyed)
theorem row164 : (164 : TypeId) < Try.prog.types.size := of_decide_eq_true (by kernel_rfl)
theorem wide164 : (match Try.prog.underlying 164 with | some (.array _ _) | some (.struct _) => true | _ => false) = true := by rw [Try.underlying164]
set_option maxRecDepth 100000 in
theorem law164 : WideMaps.KeyLaw Try.prog 164 := deep_law_laid laidOut_ (m := 3) (by omega) row164 (by kernel_rfl) wide164
theorem K164 : Keyed Try.prog 164 := Keyed.of_law law164
theorem keyT164 : Try.prog.keyType 164 = true := by kernel_rfl
theorem cells164 : Try.prog.cellsOf 164 = 2 := by kernel_rfl
def ek164 (x : S164) : Value := .agg #[.int .i64 x.f0, .int .i64 x.f1]
def Wf164 (x : S164) : Prop := (Lit.int .i64 x.f0).wf = true ∧ (Lit.int .i64 x.f1).wf = true
theorem keyOf164 {x : S164} (h : Wf164 x) : ∃ l, keyOf Try.prog 164 (ek164 x) = some l := by
  obtain ⟨h0, h1⟩ := h
  obtain ⟨m, hm⟩ : ∃ m, Try.prog.types.size + 1 = m + 2 := ⟨Try.prog.types.size - 1, by have h : (164 : Nat) < Try.prog.types.size := row164; omega⟩
  unfold keyOf
  rw [Try.underlying164]
  have hf : (ek164 x).formed Try.prog 164 = true := by simp [ek164, Value.formed, Try.underlying164, cells164]
  simp only [keyT164, hf, Bool.and_self, if_true, hm]
  simp [ek164, Value.cells, Program.keyLits, Try.underlying164, Try.underlying3, cells164, cells3, h0, h1]
noncomputable def kl164 (x : S164) : Lit := (keyOf Try.prog 164 (ek164 x)).getD (.bool true)
theorem kl164_eq {x : S164} (h : Wf164 x) : keyOf Try.prog 164 (ek164 x) = some (kl164 x) := by
  obtain ⟨l, hl⟩ := keyOf164 h
  unfold kl164
  rw [hl]; rfl
theorem ek164_inj {x y : S164} (h : ek164 x = ek164 y) : x = y := by
  cases x; cases y
  simp [ek164] at h
  simp [h]
theorem zero3_ (u : World) : (zeroValue 3).run Try.prog u = .ok (evI 0) u := by kernel_rfl
theorem wf_nat {n : Nat} (h : n ≤ 1000) : (Lit.int .i64 (n : Int)).wf = true := by
  have h1 : IntKind.i64.min = -9223372036854775808 := rfl
  have h2 : IntKind.i64.max = 9223372036854775807 := rfl
  simp [Lit.wf]
  omega
abbrev Known := S164 → Option Int
instance : DecidableEq S164 := fun a b =>
  if h : a.f0 = b.f0 ∧ a.f1 = b.f1 then isTrue (by cases a; cases b; simp only [S164.mk.injEq]; exact h) else isFalse (fun e => h (by subst e; exact ⟨rfl, rfl⟩))
def aboveF : Nat → Known → Nat → Nat → Int × Bool
  | 0, M, f, g => match M ⟨(f : Int), (g : Int)⟩ with
    | some d => (d, true)
    | none => (dig [2], decide (g = 0))
  | k + 1, M, f, g => match M ⟨(f : Int), (g : Int)⟩ with
    | some d => (d, true)
    | none => if g < 2 then (dig [2], decide (g = 0)) else (dig [1, (g : Int), (aboveF k M f (halfP g)).1, (aboveF k M (f + halfP g) (g - halfP g)).1], (aboveF k M f (halfP g)).2 && (aboveF k M (f + halfP g) (g - halfP g)).2)
end Go.Proofs.Ytmfphlfakmnbmaa.B
end

section
namespace Go.Proofs.Ytmfphlfakmnbmaa.B
open Go.RowKit Go.Proofs.YtmfphlfakmnbmaaW.PrintWords Go.Proofs.YtmfphlfakmnbmaaW.PrintLast Go.Proofs.YtmfphlfakmnbmaaW.PrintMore
attribute [local go_sem] max2_int min2_int max_two min_two max_three min_three max_four min_four
def R127_5.T : Bool × List (List Nat × List Nat) := (true, [([], []), ([], []), ([1], [1]), ([2], [2]), ([0, 0, 0], [0]), ([3, 4, 0, 1, 2, 3, 4], [3])])
def R127_5.B : List Nat := [0, 0, 2, 6, 1, 31]
theorem R127_5.tab : rtab .any (opsOf Try.f127 5) = R127_5.T := by kernel_rfl
theorem R127_5.bits : waitsOk R127_5.T.2 R127_5.B = true := by kernel_rfl
theorem above_known (f g : Nat) (hf : f ≤ 1000) (hg : g ≤ 1000) : keyOf Try.prog 164 (ek164 ⟨(f : Int), (g : Int)⟩) = some (kl164 ⟨(f : Int), (g : Int)⟩) := kl164_eq (x := ⟨(f : Int), (g : Int)⟩) ⟨wf_nat hf, wf_nat hg⟩
set_option maxRecDepth 100000 in
set_option maxHeartbeats 1000000 in
theorem above_hit (b cnt : Nat) (M : Known) (f g : Nat) (d : Int) (w : World) (hf : f ≤ 1000) (hg : g ≤ 1000) (hM : MapIs Try.prog 164 ek164 evI w b cnt M) (hm : M ⟨(f : Int), (g : Int)⟩ = some d) :
    Calls Try.prog 127 #[.agg #[.int .i64 (f : Int), .int .i64 (g : Int)], .map (some b)] w fun e w' => e = .returned (.tuple #[.int .i64 d, .bool true]) ∧ Below w.heap.size w w' := by
  have HM := Aside0.mk hM
  have HKEY := Aside0.mk (above_known f g hf hg)
  have hu164 := Try.underlying164
  have HM0 := Aside0.mk hm
  clear hM hm
  go_enter Try.func127, Try.ntmps127
  go_wp2_with (first | (at_lookup; refine wpList_lookup_map _ rfl _ _ 166 true rfl 164 3 K164 Try.underlying166 _ (zero3_ _) ek164 evI b cnt M rfl (HM.out.alloc _) (⟨(f : Int), (g : Int)⟩ : S164) _ rfl HKEY.out (.tuple #[.int .i64 d, .bool true]) (by rw [HM0.out]; rfl) ?_) | fail)
  go_ret2
  exact ⟨rfl, below_alloc (Below.refl _ _) _⟩
set_option maxRecDepth 100000 in
set_option maxHeartbeats 1000000 in
theorem above_low (b cnt : Nat) (M : Known) (f g : Nat) (w : World) (hf : f ≤ 1000) (hg : g < 2) (hM : MapIs Try.prog 164 ek164 evI w b cnt M) (hm : M ⟨(f : Int), (g : Int)⟩ = none) :
    Calls Try.prog 127 #[.agg #[.int .i64 (f : Int), .int .i64 (g : Int)], .map (some b)] w fun e w' => e = .returned (.tuple #[.int .i64 (dig [2]), .bool (decide (g = 0))]) ∧ Below w.heap.size w w' := by
  have HM := Aside0.mk hM
  have HKEY := Aside0.mk (above_known f g hf (by omega))
  have hu164 := Try.underlying164
  have HM0 := Aside0.mk hm
  have HE : Aside0 (((g : Int) == 0) = decide (g = 0)) := ⟨by rw [Bool.eq_iff_iff, beq_iff_eq, decide_eq_true_eq]; omega⟩
  have HNN := Aside0.mk (show book_none.f = some (dig [2]) from rfl)
  have g2 : (g : Int) < 2 := by omega
  obtain ⟨d2, hd2⟩ : ∃ d2, d2 = dig [2] := ⟨_, rfl⟩
  rw [← hd2] at HNN ⊢
  clear hM hm hd2
  rw [← HE.out]
  clear HE
  go_enter Try.func127, Try.ntmps127
  go_wp2_with (first | (at_lookup; refine wpList_lookup_map _ rfl _ _ 166 true rfl 164 3 K164 Try.underlying166 _ (zero3_ _) ek164 evI b cnt M rfl (HM.out.alloc _) (⟨(f : Int), (g : Int)⟩ : S164) _ rfl HKEY.out (.tuple #[.int .i64 0, .bool false]) (by rw [HM0.out]; rfl) ?_) | fail)
  have BK := Aside0.mk (blk_drew (blk_new' w (.cells #[.int .i64 (f : Int), .int .i64 (g : Int)] 164) w.heap.size rfl))
  have HB := Aside0.mk (below_drew1 (below_alloc (Below.refl w.heap.size w) (.cells #[.int .i64 (f : Int), .int .i64 (g : Int)] 164)))
  refine start_ (n := 6) (S := fun w' => w'.cell? ⟨w.heap.size, 0, none⟩ = some (.int .i64 (f : Int)) ∧ w'.cell? ⟨w.heap.size, 1, none⟩ = some (.int .i64 (g : Int))) (ds := []) #[false, false, false, false, false, false] (by kernel_rfl) rfl rfl ⟨(blk_cell BK.out 0).trans rfl, (blk_cell BK.out 1).trans rfl⟩ (fun hHeld => ?_); refine with_tabW R127_5.tab R127_5.bits (fun HT_ HW_ => ?_)
  generalize ((w.alloc (.cells #[.int .i64 (f : Int), .int .i64 (g : Int)] 164))).drew = wd at BK HB hHeld ⊢
  refine pure_ (i := 1) (N := (some 26)) (v := ?_) (a' := ?_) #[false, true, false, false, false, false] rfl rfl (any_of HT_.out (by kernel_rfl)) (fun _ _ _ h => h) (Or.inl ⟨by rfl, ?_⟩) ?_ ?_
  rotate_left
  · intro w'
    go_simp
    with_reducible rfl
  rotate_left
  · simp only [Act.put, List.setIfInBounds_toArray, List.set_cons_zero, List.set_cons_succ, i64_w, i32_w]
    rfl
  refine take_ (i := 2) (N := (some 27)) (v := ?_) (a' := ?_) #[false, true, true, false, false, false] rfl rfl (take_ofW HT_.out HW_.out (by kernel_rfl)) (fun _ _ _ h => h) (Or.inl ⟨by rfl, ?_⟩) hHeld ?_ ?_
  rotate_left
  · rintro w' ⟨s0, s1⟩
    go_simp
    with_reducible rfl
  rotate_left
  · simp only [Act.put, List.setIfInBounds_toArray, List.set_cons_zero, List.set_cons_succ, i64_w, i32_w]
    rfl
  refine pure_ (i := 3) (N := (some 28)) (v := ?_) (a' := ?_) #[false, true, true, true, false, false] rfl rfl (any_of HT_.out (by kernel_rfl)) (fun _ _ _ h => h) (Or.inl ⟨by rfl, ?_⟩) ?_ ?_
  rotate_left
  · intro w'
    go_simp
    with_reducible rfl
  rotate_left
  · simp only [Act.put, List.setIfInBounds_toArray, List.set_cons_zero, List.set_cons_succ, i64_w, i32_w]
    rfl
  refine one_ (i := 0) (N := (some 25)) #[true, true, true, true, false, false] rfl rfl (one_of HT_.out (by kernel_rfl)) (by decide) (fun K hK => ?_)
  refine goes_ Try.func128 (by kernel_rfl) rfl #[] (by rfl) rfl rfl (by (try simp only [List.map_toArray, List.map_cons, List.map_nil]); first | done | rfl | (simp only [List.length_drop, List.length_take]; rfl)) ?_
  refine (book_none.calls _ _ HNN.out).mono ?_
  rintro e w2 ⟨rfl, hd⟩
  have HD := Aside0.mk hd
  clear hd
  refine ⟨_, rfl, ?_⟩
  refine hK.out _ _ ⟨(blk_cell (blk_below BK.out HD.out) 0).trans rfl, (blk_cell (blk_below BK.out HD.out) 1).trans rfl⟩ (fun hHeld => ?_)
  clear hK K
  refine norm_ (a' := ?_) ?_ ?_
  rotate_left
  · show Act.put _ (some 25) _ = _
    simp only [Act.put, List.setIfInBounds_toArray, List.set_cons_zero, List.set_cons_succ, i64_w, i32_w]
    rfl
  refine pure_ (i := 4) (N := (some 4)) (v := ?_) (a' := ?_) #[true, true, true, true, true, false] rfl rfl (any_of HT_.out (by kernel_rfl)) (fun _ _ _ h => h) (Or.inl ⟨by rfl, ?_⟩) ?_ ?_
  rotate_left
  · intro w'
    go_simp
    with_reducible rfl
  rotate_left
  · simp only [Act.put, List.setIfInBounds_toArray, List.set_cons_zero, List.set_cons_succ, i64_w, i32_w]
    rfl
  refine pure_ (i := 5) (N := (some 5)) (v := ?_) (a' := ?_) #[true, true, true, true, true, true] rfl rfl (any_of HT_.out (by kernel_rfl)) (fun _ _ _ h => h) (Or.inl ⟨by rfl, ?_⟩) ?_ ?_
  rotate_left
  · intro w'
    go_simp
    with_reducible rfl
  rotate_left
  · simp only [Act.put, List.setIfInBounds_toArray, List.set_cons_zero, List.set_cons_succ, i64_w, i32_w]
    rfl
  refine done_ (done_of HT_.out (by kernel_rfl)) ?_
  go_wp2
  go_ret2
  exact ⟨rfl, below_then HB.out (below_size HB.out) HD.out⟩
theorem halves_nat {f g : Nat} (hf : f ≤ 64) (hg : g ≤ 64) : book_tree_halves.f 10 (f : Int) (g : Int) = some ((f : Int), ((halfP g : Nat) : Int), ((f + halfP g : Nat) : Int), (g : Int) - ((halfP g : Nat) : Int)) := by
  unfold book_tree_halves.f
  rw [book_half_some hg, Option.bind_some]
  have hb : halfP g ≤ 64 := by
    have : ∀ m : Fin 65, halfP m.val ≤ 64 := by decide +kernel
    exact this ⟨g, by omega⟩
  rw [show wrap64 ((f : Int) + ((halfP g : Nat) : Int)) = ((f + halfP g : Nat) : Int) by unfold wrap64; omega, show wrap64 ((g : Int) - ((halfP g : Nat) : Int)) = (g : Int) - ((halfP g : Nat) : Int) by unfold wrap64; omega]
set_option maxRecDepth 100000 in
set_option maxHeartbeats 1000000 in
theorem above_calls (b cnt : Nat) (M : Known) : ∀ (n g f : Nat) (w : World), g ≤ n → f + g ≤ 64 → MapIs Try.prog 164 ek164 evI w b cnt M →
    Calls Try.prog 127 #[.agg #[.int .i64 (f : Int), .int .i64 (g : Int)], .map (some b)] w fun e w' => e = .returned (.tuple #[.int .i64 (aboveF n M f g).1, .bool (aboveF n M f g).2]) ∧ Below w.heap.size w w' := by
  intro n
  induction n with
  | zero =>
    intro g f w hg hfg hM
    rw [aboveF]
    cases hm : M ⟨(f : Int), (g : Int)⟩ with
    | some d => exact above_hit b cnt M f g d w (by omega) (by omega) hM hm
    | none => exact above_low b cnt M f g w (by omega) (by omega) hM hm
  | succ n ih =>
    intro g f w hg hfg hM
    rw [aboveF]
    cases hm : M ⟨(f : Int), (g : Int)⟩ with
    | some d => exact above_hit b cnt M f g d w (by omega) (by omega) hM hm
    | none =>
      dsimp only
      by_cases hg2 : g < 2
      · rw [if_pos hg2]
        exact above_low b cnt M f g w (by omega) hg2 hM hm
      · rw [if_neg hg2]
        have hb := halfP_bounds (n := g) (by omega) (by omega)
        have hhv := halves_nat (f := f) (g := g) (by omega) (by omega)
        obtain ⟨h, hh⟩ : ∃ h, h = halfP g := ⟨_, rfl⟩
        rw [← hh] at hb hhv ⊢
        rw [show (g : Int) - (h : Int) = ((g - h : Nat) : Int) by omega] at hhv
        have i1 := fun w => ih h f w (by omega) (by omega)
        have i2 := fun w => ih (g - h) (f + h) w (by omega) (by omega)
        obtain ⟨L, hL⟩ : ∃ L, L = (aboveF n M f h).1 := ⟨_, rfl⟩
        obtain ⟨l, hl⟩ : ∃ l, l = (aboveF n M f h).2 := ⟨_, rfl⟩
        obtain ⟨R, hR⟩ : ∃ R, R = (aboveF n M (f + h) (g - h)).1 := ⟨_, rfl⟩
        obtain ⟨r, hr⟩ : ∃ r, r = (aboveF n M (f + h) (g - h)).2 := ⟨_, rfl⟩
        rw [← hL, ← hl, ← hR, ← hr]
        simp only [← hL, ← hl] at i1
        simp only [← hR, ← hr] at i2
        obtain ⟨c, hc⟩ : ∃ c, c = g - h := ⟨_, rfl⟩
        obtain ⟨m, hm2⟩ : ∃ m, m = f + h := ⟨_, rfl⟩
        rw [← hc, ← hm2] at hhv
        rw [← hc, ← hm2] at i2
        have HM := Aside0.mk hM
        have HKEY := Aside0.mk (above_known f g (by omega) (by omega))
        have hu164 := Try.underlying164
        have HM0 := Aside0.mk hm
        have HHV := Aside0.mk hhv
        have I1 := Aside0.mk i1
        have I2 := Aside0.mk i2
        have HN := Aside0.mk (show book_node.f (g : Int) L R = some (dig [1, (g : Int), L, R]) from rfl)
        obtain ⟨dg, hdg⟩ : ∃ dg, dg = dig [1, (g : Int), L, R] := ⟨_, rfl⟩
        rw [← hdg] at HN ⊢
        have g2 : ¬ ((g : Int) < 2) := by omega
        clear hM hm hb hhv hh hL hl hR hr i1 i2 hc hm2 hdg hg2 ih
        go_enter Try.func127, Try.ntmps127
        go_wp2_with (first
          | (at_lookup; refine wpList_lookup_map _ rfl _ _ 166 true rfl 164 3 K164 Try.underlying166 _ (zero3_ _) ek164 evI b cnt M rfl (HM.out.alloc _) (⟨(f : Int), (g : Int)⟩ : S164) _ rfl HKEY.out (.tuple #[.int .i64 0, .bool false]) (by rw [HM0.out]; rfl) ?_)
          | fail)
        refine (book_tree_halves.calls 10 _ _ _ _ _ _ _ HHV.out).mono ?_
        rintro e w2 ⟨rfl, hd⟩
        obtain ⟨xb, hxb⟩ : ∃ xb, xb = w.heap.size := ⟨_, rfl⟩
        have HB2 := Aside0.mk (below_then (below_alloc (Below.refl w.heap.size w) _) (below_size (below_alloc (Below.refl w.heap.size w) _)) hd)
        have HX2 := Aside0.mk (blk_below (blk_new' w (.cells #[.int .i64 (f : Int), .int .i64 (g : Int)] 164) xb hxb) hd)
        have HM2 := Aside0.mk (MapIs.below (HM.out.alloc (.cells #[.int .i64 (f : Int), .int .i64 (g : Int)] 164)) hd (HM.out.alloc (.cells #[.int .i64 (f : Int), .int .i64 (g : Int)] 164)).lt)
        rw [← hxb]
        have HXS := Aside0.mk hxb
        clear hd hxb
        go_wp2_with fail
        refine (I1.out _ ((HM2.out.alloc _).alloc _)).mono ?_
        rintro e w3 ⟨rfl, hd⟩
        obtain ⟨nb, hnb⟩ : ∃ nb, nb = w2.heap.size + 1 := ⟨_, rfl⟩
        have HB2' := Aside0.mk (below_alloc (below_alloc HB2.out (.cells #[.int .i64 (f : Int), .int .i64 (h : Int)] 164)) (.cells #[.int .i64 (m : Int), .int .i64 (c : Int)] 164))
        have HB3 := Aside0.mk (below_then HB2'.out (below_size HB2'.out) hd)
        have HX3 := Aside0.mk (blk_below (blk_alloc (blk_alloc HX2.out _) _) hd)
        have HN3 := Aside0.mk (blk_below (blk_new' _ (.cells #[.int .i64 (m : Int), .int .i64 (c : Int)] 164) nb (by simp; exact hnb)) hd)
        have HM3 := Aside0.mk (MapIs.below ((HM2.out.alloc (.cells #[.int .i64 (f : Int), .int .i64 (h : Int)] 164)).alloc (.cells #[.int .i64 (m : Int), .int .i64 (c : Int)] 164)) hd ((HM2.out.alloc (.cells #[.int .i64 (f : Int), .int .i64 (h : Int)] 164)).alloc (.cells #[.int .i64 (m : Int), .int .i64 (c : Int)] 164)).lt)
        rw [← hnb]
        clear hd hnb
        have n0 : w3.cell? ⟨nb, 0, none⟩ = some (.int .i64 (m : Int)) := (blk_cell HN3.out 0).trans rfl
        have n1 : w3.cell? ⟨nb, 1, none⟩ = some (.int .i64 (c : Int)) := (blk_cell HN3.out 1).trans rfl
        go_wp2_with fail
        refine (I2.out _ HM3.out).mono ?_
        rintro e w4 ⟨rfl, hd⟩
        have HB4 := Aside0.mk (below_then HB3.out (below_size HB3.out) hd)
        have HX4 := Aside0.mk (blk_below HX3.out hd)
        clear hd n0 n1
        have n0 : w4.cell? ⟨xb, 0, none⟩ = some (.int .i64 (f : Int)) := (blk_cell HX4.out 0).trans rfl
        have n1 : w4.cell? ⟨xb, 1, none⟩ = some (.int .i64 (g : Int)) := (blk_cell HX4.out 1).trans rfl
        go_wp2_with fail
        refine (book_node.calls _ _ _ _ _ HN.out).mono ?_
        rintro e w5 ⟨rfl, hd⟩
        have HB5 := Aside0.mk (below_then HB4.out (below_size HB4.out) hd)
        clear hd n0 n1
        cases l with
        | true =>
          go_wp2
          go_ret2
          exact ⟨by rw [Bool.true_and]; rfl, HB5.out⟩
        | false =>
          go_wp2
          go_ret2
          exact ⟨by rw [Bool.false_and]; rfl, HB5.out⟩
end Go.Proofs.Ytmfphlfakmnbmaa.B
end

section
namespace Go.Proofs.Ytmfphlfakmnbmaa.B
open Go.RowKit Go.Proofs.YtmfphlfakmnbmaaW.PrintWords Go.Proofs.YtmfphlfakmnbmaaW.PrintLast Go.Proofs.YtmfphlfakmnbmaaW.PrintMore
attribute [local go_sem] max2_int min2_int max_two min_two max_three min_three max_four min_four
def knownOf : List S129 → Known → Known
  | [], M => M
  | y :: r, M => knownOf r (fun c' => if c' = ⟨y.f0, y.f1⟩ then some y.f2 else M c')
def grownOk (before : Int) (first : Nat) (r : Int) (many : Nat) (p : List S129) : Bool :=
  ((aboveF many (knownOf p (fun _ => none)) 0 many).2 && (if 0 < first then (aboveF first (knownOf p (fun _ => none)) 0 first).2 else true)) &&
    ((aboveF many (knownOf p (fun _ => none)) 0 many).1 == r && (if 0 < first then (aboveF first (knownOf p (fun _ => none)) 0 first).1 else dig [2]) == before)
def cgP (before first r many : Int) (p : List S129) : Int :=
  if ¬ (0 ≤ many ∧ many ≤ 64) then 1 else if ¬ (0 ≤ first ∧ first ≤ many) then 1 else if isDigP before = false then 1 else if isDigP r = false then 1 else if digestsP p = false then 1
  else if placedP p (partedF many.toNat 0 many.toNat first.toNat) = false then 8 else if grownOk before first.toNat r many.toNat p = true then 0 else 8
def book_CheckGrown.f (a0 a1 a2 a3 : Int) (l4 : List S129) : Option Int := some (cgP a0 a1 a2 a3 l4)
theorem placed_wf {p : List S129} {ts : List S164} (h : placedP p ts = true) (hts : ∀ t ∈ ts, Wf164 t) {i : Nat} (hi : i < p.length) : Wf164 ⟨(p.getD i z129).f0, (p.getD i z129).f1⟩ := by
  obtain ⟨h1, h2⟩ := placed_at h hi
  have hl := placed_len h
  rw [h1, h2]
  refine hts _ ?_
  rw [List.getD_eq_getElem?_getD, List.getElem?_eq_getElem (by omega)]
  exact List.getElem_mem _
theorem parted_wf (x : Nat) : ∀ (n g f : Nat), f + g ≤ 64 → g ≤ n → ∀ t ∈ partedF n f g x, Wf164 t := by
  intro n
  induction n with
  | zero =>
    intro g f h hg t ht
    rw [partedF] at ht
    rw [List.mem_singleton.1 ht]
    exact ⟨wf_nat (by omega), wf_nat (by omega)⟩
  | succ n ih =>
    intro g f h hg t ht
    rw [partedF] at ht
    split at ht
    · rw [List.mem_singleton.1 ht]
      exact ⟨wf_nat (by omega), wf_nat (by omega)⟩
    · rename_i hx
      have hb := halfP_bounds (n := g) (by omega) (by omega)
      rcases List.mem_append.1 ht with ht | ht
      · exact ih (halfP g) f (by omega) (by omega) t ht
      · exact ih (g - halfP g) (f + halfP g) (by omega) (by omega) t ht
theorem known_step {p : List S129} {i : Nat} (h : i < p.length) (M : Known) : knownOf (p.drop i) M = knownOf (p.drop (i + 1)) (fun c' => if c' = ⟨(p.getD i z129).f0, (p.getD i z129).f1⟩ then some (p.getD i z129).f2 else M c') := by
  rw [List.drop_eq_getElem_cons h, knownOf]
  simp [List.getD_eq_getElem?_getD, List.getElem?_eq_getElem h]
set_option maxRecDepth 100000 in
set_option maxHeartbeats 2000000 in
theorem book_CheckGrown.calls (a0 a1 a2 a3 : Int) (A4 : Option Addr) (c4 : Nat) (l4 : List S129) (r : Int) (w : World) (hr4 : Kd.C k129 w A4 l4.length l4) (hc4 : l4.length ≤ c4) (h : book_CheckGrown.f a0 a1 a2 a3 l4 = some r) :
    Calls Try.prog 56 #[.int .i64 a0, .int .i64 a1, .int .i64 a2, .int .i64 a3, .slice A4 l4.length c4] w fun e w' => e = .returned (.int .i64 r) ∧ Below w.heap.size w w' := by
  have H := Option.some.inj h
  clear h
  have HR4 := Aside0.mk hr4
  have HC4 := Aside0.mk hc4
  clear hr4 hc4
  have hn := run_not'
  have hmm := @run_makeMap Try.prog
  have hu129 := Try.underlying129
  have hu164 := Try.underlying164
  unfold cgP at H
  by_cases h1 : 0 ≤ a3 ∧ a3 ≤ 64
  · rw [if_neg (fun h => h h1)] at H
    have HW1 := Aside0.mk (show book_within.f a3 0 64 = some true by rw [within_some, decide_eq_true h1])
    by_cases h2 : 0 ≤ a1 ∧ a1 ≤ a3
    · rw [if_neg (fun h => h h2)] at H
      have HW2 := Aside0.mk (show book_within.f a1 0 a3 = some true by rw [within_some, decide_eq_true h2])
      cases h3 : isDigP a0 with
      | false =>
        rw [if_pos h3] at H
        obtain rfl := H
        have HD1 := Aside0.mk (show book_isDigest.f a0 = some false by rw [isDigest_some, h3])
        clear h1 h2 h3
        go_enter Try.func56, Try.ntmps56
        go_wp2_with fail
        refine (book_within.calls _ _ _ true _ HW1.out).mono ?_
        rintro e w1 ⟨rfl, n1, rfl⟩
        go_wp2_with fail
        refine (book_within.calls _ _ _ true _ HW2.out).mono ?_
        rintro e w2 ⟨rfl, n2, rfl⟩
        go_wp2_with fail
        refine (book_isDigest.calls _ false _ HD1.out).mono ?_
        rintro e w3 ⟨rfl, n3, rfl⟩
        go_wp2
        go_ret
        exact ⟨rfl, pw_below_drewN (Below.refl w.heap.size w) _⟩
      | true =>
        rw [if_neg (by rw [h3]; decide)] at H
        have HD1 := Aside0.mk (show book_isDigest.f a0 = some true by rw [isDigest_some, h3])
        cases h4 : isDigP a2 with
        | false =>
          rw [if_pos h4] at H
          obtain rfl := H
          have HD2 := Aside0.mk (show book_isDigest.f a2 = some false by rw [isDigest_some, h4])
          clear h1 h2 h3 h4
          go_enter Try.func56, Try.ntmps56
          go_wp2_with fail
          refine (book_within.calls _ _ _ true _ HW1.out).mono ?_
          rintro e w1 ⟨rfl, n1, rfl⟩
          go_wp2_with fail
          refine (book_within.calls _ _ _ true _ HW2.out).mono ?_
          rintro e w2 ⟨rfl, n2, rfl⟩
          go_wp2_with fail
          refine (book_isDigest.calls _ true _ HD1.out).mono ?_
          rintro e w3 ⟨rfl, n3, rfl⟩
          go_wp2_with fail
          refine (book_isDigest.calls _ false _ HD2.out).mono ?_
          rintro e w4 ⟨rfl, n4, rfl⟩
          go_wp2
          go_ret
          exact ⟨rfl, pw_below_drewN (Below.refl w.heap.size w) _⟩
        | true =>
          rw [if_neg (by rw [h4]; decide)] at H
          have HD2 := Aside0.mk (show book_isDigest.f a2 = some true by rw [isDigest_some, h4])
          cases h5 : digestsP l4 with
          | false =>
            rw [if_pos h5] at H
            obtain rfl := H
            have HDG := Aside0.mk (show book_digests.f l4 = some false by unfold book_digests.f; rw [h5])
            clear h1 h2 h3 h4 h5
            go_enter Try.func56, Try.ntmps56
            go_wp2_with fail
            refine (book_within.calls _ _ _ true _ HW1.out).mono ?_
            rintro e w1 ⟨rfl, n1, rfl⟩
            go_wp2_with fail
            refine (book_within.calls _ _ _ true _ HW2.out).mono ?_
            rintro e w2 ⟨rfl, n2, rfl⟩
            go_wp2_with fail
            refine (book_isDigest.calls _ true _ HD1.out).mono ?_
            rintro e w3 ⟨rfl, n3, rfl⟩
            go_wp2_with fail
            refine (book_isDigest.calls _ true _ HD2.out).mono ?_
            rintro e w4 ⟨rfl, n4, rfl⟩
            go_wp2_with fail
            refine (book_digests.calls _ _ l4 false _ (Kd.C_drewN HR4.out _) HC4.out HDG.out).mono ?_
            rintro e w5 ⟨rfl, hd⟩
            have HB5 := Aside0.mk (below_then (pw_below_drewN (Below.refl w.heap.size w) _) (below_size (pw_below_drewN (Below.refl w.heap.size w) _)) hd)
            clear hd
            go_wp2
            go_ret
            exact ⟨rfl, HB5.out⟩
          | true =>
            rw [if_neg (by rw [h5]; decide)] at H
            have HDG := Aside0.mk (show book_digests.f l4 = some true by unfold book_digests.f; rw [h5])
            clear h3 h4 h5
            obtain ⟨m, rfl⟩ := Int.eq_ofNat_of_zero_le h1.1
            obtain ⟨x, rfl⟩ := Int.eq_ofNat_of_zero_le h2.1
            rw [Int.toNat_natCast, Int.toNat_natCast] at H
            have hm64 : m ≤ 64 := by omega
            have hxm : x ≤ m := by omega
            obtain ⟨T, hT⟩ : ∃ T, T = partedF m 0 m x := ⟨_, rfl⟩
            have hPF := parted_some x m m 0 (2 * m + 13) (Nat.le_refl _) (by omega) (Nat.le_refl _)
            have hTW := parted_wf x m m 0 (by omega) (Nat.le_refl _)
            have hTL := (partedF_length m m 0 x (Nat.le_refl _) hm64).1
            rw [← hT] at H hPF hTW hTL
            have HPF := Aside0.mk hPF
            have HTW := Aside0.mk hTW
            have HTL := Aside0.mk (show T.length ≤ 65 by omega)
            have HPL := Aside0.mk (show book_placed.f l4 T = some (placedP l4 T) from rfl)
            have HXM := Aside0.mk (show x ≤ m ∧ m ≤ 64 from ⟨hxm, hm64⟩)
            clear h1 h2 hT hPF hTW hTL
            cases h6 : placedP l4 T with
            | false =>
              rw [if_pos h6] at H
              obtain rfl := H
              rw [h6] at HPL
              clear h6
              go_enter Try.func56, Try.ntmps56
              go_wp2_with fail
              refine (book_within.calls _ _ _ true _ HW1.out).mono ?_
              rintro e w1 ⟨rfl, n1, rfl⟩
              go_wp2_with fail
              refine (book_within.calls _ _ _ true _ HW2.out).mono ?_
              rintro e w2 ⟨rfl, n2, rfl⟩
              go_wp2_with fail
              refine (book_isDigest.calls _ true _ HD1.out).mono ?_
              rintro e w3 ⟨rfl, n3, rfl⟩
              go_wp2_with fail
              refine (book_isDigest.calls _ true _ HD2.out).mono ?_
              rintro e w4 ⟨rfl, n4, rfl⟩
              go_wp2_with fail
              refine (book_digests.calls _ _ l4 true _ (Kd.C_drewN HR4.out _) HC4.out HDG.out).mono ?_
              rintro e w5 ⟨rfl, hd⟩
              have HB5 := Aside0.mk (below_then (pw_below_drewN (Below.refl w.heap.size w) _) (below_size (pw_below_drewN (Below.refl w.heap.size w) _)) hd)
              clear hd
              go_wp2_with fail
              refine (book_parted.calls (2 * m + 13) 0 _ _ _ _ HPF.out).mono ?_
              rintro e w6 ⟨v6, rfl, hs6, hd⟩
              obtain ⟨A6, c6, rfl, hl6, hC6⟩ := Kd.R_reads hs6
              have HB6 := Aside0.mk (below_then HB5.out (below_size HB5.out) hd)
              have HC6 := Aside0.mk hC6
              have HL6 := Aside0.mk hl6
              clear hs6 hd hl6 hC6
              go_wp2_with fail
              refine (book_placed.calls _ _ l4 _ _ T false _ (Kd.C_below HR4.out HB6.out) HC4.out HC6.out HL6.out HPL.out).mono ?_
              rintro e w7 ⟨rfl, hd⟩
              have HB7 := Aside0.mk (below_then HB6.out (below_size HB6.out) hd)
              clear hd
              go_wp2
              go_ret
              exact ⟨rfl, HB7.out⟩
            | true =>
              rw [if_neg (by rw [h6]; decide)] at H
              rw [h6] at HPL
              have hlen := placed_len h6
              have HKW : Aside0 (∀ i, i < l4.length → Wf164 ⟨(l4.getD i z129).f0, (l4.getD i z129).f1⟩) := ⟨fun i hi => placed_wf h6 HTW.out hi⟩
              have HLN := Aside0.mk (show l4.length ≤ 65 by have := HTL.out; omega)
              obtain ⟨K, hK⟩ : ∃ K, K = knownOf l4 (fun _ => none) := ⟨_, rfl⟩
              unfold grownOk at H
              rw [← hK] at H
              have HKK := Aside0.mk hK
              have HH := Aside0.mk H
              clear h6 hlen hK H
              go_enter Try.func56, Try.ntmps56
              go_wp2_with fail
              refine (book_within.calls _ _ _ true _ HW1.out).mono ?_
              rintro e w1 ⟨rfl, n1, rfl⟩
              go_wp2_with fail
              refine (book_within.calls _ _ _ true _ HW2.out).mono ?_
              rintro e w2 ⟨rfl, n2, rfl⟩
              go_wp2_with fail
              refine (book_isDigest.calls _ true _ HD1.out).mono ?_
              rintro e w3 ⟨rfl, n3, rfl⟩
              go_wp2_with fail
              refine (book_isDigest.calls _ true _ HD2.out).mono ?_
              rintro e w4 ⟨rfl, n4, rfl⟩
              go_wp2_with fail
              refine (book_digests.calls _ _ l4 true _ (Kd.C_drewN HR4.out _) HC4.out HDG.out).mono ?_
              rintro e w5 ⟨rfl, hd⟩
              have HB5 := Aside0.mk (below_then (pw_below_drewN (Below.refl w.heap.size w) _) (below_size (pw_below_drewN (Below.refl w.heap.size w) _)) hd)
              clear hd
              go_wp2_with fail
              refine (book_parted.calls (2 * m + 13) 0 _ _ _ _ HPF.out).mono ?_
              rintro e w6 ⟨v6, rfl, hs6, hd⟩
              obtain ⟨A6, c6, rfl, hl6, hC6⟩ := Kd.R_reads hs6
              have HB6 := Aside0.mk (below_then HB5.out (below_size HB5.out) hd)
              have HC6 := Aside0.mk hC6
              have HL6 := Aside0.mk hl6
              clear hs6 hd hl6 hC6
              go_wp2_with fail
              refine (book_placed.calls _ _ l4 _ _ T true _ (Kd.C_below HR4.out HB6.out) HC4.out HC6.out HL6.out HPL.out).mono ?_
              rintro e w7 ⟨rfl, hd⟩
              have HB7 := Aside0.mk (below_then HB6.out (below_size HB6.out) hd)
              clear hd
              go_wp2
              go_loopw [52] (fun v52 wr => ∃ i : Nat, i ≤ l4.length ∧ v52 = .int .i64 (i : Int) ∧ Aside0 (Below w.heap.size w wr) ∧ Aside0 (∃ M, MapIs Try.prog 164 ek164 evI wr w7.heap.size i M ∧ knownOf (l4.drop i) M = K)) (fun v52 _ => l4.length - (intOf v52).toNat)
              case atStart => exact ⟨0, Nat.zero_le _, rfl, ⟨below_alloc HB7.out _⟩, ⟨⟨_, MapIs.made _ _ _ _ _, HKK.out.symm⟩⟩⟩
              case round =>
                obtain ⟨i, hi, rfl, HBr, HMr⟩ := hrel
                by_cases hlt : i < l4.length
                · obtain ⟨M, hM, hMK⟩ := HMr.out
                  obtain ⟨ad, e, hx0, hx1, hx2⟩ := at_T129 (Kd.C_below HR4.out HBr.out) (i : Int) (by omega) (by omega)
                  cases e
                  rw [Int.toNat_natCast] at hx0 hx1 hx2
                  obtain ⟨y, hy⟩ : ∃ y, y = rd_T129 l4 (i : Int) := ⟨_, rfl⟩
                  rw [← hy] at hx0 hx1 hx2
                  have hy2 : y = l4.getD i z129 := hy
                  rw [known_step hlt M, ← hy2] at hMK
                  have HMK := Aside0.mk hMK
                  have HM := Aside0.mk hM
                  have HKEY := Aside0.mk (kl164_eq (by rw [hy2]; exact HKW.out i hlt : Wf164 ⟨y.f0, y.f1⟩))
                  have HNM := Aside0.mk (show i < maxLen by have := HLN.out; simp only [maxLen]; omega)
                  have z0 : (i : Int) < (l4.length : Int) := by omega
                  have hl65 : l4.length ≤ 65 := HLN.out
                  clear hM hMK hy hy2
                  go_wp2_with (first
                    | (at_mapUpdate; refine wpList_update_map _ rfl _ _ _ 166 rfl 164 3 K164 Try.underlying166 ek164 evI w7.heap.size i M rfl (HM.out.alloc _) HNM.out (⟨y.f0, y.f1⟩ : S164) y.f2 _ rfl rfl HKEY.out (fun _ => ek164_inj) ?_; intro w8 hm8 hg8)
                    | fail)
                  have HB8 := Aside0.mk (pw_below_grown (below_alloc HBr.out _) (some w7.heap.size) (below_size (below_alloc HBr.out _)) hg8 (fun k hk => by injection hk with hk; rw [← hk]; exact below_size HB7.out))
                  have HM8 := Aside0.mk hm8
                  clear hm8 hg8
                  go_roundw
                  case rel => exact ⟨i + 1, by omega, by push_cast; rfl, HB8, ⟨⟨_, HM8.out, HMK.out⟩⟩⟩
                  case measure => simp [intOf]; omega
                · obtain rfl : i = l4.length := by omega
                  obtain ⟨M, hM, hMK⟩ := HMr.out
                  rw [List.drop_length, knownOf] at hMK
                  rw [hMK] at hM
                  have HM := Aside0.mk hM
                  clear hM hMK
                  have A1 := fun w hM => above_calls w7.heap.size l4.length K m m 0 w (Nat.le_refl _) (by have := HXM.out; omega) hM
                  have A2 := fun w hM => above_calls w7.heap.size l4.length K x x 0 w (Nat.le_refl _) (by have := HXM.out; omega) hM
                  simp only [Int.natCast_zero] at A1 A2
                  have hh := HH.out
                  obtain ⟨L, hL⟩ : ∃ L, L = (aboveF m K 0 m).1 := ⟨_, rfl⟩
                  obtain ⟨o, ho⟩ : ∃ o, o = (aboveF m K 0 m).2 := ⟨_, rfl⟩
                  obtain ⟨R, hR⟩ : ∃ R, R = (aboveF x K 0 x).1 := ⟨_, rfl⟩
                  obtain ⟨q, hq⟩ : ∃ q, q = (aboveF x K 0 x).2 := ⟨_, rfl⟩
                  obtain ⟨d2, hd2⟩ : ∃ d2, d2 = dig [2] := ⟨_, rfl⟩
                  have HNN := Aside0.mk (show book_none.f = some d2 by rw [hd2]; rfl)
                  simp only [← hL, ← ho] at A1
                  simp only [← hR, ← hq] at A2
                  rw [← hL, ← ho, ← hR, ← hq, ← hd2] at hh
                  have I1 := Aside0.mk A1
                  have I2 := Aside0.mk A2
                  have HM' := Aside0.mk HM.out
                  clear A1 A2 hL ho hR hq hd2 HH HM HKK
                  by_cases hx : 0 < x
                  · rw [if_pos hx, if_pos hx] at hh
                    have z1 : (0 : Int) < (x : Int) := by omega
                    cases o with
                    | false =>
                      replace hh : (8 : Int) = r := hh
                      obtain rfl := hh
                      clear hx
                      go_wp2_with fail
                      refine (I1.out _ HM'.out).mono ?_
                      rintro e w9 ⟨rfl, hd⟩
                      have HB9 := Aside0.mk (below_then HBr.out (below_size HBr.out) hd)
                      have HM9 := Aside0.mk (MapIs.below HM'.out hd HM'.out.lt)
                      clear hd
                      go_wp2_with fail
                      refine (book_none.calls _ _ HNN.out).mono ?_
                      rintro e w10 ⟨rfl, hd⟩
                      have HB10 := Aside0.mk (below_then HB9.out (below_size HB9.out) hd)
                      have HM10 := Aside0.mk (MapIs.below HM9.out hd HM9.out.lt)
                      clear hd
                      go_wp2_with fail
                      refine (I2.out _ HM10.out).mono ?_
                      rintro e w11 ⟨rfl, hd⟩
                      have HB11 := Aside0.mk (below_then HB10.out (below_size HB10.out) hd)
                      clear hd
                      go_wp2
                      go_ret
                      exact ⟨rfl, HB11.out⟩
                    | true =>
                      cases q with
                      | false =>
                        replace hh : (8 : Int) = r := hh
                        obtain rfl := hh
                        clear hx
                        go_wp2_with fail
                        refine (I1.out _ HM'.out).mono ?_
                        rintro e w9 ⟨rfl, hd⟩
                        have HB9 := Aside0.mk (below_then HBr.out (below_size HBr.out) hd)
                        have HM9 := Aside0.mk (MapIs.below HM'.out hd HM'.out.lt)
                        clear hd
                        go_wp2_with fail
                        refine (book_none.calls _ _ HNN.out).mono ?_
                        rintro e w10 ⟨rfl, hd⟩
                        have HB10 := Aside0.mk (below_then HB9.out (below_size HB9.out) hd)
                        have HM10 := Aside0.mk (MapIs.below HM9.out hd HM9.out.lt)
                        clear hd
                        go_wp2_with fail
                        refine (I2.out _ HM10.out).mono ?_
                        rintro e w11 ⟨rfl, hd⟩
                        have HB11 := Aside0.mk (below_then HB10.out (below_size HB10.out) hd)
                        clear hd
                        go_wp2
                        go_ret
                        exact ⟨rfl, HB11.out⟩
                      | true =>
                        by_cases e1 : L = a2
                        · have k1 : (L == a2) = true := beq_iff_eq.2 e1
                          have k2 : (L != a2) = false := by simp [e1]
                          rw [k1] at hh
                          by_cases e2 : R = a0
                          · have k3 : (R == a0) = true := beq_iff_eq.2 e2
                            have k4 : (R != a0) = false := by simp [e2]
                            rw [k3] at hh
                            clear e1 e2
                            replace hh : (0 : Int) = r := hh
                            obtain rfl := hh
                            clear hx
                            go_wp2_with fail
                            refine (I1.out _ HM'.out).mono ?_
                            rintro e w9 ⟨rfl, hd⟩
                            have HB9 := Aside0.mk (below_then HBr.out (below_size HBr.out) hd)
                            have HM9 := Aside0.mk (MapIs.below HM'.out hd HM'.out.lt)
                            clear hd
                            go_wp2_with fail
                            refine (book_none.calls _ _ HNN.out).mono ?_
                            rintro e w10 ⟨rfl, hd⟩
                            have HB10 := Aside0.mk (below_then HB9.out (below_size HB9.out) hd)
                            have HM10 := Aside0.mk (MapIs.below HM9.out hd HM9.out.lt)
                            clear hd
                            go_wp2_with fail
                            refine (I2.out _ HM10.out).mono ?_
                            rintro e w11 ⟨rfl, hd⟩
                            have HB11 := Aside0.mk (below_then HB10.out (below_size HB10.out) hd)
                            clear hd
                            go_wp2
                            go_ret
                            exact ⟨rfl, HB11.out⟩
                          · have k3 : (R == a0) = false := beq_eq_false_iff_ne.2 e2
                            have k4 : (R != a0) = true := by simpa using e2
                            rw [k3] at hh
                            clear e1 e2
                            replace hh : (8 : Int) = r := hh
                            obtain rfl := hh
                            clear hx
                            go_wp2_with fail
                            refine (I1.out _ HM'.out).mono ?_
                            rintro e w9 ⟨rfl, hd⟩
                            have HB9 := Aside0.mk (below_then HBr.out (below_size HBr.out) hd)
                            have HM9 := Aside0.mk (MapIs.below HM'.out hd HM'.out.lt)
                            clear hd
                            go_wp2_with fail
                            refine (book_none.calls _ _ HNN.out).mono ?_
                            rintro e w10 ⟨rfl, hd⟩
                            have HB10 := Aside0.mk (below_then HB9.out (below_size HB9.out) hd)
                            have HM10 := Aside0.mk (MapIs.below HM9.out hd HM9.out.lt)
                            clear hd
                            go_wp2_with fail
                            refine (I2.out _ HM10.out).mono ?_
                            rintro e w11 ⟨rfl, hd⟩
                            have HB11 := Aside0.mk (below_then HB10.out (below_size HB10.out) hd)
                            clear hd
                            go_wp2
                            go_ret
                            exact ⟨rfl, HB11.out⟩
                        · have k1 : (L == a2) = false := beq_eq_false_iff_ne.2 e1
                          have k2 : (L != a2) = true := by simpa using e1
                          rw [k1] at hh
                          clear e1
                          replace hh : (8 : Int) = r := hh
                          obtain rfl := hh
                          clear hx
                          go_wp2_with fail
                          refine (I1.out _ HM'.out).mono ?_
                          rintro e w9 ⟨rfl, hd⟩
                          have HB9 := Aside0.mk (below_then HBr.out (below_size HBr.out) hd)
                          have HM9 := Aside0.mk (MapIs.below HM'.out hd HM'.out.lt)
                          clear hd
                          go_wp2_with fail
                          refine (book_none.calls _ _ HNN.out).mono ?_
                          rintro e w10 ⟨rfl, hd⟩
                          have HB10 := Aside0.mk (below_then HB9.out (below_size HB9.out) hd)
                          have HM10 := Aside0.mk (MapIs.below HM9.out hd HM9.out.lt)
                          clear hd
                          go_wp2_with fail
                          refine (I2.out _ HM10.out).mono ?_
                          rintro e w11 ⟨rfl, hd⟩
                          have HB11 := Aside0.mk (below_then HB10.out (below_size HB10.out) hd)
                          clear hd
                          go_wp2
                          go_ret
                          exact ⟨rfl, HB11.out⟩
                  · rw [if_neg hx, if_neg hx] at hh
                    obtain rfl : x = 0 := by omega
                    have z1 : ¬ ((0 : Int) < ((0 : Nat) : Int)) := by decide
                    clear hx
                    cases o with
                    | false =>
                      replace hh : (8 : Int) = r := hh
                      obtain rfl := hh
                      go_wp2_with fail
                      refine (I1.out _ HM'.out).mono ?_
                      rintro e w9 ⟨rfl, hd⟩
                      have HB9 := Aside0.mk (below_then HBr.out (below_size HBr.out) hd)
                      have HM9 := Aside0.mk (MapIs.below HM'.out hd HM'.out.lt)
                      clear hd
                      go_wp2_with fail
                      refine (book_none.calls _ _ HNN.out).mono ?_
                      rintro e w10 ⟨rfl, hd⟩
                      have HB10 := Aside0.mk (below_then HB9.out (below_size HB9.out) hd)
                      have HM10 := Aside0.mk (MapIs.below HM9.out hd HM9.out.lt)
                      clear hd
                      go_wp2
                      go_ret
                      exact ⟨rfl, HB10.out⟩
                    | true =>
                      by_cases e1 : L = a2
                      · have k1 : (L == a2) = true := beq_iff_eq.2 e1
                        have k2 : (L != a2) = false := by simp [e1]
                        rw [k1] at hh
                        by_cases e2 : d2 = a0
                        · have k3 : (d2 == a0) = true := beq_iff_eq.2 e2
                          have k4 : (d2 != a0) = false := by simp [e2]
                          rw [k3] at hh
                          clear e1 e2
                          replace hh : (0 : Int) = r := hh
                          obtain rfl := hh
                          go_wp2_with fail
                          refine (I1.out _ HM'.out).mono ?_
                          rintro e w9 ⟨rfl, hd⟩
                          have HB9 := Aside0.mk (below_then HBr.out (below_size HBr.out) hd)
                          have HM9 := Aside0.mk (MapIs.below HM'.out hd HM'.out.lt)
                          clear hd
                          go_wp2_with fail
                          refine (book_none.calls _ _ HNN.out).mono ?_
                          rintro e w10 ⟨rfl, hd⟩
                          have HB10 := Aside0.mk (below_then HB9.out (below_size HB9.out) hd)
                          have HM10 := Aside0.mk (MapIs.below HM9.out hd HM9.out.lt)
                          clear hd
                          go_wp2
                          go_ret
                          exact ⟨rfl, HB10.out⟩
                        · have k3 : (d2 == a0) = false := beq_eq_false_iff_ne.2 e2
                          have k4 : (d2 != a0) = true := by simpa using e2
                          rw [k3] at hh
                          clear e1 e2
                          replace hh : (8 : Int) = r := hh
                          obtain rfl := hh
                          go_wp2_with fail
                          refine (I1.out _ HM'.out).mono ?_
                          rintro e w9 ⟨rfl, hd⟩
                          have HB9 := Aside0.mk (below_then HBr.out (below_size HBr.out) hd)
                          have HM9 := Aside0.mk (MapIs.below HM'.out hd HM'.out.lt)
                          clear hd
                          go_wp2_with fail
                          refine (book_none.calls _ _ HNN.out).mono ?_
                          rintro e w10 ⟨rfl, hd⟩
                          have HB10 := Aside0.mk (below_then HB9.out (below_size HB9.out) hd)
                          have HM10 := Aside0.mk (MapIs.below HM9.out hd HM9.out.lt)
                          clear hd
                          go_wp2
                          go_ret
                          exact ⟨rfl, HB10.out⟩
                      · have k1 : (L == a2) = false := beq_eq_false_iff_ne.2 e1
                        have k2 : (L != a2) = true := by simpa using e1
                        rw [k1] at hh
                        clear e1
                        replace hh : (8 : Int) = r := hh
                        obtain rfl := hh
                        go_wp2_with fail
                        refine (I1.out _ HM'.out).mono ?_
                        rintro e w9 ⟨rfl, hd⟩
                        have HB9 := Aside0.mk (below_then HBr.out (below_size HBr.out) hd)
                        have HM9 := Aside0.mk (MapIs.below HM'.out hd HM'.out.lt)
                        clear hd
                        go_wp2_with fail
                        refine (book_none.calls _ _ HNN.out).mono ?_
                        rintro e w10 ⟨rfl, hd⟩
                        have HB10 := Aside0.mk (below_then HB9.out (below_size HB9.out) hd)
                        have HM10 := Aside0.mk (MapIs.below HM9.out hd HM9.out.lt)
                        clear hd
                        go_wp2
                        go_ret
                        exact ⟨rfl, HB10.out⟩
    · rw [if_pos h2] at H
      obtain rfl := H
      have HW2 := Aside0.mk (show book_within.f a1 0 a3 = some false by rw [within_some, decide_eq_false h2])
      clear h1 h2
      go_enter Try.func56, Try.ntmps56
      go_wp2_with fail
      refine (book_within.calls _ _ _ true _ HW1.out).mono ?_
      rintro e w1 ⟨rfl, n1, rfl⟩
      go_wp2_with fail
      refine (book_within.calls _ _ _ false _ HW2.out).mono ?_
      rintro e w2 ⟨rfl, n2, rfl⟩
      go_wp2
      go_ret
      exact ⟨rfl, pw_below_drewN (Below.refl w.heap.size w) _⟩
  · rw [if_pos h1] at H
    obtain rfl := H
    have HW1 := Aside0.mk (show book_within.f a3 0 64 = some false by rw [within_some, decide_eq_false h1])
    clear h1
    go_enter Try.func56, Try.ntmps56
    go_wp2_with fail
    refine (book_within.calls _ _ _ false _ HW1.out).mono ?_
    rintro e w1 ⟨rfl, n1, rfl⟩
    go_wp2
    go_ret
    exact ⟨rfl, pw_below_drewN (Below.refl w.heap.size w) _⟩
end Go.Proofs.Ytmfphlfakmnbmaa.B
end

section
namespace Go.Proofs.Ytmfphlfakmnbmaa.B
open Go.RowKit Go.Proofs.YtmfphlfakmnbmaaW.PrintWords Go.Proofs.YtmfphlfakmnbmaaW.PrintLast Go.Proofs.YtmfphlfakmnbmaaW.PrintMore
attribute [local go_sem] max2_int min2_int max_two min_two max_three min_three max_four min_four
mutual
def calxref08_cut.j0 : Nat → List (S29) → Int → Int → Int → Bool → Option ((List (S129)))
  | 0, _, _, _, _, _ => none
  | k + 1, x0, x1, x2, x3, x19 => if x19 = true then ((calxref08_twig.f x0 x1 x2).bind fun bt101 => (some (([(⟨bt101.1, bt101.2.1, bt101.2.2⟩ : S129)] : List (S129))))) else ((calxref08_half.f k x2).bind fun t107 => ((calxref08_cut.f k x0 x1 t107 x3).bind fun t108 => ((calxref08_cut.f k x0 (wrap64 (x1 + t107)) (wrap64 (x2 - t107)) x3).bind fun t111 => (if t108.length + t111.length < 5864062014805 then (some (t108 ++ t111)) else (none)))))
def calxref08_cut.f : Nat → List (S29) → Int → Int → Int → Option ((List (S129)))
  | 0, _, _, _, _ => none
  | k + 1, l0, a1, a2, a3 => if (wrap64 (a1 + a2)) ≤ a3 then (calxref08_cut.j0 k l0 a1 a2 a3 true) else (calxref08_cut.j0 k l0 a1 a2 a3 (decide (a1 ≥ a3)))
end
set_option maxHeartbeats 8000000 in
set_option maxRecDepth 100000 in
theorem calxref08_cut.calls (k : Nat) : ∀ (A0 : Option Addr) (c0 : Nat) (l0 : List (S29)) (a1 : Int) (a2 : Int) (a3 : Int) (r : List (S129)) (w : World) (hr0 : Kd.C k29 w A0 l0.length l0) (hc0 : l0.length ≤ c0) (h : calxref08_cut.f k l0 a1 a2 a3 = some r),
    Calls Try.prog 137 #[.slice A0 l0.length c0, .int .i64 a1, .int .i64 a2, .int .i64 a3] w fun e w' => ∃ v0_ : Value, e = .returned (v0_) ∧ Kd.R k129 129 w' w.heap.size (fun _ => True) v0_ r ∧ Below w.heap.size w w' := by
  induction k using Nat.strongRecOn with
  | _ k ih =>
  intro A0 c0 l0 a1 a2 a3 r w hr0 hc0 h
  cases k with
  | zero => exact absurd h (by simp [calxref08_cut.f])
  | succ k =>
  simp only [calxref08_cut.f] at h
  have HR0 := Aside0.mk hr0
  have HC0 := Aside0.mk hc0
  clear hr0 hc0
  have HB := Aside0.mk (Below.refl w.heap.size w)
  have H : (if (wrap64 (a1 + a2)) ≤ a3 then (calxref08_cut.j0 k l0 a1 a2 a3 true) else (calxref08_cut.j0 k l0 a1 a2 a3 (decide (a1 ≥ a3)))) = some r := h
  clear h
  have HC5 := Aside0.mk H
  clear H
  go_enter Try.func137, Try.ntmps137
  go_upto_region 1 with (fail)
  go_cut [19] (fun v19 wc => ∃ (kq : Nat) (x19_4 : Bool), v19 = .bool x19_4 ∧ Aside0 (calxref08_cut.j0 kq l0 a1 a2 a3 x19_4 = some r) ∧ Aside0 (kq ≤ k) ∧ Aside0 (Below w.heap.size w wc))
  case first =>
    have H := HC5.out
    clear HC5
    by_cases c6 : (wrap64 (a1 + a2)) ≤ a3
    · rw [if_pos c6] at H
      have c6b0 : decide ((wrap64 (a1 + a2)) ≤ a3) = true := decide_eq_true c6
      clear c6
      (first | rw [c6b0] | (simp only [i64_w, i32_w]; rw [c6b0]) | skip)
      have H' := Aside0.mk H
      clear H
      go_wp2
      go_meet
      case rel => exact ⟨_, (true), (by first | rfl | (simp; done) | (simp [*]; done)), H', ⟨by first | omega | exact Nat.le_refl _⟩, ⟨by repeat (first | (with_reducible first | exact HB.out | apply below_alloc | apply pw_below_drewN | apply below_drew1) | exact HB.out)⟩⟩
    · rw [if_neg c6] at H
      have c6b0 : decide ((wrap64 (a1 + a2)) ≤ a3) = false := decide_eq_false c6
      clear c6
      (first | rw [c6b0] | (simp only [i64_w, i32_w]; rw [c6b0]) | skip)
      have H' := Aside0.mk H
      clear H
      go_wp2
      go_meet
      case rel => exact ⟨_, (decide (a1 ≥ a3)), (by first | rfl | (simp; done) | (simp [*]; done)), H', ⟨by first | omega | exact Nat.le_refl _⟩, ⟨by repeat (first | (with_reducible first | exact HB.out | apply below_alloc | apply pw_below_drewN | apply below_drew1) | exact HB.out)⟩⟩
  case rest =>
    clear HC5
    try clear c1
    try clear p2
    try clear c6
    try clear c6b0
    try clear p6
    obtain ⟨kq, x19_4, rfl, HA, HJ4, HB⟩ := hcut
    cases kq with
    | zero => exact absurd HA.out (by simp [calxref08_cut.j0])
    | succ kj4 =>
      have H := HA.out
      clear HA
      simp only [calxref08_cut.j0] at H
      by_cases c7 : x19_4 = true
      · subst c7
        have H1 : ((calxref08_twig.f l0 a1 a2).bind fun bt101 => (some (([(⟨bt101.1, bt101.2.1, bt101.2.2⟩ : S129)] : List (S129))))) = some r := by rw [if_pos rfl] at H; exact H
        clear H
        have H := H1
        clear H1
        replace H := Option.bind_eq_some_iff.mp H
        obtain ⟨⟨t101, t102, t103⟩, A80, H⟩ := H
        replace H : (some (([(⟨t101, t102, t103⟩ : S129)] : List (S129)))) = some r := H
        have A8 := Aside0.mk A80
        clear A80
        obtain ⟨y104, hy104⟩ : ∃ y_ : List (S129), y_ = (([(⟨t101, t102, t103⟩ : S129)] : List (S129))) := ⟨_, rfl⟩
        replace H : (some y104) = some r := by first | (rw [hy104]; with_reducible exact H) | (have H2_ := (Option.bind_some _ _).symm.trans H; rw [hy104]; with_reducible exact H2_) | (have H2_ := (Option.bind_some _ _).symm.trans H; with_reducible exact H2_) | with_reducible exact H | (rw [hy104]; exact H) | exact H
        have Ny104 := Aside0.mk hy104
        clear hy104
        obtain rfl := Option.some.inj H
        go_wp2_with (first | ((with_reducible refine gate_callee (f := 169) rfl ?_); refine goesL_ (some 23) rfl rfl Try.func169 (by kernel_rfl) rfl #[.slice A0 l0.length c0, .int .i64 a1, .int .i64 a2] rfl (by (try simp only [List.map_toArray, List.map_cons, List.map_nil]); first | done | rfl | (simp only [List.length_drop, List.length_take]; rfl)) ?_; (with_reducible refine (calxref08_twig.calls _ _ l0 a1 a2 t101 t102 t103 _ ?side1 ?side2 A8.out).mono ?_); (case side1 => repeat (first | exact (Kd.C_below HR0.out HB.out) | (with_reducible refine Kd.C_alloc ?_ _) | (with_reducible refine Kd.C_drewN ?_ _) | (with_reducible refine Kd.C_drew ?_))); (case side2 => exact HC0.out); rintro e w9 ⟨rfl, hb⟩; refine ⟨_, rfl, ?_⟩; have n0_ := Aside0.mk (below_step (by repeat (first | (with_reducible first | exact HB.out | apply below_alloc | apply pw_below_drewN | apply below_drew1) | exact HB.out)) hb); clear HB; have HB := n0_; clear n0_; (try clear hb); (try clear hb2); (try clear hk); (try clear hi)) | ((with_reducible refine gate_dst (N := 24) rfl ?_); refine Kd.R_lit k129 _ 129 ?hg (N := 24) ?hd (xs := ([(⟨t101, t102, t103⟩ : S129)] : List (S129))) (inner := [.int .i64 t101, .int .i64 t102, .int .i64 t103]) (ok := fun _ => True) (okp := fun _ => True) ?hr ?hp (fun _ hk => hk) trivial (Below.refl _ _) (Nat.le_refl _) (by simp) ?_; (case hd => rfl); (case hg => rfl); (case hr => first | (go_simp; done) | (go_simp; rfl)); (case hp => exact (Reps.c3 (show Kd.M k129 _ _ _ (⟨t101, t102, t103⟩ : S129) [.int .i64 t101, .int .i64 t102, .int .i64 t103] from (k129_mkM _ _ _ (⟨t101, t102, t103⟩ : S129) )) (Reps.none _ _))); intro v105 w10 ho11 hb hg_ hnew_; clear hg_ hnew_; (first | rw [← Ny104.out] at ho11 | (simp only [Int.reduceToNat] at ho11; rw [← Ny104.out] at ho11)); have n0_ := Aside0.mk (Kd.R_lower ho11 (below_size (by repeat (first | (with_reducible first | exact HB.out | apply below_alloc | apply pw_below_drewN | apply below_drew1) | exact HB.out)))); have n1_ := Aside0.mk (below_step (by repeat (first | (with_reducible first | exact HB.out | apply below_alloc | apply pw_below_drewN | apply below_drew1) | exact HB.out)) hb); clear HB; have HO106 := n0_; have HB := n1_; clear n0_ n1_; clear hb ho11))
        go_ret
        exact ⟨_, by first | rfl | (simp [errW_none, errW_some] <;> rfl) | (simp [*, errW_none, errW_some] <;> rfl), by (with_reducible repeat (first | apply Kd.R_alloc | apply Kd.R_drewN | apply Kd.R_drew)); exact HO106.out, by repeat (first | (with_reducible first | exact HB.out | apply below_alloc | apply pw_below_drewN | apply below_drew1) | exact HB.out)⟩
      · replace c7 := Bool.eq_false_iff.mpr c7
        subst c7
        have H1 : ((calxref08_half.f kj4 a2).bind fun t107 => ((calxref08_cut.f kj4 l0 a1 t107 a3).bind fun t108 => ((calxref08_cut.f kj4 l0 (wrap64 (a1 + t107)) (wrap64 (a2 - t107)) a3).bind fun t111 => (if t108.length + t111.length < 5864062014805 then (some (t108 ++ t111)) else (none))))) = some r := by rw [if_neg (show ¬ (false = true) by decide)] at H; exact H
        clear H
        have H := H1
        clear H1
        replace H := Option.bind_eq_some_iff.mp H
        obtain ⟨t107, A120, H⟩ := H
        replace H : ((calxref08_cut.f kj4 l0 a1 t107 a3).bind fun t108 => ((calxref08_cut.f kj4 l0 (wrap64 (a1 + t107)) (wrap64 (a2 - t107)) a3).bind fun t111 => (if t108.length + t111.length < 5864062014805 then (some (t108 ++ t111)) else (none)))) = some r := H
        have A12 := Aside0.mk A120
        clear A120
        replace H := Option.bind_eq_some_iff.mp H
        obtain ⟨t108, A130, H⟩ := H
        replace H : ((calxref08_cut.f kj4 l0 (wrap64 (a1 + t107)) (wrap64 (a2 - t107)) a3).bind fun t111 => (if t108.length + t111.length < 5864062014805 then (some (t108 ++ t111)) else (none))) = some r := H
        have A13 := Aside0.mk A130
        clear A130
        replace H := Option.bind_eq_some_iff.mp H
        obtain ⟨t111, A140, H⟩ := H
        replace H : (if t108.length + t111.length < 5864062014805 then (some (t108 ++ t111)) else (none)) = some r := H
        have A14 := Aside0.mk A140
        clear A140
        by_cases c15 : t108.length + t111.length < 5864062014805
        · rw [if_pos c15] at H
          have LMc15 := Aside0.mk c15
          clear c15
          obtain ⟨y114, hy114⟩ : ∃ y_ : List (S129), y_ = (t108 ++ t111) := ⟨_, rfl⟩
          replace H : (some y114) = some r := by first | (rw [hy114]; with_reducible exact H) | (have H2_ := (Option.bind_some _ _).symm.trans H; rw [hy114]; with_reducible exact H2_) | (have H2_ := (Option.bind_some _ _).symm.trans H; with_reducible exact H2_) | with_reducible exact H | (rw [hy114]; exact H) | exact H
          have Ny114 := Aside0.mk hy114
          clear hy114
          obtain rfl := Option.some.inj H
          go_wp2_with (first | ((with_reducible refine gate_callee (f := 136) rfl ?_); refine goesL_ (some 26) rfl rfl Try.func136 (by kernel_rfl) rfl #[.int .i64 a2] rfl (by (try simp only [List.map_toArray, List.map_cons, List.map_nil]); first | done | rfl | (simp only [List.length_drop, List.length_take]; rfl)) ?_; (with_reducible refine (calxref08_half.calls kj4 a2 t107 _ A12.out).mono ?_); rintro e w' ⟨rfl, ⟨nd, rfl⟩⟩; refine ⟨_, rfl, ?_⟩) | ((with_reducible refine gate_callee (f := 137) rfl ?_); refine goesL_ (some 31) rfl rfl Try.func137 (by kernel_rfl) rfl #[.slice A0 l0.length c0, .int .i64 a1, .int .i64 t107, .int .i64 a3] rfl (by (try simp only [List.map_toArray, List.map_cons, List.map_nil]); first | done | rfl | (simp only [List.length_drop, List.length_take]; rfl)) ?_; (with_reducible refine (ih kj4 (by have := HJ4.out; omega) _ _ l0 a1 t107 a3 t108 _ ?side1 ?side2 A13.out).mono ?_); (case side1 => repeat (first | exact (Kd.C_below HR0.out (by repeat (first | (with_reducible first | exact HB.out | apply below_alloc | apply pw_below_drewN | apply below_drew1) | exact HB.out))) | (with_reducible refine Kd.C_alloc ?_ _) | (with_reducible refine Kd.C_drewN ?_ _) | (with_reducible refine Kd.C_drew ?_))); (case side2 => exact HC0.out); rintro e w16 ⟨v109, rfl, ho0, hb⟩; refine ⟨_, rfl, ?_⟩; have n0_ := Aside0.mk (Kd.R_lower ho0 (below_size (by repeat (first | (with_reducible first | exact HB.out | apply below_alloc | apply pw_below_drewN | apply below_drew1) | exact HB.out)))); have n1_ := Aside0.mk (below_step (by repeat (first | (with_reducible first | exact HB.out | apply below_alloc | apply pw_below_drewN | apply below_drew1) | exact HB.out)) hb); clear HB; have HO110 := n0_; have HB := n1_; clear n0_ n1_; (try clear hb); (try clear hb2); (try clear hk); (try clear hi); (try clear ho0)) | ((with_reducible refine gate_callee (f := 137) rfl ?_); refine goesL_ (some 40) rfl rfl Try.func137 (by kernel_rfl) rfl #[.slice A0 l0.length c0, .int .i64 (wrap64 (a1 + t107)), .int .i64 (wrap64 (a2 - t107)), .int .i64 a3] rfl (by (try simp only [List.map_toArray, List.map_cons, List.map_nil]); first | done | rfl | (simp only [List.length_drop, List.length_take]; rfl)) ?_; (with_reducible refine (ih kj4 (by have := HJ4.out; omega) _ _ l0 (wrap64 (a1 + t107)) (wrap64 (a2 - t107)) a3 t111 _ ?side1 ?side2 A14.out).mono ?_); (case side1 => repeat (first | exact (Kd.C_below HR0.out HB.out) | (with_reducible refine Kd.C_alloc ?_ _) | (with_reducible refine Kd.C_drewN ?_ _) | (with_reducible refine Kd.C_drew ?_))); (case side2 => exact HC0.out); rintro e w17 ⟨v112, rfl, ho0, hb⟩; refine ⟨_, rfl, ?_⟩; have n0_ := Aside0.mk (Kd.R_elder' (by (with_reducible repeat (first | apply Kd.R_alloc | apply Kd.R_drewN | apply Kd.R_drew)); exact HO110.out) (Kd.R_base ho0) hb); have n1_ := Aside0.mk (Kd.R_lower (Kd.R_new' ho0 (Kd.R_lt (by (with_reducible repeat (first | apply Kd.R_alloc | apply Kd.R_drewN | apply Kd.R_drew)); exact HO110.out))) (below_size (by repeat (first | (with_reducible first | exact HB.out | apply below_alloc | apply pw_below_drewN | apply below_drew1) | exact HB.out)))); have n2_ := Aside0.mk (below_step (by repeat (first | (with_reducible first | exact HB.out | apply below_alloc | apply pw_below_drewN | apply below_drew1) | exact HB.out)) hb); clear HO110; clear HB; have HO110 := n0_; have HO113 := n1_; have HB := n2_; clear n0_ n1_ n2_; (try clear hb); (try clear hb2); (try clear hk); (try clear hi); (try clear ho0); obtain ⟨Ao19, co19, eo19⟩ := Kd.R_slice HO113.out; subst eo19) | ((with_reducible refine gate_builtin (b := .append) (xs := #[.tmp 31, .tmp 40]) rfl ?_); at_builtin; refine Kd.R_append_rows k129 (w0 := w) w.heap.size rfl (.tmp 31) (.tmp 40) 77 129 (.agg #[(.int .i64 0), (.int .i64 0), (.int .i64 0)]) 24 rfl Try.underlying77 info129 rfl (by decide) (by omega) v109 t108 t111 _ _ _ (fun k_ => some k_ ≠ (.slice Ao19 t111.length co19 : Value).ownBlock) (fun _ => False) rfl rfl ?aO ?aR (fun _ _ h => h) (fun _ h => h.elim) ?aF ?aB ?aS ?aL ?_; (case aR => repeat (first | exact (Kd.R_reads' HO113.out).2.2 | (with_reducible refine Kd.C_alloc ?_ _) | (with_reducible refine Kd.C_drewN ?_ _) | (with_reducible refine Kd.C_drew ?_))); (case aB => exact (by repeat (first | (with_reducible first | exact HB.out | apply below_alloc | apply pw_below_drewN | apply below_drew1) | exact HB.out))); (case aF => exact (fun k_ hk => Kd.fresh' (Kd.R_lt (by (with_reducible repeat (first | apply Kd.R_alloc | apply Kd.R_drewN | apply Kd.R_drew)); exact HO113.out)) k_ hk)); (case aO => exact (by (with_reducible repeat (first | apply Kd.R_alloc | apply Kd.R_drewN | apply Kd.R_drew)); exact Kd.R_mono HO110.out (fun _ hk => hk.2))); (case aS => exact (below_size (by repeat (first | (with_reducible first | exact HB.out | apply below_alloc | apply pw_below_drewN | apply below_drew1) | exact HB.out)))); (case aL => have := LMc15.out; omega); intro v115 w18 ho hb hg hat; rw [← Ny114.out] at ho; have n0_ := Aside0.mk (Kd.R_after (ok := (fun _ => True)) (by (with_reducible repeat (first | apply Kd.R_alloc | apply Kd.R_drewN | apply Kd.R_drew)); exact HO113.out) hg hat); have n1_ := Aside0.mk (hb); have n2_ := Aside0.mk (ho); clear HO113; clear HB; clear HO110; have HO113 := n0_; have HB := n1_; have HO116 := n2_; clear n0_ n1_ n2_; clear ho hb hg hat))
          go_ret
          exact ⟨_, by first | rfl | (simp [errW_none, errW_some] <;> rfl) | (simp [*, errW_none, errW_some] <;> rfl), by (with_reducible repeat (first | apply Kd.R_alloc | apply Kd.R_drewN | apply Kd.R_drew)); exact Kd.R_mono HO116.out (fun _ hk => trivial), by repeat (first | (with_reducible first | exact HB.out | apply below_alloc | apply pw_below_drewN | apply below_drew1) | exact HB.out)⟩
        · rw [if_neg c15] at H
          exact absurd H (by simp)
end Go.Proofs.Ytmfphlfakmnbmaa.B
end

section
namespace Go.Proofs.Ytmfphlfakmnbmaa.B
open Go.RowKit Go.Proofs.YtmfphlfakmnbmaaW.PrintWords Go.Proofs.YtmfphlfakmnbmaaW.PrintLast Go.Proofs.YtmfphlfakmnbmaaW.PrintMore
attribute [local go_sem] max2_int min2_int max_two min_two max_three min_three max_four min_four
def calxref08_Grown.f (k : Nat) (l0 : List (S29)) (a1 : Int) : Option ((List (S129)) × Int) := (calxref08_Check.f k l0).bind fun t102 => (if t102 = 0 then ((calxref08_within.f a1 0 (l0.length : Int)).bind fun t103 => (if t103 = true then ((calxref08_cut.f k l0 0 (l0.length : Int) a1).bind fun t104 => (some (t104, 0))) else (some (([] : List (S129)), 1)))) else (some (([] : List (S129)), t102)))
set_option maxHeartbeats 8000000 in
set_option maxRecDepth 100000 in
theorem calxref08_Grown.calls (k : Nat) (A0 : Option Addr) (c0 : Nat) (l0 : List (S29)) (a1 : Int) (r1 : List (S129)) (r2 : Int) (w : World) (hr0 : Kd.C k29 w A0 l0.length l0) (hc0 : l0.length ≤ c0) (h : calxref08_Grown.f k l0 a1 = some (r1, r2)) :
    Calls Try.prog 72 #[.slice A0 l0.length c0, .int .i64 a1] w fun e w' => ∃ v0_ : Value, e = .returned (.agg #[v0_, .int .i64 r2]) ∧ Kd.R k129 129 w' w.heap.size (fun _ => True) v0_ r1 ∧ Below w.heap.size w w' := by
  have hu111 := Try.underlying111
  have HR0 := Aside0.mk hr0
  have HC0 := Aside0.mk hc0
  clear hr0 hc0
  have HB := Aside0.mk (Below.refl w.heap.size w)
  have H : ((calxref08_Check.f k l0).bind fun t102 => (if t102 = 0 then ((calxref08_within.f a1 0 (l0.length : Int)).bind fun t103 => (if t103 = true then ((calxref08_cut.f k l0 0 (l0.length : Int) a1).bind fun t104 => (some (t104, 0))) else (some (([] : List (S129)), 1)))) else (some (([] : List (S129)), t102)))) = some (r1, r2) := h
  clear h
  replace H := Option.bind_eq_some_iff.mp H
  obtain ⟨t102, A30, H⟩ := H
  replace H : (if t102 = 0 then ((calxref08_within.f a1 0 (l0.length : Int)).bind fun t103 => (if t103 = true then ((calxref08_cut.f k l0 0 (l0.length : Int) a1).bind fun t104 => (some (t104, 0))) else (some (([] : List (S129)), 1)))) else (some (([] : List (S129)), t102))) = some (r1, r2) := H
  have A3 := Aside0.mk A30
  clear A30
  by_cases c4 : t102 = 0
  · rw [if_pos c4] at H
    have c4b0 : (t102 == 0) = true := beq_iff_eq.mpr c4
    have c4b1 : (t102 != 0) = false := bne_eq_false_iff_eq.mpr c4
    clear c4
    replace H := Option.bind_eq_some_iff.mp H
    obtain ⟨t103, A50, H⟩ := H
    replace H : (if t103 = true then ((calxref08_cut.f k l0 0 (l0.length : Int) a1).bind fun t104 => (some (t104, 0))) else (some (([] : List (S129)), 1))) = some (r1, r2) := H
    have A5 := Aside0.mk A50
    clear A50
    by_cases c6 : t103 = true
    · subst c6
      have H1 : ((calxref08_cut.f k l0 0 (l0.length : Int) a1).bind fun t104 => (some (t104, 0))) = some (r1, r2) := by rw [if_pos rfl] at H; exact H
      clear H
      have H := H1
      clear H1
      replace H := Option.bind_eq_some_iff.mp H
      obtain ⟨t104, A70, H⟩ := H
      replace H : (some (t104, 0)) = some (r1, r2) := H
      have A7 := Aside0.mk A70
      clear A70
      simp only [Option.some.injEq, Prod.mk.injEq] at H
      obtain ⟨rfl, rfl⟩ := H
      go_enter Try.func72, Try.ntmps72
      go_wp2_with (first | ((with_reducible refine gate_dst (N := 4) rfl ?_); refine box_event ?hg (N := 4) ?hd (cs := #[.slice none 0 0, .int .i64 0]) (t := 111) ?hr ?_; (case hd => rfl); (case hg => rfl); (case hr => first | (go_simp; done) | (go_simp; rfl)); intro gb101 hg w8 hbox hb; have n0_ := Aside0.mk (below_step (by repeat (first | (with_reducible first | exact HB.out | apply below_alloc | apply pw_below_drewN | apply below_drew1) | exact HB.out)) hb); have n1_ := Aside0.mk (hbox); have n2_ := Aside0.mk ((by rw [hg]; exact (below_size (by repeat (first | (with_reducible first | exact HB.out | apply below_alloc | apply pw_below_drewN | apply below_drew1) | exact HB.out))) : w.heap.size ≤ gb101)); have n3_ := Aside0.mk ((by rw [hg]; exact (below_size (by repeat (first | (with_reducible first | exact HB.out | apply below_alloc | apply pw_below_drewN | apply below_drew1) | exact HB.out))) : w.heap.size ≤ gb101)); clear HB; have HB := n0_; have BK101 := n1_; have GW101 := n2_; have GE101 := n3_; clear n0_ n1_ n2_ n3_; clear hb hbox hg) | ((with_reducible refine gate_callee (f := 43) rfl ?_); refine goesL_ (some 8) rfl rfl Try.func43 (by kernel_rfl) rfl #[.slice A0 l0.length c0] rfl (by (try simp only [List.map_toArray, List.map_cons, List.map_nil]); first | done | rfl | (simp only [List.length_drop, List.length_take]; rfl)) ?_; (with_reducible refine (calxref08_Check.calls k _ _ l0 t102 _ ?side1 ?side2 A3.out).mono ?_); (case side1 => repeat (first | exact (Kd.C_below HR0.out HB.out) | (with_reducible refine Kd.C_alloc ?_ _) | (with_reducible refine Kd.C_drewN ?_ _) | (with_reducible refine Kd.C_drew ?_))); (case side2 => exact HC0.out); rintro e w9 ⟨rfl, hb⟩; refine ⟨_, rfl, ?_⟩; have n0_ := Aside0.mk (blk_below (g := gb101) (o := .cells #[.slice none 0 0, .int .i64 0] 111 (0, 0)) (by (with_reducible repeat (first | refine blk_drewN ?_ _ | refine blk_drew ?_ | refine blk_alloc ?_ _)); exact BK101.out) hb); have n1_ := Aside0.mk (below_step (by repeat (first | (with_reducible first | exact HB.out | apply below_alloc | apply pw_below_drewN | apply below_drew1 | refine below_set ?_ GE101.out) | exact HB.out)) hb); clear BK101; clear HB; have BK101 := n0_; have HB := n1_; clear n0_ n1_; (try clear hb); (try clear hb2); (try clear hk); (try clear hi)) | ((with_reducible refine gate_callee (f := 103) rfl ?_); refine goesL_ (some 16) rfl rfl Try.func103 (by kernel_rfl) rfl #[.int .i64 a1, .int .i64 0, .int .i64 (l0.length : Int)] rfl (by (try simp only [List.map_toArray, List.map_cons, List.map_nil]); first | done | rfl | (simp only [List.length_drop, List.length_take]; rfl)) ?_; (with_reducible refine (calxref08_within.calls a1 0 (l0.length : Int) true _ A5.out).mono ?_); rintro e w' ⟨rfl, ⟨nd, rfl⟩⟩; refine ⟨_, rfl, ?_⟩; (try (rw [drewN_self w9]; generalize hq_ : World.drewN w9 _ = w9; have n0_ : Aside0 (w9.heap[gb101]? = some (.cells #[.slice none 0 0, .int .i64 0] 111 (0, 0))) := ⟨by rw [← hq_]; exact (by (with_reducible repeat (first | refine blk_drewN ?_ _ | refine blk_drew ?_ | refine blk_alloc ?_ _)); exact BK101.out)⟩; have n1_ : Aside0 (Below w.heap.size w w9) := ⟨by rw [← hq_]; exact (by repeat (first | (with_reducible first | exact HB.out | apply below_alloc | apply pw_below_drewN | apply below_drew1 | refine below_set ?_ GE101.out) | exact HB.out))⟩; clear BK101 HB hq_; have BK101 := n0_; have HB := n1_; clear n0_ n1_))) | ((with_reducible refine gate_callee (f := 137) rfl ?_); refine goesL_ (some 24) rfl rfl Try.func137 (by kernel_rfl) rfl #[.slice A0 l0.length c0, .int .i64 0, .int .i64 (l0.length : Int), .int .i64 a1] rfl (by (try simp only [List.map_toArray, List.map_cons, List.map_nil]); first | done | rfl | (simp only [List.length_drop, List.length_take]; rfl)) ?_; (with_reducible refine (calxref08_cut.calls k _ _ l0 0 (l0.length : Int) a1 t104 _ ?side1 ?side2 A7.out).mono ?_); (case side1 => repeat (first | exact (Kd.C_below HR0.out HB.out) | (with_reducible refine Kd.C_alloc ?_ _) | (with_reducible refine Kd.C_drewN ?_ _) | (with_reducible refine Kd.C_drew ?_))); (case side2 => exact HC0.out); rintro e w10 ⟨v105, rfl, ho0, hb⟩; refine ⟨_, rfl, ?_⟩; have n0_ := Aside0.mk (Kd.R_lower ho0 (below_size (by repeat (first | (with_reducible first | exact HB.out | apply below_alloc | apply pw_below_drewN | apply below_drew1 | refine below_set ?_ GE101.out) | exact HB.out)))); have n1_ := Aside0.mk (blk_below (g := gb101) (o := .cells #[.slice none 0 0, .int .i64 0] 111 (0, 0)) (by (with_reducible repeat (first | refine blk_drewN ?_ _ | refine blk_drew ?_ | refine blk_alloc ?_ _)); exact BK101.out) hb); have n2_ := Aside0.mk (below_step (by repeat (first | (with_reducible first | exact HB.out | apply below_alloc | apply pw_below_drewN | apply below_drew1 | refine below_set ?_ GE101.out) | exact HB.out)) hb); clear BK101; clear HB; have HO106 := n0_; have BK101 := n1_; have HB := n2_; clear n0_ n1_ n2_; (try clear hb); (try clear hb2); (try clear hk); (try clear hi); (try clear ho0); obtain ⟨Ao11, co11, eo11⟩ := Kd.R_slice HO106.out; subst eo11; have hcz12_0 : w10.cell? ⟨gb101, 0, none⟩ = some (.slice none 0 0) := (blk_cell BK101.out 0).trans rfl; have hcz12_1 : w10.cell? ⟨gb101, 1, none⟩ = some (.int .i64 0) := (blk_cell BK101.out 1).trans rfl; have hfz12_0 := blk_frozen BK101.out 0; have hfz12_1 := blk_frozen BK101.out 1))
      refine bodyPost_ret (results_cell_row rfl _ _ gb101 111 #[.slice Ao11 t104.length co11, .int .i64 0] (0, 0) _ rfl (by (with_reducible repeat (first | refine blk_drewN ?_ _ | refine blk_drew ?_ | refine blk_alloc ?_ _)); refine blk_put (cs := #[.slice Ao11 t104.length co11, .int .i64 0]) ?_ 1 _ rfl; (with_reducible repeat (first | refine blk_drewN ?_ _ | refine blk_drew ?_ | refine blk_alloc ?_ _)); refine blk_put (cs := #[.slice none 0 0, .int .i64 0]) ?_ 0 _ rfl; (with_reducible repeat (first | refine blk_drewN ?_ _ | refine blk_drew ?_ | refine blk_alloc ?_ _)); exact BK101.out) Try.underlying111 rfl (by kernel_rfl)) rfl ?_
      exact ⟨_, by first | rfl | (simp [errW_none, errW_some] <;> rfl) | (simp [*, errW_none, errW_some] <;> rfl), by (with_reducible repeat (first | apply Kd.R_alloc | apply Kd.R_drewN | apply Kd.R_drew)); exact Kd.R_mono (Kd.R_far (p := ⟨gb101, 1, none⟩) (Kd.R_far (p := ⟨gb101, 0, none⟩) (Kd.R_types HO106.out BK101.out (by decide)) (fun _ hk => hk.2) (.slice Ao11 t104.length co11)) (fun _ hk => hk.2) (.int .i64 0)) (fun _ hk => trivial), by repeat (first | (with_reducible first | exact HB.out | apply below_alloc | apply pw_below_drewN | apply below_drew1 | refine below_set ?_ GE101.out) | exact HB.out)⟩
    · replace c6 := Bool.eq_false_iff.mpr c6
      subst c6
      have H1 : (some (([] : List (S129)), 1)) = some (r1, r2) := by rw [if_neg (show ¬ (false = true) by decide)] at H; exact H
      clear H
      have H := H1
      clear H1
      simp only [Option.some.injEq, Prod.mk.injEq] at H
      obtain ⟨rfl, rfl⟩ := H
      go_enter Try.func72, Try.ntmps72
      go_wp2_with (first | ((with_reducible refine gate_dst (N := 4) rfl ?_); refine box_event ?hg (N := 4) ?hd (cs := #[.slice none 0 0, .int .i64 0]) (t := 111) ?hr ?_; (case hd => rfl); (case hg => rfl); (case hr => first | (go_simp; done) | (go_simp; rfl)); intro gb101 hg w13 hbox hb; have n0_ := Aside0.mk (below_step (by repeat (first | (with_reducible first | exact HB.out | apply below_alloc | apply pw_below_drewN | apply below_drew1) | exact HB.out)) hb); have n1_ := Aside0.mk (hbox); have n2_ := Aside0.mk ((by rw [hg]; exact (below_size (by repeat (first | (with_reducible first | exact HB.out | apply below_alloc | apply pw_below_drewN | apply below_drew1) | exact HB.out))) : w.heap.size ≤ gb101)); have n3_ := Aside0.mk ((by rw [hg]; exact (below_size (by repeat (first | (with_reducible first | exact HB.out | apply below_alloc | apply pw_below_drewN | apply below_drew1) | exact HB.out))) : w.heap.size ≤ gb101)); clear HB; have HB := n0_; have BK101 := n1_; have GW101 := n2_; have GE101 := n3_; clear n0_ n1_ n2_ n3_; clear hb hbox hg) | ((with_reducible refine gate_callee (f := 43) rfl ?_); refine goesL_ (some 8) rfl rfl Try.func43 (by kernel_rfl) rfl #[.slice A0 l0.length c0] rfl (by (try simp only [List.map_toArray, List.map_cons, List.map_nil]); first | done | rfl | (simp only [List.length_drop, List.length_take]; rfl)) ?_; (with_reducible refine (calxref08_Check.calls k _ _ l0 t102 _ ?side1 ?side2 A3.out).mono ?_); (case side1 => repeat (first | exact (Kd.C_below HR0.out HB.out) | (with_reducible refine Kd.C_alloc ?_ _) | (with_reducible refine Kd.C_drewN ?_ _) | (with_reducible refine Kd.C_drew ?_))); (case side2 => exact HC0.out); rintro e w14 ⟨rfl, hb⟩; refine ⟨_, rfl, ?_⟩; have n0_ := Aside0.mk (blk_below (g := gb101) (o := .cells #[.slice none 0 0, .int .i64 0] 111 (0, 0)) (by (with_reducible repeat (first | refine blk_drewN ?_ _ | refine blk_drew ?_ | refine blk_alloc ?_ _)); exact BK101.out) hb); have n1_ := Aside0.mk (below_step (by repeat (first | (with_reducible first | exact HB.out | apply below_alloc | apply pw_below_drewN | apply below_drew1 | refine below_set ?_ GE101.out) | exact HB.out)) hb); clear BK101; clear HB; have BK101 := n0_; have HB := n1_; clear n0_ n1_; (try clear hb); (try clear hb2); (try clear hk); (try clear hi)) | ((with_reducible refine gate_callee (f := 103) rfl ?_); refine goesL_ (some 16) rfl rfl Try.func103 (by kernel_rfl) rfl #[.int .i64 a1, .int .i64 0, .int .i64 (l0.length : Int)] rfl (by (try simp only [List.map_toArray, List.map_cons, List.map_nil]); first | done | rfl | (simp only [List.length_drop, List.length_take]; rfl)) ?_; (with_reducible refine (calxref08_within.calls a1 0 (l0.length : Int) false _ A5.out).mono ?_); rintro e w' ⟨rfl, ⟨nd, rfl⟩⟩; refine ⟨_, rfl, ?_⟩; (try (rw [drewN_self w14]; generalize hq_ : World.drewN w14 _ = w14; have n0_ : Aside0 (w14.heap[gb101]? = some (.cells #[.slice none 0 0, .int .i64 0] 111 (0, 0))) := ⟨by rw [← hq_]; exact (by (with_reducible repeat (first | refine blk_drewN ?_ _ | refine blk_drew ?_ | refine blk_alloc ?_ _)); exact BK101.out)⟩; have n1_ : Aside0 (Below w.heap.size w w14) := ⟨by rw [← hq_]; exact (by repeat (first | (with_reducible first | exact HB.out | apply below_alloc | apply pw_below_drewN | apply below_drew1 | refine below_set ?_ GE101.out) | exact HB.out))⟩; clear BK101 HB hq_; have BK101 := n0_; have HB := n1_; clear n0_ n1_)); have hcz15_0 : w14.cell? ⟨gb101, 0, none⟩ = some (.slice none 0 0) := (blk_cell BK101.out 0).trans rfl; have hcz15_1 : w14.cell? ⟨gb101, 1, none⟩ = some (.int .i64 0) := (blk_cell BK101.out 1).trans rfl; have hfz15_0 := blk_frozen BK101.out 0; have hfz15_1 := blk_frozen BK101.out 1))
      refine bodyPost_ret (results_cell_row rfl _ _ gb101 111 #[.slice none 0 0, .int .i64 1] (0, 0) _ rfl (by (with_reducible repeat (first | refine blk_drewN ?_ _ | refine blk_drew ?_ | refine blk_alloc ?_ _)); refine blk_put (cs := #[.slice none 0 0, .int .i64 0]) ?_ 1 _ rfl; (with_reducible repeat (first | refine blk_drewN ?_ _ | refine blk_drew ?_ | refine blk_alloc ?_ _)); refine blk_put (cs := #[.slice none 0 0, .int .i64 0]) ?_ 0 _ rfl; (with_reducible repeat (first | refine blk_drewN ?_ _ | refine blk_drew ?_ | refine blk_alloc ?_ _)); exact BK101.out) Try.underlying111 rfl (by kernel_rfl)) rfl ?_
      exact ⟨_, by first | rfl | (simp [errW_none, errW_some] <;> rfl) | (simp [*, errW_none, errW_some] <;> rfl), by first | exact Kd.R_nil _ _ _ _ _ | exact Kd.N_nil _ _ _ _ _ | exact Kd.V_nil _ _ _ _ _ | exact Kd.Q_nil _ _ _ _ _ | exact Kd.S_nil _ _ _ _ _, by repeat (first | (with_reducible first | exact HB.out | apply below_alloc | apply pw_below_drewN | apply below_drew1 | refine below_set ?_ GE101.out) | exact HB.out)⟩
  · rw [if_neg c4] at H
    have c4b0 : (t102 == 0) = false := beq_eq_false_iff_ne.mpr c4
    have c4b1 : (t102 != 0) = true := bne_iff_ne.mpr c4
    simp only [Option.some.injEq, Prod.mk.injEq] at H
    obtain ⟨rfl, rfl⟩ := H
    go_enter Try.func72, Try.ntmps72
    go_wp2_with (first | ((with_reducible refine gate_dst (N := 4) rfl ?_); refine box_event ?hg (N := 4) ?hd (cs := #[.slice none 0 0, .int .i64 0]) (t := 111) ?hr ?_; (case hd => rfl); (case hg => rfl); (case hr => first | (go_simp; done) | (go_simp; rfl)); intro gb101 hg w16 hbox hb; have n0_ := Aside0.mk (below_step (by repeat (first | (with_reducible first | exact HB.out | apply below_alloc | apply pw_below_drewN | apply below_drew1) | exact HB.out)) hb); have n1_ := Aside0.mk (hbox); have n2_ := Aside0.mk ((by rw [hg]; exact (below_size (by repeat (first | (with_reducible first | exact HB.out | apply below_alloc | apply pw_below_drewN | apply below_drew1) | exact HB.out))) : w.heap.size ≤ gb101)); have n3_ := Aside0.mk ((by rw [hg]; exact (below_size (by repeat (first | (with_reducible first | exact HB.out | apply below_alloc | apply pw_below_drewN | apply below_drew1) | exact HB.out))) : w.heap.size ≤ gb101)); clear HB; have HB := n0_; have BK101 := n1_; have GW101 := n2_; have GE101 := n3_; clear n0_ n1_ n2_ n3_; clear hb hbox hg) | ((with_reducible refine gate_callee (f := 43) rfl ?_); refine goesL_ (some 8) rfl rfl Try.func43 (by kernel_rfl) rfl #[.slice A0 l0.length c0] rfl (by (try simp only [List.map_toArray, List.map_cons, List.map_nil]); first | done | rfl | (simp only [List.length_drop, List.length_take]; rfl)) ?_; (with_reducible refine (calxref08_Check.calls k _ _ l0 t102 _ ?side1 ?side2 A3.out).mono ?_); (case side1 => repeat (first | exact (Kd.C_below HR0.out HB.out) | (with_reducible refine Kd.C_alloc ?_ _) | (with_reducible refine Kd.C_drewN ?_ _) | (with_reducible refine Kd.C_drew ?_))); (case side2 => exact HC0.out); rintro e w17 ⟨rfl, hb⟩; refine ⟨_, rfl, ?_⟩; have n0_ := Aside0.mk (blk_below (g := gb101) (o := .cells #[.slice none 0 0, .int .i64 0] 111 (0, 0)) (by (with_reducible repeat (first | refine blk_drewN ?_ _ | refine blk_drew ?_ | refine blk_alloc ?_ _)); exact BK101.out) hb); have n1_ := Aside0.mk (below_step (by repeat (first | (with_reducible first | exact HB.out | apply below_alloc | apply pw_below_drewN | apply below_drew1 | refine below_set ?_ GE101.out) | exact HB.out)) hb); clear BK101; clear HB; have BK101 := n0_; have HB := n1_; clear n0_ n1_; (try clear hb); (try clear hb2); (try clear hk); (try clear hi); have hcz18_0 : w17.cell? ⟨gb101, 0, none⟩ = some (.slice none 0 0) := (blk_cell BK101.out 0).trans rfl; have hcz18_1 : w17.cell? ⟨gb101, 1, none⟩ = some (.int .i64 0) := (blk_cell BK101.out 1).trans rfl; have hfz18_0 := blk_frozen BK101.out 0; have hfz18_1 := blk_frozen BK101.out 1))
    refine bodyPost_ret (results_cell_row rfl _ _ gb101 111 #[.slice none 0 0, .int .i64 t102] (0, 0) _ rfl (by (with_reducible repeat (first | refine blk_drewN ?_ _ | refine blk_drew ?_ | refine blk_alloc ?_ _)); refine blk_put (cs := #[.slice none 0 0, .int .i64 0]) ?_ 1 _ rfl; (with_reducible repeat (first | refine blk_drewN ?_ _ | refine blk_drew ?_ | refine blk_alloc ?_ _)); refine blk_put (cs := #[.slice none 0 0, .int .i64 0]) ?_ 0 _ rfl; (with_reducible repeat (first | refine blk_drewN ?_ _ | refine blk_drew ?_ | refine blk_alloc ?_ _)); exact BK101.out) Try.underlying111 rfl (by kernel_rfl)) rfl ?_
    exact ⟨_, by first | rfl | (simp [errW_none, errW_some] <;> rfl) | (simp [*, errW_none, errW_some] <;> rfl), by first | exact Kd.R_nil _ _ _ _ _ | exact Kd.N_nil _ _ _ _ _ | exact Kd.V_nil _ _ _ _ _ | exact Kd.Q_nil _ _ _ _ _ | exact Kd.S_nil _ _ _ _ _, by repeat (first | (with_reducible first | exact HB.out | apply below_alloc | apply pw_below_drewN | apply below_drew1 | refine below_set ?_ GE101.out) | exact HB.out)⟩
end Go.Proofs.Ytmfphlfakmnbmaa.B
end

section
namespace Go.Proofs.Ytmfphlfakmnbmaa.B
open Go.RowKit Go.Proofs.YtmfphlfakmnbmaaW.PrintWords Go.Proofs.YtmfphlfakmnbmaaW.PrintLast Go.Proofs.YtmfphlfakmnbmaaW.PrintMore
attribute [local go_sem] max2_int min2_int max_two min_two max_three min_three max_four min_four
def calxref08_twigged.l0 : Nat → List (S129) → Int → Option (Bool)
  | 0, _, _ => none
  | k + 1, x0, x3 => if x3 < (x0.length : Int) then (if 0 ≤ x3 then ((calxref08_isDigest.f ((rd_T129 x0 x3).f2)).bind fun t102 => (if t102 = true then (calxref08_twigged.l0 k x0 (wrap64 (x3 + 1))) else (some false))) else (none)) else (some true)
def calxref08_twigged.f (k : Nat) (l0 : List (S129)) : Option (Bool) := calxref08_twigged.l0 k l0 0
set_option maxHeartbeats 8000000 in
set_option maxRecDepth 100000 in
theorem calxref08_twigged.calls (k : Nat) (A0 : Option Addr) (c0 : Nat) (l0 : List (S129)) (r : Bool) (w : World) (hr0 : Kd.C k129 w A0 l0.length l0) (hc0 : l0.length ≤ c0) (h : calxref08_twigged.f k l0 = some r) :
    Calls Try.prog 138 #[.slice A0 l0.length c0] w fun e w' => e = .returned (.bool r) ∧ Drawn0 w w' := by
  have HR0 := Aside0.mk hr0
  have HC0 := Aside0.mk hc0
  clear hr0 hc0
  have H : (calxref08_twigged.l0 k l0 0) = some r := h
  clear h
  have H' := Aside0.mk H
  clear H
  go_enter Try.func138, Try.ntmps138
  go_wp2
  go_loopg [3] k (fun kq v3 w' => ∃ (x3_1 : Int), v3 = .int .i64 x3_1 ∧ Aside0 (calxref08_twigged.l0 kq l0 x3_1 = some r) ∧ Aside0 (kq ≤ k) ∧ Drawn0 w w')
  case atStart => exact ⟨(0), (by first | rfl | (simp; done) | (simp [*]; done)), H', ⟨Nat.le_refl _⟩, by repeat (first | exact Drawn0.refl _ | apply Drawn0.step)⟩
  case round =>
    clear H'
    try clear c1
    obtain ⟨x3_1, rfl, HA, HK1, ⟨m1, rfl⟩⟩ := hrel
    cases gk with
    | zero => exact absurd HA.out (by simp [calxref08_twigged.l0])
    | succ k1 =>
      have H := HA.out
      clear HA
      simp only [calxref08_twigged.l0] at H
      by_cases c2 : x3_1 < (l0.length : Int)
      · rw [if_pos c2] at H
        have c2b0 : decide (x3_1 < (l0.length : Int)) = true := decide_eq_true c2
        clear c2
        by_cases c3 : 0 ≤ x3_1
        · rw [if_pos c3] at H
          have c3b0 : decide (0 ≤ x3_1) = true := decide_eq_true c3
          clear c3
          replace H := Option.bind_eq_some_iff.mp H
          obtain ⟨t102, A40, H⟩ := H
          replace H : (if t102 = true then (calxref08_twigged.l0 k1 l0 (wrap64 (x3_1 + 1))) else (some false)) = some r := H
          have A4 := Aside0.mk A40
          clear A40
          by_cases c5 : t102 = true
          · subst c5
            have H1 : (calxref08_twigged.l0 k1 l0 (wrap64 (x3_1 + 1))) = some r := by rw [if_pos rfl] at H; exact H
            clear H
            have H := H1
            clear H1
            have H' := Aside0.mk H
            clear H
            have p101 : 0 ≤ (x3_1 : Int) := of_decide_eq_true (by first | (with_reducible assumption) | assumption)
            have q101 : x3_1 < (l0.length : Int) := of_decide_eq_true (by first | (with_reducible assumption) | assumption)
            obtain ⟨ad101, e101, hx101_0, hx101_1, hx101_2⟩ := at_T129 HR0.out x3_1 p101 q101
            cases e101
            replace p101 := eq_true p101
            replace q101 := eq_true q101
            go_wp2_with (first | ((with_reducible refine gate_callee (f := 104) rfl ?_); refine goesL_ (some 16) rfl rfl Try.func104 (by kernel_rfl) rfl #[.int .i64 ((rd_T129 l0 x3_1).f2)] rfl (by (try simp only [List.map_toArray, List.map_cons, List.map_nil]); first | done | rfl | (simp only [List.length_drop, List.length_take]; rfl)) ?_; (with_reducible refine (calxref08_isDigest.calls ((rd_T129 l0 x3_1).f2) true _ A4.out).mono ?_); rintro e w' ⟨rfl, ⟨nd, rfl⟩⟩; refine ⟨_, rfl, ?_⟩))
            go_roundg k1
            case measure => have := HK1.out; omega
            case rel => exact ⟨(wrap64 (x3_1 + 1)), (by first | rfl | (simp; done) | (simp [*]; done)), H', ⟨by have := HK1.out; omega⟩, by repeat (first | exact Drawn0.refl _ | apply Drawn0.step)⟩
          · replace c5 := Bool.eq_false_iff.mpr c5
            subst c5
            have H1 : (some false) = some r := by rw [if_neg (show ¬ (false = true) by decide)] at H; exact H
            clear H
            have H := H1
            clear H1
            obtain rfl := Option.some.inj H
            have p101 : 0 ≤ (x3_1 : Int) := of_decide_eq_true (by first | (with_reducible assumption) | assumption)
            have q101 : x3_1 < (l0.length : Int) := of_decide_eq_true (by first | (with_reducible assumption) | assumption)
            obtain ⟨ad101, e101, hx101_0, hx101_1, hx101_2⟩ := at_T129 HR0.out x3_1 p101 q101
            cases e101
            replace p101 := eq_true p101
            replace q101 := eq_true q101
            go_wp2_with (first | ((with_reducible refine gate_callee (f := 104) rfl ?_); refine goesL_ (some 16) rfl rfl Try.func104 (by kernel_rfl) rfl #[.int .i64 ((rd_T129 l0 x3_1).f2)] rfl (by (try simp only [List.map_toArray, List.map_cons, List.map_nil]); first | done | rfl | (simp only [List.length_drop, List.length_take]; rfl)) ?_; (with_reducible refine (calxref08_isDigest.calls ((rd_T129 l0 x3_1).f2) false _ A4.out).mono ?_); rintro e w' ⟨rfl, ⟨nd, rfl⟩⟩; refine ⟨_, rfl, ?_⟩))
            go_ret
            exact ⟨by first | rfl | (simp; done) | (simp [*]; done), by repeat (first | exact Drawn0.refl _ | apply Drawn0.step)⟩
        · rw [if_neg c3] at H
          exact absurd H (by simp)
      · rw [if_neg c2] at H
        have c2b0 : decide (x3_1 < (l0.length : Int)) = false := decide_eq_false c2
        clear c2
        obtain rfl := Option.some.inj H
        go_wp2
        go_ret
        exact ⟨by first | rfl | (simp; done) | (simp [*]; done), by repeat (first | exact Drawn0.refl _ | apply Drawn0.step)⟩
end Go.Proofs.Ytmfphlfakmnbmaa.B
end

section
namespace Go.Proofs.Ytmfphlfakmnbmaa.B
open Go.RowKit Go.Proofs.YtmfphlfakmnbmaaW.PrintWords Go.Proofs.YtmfphlfakmnbmaaW.PrintLast Go.Proofs.YtmfphlfakmnbmaaW.PrintMore
attribute [local go_sem] max2_int min2_int max_two min_two max_three min_three max_four min_four
def calxref08_shaped.l0 : Nat → List (S129) → List (S129) → Int → Option (Bool)
  | 0, _, _, _ => none
  | k + 1, x0, x1, x5 => if x5 < (x0.length : Int) then (if 0 ≤ x5 then (if x5 < (x1.length : Int) then (if ((rd_T129 x0 x5).f0) = ((rd_T129 x1 x5).f0) then (if ((rd_T129 x0 x5).f1) = ((rd_T129 x1 x5).f1) then (calxref08_shaped.l0 k x0 x1 (wrap64 (x5 + 1))) else (some false)) else (some false)) else (none)) else (none)) else (some true)
def calxref08_shaped.f (k : Nat) (l0 : List (S129)) (l1 : List (S129)) : Option (Bool) := if (l0.length : Int) = (l1.length : Int) then (calxref08_shaped.l0 k l0 l1 0) else (some false)
set_option maxHeartbeats 8000000 in
set_option maxRecDepth 100000 in
theorem calxref08_shaped.calls (k : Nat) (A0 : Option Addr) (c0 : Nat) (l0 : List (S129)) (A1 : Option Addr) (c1 : Nat) (l1 : List (S129)) (r : Bool) (w : World) (hr0 : Kd.C k129 w A0 l0.length l0) (hc0 : l0.length ≤ c0) (hr1 : Kd.C k129 w A1 l1.length l1) (hc1 : l1.length ≤ c1) (h : calxref08_shaped.f k l0 l1 = some r) :
    Calls Try.prog 139 #[.slice A0 l0.length c0, .slice A1 l1.length c1] w fun e w' => e = .returned (.bool r) ∧ Drawn0 w w' := by
  have HR0 := Aside0.mk hr0
  have HC0 := Aside0.mk hc0
  clear hr0 hc0
  have HR1 := Aside0.mk hr1
  have HC1 := Aside0.mk hc1
  clear hr1 hc1
  have H : (if (l0.length : Int) = (l1.length : Int) then (calxref08_shaped.l0 k l0 l1 0) else (some false)) = some r := h
  clear h
  by_cases c3 : (l0.length : Int) = (l1.length : Int)
  · rw [if_pos c3] at H
    have c3b0 : ((l0.length : Int) == (l1.length : Int)) = true := beq_iff_eq.mpr c3
    have c3b1 : ((l0.length : Int) != (l1.length : Int)) = false := bne_eq_false_iff_eq.mpr c3
    have c3b2 : (l0.length == l1.length) = true := by first | simpa using c3 | (simp at c3 ⊢; omega)
    clear c3
    have H' := Aside0.mk H
    clear H
    go_enter Try.func139, Try.ntmps139
    go_wp2
    repeat (go_quiet (fail); try go_wp2)
    go_loopg [5] k (fun kq v5 w' => ∃ (x5_1 : Int), v5 = .int .i64 x5_1 ∧ Aside0 (calxref08_shaped.l0 kq l0 l1 x5_1 = some r) ∧ Aside0 (kq ≤ k) ∧ Drawn0 w w')
    case atStart => exact ⟨(0), (by first | rfl | (simp; done) | (simp [*]; done)), H', ⟨Nat.le_refl _⟩, by repeat (first | exact Drawn0.refl _ | apply Drawn0.step)⟩
    case round =>
      clear H'
      try clear c1
      try clear p2
      try clear c3
      try clear c3b0
      try clear c3b1
      try clear c3b2
      obtain ⟨x5_1, rfl, HA, HK1, ⟨m1, rfl⟩⟩ := hrel
      cases gk with
      | zero => exact absurd HA.out (by simp [calxref08_shaped.l0])
      | succ k1 =>
        have H := HA.out
        clear HA
        simp only [calxref08_shaped.l0] at H
        by_cases c4 : x5_1 < (l0.length : Int)
        · rw [if_pos c4] at H
          have c4b0 : decide (x5_1 < (l0.length : Int)) = true := decide_eq_true c4
          clear c4
          by_cases c5 : 0 ≤ x5_1
          · rw [if_pos c5] at H
            have c5b0 : decide (0 ≤ x5_1) = true := decide_eq_true c5
            clear c5
            by_cases c6 : x5_1 < (l1.length : Int)
            · rw [if_pos c6] at H
              have c6b0 : decide (x5_1 < (l1.length : Int)) = true := decide_eq_true c6
              clear c6
              by_cases c7 : ((rd_T129 l0 x5_1).f0) = ((rd_T129 l1 x5_1).f0)
              · rw [if_pos c7] at H
                have c7b0 : (((rd_T129 l0 x5_1).f0) == ((rd_T129 l1 x5_1).f0)) = true := beq_iff_eq.mpr c7
                have c7b1 : (((rd_T129 l0 x5_1).f0) != ((rd_T129 l1 x5_1).f0)) = false := bne_eq_false_iff_eq.mpr c7
                clear c7
                by_cases c8 : ((rd_T129 l0 x5_1).f1) = ((rd_T129 l1 x5_1).f1)
                · rw [if_pos c8] at H
                  have c8b0 : (((rd_T129 l0 x5_1).f1) == ((rd_T129 l1 x5_1).f1)) = true := beq_iff_eq.mpr c8
                  have c8b1 : (((rd_T129 l0 x5_1).f1) != ((rd_T129 l1 x5_1).f1)) = false := bne_eq_false_iff_eq.mpr c8
                  clear c8
                  have H' := Aside0.mk H
                  clear H
                  have p101 : 0 ≤ (x5_1 : Int) := of_decide_eq_true (by first | (with_reducible assumption) | assumption)
                  have q101 : x5_1 < (l0.length : Int) := of_decide_eq_true (by first | (with_reducible assumption) | assumption)
                  obtain ⟨ad101, e101, hx101_0, hx101_1, hx101_2⟩ := at_T129 HR0.out x5_1 p101 q101
                  cases e101
                  replace p101 := eq_true p101
                  replace q101 := eq_true q101
                  have p102 : 0 ≤ (x5_1 : Int) := of_decide_eq_true (by first | (with_reducible assumption) | assumption)
                  have q102 : x5_1 < (l1.length : Int) := of_decide_eq_true (by first | (with_reducible assumption) | assumption)
                  obtain ⟨ad102, e102, hx102_0, hx102_1, hx102_2⟩ := at_T129 HR1.out x5_1 p102 q102
                  cases e102
                  replace p102 := eq_true p102
                  replace q102 := eq_true q102
                  have p103 : 0 ≤ (x5_1 : Int) := of_decide_eq_true (by first | (with_reducible assumption) | assumption)
                  have q103 : x5_1 < (l0.length : Int) := of_decide_eq_true (by first | (with_reducible assumption) | assumption)
                  obtain ⟨ad103, e103, hx103_0, hx103_1, hx103_2⟩ := at_T129 HR0.out x5_1 p103 q103
                  obtain rfl : ad101 = ad103 := (by injection e103)
                  replace p103 := eq_true p103
                  replace q103 := eq_true q103
                  have p104 : 0 ≤ (x5_1 : Int) := of_decide_eq_true (by first | (with_reducible assumption) | assumption)
                  have q104 : x5_1 < (l1.length : Int) := of_decide_eq_true (by first | (with_reducible assumption) | assumption)
                  obtain ⟨ad104, e104, hx104_0, hx104_1, hx104_2⟩ := at_T129 HR1.out x5_1 p104 q104
                  obtain rfl : ad102 = ad104 := (by injection e104)
                  replace p104 := eq_true p104
                  replace q104 := eq_true q104
                  go_wp2
                  repeat (go_quiet (fail); try go_wp2)
                  go_roundg k1
                  case measure => have := HK1.out; omega
                  case rel => exact ⟨(wrap64 (x5_1 + 1)), (by first | rfl | (simp; done) | (simp [*]; done)), H', ⟨by have := HK1.out; omega⟩, by repeat (first | exact Drawn0.refl _ | apply Drawn0.step)⟩
                · rw [if_neg c8] at H
                  have c8b0 : (((rd_T129 l0 x5_1).f1) == ((rd_T129 l1 x5_1).f1)) = false := beq_eq_false_iff_ne.mpr c8
                  have c8b1 : (((rd_T129 l0 x5_1).f1) != ((rd_T129 l1 x5_1).f1)) = true := bne_iff_ne.mpr c8
                  obtain rfl := Option.some.inj H
                  have p101 : 0 ≤ (x5_1 : Int) := of_decide_eq_true (by first | (with_reducible assumption) | assumption)
                  have q101 : x5_1 < (l0.length : Int) := of_decide_eq_true (by first | (with_reducible assumption) | assumption)
                  obtain ⟨ad101, e101, hx101_0, hx101_1, hx101_2⟩ := at_T129 HR0.out x5_1 p101 q101
                  cases e101
                  replace p101 := eq_true p101
                  replace q101 := eq_true q101
                  have p102 : 0 ≤ (x5_1 : Int) := of_decide_eq_true (by first | (with_reducible assumption) | assumption)
                  have q102 : x5_1 < (l1.length : Int) := of_decide_eq_true (by first | (with_reducible assumption) | assumption)
                  obtain ⟨ad102, e102, hx102_0, hx102_1, hx102_2⟩ := at_T129 HR1.out x5_1 p102 q102
                  cases e102
                  replace p102 := eq_true p102
                  replace q102 := eq_true q102
                  have p103 : 0 ≤ (x5_1 : Int) := of_decide_eq_true (by first | (with_reducible assumption) | assumption)
                  have q103 : x5_1 < (l0.length : Int) := of_decide_eq_true (by first | (with_reducible assumption) | assumption)
                  obtain ⟨ad103, e103, hx103_0, hx103_1, hx103_2⟩ := at_T129 HR0.out x5_1 p103 q103
                  obtain rfl : ad101 = ad103 := (by injection e103)
                  replace p103 := eq_true p103
                  replace q103 := eq_true q103
                  have p104 : 0 ≤ (x5_1 : Int) := of_decide_eq_true (by first | (with_reducible assumption) | assumption)
                  have q104 : x5_1 < (l1.length : Int) := of_decide_eq_true (by first | (with_reducible assumption) | assumption)
                  obtain ⟨ad104, e104, hx104_0, hx104_1, hx104_2⟩ := at_T129 HR1.out x5_1 p104 q104
                  obtain rfl : ad102 = ad104 := (by injection e104)
                  replace p104 := eq_true p104
                  replace q104 := eq_true q104
                  go_wp2
                  repeat (go_quiet (fail); try go_wp2)
                  go_ret
                  exact ⟨by first | rfl | (simp; done) | (simp [*]; done), by repeat (first | exact Drawn0.refl _ | apply Drawn0.step)⟩
              · rw [if_neg c7] at H
                have c7b0 : (((rd_T129 l0 x5_1).f0) == ((rd_T129 l1 x5_1).f0)) = false := beq_eq_false_iff_ne.mpr c7
                have c7b1 : (((rd_T129 l0 x5_1).f0) != ((rd_T129 l1 x5_1).f0)) = true := bne_iff_ne.mpr c7
                obtain rfl := Option.some.inj H
                have p101 : 0 ≤ (x5_1 : Int) := of_decide_eq_true (by first | (with_reducible assumption) | assumption)
                have q101 : x5_1 < (l0.length : Int) := of_decide_eq_true (by first | (with_reducible assumption) | assumption)
                obtain ⟨ad101, e101, hx101_0, hx101_1, hx101_2⟩ := at_T129 HR0.out x5_1 p101 q101
                cases e101
                replace p101 := eq_true p101
                replace q101 := eq_true q101
                have p102 : 0 ≤ (x5_1 : Int) := of_decide_eq_true (by first | (with_reducible assumption) | assumption)
                have q102 : x5_1 < (l1.length : Int) := of_decide_eq_true (by first | (with_reducible assumption) | assumption)
                obtain ⟨ad102, e102, hx102_0, hx102_1, hx102_2⟩ := at_T129 HR1.out x5_1 p102 q102
                cases e102
                replace p102 := eq_true p102
                replace q102 := eq_true q102
                go_wp2
                repeat (go_quiet (fail); try go_wp2)
                go_ret
                exact ⟨by first | rfl | (simp; done) | (simp [*]; done), by repeat (first | exact Drawn0.refl _ | apply Drawn0.step)⟩
            · rw [if_neg c6] at H
              exact absurd H (by simp)
          · rw [if_neg c5] at H
            exact absurd H (by simp)
        · rw [if_neg c4] at H
          have c4b0 : decide (x5_1 < (l0.length : Int)) = false := decide_eq_false c4
          clear c4
          obtain rfl := Option.some.inj H
          go_wp2
          repeat (go_quiet (fail); try go_wp2)
          go_ret
          exact ⟨by first | rfl | (simp; done) | (simp [*]; done), by repeat (first | exact Drawn0.refl _ | apply Drawn0.step)⟩
  · rw [if_neg c3] at H
    have c3b0 : ((l0.length : Int) == (l1.length : Int)) = false := beq_eq_false_iff_ne.mpr c3
    have c3b1 : ((l0.length : Int) != (l1.length : Int)) = true := bne_iff_ne.mpr c3
    have c3b2 : (l0.length == l1.length) = false := by first | simpa using c3 | (simp at c3 ⊢; omega)
    obtain rfl := Option.some.inj H
    go_enter Try.func139, Try.ntmps139
    go_wp2
    repeat (go_quiet (fail); try go_wp2)
    go_ret
    exact ⟨by first | rfl | (simp; done) | (simp [*]; done), by repeat (first | exact Drawn0.refl _ | apply Drawn0.step)⟩
end Go.Proofs.Ytmfphlfakmnbmaa.B
end

section
namespace Go.Proofs.Ytmfphlfakmnbmaa.B
open Go.RowKit Go.Proofs.YtmfphlfakmnbmaaW.PrintWords Go.Proofs.YtmfphlfakmnbmaaW.PrintLast Go.Proofs.YtmfphlfakmnbmaaW.PrintMore
attribute [local go_sem] max2_int min2_int max_two min_two max_three min_three max_four min_four
mutual
def calxref08_together.l0 : Nat → List (S129) → Int → Int → Int → Option (Int)
  | 0, _, _, _, _ => none
  | k + 1, x0, x1, x2, x7 => if x7 < (x0.length : Int) then (if 0 ≤ x7 then (if ((rd_T129 x0 x7).f0) = x1 then (if ((rd_T129 x0 x7).f1) = x2 then (some ((rd_T129 x0 x7).f2)) else (calxref08_together.l0 k x0 x1 x2 (wrap64 (x7 + 1)))) else (calxref08_together.l0 k x0 x1 x2 (wrap64 (x7 + 1)))) else (none)) else (if x2 < 2 then ((calxref08_digest.f k (([2] : List Int))).bind fun t107 => (some t107)) else ((calxref08_half.f k x2).bind fun t108 => ((calxref08_together.f k x0 x1 t108).bind fun t109 => ((calxref08_together.f k x0 (wrap64 (x1 + t108)) (wrap64 (x2 - t108))).bind fun t110 => ((calxref08_node.f k x2 t109 t110).bind fun t111 => (some t111))))))
def calxref08_together.f : Nat → List (S129) → Int → Int → Option (Int)
  | 0, _, _, _ => none
  | k + 1, l0, a1, a2 => calxref08_together.l0 k l0 a1 a2 0
end
set_option maxHeartbeats 8000000 in
set_option maxRecDepth 100000 in
theorem calxref08_together.calls (k : Nat) : ∀ (A0 : Option Addr) (c0 : Nat) (l0 : List (S129)) (a1 : Int) (a2 : Int) (r : Int) (w : World) (hr0 : Kd.C k129 w A0 l0.length l0) (hc0 : l0.length ≤ c0) (h : calxref08_together.f k l0 a1 a2 = some r),
    Calls Try.prog 140 #[.slice A0 l0.length c0, .int .i64 a1, .int .i64 a2] w fun e w' => e = .returned (.int .i64 r) ∧ Below w.heap.size w w' := by
  induction k using Nat.strongRecOn with
  | _ k ih =>
  intro A0 c0 l0 a1 a2 r w hr0 hc0 h
  cases k with
  | zero => exact absurd h (by simp [calxref08_together.f])
  | succ k =>
  simp only [calxref08_together.f] at h
  have HR0 := Aside0.mk hr0
  have HC0 := Aside0.mk hc0
  clear hr0 hc0
  have HB := Aside0.mk (Below.refl w.heap.size w)
  have H : (calxref08_together.l0 k l0 a1 a2 0) = some r := h
  clear h
  have H' := Aside0.mk H
  clear H
  go_enter Try.func140, Try.ntmps140
  go_wp2
  go_loopg [7] k (fun kq v7 w' => ∃ (x7_1 : Int), v7 = .int .i64 x7_1 ∧ Aside0 (calxref08_together.l0 kq l0 a1 a2 x7_1 = some r) ∧ Aside0 (kq ≤ k) ∧ Aside0 (Below w.heap.size w w'))
  case atStart => exact ⟨(0), (by first | rfl | (simp; done) | (simp [*]; done)), H', ⟨Nat.le_refl _⟩, ⟨by repeat (first | (with_reducible first | exact HB.out | apply below_alloc | apply pw_below_drewN | apply below_drew1) | exact HB.out)⟩⟩
  case round =>
    clear H'
    try clear c1
    try clear p2
    obtain ⟨x7_1, rfl, HA, HK1, HB⟩ := hrel
    cases gk with
    | zero => exact absurd HA.out (by simp [calxref08_together.l0])
    | succ k1 =>
      have H := HA.out
      clear HA
      simp only [calxref08_together.l0] at H
      by_cases c4 : x7_1 < (l0.length : Int)
      · rw [if_pos c4] at H
        have c4b0 : decide (x7_1 < (l0.length : Int)) = true := decide_eq_true c4
        clear c4
        by_cases c5 : 0 ≤ x7_1
        · rw [if_pos c5] at H
          have c5b0 : decide (0 ≤ x7_1) = true := decide_eq_true c5
          clear c5
          by_cases c6 : ((rd_T129 l0 x7_1).f0) = a1
          · rw [if_pos c6] at H
            have c6b0 : (((rd_T129 l0 x7_1).f0) == a1) = true := beq_iff_eq.mpr c6
            have c6b1 : (((rd_T129 l0 x7_1).f0) != a1) = false := bne_eq_false_iff_eq.mpr c6
            clear c6
            by_cases c7 : ((rd_T129 l0 x7_1).f1) = a2
            · rw [if_pos c7] at H
              have c7b0 : (((rd_T129 l0 x7_1).f1) == a2) = true := beq_iff_eq.mpr c7
              have c7b1 : (((rd_T129 l0 x7_1).f1) != a2) = false := bne_eq_false_iff_eq.mpr c7
              clear c7
              obtain rfl := Option.some.inj H
              have p101 : 0 ≤ (x7_1 : Int) := of_decide_eq_true (by first | (with_reducible assumption) | assumption)
              have q101 : x7_1 < (l0.length : Int) := of_decide_eq_true (by first | (with_reducible assumption) | assumption)
              obtain ⟨ad101, e101, hx101_0, hx101_1, hx101_2⟩ := at_T129 HR0.out x7_1 p101 q101
              cases e101
              replace hx101_0 := (HB.out.cell (World.block_lt_of_cell? w _ hx101_0)).trans hx101_0
              replace hx101_1 := (HB.out.cell (World.block_lt_of_cell? w _ hx101_1)).trans hx101_1
              replace hx101_2 := (HB.out.cell (World.block_lt_of_cell? w _ hx101_2)).trans hx101_2
              replace p101 := eq_true p101
              replace q101 := eq_true q101
              have p102 : 0 ≤ (x7_1 : Int) := of_decide_eq_true (by first | (with_reducible assumption) | assumption)
              have q102 : x7_1 < (l0.length : Int) := of_decide_eq_true (by first | (with_reducible assumption) | assumption)
              obtain ⟨ad102, e102, hx102_0, hx102_1, hx102_2⟩ := at_T129 HR0.out x7_1 p102 q102
              obtain rfl : ad101 = ad102 := (by injection e102)
              replace hx102_0 := (HB.out.cell (World.block_lt_of_cell? w _ hx102_0)).trans hx102_0
              replace hx102_1 := (HB.out.cell (World.block_lt_of_cell? w _ hx102_1)).trans hx102_1
              replace hx102_2 := (HB.out.cell (World.block_lt_of_cell? w _ hx102_2)).trans hx102_2
              replace p102 := eq_true p102
              replace q102 := eq_true q102
              have p103 : 0 ≤ (x7_1 : Int) := of_decide_eq_true (by first | (with_reducible assumption) | assumption)
              have q103 : x7_1 < (l0.length : Int) := of_decide_eq_true (by first | (with_reducible assumption) | assumption)
              obtain ⟨ad103, e103, hx103_0, hx103_1, hx103_2⟩ := at_T129 HR0.out x7_1 p103 q103
              obtain rfl : ad101 = ad103 := (by injection e103)
              replace hx103_0 := (HB.out.cell (World.block_lt_of_cell? w _ hx103_0)).trans hx103_0
              replace hx103_1 := (HB.out.cell (World.block_lt_of_cell? w _ hx103_1)).trans hx103_1
              replace hx103_2 := (HB.out.cell (World.block_lt_of_cell? w _ hx103_2)).trans hx103_2
              replace p103 := eq_true p103
              replace q103 := eq_true q103
              go_wp2
              go_ret
              exact ⟨by first | rfl | (simp [errW_none, errW_some] <;> rfl) | (simp [*, errW_none, errW_some] <;> rfl), by repeat (first | (with_reducible first | exact HB.out | apply below_alloc | apply pw_below_drewN | apply below_drew1) | exact HB.out)⟩
            · rw [if_neg c7] at H
              have c7b0 : (((rd_T129 l0 x7_1).f1) == a2) = false := beq_eq_false_iff_ne.mpr c7
              have c7b1 : (((rd_T129 l0 x7_1).f1) != a2) = true := bne_iff_ne.mpr c7
              have H' := Aside0.mk H
              clear H
              have p101 : 0 ≤ (x7_1 : Int) := of_decide_eq_true (by first | (with_reducible assumption) | assumption)
              have q101 : x7_1 < (l0.length : Int) := of_decide_eq_true (by first | (with_reducible assumption) | assumption)
              obtain ⟨ad101, e101, hx101_0, hx101_1, hx101_2⟩ := at_T129 HR0.out x7_1 p101 q101
              cases e101
              replace hx101_0 := (HB.out.cell (World.block_lt_of_cell? w _ hx101_0)).trans hx101_0
              replace hx101_1 := (HB.out.cell (World.block_lt_of_cell? w _ hx101_1)).trans hx101_1
              replace hx101_2 := (HB.out.cell (World.block_lt_of_cell? w _ hx101_2)).trans hx101_2
              replace p101 := eq_true p101
              replace q101 := eq_true q101
              have p102 : 0 ≤ (x7_1 : Int) := of_decide_eq_true (by first | (with_reducible assumption) | assumption)
              have q102 : x7_1 < (l0.length : Int) := of_decide_eq_true (by first | (with_reducible assumption) | assumption)
              obtain ⟨ad102, e102, hx102_0, hx102_1, hx102_2⟩ := at_T129 HR0.out x7_1 p102 q102
              obtain rfl : ad101 = ad102 := (by injection e102)
              replace hx102_0 := (HB.out.cell (World.block_lt_of_cell? w _ hx102_0)).trans hx102_0
              replace hx102_1 := (HB.out.cell (World.block_lt_of_cell? w _ hx102_1)).trans hx102_1
              replace hx102_2 := (HB.out.cell (World.block_lt_of_cell? w _ hx102_2)).trans hx102_2
              replace p102 := eq_true p102
              replace q102 := eq_true q102
              go_wp2
              go_roundg k1
              case measure => have := HK1.out; omega
              case rel => exact ⟨(wrap64 (x7_1 + 1)), (by first | rfl | (simp; done) | (simp [*]; done)), H', ⟨by have := HK1.out; omega⟩, ⟨by repeat (first | (with_reducible first | exact HB.out | apply below_alloc | apply pw_below_drewN | apply below_drew1) | exact HB.out)⟩⟩
          · rw [if_neg c6] at H
            have c6b0 : (((rd_T129 l0 x7_1).f0) == a1) = false := beq_eq_false_iff_ne.mpr c6
            have c6b1 : (((rd_T129 l0 x7_1).f0) != a1) = true := bne_iff_ne.mpr c6
            have H' := Aside0.mk H
            clear H
            have p101 : 0 ≤ (x7_1 : Int) := of_decide_eq_true (by first | (with_reducible assumption) | assumption)
            have q101 : x7_1 < (l0.length : Int) := of_decide_eq_true (by first | (with_reducible assumption) | assumption)
            obtain ⟨ad101, e101, hx101_0, hx101_1, hx101_2⟩ := at_T129 HR0.out x7_1 p101 q101
            cases e101
            replace hx101_0 := (HB.out.cell (World.block_lt_of_cell? w _ hx101_0)).trans hx101_0
            replace hx101_1 := (HB.out.cell (World.block_lt_of_cell? w _ hx101_1)).trans hx101_1
            replace hx101_2 := (HB.out.cell (World.block_lt_of_cell? w _ hx101_2)).trans hx101_2
            replace p101 := eq_true p101
            replace q101 := eq_true q101
            go_wp2
            go_roundg k1
            case measure => have := HK1.out; omega
            case rel => exact ⟨(wrap64 (x7_1 + 1)), (by first | rfl | (simp; done) | (simp [*]; done)), H', ⟨by have := HK1.out; omega⟩, ⟨by repeat (first | (with_reducible first | exact HB.out | apply below_alloc | apply pw_below_drewN | apply below_drew1) | exact HB.out)⟩⟩
        · rw [if_neg c5] at H
          exact absurd H (by simp)
      · rw [if_neg c4] at H
        have c4b0 : decide (x7_1 < (l0.length : Int)) = false := decide_eq_false c4
        clear c4
        by_cases c8 : a2 < 2
        · rw [if_pos c8] at H
          have c8b0 : decide (a2 < 2) = true := decide_eq_true c8
          clear c8
          obtain ⟨y104, hy104⟩ : ∃ y_ : List Int, y_ = (([2] : List Int)) := ⟨_, rfl⟩
          replace H : ((calxref08_digest.f k1 y104).bind fun t107 => (some t107)) = some r := by first | (rw [hy104]; with_reducible exact H) | (have H2_ := (Option.bind_some _ _).symm.trans H; rw [hy104]; with_reducible exact H2_) | (have H2_ := (Option.bind_some _ _).symm.trans H; with_reducible exact H2_) | with_reducible exact H | (rw [hy104]; exact H) | exact H
          have Ny104 := Aside0.mk hy104
          clear hy104
          replace H := Option.bind_eq_some_iff.mp H
          obtain ⟨t107, A90, H⟩ := H
          replace H : (some t107) = some r := H
          have A9 := Aside0.mk A90
          clear A90
          obtain rfl := Option.some.inj H
          go_wp2_with (first | ((with_reducible refine gate_dst (N := 38) rfl ?_); refine Kd.R_lit (Kd.int .i64) _ 3 ?hg (N := 38) ?hd (xs := ([2] : List Int)) (inner := [.int .i64 2]) (ok := fun _ => True) (okp := fun _ => True) ?hr ?hp (fun _ hk => hk) trivial (Below.refl _ _) (Nat.le_refl _) (by simp) ?_; (case hd => rfl); (case hg => rfl); (case hr => first | (go_simp; done) | (go_simp; rfl)); (case hp => exact (Reps.one (show Kd.M (Kd.int .i64) _ _ _ 2 [.int .i64 2] from rfl) (Reps.none _ _))); intro v105 w10 ho11 hb hg_ hnew_; clear hg_ hnew_; (first | rw [← Ny104.out] at ho11 | (simp only [Int.reduceToNat] at ho11; rw [← Ny104.out] at ho11)); have n0_ := Aside0.mk (Kd.R_lower ho11 (below_size (by repeat (first | (with_reducible first | exact HB.out | apply below_alloc | apply pw_below_drewN | apply below_drew1) | exact HB.out)))); have n1_ := Aside0.mk (below_step (by repeat (first | (with_reducible first | exact HB.out | apply below_alloc | apply pw_below_drewN | apply below_drew1) | exact HB.out)) hb); clear HB; have HO106 := n0_; have HB := n1_; clear n0_ n1_; clear hb ho11; obtain ⟨Ao12, co12, eo12⟩ := Kd.R_slice HO106.out; subst eo12) | ((with_reducible refine gate_callee (f := 98) rfl ?_); refine goesL_ (some 39) rfl rfl Try.func98 (by kernel_rfl) rfl #[.slice Ao12 y104.length co12] rfl (by (try simp only [List.map_toArray, List.map_cons, List.map_nil]); first | done | rfl | (simp only [List.length_drop, List.length_take]; rfl)) ?_; (with_reducible refine (calxref08_digest.calls k1 _ _ y104 t107 _ ?side1 ?side2 A9.out).mono ?_); (case side1 => repeat (first | exact (Kd.R_reads' HO106.out).2.2 | (with_reducible refine Kd.C_alloc ?_ _) | (with_reducible refine Kd.C_drewN ?_ _) | (with_reducible refine Kd.C_drew ?_))); (case side2 => exact (Kd.R_reads' HO106.out).2.1); rintro e w' ⟨rfl, ⟨nd, rfl⟩⟩; refine ⟨_, rfl, ?_⟩))
          go_ret
          exact ⟨by first | rfl | (simp [errW_none, errW_some] <;> rfl) | (simp [*, errW_none, errW_some] <;> rfl), by repeat (first | (with_reducible first | exact HB.out | apply below_alloc | apply pw_below_drewN | apply below_drew1) | exact HB.out)⟩
        · rw [if_neg c8] at H
          have c8b0 : decide (a2 < 2) = false := decide_eq_false c8
          clear c8
          replace H := Option.bind_eq_some_iff.mp H
          obtain ⟨t108, A130, H⟩ := H
          replace H : ((calxref08_together.f k1 l0 a1 t108).bind fun t109 => ((calxref08_together.f k1 l0 (wrap64 (a1 + t108)) (wrap64 (a2 - t108))).bind fun t110 => ((calxref08_node.f k1 a2 t109 t110).bind fun t111 => (some t111)))) = some r := H
          have A13 := Aside0.mk A130
          clear A130
          replace H := Option.bind_eq_some_iff.mp H
          obtain ⟨t109, A140, H⟩ := H
          replace H : ((calxref08_together.f k1 l0 (wrap64 (a1 + t108)) (wrap64 (a2 - t108))).bind fun t110 => ((calxref08_node.f k1 a2 t109 t110).bind fun t111 => (some t111))) = some r := H
          have A14 := Aside0.mk A140
          clear A140
          replace H := Option.bind_eq_some_iff.mp H
          obtain ⟨t110, A150, H⟩ := H
          replace H : ((calxref08_node.f k1 a2 t109 t110).bind fun t111 => (some t111)) = some r := H
          have A15 := Aside0.mk A150
          clear A150
          replace H := Option.bind_eq_some_iff.mp H
          obtain ⟨t111, A160, H⟩ := H
          replace H : (some t111) = some r := H
          have A16 := Aside0.mk A160
          clear A160
          obtain rfl := Option.some.inj H
          go_wp2_with (first | ((with_reducible refine gate_callee (f := 136) rfl ?_); refine goesL_ (some 41) rfl rfl Try.func136 (by kernel_rfl) rfl #[.int .i64 a2] rfl (by (try simp only [List.map_toArray, List.map_cons, List.map_nil]); first | done | rfl | (simp only [List.length_drop, List.length_take]; rfl)) ?_; (with_reducible refine (calxref08_half.calls k1 a2 t108 _ A13.out).mono ?_); rintro e w' ⟨rfl, ⟨nd, rfl⟩⟩; refine ⟨_, rfl, ?_⟩) | ((with_reducible refine gate_callee (f := 140) rfl ?_); refine goesL_ (some 46) rfl rfl Try.func140 (by kernel_rfl) rfl #[.slice A0 l0.length c0, .int .i64 a1, .int .i64 t108] rfl (by (try simp only [List.map_toArray, List.map_cons, List.map_nil]); first | done | rfl | (simp only [List.length_drop, List.length_take]; rfl)) ?_; (with_reducible refine (ih k1 (by have := HK1.out; omega) _ _ l0 a1 t108 t109 _ ?side1 ?side2 A14.out).mono ?_); (case side1 => repeat (first | exact (Kd.C_below HR0.out (by repeat (first | (with_reducible first | exact HB.out | apply below_alloc | apply pw_below_drewN | apply below_drew1) | exact HB.out))) | (with_reducible refine Kd.C_alloc ?_ _) | (with_reducible refine Kd.C_drewN ?_ _) | (with_reducible refine Kd.C_drew ?_))); (case side2 => exact HC0.out); rintro e w17 ⟨rfl, hb⟩; refine ⟨_, rfl, ?_⟩; have n0_ := Aside0.mk (below_step (by repeat (first | (with_reducible first | exact HB.out | apply below_alloc | apply pw_below_drewN | apply below_drew1) | exact HB.out)) hb); clear HB; have HB := n0_; clear n0_; (try clear hb); (try clear hb2); (try clear hk); (try clear hi)) | ((with_reducible refine gate_callee (f := 140) rfl ?_); refine goesL_ (some 54) rfl rfl Try.func140 (by kernel_rfl) rfl #[.slice A0 l0.length c0, .int .i64 (wrap64 (a1 + t108)), .int .i64 (wrap64 (a2 - t108))] rfl (by (try simp only [List.map_toArray, List.map_cons, List.map_nil]); first | done | rfl | (simp only [List.length_drop, List.length_take]; rfl)) ?_; (with_reducible refine (ih k1 (by have := HK1.out; omega) _ _ l0 (wrap64 (a1 + t108)) (wrap64 (a2 - t108)) t110 _ ?side1 ?side2 A15.out).mono ?_); (case side1 => repeat (first | exact (Kd.C_below HR0.out HB.out) | (with_reducible refine Kd.C_alloc ?_ _) | (with_reducible refine Kd.C_drewN ?_ _) | (with_reducible refine Kd.C_drew ?_))); (case side2 => exact HC0.out); rintro e w18 ⟨rfl, hb⟩; refine ⟨_, rfl, ?_⟩; have n0_ := Aside0.mk (below_step (by repeat (first | (with_reducible first | exact HB.out | apply below_alloc | apply pw_below_drewN | apply below_drew1) | exact HB.out)) hb); clear HB; have HB := n0_; clear n0_; (try clear hb); (try clear hb2); (try clear hk); (try clear hi)) | ((with_reducible refine gate_callee (f := 105) rfl ?_); refine goesL_ (some 55) rfl rfl Try.func105 (by kernel_rfl) rfl #[.int .i64 a2, .int .i64 t109, .int .i64 t110] rfl (by (try simp only [List.map_toArray, List.map_cons, List.map_nil]); first | done | rfl | (simp only [List.length_drop, List.length_take]; rfl)) ?_; (with_reducible refine (calxref08_node.calls k1 a2 t109 t110 t111 _ A16.out).mono ?_); rintro e w19 ⟨rfl, hb⟩; refine ⟨_, rfl, ?_⟩; have n0_ := Aside0.mk (below_step (by repeat (first | (with_reducible first | exact HB.out | apply below_alloc | apply pw_below_drewN | apply below_drew1) | exact HB.out)) hb); clear HB; have HB := n0_; clear n0_; (try clear hb); (try clear hb2); (try clear hk); (try clear hi)))
          go_ret
          exact ⟨by first | rfl | (simp [errW_none, errW_some] <;> rfl) | (simp [*, errW_none, errW_some] <;> rfl), by repeat (first | (with_reducible first | exact HB.out | apply below_alloc | apply pw_below_drewN | apply below_drew1) | exact HB.out)⟩
end Go.Proofs.Ytmfphlfakmnbmaa.B
end
