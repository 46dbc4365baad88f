import Derived.Test.YtmfphlfakmnbmaaQ1
import Derived.Test.YtmfphlfakmnbmaaQ2
import Derived.Test.YtmfphlfakmnbmaaQ3
import Derived.Test.YtmfphlfakmnbmaaQ4
import Derived.Test.YtmfphlfakmnbmaaQ5
import Derived.Test.YtmfphlfakmnbmaaQ6
set_option linter.unusedVariables false
set_option linter.unusedSimpArgs false
section
namespace Go.Proofs.Ytmfphlfakmnbmaa.B
open Go.RowKit Go.Proofs.YtmfphlfakmnbmaaW.PrintWords Go.Proofs.YtmfphlfakmnbmaaW.PrintLast Go.Proofs.YtmfphlfakmnbmaaW.PrintMore
attribute [local go_sem] max2_int min2_int max_two min_two max_three min_three max_four min_four
mutual
def calxref08_Whole.j0 : Nat → Int → Int → Bool → List (S179) → Int → Option ((List (S29)) × Int)
 | 0, _, _, _, _, _ => none
 | k + 1, x1, x2, x29, x107000, x107001 => if x29 = true then (some (([] : List (S29)), 1)) else (calxref08_Whole.l0 k x1 x2 ([] : List (S29)) 0 x107000 x107001)
def calxref08_Whole.l0 : Nat → Int → Int → List (S29) → Int → List (S179) → Int → Option ((List (S29)) × Int)
 | 0, _, _, _, _, _, _ => none
 | k + 1, x1, x2, x10, x11, x107000, x107001 => if x11 < x1 then (if 0 ≤ x11 then (if x11 < (x107000.length : Int) then (if ((rd_T179 x107000 x11).f1 = true) then (if x10.length < 4398046511104 then (calxref08_Whole.l0 k x1 x2 (x10 ++ [(⟨(rd_T179 x107000 x11).f0.f0, (rd_T179 x107000 x11).f0.f1, (rd_T179 x107000 x11).f0.f2, (rd_T179 x107000 x11).f0.f3⟩ : S29)]) (wrap64 (x11 + 1)) x107000 x107001) else (none)) else (some (([] : List (S29)), 5))) else (none)) else (none)) else ((calxref08_root.f x10).bind fun t114 => (if t114 = x2 then (some (x10, 0)) else (some (([] : List (S29)), 8))))
end
def calxref08_Whole.f (k : Nat) (l0 : List (S34)) (a1 : Int) (a2 : Int) : Option ((List (S29)) × Int) := (calxref08_slots.f k l0).bind fun bt102 => (if bt102.2 = 0 then ((calxref08_within.f a1 0 64).bind fun t107 => ((calxref08_isDigest.f a2).bind fun t108 => (if t107 = true then (calxref08_Whole.j0 k a1 a2 (!t108) bt102.1 bt102.2) else (calxref08_Whole.j0 k a1 a2 true bt102.1 bt102.2)))) else (some (([] : List (S29)), bt102.2)))
theorem calxref08_Whole.mono_l : ∀ k, (∀ y0 y1 y2 y3 y4, LeO (calxref08_Whole.j0 k y0 y1 y2 y3 y4) (calxref08_Whole.j0 (k + 1) y0 y1 y2 y3 y4)) ∧ (∀ y0 y1 y2 y3 y4 y5, LeO (calxref08_Whole.l0 k y0 y1 y2 y3 y4 y5) (calxref08_Whole.l0 (k + 1) y0 y1 y2 y3 y4 y5))
 | 0 => ⟨fun _ _ _ _ _ r h => by simp [calxref08_Whole.j0] at h, fun _ _ _ _ _ _ r h => by simp [calxref08_Whole.l0] at h⟩
 | k + 1 => by
  obtain ⟨ih0, ih1⟩ := calxref08_Whole.mono_l k
  refine ⟨?_, ?_⟩
  ·intro y0 y1 y2 y3 y4
   unfold calxref08_Whole.j0
   repeat' first
   | (with_reducible exact ih0 _ _ _ _ _)
   | (with_reducible exact ih1 _ _ _ _ _ _)
   | (with_reducible exact calxref08_slots.mono _ _)
   | (with_reducible exact LeO.refl _)
   | (with_reducible exact LeO.none _)
   | (with_reducible refine LeO.ite ?_ ?_)
   | (with_reducible refine LeO.bind ?_ (fun _ => ?_))
   | exact ih0 _ _ _ _ _
   | exact ih1 _ _ _ _ _ _
   | exact calxref08_slots.mono _ _
   | exact LeO.none _
   | refine LeO.ite ?_ ?_
   | refine LeO.bind ?_ (fun _ => ?_)
  ·intro y0 y1 y2 y3 y4 y5
   unfold calxref08_Whole.l0
   repeat' first
   | (with_reducible exact ih0 _ _ _ _ _)
   | (with_reducible exact ih1 _ _ _ _ _ _)
   | (with_reducible exact calxref08_slots.mono _ _)
   | (with_reducible exact LeO.refl _)
   | (with_reducible exact LeO.none _)
   | (with_reducible refine LeO.ite ?_ ?_)
   | (with_reducible refine LeO.bind ?_ (fun _ => ?_))
   | exact ih0 _ _ _ _ _
   | exact ih1 _ _ _ _ _ _
   | exact calxref08_slots.mono _ _
   | exact LeO.none _
   | refine LeO.ite ?_ ?_
   | refine LeO.bind ?_ (fun _ => ?_)
theorem calxref08_Whole.mono : ∀ a0 a1 a2 k, LeO (calxref08_Whole.f k a0 a1 a2) (calxref08_Whole.f (k + 1) a0 a1 a2) := by
 intro a0 a1 a2 k
 obtain ⟨ih0, ih1⟩ := calxref08_Whole.mono_l k
 unfold calxref08_Whole.f
 repeat' first
   | (with_reducible exact ih0 _ _ _ _ _)
   | (with_reducible exact ih1 _ _ _ _ _ _)
   | (with_reducible exact calxref08_slots.mono _ _)
   | (with_reducible exact LeO.refl _)
   | (with_reducible exact LeO.none _)
   | (with_reducible refine LeO.ite ?_ ?_)
   | (with_reducible refine LeO.bind ?_ (fun _ => ?_))
   | exact ih0 _ _ _ _ _
   | exact ih1 _ _ _ _ _ _
   | exact calxref08_slots.mono _ _
   | exact LeO.none _
   | refine LeO.ite ?_ ?_
   | refine LeO.bind ?_ (fun _ => ?_)
set_option maxHeartbeats 8000000 in
set_option maxRecDepth 100000 in
theorem calxref08_Whole.calls (k : Nat) (A0 : Option Addr) (c0 : Nat) (l0 : List (S34)) (a1 : Int) (a2 : Int) (r1 : List (S29)) (r2 : Int) (w : World) (hr0 : Kd.C k34 w A0 l0.length l0) (hc0 : l0.length ≤ c0) (h : calxref08_Whole.f k l0 a1 a2 = some (r1, r2)) :
  Calls Try.prog 62 #[.slice A0 l0.length c0, .int .i64 a1, .int .i64 a2] w fun e w' => ∃ v0_ : Value, e = .returned (.agg #[v0_, .int .i64 r2]) ∧ Kd.R k29 29 w' w.heap.size (fun _ => True) v0_ r1 ∧ Below w.heap.size w w' := by
 have hu50 := Try.underlying50
 have hu176 := Try.underlying176
 have hu29 := Try.underlying29
 have HR0 := Aside0.mk hr0
 have HC0 := Aside0.mk hc0
 clear hr0 hc0
 have HB := Aside0.mk (Below.refl w.heap.size w)
 have H : ((calxref08_slots.f k l0).bind fun bt102 => (if bt102.2 = 0 then ((calxref08_within.f a1 0 64).bind fun t107 => ((calxref08_isDigest.f a2).bind fun t108 => (if t107 = true then (calxref08_Whole.j0 k a1 a2 (!t108) bt102.1 bt102.2) else (calxref08_Whole.j0 k a1 a2 true bt102.1 bt102.2)))) else (some (([] : List (S29)), bt102.2)))) = some (r1, r2) := h
 clear h
 replace H := Option.bind_eq_some_iff.mp H
 obtain ⟨⟨t102, t105⟩, A40, H⟩ := H
 dsimp only at H
 have A4 := Aside0.mk A40
 clear A40
 by_cases c5 : t105 = 0
 ·rw [if_pos c5] at H
  have c5b0 : (t105 == 0) = true := beq_iff_eq.mpr c5
  have c5b1 : (t105 != 0) = false := bne_eq_false_iff_eq.mpr c5
  clear c5
  replace H := Option.bind_eq_some_iff.mp H
  obtain ⟨t107, A60, H⟩ := H
  replace H : ((calxref08_isDigest.f a2).bind fun t108 => (if t107 = true then (calxref08_Whole.j0 k a1 a2 (!t108) t102 t105) else (calxref08_Whole.j0 k a1 a2 true t102 t105))) = some (r1, r2) := H
  have A6 := Aside0.mk A60
  clear A60
  replace H := Option.bind_eq_some_iff.mp H
  obtain ⟨t108, A70, H⟩ := H
  replace H : (if t107 = true then (calxref08_Whole.j0 k a1 a2 (!t108) t102 t105) else (calxref08_Whole.j0 k a1 a2 true t102 t105)) = some (r1, r2) := H
  have A7 := Aside0.mk A70
  clear A70
  have HC8 := Aside0.mk H
  clear H
  go_enter Try.func62, Try.ntmps62
  go_upto_region 6 with (first | ((with_reducible refine gate_dst (N := 6) rfl ?_); refine box_event ?hg (N := 6) ?hd (cs := #[.slice none 0 0, .int .i64 0]) (t := 50) ?hr ?_; (case hd => rfl); (case hg => rfl); (case hr => first | (go_simp; done) | (go_simp; rfl)); intro gb101 hg w9 hbox hb; have n0_ := Aside0.mk (below_step (by repeat (first | (with_reducible first | exact HB.out | apply below_alloc | apply pw_below_drewN | apply below_drew1) | exact HB.out)) hb); have n1_ := Aside0.mk (hbox); have n2_ := Aside0.mk ((by rw [hg]; exact (below_size (by repeat (first | (with_reducible first | exact HB.out | apply below_alloc | apply pw_below_drewN | apply below_drew1) | exact HB.out))) : w.heap.size ≤ gb101)); have n3_ := Aside0.mk ((by rw [hg]; exact (below_size (by repeat (first | (with_reducible first | exact HB.out | apply below_alloc | apply pw_below_drewN | apply below_drew1) | exact HB.out))) : w.heap.size ≤ gb101)); clear HB; have HB := n0_; have BK101 := n1_; have GW101 := n2_; have GE101 := n3_; clear n0_ n1_ n2_ n3_; clear hb hbox hg) | ((with_reducible refine gate_callee (f := 131) rfl ?_); refine goesL_ (some 13) rfl rfl Try.func131 (by kernel_rfl) rfl #[.slice A0 l0.length c0] rfl (by (try simp only [List.map_toArray, List.map_cons, List.map_nil]); first | done | rfl | (simp only [List.length_drop, List.length_take]; rfl)) ?_; (with_reducible refine (calxref08_slots.calls k _ _ l0 t102 t105 _ ?side1 ?side2 A4.out).mono ?_); (case side1 => repeat (first | exact (Kd.C_below HR0.out HB.out) | (with_reducible refine Kd.C_alloc ?_ _) | (with_reducible refine Kd.C_drewN ?_ _) | (with_reducible refine Kd.C_drew ?_))); (case side2 => exact HC0.out); rintro e w10 ⟨v103, rfl, ho0, hb⟩; refine ⟨_, rfl, ?_⟩; have n0_ := Aside0.mk (Kd.R_lower ho0 (below_size (by repeat (first | (with_reducible first | exact HB.out | apply below_alloc | apply pw_below_drewN | apply below_drew1 | refine below_set ?_ GE101.out) | exact HB.out)))); have n1_ := Aside0.mk (blk_below (g := gb101) (o := .cells #[.slice none 0 0, .int .i64 0] 50 (0, 0)) (by (with_reducible repeat (first | refine blk_drewN ?_ _ | refine blk_drew ?_ | refine blk_alloc ?_ _)); exact BK101.out) hb); have n2_ := Aside0.mk (below_step (by repeat (first | (with_reducible first | exact HB.out | apply below_alloc | apply pw_below_drewN | apply below_drew1 | refine below_set ?_ GE101.out) | exact HB.out)) hb); clear BK101; clear HB; have HO104 := n0_; have BK101 := n1_; have HB := n2_; clear n0_ n1_ n2_; (try clear hb); (try clear hb2); (try clear hk); (try clear hi); (try clear ho0)) | ((with_reducible refine gate_dst (N := 7) rfl ?_); refine box_event ?hg (N := 7) ?hd (cs := #[.slice none 0 0, .int .i64 0]) (t := 176) ?hr ?_; (case hd => rfl); (case hg => rfl); (case hr => first | (go_simp; done) | (go_simp; rfl)); intro gb106 hg w11 hbox hb; have n0_ := Aside0.mk (Kd.R_below (by (with_reducible repeat (first | apply Kd.R_alloc | apply Kd.R_drewN | apply Kd.R_drew)); exact HO104.out) hb); have n1_ := Aside0.mk (blk_below (g := gb101) (o := .cells #[.slice none 0 0, .int .i64 0] 50 (0, 0)) (by (with_reducible repeat (first | refine blk_drewN ?_ _ | refine blk_drew ?_ | refine blk_alloc ?_ _)); exact BK101.out) hb); have n2_ := Aside0.mk (below_step (by repeat (first | (with_reducible first | exact HB.out | apply below_alloc | apply pw_below_drewN | apply below_drew1 | refine below_set ?_ GE101.out) | exact HB.out)) hb); have n3_ := Aside0.mk (hbox); have n4_ := Aside0.mk ((by rw [hg]; exact (below_size (by repeat (first | (with_reducible first | exact HB.out | apply below_alloc | apply pw_below_drewN | apply below_drew1 | refine below_set ?_ GE101.out) | exact HB.out))) : w.heap.size ≤ gb106)); have n5_ := Aside0.mk ((by rw [hg]; exact (below_size (by repeat (first | (with_reducible first | exact HB.out | apply below_alloc | apply pw_below_drewN | apply below_drew1 | refine below_set ?_ GE101.out) | exact HB.out))) : w.heap.size ≤ gb106)); have n6_ := Aside0.mk ((by rw [hg]; exact Nat.ne_of_lt (blk_lt (g := gb101) (o := .cells #[.slice none 0 0, .int .i64 0] 50 (0, 0)) (by (with_reducible repeat (first | refine blk_drewN ?_ _ | refine blk_drew ?_ | refine blk_alloc ?_ _)); exact BK101.out)) : gb101 ≠ gb106)); have n7_ := Aside0.mk ((by rw [hg]; exact Nat.ne_of_gt (blk_lt (g := gb101) (o := .cells #[.slice none 0 0, .int .i64 0] 50 (0, 0)) (by (with_reducible repeat (first | refine blk_drewN ?_ _ | refine blk_drew ?_ | refine blk_alloc ?_ _)); exact BK101.out)) : gb106 ≠ gb101)); clear HO104; clear BK101; clear HB; have HO104 := n0_; have BK101 := n1_; have HB := n2_; have BK106 := n3_; have GW106 := n4_; have GE106 := n5_; have NB101_106 := n6_; have NB106_101 := n7_; clear n0_ n1_ n2_ n3_ n4_ n5_ n6_ n7_; clear hb hbox hg; obtain ⟨Ao12, co12, eo12⟩ := Kd.R_slice HO104.out; subst eo12; have hnb13 := NB106_101.out; have hnc13 := NB101_106.out; have hcz14_0 : w11.cell? ⟨gb106, 0, none⟩ = some (.slice none 0 0) := (blk_cell BK106.out 0).trans rfl; have hcz14_1 : w11.cell? ⟨gb106, 1, none⟩ = some (.int .i64 0) := (blk_cell BK106.out 1).trans rfl; have hfz14_0 := blk_frozen BK106.out 0; have hfz14_1 := blk_frozen BK106.out 1) | ((with_reducible refine gate_callee (f := 103) rfl ?_); refine goesL_ (some 21) rfl rfl Try.func103 (by kernel_rfl) rfl #[.int .i64 a1, .int .i64 0, .int .i64 64] rfl (by (try simp only [List.map_toArray, List.map_cons, List.map_nil]); first | done | rfl | (simp only [List.length_drop, List.length_take]; rfl)) ?_; (with_reducible refine (calxref08_within.calls a1 0 64 t107 _ A6.out).mono ?_); rintro e w' ⟨rfl, ⟨nd, rfl⟩⟩; refine ⟨_, rfl, ?_⟩) | ((with_reducible refine gate_callee (f := 104) rfl ?_); refine goesL_ (some 23) rfl rfl Try.func104 (by kernel_rfl) rfl #[.int .i64 a2] rfl (by (try simp only [List.map_toArray, List.map_cons, List.map_nil]); first | done | rfl | (simp only [List.length_drop, List.length_take]; rfl)) ?_; (with_reducible refine (calxref08_isDigest.calls a2 t108 _ A7.out).mono ?_); rintro e w' ⟨rfl, ⟨nd, rfl⟩⟩; refine ⟨_, rfl, ?_⟩))
  (try simp only [Act.put, List.setIfInBounds_toArray, List.set_cons_zero, List.set_cons_succ])
  go_cut [29] (fun v29 wc => ∃ (kq : Nat) (x29_7 : Bool), v29 = .bool x29_7 ∧ Aside0 (calxref08_Whole.j0 kq a1 a2 x29_7 t102 t105 = some (r1, r2)) ∧ Aside0 (kq ≤ k) ∧ Aside0 (Kd.R k179 179 wc w.heap.size (fun _ => True) (.slice Ao12 t102.length co12) t102) ∧ Aside0 (wc.heap[gb101]? = some (.cells #[(.slice none 0 0), .int .i64 0] 50 (0, 0))) ∧ Aside0 (wc.heap[gb106]? = some (.cells #[(.slice Ao12 t102.length co12), .int .i64 t105] 176 (0, 0))) ∧ Aside0 (Below w.heap.size w wc))
  case first =>
   have H := HC8.out
   clear HC8
   by_cases c15 : t107 = true
   ·subst c15
    rw [if_pos rfl] at H
    have H' := Aside0.mk H
    clear H
    go_wp2
    go_meet
    case rel => exact ⟨_, (!t108), (by first | rfl | (simp; done) | (simp [*]; done)), H', ⟨by first | omega | exact Nat.le_refl _⟩, ⟨by (with_reducible repeat (first | apply Kd.R_alloc | apply Kd.R_drewN | apply Kd.R_drew)); exact Kd.R_mono (Kd.R_far (p := ⟨gb106, 1, none⟩) (Kd.R_far (p := ⟨gb106, 0, none⟩) (Kd.R_types HO104.out BK106.out (by decide)) (fun _ hk => hk.2) (.slice Ao12 t102.length co12)) (fun _ hk => hk.2) (.int .i64 t105)) (fun _ hk => trivial)⟩, ⟨by (with_reducible repeat (first | refine blk_drewN ?_ _ | refine blk_drew ?_ | refine blk_alloc ?_ _)); refine blk_far ?_ NB101_106.out _; (with_reducible repeat (first | refine blk_drewN ?_ _ | refine blk_drew ?_ | refine blk_alloc ?_ _)); refine blk_far ?_ NB101_106.out _; (with_reducible repeat (first | refine blk_drewN ?_ _ | refine blk_drew ?_ | refine blk_alloc ?_ _)); exact BK101.out⟩, ⟨by (with_reducible repeat (first | refine blk_drewN ?_ _ | refine blk_drew ?_ | refine blk_alloc ?_ _)); refine blk_put (cs := #[.slice Ao12 t102.length co12, .int .i64 0]) ?_ 1 _ rfl; (with_reducible repeat (first | refine blk_drewN ?_ _ | refine blk_drew ?_ | refine blk_alloc ?_ _)); refine blk_put (cs := #[.slice none 0 0, .int .i64 0]) ?_ 0 _ rfl; (with_reducible repeat (first | refine blk_drewN ?_ _ | refine blk_drew ?_ | refine blk_alloc ?_ _)); exact BK106.out⟩, ⟨by repeat (first | (with_reducible first | exact HB.out | apply below_alloc | apply pw_below_drewN | apply below_drew1 | refine below_set ?_ GE101.out | refine below_set ?_ GE106.out) | exact HB.out)⟩⟩
   ·replace c15 := Bool.eq_false_iff.mpr c15
    subst c15
    rw [if_neg (show ¬ (false = true) by decide)] at H
    have H' := Aside0.mk H
    clear H
    go_wp2
    go_meet
    case rel => exact ⟨_, (true), (by first | rfl | (simp; done) | (simp [*]; done)), H', ⟨by first | omega | exact Nat.le_refl _⟩, ⟨by (with_reducible repeat (first | apply Kd.R_alloc | apply Kd.R_drewN | apply Kd.R_drew)); exact Kd.R_mono (Kd.R_far (p := ⟨gb106, 1, none⟩) (Kd.R_far (p := ⟨gb106, 0, none⟩) (Kd.R_types HO104.out BK106.out (by decide)) (fun _ hk => hk.2) (.slice Ao12 t102.length co12)) (fun _ hk => hk.2) (.int .i64 t105)) (fun _ hk => trivial)⟩, ⟨by (with_reducible repeat (first | refine blk_drewN ?_ _ | refine blk_drew ?_ | refine blk_alloc ?_ _)); refine blk_far ?_ NB101_106.out _; (with_reducible repeat (first | refine blk_drewN ?_ _ | refine blk_drew ?_ | refine blk_alloc ?_ _)); refine blk_far ?_ NB101_106.out _; (with_reducible repeat (first | refine blk_drewN ?_ _ | refine blk_drew ?_ | refine blk_alloc ?_ _)); exact BK101.out⟩, ⟨by (with_reducible repeat (first | refine blk_drewN ?_ _ | refine blk_drew ?_ | refine blk_alloc ?_ _)); refine blk_put (cs := #[.slice Ao12 t102.length co12, .int .i64 0]) ?_ 1 _ rfl; (with_reducible repeat (first | refine blk_drewN ?_ _ | refine blk_drew ?_ | refine blk_alloc ?_ _)); refine blk_put (cs := #[.slice none 0 0, .int .i64 0]) ?_ 0 _ rfl; (with_reducible repeat (first | refine blk_drewN ?_ _ | refine blk_drew ?_ | refine blk_alloc ?_ _)); exact BK106.out⟩, ⟨by repeat (first | (with_reducible first | exact HB.out | apply below_alloc | apply pw_below_drewN | apply below_drew1 | refine below_set ?_ GE101.out | refine below_set ?_ GE106.out) | exact HB.out)⟩⟩
  case rest =>
   clear HC8
   obtain ⟨kq, x29_7, rfl, HA, HJ7, HO_107000, BK101, BK106, HB⟩ := hcut
   cases kq with
   | zero => exact absurd HA.out (by simp [calxref08_Whole.j0])
   | succ kj7 =>
    have H := HA.out
    clear HA
    simp only [calxref08_Whole.j0] at H
    by_cases c16 : x29_7 = true
    ·subst c16
     rw [if_pos rfl] at H
     simp only [Option.some.injEq, Prod.mk.injEq] at H
     obtain ⟨rfl, rfl⟩ := H
     have hnb17 := NB101_106.out
     have hnc17 := NB106_101.out
     have hcz18_0 : wc.cell? ⟨gb101, 0, none⟩ = some (.slice none 0 0) := (blk_cell BK101.out 0).trans rfl
     have hcz18_1 : wc.cell? ⟨gb101, 1, none⟩ = some (.int .i64 0) := (blk_cell BK101.out 1).trans rfl
     have hfz18_0 := blk_frozen BK101.out 0
     have hfz18_1 := blk_frozen BK101.out 1
     go_wp2
     refine bodyPost_ret (results_cell_row rfl _ _ gb101 50 #[.slice none 0 0, .int .i64 1] (0, 0) _ rfl (by (with_reducible repeat (first | refine blk_drewN ?_ _ | refine blk_drew ?_ | refine blk_alloc ?_ _)); refine blk_put (cs := #[.slice none 0 0, .int .i64 0]) ?_ 1 _ rfl; (with_reducible repeat (first | refine blk_drewN ?_ _ | refine blk_drew ?_ | refine blk_alloc ?_ _)); refine blk_put (cs := #[.slice none 0 0, .int .i64 0]) ?_ 0 _ rfl; (with_reducible repeat (first | refine blk_drewN ?_ _ | refine blk_drew ?_ | refine blk_alloc ?_ _)); exact BK101.out) Try.underlying50 rfl (by kernel_rfl)) rfl ?_
     exact ⟨_, by first | rfl | (simp [errW_none, errW_some] <;> rfl) | (simp [*, errW_none, errW_some] <;> rfl), by first | exact Kd.R_nil _ _ _ _ _ | exact Kd.N_nil _ _ _ _ _ | exact Kd.V_nil _ _ _ _ _ | exact Kd.Q_nil _ _ _ _ _ | exact Kd.S_nil _ _ _ _ _, by repeat (first | (with_reducible first | exact HB.out | apply below_alloc | apply pw_below_drewN | apply below_drew1 | refine below_set ?_ GE101.out | refine below_set ?_ GE106.out) | exact HB.out)⟩
    ·replace c16 := Bool.eq_false_iff.mpr c16
     subst c16
     rw [if_neg (show ¬ (false = true) by decide)] at H
     have H' := Aside0.mk H
     clear H
     go_wp2
     go_loopg [10, 11] kj7 (fun kq v10 v11 w' => ∃ (x10_2 : List (S29)) (x11_2 : Int) (x102001_2 : Int), v11 = .int .i64 x11_2 ∧ Aside0 (calxref08_Whole.l0 kq a1 a2 x10_2 x11_2 t102 t105 = some (r1, r2)) ∧ Aside0 (kq ≤ kj7) ∧ Aside0 (Kd.R k29 29 w' w.heap.size (fun _ => True) v10 x10_2) ∧ Aside0 (Kd.R k179 179 w' w.heap.size (fun _ => True) (.slice Ao12 t102.length co12) t102) ∧ Aside0 (w'.heap[gb101]? = some (.cells #[(.slice none 0 0), .int .i64 x102001_2] 50 (0, 0))) ∧ Aside0 (w'.heap[gb106]? = some (.cells #[(.slice Ao12 t102.length co12), .int .i64 t105] 176 (0, 0))) ∧ Aside0 (Below w.heap.size w w'))
     case atStart => exact ⟨(([] : List (S29))), (0), (0), (by first | rfl | (simp; done) | (simp [*]; done)), H', ⟨Nat.le_refl _⟩, ⟨by first | exact Kd.R_nil _ _ _ _ _ | exact Kd.N_nil _ _ _ _ _ | exact Kd.V_nil _ _ _ _ _ | exact Kd.Q_nil _ _ _ _ _ | exact Kd.S_nil _ _ _ _ _⟩, ⟨by (with_reducible repeat (first | apply Kd.R_alloc | apply Kd.R_drewN | apply Kd.R_drew)); exact HO_107000.out⟩, ⟨by (with_reducible repeat (first | refine blk_drewN ?_ _ | refine blk_drew ?_ | refine blk_alloc ?_ _)); exact BK101.out⟩, ⟨by (with_reducible repeat (first | refine blk_drewN ?_ _ | refine blk_drew ?_ | refine blk_alloc ?_ _)); exact BK106.out⟩, ⟨by repeat (first | (with_reducible first | exact HB.out | apply below_alloc | apply pw_below_drewN | apply below_drew1 | refine below_set ?_ GE101.out | refine below_set ?_ GE106.out) | exact HB.out)⟩⟩
     case round =>
      clear H'
      obtain ⟨x10_2, x11_2, x102001_2, rfl, HA, HK2, HO_10, HO_107000, BK101, BK106, HB⟩ := hrel
      cases gk with
      | zero => exact absurd HA.out (by simp [calxref08_Whole.l0])
      | succ k2 =>
       have H := HA.out
       clear HA
       simp only [calxref08_Whole.l0] at H
       by_cases c19 : x11_2 < a1
       ·rw [if_pos c19] at H
        have c19b0 : decide (x11_2 < a1) = true := decide_eq_true c19
        clear c19
        by_cases c20 : 0 ≤ x11_2
        ·rw [if_pos c20] at H
         have c20b0 : decide (0 ≤ x11_2) = true := decide_eq_true c20
         clear c20
         by_cases c21 : x11_2 < (t102.length : Int)
         ·rw [if_pos c21] at H
          have c21b0 : decide (x11_2 < (t102.length : Int)) = true := decide_eq_true c21
          clear c21
          obtain ⟨bq22, hbq22⟩ : ∃ b_ : Bool, b_ = ((rd_T179 t102 x11_2).f1) := ⟨_, rfl⟩
          replace H : (if (bq22 = true) then (if x10_2.length < 4398046511104 then (calxref08_Whole.l0 k2 a1 a2 (x10_2 ++ [(⟨(rd_T179 t102 x11_2).f0.f0, (rd_T179 t102 x11_2).f0.f1, (rd_T179 t102 x11_2).f0.f2, (rd_T179 t102 x11_2).f0.f3⟩ : S29)]) (wrap64 (x11_2 + 1)) t102 t105) else (none)) else (some (([] : List (S29)), 5))) = some (r1, r2) := by rw [← hbq22] at H; exact H
          have Nbq22 := Aside0.mk hbq22
          clear hbq22
          by_cases c23 : (bq22 = true)
          ·subst c23
           rw [if_pos rfl] at H
           by_cases c24 : x10_2.length < 4398046511104
           ·rw [if_pos c24] at H
            have LMc24 := Aside0.mk c24
            clear c24
            obtain ⟨y111, hy111⟩ : ∃ y_ : List (S29), y_ = (x10_2 ++ [(⟨(rd_T179 t102 x11_2).f0.f0, (rd_T179 t102 x11_2).f0.f1, (rd_T179 t102 x11_2).f0.f2, (rd_T179 t102 x11_2).f0.f3⟩ : S29)]) := ⟨_, rfl⟩
            replace H : (calxref08_Whole.l0 k2 a1 a2 y111 (wrap64 (x11_2 + 1)) t102 t105) = some (r1, r2) := by first | (rw [hy111]; with_reducible exact H) | (have H2_ := (Option.bind_some _ _).symm.trans H; rw [hy111]; with_reducible exact H2_) | (have H2_ := (Option.bind_some _ _).symm.trans H; with_reducible exact H2_) | with_reducible exact H | (rw [hy111]; exact H) | exact H
            have Ny111 := Aside0.mk hy111
            clear hy111
            have H' := Aside0.mk H
            clear H
            have hnb25 := NB106_101.out
            have hnc25 := NB101_106.out
            have hcz26_0 : wr.cell? ⟨gb106, 0, none⟩ = some (.slice Ao12 t102.length co12) := (blk_cell BK106.out 0).trans rfl
            have hcz26_1 : wr.cell? ⟨gb106, 1, none⟩ = some (.int .i64 t105) := (blk_cell BK106.out 1).trans rfl
            have hfz26_0 := blk_frozen BK106.out 0
            have hfz26_1 := blk_frozen BK106.out 1
            have p109 : 0 ≤ (x11_2 : Int) := of_decide_eq_true (by first | (with_reducible assumption) | assumption)
            have q109 : x11_2 < (t102.length : Int) := of_decide_eq_true (by first | (with_reducible assumption) | assumption)
            obtain ⟨ad109, e109, hx109_0, hx109_1, hx109_2, hx109_3, hx109_4⟩ := at_T179 (Kd.R_reads' HO_107000.out).2.2 x11_2 p109 q109
            (try rw [← Nbq22.out] at hx109_4)
            cases e109
            replace p109 := eq_true p109
            replace q109 := eq_true q109
            have p110 : 0 ≤ (x11_2 : Int) := of_decide_eq_true (by first | (with_reducible assumption) | assumption)
            have q110 : x11_2 < (t102.length : Int) := of_decide_eq_true (by first | (with_reducible assumption) | assumption)
            obtain ⟨ad110, e110, hx110_0, hx110_1, hx110_2, hx110_3, hx110_4⟩ := at_T179 (Kd.R_reads' HO_107000.out).2.2 x11_2 p110 q110
            (try rw [← Nbq22.out] at hx110_4)
            obtain rfl : ad109 = ad110 := (by injection e110)
            replace p110 := eq_true p110
            replace q110 := eq_true q110
            go_wp2_with (first | ((with_reducible refine gate_builtin (b := .append) (xs := #[.tmp 44, .tmp 51]) rfl ?_); at_builtin; refine Kd.R_append k29 (w0 := w) w.heap.size rfl (.tmp 44) (.tmp 51) 32 29 (.agg #[(.int .i64 0), (.int .i64 0), (.int .i64 0), (.int .i64 0)]) 32 rfl Try.underlying32 info29 rfl (by decide) (by omega) u10 x10_2 (⟨(rd_T179 t102 x11_2).f0.f0, (rd_T179 t102 x11_2).f0.f1, (rd_T179 t102 x11_2).f0.f2, (rd_T179 t102 x11_2).f0.f3⟩ : S29) [.int .i64 ((rd_T179 t102 x11_2).f0.f0), .int .i64 ((rd_T179 t102 x11_2).f0.f1), .int .i64 ((rd_T179 t102 x11_2).f0.f2), .int .i64 ((rd_T179 t102 x11_2).f0.f3)] (fun _ => True) (fun _ => False) rfl rfl ?aP (fun _ hk => hk.elim) ?aF ?aO ?aB ?aS ?aL ?_; (case aP => exact k29_mkM _ _ _ (⟨(rd_T179 t102 x11_2).f0.f0, (rd_T179 t102 x11_2).f0.f1, (rd_T179 t102 x11_2).f0.f2, (rd_T179 t102 x11_2).f0.f3⟩ : S29)); (case aB => exact (by repeat (first | (with_reducible first | exact HB.out | apply below_alloc | apply pw_below_drewN | apply below_drew1 | refine below_set ?_ GE101.out | refine below_set ?_ GE106.out) | exact HB.out))); (case aF => exact (fun _ _ => trivial)); (case aO => exact (by (with_reducible repeat (first | apply Kd.R_alloc | apply Kd.R_drewN | apply Kd.R_drew)); exact HO_10.out)); (case aS => exact (below_size (by repeat (first | (with_reducible first | exact HB.out | apply below_alloc | apply pw_below_drewN | apply below_drew1 | refine below_set ?_ GE101.out | refine below_set ?_ GE106.out) | exact HB.out)))); (case aL => have := LMc24.out; omega); intro v112 w27 ho hb hg hat; rw [← Ny111.out] at ho; have n0_ := Aside0.mk (Kd.R_over' (by (with_reducible repeat (first | apply Kd.R_alloc | apply Kd.R_drewN | apply Kd.R_drew)); exact HO_107000.out) (Kd.R_typed (by (with_reducible repeat (first | apply Kd.R_alloc | apply Kd.R_drewN | apply Kd.R_drew)); exact HO_10.out)) (by decide) hg); have n1_ := Aside0.mk (blk_grown (g := gb101) (o := .cells #[.slice none 0 0, .int .i64 x102001_2] 50 (0, 0)) (by (with_reducible repeat (first | refine blk_drewN ?_ _ | refine blk_drew ?_ | refine blk_alloc ?_ _)); exact BK101.out) hg (Kd.R_ne HO_10.out BK101.out (by decide))); have n2_ := Aside0.mk (blk_grown (g := gb106) (o := .cells #[.slice (some ad109) t102.length co12, .int .i64 t105] 176 (0, 0)) (by (with_reducible repeat (first | refine blk_drewN ?_ _ | refine blk_drew ?_ | refine blk_alloc ?_ _)); exact BK106.out) hg (Kd.R_ne HO_10.out BK106.out (by decide))); have n3_ := Aside0.mk (hb); have n4_ := Aside0.mk (ho); clear HO_107000; clear BK101; clear BK106; clear HB; clear HO_10; have HO_107000 := n0_; have BK101 := n1_; have BK106 := n2_; have HB := n3_; have HO113 := n4_; clear n0_ n1_ n2_ n3_ n4_; clear ho hb hg hat))
            go_roundg k2
            case measure => have := HJ7.out; have := HK2.out; omega
            case rel => exact ⟨(y111), (wrap64 (x11_2 + 1)), (x102001_2), (by first | rfl | (simp; done) | (simp [*]; done)), H', ⟨by have := HJ7.out; have := HK2.out; omega⟩, ⟨by (with_reducible repeat (first | apply Kd.R_alloc | apply Kd.R_drewN | apply Kd.R_drew)); exact HO113.out⟩, ⟨by (with_reducible repeat (first | apply Kd.R_alloc | apply Kd.R_drewN | apply Kd.R_drew)); exact HO_107000.out⟩, ⟨by (with_reducible repeat (first | refine blk_drewN ?_ _ | refine blk_drew ?_ | refine blk_alloc ?_ _)); exact BK101.out⟩, ⟨by (with_reducible repeat (first | refine blk_drewN ?_ _ | refine blk_drew ?_ | refine blk_alloc ?_ _)); exact BK106.out⟩, ⟨by repeat (first | (with_reducible first | exact HB.out | apply below_alloc | apply pw_below_drewN | apply below_drew1 | refine below_set ?_ GE101.out | refine below_set ?_ GE106.out) | exact HB.out)⟩⟩
           ·rw [if_neg c24] at H
            exact absurd H (by simp)
          ·replace c23 := Bool.eq_false_iff.mpr c23
           subst c23
           rw [if_neg (show ¬ (false = true) by decide)] at H
           simp only [Option.some.injEq, Prod.mk.injEq] at H
           obtain ⟨rfl, rfl⟩ := H
           have hnb28 := NB106_101.out
           have hnc28 := NB101_106.out
           have hcz29_0 : wr.cell? ⟨gb106, 0, none⟩ = some (.slice Ao12 t102.length co12) := (blk_cell BK106.out 0).trans rfl
           have hcz29_1 : wr.cell? ⟨gb106, 1, none⟩ = some (.int .i64 t105) := (blk_cell BK106.out 1).trans rfl
           have hfz29_0 := blk_frozen BK106.out 0
           have hfz29_1 := blk_frozen BK106.out 1
           have p109 : 0 ≤ (x11_2 : Int) := of_decide_eq_true (by first | (with_reducible assumption) | assumption)
           have q109 : x11_2 < (t102.length : Int) := of_decide_eq_true (by first | (with_reducible assumption) | assumption)
           obtain ⟨ad109, e109, hx109_0, hx109_1, hx109_2, hx109_3, hx109_4⟩ := at_T179 (Kd.R_reads' HO_107000.out).2.2 x11_2 p109 q109
           (try rw [← Nbq22.out] at hx109_4)
           cases e109
           replace p109 := eq_true p109
           replace q109 := eq_true q109
           have hcz30_0 : wr.cell? ⟨gb101, 0, none⟩ = some (.slice none 0 0) := (blk_cell BK101.out 0).trans rfl
           have hcz30_1 : wr.cell? ⟨gb101, 1, none⟩ = some (.int .i64 x102001_2) := (blk_cell BK101.out 1).trans rfl
           have hfz30_0 := blk_frozen BK101.out 0
           have hfz30_1 := blk_frozen BK101.out 1
           go_wp2
           refine bodyPost_ret (results_cell_row rfl _ _ gb101 50 #[.slice none 0 0, .int .i64 5] (0, 0) _ rfl (by (with_reducible repeat (first | refine blk_drewN ?_ _ | refine blk_drew ?_ | refine blk_alloc ?_ _)); refine blk_put (cs := #[.slice none 0 0, .int .i64 x102001_2]) ?_ 1 _ rfl; (with_reducible repeat (first | refine blk_drewN ?_ _ | refine blk_drew ?_ | refine blk_alloc ?_ _)); refine blk_put (cs := #[.slice none 0 0, .int .i64 x102001_2]) ?_ 0 _ rfl; (with_reducible repeat (first | refine blk_drewN ?_ _ | refine blk_drew ?_ | refine blk_alloc ?_ _)); exact BK101.out) Try.underlying50 rfl (by kernel_rfl)) rfl ?_
           exact ⟨_, by first | rfl | (simp [errW_none, errW_some] <;> rfl) | (simp [*, errW_none, errW_some] <;> rfl), by first | exact Kd.R_nil _ _ _ _ _ | exact Kd.N_nil _ _ _ _ _ | exact Kd.V_nil _ _ _ _ _ | exact Kd.Q_nil _ _ _ _ _ | exact Kd.S_nil _ _ _ _ _, by repeat (first | (with_reducible first | exact HB.out | apply below_alloc | apply pw_below_drewN | apply below_drew1 | refine below_set ?_ GE101.out | refine below_set ?_ GE106.out) | exact HB.out)⟩
         ·rw [if_neg c21] at H
          exact absurd H (by simp)
        ·rw [if_neg c20] at H
         exact absurd H (by simp)
       ·rw [if_neg c19] at H
        have c19b0 : decide (x11_2 < a1) = false := decide_eq_false c19
        clear c19
        replace H := Option.bind_eq_some_iff.mp H
        obtain ⟨t114, A310, H⟩ := H
        replace H : (if t114 = a2 then (some (x10_2, 0)) else (some (([] : List (S29)), 8))) = some (r1, r2) := H
        have A31 := Aside0.mk A310
        clear A310
        by_cases c32 : t114 = a2
        ·rw [if_pos c32] at H
         have c32b0 : (t114 == a2) = true := beq_iff_eq.mpr c32
         have c32b1 : (t114 != a2) = false := bne_eq_false_iff_eq.mpr c32
         clear c32
         simp only [Option.some.injEq, Prod.mk.injEq] at H
         obtain ⟨rfl, rfl⟩ := H
         obtain ⟨Ao33, co33, eo33⟩ := Kd.R_slice HO_10.out
         subst eo33
         go_wp2_with (first | ((with_reducible refine gate_callee (f := 106) rfl ?_); refine goesL_ (some 54) rfl rfl Try.func106 (by kernel_rfl) rfl #[.slice Ao33 x10_2.length co33] rfl (by (try simp only [List.map_toArray, List.map_cons, List.map_nil]); first | done | rfl | (simp only [List.length_drop, List.length_take]; rfl)) ?_; (with_reducible refine (calxref08_root.calls _ _ x10_2 t114 _ ?side1 ?side2 A31.out).mono ?_); (case side1 => repeat (first | exact (Kd.R_reads' HO_10.out).2.2 | (with_reducible refine Kd.C_alloc ?_ _) | (with_reducible refine Kd.C_drewN ?_ _) | (with_reducible refine Kd.C_drew ?_))); (case side2 => exact (Kd.R_reads' HO_10.out).2.1); rintro e w34 ⟨rfl, hb⟩; refine ⟨_, rfl, ?_⟩; have n0_ := Aside0.mk (Kd.R_below (by (with_reducible repeat (first | apply Kd.R_alloc | apply Kd.R_drewN | apply Kd.R_drew)); exact HO_10.out) hb); have n1_ := Aside0.mk (Kd.R_below (by (with_reducible repeat (first | apply Kd.R_alloc | apply Kd.R_drewN | apply Kd.R_drew)); exact HO_107000.out) hb); have n2_ := Aside0.mk (blk_below (g := gb101) (o := .cells #[.slice none 0 0, .int .i64 x102001_2] 50 (0, 0)) (by (with_reducible repeat (first | refine blk_drewN ?_ _ | refine blk_drew ?_ | refine blk_alloc ?_ _)); exact BK101.out) hb); have n3_ := Aside0.mk (blk_below (g := gb106) (o := .cells #[.slice Ao12 t102.length co12, .int .i64 t105] 176 (0, 0)) (by (with_reducible repeat (first | refine blk_drewN ?_ _ | refine blk_drew ?_ | refine blk_alloc ?_ _)); exact BK106.out) hb); have n4_ := Aside0.mk (below_step (by repeat (first | (with_reducible first | exact HB.out | apply below_alloc | apply pw_below_drewN | apply below_drew1 | refine below_set ?_ GE101.out | refine below_set ?_ GE106.out) | exact HB.out)) hb); clear HO_10; clear HO_107000; clear BK101; clear BK106; clear HB; have HO_10 := n0_; have HO_107000 := n1_; have BK101 := n2_; have BK106 := n3_; have HB := n4_; clear n0_ n1_ n2_ n3_ n4_; (try clear hb); (try clear hb2); (try clear hk); (try clear hi); have hnb35 := NB101_106.out; have hnc35 := NB106_101.out; have hcz36_0 : w34.cell? ⟨gb101, 0, none⟩ = some (.slice none 0 0) := (blk_cell BK101.out 0).trans rfl; have hcz36_1 : w34.cell? ⟨gb101, 1, none⟩ = some (.int .i64 x102001_2) := (blk_cell BK101.out 1).trans rfl; have hfz36_0 := blk_frozen BK101.out 0; have hfz36_1 := blk_frozen BK101.out 1))
         refine bodyPost_ret (results_cell_row rfl _ _ gb101 50 #[.slice Ao33 x10_2.length co33, .int .i64 0] (0, 0) _ rfl (by (with_reducible repeat (first | refine blk_drewN ?_ _ | refine blk_drew ?_ | refine blk_alloc ?_ _)); refine blk_put (cs := #[.slice Ao33 x10_2.length co33, .int .i64 x102001_2]) ?_ 1 _ rfl; (with_reducible repeat (first | refine blk_drewN ?_ _ | refine blk_drew ?_ | refine blk_alloc ?_ _)); refine blk_put (cs := #[.slice none 0 0, .int .i64 x102001_2]) ?_ 0 _ rfl; (with_reducible repeat (first | refine blk_drewN ?_ _ | refine blk_drew ?_ | refine blk_alloc ?_ _)); exact BK101.out) Try.underlying50 rfl (by kernel_rfl)) rfl ?_
         exact ⟨_, by first | rfl | (simp [errW_none, errW_some] <;> rfl) | (simp [*, errW_none, errW_some] <;> rfl), by (with_reducible repeat (first | apply Kd.R_alloc | apply Kd.R_drewN | apply Kd.R_drew)); exact Kd.R_mono (Kd.R_far (p := ⟨gb101, 1, none⟩) (Kd.R_far (p := ⟨gb101, 0, none⟩) (Kd.R_types HO_10.out BK101.out (by decide)) (fun _ hk => hk.2) (.slice Ao33 x10_2.length co33)) (fun _ hk => hk.2) (.int .i64 0)) (fun _ hk => trivial), by repeat (first | (with_reducible first | exact HB.out | apply below_alloc | apply pw_below_drewN | apply below_drew1 | refine below_set ?_ GE101.out | refine below_set ?_ GE106.out) | exact HB.out)⟩
        ·rw [if_neg c32] at H
         have c32b0 : (t114 == a2) = false := beq_eq_false_iff_ne.mpr c32
         have c32b1 : (t114 != a2) = true := bne_iff_ne.mpr c32
         simp only [Option.some.injEq, Prod.mk.injEq] at H
         obtain ⟨rfl, rfl⟩ := H
         obtain ⟨Ao37, co37, eo37⟩ := Kd.R_slice HO_10.out
         subst eo37
         go_wp2_with (first | ((with_reducible refine gate_callee (f := 106) rfl ?_); refine goesL_ (some 54) rfl rfl Try.func106 (by kernel_rfl) rfl #[.slice Ao37 x10_2.length co37] rfl (by (try simp only [List.map_toArray, List.map_cons, List.map_nil]); first | done | rfl | (simp only [List.length_drop, List.length_take]; rfl)) ?_; (with_reducible refine (calxref08_root.calls _ _ x10_2 t114 _ ?side1 ?side2 A31.out).mono ?_); (case side1 => repeat (first | exact (Kd.R_reads' HO_10.out).2.2 | (with_reducible refine Kd.C_alloc ?_ _) | (with_reducible refine Kd.C_drewN ?_ _) | (with_reducible refine Kd.C_drew ?_))); (case side2 => exact (Kd.R_reads' HO_10.out).2.1); rintro e w38 ⟨rfl, hb⟩; refine ⟨_, rfl, ?_⟩; have n0_ := Aside0.mk (Kd.R_below (by (with_reducible repeat (first | apply Kd.R_alloc | apply Kd.R_drewN | apply Kd.R_drew)); exact HO_10.out) hb); have n1_ := Aside0.mk (Kd.R_below (by (with_reducible repeat (first | apply Kd.R_alloc | apply Kd.R_drewN | apply Kd.R_drew)); exact HO_107000.out) hb); have n2_ := Aside0.mk (blk_below (g := gb101) (o := .cells #[.slice none 0 0, .int .i64 x102001_2] 50 (0, 0)) (by (with_reducible repeat (first | refine blk_drewN ?_ _ | refine blk_drew ?_ | refine blk_alloc ?_ _)); exact BK101.out) hb); have n3_ := Aside0.mk (blk_below (g := gb106) (o := .cells #[.slice Ao12 t102.length co12, .int .i64 t105] 176 (0, 0)) (by (with_reducible repeat (first | refine blk_drewN ?_ _ | refine blk_drew ?_ | refine blk_alloc ?_ _)); exact BK106.out) hb); have n4_ := Aside0.mk (below_step (by repeat (first | (with_reducible first | exact HB.out | apply below_alloc | apply pw_below_drewN | apply below_drew1 | refine below_set ?_ GE101.out | refine below_set ?_ GE106.out) | exact HB.out)) hb); clear HO_10; clear HO_107000; clear BK101; clear BK106; clear HB; have HO_10 := n0_; have HO_107000 := n1_; have BK101 := n2_; have BK106 := n3_; have HB := n4_; clear n0_ n1_ n2_ n3_ n4_; (try clear hb); (try clear hb2); (try clear hk); (try clear hi); have hnb39 := NB101_106.out; have hnc39 := NB106_101.out; have hcz40_0 : w38.cell? ⟨gb101, 0, none⟩ = some (.slice none 0 0) := (blk_cell BK101.out 0).trans rfl; have hcz40_1 : w38.cell? ⟨gb101, 1, none⟩ = some (.int .i64 x102001_2) := (blk_cell BK101.out 1).trans rfl; have hfz40_0 := blk_frozen BK101.out 0; have hfz40_1 := blk_frozen BK101.out 1))
         refine bodyPost_ret (results_cell_row rfl _ _ gb101 50 #[.slice none 0 0, .int .i64 8] (0, 0) _ rfl (by (with_reducible repeat (first | refine blk_drewN ?_ _ | refine blk_drew ?_ | refine blk_alloc ?_ _)); refine blk_put (cs := #[.slice none 0 0, .int .i64 x102001_2]) ?_ 1 _ rfl; (with_reducible repeat (first | refine blk_drewN ?_ _ | refine blk_drew ?_ | refine blk_alloc ?_ _)); refine blk_put (cs := #[.slice none 0 0, .int .i64 x102001_2]) ?_ 0 _ rfl; (with_reducible repeat (first | refine blk_drewN ?_ _ | refine blk_drew ?_ | refine blk_alloc ?_ _)); exact BK101.out) Try.underlying50 rfl (by kernel_rfl)) rfl ?_
         exact ⟨_, by first | rfl | (simp [errW_none, errW_some] <;> rfl) | (simp [*, errW_none, errW_some] <;> rfl), by first | exact Kd.R_nil _ _ _ _ _ | exact Kd.N_nil _ _ _ _ _ | exact Kd.V_nil _ _ _ _ _ | exact Kd.Q_nil _ _ _ _ _ | exact Kd.S_nil _ _ _ _ _, by repeat (first | (with_reducible first | exact HB.out | apply below_alloc | apply pw_below_drewN | apply below_drew1 | refine below_set ?_ GE101.out | refine below_set ?_ GE106.out) | exact HB.out)⟩
 ·rw [if_neg c5] at H
  have c5b0 : (t105 == 0) = false := beq_eq_false_iff_ne.mpr c5
  have c5b1 : (t105 != 0) = true := bne_iff_ne.mpr c5
  simp only [Option.some.injEq, Prod.mk.injEq] at H
  obtain ⟨rfl, rfl⟩ := H
  go_enter Try.func62, Try.ntmps62
  go_wp2_with (first | ((with_reducible refine gate_dst (N := 6) rfl ?_); refine box_event ?hg (N := 6) ?hd (cs := #[.slice none 0 0, .int .i64 0]) (t := 50) ?hr ?_; (case hd => rfl); (case hg => rfl); (case hr => first | (go_simp; done) | (go_simp; rfl)); intro gb101 hg w41 hbox hb; have n0_ := Aside0.mk (below_step (by repeat (first | (with_reducible first | exact HB.out | apply below_alloc | apply pw_below_drewN | apply below_drew1) | exact HB.out)) hb); have n1_ := Aside0.mk (hbox); have n2_ := Aside0.mk ((by rw [hg]; exact (below_size (by repeat (first | (with_reducible first | exact HB.out | apply below_alloc | apply pw_below_drewN | apply below_drew1) | exact HB.out))) : w.heap.size ≤ gb101)); have n3_ := Aside0.mk ((by rw [hg]; exact (below_size (by repeat (first | (with_reducible first | exact HB.out | apply below_alloc | apply pw_below_drewN | apply below_drew1) | exact HB.out))) : w.heap.size ≤ gb101)); clear HB; have HB := n0_; have BK101 := n1_; have GW101 := n2_; have GE101 := n3_; clear n0_ n1_ n2_ n3_; clear hb hbox hg) | ((with_reducible refine gate_callee (f := 131) rfl ?_); refine goesL_ (some 13) rfl rfl Try.func131 (by kernel_rfl) rfl #[.slice A0 l0.length c0] rfl (by (try simp only [List.map_toArray, List.map_cons, List.map_nil]); first | done | rfl | (simp only [List.length_drop, List.length_take]; rfl)) ?_; (with_reducible refine (calxref08_slots.calls k _ _ l0 t102 t105 _ ?side1 ?side2 A4.out).mono ?_); (case side1 => repeat (first | exact (Kd.C_below HR0.out HB.out) | (with_reducible refine Kd.C_alloc ?_ _) | (with_reducible refine Kd.C_drewN ?_ _) | (with_reducible refine Kd.C_drew ?_))); (case side2 => exact HC0.out); rintro e w42 ⟨v103, rfl, ho0, hb⟩; refine ⟨_, rfl, ?_⟩; have n0_ := Aside0.mk (Kd.R_lower ho0 (below_size (by repeat (first | (with_reducible first | exact HB.out | apply below_alloc | apply pw_below_drewN | apply below_drew1 | refine below_set ?_ GE101.out) | exact HB.out)))); have n1_ := Aside0.mk (blk_below (g := gb101) (o := .cells #[.slice none 0 0, .int .i64 0] 50 (0, 0)) (by (with_reducible repeat (first | refine blk_drewN ?_ _ | refine blk_drew ?_ | refine blk_alloc ?_ _)); exact BK101.out) hb); have n2_ := Aside0.mk (below_step (by repeat (first | (with_reducible first | exact HB.out | apply below_alloc | apply pw_below_drewN | apply below_drew1 | refine below_set ?_ GE101.out) | exact HB.out)) hb); clear BK101; clear HB; have HO104 := n0_; have BK101 := n1_; have HB := n2_; clear n0_ n1_ n2_; (try clear hb); (try clear hb2); (try clear hk); (try clear hi); (try clear ho0)) | ((with_reducible refine gate_dst (N := 7) rfl ?_); refine box_event ?hg (N := 7) ?hd (cs := #[.slice none 0 0, .int .i64 0]) (t := 176) ?hr ?_; (case hd => rfl); (case hg => rfl); (case hr => first | (go_simp; done) | (go_simp; rfl)); intro gb106 hg w43 hbox hb; have n0_ := Aside0.mk (Kd.R_below (by (with_reducible repeat (first | apply Kd.R_alloc | apply Kd.R_drewN | apply Kd.R_drew)); exact HO104.out) hb); have n1_ := Aside0.mk (blk_below (g := gb101) (o := .cells #[.slice none 0 0, .int .i64 0] 50 (0, 0)) (by (with_reducible repeat (first | refine blk_drewN ?_ _ | refine blk_drew ?_ | refine blk_alloc ?_ _)); exact BK101.out) hb); have n2_ := Aside0.mk (below_step (by repeat (first | (with_reducible first | exact HB.out | apply below_alloc | apply pw_below_drewN | apply below_drew1 | refine below_set ?_ GE101.out) | exact HB.out)) hb); have n3_ := Aside0.mk (hbox); have n4_ := Aside0.mk ((by rw [hg]; exact (below_size (by repeat (first | (with_reducible first | exact HB.out | apply below_alloc | apply pw_below_drewN | apply below_drew1 | refine below_set ?_ GE101.out) | exact HB.out))) : w.heap.size ≤ gb106)); have n5_ := Aside0.mk ((by rw [hg]; exact (below_size (by repeat (first | (with_reducible first | exact HB.out | apply below_alloc | apply pw_below_drewN | apply below_drew1 | refine below_set ?_ GE101.out) | exact HB.out))) : w.heap.size ≤ gb106)); have n6_ := Aside0.mk ((by rw [hg]; exact Nat.ne_of_lt (blk_lt (g := gb101) (o := .cells #[.slice none 0 0, .int .i64 0] 50 (0, 0)) (by (with_reducible repeat (first | refine blk_drewN ?_ _ | refine blk_drew ?_ | refine blk_alloc ?_ _)); exact BK101.out)) : gb101 ≠ gb106)); have n7_ := Aside0.mk ((by rw [hg]; exact Nat.ne_of_gt (blk_lt (g := gb101) (o := .cells #[.slice none 0 0, .int .i64 0] 50 (0, 0)) (by (with_reducible repeat (first | refine blk_drewN ?_ _ | refine blk_drew ?_ | refine blk_alloc ?_ _)); exact BK101.out)) : gb106 ≠ gb101)); clear HO104; clear BK101; clear HB; have HO104 := n0_; have BK101 := n1_; have HB := n2_; have BK106 := n3_; have GW106 := n4_; have GE106 := n5_; have NB101_106 := n6_; have NB106_101 := n7_; clear n0_ n1_ n2_ n3_ n4_ n5_ n6_ n7_; clear hb hbox hg; obtain ⟨Ao44, co44, eo44⟩ := Kd.R_slice HO104.out; subst eo44; have hnb45 := NB106_101.out; have hnc45 := NB101_106.out; have hcz46_0 : w43.cell? ⟨gb106, 0, none⟩ = some (.slice none 0 0) := (blk_cell BK106.out 0).trans rfl; have hcz46_1 : w43.cell? ⟨gb106, 1, none⟩ = some (.int .i64 0) := (blk_cell BK106.out 1).trans rfl; have hfz46_0 := blk_frozen BK106.out 0; have hfz46_1 := blk_frozen BK106.out 1; have hcz47_0 : w43.cell? ⟨gb101, 0, none⟩ = some (.slice none 0 0) := (blk_cell BK101.out 0).trans rfl; have hcz47_1 : w43.cell? ⟨gb101, 1, none⟩ = some (.int .i64 0) := (blk_cell BK101.out 1).trans rfl; have hfz47_0 := blk_frozen BK101.out 0; have hfz47_1 := blk_frozen BK101.out 1))
  refine bodyPost_ret (results_cell_row rfl _ _ gb101 50 #[.slice none 0 0, .int .i64 t105] (0, 0) _ rfl (by (with_reducible repeat (first | refine blk_drewN ?_ _ | refine blk_drew ?_ | refine blk_alloc ?_ _)); refine blk_put (cs := #[.slice none 0 0, .int .i64 0]) ?_ 1 _ rfl; (with_reducible repeat (first | refine blk_drewN ?_ _ | refine blk_drew ?_ | refine blk_alloc ?_ _)); refine blk_put (cs := #[.slice none 0 0, .int .i64 0]) ?_ 0 _ rfl; (with_reducible repeat (first | refine blk_drewN ?_ _ | refine blk_drew ?_ | refine blk_alloc ?_ _)); refine blk_far ?_ NB101_106.out _; (with_reducible repeat (first | refine blk_drewN ?_ _ | refine blk_drew ?_ | refine blk_alloc ?_ _)); refine blk_far ?_ NB101_106.out _; (with_reducible repeat (first | refine blk_drewN ?_ _ | refine blk_drew ?_ | refine blk_alloc ?_ _)); exact BK101.out) Try.underlying50 rfl (by kernel_rfl)) rfl ?_
  exact ⟨_, by first | rfl | (simp [errW_none, errW_some] <;> rfl) | (simp [*, errW_none, errW_some] <;> rfl), by first | exact Kd.R_nil _ _ _ _ _ | exact Kd.N_nil _ _ _ _ _ | exact Kd.V_nil _ _ _ _ _ | exact Kd.Q_nil _ _ _ _ _ | exact Kd.S_nil _ _ _ _ _, by repeat (first | (with_reducible first | exact HB.out | apply below_alloc | apply pw_below_drewN | apply below_drew1 | refine below_set ?_ GE101.out | refine below_set ?_ GE106.out) | exact HB.out)⟩
def calxref08_CheckPieces.f (k : Nat) (l0 : List (S34)) : Option (Int) := (calxref08_slots.f k l0).bind fun bt101 => (some bt101.2)
theorem calxref08_CheckPieces.mono : ∀ a0 k, LeO (calxref08_CheckPieces.f k a0) (calxref08_CheckPieces.f (k + 1) a0) := by
 intro a0 k
 unfold calxref08_CheckPieces.f
 exact LeO.bind (calxref08_slots.mono _ _) (fun _ => LeO.refl _)
set_option maxHeartbeats 8000000 in
set_option maxRecDepth 100000 in
theorem calxref08_CheckPieces.calls (k : Nat) (A0 : Option Addr) (c0 : Nat) (l0 : List (S34)) (r : Int) (w : World) (hr0 : Kd.C k34 w A0 l0.length l0) (hc0 : l0.length ≤ c0) (h : calxref08_CheckPieces.f k l0 = some r) :
  Calls Try.prog 64 #[.slice A0 l0.length c0] w fun e w' => e = .returned (.int .i64 r) ∧ Below w.heap.size w w' := by
 have HR0 := Aside0.mk hr0
 have HC0 := Aside0.mk hc0
 clear hr0 hc0
 have hu176 := Try.underlying176
 have H : ((calxref08_slots.f k l0).bind fun bt101 => (some bt101.2)) = some r := h
 clear h
 replace H := Option.bind_eq_some_iff.mp H
 obtain ⟨⟨t101, t104⟩, A20, H⟩ := H
 replace H : (some t104) = some r := H
 have A2 := Aside0.mk A20
 clear A20
 obtain rfl := Option.some.inj H
 clear H
 go_enter Try.func64, Try.ntmps64
 go_wp2_with fail
 refine (calxref08_slots.calls k _ _ l0 t101 t104 _ HR0.out HC0.out A2.out).mono ?_
 rintro e u ⟨v0, rfl, hr, hd⟩
 obtain ⟨A1, c1, rfl⟩ := Kd.R_slice hr
 have HD := Aside0.mk hd
 clear hr hd
 have hf : ∀ W : World, (Instr.field 176 (.agg #[.slice A1 t101.length c1, .int .i64 t104]) 1).run Try.prog W = .ok (.int .i64 t104) W := fun W => by kernel_rfl
 go_wp2
 go_ret
 exact ⟨rfl, HD.out⟩
def slotOf : Option S29 → S179
 | none => z179
 | some x => ⟨x, true⟩
def slotsOf (M : Laid) : List S179 := (List.range 64).map fun q : Nat => slotOf (M (q : Int))
theorem slot_some (x : S29) : (slotOf (some x)).f1 = true := rfl
theorem slotsOf_length (M : Laid) : (slotsOf M).length = 64 := by simp [slotsOf]
theorem slotsOf_at (M : Laid) {q : Nat} (h : q < 64) : rd_T179 (slotsOf M) (q : Int) = slotOf (M (q : Int)) := by
 unfold rd_T179 slotsOf
 rw [Int.toNat_natCast, List.getD_eq_getElem?_getD, List.getElem?_map, List.getElem?_range h]
 rfl
theorem slotsOf_none : List.replicate 64 z179 = slotsOf (fun _ => none) := rfl
theorem slotsOf_get (M : Laid) (i : Nat) : (slotsOf M)[i]? = if i < 64 then some (slotOf (M (i : Int))) else none := by
 unfold slotsOf
 rw [List.getElem?_map]
 by_cases h : i < 64
 ·rw [List.getElem?_range h, if_pos h]; rfl
 ·rw [List.getElem?_eq_none (by simp; omega), if_neg h]; rfl
theorem slotsOf_set (M : Laid) (q : Nat) (x : S29) : (slotsOf M).set q ⟨x, true⟩ = slotsOf (putM M (q : Int) x) := by
 refine List.ext_getElem? (fun i => ?_)
 rw [List.getElem?_set, slotsOf_get, slotsOf_get, slotsOf_length]
 unfold putM
 by_cases e : q = i
 ·subst e
  rw [if_pos rfl, if_pos rfl]
  by_cases h : q < 64
  ·rw [if_pos h, if_pos h]; rfl
  ·rw [if_neg h, if_neg h]
 ·rw [if_neg e, if_neg (show ¬ (i : Int) = (q : Int) by omega)]
theorem slots_l2 {l : List S34} (hl : l.length ≤ 1000) {i : Nat} (hi : i < l.length) (hf : Fits l[i]) : ∀ (d j : Nat) (M : Laid), j + d = l[i].f1.length →
  (putAll M (l[i].f0 + (j : Int)) (l[i].f1.drop j) = none → Ev (fun k => calxref08_slots.l2 k l (slotsOf M) (i : Int) (j : Int)) ([], 9)) ∧
  (∀ M', putAll M (l[i].f0 + (j : Int)) (l[i].f1.drop j) = some M' → ∀ r, Ev (fun k => calxref08_slots.l1 k l (slotsOf M') ((i + 1 : Nat) : Int)) r → Ev (fun k => calxref08_slots.l2 k l (slotsOf M) (i : Int) (j : Int)) r) := by
 intro d
 unfold Fits at hf
 induction d with
 | zero =>
  intro j M hj
  rw [List.drop_eq_nil_of_le (by omega), putAll]
  refine ⟨(fun h => by cases h), fun M' h r hr => ?_⟩
  obtain rfl := Option.some.inj h
  refine hr.step 0 fun k _ => ?_
  simp only [calxref08_slots.l2]
  rw [if_pos (by omega), if_pos (by omega), rd34_getElem hi, if_neg (by omega), wrap_nat (by omega)]
 | succ d ih =>
  intro j M hj
  have h1 : j < l[i].f1.length := by omega
  obtain ⟨x, hx⟩ : ∃ x, x = l[i].f1[j] := ⟨_, rfl⟩
  have hrx : rd_T29 l[i].f1 (j : Int) = x := by rw [hx]; exact rd29_getElem h1
  obtain ⟨q, hq⟩ : ∃ q : Nat, q = (l[i].f0 + (j : Int)).toNat := ⟨_, rfl⟩
  have hq64 : q < 64 := by omega
  have hqi : l[i].f0 + (j : Int) = (q : Int) := by omega
  have hw : wrap64 (l[i].f0 + (j : Int)) = (q : Int) := by rw [hqi]; unfold wrap64; omega
  have hq1 : (q : Int) + 1 = l[i].f0 + ((j + 1 : Nat) : Int) := by push_cast; omega
  have hj1 := wrap_nat (i := j) (by omega)
  obtain ⟨ih1, ih2⟩ := ih (j + 1) (putM M (q : Int) x) (by omega)
  rw [List.drop_eq_getElem_cons h1, ← hx, hqi]
  have go : ∀ r, Ev (fun k => calxref08_slots.l2 k l (slotsOf (putM M (q : Int) x)) (i : Int) ((j + 1 : Nat) : Int)) r → (∀ y, M (q : Int) = some y → neP y x = false) → Ev (fun k => calxref08_slots.l2 k l (slotsOf M) (i : Int) (j : Int)) r := by
   intro r hr hM
   refine hr.step 0 fun k _ => ?_
   simp only [calxref08_slots.l2]
   rw [if_pos (by omega), if_pos (by omega), rd34_getElem hi, if_pos (by omega), hw, if_pos (by omega), slotsOf_length, if_pos (by omega), slotsOf_at M hq64, hrx, hj1, Int.toNat_natCast, show (⟨(⟨x.f0, x.f1, x.f2, x.f3⟩ : S29), true⟩ : S179) = ⟨x, true⟩ from rfl, slotsOf_set]
   cases h : M (q : Int) with
   | none => rw [if_neg (by decide), if_pos (by omega)]
   | some y =>
    rw [if_pos (slot_some y), if_pos (by omega), if_neg]
    have := hM y h
    unfold neP at this
    exact fun e => by rw [show slotOf (some y) = ⟨y, true⟩ from rfl] at e; rw [this] at e; cases e
  by_cases hbad : ∃ y, M (q : Int) = some y ∧ neP y x = true
  ·obtain ⟨y, hy, hne⟩ := hbad
   rw [putAll_bad hy hne]
   refine ⟨fun _ => Ev.now 0 fun k _ => ?_, fun M' h => by cases h⟩
   simp only [calxref08_slots.l2]
   rw [if_pos (by omega), if_pos (by omega), rd34_getElem hi, if_pos (by omega), hw, if_pos (by omega), slotsOf_length, if_pos (by omega), slotsOf_at M hq64, hrx, hy, if_pos (slot_some y), if_pos (by omega), if_pos]
   exact hne
  ·have hM : ∀ y, M (q : Int) = some y → neP y x = false := fun y hy => by
    cases h : neP y x with
    | false => rfl
    | true => exact absurd ⟨y, hy, h⟩ hbad
   rw [putAll_cons hM, hq1]
   exact ⟨fun h => go _ (ih1 h) hM, fun M' h r hr => go _ (ih2 M' h r hr) hM⟩
theorem slots_l1 {l : List S34} (hl : l.length ≤ 1000) (hf : ∀ p ∈ l, Fits p) : ∀ (d i : Nat) (M : Laid), i + d = l.length →
  (laidFrom M (l.drop i) = none → Ev (fun k => calxref08_slots.l1 k l (slotsOf M) (i : Int)) ([], 9)) ∧
  (∀ M', laidFrom M (l.drop i) = some M' → ∀ r, Ev (fun k => calxref08_slots.l3 k (slotsOf M') 0 0) r → Ev (fun k => calxref08_slots.l1 k l (slotsOf M) (i : Int)) r) := by
 intro d
 induction d with
 | zero =>
  intro i M hi
  rw [List.drop_eq_nil_of_le (by omega), laidFrom]
  refine ⟨(fun h => by cases h), fun M' h r hr => ?_⟩
  obtain rfl := Option.some.inj h
  refine hr.step 0 fun k _ => ?_
  simp only [calxref08_slots.l1]
  rw [if_neg (by omega)]
 | succ d ih =>
  intro i M hi
  have h1 : i < l.length := by omega
  obtain ⟨g1, g2⟩ := slots_l2 hl h1 (hf _ (List.getElem_mem _)) l[i].f1.length 0 M (by omega)
  rw [show l[i].f0 + ((0 : Nat) : Int) = l[i].f0 by omega, List.drop_zero] at g1 g2
  have enter : ∀ r, Ev (fun k => calxref08_slots.l2 k l (slotsOf M) (i : Int) ((0 : Nat) : Int)) r → Ev (fun k => calxref08_slots.l1 k l (slotsOf M) (i : Int)) r := fun r hr => by
   refine hr.step 0 fun k _ => ?_
   simp only [calxref08_slots.l1]
   rw [if_pos (by omega)]
   rfl
  rw [List.drop_eq_getElem_cons h1, laidFrom]
  cases hp : putAll M l[i].f0 l[i].f1 with
  | none => exact ⟨fun _ => enter _ (g1 hp), (fun M h => by cases h)⟩
  | some M1 =>
   obtain ⟨k1, k2⟩ := ih (i + 1) M1 (by omega)
   exact ⟨fun h => enter _ (g2 M1 hp _ (k1 h)), fun M' h r hr => enter _ (g2 M1 hp r (k2 M' h r hr))⟩
theorem slots_l3 (M : Laid) : ∀ (d i : Nat) (day : Int), i + d = 64 → Ev (fun k => calxref08_slots.l3 k (slotsOf M) day (i : Int)) (if ordered M d i day = true then (slotsOf M, 0) else ([], 9)) := by
 intro d
 induction d with
 | zero =>
  intro i day hi
  refine Ev.now 0 fun k _ => ?_
  simp only [calxref08_slots.l3]
  rw [slotsOf_length, if_neg (by omega), ordered, if_pos rfl]
 | succ d ih =>
  intro i day hi
  have h1 : i < 64 := by omega
  have hw := wrap_nat (i := i) (by omega)
  have hat := slotsOf_at M h1
  cases hM : M (i : Int) with
  | none =>
   rw [hM] at hat
   have e : ordered M (d + 1) i day = ordered M d ((i + 1 : Nat) : Int) day := by rw [ordered, hM]; rfl
   rw [e]
   refine Ev.step (g := fun k => calxref08_slots.j4 k (slotsOf M) day (i : Int) false) ((ih (i + 1) day (by omega)).step 0 fun k _ => ?_) 0 fun k _ => ?_
   ·simp only [calxref08_slots.j4]
    rw [if_neg (by decide), if_pos (by omega), slotsOf_length, if_pos (by omega), hat, if_neg (by decide), hw]
   ·simp only [calxref08_slots.l3]
    rw [slotsOf_length, if_pos (by omega), if_pos (by omega), hat, if_neg (by decide)]
  | some x =>
   rw [hM] at hat
   have e : ordered M (d + 1) i day = if x.f0 < day then false else ordered M d ((i + 1 : Nat) : Int) x.f0 := by rw [ordered, hM]; rfl
   rw [e]
   refine Ev.step (g := fun k => calxref08_slots.j4 k (slotsOf M) day (i : Int) (decide (x.f0 < day))) ?_ 0 fun k _ => ?_
   ·by_cases hd : x.f0 < day
    ·rw [if_pos hd, decide_eq_true hd]
     refine Ev.now 0 fun k _ => ?_
     simp only [calxref08_slots.j4]
     rw [if_pos trivial]
     rfl
    ·rw [if_neg hd, decide_eq_false hd]
     refine (ih (i + 1) x.f0 (by omega)).step 0 fun k _ => ?_
     simp only [calxref08_slots.j4]
     rw [if_neg (by decide), if_pos (by omega), slotsOf_length, if_pos (by omega), hat, if_pos (slot_some x), hw]
     rfl
   ·simp only [calxref08_slots.l3]
    rw [slotsOf_length, if_pos (by omega), if_pos (by omega), hat, if_pos (slot_some x)]
    rfl
theorem ref_book_ev (l : List S29) (h : l.length ≤ 1000) (d : Nat) : ∀ (i : Nat), i ≤ l.length → l.length - i = d → (∀ j, j < i → okAt l j = true) → Ev (fun k => calxref08_book.l0 k l (i : Int)) (followsP l) := by
 induction d with
 | zero =>
  intro i h0 hd hall
  have e : followsP l = true := by
   unfold followsP
   rw [List.all_eq_true]
   intro j hj
   exact hall j (by have := List.mem_range.1 hj; omega)
  refine Ev.now 0 fun k _ => ?_
  simp only [calxref08_book.l0]
  rw [if_neg (by omega), e]
 | succ d ih =>
  intro i h0 hd hall
  have hlt : i < l.length := by omega
  have hrd : rd_T29 l (i : Int) = l.getD i z29 := rfl
  have hbad : okAt l i = false → followsP l = false := by
   intro h
   unfold followsP
   rw [Bool.eq_false_iff]
   intro hc
   rw [List.all_eq_true] at hc
   rw [hc i (List.mem_range.2 hlt)] at h
   cases h
  have hgo : okAt l i = true → Ev (fun k => calxref08_book.l0 k l ((i + 1 : Nat) : Int)) (followsP l) := by
   intro h
   refine ih (i + 1) (by omega) (by omega) fun j hj => ?_
   by_cases hji : j = i
   ·subst hji; exact h
   ·exact hall j (by omega)
  have hw := wrap_nat (i := i) (by omega)
  have hw1 : ∀ h : 0 < i, wrap64 ((i : Int) - 1) = ((i - 1 : Nat) : Int) := fun h => by unfold wrap64; omega
  have hmx : mx 0 ((i - 1 : Nat) : Int) = ((i - 1 : Nat) : Int) := by unfold mx; split <;> omega
  have hrd1 : rd_T29 l ((i - 1 : Nat) : Int) = l.getD (i - 1) z29 := rfl
  cases hok : okAt l i with
  | true =>
   have hok2 := hok
   unfold okAt at hok2
   simp only [Bool.and_eq_true, Bool.or_eq_true, decide_eq_true_eq] at hok2
   refine (hgo hok).step 0 fun k _ => ?_
   simp only [calxref08_book.l0]
   rw [if_pos (by omega), if_pos (by omega), hrd, ref_entry]
   simp only [Option.bind_some]
   rw [show rightP ⟨(l.getD i z29).f0, (l.getD i z29).f1, (l.getD i z29).f2, (l.getD i z29).f3⟩ = true from hok2.1, if_pos rfl]
   by_cases hi : 0 < i
   ·rw [if_pos (by omega), hw1 hi, hmx, if_pos (by omega), if_pos (by omega), hrd1, if_neg (by omega), hw]
   ·rw [if_neg (by omega), hw]
  | false =>
   rw [hbad hok]
   have hok2 := hok
   unfold okAt at hok2
   refine Ev.now 0 fun k _ => ?_
   simp only [calxref08_book.l0]
   rw [if_pos (by omega), if_pos (by omega), hrd, ref_entry]
   simp only [Option.bind_some]
   by_cases hr : rightP (l.getD i z29) = true
   ·rw [hr, Bool.true_and, Bool.or_eq_false_iff, decide_eq_false_iff_not, decide_eq_false_iff_not] at hok2
    rw [show rightP ⟨(l.getD i z29).f0, (l.getD i z29).f1, (l.getD i z29).f2, (l.getD i z29).f3⟩ = true from hr, if_pos rfl, if_pos (by omega), hw1 (by omega), hmx, if_pos (by omega), if_pos (by omega), hrd1, if_pos (by omega)]
   ·rw [show rightP ⟨(l.getD i z29).f0, (l.getD i z29).f1, (l.getD i z29).f2, (l.getD i z29).f3⟩ = false from Bool.eq_false_iff.2 hr, if_neg (by decide)]
theorem slots_l0 {l : List S34} (hl : l.length ≤ 1000) (h80 : ∀ p ∈ l, p.f1.length ≤ 1000) : ∀ (d i : Nat), i + d = l.length →
  ((l.drop i).all pieceP = false → Ev (fun k => calxref08_slots.l0 k l (i : Int)) ([], 1)) ∧
  ((l.drop i).all pieceP = true → ∀ r, Ev (fun k => calxref08_slots.l1 k l (slotsOf (fun _ => none)) 0) r → Ev (fun k => calxref08_slots.l0 k l (i : Int)) r) := by
 intro d
 induction d with
 | zero =>
  intro i hi
  rw [List.drop_eq_nil_of_le (by omega)]
  refine ⟨(fun h => by cases h), fun _ r hr => ?_⟩
  refine hr.step 0 fun k _ => ?_
  simp only [calxref08_slots.l0]
  rw [if_neg (by omega), if_pos (by decide), slotsOf_none]
 | succ d ih =>
  intro i hi
  have h1 : i < l.length := by omega
  obtain ⟨p, hp⟩ : ∃ p, p = l[i] := ⟨_, rfl⟩
  have hpm : p ∈ l := by rw [hp]; exact List.getElem_mem _
  have hp80 := h80 p hpm
  have hb : Ev (fun k => calxref08_book.f k p.f1) (followsP p.f1) := ref_book_ev p.f1 hp80 p.f1.length 0 (by omega) (by omega) (fun j hj => absurd hj (by omega))
  have hw := wrap_nat (i := i) (by omega)
  have hw2 : wrap64 (64 - (p.f1.length : Int)) = 64 - (p.f1.length : Int) := by unfold wrap64; omega
  obtain ⟨ih1, ih2⟩ := ih (i + 1) (by omega)
  rw [List.drop_eq_getElem_cons h1, List.all_cons, ← hp]
  cases hpp : pieceP p with
  | false =>
   refine ⟨fun _ => ?_, fun h => by rw [Bool.false_and] at h; cases h⟩
   obtain ⟨k0, hk0⟩ := hb
   replace hk0 : ∀ k, k0 ≤ k → calxref08_book.f k p.f1 = some (followsP p.f1) := hk0
   refine Ev.now k0 fun k hk => ?_
   simp only [calxref08_slots.l0]
   rw [if_pos (by omega), if_pos (by omega), rd34_getElem h1, ← hp, hk0 k hk]
   simp only [Option.bind_some, hw2]
   unfold pieceP at hpp
   by_cases c1 : p.f0 < 0
   ·rw [if_pos c1]
   ·rw [if_neg c1]
    by_cases c2 : (p.f1.length : Int) < 1
    ·rw [if_pos c2]
    ·rw [if_neg c2]
     by_cases c3 : (p.f1.length : Int) > 64
     ·rw [if_pos c3]
     ·rw [if_neg c3]
      by_cases c4 : p.f0 > 64 - (p.f1.length : Int)
      ·rw [if_pos c4]
      ·rw [if_neg c4]
       have : followsP p.f1 = false := by
        rw [decide_eq_true (show 1 ≤ (p.f1.length : Int) ∧ (p.f1.length : Int) ≤ 64 by omega), decide_eq_true (show 0 ≤ p.f0 ∧ p.f0 ≤ 64 - (p.f1.length : Int) by omega)] at hpp
        simpa using hpp
       rw [this, if_neg (by decide)]
  | true =>
   have hfit := pieceP_fits hpp
   have hfol : followsP p.f1 = true := by
    unfold pieceP at hpp
    simp only [Bool.and_eq_true] at hpp
    exact hpp.2.2
   unfold Fits at hfit
   have go : ∀ r, Ev (fun k => calxref08_slots.l0 k l ((i + 1 : Nat) : Int)) r → Ev (fun k => calxref08_slots.l0 k l (i : Int)) r := fun r hr => by
    obtain ⟨k0, hk0⟩ := hb
    replace hk0 : ∀ k, k0 ≤ k → calxref08_book.f k p.f1 = some (followsP p.f1) := hk0
    refine hr.step k0 fun k hk => ?_
    simp only [calxref08_slots.l0]
    rw [if_pos (by omega), if_pos (by omega), rd34_getElem h1, ← hp, hk0 k hk]
    simp only [Option.bind_some, hw2]
    rw [if_neg (by omega), if_neg (by omega), if_neg (by omega), if_neg (by omega), hfol, if_pos rfl, hw]
   rw [Bool.true_and]
   exact ⟨fun h => go _ (ih1 h), fun h r hr => go _ (ih2 h r hr)⟩
def slotsR (l : List S34) : List S179 × Int := if checkPiecesP l = 0 then (match laidP l with | some M => (slotsOf M, 0) | none => ([], 0)) else ([], checkPiecesP l)
theorem slots_ev {l : List S34} (hl : l.length ≤ 1000) (h80 : ∀ p ∈ l, p.f1.length ≤ 1000) : Ev (fun k => calxref08_slots.f k l) (slotsR l) := by
 unfold slotsR checkPiecesP
 by_cases h12 : 12 < l.length
 ·rw [if_pos h12]
  refine Ev.same (g := fun _ => some ([], 2)) ⟨0, fun _ _ => rfl⟩ 0 fun k _ => ?_
  unfold calxref08_slots.f
  rw [if_pos (by omega)]
 ·rw [if_neg h12]
  obtain ⟨g1, g2⟩ := slots_l0 hl h80 l.length 0 (by omega)
  rw [List.drop_zero] at g1 g2
  have enter : ∀ r, Ev (fun k => calxref08_slots.l0 k l ((0 : Nat) : Int)) r → Ev (fun k => calxref08_slots.f k l) r := fun r hr => hr.same 0 fun k _ => by
   unfold calxref08_slots.f
   rw [if_neg (by omega)]
   rfl
  cases hall : l.all pieceP with
  | false => exact enter _ (g1 hall)
  | true =>
   have hfit : ∀ p ∈ l, Fits p := fun p hp => pieceP_fits (List.all_eq_true.1 hall p hp)
   obtain ⟨k1, k2⟩ := slots_l1 hl hfit l.length 0 (fun _ => none) (by omega)
   rw [List.drop_zero] at k1 k2
   have g2' := g2 hall
   simp only [if_true]
   cases hM : laidP l with
   | none => exact enter _ (g2' _ (k1 hM))
   | some M =>
    have h3 := slots_l3 M 64 0 0 (by omega)
    refine enter _ (g2' _ (k2 M hM _ ?_))
    show Ev _ (if (if ordered M 64 0 0 = true then (0 : Int) else 9) = 0 then (slotsOf M, (0 : Int)) else ([], (if ordered M 64 0 0 = true then (0 : Int) else 9)))
    cases ho : ordered M 64 0 0 with
    | true =>
     rw [show ((0 : Nat) : Int) = 0 from rfl, ho] at h3
     exact h3
    | false =>
     rw [show ((0 : Nat) : Int) = 0 from rfl, ho] at h3
     exact h3
theorem set_new (out : List S34) (i : Int) (x : S29) : (out ++ [(⟨i, []⟩ : S34)]).set out.length ⟨i, ([] : List S29) ++ [x]⟩ = out ++ [⟨i, [x]⟩] := by
 rw [List.set_append_right _ _ (Nat.le_refl _), Nat.sub_self]
 rfl
theorem ref_join_ev {M : Laid} (hneg : ∀ k, k < 0 → M k = none) {e : Int} : ∀ (d i : Nat) (out : List S34), i + d = 64 → out.length ≤ i → (∀ p ∈ out, p.f1.length ≤ i) → ((M ((i : Int) - 1)).isSome = true → 0 < out.length) →
  Ev (fun k => calxref08_Join.l0 k out (i : Int) (slotsOf M) e) (joinFrom M d (i : Int) out, 0) := by
 intro d
 induction d with
 | zero =>
  intro i out hi _ _ _
  refine Ev.now 0 fun k _ => ?_
  simp only [calxref08_Join.l0]
  rw [slotsOf_length, if_neg (by omega)]
  rfl
 | succ d ih =>
  intro i out hi hlen hent hlast
  have h1 : i < 64 := by omega
  have hw := wrap_nat (i := i) (by omega)
  have hat := slotsOf_at M h1
  have hi1 : ((i + 1 : Nat) : Int) - 1 = (i : Int) := by omega
  have hi2 : ((i + 1 : Nat) : Int) = (i : Int) + 1 := by omega
  cases hM : M (i : Int) with
  | none =>
   rw [hM] at hat
   have e1 : joinFrom M (d + 1) (i : Int) out = joinFrom M d ((i + 1 : Nat) : Int) out := by rw [joinFrom, hM, hi2]
   rw [e1]
   refine (ih (i + 1) out (by omega) (by omega) (fun p hp => by have := hent p hp; omega) (fun h => by rw [hi1, hM] at h; cases h)).step 0 fun k _ => ?_
   simp only [calxref08_Join.l0]
   rw [slotsOf_length, if_pos (by omega), if_pos (by omega), hat, if_neg (by decide), hw]
  | some x =>
   rw [hM] at hat
   have hnew : (M ((i : Int) - 1)).isSome ≠ true → Ev (fun k => calxref08_Join.l0 k (out ++ [⟨(i : Int), [x]⟩]) ((i + 1 : Nat) : Int) (slotsOf M) e) (joinFrom M (d + 1) (i : Int) out, 0) := by
    intro hn
    have e1 : joinFrom M (d + 1) (i : Int) out = joinFrom M d ((i + 1 : Nat) : Int) (out ++ [⟨(i : Int), [x]⟩]) := by rw [joinFrom, hM, hi2]; exact if_neg hn
    rw [e1]
    refine ih (i + 1) _ (by omega) (by rw [List.length_append, List.length_singleton]; omega) (fun p hp => ?_) (fun _ => by simp)
    rcases List.mem_append.1 hp with hp | hp
    ·have := hent p hp; omega
    ·rw [List.mem_singleton.1 hp]; show 1 ≤ i + 1; omega
   have hwl : wrap64 (((out ++ [(⟨(i : Int), ([] : List S29)⟩ : S34)]).length : Int) - 1) = (out.length : Int) := by rw [List.length_append, List.length_singleton]; unfold wrap64; omega
   have hll : ((out ++ [(⟨(i : Int), ([] : List S29)⟩ : S34)]).length : Int) = (out.length : Int) + 1 := by rw [List.length_append, List.length_singleton]; push_cast; rfl
   have hrl : rd_T34 (out ++ [(⟨(i : Int), ([] : List S29)⟩ : S34)]) (out.length : Int) = ⟨(i : Int), []⟩ := by unfold rd_T34; simp [List.getD_eq_getElem?_getD]
   have hsx : (⟨(slotOf (some x)).f0.f0, (slotOf (some x)).f0.f1, (slotOf (some x)).f0.f2, (slotOf (some x)).f0.f3⟩ : S29) = x := rfl
   by_cases h0 : i = 0
   ·subst h0
    refine (hnew (by rw [hneg _ (by omega)]; simp)).step 0 fun k _ => ?_
    simp only [calxref08_Join.l0]
    rw [slotsOf_length, if_pos (by omega), if_pos (by omega), hat, if_pos (slot_some x), if_pos (by omega), if_pos (by omega), Option.bind_some, hwl, hll, if_pos (by omega), if_pos (by omega), hrl, hsx, Int.toNat_natCast, set_new, hw]
    exact if_pos (by simp)
   ·have hw1 : wrap64 ((i : Int) - 1) = (i : Int) - 1 := by unfold wrap64; omega
    have hmx : mx 0 ((i : Int) - 1) = ((i - 1 : Nat) : Int) := by unfold mx; split <;> omega
    have hat1 := slotsOf_at M (q := i - 1) (by omega)
    have hcast : ((i - 1 : Nat) : Int) = (i : Int) - 1 := by omega
    cases hM1 : M ((i : Int) - 1) with
    | none =>
     rw [hcast, hM1] at hat1
     refine (hnew (by rw [hM1]; simp)).step 0 fun k _ => ?_
     simp only [calxref08_Join.l0]
     rw [slotsOf_length, if_pos (by omega), if_pos (by omega), hat, if_pos (slot_some x), if_neg (by omega), hw1, hmx, if_pos (by omega), if_pos (by omega), hcast, hat1, if_neg (by decide), if_pos (by omega), Option.bind_some, hwl, hll, if_pos (by omega), if_pos (by omega), hrl, hsx, Int.toNat_natCast, set_new, hw]
     exact if_pos (by simp)
    | some y =>
     rw [hcast, hM1] at hat1
     have hpos := hlast (by rw [hM1]; rfl)
     have e1 : joinFrom M (d + 1) (i : Int) out = joinFrom M d ((i + 1 : Nat) : Int) (addLast out x) := by rw [joinFrom, hM, hi2]; exact if_pos (by rw [hM1]; rfl)
     have hwo : wrap64 ((out.length : Int) - 1) = ((out.length - 1 : Nat) : Int) := by unfold wrap64; omega
     have hro : rd_T34 out ((out.length - 1 : Nat) : Int) = out.getD (out.length - 1) z34 := rfl
     have hm : out.getD (out.length - 1) z34 ∈ out := by
      rw [List.getD_eq_getElem?_getD, List.getElem?_eq_getElem (show out.length - 1 < out.length by omega)]
      exact List.getElem_mem _
     rw [e1]
     refine (ih (i + 1) (addLast out x) (by omega) (by unfold addLast; rw [List.length_set]; omega) (fun p hp => ?_) (fun _ => by unfold addLast; rw [List.length_set]; exact hpos)).step 0 fun k _ => ?_
     ·unfold addLast at hp
      rcases List.mem_or_eq_of_mem_set hp with hp | hp
      ·have := hent p hp; omega
      ·rw [hp]
       have := hent _ hm
       show (_ ++ [x]).length ≤ i + 1
       rw [List.length_append, List.length_singleton]; omega
     ·simp only [calxref08_Join.l0]
      have hb := hent _ hm
      rw [slotsOf_length, if_pos (by omega), if_pos (by omega), hat, if_pos (slot_some x), if_neg (by omega), hw1, hmx, if_pos (by omega), if_pos (by omega), hcast, hat1, if_pos (slot_some y), hwo, if_pos (by omega), if_pos (by omega), hro, if_pos (by omega), hsx, Int.toNat_natCast, hw]
      rfl
theorem ref_miss_ev {M : Laid} {many e : Int} (h0 : 0 ≤ many) (h64 : many ≤ 64) : ∀ (d i : Nat) (out : List S39), (i : Int) + d = many → out.length ≤ i →
  Ev (fun k => calxref08_Missing.l0 k many out (i : Int) (slotsOf M) e) (missFrom M d (i : Int) out, 0) := by
 intro d
 induction d with
 | zero =>
  intro i out hi _
  refine Ev.now 0 fun k _ => ?_
  simp only [calxref08_Missing.l0]
  rw [if_neg (by omega)]
  rfl
 | succ d ih =>
  intro i out hi hlen
  have h1 : i < 64 := by omega
  have hw := wrap_nat (i := i) (by omega)
  have hat := slotsOf_at M h1
  have hi2 : ((i + 1 : Nat) : Int) = (i : Int) + 1 := by omega
  have e1 : missFrom M (d + 1) (i : Int) out = missFrom M d ((i + 1 : Nat) : Int) (stepMiss M (i : Int) out) := by rw [missFrom, hi2]
  have hl2 : (stepMiss M (i : Int) out).length ≤ i + 1 := by
   unfold stepMiss
   split
   ·omega
   ·split
    ·rw [List.length_set]; omega
    ·rw [List.length_append, List.length_singleton]; omega
  rw [e1]
  refine (ih (i + 1) _ (by omega) hl2).step 0 fun k _ => ?_
  simp only [calxref08_Missing.l0]
  unfold stepMiss
  cases hM : M (i : Int) with
  | some x =>
   rw [hM] at hat
   rw [if_pos (by omega), if_pos (by omega), slotsOf_length, if_pos (by omega), hat, if_pos (slot_some x), hw, if_pos (show (some x : Option S29).isSome = true from rfl)]
  | none =>
   rw [hM] at hat
   rw [if_pos (by omega), if_pos (by omega), slotsOf_length, if_pos (by omega), hat, if_neg (by decide), if_neg (show ¬ (none : Option S29).isSome = true by decide), hw]
   by_cases hpos : 0 < out.length
   ·have hwo : wrap64 ((out.length : Int) - 1) = ((out.length - 1 : Nat) : Int) := by unfold wrap64; omega
    have hmx : mx 0 ((out.length - 1 : Nat) : Int) = ((out.length - 1 : Nat) : Int) := by unfold mx; split <;> omega
    have hro : rd_T39 out ((out.length - 1 : Nat) : Int) = out.getD (out.length - 1) z39 := rfl
    have hwi : wrap64 ((i : Int) - 1) = (i : Int) - 1 := by unfold wrap64; omega
    rw [if_pos (by omega), hwo, hmx, if_pos (by omega), if_pos (by omega), hro, hwi]
    by_cases hh : (out.getD (out.length - 1) z39).f1 = (i : Int) - 1
    ·rw [if_pos hh, if_pos (by omega), if_pos (by omega), if_pos ⟨hpos, hh⟩, Int.toNat_natCast]
    ·rw [if_neg hh, if_pos (by omega), if_neg (fun h => hh h.2)]
   ·rw [if_neg (by omega), if_pos (by omega), if_neg (fun h => hpos h.1)]
theorem ref_root_is2 (l : List S29) (h : l.length ≤ 64) : calxref08_root.f l = some (rootP l) := by
 unfold calxref08_root.f
 rw [if_pos h]
def allThere (M : Laid) : Nat → Int → Bool
 | 0, _ => true
 | d + 1, i => (M i).isSome && allThere M d (i + 1)
theorem allThere_iff (M : Laid) : ∀ (d : Nat) (i : Int), allThere M d i = true ↔ ∀ q, i ≤ q → q < i + d → M q ≠ none
 | 0, i => by
  constructor
  ·intro _ q h1 h2; omega
  ·intro _; rfl
 | d + 1, i => by
  rw [allThere, Bool.and_eq_true, allThere_iff M d (i + 1)]
  constructor
  ·rintro ⟨h1, h2⟩ q h3 h4
   by_cases hq : q = i
   ·subst hq
    intro e
    rw [e] at h1
    cases h1
   ·exact h2 q (by omega) (by omega)
  ·intro h
   refine ⟨?_, fun q h3 h4 => h q (by omega) (by omega)⟩
   cases hM : M i with
   | none => exact absurd hM (h i (by omega) (by omega))
   | some x => rfl
theorem allThere_miss (M : Laid) (n : Nat) : allThere M n 0 = true ↔ (missFrom M n 0 []).length = 0 := by
 have hcov := miss_inv (M := M) n 0 [] (Int.le_refl _) (fun s hs => by cases hs) (fun q' => by
  constructor
  ·rintro ⟨s, hs, _⟩; cases hs
  ·rintro ⟨h1, h2, _⟩; omega)
 have hwf := miss_wf (M := M) n 0 [] (fun s hs => by cases hs)
 rw [allThere_iff]
 constructor
 ·intro h
  cases hm : missFrom M n 0 [] with
  | nil => rfl
  | cons s r =>
   exfalso
   have h1 := hwf s (by rw [hm]; simp)
   obtain ⟨h2, h3, h4⟩ := (hcov s.f0).1 ⟨s, by rw [hm]; simp, Int.le_refl _, h1⟩
   exact h s.f0 h2 (by omega) h4
 ·intro h q h1 h2 h3
  obtain ⟨s, hs, _⟩ := (hcov q).2 ⟨h1, h2, h3⟩
  rw [List.eq_nil_of_length_eq_zero h] at hs
  cases hs
theorem ref_whole_ev {M : Laid} {many r e : Int} (h0 : 0 ≤ many) (h64 : many ≤ 64) : ∀ (d i : Nat) (out : List S29), (i : Int) + d = many → out.length = i →
  Ev (fun k => calxref08_Whole.l0 k many r out (i : Int) (slotsOf M) e) (if allThere M d (i : Int) = true then (if rootP (out ++ valsFrom M d (i : Int)) = r then (out ++ valsFrom M d (i : Int), 0) else ([], 8)) else ([], 5)) := by
 intro d
 induction d with
 | zero =>
  intro i out hi hlen
  refine Ev.now 0 fun k _ => ?_
  simp only [calxref08_Whole.l0]
  rw [if_neg (by omega), ref_root_is2 out (by omega), Option.bind_some, allThere, if_pos rfl, valsFrom, List.append_nil]
  by_cases hr : rootP out = r
  ·rw [if_pos hr, if_pos hr]
  ·rw [if_neg hr, if_neg hr]
 | succ d ih =>
  intro i out hi hlen
  have h1 : i < 64 := by omega
  have hw := wrap_nat (i := i) (by omega)
  have hat := slotsOf_at M h1
  have hi2 : ((i + 1 : Nat) : Int) = (i : Int) + 1 := by omega
  rw [allThere, valsFrom, ← hi2]
  cases hM : M (i : Int) with
  | none =>
   rw [hM] at hat
   refine Ev.now 0 fun k _ => ?_
   simp only [calxref08_Whole.l0]
   rw [if_pos (by omega), if_pos (by omega), slotsOf_length, if_pos (by omega), hat, if_neg (by decide)]
   rfl
  | some x =>
   rw [hM] at hat
   have hsx : (⟨(slotOf (some x)).f0.f0, (slotOf (some x)).f0.f1, (slotOf (some x)).f0.f2, (slotOf (some x)).f0.f3⟩ : S29) = x := rfl
   have hih := ih (i + 1) (out ++ [x]) (by omega) (by rw [List.length_append, hlen, List.length_singleton])
   rw [List.append_assoc] at hih
   refine hih.step 0 fun k _ => ?_
   simp only [calxref08_Whole.l0]
   rw [if_pos (by omega), if_pos (by omega), slotsOf_length, if_pos (by omega), hat, if_pos (slot_some x), if_pos (by omega), hsx, hw]
theorem few_len {l : List S29} (h : calxlaw08_few.f l = some true) : l.length ≤ 80 := by
 unfold calxlaw08_few.f at h
 split at h
 ·omega
 ·split at h
  ·have := Option.some.inj h
   rw [decide_eq_true_eq] at this
   omega
  ·cases h
theorem bits_ev2 (l : List S34) (hl : l.length ≤ 9223372036854775807) : ∃ b, Ev (fun k => calxlaw08_bits.f k l) b ∧ (b = true → l.length ≤ 20 ∧ ∀ p ∈ l, p.f1.length ≤ 80) := by
 suffices h : ∀ (d i : Nat), i + d = l.length → ∃ b, Ev (fun k => calxlaw08_bits.l0 k l (i : Int)) b ∧ (b = true → l.length ≤ 20 ∧ ∀ p ∈ l.drop i, p.f1.length ≤ 80) by
  obtain ⟨b, h1, h2⟩ := h l.length 0 (by omega)
  exact ⟨b, h1.same 0 (fun k _ => rfl), h2⟩
 intro d
 induction d with
 | zero =>
  intro i hi
  refine ⟨decide ((l.length : Int) ≤ 20), Ev.now 0 fun k _ => ?_, fun h => ⟨by have := of_decide_eq_true h; omega, fun p hp => by rw [List.drop_eq_nil_of_le (by omega)] at hp; cases hp⟩⟩
  simp only [calxlaw08_bits.l0]
  rw [if_neg (by omega)]
 | succ d ih =>
  intro i hi
  have h1 : i < l.length := by omega
  have hw : wrap64 ((i : Int) + 1) = ((i + 1 : Nat) : Int) := by unfold wrap64; omega
  obtain ⟨c, hc⟩ := few_some l[i].f1
  cases c with
  | true =>
   obtain ⟨b, h2, h3⟩ := ih (i + 1) (by omega)
   refine ⟨b, h2.step 0 fun k _ => ?_, fun h => ⟨(h3 h).1, fun p hp => ?_⟩⟩
   ·simp only [calxlaw08_bits.l0]
    rw [if_pos (by omega), if_pos (by omega), rd34_getElem h1, hc, Option.bind_some, if_pos rfl, hw]
   ·rw [List.drop_eq_getElem_cons h1] at hp
    rcases List.mem_cons.1 hp with rfl | hp
    ·exact few_len hc
    ·exact (h3 h).2 p hp
  | false =>
   refine ⟨false, Ev.now 0 fun k _ => ?_, fun h => by cases h⟩
   simp only [calxlaw08_bits.l0]
   rw [if_pos (by omega), if_pos (by omega), rd34_getElem h1, hc, Option.bind_some, if_neg (by decide)]
theorem same_spans {a : List S39} (hl : a.length ≤ 1000) : Ev (fun k => calxref08_SameSpans.f k a a) true := by
 have h : ∀ (d i : Nat), i + d = a.length → Ev (fun k => calxref08_SameSpans.l0 k a a (i : Int)) true := by
  intro d
  induction d with
  | zero =>
   intro i hi
   refine Ev.now 0 fun k _ => ?_
   simp only [calxref08_SameSpans.l0]
   rw [if_neg (by omega)]
  | succ d ih =>
   intro i hi
   refine (ih (i + 1) (by omega)).step 0 fun k _ => ?_
   simp only [calxref08_SameSpans.l0]
   rw [if_pos (by omega), if_pos (by omega), if_pos (by omega), if_neg (by simp), wrap_nat (by omega)]
 refine (h a.length 0 (by omega)).same 0 fun k _ => ?_
 unfold calxref08_SameSpans.f
 rw [if_pos rfl]
 rfl
theorem miss_len (l : List S34) (many : Int) : (missP l many).1.length ≤ 64 := by
 unfold missP
 split
 ·split
  ·split
   ·rename_i h _ M _
    have := missFrom_len M many.toNat 0 []
    show (missFrom M many.toNat 0 []).length ≤ 64
    simp at this
    omega
   ·exact Nat.zero_le _
  ·exact Nat.zero_le _
 ·exact Nat.zero_le _
theorem ref_miss_P {l : List S34} (hs : Ev (fun k => calxref08_slots.f k l) (slotsR l)) (many : Int) : Ev (fun k => calxref08_Missing.f k l many) (missP l many) := by
 obtain ⟨k0, hk0⟩ := hs
 replace hk0 : ∀ k, k0 ≤ k → calxref08_slots.f k l = some (slotsR l) := hk0
 unfold missP
 by_cases hc : checkPiecesP l = 0
 ·obtain ⟨h12, hall, M, hM, hord, hneg⟩ := checkPieces_ok hc
  have hR : slotsR l = (slotsOf M, 0) := by unfold slotsR; rw [if_pos hc, hM]
  rw [if_pos hc]
  by_cases hm : 0 ≤ many ∧ many ≤ 64
  ·rw [if_pos hm, hM]
   refine Ev.same (g := fun k => calxref08_Missing.l0 k many [] ((0 : Nat) : Int) (slotsOf M) 0) (ref_miss_ev hm.1 hm.2 many.toNat 0 [] (by omega) (Nat.le_refl _)) k0 fun k hk => ?_
   unfold calxref08_Missing.f
   rw [hk0 k hk, hR]
   simp only [Option.bind_some, if_true, ref_within, decide_eq_true hm]
   rfl
  ·rw [if_neg hm]
   refine Ev.same (g := fun _ => some ([], 1)) ⟨0, fun _ _ => rfl⟩ k0 fun k hk => ?_
   unfold calxref08_Missing.f
   rw [hk0 k hk, hR]
   simp only [Option.bind_some, if_true, ref_within, decide_eq_false hm]
   rfl
 ·have hR : slotsR l = ([], checkPiecesP l) := by unfold slotsR; rw [if_neg hc]
  rw [if_neg hc]
  refine Ev.same (g := fun _ => some ([], checkPiecesP l)) ⟨0, fun _ _ => rfl⟩ k0 fun k hk => ?_
  unfold calxref08_Missing.f
  rw [hk0 k hk, hR]
  simp only [Option.bind_some]
  rw [if_neg hc]
theorem ref_join_P {l : List S34} (hs : Ev (fun k => calxref08_slots.f k l) (slotsR l)) : Ev (fun k => calxref08_Join.f k l) (joinP l) := by
 obtain ⟨k0, hk0⟩ := hs
 replace hk0 : ∀ k, k0 ≤ k → calxref08_slots.f k l = some (slotsR l) := hk0
 by_cases hc : checkPiecesP l = 0
 ·obtain ⟨h12, hall, M, hM, hord, hneg⟩ := checkPieces_ok hc
  have hR : slotsR l = (slotsOf M, 0) := by unfold slotsR; rw [if_pos hc, hM]
  have hP : joinP l = (joinFrom M 64 0 [], 0) := by
   unfold joinP
   rw [hM]
   exact if_pos hc
  rw [hP]
  refine Ev.same (g := fun k => calxref08_Join.l0 k [] ((0 : Nat) : Int) (slotsOf M) 0) (ref_join_ev hneg 64 0 [] (by omega) (Nat.le_refl _) (fun p hp => by cases hp) (fun h => by rw [hneg _ (by omega)] at h; cases h)) k0 fun k hk => ?_
  unfold calxref08_Join.f
  rw [hk0 k hk, hR]
  simp only [Option.bind_some, if_true]
  rfl
 ·have hR : slotsR l = ([], checkPiecesP l) := by unfold slotsR; rw [if_neg hc]
  have hP : joinP l = ([], checkPiecesP l) := by
   unfold joinP
   cases laidP l with
   | none => rfl
   | some M => exact if_neg hc
  rw [hP]
  refine Ev.same (g := fun _ => some ([], checkPiecesP l)) ⟨0, fun _ _ => rfl⟩ k0 fun k hk => ?_
  unfold calxref08_Join.f
  rw [hk0 k hk, hR]
  simp only [Option.bind_some]
  rw [if_neg hc]
theorem ref_whole_P {l : List S34} (hs : Ev (fun k => calxref08_slots.f k l) (slotsR l)) (many r : Int) : Ev (fun k => calxref08_Whole.f k l many r) (wholeP l many r) := by
 obtain ⟨k0, hk0⟩ := hs
 replace hk0 : ∀ k, k0 ≤ k → calxref08_slots.f k l = some (slotsR l) := hk0
 unfold wholeP missP
 by_cases hc : checkPiecesP l = 0
 ·obtain ⟨h12, hall, M, hM, hord, hneg⟩ := checkPieces_ok hc
  have hR : slotsR l = (slotsOf M, 0) := by unfold slotsR; rw [if_pos hc, hM]
  rw [if_pos hc]
  have hj1 : ∀ k, calxref08_Whole.j0 (k + 1) many r true (slotsOf M) 0 = some ([], 1) := fun k => by
   simp only [calxref08_Whole.j0]
   rw [if_pos trivial]
  by_cases hm : 0 ≤ many ∧ many ≤ 64
  ·rw [if_pos hm, hM]
   show Ev _ (if (0 : Int) = 0 then (if isDigP r = true then (if (missFrom M many.toNat 0 []).length = 0 then (if rootP (valsFrom M many.toNat 0) = r then (valsFrom M many.toNat 0, 0) else ([], 8)) else ([], 5)) else ([], 1)) else ([], 0))
   rw [if_pos rfl]
   by_cases hd : isDigP r = true
   ·rw [if_pos hd]
    have hw := ref_whole_ev (M := M) (r := r) (e := 0) hm.1 hm.2 many.toNat 0 [] (by omega) rfl
    rw [show ((0 : Nat) : Int) = 0 from rfl, List.nil_append] at hw
    have e1 : (if allThere M many.toNat 0 = true then (if rootP (valsFrom M many.toNat 0) = r then (valsFrom M many.toNat 0, (0 : Int)) else ([], 8)) else ([], 5)) = (if (missFrom M many.toNat 0 []).length = 0 then (if rootP (valsFrom M many.toNat 0) = r then (valsFrom M many.toNat 0, 0) else ([], 8)) else ([], 5)) := by
     by_cases ht : allThere M many.toNat 0 = true
     ·rw [if_pos ht, if_pos ((allThere_miss M _).1 ht)]
     ·rw [if_neg ht, if_neg (fun h => ht ((allThere_miss M _).2 h))]
    rw [e1] at hw
    refine Ev.same (g := fun k => calxref08_Whole.j0 k many r false (slotsOf M) 0) (hw.step 0 fun k _ => ?_) k0 fun k hk => ?_
    ·simp only [calxref08_Whole.j0]
     rw [if_neg (by decide)]
    ·unfold calxref08_Whole.f
     rw [hk0 k hk, hR]
     simp only [Option.bind_some, if_true, ref_within, ref_isDigest, decide_eq_true hm, hd]
     rfl
   ·rw [if_neg hd]
    have hd' : isDigP r = false := Bool.eq_false_iff.2 hd
    refine Ev.same (g := fun k => calxref08_Whole.j0 k many r true (slotsOf M) 0) (Ev.now 0 fun k _ => hj1 k) k0 fun k hk => ?_
    unfold calxref08_Whole.f
    rw [hk0 k hk, hR]
    simp only [Option.bind_some, if_true, ref_within, ref_isDigest, decide_eq_true hm, hd']
    rfl
  ·rw [if_neg hm]
   show Ev _ (if (1 : Int) = 0 then _ else ([], 1))
   rw [if_neg (by decide)]
   refine Ev.same (g := fun k => calxref08_Whole.j0 k many r true (slotsOf M) 0) (Ev.now 0 fun k _ => hj1 k) k0 fun k hk => ?_
   unfold calxref08_Whole.f
   rw [hk0 k hk, hR]
   simp only [Option.bind_some, if_true, ref_within, ref_isDigest, decide_eq_false hm]
   rfl
 ·have hR : slotsR l = ([], checkPiecesP l) := by unfold slotsR; rw [if_neg hc]
  rw [if_neg hc]
  show Ev _ (if checkPiecesP l = 0 then _ else ([], checkPiecesP l))
  rw [if_neg hc]
  refine Ev.same (g := fun _ => some ([], checkPiecesP l)) ⟨0, fun _ _ => rfl⟩ k0 fun k hk => ?_
  unfold calxref08_Whole.f
  rw [hk0 k hk, hR]
  simp only [Option.bind_some]
  rw [if_neg hc]
theorem join_small (l : List S34) : (joinP l).1.length ≤ 64 ∧ ∀ p ∈ (joinP l).1, p.f1.length ≤ 64 := by
 by_cases hc : checkPiecesP l = 0
 ·obtain ⟨M, j, hM, hord, hj, hjj, hinv, hlj, hin, hall⟩ := join_all hc
  rw [hj]
  have hlen := apart_len hinv.good hinv.apart
  refine ⟨?_, fun p hp => by have := hinv.good p hp; omega⟩
  show j.length ≤ 64
  by_cases h0 : j.length = 0
  ·omega
  ·have h1 := hlen (j.length - 1) (by omega)
   have h2 := hinv.good j[j.length - 1] (List.getElem_mem _)
   omega
 ·have hP : joinP l = ([], checkPiecesP l) := by
   unfold joinP
   cases laidP l with
   | none => rfl
   | some M => exact if_neg hc
  rw [hP]
  exact ⟨Nat.zero_le _, fun p hp => by cases hp⟩
theorem vals_len (M : Laid) : ∀ (d : Nat) (i : Int), (valsFrom M d i).length = d
 | 0, _ => rfl
 | d + 1, i => by rw [valsFrom, List.length_cons, vals_len M d (i + 1)]
theorem whole_len (l : List S34) (many r : Int) : (wholeP l many r).1.length ≤ 64 := by
 unfold wholeP
 by_cases h : (missP l many).2 = 0
 ·rw [if_pos h]
  by_cases hd : isDigP r = true
  ·rw [if_pos hd]
   by_cases hz : (missP l many).1.length = 0
   ·rw [if_pos hz]
    have hm : 0 ≤ many ∧ many ≤ 64 := by
     unfold missP at h
     by_cases hc : checkPiecesP l = 0
     ·rw [if_pos hc] at h
      by_cases hm : 0 ≤ many ∧ many ≤ 64
      ·exact hm
      ·rw [if_neg hm] at h; cases h
     ·rw [if_neg hc] at h; exact absurd h hc
    cases laidP l with
    | none => exact Nat.zero_le _
    | some M =>
     show (if rootP (valsFrom M many.toNat 0) = r then (valsFrom M many.toNat 0, (0 : Int)) else ([], 8)).1.length ≤ 64
     split
     ·show (valsFrom M many.toNat 0).length ≤ 64
      rw [vals_len]; omega
     ·exact Nat.zero_le _
   ·rw [if_neg hz]; exact Nat.zero_le _
  ·rw [if_neg hd]; exact Nat.zero_le _
 ·rw [if_neg h]; exact Nat.zero_le _
theorem bits_any : ∀ (k : Nat) (l : List S34) (i : Int), 0 ≤ i → i < 9223372036854775808 → calxlaw08_bits.l0 k l i = some true → l.length ≤ 20 ∧ ∀ p ∈ l.drop i.toNat, p.f1.length ≤ 80
 | 0, _, _, _, _, h => by simp [calxlaw08_bits.l0] at h
 | k + 1, l, i, h0, hi, h => by
  simp only [calxlaw08_bits.l0] at h
  by_cases h1 : i < (l.length : Int)
  ·rw [if_pos h1, if_pos h0] at h
   obtain ⟨j, hj⟩ : ∃ j : Nat, i = (j : Int) := ⟨i.toNat, by omega⟩
   subst hj
   have hjl : j < l.length := by omega
   rw [rd34_getElem hjl] at h
   obtain ⟨t, h2, h3⟩ := Option.bind_eq_some_iff.mp h
   by_cases ht : t = true
   ·subst ht
    rw [if_pos rfl] at h3
    by_cases hw : (j : Int) + 1 < 9223372036854775808
    ·rw [show wrap64 ((j : Int) + 1) = ((j + 1 : Nat) : Int) by unfold wrap64; omega] at h3
     obtain ⟨h4, h5⟩ := bits_any k l ((j + 1 : Nat) : Int) (by omega) (by omega) h3
     refine ⟨h4, fun p hp => ?_⟩
     rw [Int.toNat_natCast] at h5 hp
     rw [List.drop_eq_getElem_cons hjl] at hp
     rcases List.mem_cons.1 hp with rfl | hp
     ·exact few_len h2
     ·exact h5 p hp
    ·exfalso
     rw [show wrap64 ((j : Int) + 1) = -9223372036854775808 by unfold wrap64; omega] at h3
     cases k with
     | zero => simp [calxlaw08_bits.l0] at h3
     | succ k =>
      simp only [calxlaw08_bits.l0] at h3
      rw [if_pos (by omega), if_neg (by omega)] at h3
      cases h3
   ·rw [if_neg ht] at h3; cases h3
  ·rw [if_neg h1] at h
   have := of_decide_eq_true (Option.some.inj h)
   refine ⟨by omega, fun p hp => ?_⟩
   rw [List.drop_eq_nil_of_le (by omega)] at hp
   cases hp
theorem ev_is {α : Type} {g : Nat → Option α} (hm : ∀ k, LeO (g k) (g (k + 1))) {k : Nat} {x y : α} (h1 : g k = some x) (h2 : Ev g y) : x = y := by
 obtain ⟨k0, h0⟩ := h2
 have h3 := at_rounds (g := g) hm (Nat.le_max_left k k0) h1
 exact Option.some.inj (h3.symm.trans (h0 _ (Nat.le_max_right k k0)))
theorem pieces_same {k : Nat} {l : List S34} {many r : Int} {x y : List S34 × Int} {u v : List S39 × Int} {s t : List S29 × Int} {c d : Int} (hb : calxlaw08_bits.f k l = some true)
  (h1 : book_Join.f l = some x) (h2 : calxref08_Join.f k l = some y) (h3 : book_Missing.f l many = some u) (h4 : calxref08_Missing.f k l many = some v) (h5 : book_Whole.f l many r = some s)
  (h6 : calxref08_Whole.f k l many r = some t) (h7 : book_CheckPieces.f l = some c) (h8 : calxref08_CheckPieces.f k l = some d) :
  x = y ∧ u = v ∧ s = t ∧ c = d ∧ x.1.length ≤ 64 ∧ (∀ p ∈ x.1, p.f1.length ≤ 64) ∧ u.1.length ≤ 64 ∧ s.1.length ≤ 64 := by
 obtain ⟨h20, h80⟩ := bits_any k l 0 (by omega) (by omega) hb
 have hs := slots_ev (l := l) (by omega) (fun p hp => by have := h80 p hp; omega)
 have e1 := ev_is (g := fun k => calxref08_Join.f k l) (fun k => calxref08_Join.mono _ k) h2 (ref_join_P hs)
 have e2 := ev_is (g := fun k => calxref08_Missing.f k l many) (fun k => calxref08_Missing.mono _ _ k) h4 (ref_miss_P hs many)
 have e3 := ev_is (g := fun k => calxref08_Whole.f k l many r) (fun k => calxref08_Whole.mono _ _ _ k) h6 (ref_whole_P hs many r)
 have e4 : d = checkPiecesP l := by
  refine ev_is (g := fun k => calxref08_CheckPieces.f k l) (fun k => calxref08_CheckPieces.mono _ k) h8 ?_
  obtain ⟨k5, hk5⟩ := hs
  refine ⟨k5, fun k hk => ?_⟩
  show calxref08_CheckPieces.f k l = some (checkPiecesP l)
  unfold calxref08_CheckPieces.f
  rw [show calxref08_slots.f k l = some (slotsR l) from hk5 k hk, Option.bind_some]
  unfold slotsR
  by_cases hc : checkPiecesP l = 0
  ·obtain ⟨_, _, M, hM, _⟩ := checkPieces_ok hc
   rw [if_pos hc, hM, hc]
  ·rw [if_neg hc]
 have f1 : x = joinP l := (Option.some.inj h1).symm
 have f2 : u = missP l many := (Option.some.inj h3).symm
 have f3 : s = wholeP l many r := (Option.some.inj h5).symm
 have f4 : c = checkPiecesP l := (Option.some.inj h7).symm
 obtain ⟨hj1, hj2⟩ := join_small l
 rw [f1, f2, f3, f4, e1, e2, e3, e4]
 exact ⟨rfl, rfl, rfl, rfl, hj1, hj2, miss_len l many, whole_len l many r⟩
theorem samep_true {k : Nat} {a b : List S34} {t : Bool} (he : a = b) (hl : a.length ≤ 64) (h64 : ∀ p ∈ a, p.f1.length ≤ 64) (h : calxref08_SamePieces.f k a b = some t) : t = true := by
 subst he
 exact ev_is (g := fun k => calxref08_SamePieces.f k a a) (fun k => calxref08_SamePieces.mono _ _ k) h ⟨300, fun k hk => same_pieces hl h64 (by omega)⟩
theorem samesp_true {k : Nat} {a b : List S39} {t : Bool} (he : a = b) (hl : a.length ≤ 64) (h : calxref08_SameSpans.f k a b = some t) : t = true := by
 subst he
 exact ev_is (g := fun k => calxref08_SameSpans.f k a a) (fun k => calxref08_SameSpans.mono _ _ k) h (same_spans (by omega))
theorem samebk_true {k : Nat} {a b : List S29} {t : Bool} (he : a = b) (hl : a.length ≤ 64) (h : calxref08_SameBook.f k a b = some t) : t = true := by
 subst he
 refine ev_is (g := fun k => calxref08_SameBook.f k a a) (fun k => calxref08_SameBook.mono _ _ k) h ⟨300, fun k hk => ?_⟩
 show calxref08_SameBook.f k a a = some true
 rw [same_book hl (by omega), decide_eq_true rfl]
def calxlaw08_BookPieces.f (k : Nat) (l0 : List (S34)) (a1 : Int) (a2 : Int) : Option (Bool) := (calxlaw08_bits.f k l0).bind fun t101 => (if t101 = true then ((book_Join.f l0).bind fun bt103 => ((calxref08_Join.f k l0).bind fun bt107 => ((book_Missing.f l0 a1).bind fun bt112 => ((calxref08_Missing.f k l0 a1).bind fun bt116 => ((book_Whole.f l0 a1 a2).bind fun bt121 => ((calxref08_Whole.f k l0 a1 a2).bind fun bt125 => ((book_CheckPieces.f l0).bind fun t130 => ((calxref08_CheckPieces.f k l0).bind fun t131 => (if t130 = t131 then ((calxref08_SamePieces.f k bt103.1 bt107.1).bind fun t132 => (if t132 = true then ((calxlaw08_sanity.f).bind fun t133 => (if t133 = true then (if bt103.2 = bt107.2 then ((calxref08_SameSpans.f k bt112.1 bt116.1).bind fun t134 => (if t134 = true then (if bt112.2 = bt116.2 then ((calxref08_SameBook.f k bt121.1 bt125.1).bind fun t135 => (if t135 = true then (some (bt121.2 == bt125.2)) else (some false))) else (some false)) else (some false))) else (some false)) else (some false))) else ((calxlaw08_sanity.f).bind fun t136 => (if t136 = true then (some false) else (some false))))) else ((calxlaw08_sanity.f).bind fun t137 => (if t137 = true then (some false) else (some false)))))))))))) else ((calxlaw08_sanity.f).bind fun t102 => (some t102)))
set_option maxHeartbeats 8000000 in
set_option maxRecDepth 100000 in
theorem calxlaw08_BookPieces.calls (k : Nat) (A0 : Option Addr) (c0 : Nat) (l0 : List (S34)) (a1 : Int) (a2 : Int) (r : Bool) (w : World) (hr0 : Kd.C k34 w A0 l0.length l0) (hc0 : l0.length ≤ c0) (h : calxlaw08_BookPieces.f k l0 a1 a2 = some r) :
  Calls Try.prog 12 #[.slice A0 l0.length c0, .int .i64 a1, .int .i64 a2] w fun e w' => e = .returned (.bool r) ∧ Below w.heap.size w w' := by
 have hu89 := Try.underlying89
 have hu92 := Try.underlying92
 have hu50 := Try.underlying50
 have HR0 := Aside0.mk hr0
 have HC0 := Aside0.mk hc0
 clear hr0 hc0
 have HB := Aside0.mk (Below.refl w.heap.size w)
 have H : ((calxlaw08_bits.f k l0).bind fun t101 => (if t101 = true then ((book_Join.f l0).bind fun bt103 => ((calxref08_Join.f k l0).bind fun bt107 => ((book_Missing.f l0 a1).bind fun bt112 => ((calxref08_Missing.f k l0 a1).bind fun bt116 => ((book_Whole.f l0 a1 a2).bind fun bt121 => ((calxref08_Whole.f k l0 a1 a2).bind fun bt125 => ((book_CheckPieces.f l0).bind fun t130 => ((calxref08_CheckPieces.f k l0).bind fun t131 => (if t130 = t131 then ((calxref08_SamePieces.f k bt103.1 bt107.1).bind fun t132 => (if t132 = true then ((calxlaw08_sanity.f).bind fun t133 => (if t133 = true then (if bt103.2 = bt107.2 then ((calxref08_SameSpans.f k bt112.1 bt116.1).bind fun t134 => (if t134 = true then (if bt112.2 = bt116.2 then ((calxref08_SameBook.f k bt121.1 bt125.1).bind fun t135 => (if t135 = true then (some (bt121.2 == bt125.2)) else (some false))) else (some false)) else (some false))) else (some false)) else (some false))) else ((calxlaw08_sanity.f).bind fun t136 => (if t136 = true then (some false) else (some false))))) else ((calxlaw08_sanity.f).bind fun t137 => (if t137 = true then (some false) else (some false)))))))))))) else ((calxlaw08_sanity.f).bind fun t102 => (some t102)))) = some r := h
 clear h
 replace H := Option.bind_eq_some_iff.mp H
 obtain ⟨t101, A40, H⟩ := H
 replace H : (if t101 = true then ((book_Join.f l0).bind fun bt103 => ((calxref08_Join.f k l0).bind fun bt107 => ((book_Missing.f l0 a1).bind fun bt112 => ((calxref08_Missing.f k l0 a1).bind fun bt116 => ((book_Whole.f l0 a1 a2).bind fun bt121 => ((calxref08_Whole.f k l0 a1 a2).bind fun bt125 => ((book_CheckPieces.f l0).bind fun t130 => ((calxref08_CheckPieces.f k l0).bind fun t131 => (if t130 = t131 then ((calxref08_SamePieces.f k bt103.1 bt107.1).bind fun t132 => (if t132 = true then ((calxlaw08_sanity.f).bind fun t133 => (if t133 = true then (if bt103.2 = bt107.2 then ((calxref08_SameSpans.f k bt112.1 bt116.1).bind fun t134 => (if t134 = true then (if bt112.2 = bt116.2 then ((calxref08_SameBook.f k bt121.1 bt125.1).bind fun t135 => (if t135 = true then (some (bt121.2 == bt125.2)) else (some false))) else (some false)) else (some false))) else (some false)) else (some false))) else ((calxlaw08_sanity.f).bind fun t136 => (if t136 = true then (some false) else (some false))))) else ((calxlaw08_sanity.f).bind fun t137 => (if t137 = true then (some false) else (some false)))))))))))) else ((calxlaw08_sanity.f).bind fun t102 => (some t102))) = some r := H
 have A4 := Aside0.mk A40
 clear A40
 by_cases c5 : t101 = true
 ·subst c5
  rw [if_pos rfl] at H
  replace H := Option.bind_eq_some_iff.mp H
  obtain ⟨⟨t103, t104⟩, A60, H⟩ := H
  dsimp only at H
  have A6 := Aside0.mk A60
  clear A60
  replace H := Option.bind_eq_some_iff.mp H
  obtain ⟨⟨t107, t110⟩, A70, H⟩ := H
  dsimp only at H
  have A7 := Aside0.mk A70
  clear A70
  replace H := Option.bind_eq_some_iff.mp H
  obtain ⟨⟨t112, t113⟩, A80, H⟩ := H
  dsimp only at H
  have A8 := Aside0.mk A80
  clear A80
  replace H := Option.bind_eq_some_iff.mp H
  obtain ⟨⟨t116, t119⟩, A90, H⟩ := H
  dsimp only at H
  have A9 := Aside0.mk A90
  clear A90
  replace H := Option.bind_eq_some_iff.mp H
  obtain ⟨⟨t121, t122⟩, A100, H⟩ := H
  dsimp only at H
  have A10 := Aside0.mk A100
  clear A100
  replace H := Option.bind_eq_some_iff.mp H
  obtain ⟨⟨t125, t128⟩, A110, H⟩ := H
  dsimp only at H
  have A11 := Aside0.mk A110
  clear A110
  replace H := Option.bind_eq_some_iff.mp H
  obtain ⟨t130, A120, H⟩ := H
  replace H : ((calxref08_CheckPieces.f k l0).bind fun t131 => (if t130 = t131 then ((calxref08_SamePieces.f k t103 t107).bind fun t132 => (if t132 = true then ((calxlaw08_sanity.f).bind fun t133 => (if t133 = true then (if t104 = t110 then ((calxref08_SameSpans.f k t112 t116).bind fun t134 => (if t134 = true then (if t113 = t119 then ((calxref08_SameBook.f k t121 t125).bind fun t135 => (if t135 = true then (some (t122 == t128)) else (some false))) else (some false)) else (some false))) else (some false)) else (some false))) else ((calxlaw08_sanity.f).bind fun t136 => (if t136 = true then (some false) else (some false))))) else ((calxlaw08_sanity.f).bind fun t137 => (if t137 = true then (some false) else (some false))))) = some r := H
  have A12 := Aside0.mk A120
  clear A120
  replace H := Option.bind_eq_some_iff.mp H
  obtain ⟨t131, A130, H⟩ := H
  replace H : (if t130 = t131 then ((calxref08_SamePieces.f k t103 t107).bind fun t132 => (if t132 = true then ((calxlaw08_sanity.f).bind fun t133 => (if t133 = true then (if t104 = t110 then ((calxref08_SameSpans.f k t112 t116).bind fun t134 => (if t134 = true then (if t113 = t119 then ((calxref08_SameBook.f k t121 t125).bind fun t135 => (if t135 = true then (some (t122 == t128)) else (some false))) else (some false)) else (some false))) else (some false)) else (some false))) else ((calxlaw08_sanity.f).bind fun t136 => (if t136 = true then (some false) else (some false))))) else ((calxlaw08_sanity.f).bind fun t137 => (if t137 = true then (some false) else (some false)))) = some r := H
  have A13 := Aside0.mk A130
  clear A130
  have e0_ := pieces_same A4.out A6.out A7.out A8.out A9.out A10.out A11.out A12.out A13.out
  simp only [Prod.mk.injEq] at e0_
  obtain ⟨⟨e1_, e2_⟩, ⟨e3_, e4_⟩, ⟨e5_, e6_⟩, e7_, e8_, e9_, e10_, e11_⟩ := e0_
  have E1 := Aside0.mk e1_
  have E2 := Aside0.mk e2_
  have E3 := Aside0.mk e3_
  have E4 := Aside0.mk e4_
  have E5 := Aside0.mk e5_
  have E6 := Aside0.mk e6_
  have E7 := Aside0.mk e7_
  have E8 := Aside0.mk e8_
  have E9 := Aside0.mk e9_
  have E10 := Aside0.mk e10_
  have E11 := Aside0.mk e11_
  clear e1_ e2_ e3_ e4_ e5_ e6_ e7_ e8_ e9_ e10_ e11_
  by_cases c14 : t130 = t131
  ·rw [if_pos c14] at H
   have c14b0 : (t130 == t131) = true := beq_iff_eq.mpr c14
   have c14b1 : (t130 != t131) = false := bne_eq_false_iff_eq.mpr c14
   clear c14
   replace H := Option.bind_eq_some_iff.mp H
   obtain ⟨t132, A150, H⟩ := H
   replace H : (if t132 = true then ((calxlaw08_sanity.f).bind fun t133 => (if t133 = true then (if t104 = t110 then ((calxref08_SameSpans.f k t112 t116).bind fun t134 => (if t134 = true then (if t113 = t119 then ((calxref08_SameBook.f k t121 t125).bind fun t135 => (if t135 = true then (some (t122 == t128)) else (some false))) else (some false)) else (some false))) else (some false)) else (some false))) else ((calxlaw08_sanity.f).bind fun t136 => (if t136 = true then (some false) else (some false)))) = some r := H
   have A15 := Aside0.mk A150
   clear A150
   by_cases c16 : t132 = true
   ·subst c16
    rw [if_pos rfl] at H
    replace H := Option.bind_eq_some_iff.mp H
    obtain ⟨t133, A170, H⟩ := H
    replace H : (if t133 = true then (if t104 = t110 then ((calxref08_SameSpans.f k t112 t116).bind fun t134 => (if t134 = true then (if t113 = t119 then ((calxref08_SameBook.f k t121 t125).bind fun t135 => (if t135 = true then (some (t122 == t128)) else (some false))) else (some false)) else (some false))) else (some false)) else (some false)) = some r := H
    have A17 := Aside0.mk A170
    clear A170
    by_cases c18 : t133 = true
    ·subst c18
     rw [if_pos rfl] at H
     by_cases c19 : t104 = t110
     ·rw [if_pos c19] at H
      have c19b0 : (t104 == t110) = true := beq_iff_eq.mpr c19
      have c19b1 : (t104 != t110) = false := bne_eq_false_iff_eq.mpr c19
      clear c19
      replace H := Option.bind_eq_some_iff.mp H
      obtain ⟨t134, A200, H⟩ := H
      replace H : (if t134 = true then (if t113 = t119 then ((calxref08_SameBook.f k t121 t125).bind fun t135 => (if t135 = true then (some (t122 == t128)) else (some false))) else (some false)) else (some false)) = some r := H
      have A20 := Aside0.mk A200
      clear A200
      by_cases c21 : t134 = true
      ·subst c21
       rw [if_pos rfl] at H
       by_cases c22 : t113 = t119
       ·rw [if_pos c22] at H
        have c22b0 : (t113 == t119) = true := beq_iff_eq.mpr c22
        have c22b1 : (t113 != t119) = false := bne_eq_false_iff_eq.mpr c22
        clear c22
        replace H := Option.bind_eq_some_iff.mp H
        obtain ⟨t135, A230, H⟩ := H
        replace H : (if t135 = true then (some (t122 == t128)) else (some false)) = some r := H
        have A23 := Aside0.mk A230
        clear A230
        by_cases c24 : t135 = true
        ·subst c24
         rw [if_pos rfl] at H
         obtain rfl := Option.some.inj H
         go_enter Try.func12, Try.ntmps12
         go_wp2_with (first | ((with_reducible refine gate_callee (f := 21) rfl ?_); refine goesL_ (some 18) rfl rfl Try.func21 (by kernel_rfl) rfl #[.slice A0 l0.length c0] rfl (by (try simp only [List.map_toArray, List.map_cons, List.map_nil]); first | done | rfl | (simp only [List.length_drop, List.length_take]; rfl)) ?_; (with_reducible refine (calxlaw08_bits.calls k _ _ l0 true _ ?side1 ?side2 A4.out).mono ?_); (case side1 => repeat (first | exact HR0.out | (with_reducible refine Kd.C_alloc ?_ _) | (with_reducible refine Kd.C_drewN ?_ _) | (with_reducible refine Kd.C_drew ?_))); (case side2 => exact HC0.out); rintro e w' ⟨rfl, ⟨nd, rfl⟩⟩; refine ⟨_, rfl, ?_⟩) | ((with_reducible refine gate_callee (f := 23) rfl ?_); refine goesL_ (some 23) rfl rfl Try.func23 (by kernel_rfl) rfl #[.slice A0 l0.length c0] rfl (by (try simp only [List.map_toArray, List.map_cons, List.map_nil]); first | done | rfl | (simp only [List.length_drop, List.length_take]; rfl)) ?_; (with_reducible refine (book_Join.calls _ _ l0 t103 t104 _ ?side1 ?side2 A6.out).mono ?_); (case side1 => repeat (first | exact HR0.out | (with_reducible refine Kd.C_alloc ?_ _) | (with_reducible refine Kd.C_drewN ?_ _) | (with_reducible refine Kd.C_drew ?_))); (case side2 => exact HC0.out); rintro e w25 ⟨v105, rfl, ho0, hb⟩; refine ⟨_, rfl, ?_⟩; have n0_ := Aside0.mk (Kd.S_lower ho0 (below_size (by repeat (first | (with_reducible first | exact HB.out | apply below_alloc | apply pw_below_drewN | apply below_drew1) | exact HB.out)))); have n1_ := Aside0.mk (below_step (by repeat (first | (with_reducible first | exact HB.out | apply below_alloc | apply pw_below_drewN | apply below_drew1) | exact HB.out)) hb); clear HB; have HO106 := n0_; have HB := n1_; clear n0_ n1_; (try clear hb); (try clear hb2); (try clear hk); (try clear hi); (try clear ho0)) | ((with_reducible refine gate_callee (f := 60) rfl ?_); refine goesL_ (some 27) rfl rfl Try.func60 (by kernel_rfl) rfl #[.slice A0 l0.length c0] rfl (by (try simp only [List.map_toArray, List.map_cons, List.map_nil]); first | done | rfl | (simp only [List.length_drop, List.length_take]; rfl)) ?_; (with_reducible refine (calxref08_Join.calls k _ _ l0 t107 t110 _ ?side1 ?side2 A7.out).mono ?_); (case side1 => repeat (first | exact (Kd.C_below HR0.out HB.out) | (with_reducible refine Kd.C_alloc ?_ _) | (with_reducible refine Kd.C_drewN ?_ _) | (with_reducible refine Kd.C_drew ?_))); (case side2 => exact HC0.out); rintro e w26 ⟨v108, rfl, ho0, hb⟩; refine ⟨_, rfl, ?_⟩; have n0_ := Aside0.mk (Kd.S_elder' (by (with_reducible repeat (first | apply Kd.S_alloc | apply Kd.S_drewN | apply Kd.S_drew)); exact HO106.out) (Kd.S_base ho0) hb); have n1_ := Aside0.mk (Kd.S_lower (Kd.S_new' ho0 (Kd.S_lt (by (with_reducible repeat (first | apply Kd.S_alloc | apply Kd.S_drewN | apply Kd.S_drew)); exact HO106.out))) (below_size (by repeat (first | (with_reducible first | exact HB.out | apply below_alloc | apply pw_below_drewN | apply below_drew1) | exact HB.out)))); have n2_ := Aside0.mk (below_step (by repeat (first | (with_reducible first | exact HB.out | apply below_alloc | apply pw_below_drewN | apply below_drew1) | exact HB.out)) hb); clear HO106; clear HB; have HO106 := n0_; have HO109 := n1_; have HB := n2_; clear n0_ n1_ n2_; (try clear hb); (try clear hb2); (try clear hk); (try clear hi); (try clear ho0)) | ((with_reducible refine gate_dst (N := 9) rfl ?_); refine box_event ?hg (N := 9) ?hd (cs := #[.slice none 0 0, .int .i64 0]) (t := 89) ?hr ?_; (case hd => rfl); (case hg => rfl); (case hr => first | (go_simp; done) | (go_simp; rfl)); intro gb111 hg w27 hbox hb; have n0_ := Aside0.mk (Kd.S_below (by (with_reducible repeat (first | apply Kd.S_alloc | apply Kd.S_drewN | apply Kd.S_drew)); exact HO106.out) hb); have n1_ := Aside0.mk (Kd.S_below (by (with_reducible repeat (first | apply Kd.S_alloc | apply Kd.S_drewN | apply Kd.S_drew)); exact HO109.out) hb); have n2_ := Aside0.mk (below_step (by repeat (first | (with_reducible first | exact HB.out | apply below_alloc | apply pw_below_drewN | apply below_drew1) | exact HB.out)) hb); have n3_ := Aside0.mk (hbox); have n4_ := Aside0.mk ((by rw [hg]; exact (below_size (by repeat (first | (with_reducible first | exact HB.out | apply below_alloc | apply pw_below_drewN | apply below_drew1) | exact HB.out))) : w.heap.size ≤ gb111)); have n5_ := Aside0.mk ((by rw [hg]; exact (below_size (by repeat (first | (with_reducible first | exact HB.out | apply below_alloc | apply pw_below_drewN | apply below_drew1) | exact HB.out))) : w.heap.size ≤ gb111)); clear HO106; clear HO109; clear HB; have HO106 := n0_; have HO109 := n1_; have HB := n2_; have BK111 := n3_; have GW111 := n4_; have GE111 := n5_; clear n0_ n1_ n2_ n3_ n4_ n5_; clear hb hbox hg; obtain ⟨Ao28, co28, eo28⟩ := Kd.S_slice HO109.out; subst eo28; have hcz29_0 : w27.cell? ⟨gb111, 0, none⟩ = some (.slice none 0 0) := (blk_cell BK111.out 0).trans rfl; have hcz29_1 : w27.cell? ⟨gb111, 1, none⟩ = some (.int .i64 0) := (blk_cell BK111.out 1).trans rfl; have hfz29_0 := blk_frozen BK111.out 0; have hfz29_1 := blk_frozen BK111.out 1) | ((with_reducible refine gate_callee (f := 25) rfl ?_); refine goesL_ (some 31) rfl rfl Try.func25 (by kernel_rfl) rfl #[.slice A0 l0.length c0, .int .i64 a1] rfl (by (try simp only [List.map_toArray, List.map_cons, List.map_nil]); first | done | rfl | (simp only [List.length_drop, List.length_take]; rfl)) ?_; (with_reducible refine (book_Missing.calls _ _ l0 a1 t112 t113 _ ?side1 ?side2 A8.out).mono ?_); (case side1 => exact Kd.C_below HR0.out (by repeat (first | (with_reducible first | exact HB.out | apply below_alloc | apply pw_below_drewN | apply below_drew1 | refine below_set ?_ GE111.out) | exact HB.out))); (case side2 => exact HC0.out); rintro e w30 ⟨v114, rfl, ho0, hb⟩; refine ⟨_, rfl, ?_⟩; have n0_ := Aside0.mk (Kd.S_below (by (with_reducible repeat (first | apply Kd.S_alloc | apply Kd.S_drewN | apply Kd.S_drew)); exact (Kd.S_mono (Kd.S_far (p := ⟨gb111, 1, none⟩) (Kd.S_far (p := ⟨gb111, 0, none⟩) (Kd.S_types HO106.out BK111.out (by decide)) (fun _ hk => hk.2) (.slice Ao28 t107.length co28)) (fun _ hk => hk.2) (.int .i64 t110)) (fun _ h_ => h_.1))) hb); have n1_ := Aside0.mk (Kd.S_below (by (with_reducible repeat (first | apply Kd.S_alloc | apply Kd.S_drewN | apply Kd.S_drew)); exact (Kd.S_mono (Kd.S_far (p := ⟨gb111, 1, none⟩) (Kd.S_far (p := ⟨gb111, 0, none⟩) (Kd.S_types HO109.out BK111.out (by decide)) (fun _ hk => hk.2) (.slice Ao28 t107.length co28)) (fun _ hk => hk.2) (.int .i64 t110)) (fun _ h_ => h_.1))) hb); have n2_ := Aside0.mk (Kd.R_lower ho0 (below_size (by repeat (first | (with_reducible first | exact HB.out | apply below_alloc | apply pw_below_drewN | apply below_drew1 | refine below_set ?_ GE111.out) | exact HB.out)))); have n3_ := Aside0.mk (blk_below (g := gb111) (o := .cells #[.slice Ao28 t107.length co28, .int .i64 t110] 89 (0, 0)) (by (with_reducible repeat (first | refine blk_drewN ?_ _ | refine blk_drew ?_ | refine blk_alloc ?_ _)); refine blk_put (cs := #[.slice Ao28 t107.length co28, .int .i64 0]) ?_ 1 _ rfl; (with_reducible repeat (first | refine blk_drewN ?_ _ | refine blk_drew ?_ | refine blk_alloc ?_ _)); refine blk_put (cs := #[.slice none 0 0, .int .i64 0]) ?_ 0 _ rfl; (with_reducible repeat (first | refine blk_drewN ?_ _ | refine blk_drew ?_ | refine blk_alloc ?_ _)); exact BK111.out) hb); have n4_ := Aside0.mk (below_step (by repeat (first | (with_reducible first | exact HB.out | apply below_alloc | apply pw_below_drewN | apply below_drew1 | refine below_set ?_ GE111.out) | exact HB.out)) hb); clear HO106; clear HO109; clear BK111; clear HB; have HO106 := n0_; have HO109 := n1_; have HO115 := n2_; have BK111 := n3_; have HB := n4_; clear n0_ n1_ n2_ n3_ n4_; (try clear hb); (try clear hb2); (try clear hk); (try clear hi); (try clear ho0)) | ((with_reducible refine gate_callee (f := 61) rfl ?_); refine goesL_ (some 36) rfl rfl Try.func61 (by kernel_rfl) rfl #[.slice A0 l0.length c0, .int .i64 a1] rfl (by (try simp only [List.map_toArray, List.map_cons, List.map_nil]); first | done | rfl | (simp only [List.length_drop, List.length_take]; rfl)) ?_; (with_reducible refine (calxref08_Missing.calls k _ _ l0 a1 t116 t119 _ ?side1 ?side2 A9.out).mono ?_); (case side1 => repeat (first | exact (Kd.C_below HR0.out HB.out) | (with_reducible refine Kd.C_alloc ?_ _) | (with_reducible refine Kd.C_drewN ?_ _) | (with_reducible refine Kd.C_drew ?_))); (case side2 => exact HC0.out); rintro e w31 ⟨v117, rfl, ho0, hb⟩; refine ⟨_, rfl, ?_⟩; have n0_ := Aside0.mk (Kd.S_below (by (with_reducible repeat (first | apply Kd.S_alloc | apply Kd.S_drewN | apply Kd.S_drew)); exact HO106.out) hb); have n1_ := Aside0.mk (Kd.S_below (by (with_reducible repeat (first | apply Kd.S_alloc | apply Kd.S_drewN | apply Kd.S_drew)); exact HO109.out) hb); have n2_ := Aside0.mk (Kd.R_elder' (by (with_reducible repeat (first | apply Kd.R_alloc | apply Kd.R_drewN | apply Kd.R_drew)); exact HO115.out) (Kd.R_base ho0) hb); have n3_ := Aside0.mk (Kd.R_lower (Kd.R_new' ho0 (Kd.R_lt (by (with_reducible repeat (first | apply Kd.R_alloc | apply Kd.R_drewN | apply Kd.R_drew)); exact HO115.out))) (below_size (by repeat (first | (with_reducible first | exact HB.out | apply below_alloc | apply pw_below_drewN | apply below_drew1 | refine below_set ?_ GE111.out) | exact HB.out)))); have n4_ := Aside0.mk (blk_below (g := gb111) (o := .cells #[.slice Ao28 t107.length co28, .int .i64 t110] 89 (0, 0)) (by (with_reducible repeat (first | refine blk_drewN ?_ _ | refine blk_drew ?_ | refine blk_alloc ?_ _)); exact BK111.out) hb); have n5_ := Aside0.mk (below_step (by repeat (first | (with_reducible first | exact HB.out | apply below_alloc | apply pw_below_drewN | apply below_drew1 | refine below_set ?_ GE111.out) | exact HB.out)) hb); clear HO106; clear HO109; clear HO115; clear BK111; clear HB; have HO106 := n0_; have HO109 := n1_; have HO115 := n2_; have HO118 := n3_; have BK111 := n4_; have HB := n5_; clear n0_ n1_ n2_ n3_ n4_ n5_; (try clear hb); (try clear hb2); (try clear hk); (try clear hi); (try clear ho0)) | ((with_reducible refine gate_dst (N := 12) rfl ?_); refine box_event ?hg (N := 12) ?hd (cs := #[.slice none 0 0, .int .i64 0]) (t := 92) ?hr ?_; (case hd => rfl); (case hg => rfl); (case hr => first | (go_simp; done) | (go_simp; rfl)); intro gb120 hg w32 hbox hb; have n0_ := Aside0.mk (Kd.S_below (by (with_reducible repeat (first | apply Kd.S_alloc | apply Kd.S_drewN | apply Kd.S_drew)); exact HO106.out) hb); have n1_ := Aside0.mk (Kd.S_below (by (with_reducible repeat (first | apply Kd.S_alloc | apply Kd.S_drewN | apply Kd.S_drew)); exact HO109.out) hb); have n2_ := Aside0.mk (Kd.R_below (by (with_reducible repeat (first | apply Kd.R_alloc | apply Kd.R_drewN | apply Kd.R_drew)); exact HO115.out) hb); have n3_ := Aside0.mk (Kd.R_below (by (with_reducible repeat (first | apply Kd.R_alloc | apply Kd.R_drewN | apply Kd.R_drew)); exact HO118.out) hb); have n4_ := Aside0.mk (blk_below (g := gb111) (o := .cells #[.slice Ao28 t107.length co28, .int .i64 t110] 89 (0, 0)) (by (with_reducible repeat (first | refine blk_drewN ?_ _ | refine blk_drew ?_ | refine blk_alloc ?_ _)); exact BK111.out) hb); have n5_ := Aside0.mk (below_step (by repeat (first | (with_reducible first | exact HB.out | apply below_alloc | apply pw_below_drewN | apply below_drew1 | refine below_set ?_ GE111.out) | exact HB.out)) hb); have n6_ := Aside0.mk (hbox); have n7_ := Aside0.mk ((by rw [hg]; exact (below_size (by repeat (first | (with_reducible first | exact HB.out | apply below_alloc | apply pw_below_drewN | apply below_drew1 | refine below_set ?_ GE111.out) | exact HB.out))) : w.heap.size ≤ gb120)); have n8_ := Aside0.mk ((by rw [hg]; exact (below_size (by repeat (first | (with_reducible first | exact HB.out | apply below_alloc | apply pw_below_drewN | apply below_drew1 | refine below_set ?_ GE111.out) | exact HB.out))) : w.heap.size ≤ gb120)); have n9_ := Aside0.mk ((by rw [hg]; exact Nat.ne_of_lt (blk_lt (g := gb111) (o := .cells #[.slice Ao28 t107.length co28, .int .i64 t110] 89 (0, 0)) (by (with_reducible repeat (first | refine blk_drewN ?_ _ | refine blk_drew ?_ | refine blk_alloc ?_ _)); exact BK111.out)) : gb111 ≠ gb120)); have n10_ := Aside0.mk ((by rw [hg]; exact Nat.ne_of_gt (blk_lt (g := gb111) (o := .cells #[.slice Ao28 t107.length co28, .int .i64 t110] 89 (0, 0)) (by (with_reducible repeat (first | refine blk_drewN ?_ _ | refine blk_drew ?_ | refine blk_alloc ?_ _)); exact BK111.out)) : gb120 ≠ gb111)); clear HO106; clear HO109; clear HO115; clear HO118; clear BK111; clear HB; have HO106 := n0_; have HO109 := n1_; have HO115 := n2_; have HO118 := n3_; have BK111 := n4_; have HB := n5_; have BK120 := n6_; have GW120 := n7_; have GE120 := n8_; have NB111_120 := n9_; have NB120_111 := n10_; clear n0_ n1_ n2_ n3_ n4_ n5_ n6_ n7_ n8_ n9_ n10_; clear hb hbox hg; obtain ⟨Ao33, co33, eo33⟩ := Kd.R_slice HO118.out; subst eo33; have hnb34 := NB120_111.out; have hnc34 := NB111_120.out; have hcz35_0 : w32.cell? ⟨gb120, 0, none⟩ = some (.slice none 0 0) := (blk_cell BK120.out 0).trans rfl; have hcz35_1 : w32.cell? ⟨gb120, 1, none⟩ = some (.int .i64 0) := (blk_cell BK120.out 1).trans rfl; have hfz35_0 := blk_frozen BK120.out 0; have hfz35_1 := blk_frozen BK120.out 1) | ((with_reducible refine gate_callee (f := 59) rfl ?_); refine goesL_ (some 41) rfl rfl Try.func59 (by kernel_rfl) rfl #[.slice A0 l0.length c0, .int .i64 a1, .int .i64 a2] rfl (by (try simp only [List.map_toArray, List.map_cons, List.map_nil]); first | done | rfl | (simp only [List.length_drop, List.length_take]; rfl)) ?_; (with_reducible refine (book_Whole.calls _ _ l0 a1 a2 t121 t122 _ ?side1 ?side2 A10.out).mono ?_); (case side1 => exact Kd.C_below HR0.out (by repeat (first | (with_reducible first | exact HB.out | apply below_alloc | apply pw_below_drewN | apply below_drew1 | refine below_set ?_ GE111.out | refine below_set ?_ GE120.out) | exact HB.out))); (case side2 => exact HC0.out); rintro e w36 ⟨v123, rfl, ho0, hb⟩; refine ⟨_, rfl, ?_⟩; have n0_ := Aside0.mk (Kd.S_elder' (by (with_reducible repeat (first | apply Kd.S_alloc | apply Kd.S_drewN | apply Kd.S_drew)); exact (Kd.S_mono (Kd.S_far (p := ⟨gb120, 1, none⟩) (Kd.S_far (p := ⟨gb120, 0, none⟩) (Kd.S_types HO106.out BK120.out (by decide)) (fun _ hk => hk.2) (.slice Ao33 t116.length co33)) (fun _ hk => hk.2) (.int .i64 t119)) (fun _ h_ => h_.1))) (Kd.R_base ho0) hb); have n1_ := Aside0.mk (Kd.S_elder' (by (with_reducible repeat (first | apply Kd.S_alloc | apply Kd.S_drewN | apply Kd.S_drew)); exact (Kd.S_mono (Kd.S_far (p := ⟨gb120, 1, none⟩) (Kd.S_far (p := ⟨gb120, 0, none⟩) (Kd.S_types HO109.out BK120.out (by decide)) (fun _ hk => hk.2) (.slice Ao33 t116.length co33)) (fun _ hk => hk.2) (.int .i64 t119)) (fun _ h_ => h_.1))) (Kd.R_base ho0) hb); have n2_ := Aside0.mk (Kd.R_below (by (with_reducible repeat (first | apply Kd.R_alloc | apply Kd.R_drewN | apply Kd.R_drew)); exact (Kd.R_mono (Kd.R_far (p := ⟨gb120, 1, none⟩) (Kd.R_far (p := ⟨gb120, 0, none⟩) (Kd.R_types HO115.out BK120.out (by decide)) (fun _ hk => hk.2) (.slice Ao33 t116.length co33)) (fun _ hk => hk.2) (.int .i64 t119)) (fun _ h_ => h_.1))) hb); have n3_ := Aside0.mk (Kd.R_below (by (with_reducible repeat (first | apply Kd.R_alloc | apply Kd.R_drewN | apply Kd.R_drew)); exact (Kd.R_mono (Kd.R_far (p := ⟨gb120, 1, none⟩) (Kd.R_far (p := ⟨gb120, 0, none⟩) (Kd.R_types HO118.out BK120.out (by decide)) (fun _ hk => hk.2) (.slice Ao33 t116.length co33)) (fun _ hk => hk.2) (.int .i64 t119)) (fun _ h_ => h_.1))) hb); have n4_ := Aside0.mk (Kd.R_lower ho0 (below_size (by repeat (first | (with_reducible first | exact HB.out | apply below_alloc | apply pw_below_drewN | apply below_drew1 | refine below_set ?_ GE111.out | refine below_set ?_ GE120.out) | exact HB.out)))); have n5_ := Aside0.mk (blk_below (g := gb111) (o := .cells #[.slice Ao28 t107.length co28, .int .i64 t110] 89 (0, 0)) (by (with_reducible repeat (first | refine blk_drewN ?_ _ | refine blk_drew ?_ | refine blk_alloc ?_ _)); refine blk_far ?_ NB111_120.out _; (with_reducible repeat (first | refine blk_drewN ?_ _ | refine blk_drew ?_ | refine blk_alloc ?_ _)); refine blk_far ?_ NB111_120.out _; (with_reducible repeat (first | refine blk_drewN ?_ _ | refine blk_drew ?_ | refine blk_alloc ?_ _)); exact BK111.out) hb); have n6_ := Aside0.mk (blk_below (g := gb120) (o := .cells #[.slice Ao33 t116.length co33, .int .i64 t119] 92 (0, 0)) (by (with_reducible repeat (first | refine blk_drewN ?_ _ | refine blk_drew ?_ | refine blk_alloc ?_ _)); refine blk_put (cs := #[.slice Ao33 t116.length co33, .int .i64 0]) ?_ 1 _ rfl; (with_reducible repeat (first | refine blk_drewN ?_ _ | refine blk_drew ?_ | refine blk_alloc ?_ _)); refine blk_put (cs := #[.slice none 0 0, .int .i64 0]) ?_ 0 _ rfl; (with_reducible repeat (first | refine blk_drewN ?_ _ | refine blk_drew ?_ | refine blk_alloc ?_ _)); exact BK120.out) hb); have n7_ := Aside0.mk (below_step (by repeat (first | (with_reducible first | exact HB.out | apply below_alloc | apply pw_below_drewN | apply below_drew1 | refine below_set ?_ GE111.out | refine below_set ?_ GE120.out) | exact HB.out)) hb); clear HO106; clear HO109; clear HO115; clear HO118; clear BK111; clear BK120; clear HB; have HO106 := n0_; have HO109 := n1_; have HO115 := n2_; have HO118 := n3_; have HO124 := n4_; have BK111 := n5_; have BK120 := n6_; have HB := n7_; clear n0_ n1_ n2_ n3_ n4_ n5_ n6_ n7_; (try clear hb); (try clear hb2); (try clear hk); (try clear hi); (try clear ho0)) | ((with_reducible refine gate_callee (f := 62) rfl ?_); refine goesL_ (some 47) rfl rfl Try.func62 (by kernel_rfl) rfl #[.slice A0 l0.length c0, .int .i64 a1, .int .i64 a2] rfl (by (try simp only [List.map_toArray, List.map_cons, List.map_nil]); first | done | rfl | (simp only [List.length_drop, List.length_take]; rfl)) ?_; (with_reducible refine (calxref08_Whole.calls k _ _ l0 a1 a2 t125 t128 _ ?side1 ?side2 A11.out).mono ?_); (case side1 => repeat (first | exact (Kd.C_below HR0.out HB.out) | (with_reducible refine Kd.C_alloc ?_ _) | (with_reducible refine Kd.C_drewN ?_ _) | (with_reducible refine Kd.C_drew ?_))); (case side2 => exact HC0.out); rintro e w37 ⟨v126, rfl, ho0, hb⟩; refine ⟨_, rfl, ?_⟩; have n0_ := Aside0.mk (Kd.S_elder' (by (with_reducible repeat (first | apply Kd.S_alloc | apply Kd.S_drewN | apply Kd.S_drew)); exact HO106.out) (Kd.R_base ho0) hb); have n1_ := Aside0.mk (Kd.S_elder' (by (with_reducible repeat (first | apply Kd.S_alloc | apply Kd.S_drewN | apply Kd.S_drew)); exact HO109.out) (Kd.R_base ho0) hb); have n2_ := Aside0.mk (Kd.R_below (by (with_reducible repeat (first | apply Kd.R_alloc | apply Kd.R_drewN | apply Kd.R_drew)); exact HO115.out) hb); have n3_ := Aside0.mk (Kd.R_below (by (with_reducible repeat (first | apply Kd.R_alloc | apply Kd.R_drewN | apply Kd.R_drew)); exact HO118.out) hb); have n4_ := Aside0.mk (Kd.R_elder' (by (with_reducible repeat (first | apply Kd.R_alloc | apply Kd.R_drewN | apply Kd.R_drew)); exact HO124.out) (Kd.R_base ho0) hb); have n5_ := Aside0.mk (Kd.R_lower (Kd.R_new' ho0 (Kd.R_lt (by (with_reducible repeat (first | apply Kd.R_alloc | apply Kd.R_drewN | apply Kd.R_drew)); exact HO124.out))) (below_size (by repeat (first | (with_reducible first | exact HB.out | apply below_alloc | apply pw_below_drewN | apply below_drew1 | refine below_set ?_ GE111.out | refine below_set ?_ GE120.out) | exact HB.out)))); have n6_ := Aside0.mk (blk_below (g := gb111) (o := .cells #[.slice Ao28 t107.length co28, .int .i64 t110] 89 (0, 0)) (by (with_reducible repeat (first | refine blk_drewN ?_ _ | refine blk_drew ?_ | refine blk_alloc ?_ _)); exact BK111.out) hb); have n7_ := Aside0.mk (blk_below (g := gb120) (o := .cells #[.slice Ao33 t116.length co33, .int .i64 t119] 92 (0, 0)) (by (with_reducible repeat (first | refine blk_drewN ?_ _ | refine blk_drew ?_ | refine blk_alloc ?_ _)); exact BK120.out) hb); have n8_ := Aside0.mk (below_step (by repeat (first | (with_reducible first | exact HB.out | apply below_alloc | apply pw_below_drewN | apply below_drew1 | refine below_set ?_ GE111.out | refine below_set ?_ GE120.out) | exact HB.out)) hb); clear HO106; clear HO109; clear HO115; clear HO118; clear HO124; clear BK111; clear BK120; clear HB; have HO106 := n0_; have HO109 := n1_; have HO115 := n2_; have HO118 := n3_; have HO124 := n4_; have HO127 := n5_; have BK111 := n6_; have BK120 := n7_; have HB := n8_; clear n0_ n1_ n2_ n3_ n4_ n5_ n6_ n7_ n8_; (try clear hb); (try clear hb2); (try clear hk); (try clear hi); (try clear ho0)) | ((with_reducible refine gate_dst (N := 15) rfl ?_); refine box_event ?hg (N := 15) ?hd (cs := #[.slice none 0 0, .int .i64 0]) (t := 50) ?hr ?_; (case hd => rfl); (case hg => rfl); (case hr => first | (go_simp; done) | (go_simp; rfl)); intro gb129 hg w38 hbox hb; have n0_ := Aside0.mk (Kd.S_below (by (with_reducible repeat (first | apply Kd.S_alloc | apply Kd.S_drewN | apply Kd.S_drew)); exact HO106.out) hb); have n1_ := Aside0.mk (Kd.S_below (by (with_reducible repeat (first | apply Kd.S_alloc | apply Kd.S_drewN | apply Kd.S_drew)); exact HO109.out) hb); have n2_ := Aside0.mk (Kd.R_below (by (with_reducible repeat (first | apply Kd.R_alloc | apply Kd.R_drewN | apply Kd.R_drew)); exact HO115.out) hb); have n3_ := Aside0.mk (Kd.R_below (by (with_reducible repeat (first | apply Kd.R_alloc | apply Kd.R_drewN | apply Kd.R_drew)); exact HO118.out) hb); have n4_ := Aside0.mk (Kd.R_below (by (with_reducible repeat (first | apply Kd.R_alloc | apply Kd.R_drewN | apply Kd.R_drew)); exact HO124.out) hb); have n5_ := Aside0.mk (Kd.R_below (by (with_reducible repeat (first | apply Kd.R_alloc | apply Kd.R_drewN | apply Kd.R_drew)); exact HO127.out) hb); have n6_ := Aside0.mk (blk_below (g := gb111) (o := .cells #[.slice Ao28 t107.length co28, .int .i64 t110] 89 (0, 0)) (by (with_reducible repeat (first | refine blk_drewN ?_ _ | refine blk_drew ?_ | refine blk_alloc ?_ _)); exact BK111.out) hb); have n7_ := Aside0.mk (blk_below (g := gb120) (o := .cells #[.slice Ao33 t116.length co33, .int .i64 t119] 92 (0, 0)) (by (with_reducible repeat (first | refine blk_drewN ?_ _ | refine blk_drew ?_ | refine blk_alloc ?_ _)); exact BK120.out) hb); have n8_ := Aside0.mk (below_step (by repeat (first | (with_reducible first | exact HB.out | apply below_alloc | apply pw_below_drewN | apply below_drew1 | refine below_set ?_ GE111.out | refine below_set ?_ GE120.out) | exact HB.out)) hb); have n9_ := Aside0.mk (hbox); have n10_ := Aside0.mk ((by rw [hg]; exact (below_size (by repeat (first | (with_reducible first | exact HB.out | apply below_alloc | apply pw_below_drewN | apply below_drew1 | refine below_set ?_ GE111.out | refine below_set ?_ GE120.out) | exact HB.out))) : w.heap.size ≤ gb129)); have n11_ := Aside0.mk ((by rw [hg]; exact (below_size (by repeat (first | (with_reducible first | exact HB.out | apply below_alloc | apply pw_below_drewN | apply below_drew1 | refine below_set ?_ GE111.out | refine below_set ?_ GE120.out) | exact HB.out))) : w.heap.size ≤ gb129)); have n12_ := Aside0.mk ((by rw [hg]; exact Nat.ne_of_lt (blk_lt (g := gb111) (o := .cells #[.slice Ao28 t107.length co28, .int .i64 t110] 89 (0, 0)) (by (with_reducible repeat (first | refine blk_drewN ?_ _ | refine blk_drew ?_ | refine blk_alloc ?_ _)); exact BK111.out)) : gb111 ≠ gb129)); have n13_ := Aside0.mk ((by rw [hg]; exact Nat.ne_of_gt (blk_lt (g := gb111) (o := .cells #[.slice Ao28 t107.length co28, .int .i64 t110] 89 (0, 0)) (by (with_reducible repeat (first | refine blk_drewN ?_ _ | refine blk_drew ?_ | refine blk_alloc ?_ _)); exact BK111.out)) : gb129 ≠ gb111)); have n14_ := Aside0.mk ((by rw [hg]; exact Nat.ne_of_lt (blk_lt (g := gb120) (o := .cells #[.slice Ao33 t116.length co33, .int .i64 t119] 92 (0, 0)) (by (with_reducible repeat (first | refine blk_drewN ?_ _ | refine blk_drew ?_ | refine blk_alloc ?_ _)); exact BK120.out)) : gb120 ≠ gb129)); have n15_ := Aside0.mk ((by rw [hg]; exact Nat.ne_of_gt (blk_lt (g := gb120) (o := .cells #[.slice Ao33 t116.length co33, .int .i64 t119] 92 (0, 0)) (by (with_reducible repeat (first | refine blk_drewN ?_ _ | refine blk_drew ?_ | refine blk_alloc ?_ _)); exact BK120.out)) : gb129 ≠ gb120)); clear HO106; clear HO109; clear HO115; clear HO118; clear HO124; clear HO127; clear BK111; clear BK120; clear HB; have HO106 := n0_; have HO109 := n1_; have HO115 := n2_; have HO118 := n3_; have HO124 := n4_; have HO127 := n5_; have BK111 := n6_; have BK120 := n7_; have HB := n8_; have BK129 := n9_; have GW129 := n10_; have GE129 := n11_; have NB111_129 := n12_; have NB129_111 := n13_; have NB120_129 := n14_; have NB129_120 := n15_; clear n0_ n1_ n2_ n3_ n4_ n5_ n6_ n7_ n8_ n9_ n10_ n11_ n12_ n13_ n14_ n15_; clear hb hbox hg; obtain ⟨Ao39, co39, eo39⟩ := Kd.R_slice HO127.out; subst eo39; have hnb40 := NB129_111.out; have hnc40 := NB111_129.out; have hnb41 := NB129_120.out; have hnc41 := NB120_129.out; have hcz42_0 : w38.cell? ⟨gb129, 0, none⟩ = some (.slice none 0 0) := (blk_cell BK129.out 0).trans rfl; have hcz42_1 : w38.cell? ⟨gb129, 1, none⟩ = some (.int .i64 0) := (blk_cell BK129.out 1).trans rfl; have hfz42_0 := blk_frozen BK129.out 0; have hfz42_1 := blk_frozen BK129.out 1) | ((with_reducible refine gate_callee (f := 63) rfl ?_); refine goesL_ (some 49) rfl rfl Try.func63 (by kernel_rfl) rfl #[.slice A0 l0.length c0] rfl (by (try simp only [List.map_toArray, List.map_cons, List.map_nil]); first | done | rfl | (simp only [List.length_drop, List.length_take]; rfl)) ?_; (with_reducible refine (book_CheckPieces.calls _ _ l0 t130 _ ?side1 ?side2 A12.out).mono ?_); (case side1 => exact Kd.C_below HR0.out (by repeat (first | (with_reducible first | exact HB.out | apply below_alloc | apply pw_below_drewN | apply below_drew1 | refine below_set ?_ GE111.out | refine below_set ?_ GE120.out | refine below_set ?_ GE129.out) | exact HB.out))); (case side2 => exact HC0.out); rintro e w43 ⟨rfl, hb⟩; refine ⟨_, rfl, ?_⟩; have n0_ := Aside0.mk (Kd.S_below (by (with_reducible repeat (first | apply Kd.S_alloc | apply Kd.S_drewN | apply Kd.S_drew)); exact (Kd.S_mono (Kd.S_far (p := ⟨gb129, 1, none⟩) (Kd.S_far (p := ⟨gb129, 0, none⟩) (Kd.S_types HO106.out BK129.out (by decide)) (fun _ hk => hk.2) (.slice Ao39 t125.length co39)) (fun _ hk => hk.2) (.int .i64 t128)) (fun _ h_ => h_.1))) hb); have n1_ := Aside0.mk (Kd.S_below (by (with_reducible repeat (first | apply Kd.S_alloc | apply Kd.S_drewN | apply Kd.S_drew)); exact (Kd.S_mono (Kd.S_far (p := ⟨gb129, 1, none⟩) (Kd.S_far (p := ⟨gb129, 0, none⟩) (Kd.S_types HO109.out BK129.out (by decide)) (fun _ hk => hk.2) (.slice Ao39 t125.length co39)) (fun _ hk => hk.2) (.int .i64 t128)) (fun _ h_ => h_.1))) hb); have n2_ := Aside0.mk (Kd.R_below (by (with_reducible repeat (first | apply Kd.R_alloc | apply Kd.R_drewN | apply Kd.R_drew)); exact (Kd.R_mono (Kd.R_far (p := ⟨gb129, 1, none⟩) (Kd.R_far (p := ⟨gb129, 0, none⟩) (Kd.R_types HO115.out BK129.out (by decide)) (fun _ hk => hk.2) (.slice Ao39 t125.length co39)) (fun _ hk => hk.2) (.int .i64 t128)) (fun _ h_ => h_.1))) hb); have n3_ := Aside0.mk (Kd.R_below (by (with_reducible repeat (first | apply Kd.R_alloc | apply Kd.R_drewN | apply Kd.R_drew)); exact (Kd.R_mono (Kd.R_far (p := ⟨gb129, 1, none⟩) (Kd.R_far (p := ⟨gb129, 0, none⟩) (Kd.R_types HO118.out BK129.out (by decide)) (fun _ hk => hk.2) (.slice Ao39 t125.length co39)) (fun _ hk => hk.2) (.int .i64 t128)) (fun _ h_ => h_.1))) hb); have n4_ := Aside0.mk (Kd.R_below (by (with_reducible repeat (first | apply Kd.R_alloc | apply Kd.R_drewN | apply Kd.R_drew)); exact (Kd.R_mono (Kd.R_far (p := ⟨gb129, 1, none⟩) (Kd.R_far (p := ⟨gb129, 0, none⟩) (Kd.R_types HO124.out BK129.out (by decide)) (fun _ hk => hk.2) (.slice Ao39 t125.length co39)) (fun _ hk => hk.2) (.int .i64 t128)) (fun _ h_ => h_.1))) hb); have n5_ := Aside0.mk (Kd.R_below (by (with_reducible repeat (first | apply Kd.R_alloc | apply Kd.R_drewN | apply Kd.R_drew)); exact (Kd.R_mono (Kd.R_far (p := ⟨gb129, 1, none⟩) (Kd.R_far (p := ⟨gb129, 0, none⟩) (Kd.R_types HO127.out BK129.out (by decide)) (fun _ hk => hk.2) (.slice Ao39 t125.length co39)) (fun _ hk => hk.2) (.int .i64 t128)) (fun _ h_ => h_.1))) hb); have n6_ := Aside0.mk (blk_below (g := gb111) (o := .cells #[.slice Ao28 t107.length co28, .int .i64 t110] 89 (0, 0)) (by (with_reducible repeat (first | refine blk_drewN ?_ _ | refine blk_drew ?_ | refine blk_alloc ?_ _)); refine blk_far ?_ NB111_129.out _; (with_reducible repeat (first | refine blk_drewN ?_ _ | refine blk_drew ?_ | refine blk_alloc ?_ _)); refine blk_far ?_ NB111_129.out _; (with_reducible repeat (first | refine blk_drewN ?_ _ | refine blk_drew ?_ | refine blk_alloc ?_ _)); exact BK111.out) hb); have n7_ := Aside0.mk (blk_below (g := gb120) (o := .cells #[.slice Ao33 t116.length co33, .int .i64 t119] 92 (0, 0)) (by (with_reducible repeat (first | refine blk_drewN ?_ _ | refine blk_drew ?_ | refine blk_alloc ?_ _)); refine blk_far ?_ NB120_129.out _; (with_reducible repeat (first | refine blk_drewN ?_ _ | refine blk_drew ?_ | refine blk_alloc ?_ _)); refine blk_far ?_ NB120_129.out _; (with_reducible repeat (first | refine blk_drewN ?_ _ | refine blk_drew ?_ | refine blk_alloc ?_ _)); exact BK120.out) hb); have n8_ := Aside0.mk (blk_below (g := gb129) (o := .cells #[.slice Ao39 t125.length co39, .int .i64 t128] 50 (0, 0)) (by (with_reducible repeat (first | refine blk_drewN ?_ _ | refine blk_drew ?_ | refine blk_alloc ?_ _)); refine blk_put (cs := #[.slice Ao39 t125.length co39, .int .i64 0]) ?_ 1 _ rfl; (with_reducible repeat (first | refine blk_drewN ?_ _ | refine blk_drew ?_ | refine blk_alloc ?_ _)); refine blk_put (cs := #[.slice none 0 0, .int .i64 0]) ?_ 0 _ rfl; (with_reducible repeat (first | refine blk_drewN ?_ _ | refine blk_drew ?_ | refine blk_alloc ?_ _)); exact BK129.out) hb); have n9_ := Aside0.mk (below_step (by repeat (first | (with_reducible first | exact HB.out | apply below_alloc | apply pw_below_drewN | apply below_drew1 | refine below_set ?_ GE111.out | refine below_set ?_ GE120.out | refine below_set ?_ GE129.out) | exact HB.out)) hb); clear HO106; clear HO109; clear HO115; clear HO118; clear HO124; clear HO127; clear BK111; clear BK120; clear BK129; clear HB; have HO106 := n0_; have HO109 := n1_; have HO115 := n2_; have HO118 := n3_; have HO124 := n4_; have HO127 := n5_; have BK111 := n6_; have BK120 := n7_; have BK129 := n8_; have HB := n9_; clear n0_ n1_ n2_ n3_ n4_ n5_ n6_ n7_ n8_ n9_; (try clear hb); (try clear hb2); (try clear hk); (try clear hi)) | ((with_reducible refine gate_callee (f := 64) rfl ?_); refine goesL_ (some 51) rfl rfl Try.func64 (by kernel_rfl) rfl #[.slice A0 l0.length c0] rfl (by (try simp only [List.map_toArray, List.map_cons, List.map_nil]); first | done | rfl | (simp only [List.length_drop, List.length_take]; rfl)) ?_; (with_reducible refine (calxref08_CheckPieces.calls k _ _ l0 t131 _ ?side1 ?side2 A13.out).mono ?_); (case side1 => repeat (first | exact (Kd.C_below HR0.out HB.out) | (with_reducible refine Kd.C_alloc ?_ _) | (with_reducible refine Kd.C_drewN ?_ _) | (with_reducible refine Kd.C_drew ?_))); (case side2 => exact HC0.out); rintro e w44 ⟨rfl, hb⟩; refine ⟨_, rfl, ?_⟩; have n0_ := Aside0.mk (Kd.S_below (by (with_reducible repeat (first | apply Kd.S_alloc | apply Kd.S_drewN | apply Kd.S_drew)); exact HO106.out) hb); have n1_ := Aside0.mk (Kd.S_below (by (with_reducible repeat (first | apply Kd.S_alloc | apply Kd.S_drewN | apply Kd.S_drew)); exact HO109.out) hb); have n2_ := Aside0.mk (Kd.R_below (by (with_reducible repeat (first | apply Kd.R_alloc | apply Kd.R_drewN | apply Kd.R_drew)); exact HO115.out) hb); have n3_ := Aside0.mk (Kd.R_below (by (with_reducible repeat (first | apply Kd.R_alloc | apply Kd.R_drewN | apply Kd.R_drew)); exact HO118.out) hb); have n4_ := Aside0.mk (Kd.R_below (by (with_reducible repeat (first | apply Kd.R_alloc | apply Kd.R_drewN | apply Kd.R_drew)); exact HO124.out) hb); have n5_ := Aside0.mk (Kd.R_below (by (with_reducible repeat (first | apply Kd.R_alloc | apply Kd.R_drewN | apply Kd.R_drew)); exact HO127.out) hb); have n6_ := Aside0.mk (blk_below (g := gb111) (o := .cells #[.slice Ao28 t107.length co28, .int .i64 t110] 89 (0, 0)) (by (with_reducible repeat (first | refine blk_drewN ?_ _ | refine blk_drew ?_ | refine blk_alloc ?_ _)); exact BK111.out) hb); have n7_ := Aside0.mk (blk_below (g := gb120) (o := .cells #[.slice Ao33 t116.length co33, .int .i64 t119] 92 (0, 0)) (by (with_reducible repeat (first | refine blk_drewN ?_ _ | refine blk_drew ?_ | refine blk_alloc ?_ _)); exact BK120.out) hb); have n8_ := Aside0.mk (blk_below (g := gb129) (o := .cells #[.slice Ao39 t125.length co39, .int .i64 t128] 50 (0, 0)) (by (with_reducible repeat (first | refine blk_drewN ?_ _ | refine blk_drew ?_ | refine blk_alloc ?_ _)); exact BK129.out) hb); have n9_ := Aside0.mk (below_step (by repeat (first | (with_reducible first | exact HB.out | apply below_alloc | apply pw_below_drewN | apply below_drew1 | refine below_set ?_ GE111.out | refine below_set ?_ GE120.out | refine below_set ?_ GE129.out) | exact HB.out)) hb); clear HO106; clear HO109; clear HO115; clear HO118; clear HO124; clear HO127; clear BK111; clear BK120; clear BK129; clear HB; have HO106 := n0_; have HO109 := n1_; have HO115 := n2_; have HO118 := n3_; have HO124 := n4_; have HO127 := n5_; have BK111 := n6_; have BK120 := n7_; have BK129 := n8_; have HB := n9_; clear n0_ n1_ n2_ n3_ n4_ n5_ n6_ n7_ n8_ n9_; (try clear hb); (try clear hb2); (try clear hk); (try clear hi); have hcz45_0 : w44.cell? ⟨gb111, 0, none⟩ = some (.slice Ao28 t107.length co28) := (blk_cell BK111.out 0).trans rfl; have hcz45_1 : w44.cell? ⟨gb111, 1, none⟩ = some (.int .i64 t110) := (blk_cell BK111.out 1).trans rfl; have hfz45_0 := blk_frozen BK111.out 0; have hfz45_1 := blk_frozen BK111.out 1; obtain ⟨Ao46, co46, eo46⟩ := Kd.S_slice HO106.out; subst eo46) | (go_at_call 26; (with_reducible refine (calxref08_SamePieces.calls k _ _ t103 _ _ t107 true _ ?side1 ?side2 ?side3 ?side4 A15.out).mono ?_); (case side1 => repeat (first | exact (Kd.S_reads' HO106.out).2.2 | (with_reducible refine Kd.C_alloc ?_ _) | (with_reducible refine Kd.C_drewN ?_ _) | (with_reducible refine Kd.C_drew ?_))); (case side2 => exact (Kd.S_reads' HO106.out).2.1); (case side3 => repeat (first | exact (Kd.S_reads' HO109.out).2.2 | (with_reducible refine Kd.C_alloc ?_ _) | (with_reducible refine Kd.C_drewN ?_ _) | (with_reducible refine Kd.C_drew ?_))); (case side4 => exact (Kd.S_reads' HO109.out).2.1); rintro e w' ⟨rfl, ⟨nd, rfl⟩⟩) | ((with_reducible refine gate_callee (f := 22) rfl ?_); refine goesL_ (some 65) rfl rfl Try.func22 (by kernel_rfl) rfl #[] rfl (by (try simp only [List.map_toArray, List.map_cons, List.map_nil]); first | done | rfl | (simp only [List.length_drop, List.length_take]; rfl)) ?_; (with_reducible refine (calxlaw08_sanity.calls  true _ A17.out).mono ?_); rintro e w47 ⟨rfl, hb⟩; refine ⟨_, rfl, ?_⟩; have n0_ := Aside0.mk (Kd.S_below (by (with_reducible repeat (first | apply Kd.S_alloc | apply Kd.S_drewN | apply Kd.S_drew)); exact HO106.out) hb); have n1_ := Aside0.mk (Kd.S_below (by (with_reducible repeat (first | apply Kd.S_alloc | apply Kd.S_drewN | apply Kd.S_drew)); exact HO109.out) hb); have n2_ := Aside0.mk (Kd.R_below (by (with_reducible repeat (first | apply Kd.R_alloc | apply Kd.R_drewN | apply Kd.R_drew)); exact HO115.out) hb); have n3_ := Aside0.mk (Kd.R_below (by (with_reducible repeat (first | apply Kd.R_alloc | apply Kd.R_drewN | apply Kd.R_drew)); exact HO118.out) hb); have n4_ := Aside0.mk (Kd.R_below (by (with_reducible repeat (first | apply Kd.R_alloc | apply Kd.R_drewN | apply Kd.R_drew)); exact HO124.out) hb); have n5_ := Aside0.mk (Kd.R_below (by (with_reducible repeat (first | apply Kd.R_alloc | apply Kd.R_drewN | apply Kd.R_drew)); exact HO127.out) hb); have n6_ := Aside0.mk (blk_below (g := gb111) (o := .cells #[.slice Ao28 t107.length co28, .int .i64 t110] 89 (0, 0)) (by (with_reducible repeat (first | refine blk_drewN ?_ _ | refine blk_drew ?_ | refine blk_alloc ?_ _)); exact BK111.out) hb); have n7_ := Aside0.mk (blk_below (g := gb120) (o := .cells #[.slice Ao33 t116.length co33, .int .i64 t119] 92 (0, 0)) (by (with_reducible repeat (first | refine blk_drewN ?_ _ | refine blk_drew ?_ | refine blk_alloc ?_ _)); exact BK120.out) hb); have n8_ := Aside0.mk (blk_below (g := gb129) (o := .cells #[.slice Ao39 t125.length co39, .int .i64 t128] 50 (0, 0)) (by (with_reducible repeat (first | refine blk_drewN ?_ _ | refine blk_drew ?_ | refine blk_alloc ?_ _)); exact BK129.out) hb); have n9_ := Aside0.mk (below_step (by repeat (first | (with_reducible first | exact HB.out | apply below_alloc | apply pw_below_drewN | apply below_drew1 | refine below_set ?_ GE111.out | refine below_set ?_ GE120.out | refine below_set ?_ GE129.out) | exact HB.out)) hb); clear HO106; clear HO109; clear HO115; clear HO118; clear HO124; clear HO127; clear BK111; clear BK120; clear BK129; clear HB; have HO106 := n0_; have HO109 := n1_; have HO115 := n2_; have HO118 := n3_; have HO124 := n4_; have HO127 := n5_; have BK111 := n6_; have BK120 := n7_; have BK129 := n8_; have HB := n9_; clear n0_ n1_ n2_ n3_ n4_ n5_ n6_ n7_ n8_ n9_; (try clear hb); (try clear hb2); (try clear hk); (try clear hi); have hcz48_0 : w47.cell? ⟨gb120, 0, none⟩ = some (.slice Ao33 t116.length co33) := (blk_cell BK120.out 0).trans rfl; have hcz48_1 : w47.cell? ⟨gb120, 1, none⟩ = some (.int .i64 t119) := (blk_cell BK120.out 1).trans rfl; have hfz48_0 := blk_frozen BK120.out 0; have hfz48_1 := blk_frozen BK120.out 1; obtain ⟨Ao49, co49, eo49⟩ := Kd.R_slice HO115.out; subst eo49) | (go_at_call 65; (with_reducible refine (calxref08_SameSpans.calls k _ _ t112 _ _ t116 true _ ?side1 ?side2 ?side3 ?side4 A20.out).mono ?_); (case side1 => repeat (first | exact (Kd.R_reads' HO115.out).2.2 | (with_reducible refine Kd.C_alloc ?_ _) | (with_reducible refine Kd.C_drewN ?_ _) | (with_reducible refine Kd.C_drew ?_))); (case side2 => exact (Kd.R_reads' HO115.out).2.1); (case side3 => repeat (first | exact (Kd.R_reads' HO118.out).2.2 | (with_reducible refine Kd.C_alloc ?_ _) | (with_reducible refine Kd.C_drewN ?_ _) | (with_reducible refine Kd.C_drew ?_))); (case side4 => exact (Kd.R_reads' HO118.out).2.1); rintro e w' ⟨rfl, ⟨nd, rfl⟩⟩; have hcz50_0 : w47.cell? ⟨gb129, 0, none⟩ = some (.slice Ao39 t125.length co39) := (blk_cell BK129.out 0).trans rfl; have hcz50_1 : w47.cell? ⟨gb129, 1, none⟩ = some (.int .i64 t128) := (blk_cell BK129.out 1).trans rfl; have hfz50_0 := blk_frozen BK129.out 0; have hfz50_1 := blk_frozen BK129.out 1; obtain ⟨Ao51, co51, eo51⟩ := Kd.R_slice HO124.out; subst eo51) | (go_at_call 29; (with_reducible refine (calxref08_SameBook.calls k _ _ t121 _ _ t125 true _ ?side1 ?side2 ?side3 ?side4 A23.out).mono ?_); (case side1 => repeat (first | exact (Kd.R_reads' HO124.out).2.2 | (with_reducible refine Kd.C_alloc ?_ _) | (with_reducible refine Kd.C_drewN ?_ _) | (with_reducible refine Kd.C_drew ?_))); (case side2 => exact (Kd.R_reads' HO124.out).2.1); (case side3 => repeat (first | exact (Kd.R_reads' HO127.out).2.2 | (with_reducible refine Kd.C_alloc ?_ _) | (with_reducible refine Kd.C_drewN ?_ _) | (with_reducible refine Kd.C_drew ?_))); (case side4 => exact (Kd.R_reads' HO127.out).2.1); rintro e w' ⟨rfl, ⟨nd, rfl⟩⟩))
         go_ret
         exact ⟨by first | rfl | (simp [errW_none, errW_some] <;> rfl) | (simp [*, errW_none, errW_some] <;> rfl), by repeat (first | (with_reducible first | exact HB.out | apply below_alloc | apply pw_below_drewN | apply below_drew1 | refine below_set ?_ GE111.out | refine below_set ?_ GE120.out | refine below_set ?_ GE129.out) | exact HB.out)⟩
        ·exact absurd (samebk_true E5.out E11.out A23.out) c24
       ·exact absurd (E4.out) c22
      ·exact absurd (samesp_true E3.out E10.out A20.out) c21
     ·exact absurd (E2.out) c19
    ·exact absurd ((Option.some.inj A17.out).symm) c18
   ·exact absurd (samep_true E1.out E8.out E9.out A15.out) c16
  ·exact absurd (E7.out) c14
 ·replace c5 := Bool.eq_false_iff.mpr c5
  subst c5
  rw [if_neg (show ¬ (false = true) by decide)] at H
  replace H := Option.bind_eq_some_iff.mp H
  obtain ⟨t102, A2670, H⟩ := H
  replace H : (some t102) = some r := H
  have A267 := Aside0.mk A2670
  clear A2670
  obtain rfl := Option.some.inj H
  go_enter Try.func12, Try.ntmps12
  go_wp2_with (first | ((with_reducible refine gate_callee (f := 21) rfl ?_); refine goesL_ (some 18) rfl rfl Try.func21 (by kernel_rfl) rfl #[.slice A0 l0.length c0] rfl (by (try simp only [List.map_toArray, List.map_cons, List.map_nil]); first | done | rfl | (simp only [List.length_drop, List.length_take]; rfl)) ?_; (with_reducible refine (calxlaw08_bits.calls k _ _ l0 false _ ?side1 ?side2 A4.out).mono ?_); (case side1 => repeat (first | exact HR0.out | (with_reducible refine Kd.C_alloc ?_ _) | (with_reducible refine Kd.C_drewN ?_ _) | (with_reducible refine Kd.C_drew ?_))); (case side2 => exact HC0.out); rintro e w' ⟨rfl, ⟨nd, rfl⟩⟩; refine ⟨_, rfl, ?_⟩) | ((with_reducible refine gate_callee (f := 22) rfl ?_); refine goesL_ (some 20) rfl rfl Try.func22 (by kernel_rfl) rfl #[] rfl (by (try simp only [List.map_toArray, List.map_cons, List.map_nil]); first | done | rfl | (simp only [List.length_drop, List.length_take]; rfl)) ?_; (with_reducible refine (calxlaw08_sanity.calls  t102 _ A267.out).mono ?_); rintro e w268 ⟨rfl, hb⟩; refine ⟨_, rfl, ?_⟩; have n0_ := Aside0.mk (below_step (by repeat (first | (with_reducible first | exact HB.out | apply below_alloc | apply pw_below_drewN | apply below_drew1) | exact HB.out)) hb); clear HB; have HB := n0_; clear n0_; (try clear hb); (try clear hb2); (try clear hk); (try clear hi)))
  go_ret
  exact ⟨by first | rfl | (simp [errW_none, errW_some] <;> rfl) | (simp [*, errW_none, errW_some] <;> rfl), by repeat (first | (with_reducible first | exact HB.out | apply below_alloc | apply pw_below_drewN | apply below_drew1) | exact HB.out)⟩
theorem pureBookPieces (l : List S34) (hl : l.length ≤ 9223372036854775807) (hw : ∀ p ∈ l, W64 p.f0 ∧ ∀ x ∈ p.f1, Wf4 x) (many : Int) (_ : (Lit.int .i64 many).wf = true) (r : Int) (_ : (Lit.int .i64 r).wf = true) : ∃ k, calxlaw08_BookPieces.f k l many r = some true := by
 obtain ⟨b, hb, hb20⟩ := bits_ev2 l hl
 refine Ev.at_ (f := fun k => calxlaw08_BookPieces.f k l many r) ?_
 cases b with
 | false =>
  refine hb.same' (fun k h => ?_)
  show calxlaw08_BookPieces.f k l many r = some true
  unfold calxlaw08_BookPieces.f
  rw [h]
  rfl
 | true =>
  obtain ⟨h20, h80⟩ := hb20 rfl
  have hs := slots_ev (l := l) (by omega) (fun p hp => by have := h80 p hp; omega)
  obtain ⟨k0, hk0⟩ := hb
  obtain ⟨k1, hk1⟩ := ref_join_P hs
  obtain ⟨k2, hk2⟩ := ref_miss_P hs many
  obtain ⟨k3, hk3⟩ := ref_whole_P hs many r
  obtain ⟨k4, hk4⟩ := same_spans (a := (missP l many).1) (by have := miss_len l many; omega)
  obtain ⟨k5, hk5⟩ := hs
  obtain ⟨hj1, hj2⟩ := join_small l
  have hwl := whole_len l many r
  refine ⟨k0 + k1 + k2 + k3 + k4 + k5 + 300, fun k hk => ?_⟩
  have hck : calxref08_CheckPieces.f k l = some (checkPiecesP l) := by
   unfold calxref08_CheckPieces.f
   rw [show calxref08_slots.f k l = some (slotsR l) from hk5 k (by omega), Option.bind_some]
   unfold slotsR
   by_cases hc : checkPiecesP l = 0
   ·obtain ⟨_, _, M, hM, _⟩ := checkPieces_ok hc
    rw [if_pos hc, hM, hc]
   ·rw [if_neg hc]
  show calxlaw08_BookPieces.f k l many r = some true
  unfold calxlaw08_BookPieces.f
  rw [show calxlaw08_bits.f k l = some true from hk0 k (by omega)]
  unfold book_Join.f book_Missing.f book_Whole.f book_CheckPieces.f
  simp only [Option.bind_some, if_true]
  rw [show calxref08_Join.f k l = some (joinP l) from hk1 k (by omega), Option.bind_some, show calxref08_Missing.f k l many = some (missP l many) from hk2 k (by omega), Option.bind_some,
   show calxref08_Whole.f k l many r = some (wholeP l many r) from hk3 k (by omega), Option.bind_some, hck, Option.bind_some, if_pos rfl, same_pieces hj1 hj2 (by omega), Option.bind_some, if_pos rfl]
  show ((some true).bind fun t133 => _) = _
  rw [Option.bind_some, if_pos rfl, if_pos rfl, show calxref08_SameSpans.f k (missP l many).1 (missP l many).1 = some true from hk4 k (by omega), Option.bind_some, if_pos rfl, if_pos rfl,
   same_book hwl (by omega), Option.bind_some, if_pos (by simp)]
  simp
end Go.Proofs.Ytmfphlfakmnbmaa.B
end
