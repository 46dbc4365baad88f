import Derived.Test.YtjjfpmapjjemcaaGreatQ10
import Derived.Test.YtjjfpmapjjemcaaGreatQ7
set_option linter.unusedVariables false
set_option linter.unusedSimpArgs false
section
namespace Go.Proofs.YtjjfpmapjjemcaaGreat.B
open Go.RowKit Go.Proofs.YtjjfpmapjjemcaaGreatW.PrintWords Go.Proofs.YtjjfpmapjjemcaaGreatW.PrintLast Go.Proofs.YtjjfpmapjjemcaaGreatW.PrintMore
attribute [local go_sem] max2_int min2_int max_two min_two max_three min_three max_four min_four
def pit_valid.f (k : Nat) (a0_0 : Int) (a0_1 : Int) : Option (Bool):=(pit_within.f a0_0 0 68719476736).bind fun t102 => (if t102 = true then ((pit_within.f a0_1 1 16777216).bind fun t103 => (if t103 = true then ((pit_divisor.f k a0_0 a0_1).bind fun t104 => (some (t104 == 1))) else (some false))) else (some false))
set_option maxHeartbeats 8000000 in
set_option maxRecDepth 100000 in
theorem pit_valid.calls (k : Nat) (a0_0 : Int) (a0_1 : Int) (r : Bool) (w : World) (h : pit_valid.f k a0_0 a0_1 = some r) :
  Calls Tryz.prog 89 #[.agg #[ii a0_0,ii a0_1]] w fun e w' => e = .returned (.bool r) ∧ Below w.heap.size w w':=by
 have hu43:=Tryz.underlying43
 have HB:=am (Below.refl w.heap.size w)
 have H : ((pit_within.f a0_0 0 68719476736).bind fun t102 => (if t102 = true then ((pit_within.f a0_1 1 16777216).bind fun t103 => (if t103 = true then ((pit_divisor.f k a0_0 a0_1).bind fun t104 => (some (t104 == 1))) else (some false))) else (some false))) = some r:=h
 clear h
 replace H:=Option.bind_eq_some_iff.mp H
 obtain ⟨t102,A20,H⟩:=H
 replace H : (if t102 = true then ((pit_within.f a0_1 1 16777216).bind fun t103 => (if t103 = true then ((pit_divisor.f k a0_0 a0_1).bind fun t104 => (some (t104 == 1))) else (some false))) else (some false)) = some r:=H
 have A2:=am A20
 clear A20
 by_cases c3 : t102 = true
 ·subst c3
  have H1 : ((pit_within.f a0_1 1 16777216).bind fun t103 => (if t103 = true then ((pit_divisor.f k a0_0 a0_1).bind fun t104 => (some (t104 == 1))) else (some false))) = some r:=by rw [if_pos rfl] at H;exact H
  clear H
  have H:=H1
  clear H1
  replace H:=Option.bind_eq_some_iff.mp H
  obtain ⟨t103,A40,H⟩:=H
  replace H : (if t103 = true then ((pit_divisor.f k a0_0 a0_1).bind fun t104 => (some (t104 == 1))) else (some false)) = some r:=H
  have A4:=am A40
  clear A40
  by_cases c5 : t103 = true
  ·subst c5
   have H1 : ((pit_divisor.f k a0_0 a0_1).bind fun t104 => (some (t104 == 1))) = some r:=by rw [if_pos rfl] at H;exact H
   clear H
   have H:=H1
   clear H1
   replace H:=Option.bind_eq_some_iff.mp H
   obtain ⟨t104,A60,H⟩:=H
   replace H : (some (t104 == 1)) = some r:=H
   have A6:=am A60
   clear A60
   obtain rfl:=Option.some.inj H
   go_enter Tryz.func89,Tryz.ntmps89
   go_wp2_with (first|(refine bE 1 #[ii a0_0,ii a0_1] 43 ?_;intro gb101 hg w7 hbox hb;have BK101:=am (hbox);have GW101:=am (lg hg (below_size (v0 HB.out)) : w.heap.size ≤ gb101);have GE101:=GW101;replace HB:=am (below_step (v0 HB.out) hb);clear hb hbox hg;have hcz8_0:=bd BK101.out 0;have hcz8_1:=bd BK101.out 1;have hfz8_0:=blk_frozen BK101.out 0;have hfz8_1:=blk_frozen BK101.out 1)|(refine cE (some 5) Tryz.func106 #[ii a0_0,ii 0,ii 68719476736] ?_;(with_reducible refine (pit_within.calls a0_0 0 68719476736 true _ A2.out).mono ?_);rintro e w' ⟨rfl,⟨nd,rfl⟩⟩;refine ⟨_,rfl,?_⟩)|(go_at_call 106;(with_reducible refine (pit_within.calls a0_1 1 16777216 true _ A4.out).mono ?_);rintro e w' ⟨rfl,⟨nd,rfl⟩⟩)|(go_at_call 158;(with_reducible refine (pit_divisor.calls k a0_0 a0_1 t104 _ A6.out).mono ?_);rintro e w' ⟨rfl,⟨nd,rfl⟩⟩))
   go_ret
   exact ⟨vf,v1 HB.out GE101.out⟩
  ·replace c5:=Bool.eq_false_iff.mpr c5
   subst c5
   have H1 : (some false) = some r:=by rw [if_neg (show ¬ (false = true) by decide)] at H;exact H
   clear H
   have H:=H1
   clear H1
   obtain rfl:=Option.some.inj H
   go_enter Tryz.func89,Tryz.ntmps89
   go_wp2_with (first|(refine bE 1 #[ii a0_0,ii a0_1] 43 ?_;intro gb101 hg w9 hbox hb;have BK101:=am (hbox);have GW101:=am (lg hg (below_size (v0 HB.out)) : w.heap.size ≤ gb101);have GE101:=GW101;replace HB:=am (below_step (v0 HB.out) hb);clear hb hbox hg;have hcz10_0:=bd BK101.out 0;have hcz10_1:=bd BK101.out 1;have hfz10_0:=blk_frozen BK101.out 0;have hfz10_1:=blk_frozen BK101.out 1)|(refine cE (some 5) Tryz.func106 #[ii a0_0,ii 0,ii 68719476736] ?_;(with_reducible refine (pit_within.calls a0_0 0 68719476736 true _ A2.out).mono ?_);rintro e w' ⟨rfl,⟨nd,rfl⟩⟩;refine ⟨_,rfl,?_⟩)|(go_at_call 106;(with_reducible refine (pit_within.calls a0_1 1 16777216 false _ A4.out).mono ?_);rintro e w' ⟨rfl,⟨nd,rfl⟩⟩))
   go_ret
   exact ⟨vf,v1 HB.out GE101.out⟩
 ·replace c3:=Bool.eq_false_iff.mpr c3
  subst c3
  have H1 : (some false) = some r:=by rw [if_neg (show ¬ (false = true) by decide)] at H;exact H
  clear H
  have H:=H1
  clear H1
  obtain rfl:=Option.some.inj H
  go_enter Tryz.func89,Tryz.ntmps89
  go_wp2_with (first|(refine bE 1 #[ii a0_0,ii a0_1] 43 ?_;intro gb101 hg w11 hbox hb;have BK101:=am (hbox);have GW101:=am (lg hg (below_size (v0 HB.out)) : w.heap.size ≤ gb101);have GE101:=GW101;replace HB:=am (below_step (v0 HB.out) hb);clear hb hbox hg;have hcz12_0:=bd BK101.out 0;have hcz12_1:=bd BK101.out 1;have hfz12_0:=blk_frozen BK101.out 0;have hfz12_1:=blk_frozen BK101.out 1)|(refine cE (some 5) Tryz.func106 #[ii a0_0,ii 0,ii 68719476736] ?_;(with_reducible refine (pit_within.calls a0_0 0 68719476736 false _ A2.out).mono ?_);rintro e w' ⟨rfl,⟨nd,rfl⟩⟩;refine ⟨_,rfl,?_⟩))
  go_ret
  exact ⟨vf,v1 HB.out GE101.out⟩
def slices_Contains_int_int.f (k : Nat) (l0 : List Int) (a1 : Int) : Option (Bool):=(slices_Index_int_int.f k l0 a1).bind fun t101 => (some (decide (t101 ≥ 0)))
set_option maxHeartbeats 8000000 in
set_option maxRecDepth 100000 in
theorem slices_Contains_int_int.calls (k : Nat) (A0 : Option Addr) (c0 : Nat) (l0 : List Int) (a1 : Int) (r : Bool) (w : World) (hr0 : Kd.C (Kd.int .i64) w A0 l0.length l0) (hc0 : l0.length ≤ c0) (h : slices_Contains_int_int.f k l0 a1 = some r) :
  Calls Tryz.prog 165 #[.slice A0 l0.length c0,ii a1] w fun e w' => e = .returned (.bool r) ∧ Drawn0 w w':=by
 have HR0:=am hr0
 have HC0:=am hc0
 clear hr0 hc0
 have H : ((slices_Index_int_int.f k l0 a1).bind fun t101 => (some (decide (t101 ≥ 0)))) = some r:=h
 clear h
 replace H:=Option.bind_eq_some_iff.mp H
 obtain ⟨t101,A30,H⟩:=H
 replace H : (some (decide (t101 ≥ 0))) = some r:=H
 have A3:=am A30
 clear A30
 obtain rfl:=Option.some.inj H
 go_enter Tryz.func165,Tryz.ntmps165
 go_wp2_with (first|(refine cE (some 7) Tryz.func166 #[.slice A0 l0.length c0,ii a1] ?_;(with_reducible refine (slices_Index_int_int.calls k _ _ l0 a1 t101 _ ?side1 ?side2 A3.out).mono ?_);(case side1 => repeat (first|exact HR0.out|(with_reducible refine Kd.C_alloc ?_ _)|(with_reducible refine Kd.C_drewN ?_ _)|(with_reducible refine Kd.C_drew ?_)));(case side2 => exact HC0.out);rintro e w' ⟨rfl,⟨nd,rfl⟩⟩;refine ⟨_,rfl,?_⟩))
 go_ret
 exact ⟨ve,by repeat (first|exact Drawn0.refl _|apply Drawn0.step)⟩
theorem eqA89 (d : Nat) (w : World) (x0 y0 : Int) (x1 y1 : Int) (x2 y2 : Int) :
  (Op.equalIn (d + 3) 89 (.agg #[ii x0,ii x1,ii x2]) (.agg #[ii y0,ii y1,ii y2])).run Tryz.prog w = .ok (x0 == y0 && ((x1 == y1 && (x2 == y2)))) w:=by
 refine eqA_of Tryz.underlying89 kr ?_
 refine eqf_cons (by rfl) (by go_simp;rfl) (by go_simp;rfl) (by go_simp) ?_
 exact eqf_last (by rfl) (by go_simp) (by go_simp) (eqA43 (d + 0) w _ _ _ _)
end Go.Proofs.YtjjfpmapjjemcaaGreat.B
end
