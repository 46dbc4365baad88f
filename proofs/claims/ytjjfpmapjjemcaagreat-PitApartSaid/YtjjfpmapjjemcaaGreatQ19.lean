import Derived.Test.YtjjfpmapjjemcaaGreatQ15
import Derived.Test.YtjjfpmapjjemcaaGreatQ7
set_option linter.unusedVariables false
set_option linter.unusedSimpArgs false
section
namespace Go.Proofs.YtjjfpmapjjemcaaGreat.B
open Go.RowKit Go.Proofs.YtjjfpmapjjemcaaGreatW.PrintWords Go.Proofs.YtjjfpmapjjemcaaGreatW.PrintLast Go.Proofs.YtjjfpmapjjemcaaGreatW.PrintMore
attribute [local go_sem] max2_int min2_int max_two min_two max_three min_three max_four min_four
def pit_result.f (k : Nat) (a0_0 : Int) (a0_1 : Int) : Option (Int × Int × Int):=(pit_valid.f k a0_0 a0_1).bind fun t103 => (if t103 = true then (some (a0_0,a0_1,0)) else (some (0,0,3)))
set_option maxHeartbeats 8000000 in
set_option maxRecDepth 100000 in
theorem pit_result.calls (k : Nat) (a0_0 : Int) (a0_1 : Int) (r1 : Int) (r2 : Int) (r3 : Int) (w : World) (h : pit_result.f k a0_0 a0_1 = some (r1,r2,r3)) :
  Calls Tryz.prog 92 #[.agg #[ii a0_0,ii a0_1]] w fun e w' => e = .returned (.tuple #[.agg #[ii r1,ii r2],ii r3]) ∧ Below w.heap.size w w':=by
 have hu43:=Tryz.underlying43
 have HB:=am (Below.refl w.heap.size w)
 have H : ((pit_valid.f k a0_0 a0_1).bind fun t103 => (if t103 = true then (some (a0_0,a0_1,0)) else (some (0,0,3)))) = some (r1,r2,r3):=h
 clear h
 replace H:=Option.bind_eq_some_iff.mp H
 obtain ⟨t103,A20,H⟩:=H
 replace H : (if t103 = true then (some (a0_0,a0_1,0)) else (some (0,0,3))) = some (r1,r2,r3):=H
 have A2:=am A20
 clear A20
 by_cases c3 : t103 = true
 ·subst c3
  have H1 : (some (a0_0,a0_1,0)) = some (r1,r2,r3):=by rw [if_pos rfl] at H;exact H
  clear H
  have H:=H1
  clear H1
  simp only [Option.some.injEq,Prod.mk.injEq] at H
  obtain ⟨rfl,rfl,rfl⟩:=H
  go_enter Tryz.func92,Tryz.ntmps92
  go_wp2_with (first|(refine bE 1 #[ii a0_0,ii a0_1] 43 ?_;intro gb101 hg w4 hbox hb;have BK101:=am (hbox);have GW101:=am (lg hg (below_size (v0 HB.out)) : w.heap.size ≤ gb101);have GE101:=GW101;replace HB:=am (below_step (v0 HB.out) hb);clear hb hbox hg)|(refine bE 2 #[ii 0,ii 0] 43 ?_;intro gb102 hg w5 hbox hb;have BK102:=am (hbox);have GW102:=am (lg hg (below_size (v1 HB.out GE101.out)) : w.heap.size ≤ gb102);have GE102:=GW102;have NB101_102:=am (nl hg (vb BK101.out));have NB102_101:=am ((nl hg (vb BK101.out)).symm);replace BK101:=am (blk_below (vb BK101.out) hb);replace HB:=am (below_step (v1 HB.out GE101.out) hb);clear hb hbox hg;have hnb6:=NB101_102.out;have hnc6:=NB102_101.out;have hcz7_0:=bd BK101.out 0;have hcz7_1:=bd BK101.out 1;have hfz7_0:=blk_frozen BK101.out 0;have hfz7_1:=blk_frozen BK101.out 1)|(refine cE (some 5) Tryz.func89 #[.agg #[ii a0_0,ii a0_1]] ?_;(with_reducible refine (pit_valid.calls k a0_0 a0_1 true _ A2.out).mono ?_);rintro e w8 ⟨rfl,hb⟩;refine ⟨_,rfl,?_⟩;replace BK101:=am (blk_below (vb BK101.out) hb);replace BK102:=am (blk_below (vb BK102.out) hb);replace HB:=am (below_step (v2 HB.out GE101.out GE102.out) hb);(try clear hb);(try clear hb2);(try clear hk);(try clear hi);have hcz9_0:=bd BK101.out 0;have hcz9_1:=bd BK101.out 1;have hfz9_0:=blk_frozen BK101.out 0;have hfz9_1:=blk_frozen BK101.out 1;have hcz10_0:=bd BK102.out 0;have hcz10_1:=bd BK102.out 1;have hfz10_0:=blk_frozen BK102.out 0;have hfz10_1:=blk_frozen BK102.out 1))
  refine bodyPost_ret (results_ct rfl _ _ gb102 43 #[ii a0_0,ii a0_1] (0,0) _ rfl (by (with_reducible repeat (first|refine blk_drewN ?_ _|refine blk_drew ?_|refine blk_alloc ?_ _));refine blk_put (cs:=#[ii a0_0,ii 0]) ?_ 1 _ rfl;(with_reducible repeat (first|refine blk_drewN ?_ _|refine blk_drew ?_|refine blk_alloc ?_ _));refine blk_put (cs:=#[ii 0,ii 0]) ?_ 0 _ rfl;(with_reducible repeat (first|refine blk_drewN ?_ _|refine blk_drew ?_|refine blk_alloc ?_ _));exact BK102.out) Tryz.underlying43 rfl kr) rfl ?_
  exact ⟨vf,v2 HB.out GE101.out GE102.out⟩
 ·replace c3:=Bool.eq_false_iff.mpr c3
  subst c3
  have H1 : (some (0,0,3)) = some (r1,r2,r3):=by rw [if_neg (show ¬ (false = true) by decide)] at H;exact H
  clear H
  have H:=H1
  clear H1
  simp only [Option.some.injEq,Prod.mk.injEq] at H
  obtain ⟨rfl,rfl,rfl⟩:=H
  go_enter Tryz.func92,Tryz.ntmps92
  go_wp2_with (first|(refine bE 1 #[ii a0_0,ii a0_1] 43 ?_;intro gb101 hg w11 hbox hb;have BK101:=am (hbox);have GW101:=am (lg hg (below_size (v0 HB.out)) : w.heap.size ≤ gb101);have GE101:=GW101;replace HB:=am (below_step (v0 HB.out) hb);clear hb hbox hg)|(refine bE 2 #[ii 0,ii 0] 43 ?_;intro gb102 hg w12 hbox hb;have BK102:=am (hbox);have GW102:=am (lg hg (below_size (v1 HB.out GE101.out)) : w.heap.size ≤ gb102);have GE102:=GW102;have NB101_102:=am (nl hg (vb BK101.out));have NB102_101:=am ((nl hg (vb BK101.out)).symm);replace BK101:=am (blk_below (vb BK101.out) hb);replace HB:=am (below_step (v1 HB.out GE101.out) hb);clear hb hbox hg;have hnb13:=NB101_102.out;have hnc13:=NB102_101.out;have hcz14_0:=bd BK101.out 0;have hcz14_1:=bd BK101.out 1;have hfz14_0:=blk_frozen BK101.out 0;have hfz14_1:=blk_frozen BK101.out 1)|(refine cE (some 5) Tryz.func89 #[.agg #[ii a0_0,ii a0_1]] ?_;(with_reducible refine (pit_valid.calls k a0_0 a0_1 false _ A2.out).mono ?_);rintro e w15 ⟨rfl,hb⟩;refine ⟨_,rfl,?_⟩;replace BK101:=am (blk_below (vb BK101.out) hb);replace BK102:=am (blk_below (vb BK102.out) hb);replace HB:=am (below_step (v2 HB.out GE101.out GE102.out) hb);(try clear hb);(try clear hb2);(try clear hk);(try clear hi);have hcz16_0:=bd BK102.out 0;have hcz16_1:=bd BK102.out 1;have hfz16_0:=blk_frozen BK102.out 0;have hfz16_1:=blk_frozen BK102.out 1))
  refine bodyPost_ret (results_ct rfl _ _ gb102 43 #[ii 0,ii 0] (0,0) _ rfl (by (with_reducible repeat (first|refine blk_drewN ?_ _|refine blk_drew ?_|refine blk_alloc ?_ _));refine blk_put (cs:=#[ii 0,ii 0]) ?_ 1 _ rfl;(with_reducible repeat (first|refine blk_drewN ?_ _|refine blk_drew ?_|refine blk_alloc ?_ _));refine blk_put (cs:=#[ii 0,ii 0]) ?_ 0 _ rfl;(with_reducible repeat (first|refine blk_drewN ?_ _|refine blk_drew ?_|refine blk_alloc ?_ _));exact BK102.out) Tryz.underlying43 rfl kr) rfl ?_
  exact ⟨vf,v2 HB.out GE101.out GE102.out⟩
section
attribute [local go_sem high] eqA89
def calxref04_SameParts.l0 : Nat → List (S89) → List (S89) → Int → Option (Bool)
|0,_,_,_ => none
|k + 1,x0,x1,x5 => if x5 < (x0.length : Int) then (if 0 ≤ x5 then (if x5 < (x1.length : Int) then (if (!(((rd_T89 x0 x5).f0) == ((rd_T89 x1 x5).f0)) || ((!(((rd_T89 x0 x5).f1.f0) == ((rd_T89 x1 x5).f1.f0)) || (!(((rd_T89 x0 x5).f1.f1) == ((rd_T89 x1 x5).f1.f1)))))) = true then (some false) else (calxref04_SameParts.l0 k x0 x1 (wrap64 (x5 + 1)))) else (none)) else (none)) else (some true)
def calxref04_SameParts.f (k : Nat) (l0 : List (S89)) (l1 : List (S89)) : Option (Bool):=if (l0.length : Int) = (l1.length : Int) then (calxref04_SameParts.l0 k l0 l1 0) else (some false)
set_option maxHeartbeats 8000000 in
set_option maxRecDepth 100000 in
theorem calxref04_SameParts.calls (k : Nat) (A0 : Option Addr) (c0 : Nat) (l0 : List (S89)) (A1 : Option Addr) (c1 : Nat) (l1 : List (S89)) (r : Bool) (w : World) (hr0 : Kd.C k89 w A0 l0.length l0) (hc0 : l0.length ≤ c0) (hr1 : Kd.C k89 w A1 l1.length l1) (hc1 : l1.length ≤ c1) (h : calxref04_SameParts.f k l0 l1 = some r) :
  Calls Tryz.prog 38 #[.slice A0 l0.length c0,.slice A1 l1.length c1] w fun e w' => e = .returned (.bool r) ∧ Drawn0 w w':=by
 have hu89:=Tryz.underlying89
 have HR0:=am hr0
 have HC0:=am hc0
 clear hr0 hc0
 have HR1:=am hr1
 have HC1:=am hc1
 clear hr1 hc1
 have H : (if (l0.length : Int) = (l1.length : Int) then (calxref04_SameParts.l0 k l0 l1 0) else (some false)) = some r:=h
 clear h
 by_cases c3 : (l0.length : Int) = (l1.length : Int)
 ·rw [if_pos c3] at H
  have c3b0 : ((l0.length : Int) == (l1.length : Int)) = true:=beq_iff_eq.mpr c3
  have c3b1 : ((l0.length : Int) != (l1.length : Int)) = false:=bne_eq_false_iff_eq.mpr c3
  have c3b2 : (l0.length == l1.length) = true:=by first|simpa using c3|(simp at c3 ⊢;omega)
  clear c3
  have H':=am H
  clear H
  go_enter Tryz.func38,Tryz.ntmps38
  go_wp2
  repeat (go_quiet (fail);try go_wp2)
  go_loopg [5] k (fun kq v5 w' => ∃ (x5_1 : Int),v5 = ii x5_1 ∧ Aside0 (calxref04_SameParts.l0 kq l0 l1 x5_1 = some r) ∧ Aside0 (kq ≤ k) ∧ Drawn0 w w')
  case atStart => exact ⟨(0),ve,H',⟨Nat.le_refl _⟩,by repeat (first|exact Drawn0.refl _|apply Drawn0.step)⟩
  case round =>
   clear H'
   try clear c1;try clear p2;try clear c3;try clear c3b0;try clear c3b1;try clear c3b2
   obtain ⟨x5_1,rfl,HA,HK1,⟨m1,rfl⟩⟩:=hrel
   cases gk with
  |zero => exact absurd HA.out (by simp [calxref04_SameParts.l0])
  |succ k1 =>
    have H:=HA.out
    clear HA
    simp only [calxref04_SameParts.l0] at H
    by_cases c4 : x5_1 < (l0.length : Int)
    ·rw [if_pos c4] at H
     have c4b0 : decide (x5_1 < (l0.length : Int)) = true:=decide_eq_true c4
     clear c4
     by_cases c5 : 0 ≤ x5_1
     ·rw [if_pos c5] at H
      have c5b0 : decide (0 ≤ x5_1) = true:=decide_eq_true c5
      clear c5
      by_cases c6 : x5_1 < (l1.length : Int)
      ·rw [if_pos c6] at H
       have c6b0 : decide (x5_1 < (l1.length : Int)) = true:=decide_eq_true c6
       clear c6
       by_cases c7 : (!(((rd_T89 l0 x5_1).f0) == ((rd_T89 l1 x5_1).f0)) || ((!(((rd_T89 l0 x5_1).f1.f0) == ((rd_T89 l1 x5_1).f1.f0)) || (!(((rd_T89 l0 x5_1).f1.f1) == ((rd_T89 l1 x5_1).f1.f1)))))) = true
       ·rw [if_pos c7] at H
        have c7b0 : (!(((rd_T89 l0 x5_1).f0) == ((rd_T89 l1 x5_1).f0)) || ((!(((rd_T89 l0 x5_1).f1.f0) == ((rd_T89 l1 x5_1).f1.f0)) || (!(((rd_T89 l0 x5_1).f1.f1) == ((rd_T89 l1 x5_1).f1.f1)))))) = true:=c7
        clear c7
        obtain rfl:=Option.some.inj H
        have p101 : 0 ≤ (x5_1 : Int):=of_decide_eq_true va
        have q101 : x5_1 < (l0.length : Int):=of_decide_eq_true va
        obtain ⟨ad101,e101,hx101_0,hx101_1,hx101_2⟩:=at_T89 HR0.out x5_1 p101 q101
        cases e101
        replace p101:=eq_true p101
        replace q101:=eq_true q101
        have p102 : 0 ≤ (x5_1 : Int):=of_decide_eq_true va
        have q102 : x5_1 < (l1.length : Int):=of_decide_eq_true va
        obtain ⟨ad102,e102,hx102_0,hx102_1,hx102_2⟩:=at_T89 HR1.out x5_1 p102 q102
        cases e102
        replace p102:=eq_true p102
        replace q102:=eq_true q102
        go_wp2
        repeat (go_quiet (fail);try go_wp2)
        go_ret
        exact ⟨ve,by repeat (first|exact Drawn0.refl _|apply Drawn0.step)⟩
       ·rw [if_neg c7] at H
        have c7b0 : (!(((rd_T89 l0 x5_1).f0) == ((rd_T89 l1 x5_1).f0)) || ((!(((rd_T89 l0 x5_1).f1.f0) == ((rd_T89 l1 x5_1).f1.f0)) || (!(((rd_T89 l0 x5_1).f1.f1) == ((rd_T89 l1 x5_1).f1.f1)))))) = false:=by simpa using c7
        clear c7
        have H':=am H
        clear H
        have p101 : 0 ≤ (x5_1 : Int):=of_decide_eq_true va
        have q101 : x5_1 < (l0.length : Int):=of_decide_eq_true va
        obtain ⟨ad101,e101,hx101_0,hx101_1,hx101_2⟩:=at_T89 HR0.out x5_1 p101 q101
        cases e101
        replace p101:=eq_true p101
        replace q101:=eq_true q101
        have p102 : 0 ≤ (x5_1 : Int):=of_decide_eq_true va
        have q102 : x5_1 < (l1.length : Int):=of_decide_eq_true va
        obtain ⟨ad102,e102,hx102_0,hx102_1,hx102_2⟩:=at_T89 HR1.out x5_1 p102 q102
        cases e102
        replace p102:=eq_true p102
        replace q102:=eq_true q102
        go_wp2
        repeat (go_quiet (fail);try go_wp2)
        go_roundg k1
        case measure => have:=HK1.out;omega
        case rel => exact ⟨(wrap64 (x5_1 + 1)),ve,H',⟨by have:=HK1.out;omega⟩,by repeat (first|exact Drawn0.refl _|apply Drawn0.step)⟩
      ·rw [if_neg c6] at H
       exact absurd H (by simp)
     ·rw [if_neg c5] at H
      exact absurd H (by simp)
    ·rw [if_neg c4] at H
     have c4b0 : decide (x5_1 < (l0.length : Int)) = false:=decide_eq_false c4
     clear c4
     obtain rfl:=Option.some.inj H
     go_wp2
     repeat (go_quiet (fail);try go_wp2)
     go_ret
     exact ⟨ve,by repeat (first|exact Drawn0.refl _|apply Drawn0.step)⟩
 ·rw [if_neg c3] at H
  have c3b0 : ((l0.length : Int) == (l1.length : Int)) = false:=beq_eq_false_iff_ne.mpr c3
  have c3b1 : ((l0.length : Int) != (l1.length : Int)) = true:=bne_iff_ne.mpr c3
  have c3b2 : (l0.length == l1.length) = false:=by first|simpa using c3|(simp at c3 ⊢;omega)
  obtain rfl:=Option.some.inj H
  go_enter Tryz.func38,Tryz.ntmps38
  go_wp2
  repeat (go_quiet (fail);try go_wp2)
  go_ret
  exact ⟨ve,by repeat (first|exact Drawn0.refl _|apply Drawn0.step)⟩
end
end Go.Proofs.YtjjfpmapjjemcaaGreat.B
end
