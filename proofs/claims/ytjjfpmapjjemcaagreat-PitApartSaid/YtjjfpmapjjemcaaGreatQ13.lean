import Derived.Test.YtjjfpmapjjemcaaGreatQ7
import Derived.Test.YtjjfpmapjjemcaaGreatQ9
set_option linter.unusedVariables false
set_option linter.unusedSimpArgs false
section
namespace Go.Proofs.YtjjfpmapjjemcaaGreat.B
open Go.RowKit Go.Proofs.YtjjfpmapjjemcaaGreatW.PrintWords Go.Proofs.YtjjfpmapjjemcaaGreatW.PrintLast Go.Proofs.YtjjfpmapjjemcaaGreatW.PrintMore
attribute [local go_sem] max2_int min2_int max_two min_two max_three min_three max_four min_four
def pit_barrow_part.l0 : Nat → Int → List (S89) → Int → Int → Option (Int × Int)
|0,_,_,_,_ => none
|k + 1,x1,x8,x9,x10 => if x10 < x9 then (if 0 ≤ x10 then (if x10 < (x8.length : Int) then (if ((rd_T89 x8 x10).f0) = x1 then (some ((rd_T89 x8 x10).f1.f0,(rd_T89 x8 x10).f1.f1)) else (pit_barrow_part.l0 k x1 x8 x9 (wrap64 (x10 + 1)))) else (none)) else (none)) else ((pit_whole.f 0).bind fun bt105 => (some (bt105.1,bt105.2)))
def pit_barrow_part.f (k : Nat) (a0_0 : Int) (a0_1 : Int) (a0_2 : Int) (l0_3 : List (S89)) (a1 : Int) : Option (Int × Int):=pit_barrow_part.l0 k a1 l0_3 (l0_3.length : Int) 0
set_option maxHeartbeats 8000000 in
set_option maxRecDepth 100000 in
theorem pit_barrow_part.calls (k : Nat) (a0_0 : Int) (a0_1 : Int) (a0_2 : Int) (A0_3 : Option Addr) (c0_3 : Nat) (l0_3 : List (S89)) (a1 : Int) (r1 : Int) (r2 : Int) (w : World) (hr0_3 : Kd.C k89 w A0_3 l0_3.length l0_3) (hc0_3 : l0_3.length ≤ c0_3) (h : pit_barrow_part.f k a0_0 a0_1 a0_2 l0_3 a1 = some (r1,r2)) :
  Calls Tryz.prog 113 #[.agg #[ii a0_0,ii a0_1,ii a0_2,.slice A0_3 l0_3.length c0_3],ii a1] w fun e w' => e = .returned (.agg #[ii r1,ii r2]) ∧ Below w.heap.size w w':=by
 have hu167:=Tryz.underlying167
 have hu43:=Tryz.underlying43
 have hu89:=Tryz.underlying89
 have HR0_3:=am hr0_3
 have HC0_3:=am hc0_3
 clear hr0_3 hc0_3
 have HB:=am (Below.refl w.heap.size w)
 have H : (pit_barrow_part.l0 k a1 l0_3 (l0_3.length : Int) 0) = some (r1,r2):=h
 clear h
 have H':=am H
 clear H
 go_enter Tryz.func113,Tryz.ntmps113
 go_wp2_with (first|(refine bE 2 #[ii a0_0,ii a0_1,ii a0_2,.slice A0_3 l0_3.length c0_3] 167 ?_;intro gb101 hg w3 hbox hb;have BK101:=am (hbox);have GW101:=am (lg hg (below_size (v0 HB.out)) : w.heap.size ≤ gb101);have GE101:=GW101;replace HB:=am (below_step (v0 HB.out) hb);clear hb hbox hg)|(refine bE 4 #[ii 0,ii 0] 43 ?_;intro gb102 hg w4 hbox hb;have BK102:=am (hbox);have GW102:=am (lg hg (below_size (v1 HB.out GE101.out)) : w.heap.size ≤ gb102);have GE102:=GW102;have NB101_102:=am (nl hg (vb BK101.out));have NB102_101:=am ((nl hg (vb BK101.out)).symm);replace BK101:=am (blk_below (vb BK101.out) hb);replace HB:=am (below_step (v1 HB.out GE101.out) hb);clear hb hbox hg;have hnb5:=NB101_102.out;have hnc5:=NB102_101.out;have hcz6_0:=bd BK101.out 0;have hcz6_1:=bd BK101.out 1;have hcz6_2:=bd BK101.out 2;have hcz6_3:=bd BK101.out 3;have hfz6_0:=blk_frozen BK101.out 0;have hfz6_1:=blk_frozen BK101.out 1;have hfz6_2:=blk_frozen BK101.out 2;have hfz6_3:=blk_frozen BK101.out 3))
 go_loopg [10] k (fun kq v10 w' => ∃ (x10_1 : Int) (x103000_1 : Int) (x103001_1 : Int),v10 = ii x10_1 ∧ Aside0 (pit_barrow_part.l0 kq a1 l0_3 (l0_3.length : Int) x10_1 = some (r1,r2)) ∧ Aside0 (kq ≤ k) ∧ Aside0 (w'.heap[gb101]? = some (.cells #[ii a0_0,ii a0_1,ii a0_2,(.slice A0_3 l0_3.length c0_3)] 167 (0,0))) ∧ Aside0 (w'.heap[gb102]? = some (.cells #[ii x103000_1,ii x103001_1] 43 (0,0))) ∧ Aside0 (Below w.heap.size w w'))
 case atStart => exact ⟨(0),(0),(0),ve,H',⟨Nat.le_refl _⟩,⟨vb BK101.out⟩,⟨vb BK102.out⟩,⟨v2 HB.out GE101.out GE102.out⟩⟩
 case round =>
  clear H'
  try clear c1;try clear p2;try clear c5;try clear hcz6_0;try clear hcz6_1;try clear hcz6_2;try clear hcz6_3;try clear hfz6_0;try clear hfz6_1;try clear hfz6_2;try clear hfz6_3
  obtain ⟨x10_1,x103000_1,x103001_1,rfl,HA,HK1,BK101,BK102,HB⟩:=hrel
  cases gk with
 |zero => exact absurd HA.out (by simp [pit_barrow_part.l0])
 |succ k1 =>
   have H:=HA.out
   clear HA
   simp only [pit_barrow_part.l0] at H
   by_cases c7 : x10_1 < (l0_3.length : Int)
   ·rw [if_pos c7] at H
    have c7b0 : decide (x10_1 < (l0_3.length : Int)) = true:=decide_eq_true c7
    clear c7
    by_cases c8 : 0 ≤ x10_1
    ·rw [if_pos c8] at H
     have c8b0 : decide (0 ≤ x10_1) = true:=decide_eq_true c8
     clear c8
     by_cases c9 : x10_1 < (l0_3.length : Int)
     ·rw [if_pos c9] at H
      have c9b0 : decide (x10_1 < (l0_3.length : Int)) = true:=decide_eq_true c9
      clear c9
      by_cases c10 : ((rd_T89 l0_3 x10_1).f0) = a1
      ·rw [if_pos c10] at H
       have c10b0 : (((rd_T89 l0_3 x10_1).f0) == a1) = true:=beq_iff_eq.mpr c10
       have c10b1 : (((rd_T89 l0_3 x10_1).f0) != a1) = false:=bne_eq_false_iff_eq.mpr c10
       clear c10
       simp only [Option.some.injEq,Prod.mk.injEq] at H
       obtain ⟨rfl,rfl⟩:=H
       have p103 : 0 ≤ (x10_1 : Int):=of_decide_eq_true va
       have q103 : x10_1 < (l0_3.length : Int):=of_decide_eq_true va
       obtain ⟨ad103,e103,hx103_0,hx103_1,hx103_2⟩:=at_T89 HR0_3.out x10_1 p103 q103
       cases e103
       replace hx103_0:=(HB.out.cell (wb w _ hx103_0)).trans hx103_0
       replace hx103_1:=(HB.out.cell (wb w _ hx103_1)).trans hx103_1
       replace hx103_2:=(HB.out.cell (wb w _ hx103_2)).trans hx103_2
       replace p103:=eq_true p103
       replace q103:=eq_true q103
       go_wp2_with (first|(refine bE 6 #[ii 0,ii 0,ii 0] 89 ?_;intro gb104 hg w11 hbox hb;have BK104:=am (hbox);have GW104:=am (lg hg (below_size (v2 HB.out GE101.out GE102.out)) : w.heap.size ≤ gb104);have GE104:=GW104;have NB101_104:=am (nl hg (vb BK101.out));have NB104_101:=am ((nl hg (vb BK101.out)).symm);have NB102_104:=am (nl hg (vb BK102.out));have NB104_102:=am ((nl hg (vb BK102.out)).symm);replace BK101:=am (blk_below (vb BK101.out) hb);replace BK102:=am (blk_below (vb BK102.out) hb);replace HB:=am (below_step (v2 HB.out GE101.out GE102.out) hb);clear hb hbox hg;have hnb12:=NB104_101.out;have hnc12:=NB101_104.out;have hnb13:=NB104_102.out;have hnc13:=NB102_104.out;have hcz14_0:=bd BK104.out 0;have hcz14_1:=bd BK104.out 1;have hcz14_2:=bd BK104.out 2;have hfz14_0:=blk_frozen BK104.out 0;have hfz14_1:=blk_frozen BK104.out 1;have hfz14_2:=blk_frozen BK104.out 2;have hnb15:=NB102_101.out;have hnc15:=NB101_102.out;have hcz16_0:=bd BK102.out 0;have hcz16_1:=bd BK102.out 1;have hfz16_0:=blk_frozen BK102.out 0;have hfz16_1:=blk_frozen BK102.out 1))
       refine bodyPost_ret (results_cell_row rfl _ _ gb102 43 #[ii ((rd_T89 l0_3 x10_1).f1.f0),ii ((rd_T89 l0_3 x10_1).f1.f1)] (0,0) _ rfl (by (with_reducible repeat (first|refine blk_drewN ?_ _|refine blk_drew ?_|refine blk_alloc ?_ _));refine blk_put (cs:=#[ii ((rd_T89 l0_3 x10_1).f1.f0),ii x103001_1]) ?_ 1 _ rfl;(with_reducible repeat (first|refine blk_drewN ?_ _|refine blk_drew ?_|refine blk_alloc ?_ _));refine blk_put (cs:=#[ii x103000_1,ii x103001_1]) ?_ 0 _ rfl;(with_reducible repeat (first|refine blk_drewN ?_ _|refine blk_drew ?_|refine blk_alloc ?_ _));refine blk_far ?_ NB102_104.out _;(with_reducible repeat (first|refine blk_drewN ?_ _|refine blk_drew ?_|refine blk_alloc ?_ _));refine blk_far ?_ NB102_104.out _;(with_reducible repeat (first|refine blk_drewN ?_ _|refine blk_drew ?_|refine blk_alloc ?_ _));refine blk_far ?_ NB102_104.out _;(with_reducible repeat (first|refine blk_drewN ?_ _|refine blk_drew ?_|refine blk_alloc ?_ _));exact BK102.out) Tryz.underlying43 rfl kr) rfl ?_
       exact ⟨vf,v3 HB.out GE101.out GE102.out GE104.out⟩
      ·rw [if_neg c10] at H
       have c10b0 : (((rd_T89 l0_3 x10_1).f0) == a1) = false:=beq_eq_false_iff_ne.mpr c10
       have c10b1 : (((rd_T89 l0_3 x10_1).f0) != a1) = true:=bne_iff_ne.mpr c10
       have H':=am H
       clear H
       have p103 : 0 ≤ (x10_1 : Int):=of_decide_eq_true va
       have q103 : x10_1 < (l0_3.length : Int):=of_decide_eq_true va
       obtain ⟨ad103,e103,hx103_0,hx103_1,hx103_2⟩:=at_T89 HR0_3.out x10_1 p103 q103
       cases e103
       replace hx103_0:=(HB.out.cell (wb w _ hx103_0)).trans hx103_0
       replace hx103_1:=(HB.out.cell (wb w _ hx103_1)).trans hx103_1
       replace hx103_2:=(HB.out.cell (wb w _ hx103_2)).trans hx103_2
       replace p103:=eq_true p103
       replace q103:=eq_true q103
       go_wp2_with (first|(refine bE 6 #[ii 0,ii 0,ii 0] 89 ?_;intro gb104 hg w17 hbox hb;have BK104:=am (hbox);have GW104:=am (lg hg (below_size (v2 HB.out GE101.out GE102.out)) : w.heap.size ≤ gb104);have GE104:=GW104;have NB101_104:=am (nl hg (vb BK101.out));have NB104_101:=am ((nl hg (vb BK101.out)).symm);have NB102_104:=am (nl hg (vb BK102.out));have NB104_102:=am ((nl hg (vb BK102.out)).symm);replace BK101:=am (blk_below (vb BK101.out) hb);replace BK102:=am (blk_below (vb BK102.out) hb);replace HB:=am (below_step (v2 HB.out GE101.out GE102.out) hb);clear hb hbox hg;have hnb18:=NB104_101.out;have hnc18:=NB101_104.out;have hnb19:=NB104_102.out;have hnc19:=NB102_104.out;have hcz20_0:=bd BK104.out 0;have hcz20_1:=bd BK104.out 1;have hcz20_2:=bd BK104.out 2;have hfz20_0:=blk_frozen BK104.out 0;have hfz20_1:=blk_frozen BK104.out 1;have hfz20_2:=blk_frozen BK104.out 2))
       go_roundg k1
       case measure => have:=HK1.out;omega
       case rel => exact ⟨(wrap64 (x10_1 + 1)),(x103000_1),(x103001_1),ve,H',⟨by have:=HK1.out;omega⟩,⟨by (with_reducible repeat (first|refine blk_drewN ?_ _|refine blk_drew ?_|refine blk_alloc ?_ _));refine blk_far ?_ NB101_104.out _;(with_reducible repeat (first|refine blk_drewN ?_ _|refine blk_drew ?_|refine blk_alloc ?_ _));refine blk_far ?_ NB101_104.out _;(with_reducible repeat (first|refine blk_drewN ?_ _|refine blk_drew ?_|refine blk_alloc ?_ _));refine blk_far ?_ NB101_104.out _;(with_reducible repeat (first|refine blk_drewN ?_ _|refine blk_drew ?_|refine blk_alloc ?_ _));exact BK101.out⟩,⟨by (with_reducible repeat (first|refine blk_drewN ?_ _|refine blk_drew ?_|refine blk_alloc ?_ _));refine blk_far ?_ NB102_104.out _;(with_reducible repeat (first|refine blk_drewN ?_ _|refine blk_drew ?_|refine blk_alloc ?_ _));refine blk_far ?_ NB102_104.out _;(with_reducible repeat (first|refine blk_drewN ?_ _|refine blk_drew ?_|refine blk_alloc ?_ _));refine blk_far ?_ NB102_104.out _;(with_reducible repeat (first|refine blk_drewN ?_ _|refine blk_drew ?_|refine blk_alloc ?_ _));exact BK102.out⟩,⟨v3 HB.out GE101.out GE102.out GE104.out⟩⟩
     ·rw [if_neg c9] at H
      exact absurd H (by simp)
    ·rw [if_neg c8] at H
     exact absurd H (by simp)
   ·rw [if_neg c7] at H
    have c7b0 : decide (x10_1 < (l0_3.length : Int)) = false:=decide_eq_false c7
    clear c7
    replace H:=Option.bind_eq_some_iff.mp H
    obtain ⟨⟨t105,t106⟩,A210,H⟩:=H
    replace H : (some (t105,t106)) = some (r1,r2):=H
    have A21:=am A210
    clear A210
    simp only [Option.some.injEq,Prod.mk.injEq] at H
    obtain ⟨rfl,rfl⟩:=H
    go_wp2_with (first|(refine cE (some 21) Tryz.func156 #[ii 0] ?_;(with_reducible refine (pit_whole.calls 0 t105 t106 _ A21.out).mono ?_);rintro e w22 ⟨rfl,hb⟩;refine ⟨_,rfl,?_⟩;replace BK101:=am (blk_below (vb BK101.out) hb);replace BK102:=am (blk_below (vb BK102.out) hb);replace HB:=am (below_step (v2 HB.out GE101.out GE102.out) hb);(try clear hb);(try clear hb2);(try clear hk);(try clear hi);have hnb23:=NB102_101.out;have hnc23:=NB101_102.out;have hcz24_0:=bd BK102.out 0;have hcz24_1:=bd BK102.out 1;have hfz24_0:=blk_frozen BK102.out 0;have hfz24_1:=blk_frozen BK102.out 1))
    refine bodyPost_ret (results_cell_row rfl _ _ gb102 43 #[ii t105,ii t106] (0,0) _ rfl (by (with_reducible repeat (first|refine blk_drewN ?_ _|refine blk_drew ?_|refine blk_alloc ?_ _));refine blk_put (cs:=#[ii t105,ii x103001_1]) ?_ 1 _ rfl;(with_reducible repeat (first|refine blk_drewN ?_ _|refine blk_drew ?_|refine blk_alloc ?_ _));refine blk_put (cs:=#[ii x103000_1,ii x103001_1]) ?_ 0 _ rfl;(with_reducible repeat (first|refine blk_drewN ?_ _|refine blk_drew ?_|refine blk_alloc ?_ _));exact BK102.out) Tryz.underlying43 rfl kr) rfl ?_
    exact ⟨vf,v2 HB.out GE101.out GE102.out⟩
end Go.Proofs.YtjjfpmapjjemcaaGreat.B
end
