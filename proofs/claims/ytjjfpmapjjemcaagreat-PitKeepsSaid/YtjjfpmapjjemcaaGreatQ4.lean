import Derived.Outline
import Derived.Test.YtjjfpmapjjemcaaGreatQ1
import Derived.Test.YtjjfpmapjjemcaaGreatQ2
import Derived.Test.YtjjfpmapjjemcaaGreatQ3
set_option linter.unusedVariables false
set_option linter.unusedSimpArgs false
section
namespace Go.Proofs.YtjjfpmapjjemcaaGreat.B
open Go.RowKit Go.Proofs.YtjjfpmapjjemcaaGreatW.PrintWords Go.Proofs.YtjjfpmapjjemcaaGreatW.PrintLast Go.Proofs.YtjjfpmapjjemcaaGreatW.PrintMore
attribute [local go_sem] max2_int min2_int max_two min_two max_three min_three max_four min_four
def pit_barrow_part.l0 : Nat → Int → List (S89) → Int → Int → Option (Int × Int)
|0,_,_,_,_ => none
|k + 1,x1,x8,x9,x10 => if x10 < x9 then (if 0 ≤ x10 then (if x10 < (x8.length : Int) then (if ((rd_T89 x8 x10).f0) = x1 then (some ((rd_T89 x8 x10).f1.f0,(rd_T89 x8 x10).f1.f1)) else (pit_barrow_part.l0 k x1 x8 x9 (wrap64 (x10 + 1)))) else (none)) else (none)) else ((pit_whole.f 0).bind fun bt105 => (some (bt105.1,bt105.2)))
def pit_barrow_part.f (k : Nat) (a0_0 : Int) (a0_1 : Int) (a0_2 : Int) (l0_3 : List (S89)) (a1 : Int) : Option (Int × Int):=pit_barrow_part.l0 k a1 l0_3 (l0_3.length : Int) 0
set_option maxHeartbeats 8000000 in
set_option maxRecDepth 100000 in
theorem pit_barrow_part.calls (k : Nat) (a0_0 : Int) (a0_1 : Int) (a0_2 : Int) (A0_3 : Option Addr) (c0_3 : Nat) (l0_3 : List (S89)) (a1 : Int) (r1 : Int) (r2 : Int) (w : World) (hr0_3 : Kd.C k89 w A0_3 l0_3.length l0_3) (hc0_3 : l0_3.length ≤ c0_3) (h : pit_barrow_part.f k a0_0 a0_1 a0_2 l0_3 a1 = some (r1,r2)) :
  Calls Tryz.prog 113 #[.agg #[.int .i64 a0_0,.int .i64 a0_1,.int .i64 a0_2,.slice A0_3 l0_3.length c0_3],.int .i64 a1] w fun e w' => e = .returned (.agg #[.int .i64 r1,.int .i64 r2]) ∧ Below w.heap.size w w':=by
 have hu167:=Tryz.underlying167
 have hu43:=Tryz.underlying43
 have hu89:=Tryz.underlying89
 have HR0_3:=am hr0_3
 have HC0_3:=am hc0_3
 clear hr0_3 hc0_3
 have HB:=am (Below.refl w.heap.size w)
 have H : (pit_barrow_part.l0 k a1 l0_3 (l0_3.length : Int) 0) = some (r1,r2):=h
 clear h
 have H':=am H
 clear H
 go_enter Tryz.func113,Tryz.ntmps113
 go_wp2_with (first|(refine bE 2 #[.int .i64 a0_0,.int .i64 a0_1,.int .i64 a0_2,.slice A0_3 l0_3.length c0_3] 167 ?_;intro gb101 hg w3 hbox hb;have BK101:=am (hbox);have GW101:=am (lg hg (below_size (v0 HB.out)) : w.heap.size ≤ gb101);have GE101:=GW101;replace HB:=am (below_step (v0 HB.out) hb);clear hb hbox hg)|(refine bE 4 #[.int .i64 0,.int .i64 0] 43 ?_;intro gb102 hg w4 hbox hb;have BK102:=am (hbox);have GW102:=am (lg hg (below_size (v1 HB.out GE101.out)) : w.heap.size ≤ gb102);have GE102:=GW102;have NB101_102:=am (nl hg (vb BK101.out));have NB102_101:=am ((nl hg (vb BK101.out)).symm);replace BK101:=am (blk_below (vb BK101.out) hb);replace HB:=am (below_step (v1 HB.out GE101.out) hb);clear hb hbox hg;have hnb5:=NB101_102.out;have hnc5:=NB102_101.out;have hcz6_0:=bd BK101.out 0;have hcz6_1:=bd BK101.out 1;have hcz6_2:=bd BK101.out 2;have hcz6_3:=bd BK101.out 3;have hfz6_0:=blk_frozen BK101.out 0;have hfz6_1:=blk_frozen BK101.out 1;have hfz6_2:=blk_frozen BK101.out 2;have hfz6_3:=blk_frozen BK101.out 3))
 go_loopg [10] k (fun kq v10 w' => ∃ (x10_1 : Int) (x103000_1 : Int) (x103001_1 : Int),v10 = .int .i64 x10_1 ∧ Aside0 (pit_barrow_part.l0 kq a1 l0_3 (l0_3.length : Int) x10_1 = some (r1,r2)) ∧ Aside0 (kq ≤ k) ∧ Aside0 (w'.heap[gb101]? = some (.cells #[.int .i64 a0_0,.int .i64 a0_1,.int .i64 a0_2,(.slice A0_3 l0_3.length c0_3)] 167 (0,0))) ∧ Aside0 (w'.heap[gb102]? = some (.cells #[.int .i64 x103000_1,.int .i64 x103001_1] 43 (0,0))) ∧ Aside0 (Below w.heap.size w w'))
 case atStart => exact ⟨(0),(0),(0),ve,H',⟨Nat.le_refl _⟩,⟨vb BK101.out⟩,⟨vb BK102.out⟩,⟨v2 HB.out GE101.out GE102.out⟩⟩
 case round =>
  clear H'
  try clear c1
  try clear p2
  try clear c5
  try clear hcz6_0
  try clear hcz6_1
  try clear hcz6_2
  try clear hcz6_3
  try clear hfz6_0
  try clear hfz6_1
  try clear hfz6_2
  try clear hfz6_3
  obtain ⟨x10_1,x103000_1,x103001_1,rfl,HA,HK1,BK101,BK102,HB⟩:=hrel
  cases gk with
 |zero => exact absurd HA.out (by simp [pit_barrow_part.l0])
 |succ k1 =>
   have H:=HA.out
   clear HA
   simp only [pit_barrow_part.l0] at H
   by_cases c7 : x10_1 < (l0_3.length : Int)
   ·rw [if_pos c7] at H
    have c7b0 : decide (x10_1 < (l0_3.length : Int)) = true:=decide_eq_true c7
    clear c7
    by_cases c8 : 0 ≤ x10_1
    ·rw [if_pos c8] at H
     have c8b0 : decide (0 ≤ x10_1) = true:=decide_eq_true c8
     clear c8
     by_cases c9 : x10_1 < (l0_3.length : Int)
     ·rw [if_pos c9] at H
      have c9b0 : decide (x10_1 < (l0_3.length : Int)) = true:=decide_eq_true c9
      clear c9
      by_cases c10 : ((rd_T89 l0_3 x10_1).f0) = a1
      ·rw [if_pos c10] at H
       have c10b0 : (((rd_T89 l0_3 x10_1).f0) == a1) = true:=beq_iff_eq.mpr c10
       have c10b1 : (((rd_T89 l0_3 x10_1).f0) != a1) = false:=bne_eq_false_iff_eq.mpr c10
       clear c10
       simp only [Option.some.injEq,Prod.mk.injEq] at H
       obtain ⟨rfl,rfl⟩:=H
       have p103 : 0 ≤ (x10_1 : Int):=of_decide_eq_true va
       have q103 : x10_1 < (l0_3.length : Int):=of_decide_eq_true va
       obtain ⟨ad103,e103,hx103_0,hx103_1,hx103_2⟩:=at_T89 HR0_3.out x10_1 p103 q103
       cases e103
       replace hx103_0:=(HB.out.cell (wb w _ hx103_0)).trans hx103_0
       replace hx103_1:=(HB.out.cell (wb w _ hx103_1)).trans hx103_1
       replace hx103_2:=(HB.out.cell (wb w _ hx103_2)).trans hx103_2
       replace p103:=eq_true p103
       replace q103:=eq_true q103
       go_wp2_with (first|(refine bE 6 #[.int .i64 0,.int .i64 0,.int .i64 0] 89 ?_;intro gb104 hg w11 hbox hb;have BK104:=am (hbox);have GW104:=am (lg hg (below_size (v2 HB.out GE101.out GE102.out)) : w.heap.size ≤ gb104);have GE104:=GW104;have NB101_104:=am (nl hg (vb BK101.out));have NB104_101:=am ((nl hg (vb BK101.out)).symm);have NB102_104:=am (nl hg (vb BK102.out));have NB104_102:=am ((nl hg (vb BK102.out)).symm);replace BK101:=am (blk_below (vb BK101.out) hb);replace BK102:=am (blk_below (vb BK102.out) hb);replace HB:=am (below_step (v2 HB.out GE101.out GE102.out) hb);clear hb hbox hg;have hnb12:=NB104_101.out;have hnc12:=NB101_104.out;have hnb13:=NB104_102.out;have hnc13:=NB102_104.out;have hcz14_0:=bd BK104.out 0;have hcz14_1:=bd BK104.out 1;have hcz14_2:=bd BK104.out 2;have hfz14_0:=blk_frozen BK104.out 0;have hfz14_1:=blk_frozen BK104.out 1;have hfz14_2:=blk_frozen BK104.out 2;have hnb15:=NB102_101.out;have hnc15:=NB101_102.out;have hcz16_0:=bd BK102.out 0;have hcz16_1:=bd BK102.out 1;have hfz16_0:=blk_frozen BK102.out 0;have hfz16_1:=blk_frozen BK102.out 1))
       refine bodyPost_ret (results_cell_row rfl _ _ gb102 43 #[.int .i64 ((rd_T89 l0_3 x10_1).f1.f0),.int .i64 ((rd_T89 l0_3 x10_1).f1.f1)] (0,0) _ rfl (by (with_reducible repeat (first|refine blk_drewN ?_ _|refine blk_drew ?_|refine blk_alloc ?_ _));refine blk_put (cs:=#[.int .i64 ((rd_T89 l0_3 x10_1).f1.f0),.int .i64 x103001_1]) ?_ 1 _ rfl;(with_reducible repeat (first|refine blk_drewN ?_ _|refine blk_drew ?_|refine blk_alloc ?_ _));refine blk_put (cs:=#[.int .i64 x103000_1,.int .i64 x103001_1]) ?_ 0 _ rfl;(with_reducible repeat (first|refine blk_drewN ?_ _|refine blk_drew ?_|refine blk_alloc ?_ _));refine blk_far ?_ NB102_104.out _;(with_reducible repeat (first|refine blk_drewN ?_ _|refine blk_drew ?_|refine blk_alloc ?_ _));refine blk_far ?_ NB102_104.out _;(with_reducible repeat (first|refine blk_drewN ?_ _|refine blk_drew ?_|refine blk_alloc ?_ _));refine blk_far ?_ NB102_104.out _;(with_reducible repeat (first|refine blk_drewN ?_ _|refine blk_drew ?_|refine blk_alloc ?_ _));exact BK102.out) Tryz.underlying43 rfl kr) rfl ?_
       exact ⟨vf,v3 HB.out GE101.out GE102.out GE104.out⟩
      ·rw [if_neg c10] at H
       have c10b0 : (((rd_T89 l0_3 x10_1).f0) == a1) = false:=beq_eq_false_iff_ne.mpr c10
       have c10b1 : (((rd_T89 l0_3 x10_1).f0) != a1) = true:=bne_iff_ne.mpr c10
       have H':=am H
       clear H
       have p103 : 0 ≤ (x10_1 : Int):=of_decide_eq_true va
       have q103 : x10_1 < (l0_3.length : Int):=of_decide_eq_true va
       obtain ⟨ad103,e103,hx103_0,hx103_1,hx103_2⟩:=at_T89 HR0_3.out x10_1 p103 q103
       cases e103
       replace hx103_0:=(HB.out.cell (wb w _ hx103_0)).trans hx103_0
       replace hx103_1:=(HB.out.cell (wb w _ hx103_1)).trans hx103_1
       replace hx103_2:=(HB.out.cell (wb w _ hx103_2)).trans hx103_2
       replace p103:=eq_true p103
       replace q103:=eq_true q103
       go_wp2_with (first|(refine bE 6 #[.int .i64 0,.int .i64 0,.int .i64 0] 89 ?_;intro gb104 hg w17 hbox hb;have BK104:=am (hbox);have GW104:=am (lg hg (below_size (v2 HB.out GE101.out GE102.out)) : w.heap.size ≤ gb104);have GE104:=GW104;have NB101_104:=am (nl hg (vb BK101.out));have NB104_101:=am ((nl hg (vb BK101.out)).symm);have NB102_104:=am (nl hg (vb BK102.out));have NB104_102:=am ((nl hg (vb BK102.out)).symm);replace BK101:=am (blk_below (vb BK101.out) hb);replace BK102:=am (blk_below (vb BK102.out) hb);replace HB:=am (below_step (v2 HB.out GE101.out GE102.out) hb);clear hb hbox hg;have hnb18:=NB104_101.out;have hnc18:=NB101_104.out;have hnb19:=NB104_102.out;have hnc19:=NB102_104.out;have hcz20_0:=bd BK104.out 0;have hcz20_1:=bd BK104.out 1;have hcz20_2:=bd BK104.out 2;have hfz20_0:=blk_frozen BK104.out 0;have hfz20_1:=blk_frozen BK104.out 1;have hfz20_2:=blk_frozen BK104.out 2))
       go_roundg k1
       case measure => have:=HK1.out;omega
       case rel => exact ⟨(wrap64 (x10_1 + 1)),(x103000_1),(x103001_1),ve,H',⟨by have:=HK1.out;omega⟩,⟨by (with_reducible repeat (first|refine blk_drewN ?_ _|refine blk_drew ?_|refine blk_alloc ?_ _));refine blk_far ?_ NB101_104.out _;(with_reducible repeat (first|refine blk_drewN ?_ _|refine blk_drew ?_|refine blk_alloc ?_ _));refine blk_far ?_ NB101_104.out _;(with_reducible repeat (first|refine blk_drewN ?_ _|refine blk_drew ?_|refine blk_alloc ?_ _));refine blk_far ?_ NB101_104.out _;(with_reducible repeat (first|refine blk_drewN ?_ _|refine blk_drew ?_|refine blk_alloc ?_ _));exact BK101.out⟩,⟨by (with_reducible repeat (first|refine blk_drewN ?_ _|refine blk_drew ?_|refine blk_alloc ?_ _));refine blk_far ?_ NB102_104.out _;(with_reducible repeat (first|refine blk_drewN ?_ _|refine blk_drew ?_|refine blk_alloc ?_ _));refine blk_far ?_ NB102_104.out _;(with_reducible repeat (first|refine blk_drewN ?_ _|refine blk_drew ?_|refine blk_alloc ?_ _));refine blk_far ?_ NB102_104.out _;(with_reducible repeat (first|refine blk_drewN ?_ _|refine blk_drew ?_|refine blk_alloc ?_ _));exact BK102.out⟩,⟨v3 HB.out GE101.out GE102.out GE104.out⟩⟩
     ·rw [if_neg c9] at H
      exact absurd H (by simp)
    ·rw [if_neg c8] at H
     exact absurd H (by simp)
   ·rw [if_neg c7] at H
    have c7b0 : decide (x10_1 < (l0_3.length : Int)) = false:=decide_eq_false c7
    clear c7
    replace H:=Option.bind_eq_some_iff.mp H
    obtain ⟨⟨t105,t106⟩,A210,H⟩:=H
    replace H : (some (t105,t106)) = some (r1,r2):=H
    have A21:=am A210
    clear A210
    simp only [Option.some.injEq,Prod.mk.injEq] at H
    obtain ⟨rfl,rfl⟩:=H
    go_wp2_with (first|(refine cE (some 21) Tryz.func156 #[.int .i64 0] ?_;(with_reducible refine (pit_whole.calls 0 t105 t106 _ A21.out).mono ?_);rintro e w22 ⟨rfl,hb⟩;refine ⟨_,rfl,?_⟩;replace BK101:=am (blk_below (vb BK101.out) hb);replace BK102:=am (blk_below (vb BK102.out) hb);replace HB:=am (below_step (v2 HB.out GE101.out GE102.out) hb);(try clear hb);(try clear hb2);(try clear hk);(try clear hi);have hnb23:=NB102_101.out;have hnc23:=NB101_102.out;have hcz24_0:=bd BK102.out 0;have hcz24_1:=bd BK102.out 1;have hfz24_0:=blk_frozen BK102.out 0;have hfz24_1:=blk_frozen BK102.out 1))
    refine bodyPost_ret (results_cell_row rfl _ _ gb102 43 #[.int .i64 t105,.int .i64 t106] (0,0) _ rfl (by (with_reducible repeat (first|refine blk_drewN ?_ _|refine blk_drew ?_|refine blk_alloc ?_ _));refine blk_put (cs:=#[.int .i64 t105,.int .i64 x103001_1]) ?_ 1 _ rfl;(with_reducible repeat (first|refine blk_drewN ?_ _|refine blk_drew ?_|refine blk_alloc ?_ _));refine blk_put (cs:=#[.int .i64 x103000_1,.int .i64 x103001_1]) ?_ 0 _ rfl;(with_reducible repeat (first|refine blk_drewN ?_ _|refine blk_drew ?_|refine blk_alloc ?_ _));exact BK102.out) Tryz.underlying43 rfl kr) rfl ?_
    exact ⟨vf,v2 HB.out GE101.out GE102.out⟩
def pit_barrow_share.f (k : Nat) (a0_0 : Int) (a0_1 : Int) (a0_2 : Int) (l0_3 : List (S89)) (a1 : Int) : Option (Int × Int):=(pit_barrow_part.f k a0_0 a0_1 a0_2 l0_3 a1).bind fun bt103 => ((pit_times.f k bt103.1 bt103.2 1 a0_2).bind fun bt105 => (some (bt105.1,bt105.2)))
set_option maxHeartbeats 8000000 in
set_option maxRecDepth 100000 in
theorem pit_barrow_share.calls (k : Nat) (a0_0 : Int) (a0_1 : Int) (a0_2 : Int) (A0_3 : Option Addr) (c0_3 : Nat) (l0_3 : List (S89)) (a1 : Int) (r1 : Int) (r2 : Int) (w : World) (hr0_3 : Kd.C k89 w A0_3 l0_3.length l0_3) (hc0_3 : l0_3.length ≤ c0_3) (h : pit_barrow_share.f k a0_0 a0_1 a0_2 l0_3 a1 = some (r1,r2)) :
  Calls Tryz.prog 100 #[.agg #[.int .i64 a0_0,.int .i64 a0_1,.int .i64 a0_2,.slice A0_3 l0_3.length c0_3],.int .i64 a1] w fun e w' => e = .returned (.agg #[.int .i64 r1,.int .i64 r2]) ∧ Below w.heap.size w w':=by
 have hu167:=Tryz.underlying167
 have hu43:=Tryz.underlying43
 have HR0_3:=am hr0_3
 have HC0_3:=am hc0_3
 clear hr0_3 hc0_3
 have HB:=am (Below.refl w.heap.size w)
 have H : ((pit_barrow_part.f k a0_0 a0_1 a0_2 l0_3 a1).bind fun bt103 => ((pit_times.f k bt103.1 bt103.2 1 a0_2).bind fun bt105 => (some (bt105.1,bt105.2)))) = some (r1,r2):=h
 clear h
 replace H:=Option.bind_eq_some_iff.mp H
 obtain ⟨⟨t103,t104⟩,A30,H⟩:=H
 replace H : ((pit_times.f k t103 t104 1 a0_2).bind fun bt105 => (some (bt105.1,bt105.2))) = some (r1,r2):=H
 have A3:=am A30
 clear A30
 replace H:=Option.bind_eq_some_iff.mp H
 obtain ⟨⟨t105,t106⟩,A40,H⟩:=H
 replace H : (some (t105,t106)) = some (r1,r2):=H
 have A4:=am A40
 clear A40
 simp only [Option.some.injEq,Prod.mk.injEq] at H
 obtain ⟨rfl,rfl⟩:=H
 go_enter Tryz.func100,Tryz.ntmps100
 try go_wp2_with (first|(refine bE 2 #[.int .i64 a0_0,.int .i64 a0_1,.int .i64 a0_2,.slice A0_3 l0_3.length c0_3] 167 ?_;intro gb101 hg w5 hbox hb;have BK101:=am (hbox);have GW101:=am (lg hg (below_size (v0 HB.out)) : w.heap.size ≤ gb101);have GE101:=GW101;replace HB:=am (below_step (v0 HB.out) hb);clear hb hbox hg)|(refine bE 4 #[.int .i64 0,.int .i64 0] 43 ?_;intro gb102 hg w6 hbox hb;have BK102:=am (hbox);have GW102:=am (lg hg (below_size (v1 HB.out GE101.out)) : w.heap.size ≤ gb102);have GE102:=GW102;have NB101_102:=am (nl hg (vb BK101.out));have NB102_101:=am ((nl hg (vb BK101.out)).symm);replace BK101:=am (blk_below (vb BK101.out) hb);replace HB:=am (below_step (v1 HB.out GE101.out) hb);clear hb hbox hg))
 replace BK101:=am (blk_drew BK101.out)
 replace BK102:=am (blk_drew BK102.out)
 replace HB:=am (below_drew1 HB.out)
 refine start_ (n:=7) (S:=fun w' => w'.cell? ⟨gb101,0,none⟩ = some (.int .i64 a0_0) ∧ w'.cell? ⟨gb101,1,none⟩ = some (.int .i64 a0_1) ∧ w'.cell? ⟨gb101,2,none⟩ = some (.int .i64 a0_2) ∧ w'.cell? ⟨gb101,3,none⟩ = some (.slice A0_3 l0_3.length c0_3)) (ds:=[]) (ab 7 0) kr rfl kr ⟨(blk_cell BK101.out 0).trans rfl,(blk_cell BK101.out 1).trans rfl,(blk_cell BK101.out 2).trans rfl,(blk_cell BK101.out 3).trans rfl⟩ (fun hHeld => ?_)
 generalize w6.drew = w7 at BK101 BK102 HB hHeld ⊢
 refine qA 1 (some 6) ?_;refine qA 3 (some 8) ?_;refine qT 0 (some 5) ?_;refine qT 4 (some 9) ?_
 refine qE 2 (some 7) fun K hK => ?_
 refine gC Tryz.func113 #[.agg #[.int .i64 a0_0,.int .i64 a0_1,.int .i64 a0_2,.slice A0_3 l0_3.length c0_3],.int .i64 a1] ?_
 with_reducible refine (pit_barrow_part.calls k a0_0 a0_1 a0_2 _ _ l0_3 a1 t103 t104 _ ?side1 ?side2 A3.out).mono ?_
 (case side1 => repeat (first|exact (Kd.C_below HR0_3.out HB.out)|(with_reducible refine Kd.C_alloc ?_ _)|(with_reducible refine Kd.C_drewN ?_ _)|(with_reducible refine Kd.C_drew ?_)))
 (case side2 => exact HC0_3.out)
 rintro e w8 ⟨rfl,hb⟩
 refine ⟨_,rfl,?_⟩
 replace BK101:=am (blk_below (vb BK101.out) hb)
 replace BK102:=am (blk_below (vb BK102.out) hb)
 replace HB:=am (below_step (v2 HB.out GE101.out GE102.out) hb)
 (try clear hb)
 (try clear hb2)
 (try clear hk)
 (try clear hi)
 refine hK.out _ _ ⟨(blk_cell BK101.out 0).trans rfl,(blk_cell BK101.out 1).trans rfl,(blk_cell BK101.out 2).trans rfl,(blk_cell BK101.out 3).trans rfl⟩ (fun hHeld => ?_)
 clear hK K
 refine qN (some 7) ?_
 refine qE 5 (some 10) fun K hK => ?_
 refine gC Tryz.func88 #[.agg #[.int .i64 t103,.int .i64 t104],.int .i64 1,.int .i64 a0_2] ?_
 with_reducible refine (pit_times.calls k t103 t104 1 a0_2 t105 t106 _ A4.out).mono ?_
 rintro e w9 ⟨rfl,hb⟩
 refine ⟨_,rfl,?_⟩
 replace BK101:=am (blk_below (vb BK101.out) hb)
 replace BK102:=am (blk_below (vb BK102.out) hb)
 replace HB:=am (below_step (v2 HB.out GE101.out GE102.out) hb)
 (try clear hb)
 (try clear hb2)
 (try clear hk)
 (try clear hi)
 refine hK.out _ _ ⟨(blk_cell BK101.out 0).trans rfl,(blk_cell BK101.out 1).trans rfl,(blk_cell BK101.out 2).trans rfl,(blk_cell BK101.out 3).trans rfl⟩ (fun hHeld => ?_)
 clear hK K
 refine qN (some 10) ?_
 refine qE 6 (none) fun K hK => ?_
 have hs10:=bd BK102.out 0
 have hfs10:=blk_frozen BK102.out 0
 have hns10_0:=NB101_102.out
 have hms10_0:=NB102_101.out
 have hs11:=bd BK102.out 1
 have hfs11:=blk_frozen BK102.out 1
 have hns11_0:=NB101_102.out
 have hms11_0:=NB102_101.out
 refine skip_ (w1:=?_) (by rfl) rfl ?_ ?_
 rotate_left
 ·go_simp
  rfl
 refine hK.out _ _ ⟨((cell_far (p:=⟨gb102,_,none⟩) NB101_102.out _).trans (((cell_far (p:=⟨gb102,_,none⟩) NB101_102.out _).trans (hHeld.1)))),((cell_far (p:=⟨gb102,_,none⟩) NB101_102.out _).trans (((cell_far (p:=⟨gb102,_,none⟩) NB101_102.out _).trans (hHeld.2.1)))),((cell_far (p:=⟨gb102,_,none⟩) NB101_102.out _).trans (((cell_far (p:=⟨gb102,_,none⟩) NB101_102.out _).trans (hHeld.2.2.1)))),((cell_far (p:=⟨gb102,_,none⟩) NB101_102.out _).trans (((cell_far (p:=⟨gb102,_,none⟩) NB101_102.out _).trans (hHeld.2.2.2))))⟩ (fun hHeld => ?_)
 clear hK K
 refine done_ kr ?_
 try go_wp2
 refine bodyPost_ret (results_cell_row rfl _ _ gb102 43 #[.int .i64 t105,.int .i64 t106] (0,0) _ rfl (by (with_reducible repeat (first|refine blk_drewN ?_ _|refine blk_drew ?_|refine blk_alloc ?_ _));refine blk_put (cs:=#[.int .i64 t105,.int .i64 0]) ?_ 1 _ rfl;(with_reducible repeat (first|refine blk_drewN ?_ _|refine blk_drew ?_|refine blk_alloc ?_ _));refine blk_put (cs:=#[.int .i64 0,.int .i64 0]) ?_ 0 _ rfl;(with_reducible repeat (first|refine blk_drewN ?_ _|refine blk_drew ?_|refine blk_alloc ?_ _));exact BK102.out) Tryz.underlying43 rfl kr) rfl ?_
 exact ⟨vf,v2 HB.out GE101.out GE102.out⟩
def partL (l : List S89) (pour : Int) : S43:=match l.find? (fun x => decide (x.f0 = pour)) with
|some x => x.f1
|none => wholeP 0
def partP (b : S167) (pour : Int) : S43:=partL b.f3 pour
def shareP (b : S167) (pour : Int) : S43:=timesP (partP b pour) 1 b.f2
def resultP (r : S43) : S43 × Int:=if validP r = true then (r,0) else (⟨0,0⟩,3)
theorem partL_cons (x : S89) (l : List S89) (pour : Int) : partL (x :: l) pour = if x.f0 = pour then x.f1 else partL l pour:=by
 unfold partL
 rw [List.find?_cons]
 by_cases h : x.f0 = pour
 ·simp [h]
 ·simp [h]
theorem part_l0 : ∀ (d k : Nat) (l : List S89) (pour : Int) (i : Nat),i + d = l.length → d < k → l.length < 9223372036854775807 → pit_barrow_part.l0 k pour l (l.length : Int) (i : Int) = some ((partL (l.drop i) pour).f0,(partL (l.drop i) pour).f1)
|d,0,l,pour,i,_,hk,_ => by omega
|0,k + 1,l,pour,i,hd,hk,hl => by
  simp only [pit_barrow_part.l0]
  rw [if_neg (by omega),List.drop_eq_nil_of_le (by omega)]
  rfl
|d + 1,k + 1,l,pour,i,hd,hk,hl => by
  have hi : i < l.length:=by omega
  simp only [pit_barrow_part.l0]
  rw [if_pos (by omega),if_pos (by omega),if_pos (by omega)]
  have hrd : rd_T89 l (i : Int) = l[i]:=by unfold rd_T89;rw [Int.toNat_natCast,List.getD_eq_getElem?_getD,List.getElem?_eq_getElem hi];rfl
  rw [hrd,List.drop_eq_getElem_cons hi,partL_cons]
  by_cases h : l[i].f0 = pour
  ·rw [if_pos h,if_pos h]
  ·rw [if_neg h,if_neg h,wrap_in (by omega) (by omega),show ((i : Int) + 1) = ((i + 1 : Nat) : Int) by omega,part_l0 d k l pour (i + 1) (by omega) (by omega) hl]
theorem part_some (b : S167) (pour : Int) (hl : b.f3.length < 9223372036854775807) : pit_barrow_part.f FU b.f0 b.f1 b.f2 b.f3 pour = some ((partP b pour).f0,(partP b pour).f1):=by
 unfold pit_barrow_part.f partP
 have:=part_l0 b.f3.length FU b.f3 pour 0 (by omega) (FU_lt (by omega)) hl
 simpa using this
theorem partL_ok {pours : List Int} {l : List S89} (h : ∀ x ∈ l,PartOk pours x) (pour : Int) : Rok (partL l pour) ∧ (partL l pour).f0 ≤ 68719476736 ∧ (partL l pour).f1 ≤ 16384:=by
 induction l with
|nil => exact ⟨wholeP_ok (Int.le_refl 0),(by decide : (0 : Int) ≤ 68719476736),(by decide : (1 : Int) ≤ 16384)⟩
|cons x r ih =>
  rw [partL_cons]
  split
  ·exact fineP_of (h x List.mem_cons_self).1
  ·exact ih fun y hy => h y (List.mem_cons_of_mem _ hy)
theorem partP_ok {n : Nat} {pours : List Int} {b : S167} (h : BarrowOk n pours b) (pour : Int) : Rok (partP b pour) ∧ (partP b pour).f0 ≤ 68719476736 ∧ (partP b pour).f1 ≤ 16384:=partL_ok h.par.parts pour
theorem share_some {n : Nat} {pours : List Int} {b : S167} (h : BarrowOk n pours b) (pour : Int) : pit_barrow_share.f FU b.f0 b.f1 b.f2 b.f3 pour = some ((shareP b pour).f0,(shareP b pour).f1):=by
 obtain ⟨h1,h2,h3⟩:=partP_ok h pour
 have hlen : b.f3.length ≤ 60:=h.par.len
 unfold pit_barrow_share.f
 rw [part_some b pour (by omega)]
 simp only [Option.bind_some]
 have h4:=h.lo
 have h5:=h.hi
 rw [times_some h1 h2 (by omega) (by omega) (by omega) h4 (by omega)]
 rfl
theorem result_some (r : S43) : pit_result.f FU r.f0 r.f1 = some ((resultP r).1.f0,(resultP r).1.f1,(resultP r).2):=by
 unfold pit_result.f resultP
 rw [valid_some]
 simp only [Option.bind_some]
 cases validP r <;> rfl
def shareE (r : Except (Int × Int) Yd) (id pour : Int) : S43 × Int:=match r with
|.error x => (⟨0,0⟩,x.1)
|.ok Y => (match Y.barrows.find? (isId id) with
 |none => (⟨0,0⟩,5)
 |some b => if pour ∈ Y.pours then resultP (shareP b pour) else (⟨0,0⟩,5))
section
theorem wpListIn_append_at {F : Fence} {n : Nat} {P : Program} (w : World) {ops : Array Oper} {rest : List Oper} {o : Oper} {a : Act} {Q : Exit → Act → World → Prop}
  (hg : o.guard = none) (s x : Operand) (t : TypeId) (hop : o.op = Op.call { callee:=Callee.builtin Builtin.append,args:=#[s,x],argTypes:=#[t,t] })
  (base : Nat) (e : TypeId) (i : TypeInfo) (z : Value) (size bytes : Nat) (h1 : P.underlying t = some (.slice e)) (h2 : P.info? e = some i) (h3 : i.zero = some z) (h4 : i.size = size) (h5 : i.bytes = bytes) (h6 : z.cells.size = size) (h7 : 0 < size)
  (v : Value) (k : Nat) (xs : List Value) (hs : a.eval s = v) (hown : w.ownsRow base e size v k xs) (ad : Addr) (m c : Nat) (news : List Value) (hx : a.eval x = .slice (some ad) m c) (hn : news.length = m * size)
  (hc : ∀ j u,news[j]? = some u → w.cell? (ad.add j) = some u) (h1c : ∀ u ∈ news,u.oneCell' = true) (b1 : k + m ≤ maxLen) (b2 : (k + m) * bytes ≤ 140737488355328) (b3 : base ≤ w.heap.size)
  (hK : ∀ v' w',w'.ownsRow base e size v' (k + m) (xs ++ news) → w.grownBy w' v.ownBlock → (v'.ownBlock = v.ownBlock ∨ v'.ownBlock = some w.heap.size) → wpListIn F n P ops Q rest (a.put o.dst v') w') :
  wpListIn F n P ops Q (o :: rest) a w:=by
 refine wpListIn_plain hg fun K hK' => ?_
 obtain ⟨v',w',hrun,r1,r2,_,r3⟩:=run_append_own_at (P:=P) w base t o.type e i z size bytes h1 h2 h3 h4 h5 h6 h7 v k xs hown ad m c news hn hc h1c b1 b2 b3
 unfold Oper.wpIn
 refine ⟨?_,?_⟩
 ·simp [Oper.about,hop,resolve,Target.leads,Sem.run_pure]
 ·rw [Oper.semAt_plain F _ _ (by rw [hop];intro c hc';cases hc')]
  simp [execOp,hop,resolve,invoke,builtin,hs,hx,hrun,Result.andThen]
  exact hK' _ _ (hK v' w' r1 r2 r3)
theorem info43_ : (Tryz.prog.info? 43).map (fun i => (i.zero,i.size,i.bytes)) = some (some (.agg #[(.int .i64 0),(.int .i64 0)]),2,16):=by kernel_rfl
def rat43 (p : S43) (c : List Value) : Prop:=c = [.int .i64 p.f0,.int .i64 p.f1]
theorem R_of_rat {W : World} {base : Nat} {v : Value} {xs : List S43} (h : OwnRow rat43 43 2 W base v xs) : Kd.R k43 43 W base (fun _ => True) v xs :=
 ⟨fun _ _ => trivial,h.imp_ (fun p c (hc : rat43 p c) => by cases hc;exact k43_mkM _ _ _ p)⟩
def ofL (pour : Int) (l : List S89) : List S43:=(l.filter fun x => decide (x.f0 = pour)).map (·.f1)
theorem ofL_yes {pour : Int} {pre : List S89} {x : S89} (h : x.f0 = pour) : ofL pour (pre ++ [x]) = ofL pour pre ++ [x.f1]:=by unfold ofL;simp [h]
theorem ofL_no {pour : Int} {pre : List S89} {x : S89} (h : x.f0 ≠ pour) : ofL pour (pre ++ [x]) = ofL pour pre:=by unfold ofL;simp [h]
theorem ofL_len (pour : Int) (l : List S89) : (ofL pour l).length ≤ l.length:=by unfold ofL;rw [List.length_map];exact List.length_filter_le _ _
def OfSt (w0 : World) (D : Nat) (rec : Loop) (pour : Int) (pre : List S89) (W : World) : Prop :=
 ∃ v,W.heap[w0.heap.size + 1]? = some (.cells #[v] 208 (0,0)) ∧ OwnRow rat43 43 2 W w0.heap.size v (ofL pour pre) ∧ W.heap[w0.heap.size]? = some (.cells #[.int .i64 pour] 3 (0,0)) ∧ W.heap[D + 1]? = some (.loop rec) ∧ W.heap[D]? = some (.deferred (some [])) ∧ Below w0.heap.size w0 W
def OfPost (W : World) (xs : List S43) (e : Ending) (W' : World) : Prop :=
 Below W.heap.size W W' ∧ ∃ A c,e = .returned (.slice A xs.length c) ∧ xs.length ≤ c ∧ Kd.C k43 W' A xs.length xs
theorem rat_nil (W : World) (base : Nat) : OwnRow rat43 43 2 W base (.slice none 0 0) []:=(Kd.R_nil k43 43 W base (fun _ => True)).2.imp_ (fun p c hc => by obtain rfl:=k43_openM hc;rfl)
theorem rat_move {w w' : World} {base : Nat} {v : Value} {xs : List S43} (h : OwnRow rat43 43 2 w base v xs) (hm : ∀ k,v.ownBlock = some k → w'.heap[k]? = w.heap[k]?) : OwnRow rat43 43 2 w' base v xs:=by
 obtain ⟨inner,h2,h3⟩:=h
 exact ⟨inner,own_move h2 hm,h3⟩
theorem rat_typed {w : World} {base : Nat} {v : Value} {xs : List S43} (h : OwnRow rat43 43 2 w base v xs) {k : Nat} (hk : v.ownBlock = some k) : ∃ cells,w.heap[k]? = some (.cells cells 43 (0,0)):=by
 obtain ⟨inner,h2,h3⟩:=h
 exact own_typed h2 k hk
attribute [local go_sem] Oper.semAt_some
set_option maxRecDepth 100000 in
set_option maxHeartbeats 4000000 in
theorem of_in (n : Nat) (hn : 3 ≤ n) (W : World) (A : Option Addr) (c : Nat) (l : List S212) (pour : Int) (hC : Kd.C k212 W A l.length l) (hc : l.length ≤ c) (hlen : (partsP l).length ≤ 10000000) :
  CallsIn Fence.wide n Tryz.prog 115 #[.slice A l.length c,.int .i64 pour] W fun e W' => OfPost W (ofL pour (partsP l)) e W':=by
 have hu43:=Tryz.underlying43
 have hu89:=Tryz.underlying89
 have h1 : 1 ≤ n:=by omega
 refine callsIn_of_wpAt_marks Tryz.func115 rfl trivial ?_ rfl
 simp only [Tryz.ntmps115,List.size_toArray,List.length_cons,List.length_nil,Nat.reduceAdd,Nat.reduceSub,Array.replicate_succ,Array.replicate_zero,List.push_toArray,List.append_toArray,List.nil_append,List.cons_append]
 refine wpAt_seqL ?_
 gi_wp2
 refine wpAt_seqL ?_
 gi_wp2
 refine wpAt_seqR (wpAt_seqL ?_)
 gi_wp2_with fail
 refine ⟨trivial,(callsIn_wide.2 (parts_calls A c l.length _)).mono ?_⟩
 rintro e w' ⟨rfl,rfl⟩
 gi_wp2
 refine wpAt_block ?_
 have HBp:=am (blk_alloc (blk_alloc (blk_new W (.cells #[.int .i64 pour] 3)) (.cells #[.slice none 0 0] 208)) (.cells #[.slice A l.length c] 131))
 have HBt:=am (blk_alloc (blk_new' (W.alloc (.cells #[.int .i64 pour] 3)) (.cells #[.slice none 0 0] 208) (W.heap.size + 1) (by simp)) (.cells #[.slice A l.length c] 131))
 have HBl:=am (blk_new' ((W.alloc (.cells #[.int .i64 pour] 3)).alloc (.cells #[.slice none 0 0] 208)) (.cells #[.slice A l.length c] 131) (W.heap.size + 1 + 1) (by simp))
 have HB3:=am (below_alloc (below_alloc (below_alloc (Below.refl W.heap.size W) (.cells #[.int .i64 pour] 3)) (.cells #[.slice none 0 0] 208)) (.cells #[.slice A l.length c] 131))
 have HSZ:=am (show (((W.alloc (.cells #[.int .i64 pour] 3)).alloc (.cells #[.slice none 0 0] 208)).alloc (.cells #[.slice A l.length c] 131)).heap.size = W.heap.size + 3 by simp)
 generalize ((W.alloc (.cells #[.int .i64 pour] 3)).alloc (.cells #[.slice none 0 0] 208)).alloc (.cells #[.slice A l.length c] 131) = W3 at HBp HBt HBl HB3 HSZ ⊢
 have HC:=am hC
 have HLN:=am hlen
 clear hC hlen
 refine wpAt_range rfl h1 (gf:=213) (lb:=#[.pointer (some ⟨W.heap.size + 1 + 1,0,none⟩)]) rfl trivial (enters_of Tryz.func213 kr rfl) ?_
 intro rec hrec
 refine (parts1_in (n - 1) (by omega) (W3.heap.size + 1) A c l (W.heap.size + 1 + 1) (OfSt W W3.heap.size rec pour) (fun _ _ => False) (fun e W' h => h.elim) W HC.out (fun pre W' h => by obtain ⟨_,_,_,_,_,_,h⟩:=h;exact h) ?hM ?hY _ ?hS ?hB).mono ?fin
 case hM =>
  rintro pre W1 W2 ⟨v,b1,b2,b3,b4,b5,b6⟩ hb
  refine ⟨v,blk_below b1 hb,rat_move b2 (fun k hk => ?_),blk_below b3 hb,blk_below b4 hb,blk_below b5 hb,below_then b6 (below_size b6) hb⟩
  obtain ⟨cells,hcl⟩:=rat_typed b2 hk
  exact hb.block k (blk_lt hcl)
 case hS => exact ⟨_,blk_alloc (blk_alloc HBt.out _) _,rat_nil _ _,blk_alloc (blk_alloc HBp.out _) _,blk_new' (W3.alloc (.deferred (some []))) _ (W3.heap.size + 1) (by simp),blk_alloc (blk_new W3 _) _,below_alloc (below_alloc HB3.out _) _⟩
 case hB => exact blk_alloc (blk_alloc HBl.out _) _
 case hY =>
  subst hrec
  rintro pre x suf Wy hsp ⟨v,b1,b2,b3,b4,b5,b6⟩
  have hpl : (ofL pour pre).length < 10000000:=by
   have h1:=HLN.out
   rw [hsp,List.length_append,List.length_cons] at h1
   have h2:=ofL_len pour pre
   omega
  refine ⟨_,_,_,_,run_yield b4 rfl,roundInP_of_wpIn trivial Tryz.func115 ?_⟩
  dsimp only
  gi_wp2
  refine ⟨_,run_beginRound (blk_alloc b4 _) rfl,?_⟩
  have hsz:=HSZ.out
  have hl4:=blk_lt b4
  have hlo : ∀ b,v.ownBlock = some b → b ≠ W3.heap.size + 1 ∧ b ≠ W3.heap.size ∧ b ≠ W.heap.size + 1 ∧ b ≠ W.heap.size:=fun b hb => by
   obtain ⟨cells,hcl⟩:=rat_typed b2 hb
   refine ⟨fun e_ => ?_,fun e_ => ?_,fun e_ => ?_,fun e_ => ?_⟩
   ·rw [e_,b4] at hcl;cases hcl
   ·rw [e_,b5] at hcl;cases hcl
   ·rw [e_,b1] at hcl;cases hcl
   ·rw [e_,b3] at hcl;cases hcl
  have q0 : ∀ ob b,b ≠ W3.heap.size + 1 → b < Wy.heap.size → ((Wy.alloc (.cells #[.int .i64 x.f0,.int .i64 x.f1.f0,.int .i64 x.f1.f1] 89)).putObj (W3.heap.size + 1) ob).heap[b]? = Wy.heap[b]?:=fun ob b h hlt => (World.putObj_heap_other h).trans (Below.heap_alloc Wy _ b hlt)
  have q1 : ∀ ob,((Wy.alloc (.cells #[.int .i64 x.f0,.int .i64 x.f1.f0,.int .i64 x.f1.f1] 89)).putObj (W3.heap.size + 1) ob).heap[Wy.heap.size]? = some (.cells #[.int .i64 x.f0,.int .i64 x.f1.f0,.int .i64 x.f1.f1] 89 (0,0)):=fun ob => (World.putObj_heap_other (by omega)).trans (blk_new Wy _)
  have q2 : ∀ ob,((Wy.alloc (.cells #[.int .i64 x.f0,.int .i64 x.f1.f0,.int .i64 x.f1.f1] 89)).putObj (W3.heap.size + 1) ob).heap[W3.heap.size + 1]? = some ob:=fun ob => World.putObj_heap_same (by simp;omega)
  have q4 : ∀ ob,Below W.heap.size Wy ((Wy.alloc (.cells #[.int .i64 x.f0,.int .i64 x.f1.f0,.int .i64 x.f1.f1] 89)).putObj (W3.heap.size + 1) ob):=fun ob => ((Below.refl _ Wy).alloc b6.size _).grown (grownBy_putObj' _ _ _) (by have:=b6.size;simp;omega) (fun k e_ => by cases e_;omega)
  generalize hWb : (Wy.alloc (.cells #[.int .i64 x.f0,.int .i64 x.f1.f0,.int .i64 x.f1.f1] 89)).putObj (W3.heap.size + 1) _ = Wb
  have r0 : ∀ b,b ≠ W3.heap.size + 1 → b < Wy.heap.size → Wb.heap[b]? = Wy.heap[b]?:=by rw [← hWb];exact q0 _
  have r1 : Wb.heap[Wy.heap.size]? = some (.cells #[.int .i64 x.f0,.int .i64 x.f1.f0,.int .i64 x.f1.f1] 89 (0,0)):=by rw [← hWb];exact q1 _
  have r4 : Below W.heap.size Wy Wb:=by rw [← hWb];exact q4 _
  have r2:=hWb ▸ q2 (.loop _)
  have t1 : Wb.heap[W.heap.size + 1]? = some (.cells #[v] 208 (0,0)):=(r0 _ (by omega) (blk_lt b1)).trans b1
  have t2 : OwnRow rat43 43 2 Wb W.heap.size v (ofL pour pre):=rat_move b2 (fun k hk => by
   obtain ⟨cells,hcl⟩:=rat_typed b2 hk
   exact r0 k (hlo k hk).1 (blk_lt hcl))
  have t3 : Wb.heap[W.heap.size]? = some (.cells #[.int .i64 pour] 3 (0,0)):=(r0 _ (by omega) (blk_lt b3)).trans b3
  have t5 : Wb.heap[W3.heap.size]? = some (.deferred (some [])):=(r0 _ (by omega) (blk_lt b5)).trans b5
  have t6 : Below W.heap.size W Wb:=b6.trans r4
  clear q0 q1 q2 q4 hWb r0 r4 b1 b2 b3 b4 b5 b6
  have u0:=bd t3 0
  have u1:=bd r1 0
  have HLO:=am hlo
  have T1:=am t1
  have T2:=am t2
  have T3:=am t3
  have T5:=am t5
  have T6:=am t6
  have R1:=am r1
  have R2:=am r2
  have HSP:=am hsp
  have HPL:=am hpl
  have HSZ':=am hsz
  clear hlo t1 t2 t3 t5 t6 r1 r2 hsp hpl hsz hl4
  by_cases hxp : x.f0 = pour
  ·have HXP:=am hxp
   have hq : (x.f0 == pour) = true:=by simp [hxp]
   clear hxp
   have u2:=bd R1.out 1
   have u3:=bd R1.out 2
   have u4 : Wb.cell? ⟨W.heap.size + 1,0,none⟩ = some v:=(blk_cell T1.out 0).trans rfl
   obtain ⟨i0,hi,hz0,hz1,hz2⟩:=info_parts info43_
   obtain ⟨inner,t2,hre⟩:=T2.out
   have HRE:=am hre
   have HIN:=am t2
   have HI:=am (And.intro hi (And.intro hz0 (And.intro hz1 hz2)))
   clear hre t2 hi hz0 hz1 hz2
   gi_wp2_with (gi_at_builtin;refine wpListIn_append_at _ rfl _ _ 208 rfl W.heap.size 43 i0 (.agg #[(.int .i64 0),(.int .i64 0)]) 2 16 Tryz.underlying208 HI.out.1 HI.out.2.1 HI.out.2.2.1 HI.out.2.2.2 rfl (by decide) _ _ _ rfl (HIN.out.alloc _) ⟨Wb.heap.size,0,none⟩ 1 1 [.int .i64 x.f1.f0,.int .i64 x.f1.f1] rfl rfl ?hc ?h1c ?b1 ?b2 ?b3 ?_;(case hc => exact (World.news_of_block (cs:=#[.int .i64 x.f1.f0,.int .i64 x.f1.f1]) (t:=43) (fr:=(0,0)) (heap_alloc_new Wb _)));(case h1c => simp [Value.oneCell']);(case b1 => have:=HPL.out;simp only [maxLen];omega);(case b2 => have:=HPL.out;omega);(case b3 => have:=T6.out.size;simp;omega);intro v' w1 hown hg hat;obtain ⟨g',cap',rfl⟩:=ownsRow_succ hown;have hk1:=(hg.block (W.heap.size + 1) (by have:=blk_lt T1.out;simp;omega) (fun e_ => (HLO.out _ e_.symm).2.2.1 rfl)).trans (blk_alloc T1.out _);have x0 : w1.cell? ⟨W.heap.size + 1,0,none⟩ = some v:=(blk_cell hk1 0).trans rfl;have x1:=blk_frozen hk1 0;have HK1:=am hk1;have HOW:=am hown;have HGR:=am hg;have HAT:=am hat;clear hk1 hown hg hat)
   have hsz3:=HSZ'.out
   have hTl:=blk_lt R2.out
   have hTD:=blk_lt T5.out
   have hTP:=blk_lt T3.out
   have wl : w1.heap[W3.heap.size + 1]? = _:=(HGR.out.block (W3.heap.size + 1) (by simp;omega) (fun e_ => (HLO.out _ e_.symm).1 rfl)).trans (blk_alloc R2.out _)
   have wD : w1.heap[W3.heap.size]? = some (.deferred (some [])):=(HGR.out.block W3.heap.size (by simp;omega) (fun e_ => (HLO.out _ e_.symm).2.1 rfl)).trans (blk_alloc T5.out _)
   have wP : w1.heap[W.heap.size]? = some (.cells #[.int .i64 pour] 3 (0,0)):=(HGR.out.block W.heap.size (by simp;omega) (fun e_ => (HLO.out _ e_.symm).2.2.2 rfl)).trans (blk_alloc T3.out _)
   have zl : (w1.setCell ⟨W.heap.size + 1,0,none⟩ (.slice (some ⟨g',0,none⟩) ((ofL pour pre).length + 1) cap')).heap[W3.heap.size + 1]? = _:=(Below.heap_setCell w1 ⟨W.heap.size + 1,0,none⟩ (.slice (some ⟨g',0,none⟩) ((ofL pour pre).length + 1) cap') (W3.heap.size + 1) (by show W3.heap.size + 1 ≠ W.heap.size + 1;omega)).trans wl
   have gne : g' ≠ W.heap.size + 1:=fun e_ => by
    obtain ⟨cells,hcl⟩:=own_typed HOW.out g' rfl
    rw [e_,HK1.out] at hcl
    cases hcl
   have gnl : g' ≠ W3.heap.size + 1:=fun e_ => by
    obtain ⟨cells,hcl⟩:=own_typed HOW.out g' rfl
    rw [e_,wl] at hcl
    cases hcl
   refine ⟨_,_,run_endRound none zl,rfl,.slice (some ⟨g',0,none⟩) ((ofL pour pre).length + 1) cap',?_,?_,?_,?_,?_,?_⟩
   ·exact (World.putObj_heap_other (by omega)).trans (blk_put HK1.out 0 _ rfl)
   ·rw [ofL_yes HXP.out]
    refine ⟨_,own_move (w:=w1) (by rw [show (ofL pour pre ++ [x.f1]).length = (ofL pour pre).length + 1 by simp];exact HOW.out) ?_,Reps.snoc HRE.out rfl rfl⟩
    intro k hk
    obtain rfl : g' = k:=by simpa [Value.ownBlock] using hk
    exact (World.putObj_heap_other gnl).trans (Below.heap_setCell _ _ _ _ gne)
   ·exact (World.putObj_heap_other (by omega)).trans ((Below.heap_setCell _ _ _ _ (by show W.heap.size ≠ W.heap.size + 1;omega)).trans wP)
   ·exact World.putObj_heap_same (blk_lt zl)
   ·exact (World.putObj_heap_other (by omega)).trans ((Below.heap_setCell _ _ _ _ (by show W3.heap.size ≠ W.heap.size + 1;omega)).trans wD)
   ·have e1 : Below W.heap.size W (Wb.alloc (.cells #[.int .i64 x.f1.f0,.int .i64 x.f1.f1] 43)):=T6.out.alloc T6.out.size _
    have e2:=e1.grown HGR.out (by have:=T6.out.size;simp;omega) (fun k hk => own_base HIN.out k hk)
    exact ((e2.setCell (p:=⟨W.heap.size + 1,0,none⟩) (by show W.heap.size ≤ W.heap.size + 1;omega) _).grown (grownBy_putObj' _ _ _) (by have:=e2.size;simp;omega) (fun k e_ => by cases e_;omega))
  ·have HXP:=am hxp
   have hq : (x.f0 == pour) = false:=by simpa using hxp
   clear hxp
   gi_wp2
   have hsz3:=HSZ'.out
   have hTP:=blk_lt T3.out
   refine ⟨_,_,run_endRound none R2.out,rfl,v,?_,?_,?_,?_,?_,?_⟩
   ·exact (World.putObj_heap_other (by omega)).trans T1.out
   ·rw [ofL_no HXP.out]
    exact rat_move T2.out (fun k hk => World.putObj_heap_other (HLO.out k hk).1)
   ·exact (World.putObj_heap_other (by omega)).trans T3.out
   ·exact World.putObj_heap_same (blk_lt R2.out)
   ·exact (World.putObj_heap_other (by omega)).trans T5.out
   ·exact T6.out.grown (grownBy_putObj' _ _ _) T6.out.size (fun k e_ => by cases e_;omega)
 case fin =>
  subst hrec
  rintro e W4 (⟨⟨v0,rfl⟩,v,b1,b2,b3,b4,b5,b6⟩|h)
  ·refine ⟨_,_,run_endLoop b4 (by intro h_;cases h_),?_⟩
   have hsz3:=HSZ.out
   have c0 : ∀ ob,Below W.heap.size W (W4.putObj (W3.heap.size + 1) ob):=fun ob => b6.grown (grownBy_putObj' _ _ _) b6.size (fun k e_ => by cases e_;omega)
   have c1 : ∀ ob,(W4.putObj (W3.heap.size + 1) ob).heap[W.heap.size + 1]? = some (.cells #[v] 208 (0,0)):=fun ob => (World.putObj_heap_other (by omega)).trans b1
   have c2 : ∀ ob,OwnRow rat43 43 2 (W4.putObj (W3.heap.size + 1) ob) W.heap.size v (ofL pour (partsP l)):=fun ob => rat_move b2 (fun k hk => World.putObj_heap_other (fun e_ => by
    obtain ⟨cells,hcl⟩:=rat_typed b2 hk
    rw [e_,b4] at hcl
    cases hcl))
   have c5 : ∀ ob,(W4.putObj (W3.heap.size + 1) ob).heap[W3.heap.size]? = some (.deferred (some [])):=fun ob => (World.putObj_heap_other (by omega)).trans b5
   dsimp only
   generalize hW6 : W4.putObj (W3.heap.size + 1) _ = W6
   have C0:=am (hW6 ▸ c0 _)
   have C1:=am (hW6 ▸ c1 _)
   have C2:=am (hW6 ▸ c2 _)
   have C5:=am (hW6 ▸ c5 _)
   clear c0 c1 c2 c5 b1 b2 b3 b4 b5 b6 hW6 hsz3
   have g0 : W6.cell? ⟨W.heap.size + 1,0,none⟩ = some v:=(blk_cell C1.out 0).trans rfl
   refine wpIn_wide.2 ?_
   go_wp2
   refine ⟨by simp,.inl ⟨_,_,rfl,run_takeDeferred C5.out,?_⟩⟩
   have hR:=R_of_rat (rat_move (w':=W6.putObj W3.heap.size (.deferred none)) C2.out (fun k hk => World.putObj_heap_other (fun e_ => by
    obtain ⟨cells,hcl⟩:=rat_typed C2.out hk
    rw [e_,C5.out] at hcl
    cases hcl)))
   obtain ⟨Av,cv,rfl⟩:=Kd.R_slice hR
   refine ⟨_,results_tmp rfl _ _ _,?_,Av,cv,rfl,(Kd.R_reads' hR).2.1,(Kd.R_reads' hR).2.2⟩
   exact C0.out.grown (grownBy_putObj' _ _ _) C0.out.size (fun k e_ => by cases e_;have:=HSZ.out;omega)
  ·exact h.elim
theorem of_calls (W : World) (A : Option Addr) (c : Nat) (l : List S212) (pour : Int) (hC : Kd.C k212 W A l.length l) (hc : l.length ≤ c) (hlen : (partsP l).length ≤ 10000000) :
  Calls Tryz.prog 115 #[.slice A l.length c,.int .i64 pour] W fun e W' => OfPost W (ofL pour (partsP l)) e W':=callsIn_wide.1 (of_in 3 (Nat.le_refl _) W A c l pour hC hc hlen)
end
set_option maxRecDepth 100000 in
set_option maxHeartbeats 1000000 in
theorem idx167_calls (A : Option Addr) (c : Nat) (l : List S89) (p : S89 → Bool) (K : Nat) (caps : Array Value) (Inv : World → Prop) (W : World) (hr : Kd.C k89 W A l.length l) (hc : l.length ≤ c)
  (ek : ∀ args w,(callFunc K args).run Tryz.prog w = .ok (.enter K args) w) (hi0 : Inv W) (hi1 : ∀ w w',Inv w → Below w.heap.size w w' → Inv w')
  (hcl : ∀ (x : S89) (w : World),x ∈ l → Inv w → Calls Tryz.prog K (#[.agg #[.int .i64 x.f0,.int .i64 x.f1.f0,.int .i64 x.f1.f1]] ++ caps) w fun e w' => e = .returned (.bool (p x)) ∧ Below w.heap.size w w') :
  Calls Tryz.prog 167 #[.slice A l.length c,.func (.func K) #[] caps] W fun e W' => e = .returned (.int .i64 (idxP p l)) ∧ Below W.heap.size W W':=by
 have HR:=am hr
 have hm:=hr.2.1
 have HI:=am hi0
 have HJ:=am hi1
 have HCL:=am hcl
 clear hr hc hi0 hi1 hcl
 have hu:=Tryz.underlying89
 have hv:=Tryz.underlying43
 go_enter Tryz.func167,Tryz.ntmps167
 go_wp2
 go_loopw [8] (fun v8 wr => ∃ j : Nat,j ≤ l.length ∧ v8 = .int .i64 (j : Int) ∧ Aside0 (∀ i (hi : i < l.length),i < j → p l[i] = false) ∧ Aside0 (Below W.heap.size W wr)) (fun v8 _ => l.length - (intOf v8).toNat)
 case atStart => exact ⟨0,Nat.zero_le _,rfl,⟨fun i _ hi => absurd hi (Nat.not_lt_zero _)⟩,⟨Below.refl _ _⟩⟩
 case round =>
  obtain ⟨j,hj,rfl,HP,HBw⟩:=hrel
  by_cases hlt : j < l.length
  ·obtain ⟨ad,e,hx0,hx1,hx2⟩:=at_T89 (Kd.C_below HR.out HBw.out) (j : Int) (by omega) (by omega)
   cases e
   rw [Int.toNat_natCast] at hx0 hx1 hx2
   have hx : rd_T89 l (j : Int) = l[j]:=by unfold rd_T89;rw [Int.toNat_natCast,List.getD_eq_getElem?_getD,List.getElem?_eq_getElem hlt];rfl
   have HC:=am (HCL.out (rd_T89 l (j : Int)) wr (by rw [hx];exact List.getElem_mem hlt) (HJ.out _ _ HI.out HBw.out))
   have HX:=am hx
   clear hx
   cases hp : p (rd_T89 l (j : Int)) with
  |true =>
    have HPx:=am hp
    rw [hp] at HC
    clear hp
    go_wp2_with fail
    refine HC.out.mono ?_
    rintro e w' ⟨rfl,hd⟩
    have HD:=am hd
    clear hd
    go_wp2
    go_ret
    exact ⟨by rw [idxP_found hlt (by rw [← HX.out];exact HPx.out) HP.out];rfl,below_then HBw.out (below_size HBw.out) HD.out⟩
  |false =>
    have HPx:=am hp
    rw [hp] at HC
    clear hp
    go_wp2_with fail
    refine HC.out.mono ?_
    rintro e w' ⟨rfl,hd⟩
    have HD:=am hd
    clear hd
    go_wp2
    go_roundw
    case rel =>
     refine ⟨j + 1,by omega,by go_num,⟨fun i hi hij => ?_⟩,⟨below_then HBw.out (below_size HBw.out) HD.out⟩⟩
     by_cases e : i = j
     ·subst e;rw [← HX.out];exact HPx.out
     ·exact HP.out i hi (by omega)
    case measure => simp [intOf];omega
  ·go_wp2
   go_ret
   exact ⟨by rw [idxP_none (fun i hi => HP.out i hi (by omega))];rfl,HBw.out⟩
def zcells : Nat → List Value
|0 => []
|m + 1 => .int .i64 0 :: .int .i64 0 :: .int .i64 0 :: zcells m
theorem zcells_length : ∀ m,(zcells m).length = m * 3
|0 => rfl
|m + 1 => by simp only [zcells,List.length_cons,zcells_length m];omega
theorem zcells_eq (m : Nat) : (Builtin.zeroCells #[.int .i64 0,.int .i64 0,.int .i64 0] m).toList = zcells m:=by
 have h : ∀ i,i < 3 → (#[(.int .i64 0 : Value),.int .i64 0,.int .i64 0])[i]! = .int .i64 0:=by
  intro i hi
  match i,hi with
 |0,_ => rfl
 |1,_ => rfl
 |2,_ => rfl
 have h2 : ∀ m i,i < m * 3 → (zcells m)[i]? = some (.int .i64 0):=by
  intro m
  induction m with
 |zero => intro i hi;omega
 |succ m ih =>
   intro i hi
   match i with
  |0 => rfl
  |1 => rfl
  |2 => rfl
  |i + 3 => exact ih i (by omega)
 apply List.ext_getElem?
 intro i
 by_cases hi : i < m * 3
 ·rw [h2 m i hi]
  unfold Builtin.zeroCells
  rw [Array.toList_map,List.getElem?_map,Array.toList_range,List.getElem?_range (by simpa using hi)]
  simp only [Option.map_some]
  congr 1
  exact h _ (Nat.mod_lt _ (by decide))
 ·have h3 : (zcells m)[i]? = none:=List.getElem?_eq_none (by rw [zcells_length];omega)
  rw [h3]
  refine List.getElem?_eq_none ?_
  unfold Builtin.zeroCells
  simp
  omega
theorem zero89 (w : World) : (zeroValue 89).run Tryz.prog w = .ok (.agg #[.int .i64 0,.int .i64 0,.int .i64 0]) w:=by kernel_rfl
set_option maxRecDepth 100000 in
theorem clear89 {w : World} {g i n cap N : Nat} {ok : Nat → Prop} {ls : List S89} (h : k89.R 89 w N ok (.slice (some ⟨g,0,none⟩) n cap) ls) (hi : i < n) (c : Nat) (ty : TypeId) :
  (Builtin.clear_ #[55] ty #[.slice (some ⟨g,i * 3,none⟩) (n - i) c]).run Tryz.prog w = .ok (.tuple #[]) (w.setCells g (i * 3) (zcells (n - i))):=by
 have hn:=(Kd.R_reads' h).1
 obtain ⟨_,inner,hown,hr⟩:=h
 rcases hown.2 with ⟨hv,_⟩|⟨g',cap',cur,hv,hb,hh,hnc,hcm,hcs,_⟩
 ·cases hv
 injection hv with ha _ hc
 injection ha with ha
 injection ha with hg'
 subst hg'
 subst hc
 have hcs' : cur.size = cap * 3:=hcs
 obtain ⟨m,hm⟩ : ∃ m,n - i = m + 1:=⟨n - i - 1,by omega⟩
 have hle : i * 3 + (n - i) * 3 ≤ cur.size:=by rw [hcs',← Nat.add_mul];exact Nat.mul_le_mul_right _ (by omega)
 have hst:=run_storeCells_cells (P:=Tryz.prog) g (i * 3) (zcells (n - i)) 0 w (fun j hj => by rw [zcells_length] at hj;rw [cell_of_row w g _ cur 89 (0,0) hh];simp;omega) (fun j _ => blk_frozen hh _) (fun v hv => by
  have : ∀ m,∀ v ∈ zcells m,v = .int .i64 0:=by
   intro m
   induction m with
  |zero => intro v hv;simp [zcells] at hv
  |succ m ih =>
    intro v hv
    simp only [zcells,List.mem_cons] at hv
    rcases hv with e|e|e|e
    ·exact e
    ·exact e
    ·exact e
    ·exact ih v e
  rw [this _ v hv]
  rfl)
 simp only [Nat.add_zero] at hst
 rw [← zcells_eq,hm] at hst
 have hu:=Tryz.underlying55
 simp [Builtin.clear_,run_underlying hu,hm,zero89,Result.andThen,Value.cells,hst]
 rw [← zcells_eq]
theorem R_zero {N g cap n : Nat} {ok : Nat → Prop} : ∀ (m i : Nat) (w : World) (ls : List S89),k89.R 89 w N ok (.slice (some ⟨g,0,none⟩) n cap) ls → i + m ≤ n →
  ∃ ls',k89.R 89 (w.setCells g (i * 3) (zcells m)) N ok (.slice (some ⟨g,0,none⟩) n cap) ls' ∧ ls'.take i = ls.take i ∧ w.grownBy (w.setCells g (i * 3) (zcells m)) (some g)
|0,i,w,ls,h,_ => ⟨ls,h,rfl,⟨rfl,rfl,rfl,Nat.le_refl _,fun _ _ _ => rfl⟩⟩
|m + 1,i,w,ls,h,hi => by
  have hn:=(Kd.R_reads' h).1
  obtain ⟨c,hcl,hM,hcc,hfr⟩:=Kd.R_elem h z89 (i : Int) (by omega) (by omega)
  rw [Int.toNat_natCast] at hcc
  have hseg:=Kd.R_seg h (i : Int) (by omega) (by omega) (c:=c) (seg:=[.int .i64 0,.int .i64 0,.int .i64 0]) (j:=0) hcl (by rw [Int.toNat_natCast];exact hcc) (by decide) (x':=z89) (okp:=fun _ => False) (by
   rw [List.take_zero,List.nil_append,List.drop_eq_nil_of_le (by rw [hcl];decide),List.append_nil]
   exact k89_mkM w N _ z89) (fun k hk => hk.elim)
  rw [Int.toNat_natCast] at hseg
  have e1 : i * k89.sz + 0 = i * 3:=rfl
  rw [e1] at hseg
  obtain ⟨ls',h1,h2,h3⟩:=R_zero m (i + 1) (w.setCells g (i * 3) [.int .i64 0,.int .i64 0,.int .i64 0]) (ls.set i z89) hseg.1 (by omega)
  have e2 : (i + 1) * 3 = i * 3 + 3:=by omega
  rw [e2] at h1 h3
  refine ⟨ls',h1,?_,hseg.2.trans h3⟩
  have h4:=congrArg (List.take i) h2
  rw [List.take_take,List.take_take,Nat.min_eq_left (by omega)] at h4
  rw [h4,List.take_set_of_le (by omega)]
theorem drop_rd89_ {l : List S89} {j : Nat} (h : j < l.length) : l.drop j = rd_T89 l (j : Int) :: l.drop (j + 1):=by
 rw [List.drop_eq_getElem_cons h];unfold rd_T89;rw [Int.toNat_natCast,List.getD_eq_getElem?_getD,List.getElem?_eq_getElem h];rfl
theorem rd_of_drop {l ls : List S89} {j : Nat} (h : ls.drop j = l.drop j) (hj : j < l.length) (hl : ls.length = l.length) : rd_T89 ls (j : Int) = rd_T89 l (j : Int):=by
 rw [drop_rd89_ hj,drop_rd89_ (by omega)] at h
 injection h
theorem filter_take_snoc {l : List S89} {j : Nat} (p : S89 → Bool) (h : j < l.length) : (l.take (j + 1)).filter p = (l.take j).filter p ++ (if p (rd_T89 l (j : Int)) = true then [rd_T89 l (j : Int)] else []):=by
 rw [List.take_succ_eq_append_getElem h,List.filter_append]
 unfold rd_T89
 rw [Int.toNat_natCast,List.getD_eq_getElem?_getD,List.getElem?_eq_getElem h]
 simp only [Option.getD_some,List.filter_cons,List.filter_nil]
theorem store89_info : (Tryz.prog.info? 89).map (·.size) = some 3:=by kernel_rfl
theorem store89_at {ops : Array Oper} {rest : List Oper} {o : Oper} {a : Act} {Q : Exit → Act → World → Prop} {W : World} {N g n cap i : Nat} {ad : Addr} {ls : List S89} {x : S89} {ok : Nat → Prop} (p q : Operand) (ho : o.op = .store 89 p q) (hN : o.dst = none) (hgd : o.guard = none)
  (haddr : a.eval p = .pointer (some (ad.add (i * 3)))) (hx : a.eval q = .agg #[.int .i64 x.f0,.int .i64 x.f1.f0,.int .i64 x.f1.f1]) (had : ad = ⟨g,0,none⟩) (HO : k89.R 89 W N ok (.slice (some ⟨g,0,none⟩) n cap) ls) (hi : i < n)
  (h : ∀ w1,k89.R 89 w1 N ok (.slice (some ⟨g,0,none⟩) n cap) (ls.set i x) → Below N W w1 → wpList Tryz.prog ops Q rest a w1) : wpList Tryz.prog ops Q (o :: rest) a W:=by
 subst had
 rw [add_plain] at haddr
 obtain ⟨cc,hcl,hM,hcc,hfr⟩:=Kd.R_elem HO z89 (i : Int) (by omega) (by omega)
 refine Kd.R_store k89 (w0:=W) N hN hgd 89 p q ho 89 (g:=g) (n:=n) (cap:=cap) (o':=i * 3) (i : Int) 0 ls x _ [.int .i64 x.f0,.int .i64 x.f1.f0,.int .i64 x.f1.f1] cc ok (fun _ => False) haddr (by rw [Int.toNat_natCast];rfl) hx rfl store89_info (by intro q hq;simp only [List.mem_cons,List.not_mem_nil,or_false] at hq;rcases hq with rfl|rfl|rfl <;> rfl) HO (by omega) (by omega) hcl hcc (Nat.le_refl 3) (by rw [List.take_zero,List.nil_append,List.drop_eq_nil_of_le (by rw [hcl];exact Nat.le_refl 3),List.append_nil];exact k89_mkM W N _ x) (fun k hk => hk.elim) (Below.refl _ _) fun w1 hr hb _ => ?_
 rw [Int.toNat_natCast] at hr
 exact h w1 hr hb
def DelPost (W : World) (N : Nat) (l : List S89) (e : Ending) (W' : World) : Prop:=Below N W W' ∧ ∃ (A : Option Addr) (c : Nat),e = .returned (.slice A l.length c) ∧ l.length ≤ c ∧ Kd.C k89 W' A l.length l
set_option maxRecDepth 100000 in
set_option maxHeartbeats 2000000 in
theorem del107_calls (v : Value) (l : List S89) (p : S89 → Bool) (K : Nat) (caps : Array Value) (Inv : World → Prop) (W : World) (N : Nat) (ok : Nat → Prop) (hR : k89.R 89 W N ok v l) (hN : N ≤ W.heap.size)
  (ek : ∀ args w,(callFunc K args).run Tryz.prog w = .ok (.enter K args) w) (hi0 : Inv W) (hi1 : ∀ w w',Inv w → Below N w w' → Inv w')
  (hcl : ∀ (x : S89) (w : World),x ∈ l → Inv w → Calls Tryz.prog K (#[.agg #[.int .i64 x.f0,.int .i64 x.f1.f0,.int .i64 x.f1.f1]] ++ caps) w fun e w' => e = .returned (.bool (p x)) ∧ Below w.heap.size w w') :
  Calls Tryz.prog 107 #[v,.func (.func K) #[] caps] W fun e W' => DelPost W N (l.filter (fun x => !p x)) e W':=by
 obtain ⟨A,c,rfl⟩:=Kd.R_slice hR
 obtain ⟨_,hlc,hC⟩:=Kd.R_reads' hR
 have hm:=hC.2.1
 have hu:=Tryz.underlying89
 have hv:=Tryz.underlying43
 have hu55:=Tryz.underlying55
 have HCL:=am hcl
 have HJ:=am hi1
 have HI:=am hi0
 have HR:=am hR
 have HN:=am hN
 have HIX:=am (idx167_calls A c l p K caps (fun w => Inv w ∧ N ≤ w.heap.size) W hC hlc ek ⟨hi0,hN⟩ (fun w w' h hb => ⟨HJ.out _ _ h.1 (hb.mono h.2),Nat.le_trans h.2 hb.size⟩) (fun x w hx h => HCL.out x w hx h.1))
 have HLC:=am hlc
 clear hcl hi1 hi0 hR hN hlc hC
 go_enter Tryz.func107,Tryz.ntmps107
 go_wp2_with fail
 refine HIX.out.mono ?_
 rintro e w1 ⟨rfl,hb⟩
 have HB1:=am (hb.mono HN.out)
 have HR1:=am (Kd.R_below HR.out hb)
 have HI1:=am (HJ.out _ _ HI.out HB1.out)
 clear hb
 cases ha : l.any p with
|false =>
  have HA:=am ha
  clear ha
  rw [show idxP p l = -1 by unfold idxP;rw [if_neg (by rw [HA.out];simp)]]
  go_wp2
  go_ret
  have hfl : l.filter (fun x => !p x) = l:=by
   rw [List.filter_eq_self]
   intro x hx
   have:=HA.out
   rw [List.any_eq_false] at this
   simpa using this x hx
  rw [hfl]
  exact ⟨HB1.out,A,c,rfl,HLC.out,(Kd.R_reads' HR1.out).2.2⟩
|true =>
  have h2' : l.findIdx p < l.length:=List.findIdx_lt_length_of_exists (List.any_eq_true.1 ha)
  have hpi' : p l[l.findIdx p] = true:=List.findIdx_getElem (w:=h2')
  have hix : idxP p l = (l.findIdx p : Int):=by unfold idxP;rw [if_pos ha]
  obtain ⟨i0,hi0⟩ : ∃ i0 : Nat,i0 = l.findIdx p:=⟨_,rfl⟩
  rw [hix]
  have h2 : i0 < l.length:=by rw [hi0];exact h2'
  have hpi : p l[i0] = true:=by simp only [hi0];exact hpi'
  rw [← hi0]
  clear h2' hpi'
  have HF0:=am (show l.take i0 = (l.take (i0 + 1)).filter (fun x => !p x) by
   rw [filter_take_snoc (fun x => !p x) h2,List.filter_eq_self.2 (fun x hx => by
    have hlt : ∀ x ∈ l.take (l.findIdx p),p x = false:=fun x hx => by
     obtain ⟨k,hk,rfl⟩:=List.getElem_of_mem hx
     rw [List.length_take] at hk
     rw [List.getElem_take]
     have:=List.not_of_lt_findIdx (p:=p) (xs:=l) (i:=k) (by omega)
     simpa using this
    rw [hi0] at hx
    rw [hlt x hx];rfl)]
   have hrd : rd_T89 l (i0 : Int) = l[i0]:=by unfold rd_T89;rw [Int.toNat_natCast,List.getD_eq_getElem?_getD,List.getElem?_eq_getElem h2];rfl
   rw [hrd,hpi]
   simp)
  obtain ⟨g,hg⟩ : ∃ g,A = some ⟨g,0,none⟩:=by
   obtain ⟨_,inner,hown,hr⟩:=HR.out
   rcases hown.2 with ⟨hv,hnil⟩|⟨g',cap',cur,hv,_⟩
   ·injection hv with _ hl0 _
    omega
   ·injection hv with ha _ _
    exact ⟨g',ha⟩
  obtain ⟨ad,had⟩ : ∃ ad : Addr,ad = ⟨g,0,none⟩:=⟨_,rfl⟩
  rw [← had] at hg
  subst hg
  have HAD:=am had
  clear had hpi hi0 hix ha HIX
  have hne : ((i0 : Int) == -1) = false:=by simp
  go_wp2
  clear hne
  go_loopw [5,6] (fun v5 v6 wr => ∃ (i j : Nat) (ls : List S89),i < j ∧ j ≤ l.length ∧ v5 = .int .i64 (i : Int) ∧ v6 = .int .i64 (j : Int) ∧ Aside0 (Below N W wr) ∧ Aside0 (k89.R 89 wr N ok (.slice (some ad) l.length c) ls) ∧ Aside0 (ls.length = l.length) ∧ Aside0 (ls.take i = (l.take j).filter (fun x => !p x)) ∧ Aside0 (ls.drop j = l.drop j) ∧ Aside0 (Inv wr)) (fun _ v6 _ => l.length - (intOf v6).toNat)
  case atStart => exact ⟨i0,i0 + 1,l,by omega,by omega,rfl,by go_num,HB1,HR1,⟨rfl⟩,HF0,⟨rfl⟩,HI1⟩
  case round =>
   obtain ⟨i,j,ls,hij,hj,rfl,rfl,HBr,HRr,HLr,HFr,HDr,HIr⟩:=hrel
   by_cases hlt : j < l.length
   ·have hCr:=(Kd.R_reads' HRr.out).2.2
    have hll:=HLr.out
    obtain ⟨ae,e,hx0,hx1,hx2⟩:=at_T89 hCr (j : Int) (by omega) (by omega)
    cases e
    rw [Int.toNat_natCast] at hx0 hx1 hx2
    obtain ⟨ae,e,hy0,hy1,hy2⟩:=at_T89 hCr (i : Int) (by omega) (by omega)
    cases e
    rw [Int.toNat_natCast] at hy0 hy1 hy2
    have HS:=am (filter_take_snoc (fun x => !p x) hlt)
    have hmem : rd_T89 l (j : Int) ∈ l:=getD_mem_ hlt
    rw [rd_of_drop HDr.out hlt HLr.out] at hx0 hx1 hx2
    obtain ⟨x,hx⟩ : ∃ x,x = rd_T89 l (j : Int):=⟨_,rfl⟩
    rw [← hx] at hx0 hx1 hx2 hmem HS
    have HX:=am hx
    clear hCr hx hy0 hy1 hy2 hll
    have HBX:=am ((below_alloc (Below.refl wr.heap.size wr) (.cells #[.int .i64 x.f0,.int .i64 x.f1.f0,.int .i64 x.f1.f1] 89)).mono (Nat.le_trans HN.out HBr.out.size))
    have HCX:=am (HCL.out x _ hmem (HJ.out _ _ HIr.out HBX.out))
    have HXK:=am (blk_new wr (.cells #[.int .i64 x.f0,.int .i64 x.f1.f0,.int .i64 x.f1.f1] 89))
    have HR2:=am (Kd.R_alloc HRr.out (.cells #[.int .i64 x.f0,.int .i64 x.f1.f0,.int .i64 x.f1.f1] 89))
    have HB2:=am (HBr.out.trans HBX.out)
    have HNw:=am (Nat.le_trans HN.out HB2.out.size)
    clear hmem
    cases hp : p x with
   |true =>
     have HP:=am hp
     rw [hp] at HCX HS
     clear hp
     go_wp2_with fail
     refine HCX.out.mono ?_
     rintro e w5 ⟨rfl,hb⟩
     have HR3:=am (Kd.R_below HR2.out hb)
     have HB3:=am (below_then HB2.out HNw.out hb)
     have HI3:=am (HJ.out _ _ HIr.out (below_then HBX.out (Nat.le_trans HN.out HB2.out.size) hb))
     clear hb hx0 hx1 hx2
     go_wp2
     go_roundw
     case rel =>
      refine ⟨i,j + 1,ls,by omega,by omega,rfl,by go_num,HB3,HR3,HLr,⟨?_⟩,⟨?_⟩,HI3⟩
      ·rw [HS.out,HFr.out];simp
      ·have h:=HDr.out
       have h2:=congrArg (List.drop 1) h
       simpa using h2
     case measure => simp [intOf];omega
   |false =>
     have HP:=am hp
     rw [hp] at HCX HS
     clear hp
     go_wp2_with fail
     refine HCX.out.mono ?_
     rintro e w5 ⟨rfl,hb⟩
     have HX5:=am (blk_below HXK.out hb)
     have HR3:=am (Kd.R_below HR2.out hb)
     have HB3:=am (below_then HB2.out HNw.out hb)
     have HI3:=am (HJ.out _ _ HIr.out (below_then HBX.out (Nat.le_trans HN.out HB2.out.size) hb))
     clear hb hx0 hx1 hx2
     have hR3:=HR3.out
     rw [HAD.out] at hR3
     have HR4:=am hR3
     have k0:=bd HX5.out 0
     have k1:=bd HX5.out 1
     have k2:=bd HX5.out 2
     clear hR3
     go_wp2_with (with_reducible refine gate_store (t:=89) (p:=33) rfl ?_;refine store89_at (ad:=ad) (g:=g) (x:=x) (i:=i) (.tmp 33) (.tmp 32) rfl rfl rfl rfl rfl HAD.out HR4.out (by omega) ?_;intro w6 hr6 hb6;have HR6:=am hr6;have HB6:=am hb6;clear hr6 hb6 k0 k1 k2)
     go_roundw
     case rel =>
      refine ⟨i + 1,j + 1,ls.set i x,by omega,by omega,by go_num,by go_num,⟨HB3.out.trans HB6.out⟩,⟨by rw [HAD.out];exact HR6.out⟩,⟨by rw [List.length_set];exact HLr.out⟩,⟨?_⟩,⟨?_⟩,⟨HJ.out _ _ HI3.out HB6.out⟩⟩
      ·rw [HS.out,← HFr.out,List.take_succ_eq_append_getElem (by rw [List.length_set,HLr.out];omega),List.take_set_of_le (by omega)]
       simp
      ·rw [List.drop_set_of_lt (by omega)]
       have h2:=congrArg (List.drop 1) HDr.out
       simpa using h2
     case measure => simp [intOf];omega
   ·have hje : j = l.length:=by omega
    subst hje
    have hR3:=HRr.out
    rw [HAD.out] at hR3
    have hcl : ∀ ty,(Builtin.clear_ #[55] ty #[.slice (some (ad.add (i * 3))) (l.length - i) (c - i)]).run Tryz.prog wr = .ok (.tuple #[]) (wr.setCells g (i * 3) (zcells (l.length - i))):=fun ty => by
     rw [HAD.out,add_plain]
     exact clear89 hR3 (by omega) _ ty
    obtain ⟨ls',hz1,hz2,hz3⟩:=R_zero (l.length - i) i wr ls hR3 (by omega)
    have HZ1:=am hz1
    have HZ2:=am hz2
    have HZ3:=am hz3
    have HGN:=am (Kd.R_base hR3 g rfl)
    clear hR3 hz1 hz2 hz3
    have hlc:=HLC.out
    go_wp2
    go_ret
    obtain ⟨hn1,_,hC9⟩:=Kd.R_reads' HZ1.out
    have hln : ls'.length = l.length:=hn1.symm
    have hfl : l.filter (fun x => !p x) = ls'.take i:=by rw [HZ2.out,HFr.out,List.take_length]
    have hli : (ls'.take i).length = i:=by rw [List.length_take];omega
    have hC8 : Kd.C k89 (wr.setCells g (i * 3) (zcells (l.length - i))) (some ⟨g,0,none⟩) ls'.length ls':=hC9
    have hC10:=Kd.C_take hC8 (m:=i) (by omega)
    rw [hfl]
    refine ⟨HBr.out.trans ⟨HZ3.out.os,HZ3.out.tape,HZ3.out.output,HZ3.out.size,fun k hk => ?_⟩,some ⟨g,0,none⟩,c,by rw [hli,HAD.out];rfl,by rw [hli];omega,hC10⟩
    have hgn:=HGN.out
    exact setCells_far _ _ k (by omega)
set_option maxRecDepth 100000 in
set_option maxHeartbeats 2000000 in
theorem share_calls (A A2 : Option Addr) (c c2 : Nat) (rooms : List Int) (stirs : List S84) (W : World) (lo : Nat) (hlo : lo ≤ W.heap.size) (hC : Kd.F (Kd.int .i64) W (fun k => k < lo) A rooms.length rooms) (hc : rooms.length ≤ c) (hS : Kd.C k84 W A2 stirs.length stirs) (hc2 : stirs.length ≤ c2) (id pour : Int) :
  Calls Tryz.prog 30 #[.agg #[.slice A rooms.length c,.slice A2 stirs.length c2],.int .i64 id,.int .i64 pour] W fun e W' => e = .returned (.tuple #[.agg #[.int .i64 (shareE (playedP rooms stirs stirs.length) id pour).1.f0,.int .i64 (shareE (playedP rooms stirs stirs.length) id pour).1.f1],.int .i64 (shareE (playedP rooms stirs stirs.length) id pour).2]) ∧ Below W.heap.size W W':=by
 have hu:=Tryz.underlying32
 have hu167:=Tryz.underlying167
 have hu43:=Tryz.underlying43
 have HC:=am (hC)
 have HS:=am (hS)
 have HB:=am (Below.refl W.heap.size W)
 have HC1:=am (Kd.F_alloc HC.out (.cells #[.slice A rooms.length c,.slice A2 stirs.length c2] 32))
 have HS1:=am (Kd.C_alloc HS.out (.cells #[.slice A rooms.length c,.slice A2 stirs.length c2] 32))
 have HB1:=am (below_alloc HB.out (.cells #[.slice A rooms.length c,.slice A2 stirs.length c2] 32))
 have HC2:=am (Kd.F_alloc HC1.out (.cells #[.int .i64 0,.int .i64 0] 43))
 have HS2:=am (Kd.C_alloc HS1.out (.cells #[.int .i64 0,.int .i64 0] 43))
 have HB2:=am (below_alloc HB1.out (.cells #[.int .i64 0,.int .i64 0] 43))
 have HR:=am (blk_new' (W.alloc (.cells #[.slice A rooms.length c,.slice A2 stirs.length c2] 32)) (.cells #[.int .i64 0,.int .i64 0] 43) (W.heap.size + 1) (by simp))
 clear hC hS
 obtain ⟨r,hr⟩ : ∃ r,r = playedP rooms stirs stirs.length:=⟨_,rfl⟩
 rw [← hr]
 have HP:=am hr.symm
 clear hr
 obtain ⟨q,hq⟩ : ∃ q,q = shareE r id pour:=⟨_,rfl⟩
 rw [← hq]
 have HQ:=am hq
 clear hq
 go_enter Tryz.func30,Tryz.ntmps30
 go_wp2_with fail
 refine (barrowOf_calls A A2 c c2 rooms stirs _ lo (Nat.le_trans hlo (by simp;omega)) HC2.out hc HS2.out hc2 id).mono ?_
 rintro e w1 ⟨hb,h⟩
 rw [HP.out] at h
 have HB3:=am (below_then HB2.out (below_size HB2.out) hb)
 have HR1:=am (blk_below HR.out hb)
 clear hb
 cases r with
|error x =>
  subst h
  have hx : ¬ x.1 = 0:=playedP_code HP.out
  have HE:=am (show q = (⟨0,0⟩,x.1) from HQ.out)
  have HB4:=am (below_alloc HB3.out (.cells #[.int .i64 0,.int .i64 0,.int .i64 0,.slice none 0 0] 167))
  have HR2:=am (blk_alloc HR1.out (.cells #[.int .i64 0,.int .i64 0,.int .i64 0,.slice none 0 0] 167))
  have g0:=bd HR2.out 0
  have fg0:=blk_frozen HR2.out 0
  have g1:=bd HR2.out 1
  have fg1:=blk_frozen HR2.out 1
  go_wp2
  rw [HE.out]
  have bz:=blk_put (cs':=#[.int .i64 0,.int .i64 0]) (blk_put (cs':=#[.int .i64 0,.int .i64 0]) (HR2.out) 0 (.int .i64 0) rfl) 1 (.int .i64 0) rfl
  have z0:=bd bz 0
  have z1:=bd bz 1
  exact bodyPost_ret (v:=.tuple #[.agg #[.int .i64 0,.int .i64 0],.int .i64 x.1]) (by simp [results,Tryz.results30,go_sem,z0,z1,hu43]) rfl ⟨rfl,((HB4.out).setCell (p:=⟨W.heap.size + 1,0,none⟩) (by simp) (.int .i64 0)).setCell (p:=⟨W.heap.size + 1,1,none⟩) (by simp) (.int .i64 0)⟩
|ok Y =>
  cases hf : Y.barrows.find? (isId id) with
 |none =>
   have HE:=am (show q = (⟨0,0⟩,5) by rw [HQ.out];unfold shareE;simp only [hf])
   simp only [hf] at h
   clear hf
   subst h
   have HB4:=am (below_alloc HB3.out (.cells #[.int .i64 0,.int .i64 0,.int .i64 0,.slice none 0 0] 167))
   have HR2:=am (blk_alloc HR1.out (.cells #[.int .i64 0,.int .i64 0,.int .i64 0,.slice none 0 0] 167))
   have g0:=bd HR2.out 0
   have fg0:=blk_frozen HR2.out 0
   have g1:=bd HR2.out 1
   have fg1:=blk_frozen HR2.out 1
   go_wp2
   rw [HE.out]
   have bz:=blk_put (cs':=#[.int .i64 0,.int .i64 0]) (blk_put (cs':=#[.int .i64 0,.int .i64 0]) (HR2.out) 0 (.int .i64 0) rfl) 1 (.int .i64 0) rfl
   have z0:=bd bz 0
   have z1:=bd bz 1
   exact bodyPost_ret (v:=.tuple #[.agg #[.int .i64 0,.int .i64 0],.int .i64 5]) (by simp [results,Tryz.results30,go_sem,z0,z1,hu43]) rfl ⟨rfl,((HB4.out).setCell (p:=⟨W.heap.size + 1,0,none⟩) (by simp) (.int .i64 0)).setCell (p:=⟨W.heap.size + 1,1,none⟩) (by simp) (.int .i64 0)⟩
 |some b =>
   have HF:=am hf
   have HQ1:=am (show q = if pour ∈ Y.pours then resultP (shareP b pour) else (⟨0,0⟩,5) by rw [HQ.out];unfold shareE;simp only [hf])
   simp only [hf] at h
   clear hf
   obtain ⟨L,base,A3,c3,hbase,hbad,rfl,hY,hl3,hF3⟩:=h
   have HWF:=am (played_ok HP.out).2.2.1
   have HBO:=am (HWF.out.barrows b (List.mem_of_find?_eq_some HF.out))
   have HL3:=am hl3
   have HY:=am (hY)
   have HG:=am (Kd.F_now hF3)
   have HB4:=am (below_alloc HB3.out (.cells #[.int .i64 b.f0,.int .i64 b.f1,.int .i64 b.f2,.slice A3 b.f3.length c3] 167))
   have HR2:=am (blk_alloc HR1.out (.cells #[.int .i64 b.f0,.int .i64 b.f1,.int .i64 b.f2,.slice A3 b.f3.length c3] 167))
   have HY1:=am (HY.out.move (below_alloc (Below.refl _ _) (.cells #[.int .i64 b.f0,.int .i64 b.f1,.int .i64 b.f2,.slice A3 b.f3.length c3] 167)))
   have HG1:=am (Kd.C_alloc HG.out (.cells #[.int .i64 b.f0,.int .i64 b.f1,.int .i64 b.f2,.slice A3 b.f3.length c3] 167))
   have HX:=am (blk_new w1 (.cells #[.int .i64 b.f0,.int .i64 b.f1,.int .i64 b.f2,.slice A3 b.f3.length c3] 167))
   clear hbase hbad hY hl3 hF3
   obtain ⟨k,hk⟩ : ∃ k,k = decide (pour ∈ Y.pours):=⟨_,rfl⟩
   have HK:=am hk
   clear hk
   go_wp2_with fail
   refine (known_calls HY1.out HWF.out (by decide) pour).mono ?_
   rintro e w2 ⟨rfl,hb⟩
   rw [← HK.out]
   have HB5:=am (below_then HB4.out (below_size HB4.out) hb)
   have HR3:=am (blk_below HR2.out hb)
   have HG2:=am (Kd.C_below HG1.out hb)
   have HX1:=am (blk_below HX.out hb)
   clear hb
   cases k with
  |false =>
    have HE:=am (show q = (⟨0,0⟩,5) by rw [HQ1.out];exact if_neg (of_decide_eq_false HK.out.symm))
    have g0:=bd HR3.out 0
    have fg0:=blk_frozen HR3.out 0
    have g1:=bd HR3.out 1
    have fg1:=blk_frozen HR3.out 1
    go_wp2
    rw [HE.out]
    have bz:=blk_put (cs':=#[.int .i64 0,.int .i64 0]) (blk_put (cs':=#[.int .i64 0,.int .i64 0]) (HR3.out) 0 (.int .i64 0) rfl) 1 (.int .i64 0) rfl
    have z0:=bd bz 0
    have z1:=bd bz 1
    exact bodyPost_ret (v:=.tuple #[.agg #[.int .i64 0,.int .i64 0],.int .i64 5]) (by simp [results,Tryz.results30,go_sem,z0,z1,hu43]) rfl ⟨rfl,((HB5.out).setCell (p:=⟨W.heap.size + 1,0,none⟩) (by simp) (.int .i64 0)).setCell (p:=⟨W.heap.size + 1,1,none⟩) (by simp) (.int .i64 0)⟩
  |true =>
    have HE:=am (show q = resultP (shareP b pour) by rw [HQ1.out];exact if_pos (of_decide_eq_true HK.out.symm))
    have HS1:=am (share_some HBO.out pour)
    have HS2:=am (result_some (shareP b pour))
    rw [← HE.out] at HS2
    have g0:=bd HX1.out 0
    have g1:=bd HX1.out 1
    have g2:=bd HX1.out 2
    have g3:=bd HX1.out 3
    go_wp2_with fail
    refine (pit_barrow_share.calls FU _ _ _ _ _ _ _ _ _ _ HG2.out HL3.out HS1.out).mono ?_
    rintro e w3 ⟨rfl,hb⟩
    have HB6:=am (below_then HB5.out (below_size HB5.out) hb)
    have HR4:=am (blk_below HR3.out hb)
    clear hb
    go_wp2_with fail
    refine (pit_result.calls FU _ _ _ _ _ _ HS2.out).mono ?_
    rintro e w4 ⟨rfl,hb⟩
    have HB7:=am (below_then HB6.out (below_size HB6.out) hb)
    have HR5:=am (blk_below HR4.out hb)
    clear hb
    have u0:=bd HR5.out 0
    have fu0:=blk_frozen HR5.out 0
    have u1:=bd HR5.out 1
    have fu1:=blk_frozen HR5.out 1
    go_wp2
    have bz:=blk_put (cs':=#[.int .i64 q.1.f0,.int .i64 q.1.f1]) (blk_put (cs':=#[.int .i64 q.1.f0,.int .i64 0]) (HR5.out) 0 (.int .i64 q.1.f0) rfl) 1 (.int .i64 q.1.f1) rfl
    have z0:=bd bz 0
    have z1:=bd bz 1
    exact bodyPost_ret (v:=.tuple #[.agg #[.int .i64 q.1.f0,.int .i64 q.1.f1],.int .i64 q.2]) (by simp [results,Tryz.results30,go_sem,z0,z1,hu43]) rfl ⟨rfl,((HB7.out).setCell (p:=⟨W.heap.size + 1,0,none⟩) (by simp) (.int .i64 q.1.f0)).setCell (p:=⟨W.heap.size + 1,1,none⟩) (by simp) (.int .i64 q.1.f1)⟩
def R104_1.T : Bool × List (List Nat × List Nat):=(true,[([],[]),([0],[0]),([],[]),([2],[2]),([1,3],[1,3]),([4],[4]),([5],[5]),([],[]),([7],[7]),([8],[8]),([9],[9]),([],[]),([11],[11]),([12],[12]),([13],[13]),([],[]),([14,15],[14,15]),([10,16],[10,16]),([17],[17]),([6,18],[6,18]),([19,16,0,1,2,3,4,5,6,7,8,9,10,11,12,13,14,15,16,17,18,19],[19])])
def R104_1.B : List Nat:=[0,1,0,4,15,31,63,0,128,384,896,0,2048,6144,14336,0,63488,130944,262016,524287,1048575]
theorem R104_1.tab : rtab .any (opsOf Tryz.f104 1) = R104_1.T:=by kernel_rfl
theorem R104_1.bits : waitsOk R104_1.T.2 R104_1.B = true:=by kernel_rfl
theorem goP_formed : ∀ (l : List S84) (Y Y' : Yd) (day i : Int),0 ≤ day → goP Y day i l = .ok Y' → ∀ s ∈ l,0 ≤ s.f2 ∧ s.f2 ≤ 682
|[],_,_,_,_,_,_ => by simp
|s :: r,Y,Y',day,i,hd,h => by
  cases hf : formedP Y.rooms.length s day with
 |false => rw [goP_bad hf] at h;cases h
 |true =>
   obtain ⟨h1,h2⟩:=formed_of hd hf
   cases hs : stepP Y s i with
  |error c => rw [goP_err hf hs] at h;cases h
  |ok Y1 =>
    rw [goP_next hf hs] at h
    intro x hx
    rcases List.mem_cons.1 hx with rfl|hx
    ·exact h1.day
    ·exact goP_formed r Y1 Y' s.f2 (i + 1) h1.day.1 h x hx
theorem playedP_days {rooms : List Int} {stirs : List S84} {k : Nat} {Y : Yd} (h : playedP rooms stirs k = .ok Y) : ∀ s ∈ stirs.take k,0 ≤ s.f2 ∧ s.f2 ≤ 682:=by
 obtain ⟨h1,h2,_⟩:=played_ok h
 rw [playedP_go h1 h2] at h
 exact goP_formed _ _ _ _ _ (Int.le_refl 0) h
def dayP (Y : Yd) (pour : Int) : Int:=rd Y.days (Y.pours.idxOf pour : Int)
def ageP (stirs : List S84) (Y : Yd) (b : S167) (pour : Int) : Int:=(rd_T84 stirs b.f1).f2 - dayP Y pour
theorem dayP_ok {n : Nat} {Y : Yd} (hw : Wf n Y) {pour : Int} (hp : pour ∈ Y.pours) : 0 ≤ dayP Y pour ∧ dayP Y pour ≤ 682:=by
 have h:=List.idxOf_lt_length_of_mem hp
 unfold dayP rd
 rw [Int.toNat_natCast]
 exact hw.dayok _ (getD_mem_ (by rw [hw.days];exact h))
set_option maxRecDepth 100000 in
set_option maxHeartbeats 2000000 in
theorem age_calls {W : World} {base n : Nat} {L : Loc} {Y : Yd} (hY : YardAt W base L Y) (hw : Wf n Y) (hn : n ≤ 60) (A : Option Addr) (R c : Nat) (A2 : Option Addr) (c2 : Nat) (stirs : List S84) (hS : Kd.C k84 W A2 stirs.length stirs) (b : S167) (A3 : Option Addr) (c3 : Nat) (hb0 : 0 ≤ b.f1) (hb1 : b.f1 < stirs.length) (hday : 0 ≤ (rd_T84 stirs b.f1).f2 ∧ (rd_T84 stirs b.f1).f2 ≤ 682) (pour : Int) (hp : pour ∈ Y.pours) :
  Calls Tryz.prog 104 #[.pointer (some ⟨L.g,0,none⟩),.agg #[.slice A R c,.slice A2 stirs.length c2],.agg #[.int .i64 b.f0,.int .i64 b.f1,.int .i64 b.f2,.slice A3 b.f3.length c3],.int .i64 pour] W fun e W' => e = .returned (.int .i64 (ageP stirs Y b pour)) ∧ Below W.heap.size W W':=by
 have hu:=Tryz.underlying32
 have hu167:=Tryz.underlying167
 have hu84:=Tryz.underlying84
 have hidx:=List.idxOf_lt_length_of_mem hp
 obtain ⟨hq0,hq1⟩:=dayP_ok hw hp
 obtain ⟨Ao,co,ho,hlo,hCo⟩:=Kd.R_reads hY.pours
 obtain ⟨Ad,cd,hd,hld,hCd⟩:=Kd.R_reads hY.days
 obtain ⟨j,hj⟩ : ∃ j : Nat,j = Y.pours.idxOf pour:=⟨_,rfl⟩
 have hjl : j < Y.pours.length:=by rw [hj];exact hidx
 obtain ⟨ae,e,hx⟩:=Kd.at_int hCd (j : Int) (by omega) (by rw [hw.days];omega)
 subst e
 obtain ⟨ad,e,_,_,hx2,_⟩:=at_T84 hS b.f1 hb0 hb1
 subst e
 have hB:=hY.blk
 rw [ho,hd] at hB
 have HI:=am (show slices_Index_int_int.f FU Y.pours pour = some (j : Int) by rw [indexOf_some pour (by have:=hw.npours;omega),if_pos hp,hj])
 have hrd : rd Y.days (j : Int) = dayP Y pour:=by rw [hj];rfl
 rw [hrd] at hx
 have hdl : j < Y.days.length:=by rw [hw.days];exact hjl
 rw [Int.toNat_natCast] at hx
 have HLo:=am hlo
 have HX2:=am (pw_cell_below (below_drew (below_alloc (below_alloc (Below.refl W.heap.size W) (.cells #[.slice A R c,.slice (some ad) stirs.length c2] 32)) (.cells #[.int .i64 b.f0,.int .i64 b.f1,.int .i64 b.f2,.slice A3 b.f3.length c3] 167))) hx2)
 have HXD:=am (pw_cell_below (below_drew (below_alloc (below_alloc (Below.refl W.heap.size W) (.cells #[.slice A R c,.slice (some ad) stirs.length c2] 32)) (.cells #[.int .i64 b.f0,.int .i64 b.f1,.int .i64 b.f2,.slice A3 b.f3.length c3] 167))) hx)
 unfold ageP
 obtain ⟨d,hd'⟩ : ∃ d,d = (rd_T84 stirs b.f1).f2:=⟨_,rfl⟩
 rw [← hd'] at hday HX2 ⊢
 obtain ⟨z,hz⟩ : ∃ z,z = dayP Y pour:=⟨_,rfl⟩
 rw [← hz] at hq0 hq1 HXD ⊢
 have hwr : IntKind.i64.wrap (d - z) = d - z:=IntWalk.i64_in _ (by omega)
 have BG:=am (hB)
 have HC:=am (hCo)
 have HB:=am (Below.refl W.heap.size W)
 have BG1:=am (blk_alloc BG.out (.cells #[.slice A R c,.slice (some ad) stirs.length c2] 32))
 have HC1:=am (Kd.C_alloc HC.out (.cells #[.slice A R c,.slice (some ad) stirs.length c2] 32))
 have HB1:=am (below_alloc HB.out (.cells #[.slice A R c,.slice (some ad) stirs.length c2] 32))
 have BP:=am (blk_new W (.cells #[.slice A R c,.slice (some ad) stirs.length c2] 32))
 have BG2:=am (blk_alloc BG1.out (.cells #[.int .i64 b.f0,.int .i64 b.f1,.int .i64 b.f2,.slice A3 b.f3.length c3] 167))
 have HC2:=am (Kd.C_alloc HC1.out (.cells #[.int .i64 b.f0,.int .i64 b.f1,.int .i64 b.f2,.slice A3 b.f3.length c3] 167))
 have HB2:=am (below_alloc HB1.out (.cells #[.int .i64 b.f0,.int .i64 b.f1,.int .i64 b.f2,.slice A3 b.f3.length c3] 167))
 have BP1:=am (blk_alloc BP.out (.cells #[.int .i64 b.f0,.int .i64 b.f1,.int .i64 b.f2,.slice A3 b.f3.length c3] 167))
 have BB:=am (blk_new' (W.alloc (.cells #[.slice A R c,.slice (some ad) stirs.length c2] 32)) (.cells #[.int .i64 b.f0,.int .i64 b.f1,.int .i64 b.f2,.slice A3 b.f3.length c3] 167) (W.heap.size + 1) (by simp))
 have BG3:=am (blk_drew BG2.out)
 have HC3:=am (Kd.C_drew HC2.out)
 have HB3:=am (below_drew HB2.out)
 have BP2:=am (blk_drew BP1.out)
 have BB1:=am (blk_drew BB.out)
 obtain ⟨m,hm⟩ : ∃ m : Nat,m = Y.pours.length:=⟨_,rfl⟩
 obtain ⟨md,hmd⟩ : ∃ m : Nat,m = Y.days.length:=⟨_,rfl⟩
 obtain ⟨mr,hmr⟩ : ∃ m : Nat,m = Y.rooms.length:=⟨_,rfl⟩
 clear hx hx2 hrd hd' hz hj hidx hp hw ho hd hlo hld hCo hCd hY hS hB hm hmd hmr
 go_enter Tryz.func104,Tryz.ntmps104
 go_wp2
 refine start_ (n:=21) (S:=fun w' => w'.cell? ⟨W.heap.size,1,none⟩ = some (.slice (some ad) stirs.length c2) ∧ w'.cell? ⟨W.heap.size + 1,1,none⟩ = some (.int .i64 b.f1) ∧ w'.cell? ⟨(ad.add (b.f1.toNat * 6)).block,(ad.add (b.f1.toNat * 6)).off + 2,none⟩ = some (.int .i64 d) ∧ w'.cell? ⟨L.g,3,none⟩ = some (.slice (some ae) Y.days.length cd) ∧ w'.cell? ⟨L.g,2,none⟩ = some (.slice Ao Y.pours.length co) ∧ w'.cell? (ae.add j) = some (.int .i64 z)) (ds:=[]) (ab 21 0) kr rfl kr ⟨(blk_cell BP2.out 1).trans rfl,(blk_cell BB1.out 1).trans rfl,HX2.out,(blk_cell BG3.out 3).trans rfl,(blk_cell BG3.out 2).trans rfl,HXD.out⟩ (fun hHeld => ?_);refine with_tabW R104_1.tab R104_1.bits (fun HT_ HW_ => ?_)
 generalize (((W.alloc (.cells #[.slice A R c,.slice (some ad) stirs.length c2] 32)).alloc (.cells #[.int .i64 b.f0,.int .i64 b.f1,.int .i64 b.f2,.slice A3 b.f3.length c3] 167))).drew = wd at BG3 HC3 HB3 BP2 BB1 HX2 HXD hHeld ⊢
 refine qA 0 (some 9) ?_;refine qT 1 (some 10) ?_;refine qA 2 (some 11) ?_;refine qT 3 (some 12) ?_;refine qA 4 (some 13) ?_;refine qA 5 (some 14) ?_;refine qT 6 (some 15) ?_;refine qA 7 (some 16) ?_;refine qA 8 (some 17) ?_;refine qA 9 (some 18) ?_;refine qT 10 (some 19) ?_;refine qA 11 (some 20) ?_;refine qA 12 (some 21) ?_;refine qA 13 (some 22) ?_;refine qT 14 (some 23) ?_;refine qA 15 (some 24) ?_
 refine qE 16 (some 25) fun K hK => ?_
 refine gC Tryz.func166 #[.slice Ao Y.pours.length co,.int .i64 pour] ?_
 refine (slices_Index_int_int.calls FU _ _ _ _ _ _ HC3.out HLo.out HI.out).mono ?_
 rintro e w1 ⟨rfl,m,rfl⟩
 have BG4:=am (blk_drewN BG3.out m)
 have HB4:=am (pw_below_drewN HB3.out m)
 have BP3:=am (blk_drewN BP2.out m)
 have BB2:=am (blk_drewN BB1.out m)
 have HX3:=am (pw_cell_below (pw_below_drewN (Below.refl _ _) m) HX2.out)
 have HXE:=am (pw_cell_below (pw_below_drewN (Below.refl _ _) m) HXD.out)
 refine ⟨_,rfl,?_⟩
 refine hK.out _ _ ⟨(blk_cell BP3.out 1).trans rfl,(blk_cell BB2.out 1).trans rfl,HX3.out,(blk_cell BG4.out 3).trans rfl,(blk_cell BG4.out 2).trans rfl,HXE.out⟩ (fun hHeld => ?_)
 clear hK K
 refine qN (some 25) ?_
 refine qA 17 (some 26) ?_;refine qT 18 (some 27) ?_;refine qA 19 (some 28) ?_;refine qA 20 (some 8) ?_
 refine done_ (done_of HT_.out kr) ?_
 go_wp2
 go_ret
 exact ⟨rfl,HB4.out⟩
theorem played_wf {rooms : List Int} {stirs : List S84} {Y : Yd} (h : playedP rooms stirs stirs.length = .ok Y) : Wf stirs.length Y:=by
 obtain ⟨c1,c2,_⟩:=played_ok h
 rw [playedP_go c1 c2,List.take_length] at h
 have:=(go_ok stirs 0 _ Y 0 (empty_ok c1) (Int.le_refl _) (by omega) h).1
 rw [Nat.zero_add] at this
 exact this
def mnP (x y : Int) : Int:=if y < x then y else x
def mxP (x y : Int) : Int:=if y > x then y else x
def agesL (stirs : List S84) (Y : Yd) (b : S167) : List S89 → Int × Int
|l => l.foldl (fun s x => (mnP s.1 (ageP stirs Y b x.f0),mxP s.2 (ageP stirs Y b x.f0))) (682,0)
def agesE (stirs : List S84) (r : Except (Int × Int) Yd) (id : Int) : (Int × Int) × Int:=match r with
|.error x => ((0,0),x.1)
|.ok Y => (match Y.barrows.find? (isId id) with
 |none => ((0,0),5)
 |some b => (agesL stirs Y b b.f3,0))
theorem agesL_snoc {stirs : List S84} {Y : Yd} {b : S167} {l : List S89} {j : Nat} (h : j < l.length) : agesL stirs Y b (l.take (j + 1)) = (mnP (agesL stirs Y b (l.take j)).1 (ageP stirs Y b (rd_T89 l (j : Int)).f0),mxP (agesL stirs Y b (l.take j)).2 (ageP stirs Y b (rd_T89 l (j : Int)).f0)):=by
 rw [List.take_succ_eq_append_getElem h]
 unfold agesL rd_T89
 rw [List.foldl_append,Int.toNat_natCast,List.getD_eq_getElem?_getD,List.getElem?_eq_getElem h]
 rfl
set_option maxRecDepth 100000 in
set_option maxHeartbeats 2000000 in
theorem ages_calls (A A2 : Option Addr) (c c2 : Nat) (rooms : List Int) (stirs : List S84) (W : World) (lo : Nat) (hlo : lo ≤ W.heap.size) (hC : Kd.F (Kd.int .i64) W (fun k => k < lo) A rooms.length rooms) (hc : rooms.length ≤ c) (hS : Kd.C k84 W A2 stirs.length stirs) (hc2 : stirs.length ≤ c2) (id : Int) :
  Calls Tryz.prog 32 #[.agg #[.slice A rooms.length c,.slice A2 stirs.length c2],.int .i64 id] W fun e W' => e = .returned (.tuple #[.agg #[.int .i64 (agesE stirs (playedP rooms stirs stirs.length) id).1.1,.int .i64 (agesE stirs (playedP rooms stirs stirs.length) id).1.2],.int .i64 (agesE stirs (playedP rooms stirs stirs.length) id).2]) ∧ Below W.heap.size W W':=by
 have hu:=Tryz.underlying32
 have hu167:=Tryz.underlying167
 have hu66:=Tryz.underlying66
 have hu89:=Tryz.underlying89
 have hu43:=Tryz.underlying43
 have HC:=am (hC)
 have HS:=am (hS)
 have HB:=am (Below.refl W.heap.size W)
 have HC1:=am (Kd.F_alloc HC.out (.cells #[.slice A rooms.length c,.slice A2 stirs.length c2] 32))
 have HS1:=am (Kd.C_alloc HS.out (.cells #[.slice A rooms.length c,.slice A2 stirs.length c2] 32))
 have HB1:=am (below_alloc HB.out (.cells #[.slice A rooms.length c,.slice A2 stirs.length c2] 32))
 have HP:=am (blk_new W (.cells #[.slice A rooms.length c,.slice A2 stirs.length c2] 32))
 have HC2:=am (Kd.F_alloc HC1.out (.cells #[.int .i64 0,.int .i64 0] 66))
 have HS2:=am (Kd.C_alloc HS1.out (.cells #[.int .i64 0,.int .i64 0] 66))
 have HB2:=am (below_alloc HB1.out (.cells #[.int .i64 0,.int .i64 0] 66))
 have HP1:=am (blk_alloc HP.out (.cells #[.int .i64 0,.int .i64 0] 66))
 have HR:=am (blk_new' (W.alloc (.cells #[.slice A rooms.length c,.slice A2 stirs.length c2] 32)) (.cells #[.int .i64 0,.int .i64 0] 66) (W.heap.size + 1) (by simp))
 clear hC hS
 obtain ⟨r,hr⟩ : ∃ r,r = playedP rooms stirs stirs.length:=⟨_,rfl⟩
 rw [← hr]
 have HQP:=am hr.symm
 clear hr
 obtain ⟨q,hq⟩ : ∃ q,q = agesE stirs r id:=⟨_,rfl⟩
 rw [← hq]
 have HQ:=am hq
 clear hq
 go_enter Tryz.func32,Tryz.ntmps32
 go_wp2_with fail
 refine (barrowOf_calls A A2 c c2 rooms stirs _ lo (Nat.le_trans hlo (by simp;omega)) HC2.out hc HS2.out hc2 id).mono ?_
 rintro e w1 ⟨hb,h⟩
 rw [HQP.out] at h
 have HS3:=am (Kd.C_below HS2.out hb)
 have HB3:=am (below_then HB2.out (below_size HB2.out) hb)
 have HP2:=am (blk_below HP1.out hb)
 have HR1:=am (blk_below HR.out hb)
 clear hb
 cases r with
|error x =>
  subst h
  have hx : ¬ x.1 = 0:=playedP_code HQP.out
  have HE:=am (show q = ((0,0),x.1) from HQ.out)
  have HS4:=am (Kd.C_alloc HS3.out (.cells #[.int .i64 0,.int .i64 0,.int .i64 0,.slice none 0 0] 167))
  have HB4:=am (below_alloc HB3.out (.cells #[.int .i64 0,.int .i64 0,.int .i64 0,.slice none 0 0] 167))
  have HP3:=am (blk_alloc HP2.out (.cells #[.int .i64 0,.int .i64 0,.int .i64 0,.slice none 0 0] 167))
  have HR2:=am (blk_alloc HR1.out (.cells #[.int .i64 0,.int .i64 0,.int .i64 0,.slice none 0 0] 167))
  have g0:=bd HR2.out 0
  have fg0:=blk_frozen HR2.out 0
  have g1:=bd HR2.out 1
  have fg1:=blk_frozen HR2.out 1
  go_wp2
  rw [HE.out]
  have bz:=blk_put (cs':=#[.int .i64 0,.int .i64 0]) (blk_put (cs':=#[.int .i64 0,.int .i64 0]) (HR2.out) 0 (.int .i64 0) rfl) 1 (.int .i64 0) rfl
  have z0:=bd bz 0
  have z1:=bd bz 1
  exact bodyPost_ret (v:=.tuple #[.agg #[.int .i64 0,.int .i64 0],.int .i64 x.1]) (by simp [results,Tryz.results32,go_sem,z0,z1,hu66]) rfl ⟨rfl,((HB4.out).setCell (p:=⟨W.heap.size + 1,0,none⟩) (by simp) (.int .i64 0)).setCell (p:=⟨W.heap.size + 1,1,none⟩) (by simp) (.int .i64 0)⟩
|ok Y =>
  cases hf : Y.barrows.find? (isId id) with
 |none =>
   have HE:=am (show q = ((0,0),5) by rw [HQ.out];unfold agesE;simp only [hf])
   simp only [hf] at h
   clear hf
   subst h
   have HS4:=am (Kd.C_alloc HS3.out (.cells #[.int .i64 0,.int .i64 0,.int .i64 0,.slice none 0 0] 167))
   have HB4:=am (below_alloc HB3.out (.cells #[.int .i64 0,.int .i64 0,.int .i64 0,.slice none 0 0] 167))
   have HP3:=am (blk_alloc HP2.out (.cells #[.int .i64 0,.int .i64 0,.int .i64 0,.slice none 0 0] 167))
   have HR2:=am (blk_alloc HR1.out (.cells #[.int .i64 0,.int .i64 0,.int .i64 0,.slice none 0 0] 167))
   have g0:=bd HR2.out 0
   have fg0:=blk_frozen HR2.out 0
   have g1:=bd HR2.out 1
   have fg1:=blk_frozen HR2.out 1
   go_wp2
   rw [HE.out]
   have bz:=blk_put (cs':=#[.int .i64 0,.int .i64 0]) (blk_put (cs':=#[.int .i64 0,.int .i64 0]) (HR2.out) 0 (.int .i64 0) rfl) 1 (.int .i64 0) rfl
   have z0:=bd bz 0
   have z1:=bd bz 1
   exact bodyPost_ret (v:=.tuple #[.agg #[.int .i64 0,.int .i64 0],.int .i64 5]) (by simp [results,Tryz.results32,go_sem,z0,z1,hu66]) rfl ⟨rfl,((HB4.out).setCell (p:=⟨W.heap.size + 1,0,none⟩) (by simp) (.int .i64 0)).setCell (p:=⟨W.heap.size + 1,1,none⟩) (by simp) (.int .i64 0)⟩
 |some b =>
   have HF:=am hf
   have HQ1:=am (show q = (agesL stirs Y b b.f3,0) by rw [HQ.out];unfold agesE;simp only [hf])
   simp only [hf] at h
   clear hf
   obtain ⟨L,base,A3,c3,hbase,hbad,rfl,hY,hl3,hF3⟩:=h
   have HWF:=am (played_wf HQP.out)
   have HSL:=am (played_ok HQP.out).2.1
   have HDY:=am (playedP_days HQP.out)
   have HBO:=am (HWF.out.barrows b (List.mem_of_find?_eq_some HF.out))
   have HL3:=am hl3
   have hlen : b.f3.length ≤ 60:=HBO.out.par.len
   have HY:=am (hY)
   have HG:=am (Kd.F_now hF3)
   have HS4:=am (Kd.C_alloc HS3.out (.cells #[.int .i64 b.f0,.int .i64 b.f1,.int .i64 b.f2,.slice A3 b.f3.length c3] 167))
   have HB4:=am (below_alloc HB3.out (.cells #[.int .i64 b.f0,.int .i64 b.f1,.int .i64 b.f2,.slice A3 b.f3.length c3] 167))
   have HP3:=am (blk_alloc HP2.out (.cells #[.int .i64 b.f0,.int .i64 b.f1,.int .i64 b.f2,.slice A3 b.f3.length c3] 167))
   have HR2:=am (blk_alloc HR1.out (.cells #[.int .i64 b.f0,.int .i64 b.f1,.int .i64 b.f2,.slice A3 b.f3.length c3] 167))
   have HY1:=am (HY.out.move (below_alloc (Below.refl _ _) (.cells #[.int .i64 b.f0,.int .i64 b.f1,.int .i64 b.f2,.slice A3 b.f3.length c3] 167)))
   have HG1:=am (Kd.C_alloc HG.out (.cells #[.int .i64 b.f0,.int .i64 b.f1,.int .i64 b.f2,.slice A3 b.f3.length c3] 167))
   have HX:=am (blk_new w1 (.cells #[.int .i64 b.f0,.int .i64 b.f1,.int .i64 b.f2,.slice A3 b.f3.length c3] 167))
   clear hbase hbad hY hl3 hF3
   go_wp2
   go_loopw [28] (fun v28 wr => ∃ (j : Nat) (l1 l2 : Int),j ≤ b.f3.length ∧ v28 = .int .i64 (j : Int) ∧ Aside0 (Below (w1.alloc (.cells #[.int .i64 b.f0,.int .i64 b.f1,.int .i64 b.f2,.slice A3 b.f3.length c3] 167)).heap.size (w1.alloc (.cells #[.int .i64 b.f0,.int .i64 b.f1,.int .i64 b.f2,.slice A3 b.f3.length c3] 167)) wr) ∧ Aside0 (wr.heap[w1.heap.size + 1]? = some (.cells #[.int .i64 l1,.int .i64 l2] 66 (0,0))) ∧ Aside0 (agesL stirs Y b (b.f3.take j) = (l1,l2))) (fun v28 _ => b.f3.length - (intOf v28).toNat)
   case atStart => exact ⟨0,682,0,Nat.zero_le _,rfl,⟨below_alloc (Below.refl _ _) _⟩,⟨blk_new' _ _ _ (by simp)⟩,⟨rfl⟩⟩
   case round =>
    obtain ⟨j,l1,l2,hj,rfl,HN,HT,HA⟩:=hrel
    have hbn:=HN.out
    have HS5:=am (Kd.C_below HS4.out hbn)
    have HB5:=am (below_then HB4.out (below_size HB4.out) hbn)
    have HP4:=am (blk_below HP3.out hbn)
    have HR3:=am (blk_below HR2.out hbn)
    have HY2:=am (HY1.out.move hbn)
    have HG2:=am (Kd.C_below HG1.out hbn)
    have HX1:=am (blk_below HX.out hbn)
    clear hbn
    by_cases hlt : j < b.f3.length
    ·
     obtain ⟨ae,e,hx0,hx1,hx2⟩:=at_T89 HG2.out (j : Int) (by omega) (by omega)
     cases e
     rw [Int.toNat_natCast] at hx0 hx1 hx2
     have hmem : rd_T89 b.f3 (j : Int) ∈ b.f3:=getD_mem_ hlt
     have HPX:=am (HBO.out.par.parts _ hmem).2.2
     have HA2:=am (agesL_snoc (stirs:=stirs) (Y:=Y) (b:=b) hlt)
     rw [HA.out] at HA2
     obtain ⟨y,hy⟩ : ∃ y,y = rd_T89 b.f3 (j : Int):=⟨_,rfl⟩
     rw [← hy] at hx0 hx1 hx2 HPX HA2
     clear hmem hy
     have HS6:=am (Kd.C_alloc HS5.out (.cells #[.int .i64 y.f0,.int .i64 y.f1.f0,.int .i64 y.f1.f1] 89))
     have HP5:=am (blk_alloc HP4.out (.cells #[.int .i64 y.f0,.int .i64 y.f1.f0,.int .i64 y.f1.f1] 89))
     have HY3:=am (HY2.out.move (below_alloc (Below.refl _ _) (.cells #[.int .i64 y.f0,.int .i64 y.f1.f0,.int .i64 y.f1.f1] 89)))
     have HX2:=am (blk_alloc HX1.out (.cells #[.int .i64 y.f0,.int .i64 y.f1.f0,.int .i64 y.f1.f1] 89))
     have HT1:=am (blk_alloc HT.out (.cells #[.int .i64 y.f0,.int .i64 y.f1.f0,.int .i64 y.f1.f1] 89))
     have HN1:=am (below_alloc HN.out (.cells #[.int .i64 y.f0,.int .i64 y.f1.f0,.int .i64 y.f1.f1] 89))
     have g0:=bd HP5.out 0
     have g1:=bd HP5.out 1
     have k0:=bd HX2.out 0
     have k1:=bd HX2.out 1
     have k2:=bd HX2.out 2
     have k3:=bd HX2.out 3
     have HD:=am (HDY.out (rd_T84 stirs b.f1) (by rw [List.take_length];exact getD_mem_ (by have:=HBO.out.step0;have:=HBO.out.step1;omega)))
     go_wp2_with fail
     refine (age_calls HY3.out HWF.out HSL.out A rooms.length c A2 c2 stirs HS6.out b (some ae) c3 HBO.out.step0 HBO.out.step1 HD.out y.f0 HPX.out).mono ?_
     rintro e w5 ⟨rfl,hb⟩
     have HT2:=am (blk_below HT1.out hb)
     have HN2:=am (below_then HN1.out (below_size HN1.out) hb)
     obtain ⟨d,hd⟩ : ∃ d,d = ageP stirs Y b y.f0:=⟨_,rfl⟩
     rw [← hd] at HA2 ⊢
     clear hb hd g0 g1 k0 k1 k2 k3 hx0 hx1 hx2
     obtain ⟨m1,hm1⟩ : ∃ m1,m1 = mnP l1 d:=⟨_,rfl⟩
     obtain ⟨m2,hm2⟩ : ∃ m2,m2 = mxP l2 d:=⟨_,rfl⟩
     rw [← hm1,← hm2] at HA2
     have hn1 : (if d < l1 then d else l1) = m1:=hm1.symm
     have hn2 : (if d > l2 then d else l2) = m2:=hm2.symm
     clear hm1 hm2
     have u0:=bd HT2.out 0
     have fu0:=blk_frozen HT2.out 0
     have u1:=bd HT2.out 1
     have fu1:=blk_frozen HT2.out 1
     go_wp2
     go_roundw
     case rel => exact ⟨j + 1,m1,m2,by omega,by go_num,⟨(HN2.out.setCell (by simp) _).setCell (by simp) _⟩,⟨blk_put (cs':=#[.int .i64 m1,.int .i64 m2]) (blk_put (cs':=#[.int .i64 m1,.int .i64 l2]) HT2.out 0 _ rfl) 1 _ rfl⟩,HA2⟩
     case measure => simp [intOf];omega
    ·
     have hje : j = b.f3.length:=by omega
     subst hje
     have hfold:=HA.out
     rw [List.take_length] at hfold
     have HE:=am (show q = ((l1,l2),0) by rw [HQ1.out,hfold])
     clear hfold
     have g0:=bd HT.out 0
     have g1:=bd HT.out 1
     have u0:=bd HR3.out 0
     have fu0:=blk_frozen HR3.out 0
     have u1:=bd HR3.out 1
     have fu1:=blk_frozen HR3.out 1
     go_wp2
     rw [HE.out]
     have bz:=blk_put (cs':=#[.int .i64 l1,.int .i64 l2]) (blk_put (cs':=#[.int .i64 l1,.int .i64 0]) (HR3.out) 0 (.int .i64 l1) rfl) 1 (.int .i64 l2) rfl
     have z0:=bd bz 0
     have z1:=bd bz 1
     exact bodyPost_ret (v:=.tuple #[.agg #[.int .i64 l1,.int .i64 l2],.int .i64 0]) (by simp [results,Tryz.results32,go_sem,z0,z1,hu66]) rfl ⟨rfl,((HB5.out).setCell (p:=⟨W.heap.size + 1,0,none⟩) (by simp) (.int .i64 l1)).setCell (p:=⟨W.heap.size + 1,1,none⟩) (by simp) (.int .i64 l2)⟩
def totalL {α : Type} (g : α → S43) : S43 → List α → Option S43
|acc,[] => some acc
|acc,x :: r => if validP (g x) = true then (if validP (addP acc (g x)) = true then totalL g (addP acc (g x)) r else none) else none
def totalP {α : Type} (g : α → S43) (l : List α) : Option S43:=totalL g (wholeP 0) l
def totalE : Option S43 → Ending
|some r => .returned (.tuple #[.agg #[.int .i64 r.f0,.int .i64 r.f1],.bool true])
|none => .returned (.tuple #[.agg #[.int .i64 0,.int .i64 0],.bool false])
theorem totalL_no1 {α : Type} {g : α → S43} {acc : S43} {x : α} {r : List α} (h : validP (g x) = false) : totalL g acc (x :: r) = none:=by
 simp only [totalL];rw [if_neg (by rw [h];simp)]
theorem totalL_no2 {α : Type} {g : α → S43} {acc : S43} {x : α} {r : List α} (h : validP (addP acc (g x)) = false) : totalL g acc (x :: r) = none:=by
 simp only [totalL];rw [if_neg (c:=validP (addP acc (g x)) = true) (by rw [h];simp)];split <;> rfl
theorem totalL_go {α : Type} {g : α → S43} {acc : S43} {x : α} {r : List α} (h : validP (g x) = true) (h2 : validP (addP acc (g x)) = true) : totalL g acc (x :: r) = totalL g (addP acc (g x)) r:=by
 simp only [totalL];rw [if_pos h,if_pos h2]
theorem add_valid {a b : S43} (ha : validP a = true) (hb : validP b = true) : pit_add.f FU a.f0 a.f1 b.f0 b.f1 = some ((addP a b).f0,(addP a b).f1):=by
 obtain ⟨h1,h2,h3⟩:=validP_ok ha
 obtain ⟨k1,k2,k3⟩:=validP_ok hb
 exact add_some h1 k1 h2 h3 k2 k3
set_option maxRecDepth 100000 in
set_option maxHeartbeats 2000000 in
theorem total86_calls (A : Option Addr) (c : Nat) (l : List S89) (g : S89 → S43) (K : Nat) (caps : Array Value) (Inv : World → Prop) (W : World) (hr : Kd.C k89 W A l.length l) (hc : l.length ≤ c)
  (ek : ∀ args w,(callFunc K args).run Tryz.prog w = .ok (.enter K args) w) (hi0 : Inv W) (hi1 : ∀ w w',Inv w → Below w.heap.size w w' → Inv w')
  (hcl : ∀ (x : S89) (w : World),x ∈ l → Inv w → Calls Tryz.prog K (#[.agg #[.int .i64 x.f0,.int .i64 x.f1.f0,.int .i64 x.f1.f1]] ++ caps) w fun e w' => e = .returned (.agg #[.int .i64 (g x).f0,.int .i64 (g x).f1]) ∧ Below w.heap.size w w') :
  Calls Tryz.prog 86 #[.slice A l.length c,.func (.func K) #[] caps,.func (.func 89) #[] #[]] W fun e W' => e = totalE (totalP g l) ∧ Below W.heap.size W W':=by
 have hu43:=Tryz.underlying43
 have hu89:=Tryz.underlying89
 have ek89 : ∀ args w,(callFunc 89 args).run Tryz.prog w = .ok (.enter 89 args) w:=enters_of Tryz.func89 kr rfl
 have hm:=hr.2.1
 have HCL:=am hcl
 have HJ:=am hi1
 have HC:=am (hr)
 have HB:=am (Below.refl W.heap.size W)
 have HI:=am (hi1 _ _ hi0 (below_alloc (Below.refl W.heap.size W) (.cells #[.int .i64 0,.int .i64 0] 43)))
 have HC1:=am (Kd.C_alloc HC.out (.cells #[.int .i64 0,.int .i64 0] 43))
 have HB1:=am (below_alloc HB.out (.cells #[.int .i64 0,.int .i64 0] 43))
 have HR:=am (blk_new W (.cells #[.int .i64 0,.int .i64 0] 43))
 obtain ⟨q,hq⟩ : ∃ q,q = totalP g l:=⟨_,rfl⟩
 rw [← hq]
 have HQ:=am hq
 clear hq hr hc hcl hi0 hi1
 go_enter Tryz.func86,Tryz.ntmps86
 go_wp2_with fail
 refine (pit_whole.calls 0 0 1 _ rfl).mono ?_
 rintro e w1 ⟨rfl,hb⟩
 have HC2:=am (Kd.C_below HC1.out hb)
 have HB2:=am (below_then HB1.out (below_size HB1.out) hb)
 have HR1:=am (blk_below HR.out hb)
 have HI1:=am (HJ.out _ _ HI.out hb)
 clear hb
 go_wp2
 go_loopw [15] (fun v15 wr => ∃ (j : Nat) (a : S43),j ≤ l.length ∧ v15 = .int .i64 (j : Int) ∧ Aside0 (Below w1.heap.size w1 wr) ∧ Aside0 (wr.heap[w1.heap.size]? = some (.cells #[.int .i64 a.f0,.int .i64 a.f1] 43 (0,0))) ∧ Aside0 (q = totalL g a (l.drop j)) ∧ Aside0 (validP a = true)) (fun v15 _ => l.length - (intOf v15).toNat)
 case atStart => exact ⟨0,wholeP 0,Nat.zero_le _,rfl,⟨below_alloc (Below.refl _ _) _⟩,⟨blk_new _ _⟩,⟨by rw [HQ.out];rfl⟩,⟨rfl⟩⟩
 case round =>
  obtain ⟨j,a,hj,rfl,HN,HT,HA,HV⟩:=hrel
  by_cases hlt : j < l.length
  ·
   obtain ⟨ae,e,hx0,hx1,hx2⟩:=at_T89 (Kd.C_below HC2.out HN.out) (j : Int) (by omega) (by omega)
   cases e
   rw [Int.toNat_natCast] at hx0 hx1 hx2
   have hmem : rd_T89 l (j : Int) ∈ l:=getD_mem_ hlt
   have HD:=am (show l.drop j = rd_T89 l (j : Int) :: l.drop (j + 1) by rw [List.drop_eq_getElem_cons hlt];unfold rd_T89;rw [Int.toNat_natCast,List.getD_eq_getElem?_getD,List.getElem?_eq_getElem hlt];rfl)
   have HCX:=am (HCL.out (rd_T89 l (j : Int)) (wr.alloc (.cells #[.int .i64 (rd_T89 l (j : Int)).f0,.int .i64 (rd_T89 l (j : Int)).f1.f0,.int .i64 (rd_T89 l (j : Int)).f1.f1] 89)) hmem (HJ.out _ _ HI1.out (below_alloc HN.out _)))
   obtain ⟨x,hx⟩ : ∃ x,x = rd_T89 l (j : Int):=⟨_,rfl⟩
   rw [← hx] at hx0 hx1 hx2 HCX HD
   clear hmem hx
   rw [HD.out] at HA
   obtain ⟨y,hy⟩ : ∃ y,y = g x:=⟨_,rfl⟩
   rw [← hy] at HCX
   have HY:=am hy
   clear hy
   have HT1:=am (blk_alloc HT.out (.cells #[.int .i64 x.f0,.int .i64 x.f1.f0,.int .i64 x.f1.f1] 89))
   have HN1:=am (below_alloc HN.out (.cells #[.int .i64 x.f0,.int .i64 x.f1.f0,.int .i64 x.f1.f1] 89))
   go_wp2_with fail
   refine HCX.out.mono ?_
   rintro e w5 ⟨rfl,hb⟩
   have HT2:=am (blk_below HT1.out hb)
   have HN2:=am (below_then HN1.out (below_size HN1.out) hb)
   have HT3:=am (blk_alloc HT2.out (.cells #[.int .i64 y.f0,.int .i64 y.f1] 43))
   have HN3:=am (below_alloc HN2.out (.cells #[.int .i64 y.f0,.int .i64 y.f1] 43))
   have HE:=am (blk_new w5 (.cells #[.int .i64 y.f0,.int .i64 y.f1] 43))
   clear hb hx0 hx1 hx2
   obtain ⟨k1,hk1⟩ : ∃ k1,k1 = validP y:=⟨_,rfl⟩
   have HV1:=am (show pit_valid.f FU y.f0 y.f1 = some k1 by rw [hk1];exact valid_some y)
   have HK1:=am hk1
   clear hk1
   go_wp2_with fail
   refine (pit_valid.calls FU _ _ _ _ HV1.out).mono ?_
   rintro e w6 ⟨rfl,hb⟩
   have HT4:=am (blk_below HT3.out hb)
   have HN4:=am (below_then HN3.out (below_size HN3.out) hb)
   have HE1:=am (blk_below HE.out hb)
   clear hb
   cases k1 with
  |false =>
    have HR9:=am (blk_below HR1.out HN4.out)
    have HB9:=am (below_then HB2.out (below_size HB2.out) HN4.out)
    have u0:=bd HR9.out 0
    have fu0:=blk_frozen HR9.out 0
    have u1:=bd HR9.out 1
    have fu1:=blk_frozen HR9.out 1
    go_wp2
    rw [show q = none from by rw [HA.out];exact totalL_no1 (by rw [← HY.out];exact HK1.out.symm)]
    have bz:=blk_put (cs':=#[.int .i64 0,.int .i64 0]) (blk_put (cs':=#[.int .i64 0,.int .i64 0]) (HR9.out) 0 (.int .i64 0) rfl) 1 (.int .i64 0) rfl
    have z0:=bd bz 0
    have z1:=bd bz 1
    exact bodyPost_ret (v:=.tuple #[.agg #[.int .i64 0,.int .i64 0],.bool false]) (by simp [results,Tryz.results86,go_sem,z0,z1,hu43]) rfl ⟨rfl,((HB9.out).setCell (p:=⟨W.heap.size,0,none⟩) (by simp) (.int .i64 0)).setCell (p:=⟨W.heap.size,1,none⟩) (by simp) (.int .i64 0)⟩
  |true =>
    have HAD:=am (add_valid HV.out HK1.out.symm)
    obtain ⟨s,hs⟩ : ∃ s,s = addP a y:=⟨_,rfl⟩
    rw [← hs] at HAD
    have HS:=am hs
    clear hs
    have g0:=bd HT4.out 0
    have g1:=bd HT4.out 1
    have k0:=bd HE1.out 0
    have k1:=bd HE1.out 1
    go_wp2_with fail
    refine (pit_add.calls FU _ _ _ _ _ _ _ HAD.out).mono ?_
    rintro e w7 ⟨rfl,hb⟩
    have HT5:=am (blk_below HT4.out hb)
    have HN5:=am (below_then HN4.out (below_size HN4.out) hb)
    clear hb g0 g1 k0 k1
    have u0:=bd HT5.out 0
    have fu0:=blk_frozen HT5.out 0
    have u1:=bd HT5.out 1
    have fu1:=blk_frozen HT5.out 1
    obtain ⟨k2,hk2⟩ : ∃ k2,k2 = validP s:=⟨_,rfl⟩
    have HV2:=am (show pit_valid.f FU s.f0 s.f1 = some k2 by rw [hk2];exact valid_some s)
    have HK2:=am hk2
    clear hk2
    have HN6:=am (((HN5.out).setCell (p:=⟨w1.heap.size,0,none⟩) (by simp) (.int .i64 s.f0)).setCell (p:=⟨w1.heap.size,1,none⟩) (by simp) (.int .i64 s.f1))
    have HT6:=am (blk_put (cs':=#[.int .i64 s.f0,.int .i64 s.f1]) (blk_put (cs':=#[.int .i64 s.f0,.int .i64 a.f1]) (HT5.out) 0 (.int .i64 s.f0) rfl) 1 (.int .i64 s.f1) rfl)
    go_wp2_with fail
    refine (pit_valid.calls FU _ _ _ _ HV2.out).mono ?_
    rintro e w8 ⟨rfl,hb⟩
    have HT7:=am (blk_below HT6.out hb)
    have HN7:=am (below_then HN6.out (below_size HN6.out) hb)
    clear hb u0 u1 fu0 fu1
    cases k2 with
   |false =>
     have HR9:=am (blk_below HR1.out HN7.out)
     have HB9:=am (below_then HB2.out (below_size HB2.out) HN7.out)
     have u0:=bd HR9.out 0
     have fu0:=blk_frozen HR9.out 0
     have u1:=bd HR9.out 1
     have fu1:=blk_frozen HR9.out 1
     go_wp2
     rw [show q = none from by rw [HA.out];exact totalL_no2 (by rw [← HY.out,← HS.out];exact HK2.out.symm)]
     have bz:=blk_put (cs':=#[.int .i64 0,.int .i64 0]) (blk_put (cs':=#[.int .i64 0,.int .i64 0]) (HR9.out) 0 (.int .i64 0) rfl) 1 (.int .i64 0) rfl
     have z0:=bd bz 0
     have z1:=bd bz 1
     exact bodyPost_ret (v:=.tuple #[.agg #[.int .i64 0,.int .i64 0],.bool false]) (by simp [results,Tryz.results86,go_sem,z0,z1,hu43]) rfl ⟨rfl,((HB9.out).setCell (p:=⟨W.heap.size,0,none⟩) (by simp) (.int .i64 0)).setCell (p:=⟨W.heap.size,1,none⟩) (by simp) (.int .i64 0)⟩
   |true =>
     go_wp2
     go_roundw
     case rel => exact ⟨j + 1,s,by omega,by go_num,HN7,HT7,⟨by rw [HA.out,HS.out,HY.out];exact totalL_go (by rw [← HY.out];exact HK1.out.symm) (by rw [← HY.out,← HS.out];exact HK2.out.symm)⟩,⟨HK2.out.symm⟩⟩
     case measure => simp [intOf];omega
  ·
   have HE:=am (show q = some a by rw [HA.out,List.drop_eq_nil_of_le (by omega)];rfl)
   have HR9:=am (blk_below HR1.out HN.out)
   have HB9:=am (below_then HB2.out (below_size HB2.out) HN.out)
   have g0:=bd HT.out 0
   have g1:=bd HT.out 1
   have u0:=bd HR9.out 0
   have fu0:=blk_frozen HR9.out 0
   have u1:=bd HR9.out 1
   have fu1:=blk_frozen HR9.out 1
   go_wp2
   rw [HE.out]
   have bz:=blk_put (cs':=#[.int .i64 a.f0,.int .i64 a.f1]) (blk_put (cs':=#[.int .i64 a.f0,.int .i64 0]) (HR9.out) 0 (.int .i64 a.f0) rfl) 1 (.int .i64 a.f1) rfl
   have z0:=bd bz 0
   have z1:=bd bz 1
   exact bodyPost_ret (v:=.tuple #[.agg #[.int .i64 a.f0,.int .i64 a.f1],.bool true]) (by simp [results,Tryz.results86,go_sem,z0,z1,hu43]) rfl ⟨rfl,((HB9.out).setCell (p:=⟨W.heap.size,0,none⟩) (by simp) (.int .i64 a.f0)).setCell (p:=⟨W.heap.size,1,none⟩) (by simp) (.int .i64 a.f1)⟩
def R108_1.T : Bool × List (List Nat × List Nat):=(true,[([],[]),([],[]),([],[]),([],[]),([3],[3]),([0,1,2,4],[0,1,2,4]),([],[]),([5,6],[5,6]),([7,5,0,1,2,3,4,5,6,7],[7])])
def R108_1.B : List Nat:=[0,0,0,0,8,31,0,127,255]
theorem R108_1.tab : rtab .any (opsOf Tryz.f108 1) = R108_1.T:=by kernel_rfl
theorem R108_1.bits : waitsOk R108_1.T.2 R108_1.B = true:=by kernel_rfl
theorem R_of_ft {W w : World} {okf ok : Nat → Prop} {N : Nat} {v : Value} {l : List S89} (h : (ft k89 W okf).R 89 w N ok v l) : k89.R 89 w N ok v l :=
 ⟨h.1,h.2.imp_ (fun x cs (hp : Kd.FK k89 W okf x cs) => by
  obtain rfl:=k89_open (Foot.now hp)
  exact k89_mkM _ _ _ x)⟩
def ripeE (stirs : List S84) (r : Except (Int × Int) Yd) (id days : Int) : S43 × Int:=match r with
|.error x => (⟨0,0⟩,x.1)
|.ok Y => if inP days 0 682 = true then (match Y.barrows.find? (isId id) with
 |none => (⟨0,0⟩,5)
 |some b => (match totalP (·.f1) (b.f3.filter (fun x => !decide (ageP stirs Y b x.f0 < days))) with
  |none => (⟨0,0⟩,3)
  |some n => resultP (timesP n 1 b.f2))) else (⟨0,0⟩,1)
theorem times_valid {a : S43} (h : validP a = true) {n m : Int} (hn : 0 ≤ n) (hn2 : n ≤ 16384) (hm : 1 ≤ m) (hm2 : m ≤ 16384) : pit_times.f FU a.f0 a.f1 n m = some ((timesP a n m).f0,(timesP a n m).f1):=by
 obtain ⟨h1,h2,h3⟩:=validP_ok h
 exact times_some h1 h2 h3 hn hn2 hm hm2
theorem totalL_valid {α : Type} {g : α → S43} : ∀ {l : List α} {acc r : S43},validP acc = true → totalL g acc l = some r → validP r = true
|[],acc,r,ha,h => by simp only [totalL,Option.some.injEq] at h;subst h;exact ha
|x :: l,acc,r,ha,h => by
  simp only [totalL] at h
  split at h
  ·split at h
   ·rename_i h2;exact totalL_valid h2 h
   ·cases h
  ·cases h
theorem totalP_valid {α : Type} {g : α → S43} {l : List α} {r : S43} (h : totalP g l = some r) : validP r = true:=totalL_valid (acc:=wholeP 0) (by decide) h
set_option maxRecDepth 100000 in
set_option maxHeartbeats 2000000 in
theorem cl109_calls (x : S89) (w : World) : Calls Tryz.prog 109 (#[.agg #[.int .i64 x.f0,.int .i64 x.f1.f0,.int .i64 x.f1.f1]] ++ #[]) w fun e w' => e = .returned (.agg #[.int .i64 x.f1.f0,.int .i64 x.f1.f1]) ∧ Below w.heap.size w w':=by
 have hu89:=Tryz.underlying89
 have hu43:=Tryz.underlying43
 go_enter Tryz.func109,Tryz.ntmps109
 go_wp2
 have HB:=am (Below.refl w.heap.size w)
 have HB1:=am (below_alloc HB.out (.cells #[.int .i64 x.f0,.int .i64 x.f1.f0,.int .i64 x.f1.f1] 89))
 have HB2:=am (below_alloc HB1.out (.cells #[.int .i64 x.f1.f0,.int .i64 x.f1.f1] 43))
 have HR:=am (blk_new' (w.alloc (.cells #[.int .i64 x.f0,.int .i64 x.f1.f0,.int .i64 x.f1.f1] 89)) (.cells #[.int .i64 x.f1.f0,.int .i64 x.f1.f1] 43) (w.heap.size + 1) (by simp))
 have z0:=bd HR.out 0
 have z1:=bd HR.out 1
 exact bodyPost_ret (v:=.agg #[.int .i64 x.f1.f0,.int .i64 x.f1.f1]) (by simp [results,Tryz.results109,go_sem,z0,z1,hu43]) rfl ⟨rfl,HB2.out⟩
set_option maxRecDepth 100000 in
set_option maxHeartbeats 2000000 in
theorem cl108_calls {w : World} {base n : Nat} {L : Loc} {Y : Yd} (hY : YardAt w base L Y) (hw : Wf n Y) (hn : n ≤ 60) (A : Option Addr) (R c : Nat) (A2 : Option Addr) (c2 : Nat) (stirs : List S84) (hS : Kd.C k84 w A2 stirs.length stirs) (b : S167) (A3 : Option Addr) (c3 : Nat) (hb0 : 0 ≤ b.f1) (hb1 : b.f1 < stirs.length) (hday : 0 ≤ (rd_T84 stirs b.f1).f2 ∧ (rd_T84 stirs b.f1).f2 ≤ 682) (days : Int) (gy gp gb gd : Nat)
  (hgy : w.heap[gy]? = some (.cells #[.pointer (some ⟨L.g,0,none⟩)] 159 (0,0))) (hgp : w.heap[gp]? = some (.cells #[.slice A R c,.slice A2 stirs.length c2] 32 (0,0))) (hgb : w.heap[gb]? = some (.cells #[.int .i64 b.f0,.int .i64 b.f1,.int .i64 b.f2,.slice A3 b.f3.length c3] 167 (0,0))) (hgd : w.heap[gd]? = some (.cells #[.int .i64 days] 3 (0,0))) (x : S89) (hp : x.f0 ∈ Y.pours) :
  Calls Tryz.prog 108 (#[.agg #[.int .i64 x.f0,.int .i64 x.f1.f0,.int .i64 x.f1.f1]] ++ #[.pointer (some ⟨gy,0,none⟩),.pointer (some ⟨gp,0,none⟩),.pointer (some ⟨gb,0,none⟩),.pointer (some ⟨gd,0,none⟩)]) w fun e w' => e = .returned (.bool (decide (ageP stirs Y b x.f0 < days))) ∧ Below w.heap.size w w':=by
 have hu32:=Tryz.underlying32
 have hu167:=Tryz.underlying167
 have hu89:=Tryz.underlying89
 have hu43:=Tryz.underlying43
 have HG:=am (hgy)
 have HP:=am (hgp)
 have HK:=am (hgb)
 have HD:=am (hgd)
 have HY:=am (hY)
 have HS:=am (hS)
 have HB:=am (Below.refl w.heap.size w)
 have HG1:=am (blk_alloc HG.out (.cells #[.int .i64 x.f0,.int .i64 x.f1.f0,.int .i64 x.f1.f1] 89))
 have HP1:=am (blk_alloc HP.out (.cells #[.int .i64 x.f0,.int .i64 x.f1.f0,.int .i64 x.f1.f1] 89))
 have HK1:=am (blk_alloc HK.out (.cells #[.int .i64 x.f0,.int .i64 x.f1.f0,.int .i64 x.f1.f1] 89))
 have HD1:=am (blk_alloc HD.out (.cells #[.int .i64 x.f0,.int .i64 x.f1.f0,.int .i64 x.f1.f1] 89))
 have HY1:=am (HY.out.move (below_alloc (Below.refl _ _) (.cells #[.int .i64 x.f0,.int .i64 x.f1.f0,.int .i64 x.f1.f1] 89)))
 have HS1:=am (Kd.C_alloc HS.out (.cells #[.int .i64 x.f0,.int .i64 x.f1.f0,.int .i64 x.f1.f1] 89))
 have HB1:=am (below_alloc HB.out (.cells #[.int .i64 x.f0,.int .i64 x.f1.f0,.int .i64 x.f1.f1] 89))
 have HX:=am (blk_new w (.cells #[.int .i64 x.f0,.int .i64 x.f1.f0,.int .i64 x.f1.f1] 89))
 have HG2:=am (blk_drew HG1.out)
 have HP2:=am (blk_drew HP1.out)
 have HK2:=am (blk_drew HK1.out)
 have HD2:=am (blk_drew HD1.out)
 have HY2:=am (HY1.out.move (below_drew (Below.refl _ _)))
 have HS2:=am (Kd.C_drew HS1.out)
 have HB2:=am (below_drew HB1.out)
 have HX1:=am (blk_drew HX.out)
 have HWF:=am hw
 have HDAY:=am hday
 have HPR:=am hp
 clear hgy hgp hgb hgd hY hS hw hday hp
 go_enter Tryz.func108,Tryz.ntmps108
 go_wp2
 refine start_ (n:=9) (S:=fun w' => w'.cell? ⟨gy,0,none⟩ = some (.pointer (some ⟨L.g,0,none⟩)) ∧ w'.cell? ⟨gp,0,none⟩ = some (.slice A R c) ∧ w'.cell? ⟨gp,1,none⟩ = some (.slice A2 stirs.length c2) ∧ w'.cell? ⟨gb,0,none⟩ = some (.int .i64 b.f0) ∧ w'.cell? ⟨gb,1,none⟩ = some (.int .i64 b.f1) ∧ w'.cell? ⟨gb,2,none⟩ = some (.int .i64 b.f2) ∧ w'.cell? ⟨gb,3,none⟩ = some (.slice A3 b.f3.length c3) ∧ w'.cell? ⟨w.heap.size,0,none⟩ = some (.int .i64 x.f0) ∧ w'.cell? ⟨gd,0,none⟩ = some (.int .i64 days)) (ds:=[]) (ab 9 0) kr rfl kr ⟨(blk_cell HG2.out 0).trans rfl,(blk_cell HP2.out 0).trans rfl,(blk_cell HP2.out 1).trans rfl,(blk_cell HK2.out 0).trans rfl,(blk_cell HK2.out 1).trans rfl,(blk_cell HK2.out 2).trans rfl,(blk_cell HK2.out 3).trans rfl,(blk_cell HX1.out 0).trans rfl,(blk_cell HD2.out 0).trans rfl⟩ (fun hHeld => ?_);refine with_tabW R108_1.tab R108_1.bits (fun HT_ HW_ => ?_)
 generalize ((w.alloc (.cells #[.int .i64 x.f0,.int .i64 x.f1.f0,.int .i64 x.f1.f1] 89))).drew = wd at HG2 HP2 HK2 HD2 HY2 HS2 HB2 HX1 hHeld ⊢
 refine qT 0 (some 7) ?_;refine qT 1 (some 8) ?_;refine qT 2 (some 9) ?_;refine qA 3 (some 10) ?_;refine qT 4 (some 11) ?_;refine qT 6 (some 13) ?_
 refine qE 5 (some 12) fun K hK => ?_
 refine gC Tryz.func104 #[.pointer (some ⟨L.g,0,none⟩),.agg #[.slice A R c,.slice A2 stirs.length c2],.agg #[.int .i64 b.f0,.int .i64 b.f1,.int .i64 b.f2,.slice A3 b.f3.length c3],.int .i64 x.f0] ?_
 refine (age_calls HY2.out HWF.out hn A R c A2 c2 stirs HS2.out b A3 c3 hb0 hb1 HDAY.out x.f0 HPR.out).mono ?_
 rintro e w1 ⟨rfl,hb⟩
 have HG3:=am (blk_below HG2.out hb)
 have HP3:=am (blk_below HP2.out hb)
 have HK3:=am (blk_below HK2.out hb)
 have HD3:=am (blk_below HD2.out hb)
 have HB3:=am (below_then HB2.out (below_size HB2.out) hb)
 have HX2:=am (blk_below HX1.out hb)
 clear hb
 refine ⟨_,rfl,?_⟩
 refine hK.out _ _ ⟨(blk_cell HG3.out 0).trans rfl,(blk_cell HP3.out 0).trans rfl,(blk_cell HP3.out 1).trans rfl,(blk_cell HK3.out 0).trans rfl,(blk_cell HK3.out 1).trans rfl,(blk_cell HK3.out 2).trans rfl,(blk_cell HK3.out 3).trans rfl,(blk_cell HX2.out 0).trans rfl,(blk_cell HD3.out 0).trans rfl⟩ (fun hHeld => ?_)
 clear hK K
 refine qN (some 12) ?_
 refine qA 7 (some 14) ?_;refine qA 8 (some 6) ?_
 refine done_ (done_of HT_.out kr) ?_
 go_wp2
 go_ret
 exact ⟨rfl,HB3.out⟩
set_option maxRecDepth 100000 in
set_option maxHeartbeats 2000000 in
theorem ripe_calls (A A2 : Option Addr) (c c2 : Nat) (rooms : List Int) (stirs : List S84) (W : World) (lo : Nat) (hlo : lo ≤ W.heap.size) (hC : Kd.F (Kd.int .i64) W (fun k => k < lo) A rooms.length rooms) (hc : rooms.length ≤ c) (hS : Kd.C k84 W A2 stirs.length stirs) (hc2 : stirs.length ≤ c2) (id days : Int) :
  Calls Tryz.prog 34 #[.agg #[.slice A rooms.length c,.slice A2 stirs.length c2],.int .i64 id,.int .i64 days] W fun e W' => e = .returned (.tuple #[.agg #[.int .i64 (ripeE stirs (playedP rooms stirs stirs.length) id days).1.f0,.int .i64 (ripeE stirs (playedP rooms stirs stirs.length) id days).1.f1],.int .i64 (ripeE stirs (playedP rooms stirs stirs.length) id days).2]) ∧ Below W.heap.size W W':=by
 have hu:=Tryz.underlying32
 have hu167:=Tryz.underlying167
 have hu43:=Tryz.underlying43
 have hmf : ∀ (fn : Fn) (first cap : Array Value) (w : World),(Instr.makeFunc fn first cap).run Tryz.prog w = .ok (.func fn first cap) w:=fun _ _ _ _ => rfl
 have HC:=am (hC)
 have HS:=am (hS)
 have HB:=am (Below.refl W.heap.size W)
 have HC1:=am (Kd.F_alloc HC.out (.cells #[.slice A rooms.length c,.slice A2 stirs.length c2] 32))
 have HS1:=am (Kd.C_alloc HS.out (.cells #[.slice A rooms.length c,.slice A2 stirs.length c2] 32))
 have HB1:=am (below_alloc HB.out (.cells #[.slice A rooms.length c,.slice A2 stirs.length c2] 32))
 have HP:=am (blk_new W (.cells #[.slice A rooms.length c,.slice A2 stirs.length c2] 32))
 have HC2:=am (Kd.F_alloc HC1.out (.cells #[.int .i64 days] 3))
 have HS2:=am (Kd.C_alloc HS1.out (.cells #[.int .i64 days] 3))
 have HB2:=am (below_alloc HB1.out (.cells #[.int .i64 days] 3))
 have HP1:=am (blk_alloc HP.out (.cells #[.int .i64 days] 3))
 have HD:=am (blk_new' (W.alloc (.cells #[.slice A rooms.length c,.slice A2 stirs.length c2] 32)) (.cells #[.int .i64 days] 3) (W.heap.size + 1) (by simp))
 have HC3:=am (Kd.F_alloc HC2.out (.cells #[.int .i64 0,.int .i64 0] 43))
 have HS3:=am (Kd.C_alloc HS2.out (.cells #[.int .i64 0,.int .i64 0] 43))
 have HB3:=am (below_alloc HB2.out (.cells #[.int .i64 0,.int .i64 0] 43))
 have HP2:=am (blk_alloc HP1.out (.cells #[.int .i64 0,.int .i64 0] 43))
 have HD1:=am (blk_alloc HD.out (.cells #[.int .i64 0,.int .i64 0] 43))
 have HR:=am (blk_new' ((W.alloc (.cells #[.slice A rooms.length c,.slice A2 stirs.length c2] 32)).alloc (.cells #[.int .i64 days] 3)) (.cells #[.int .i64 0,.int .i64 0] 43) (W.heap.size + 1 + 1) (by simp))
 clear hC hS
 obtain ⟨r,hr⟩ : ∃ r,r = playedP rooms stirs stirs.length:=⟨_,rfl⟩
 rw [← hr]
 have HQP:=am hr.symm
 clear hr
 obtain ⟨q,hq⟩ : ∃ q,q = ripeE stirs r id days:=⟨_,rfl⟩
 rw [← hq]
 have HQ:=am hq
 clear hq
 go_enter Tryz.func34,Tryz.ntmps34
 go_wp2_with fail
 refine (check_calls A A2 c c2 rooms stirs _ lo (Nat.le_trans hlo (by simp;omega)) HC3.out hc HS3.out hc2).mono ?_
 rintro e w1 ⟨rfl,hb⟩
 rw [HQP.out]
 have HC4:=am (Kd.F_below HC3.out hb)
 have HS4:=am (Kd.C_below HS3.out hb)
 have HB4:=am (below_then HB3.out (below_size HB3.out) hb)
 have HP3:=am (blk_below HP2.out hb)
 have HD2:=am (blk_below HD1.out hb)
 have HR1:=am (blk_below HR.out hb)
 clear hb
 cases r with
|error x =>
  have hx : ¬ x.1 = 0:=playedP_code HQP.out
  rw [show codeOf (.error x) = x from rfl]
  have HE:=am (show q = (⟨0,0⟩,x.1) by rw [HQ.out];rfl)
  have u0:=bd HR1.out 0
  have fu0:=blk_frozen HR1.out 0
  have u1:=bd HR1.out 1
  have fu1:=blk_frozen HR1.out 1
  go_wp2
  rw [HE.out]
  have bz:=blk_put (cs':=#[.int .i64 0,.int .i64 0]) (blk_put (cs':=#[.int .i64 0,.int .i64 0]) (HR1.out) 0 (.int .i64 0) rfl) 1 (.int .i64 0) rfl
  have z0:=bd bz 0
  have z1:=bd bz 1
  exact bodyPost_ret (v:=.tuple #[.agg #[.int .i64 0,.int .i64 0],.int .i64 x.1]) (by simp [results,Tryz.results34,go_sem,z0,z1,hu43]) rfl ⟨rfl,((HB4.out).setCell (p:=⟨W.heap.size + 1 + 1,0,none⟩) (by first|(simp;done)|(simp;omega)) (.int .i64 0)).setCell (p:=⟨W.heap.size + 1 + 1,1,none⟩) (by first|(simp;done)|(simp;omega)) (.int .i64 0)⟩
|ok Y =>
  rw [show codeOf (.ok Y) = (0,0) from rfl]
  obtain ⟨k,hk⟩ : ∃ k,k = inP days 0 682:=⟨_,rfl⟩
  have HK:=am hk
  have HWI:=am (show pit_within.f days 0 682 = some k by rw [within_some,hk];rfl)
  clear hk
  have g0:=bd HD2.out 0
  go_wp2_with fail
  refine (pit_within.calls _ _ _ _ _ HWI.out).mono ?_
  rintro e w2 ⟨rfl,m,rfl⟩
  have HC5:=am (Kd.F_drewN HC4.out m)
  have HS5:=am (Kd.C_drewN HS4.out m)
  have HB5:=am (pw_below_drewN HB4.out m)
  have HP4:=am (blk_drewN HP3.out m)
  have HD3:=am (blk_drewN HD2.out m)
  have HR2:=am (blk_drewN HR1.out m)
  clear g0
  generalize w1.drewN m = w2 at HC5 HS5 HB5 HP4 HD3 HR2 ⊢
  cases k with
 |false =>
   have HE:=am (show q = (⟨0,0⟩,1) by rw [HQ.out];unfold ripeE;simp only [← HK.out];rfl)
   have u0:=bd HR2.out 0
   have fu0:=blk_frozen HR2.out 0
   have u1:=bd HR2.out 1
   have fu1:=blk_frozen HR2.out 1
   go_wp2
   rw [HE.out]
   have bz:=blk_put (cs':=#[.int .i64 0,.int .i64 0]) (blk_put (cs':=#[.int .i64 0,.int .i64 0]) (HR2.out) 0 (.int .i64 0) rfl) 1 (.int .i64 0) rfl
   have z0:=bd bz 0
   have z1:=bd bz 1
   exact bodyPost_ret (v:=.tuple #[.agg #[.int .i64 0,.int .i64 0],.int .i64 1]) (by simp [results,Tryz.results34,go_sem,z0,z1,hu43]) rfl ⟨rfl,((HB5.out).setCell (p:=⟨W.heap.size + 1 + 1,0,none⟩) (by first|(simp;done)|(simp;omega)) (.int .i64 0)).setCell (p:=⟨W.heap.size + 1 + 1,1,none⟩) (by first|(simp;done)|(simp;omega)) (.int .i64 0)⟩
 |true =>
   have HQ1:=am (show q = (match Y.barrows.find? (isId id) with|none => (⟨0,0⟩,5)|some b => (match totalP (·.f1) (b.f3.filter (fun x => !decide (ageP stirs Y b x.f0 < days))) with|none => (⟨0,0⟩,3)|some n => resultP (timesP n 1 b.f2))) by rw [HQ.out];unfold ripeE;exact if_pos HK.out.symm)
   have g0:=bd HP4.out 0
   have g1:=bd HP4.out 1
   go_wp2_with fail
   refine (barrowOf_calls A A2 c c2 rooms stirs _ lo (Nat.le_trans hlo HB5.out.size) HC5.out hc HS5.out hc2 id).mono ?_
   rintro e w3 ⟨hb,h⟩
   rw [HQP.out] at h
   have HS6:=am (Kd.C_below HS5.out hb)
   have HB6:=am (below_then HB5.out (below_size HB5.out) hb)
   have HP5:=am (blk_below HP4.out hb)
   have HD4:=am (blk_below HD3.out hb)
   have HR3:=am (blk_below HR2.out hb)
   clear hb g0 g1
   cases hf : Y.barrows.find? (isId id) with
  |none =>
    have HE0:=am (show q = (⟨0,0⟩,5) by rw [HQ1.out,hf])
    simp only [hf] at h
    clear hf
    subst h
    have HB7:=am (below_alloc HB6.out (.cells #[.pointer none] 159))
    have HR4:=am (blk_alloc HR3.out (.cells #[.pointer none] 159))
    have HG:=am (blk_new w3 (.cells #[.pointer none] 159))
    have HB8:=am (below_alloc HB7.out (.cells #[.int .i64 0,.int .i64 0,.int .i64 0,.slice none 0 0] 167))
    have HR5:=am (blk_alloc HR4.out (.cells #[.int .i64 0,.int .i64 0,.int .i64 0,.slice none 0 0] 167))
    have HG1:=am (blk_alloc HG.out (.cells #[.int .i64 0,.int .i64 0,.int .i64 0,.slice none 0 0] 167))
    have HX:=am (blk_new' (w3.alloc (.cells #[.pointer none] 159)) (.cells #[.int .i64 0,.int .i64 0,.int .i64 0,.slice none 0 0] 167) (w3.heap.size + 1) (by simp))
    have HE:=am (show q = (⟨0,0⟩,5) by exact HE0.out)
    have u0:=bd HR5.out 0
    have fu0:=blk_frozen HR5.out 0
    have u1:=bd HR5.out 1
    have fu1:=blk_frozen HR5.out 1
    go_wp2
    rw [HE.out]
    have bz:=blk_put (cs':=#[.int .i64 0,.int .i64 0]) (blk_put (cs':=#[.int .i64 0,.int .i64 0]) (HR5.out) 0 (.int .i64 0) rfl) 1 (.int .i64 0) rfl
    have z0:=bd bz 0
    have z1:=bd bz 1
    exact bodyPost_ret (v:=.tuple #[.agg #[.int .i64 0,.int .i64 0],.int .i64 5]) (by simp [results,Tryz.results34,go_sem,z0,z1,hu43]) rfl ⟨rfl,((HB8.out).setCell (p:=⟨W.heap.size + 1 + 1,0,none⟩) (by first|(simp;done)|(simp;omega)) (.int .i64 0)).setCell (p:=⟨W.heap.size + 1 + 1,1,none⟩) (by first|(simp;done)|(simp;omega)) (.int .i64 0)⟩
  |some b =>
    have HF:=am hf
    have HQ2:=am (show q = (match totalP (·.f1) (b.f3.filter (fun x => !decide (ageP stirs Y b x.f0 < days))) with|none => (⟨0,0⟩,3)|some n => resultP (timesP n 1 b.f2)) by rw [HQ1.out,hf])
    simp only [hf] at h
    clear hf
    obtain ⟨L,base,A3,c3,hbase,hbad,rfl,hY,hl3,hF3⟩:=h
    have HWF:=am (played_wf HQP.out)
    have HSL:=am (played_ok HQP.out).2.1
    have HDY:=am (playedP_days HQP.out)
    have HBO:=am (HWF.out.barrows b (List.mem_of_find?_eq_some HF.out))
    have HL3:=am hl3
    have HLEN:=am (show b.f3.length ≤ 60 from HBO.out.par.len)
    have HY:=am (hY)
    have HF3:=am (hF3)
    have HS7:=am (Kd.C_alloc HS6.out (.cells #[.pointer (some ⟨L.g,0,none⟩)] 159))
    have HB7:=am (below_alloc HB6.out (.cells #[.pointer (some ⟨L.g,0,none⟩)] 159))
    have HP6:=am (blk_alloc HP5.out (.cells #[.pointer (some ⟨L.g,0,none⟩)] 159))
    have HD5:=am (blk_alloc HD4.out (.cells #[.pointer (some ⟨L.g,0,none⟩)] 159))
    have HR4:=am (blk_alloc HR3.out (.cells #[.pointer (some ⟨L.g,0,none⟩)] 159))
    have HY1:=am (HY.out.move (below_alloc (Below.refl _ _) (.cells #[.pointer (some ⟨L.g,0,none⟩)] 159)))
    have HF31:=am (Kd.F_alloc HF3.out (.cells #[.pointer (some ⟨L.g,0,none⟩)] 159))
    have HG:=am (blk_new w3 (.cells #[.pointer (some ⟨L.g,0,none⟩)] 159))
    have HS8:=am (Kd.C_alloc HS7.out (.cells #[.int .i64 b.f0,.int .i64 b.f1,.int .i64 b.f2,.slice A3 b.f3.length c3] 167))
    have HB8:=am (below_alloc HB7.out (.cells #[.int .i64 b.f0,.int .i64 b.f1,.int .i64 b.f2,.slice A3 b.f3.length c3] 167))
    have HP7:=am (blk_alloc HP6.out (.cells #[.int .i64 b.f0,.int .i64 b.f1,.int .i64 b.f2,.slice A3 b.f3.length c3] 167))
    have HD6:=am (blk_alloc HD5.out (.cells #[.int .i64 b.f0,.int .i64 b.f1,.int .i64 b.f2,.slice A3 b.f3.length c3] 167))
    have HR5:=am (blk_alloc HR4.out (.cells #[.int .i64 b.f0,.int .i64 b.f1,.int .i64 b.f2,.slice A3 b.f3.length c3] 167))
    have HY2:=am (HY1.out.move (below_alloc (Below.refl _ _) (.cells #[.int .i64 b.f0,.int .i64 b.f1,.int .i64 b.f2,.slice A3 b.f3.length c3] 167)))
    have HF32:=am (Kd.F_alloc HF31.out (.cells #[.int .i64 b.f0,.int .i64 b.f1,.int .i64 b.f2,.slice A3 b.f3.length c3] 167))
    have HG1:=am (blk_alloc HG.out (.cells #[.int .i64 b.f0,.int .i64 b.f1,.int .i64 b.f2,.slice A3 b.f3.length c3] 167))
    have HX:=am (blk_new' (w3.alloc (.cells #[.pointer (some ⟨L.g,0,none⟩)] 159)) (.cells #[.int .i64 b.f0,.int .i64 b.f1,.int .i64 b.f2,.slice A3 b.f3.length c3] 167) (w3.heap.size + 1) (by simp))
    clear hbase hbad hY hl3 hF3
    go_wp2_with fail
    refine (clone97_calls A3 c3 b.f3 _ L.Not HF32.out HL3.out (by have:=HLEN.out;omega)).mono ?_
    rintro e w4 ⟨v,rfl,hb,hR⟩
    have HR4:=am (R_of_ft hR)
    have HBN:=am hb
    clear hb hR
    obtain ⟨wN,hwN⟩ : ∃ wN,wN = ((w3.alloc (.cells #[.pointer (some ⟨L.g,0,none⟩)] 159)).alloc (.cells #[.int .i64 b.f0,.int .i64 b.f1,.int .i64 b.f2,.slice A3 b.f3.length c3] 167)):=⟨_,rfl⟩
    rw [← hwN] at HR4 HBN HS8 HB8 HP7 HD6 HR5 HY2 HF32 HG1 HX
    have HZ1:=am (show W.heap.size ≤ wN.heap.size from HB8.out.size)
    clear hwN
    have HD9:=am (HDY.out (rd_T84 stirs b.f1) (by rw [List.take_length];exact getD_mem_ (by have:=HBO.out.step0;have:=HBO.out.step1;omega)))
    have HCL:=am (fun (x : S89) (w : World) (hx : x ∈ b.f3) (h : Below wN.heap.size wN w) => cl108_calls (HY2.out.move h) HWF.out HSL.out A rooms.length c A2 c2 stirs (Kd.C_below HS8.out h) b A3 c3 HBO.out.step0 HBO.out.step1 HD9.out days w3.heap.size W.heap.size (w3.heap.size + 1) (W.heap.size + 1) (blk_below HG1.out h) (blk_below HP7.out h) (blk_below HX.out h) (blk_below HD6.out h) x (HBO.out.par.parts x hx).2.2)
    have ek108 : ∀ args w,(callFunc 108 args).run Tryz.prog w = .ok (.enter 108 args) w:=enters_of Tryz.func108 kr rfl
    go_wp2_with fail
    refine (del107_calls v b.f3 (fun x => decide (ageP stirs Y b x.f0 < days)) 108 _ (Below wN.heap.size wN) w4 wN.heap.size _ HR4.out HBN.out.size ek108 HBN.out (fun w w' h hb => h.trans hb) HCL.out).mono ?_
    rintro e w5 ⟨hb,A5,c5,rfl,hl5,hC5⟩
    have HB5:=am (HBN.out.trans hb)
    have HC5:=am hC5
    have HL5:=am hl5
    clear hb hl5 hC5
    obtain ⟨ls,hls⟩ : ∃ ls,ls = b.f3.filter (fun x => !decide (ageP stirs Y b x.f0 < days)):=⟨_,rfl⟩
    rw [← hls] at HC5 HL5 HQ2 ⊢
    clear hls HCL
    have ek109 : ∀ args w,(callFunc 109 args).run Tryz.prog w = .ok (.enter 109 args) w:=enters_of Tryz.func109 kr rfl
    go_wp2_with fail
    refine (total86_calls A5 c5 ls (·.f1) 109 #[] (fun _ => True) w5 HC5.out HL5.out ek109 trivial (fun _ _ _ _ => trivial) (fun x w _ _ => cl109_calls x w)).mono ?_
    rintro e w6 ⟨rfl,hb⟩
    have HB6:=am (HB5.out.trans (hb.mono HB5.out.size))
    clear hb
    have HR9:=am (blk_below HR5.out HB6.out)
    have HX9:=am (blk_below HX.out HB6.out)
    have HB9:=am (below_then HB8.out HZ1.out HB6.out)
    cases hto : totalP (·.f1) ls with
   |none =>
     have HE0:=am (show q = (⟨0,0⟩,3) by rw [HQ2.out,hto])
     clear hto
     unfold totalE
     have HR91:=am (blk_alloc HR9.out (.cells #[.int .i64 0,.int .i64 0] 43))
     have HX91:=am (blk_alloc HX9.out (.cells #[.int .i64 0,.int .i64 0] 43))
     have HB91:=am (below_alloc HB9.out (.cells #[.int .i64 0,.int .i64 0] 43))
     have HE:=am (show q = (⟨0,0⟩,3) by exact HE0.out)
     have u0:=bd HR91.out 0
     have fu0:=blk_frozen HR91.out 0
     have u1:=bd HR91.out 1
     have fu1:=blk_frozen HR91.out 1
     go_wp2
     rw [HE.out]
     have bz:=blk_put (cs':=#[.int .i64 0,.int .i64 0]) (blk_put (cs':=#[.int .i64 0,.int .i64 0]) (HR91.out) 0 (.int .i64 0) rfl) 1 (.int .i64 0) rfl
     have z0:=bd bz 0
     have z1:=bd bz 1
     exact bodyPost_ret (v:=.tuple #[.agg #[.int .i64 0,.int .i64 0],.int .i64 3]) (by simp [results,Tryz.results34,go_sem,z0,z1,hu43]) rfl ⟨rfl,((HB91.out).setCell (p:=⟨W.heap.size + 1 + 1,0,none⟩) (by first|(simp;done)|(simp;omega)) (.int .i64 0)).setCell (p:=⟨W.heap.size + 1 + 1,1,none⟩) (by first|(simp;done)|(simp;omega)) (.int .i64 0)⟩
   |some n =>
     have HE:=am (show q = resultP (timesP n 1 b.f2) by rw [HQ2.out,hto])
     have HV:=am (totalP_valid hto)
     clear hto
     unfold totalE
     have HT:=am (times_valid HV.out (n:=1) (m:=b.f2) (by omega) (by omega) HBO.out.lo (by have:=HBO.out.hi;omega))
     obtain ⟨s,hs⟩ : ∃ s,s = timesP n 1 b.f2:=⟨_,rfl⟩
     rw [← hs] at HT HE
     clear hs
     have HRS:=am (result_some s)
     rw [← HE.out] at HRS
     have HR91:=am (blk_alloc HR9.out (.cells #[.int .i64 n.f0,.int .i64 n.f1] 43))
     have HX91:=am (blk_alloc HX9.out (.cells #[.int .i64 n.f0,.int .i64 n.f1] 43))
     have HB91:=am (below_alloc HB9.out (.cells #[.int .i64 n.f0,.int .i64 n.f1] 43))
     have g2:=bd HX91.out 2
     go_wp2_with fail
     refine (pit_times.calls FU _ _ _ _ _ _ _ HT.out).mono ?_
     rintro e w7 ⟨rfl,hb⟩
     have HR92:=am (blk_below HR91.out hb)
     have HB92:=am (below_then HB91.out (below_size HB91.out) hb)
     clear hb g2
     go_wp2_with fail
     refine (pit_result.calls FU _ _ _ _ _ _ HRS.out).mono ?_
     rintro e w8 ⟨rfl,hb⟩
     have HR93:=am (blk_below HR92.out hb)
     have HB93:=am (below_then HB92.out (below_size HB92.out) hb)
     clear hb
     have u0:=bd HR93.out 0
     have fu0:=blk_frozen HR93.out 0
     have u1:=bd HR93.out 1
     have fu1:=blk_frozen HR93.out 1
     go_wp2
     have bz:=blk_put (cs':=#[.int .i64 q.1.f0,.int .i64 q.1.f1]) (blk_put (cs':=#[.int .i64 q.1.f0,.int .i64 0]) (HR93.out) 0 (.int .i64 q.1.f0) rfl) 1 (.int .i64 q.1.f1) rfl
     have z0:=bd bz 0
     have z1:=bd bz 1
     exact bodyPost_ret (v:=.tuple #[.agg #[.int .i64 q.1.f0,.int .i64 q.1.f1],.int .i64 q.2]) (by simp [results,Tryz.results34,go_sem,z0,z1,hu43]) rfl ⟨rfl,((HB93.out).setCell (p:=⟨W.heap.size + 1 + 1,0,none⟩) (by first|(simp;done)|(simp;omega)) (.int .i64 q.1.f0)).setCell (p:=⟨W.heap.size + 1 + 1,1,none⟩) (by first|(simp;done)|(simp;omega)) (.int .i64 q.1.f1)⟩
set_option maxRecDepth 100000 in
set_option maxHeartbeats 1000000 in
theorem idx209_calls (A : Option Addr) (c : Nat) (l : List S113) (p : S113 → Bool) (K : Nat) (caps : Array Value) (Inv : World → Prop) (W : World) (hr : Kd.C k113 W A l.length l) (hc : l.length ≤ c)
  (ek : ∀ args w,(callFunc K args).run Tryz.prog w = .ok (.enter K args) w) (hi0 : Inv W) (hi1 : ∀ w w',Inv w → Below w.heap.size w w' → Inv w')
  (hcl : ∀ (x : S113) (w : World),x ∈ l → Inv w → Calls Tryz.prog K (#[.agg #[.int .i64 x.f0,.int .i64 x.f1.f0,.int .i64 x.f1.f1]] ++ caps) w fun e w' => e = .returned (.bool (p x)) ∧ Below w.heap.size w w') :
  Calls Tryz.prog 209 #[.slice A l.length c,.func (.func K) #[] caps] W fun e W' => e = .returned (.int .i64 (idxP p l)) ∧ Below W.heap.size W W':=by
 have HR:=am hr
 have hm:=hr.2.1
 have HI:=am hi0
 have HJ:=am hi1
 have HCL:=am hcl
 clear hr hc hi0 hi1 hcl
 have hu:=Tryz.underlying113
 have hv:=Tryz.underlying66
 go_enter Tryz.func209,Tryz.ntmps209
 go_wp2
 go_loopw [8] (fun v8 wr => ∃ j : Nat,j ≤ l.length ∧ v8 = .int .i64 (j : Int) ∧ Aside0 (∀ i (hi : i < l.length),i < j → p l[i] = false) ∧ Aside0 (Below W.heap.size W wr)) (fun v8 _ => l.length - (intOf v8).toNat)
 case atStart => exact ⟨0,Nat.zero_le _,rfl,⟨fun i _ hi => absurd hi (Nat.not_lt_zero _)⟩,⟨Below.refl _ _⟩⟩
 case round =>
  obtain ⟨j,hj,rfl,HP,HBw⟩:=hrel
  by_cases hlt : j < l.length
  ·obtain ⟨ad,e,hx0,hx1,hx2⟩:=at_T113 (Kd.C_below HR.out HBw.out) (j : Int) (by omega) (by omega)
   cases e
   rw [Int.toNat_natCast] at hx0 hx1 hx2
   have hx : rd_T113 l (j : Int) = l[j]:=by unfold rd_T113;rw [Int.toNat_natCast,List.getD_eq_getElem?_getD,List.getElem?_eq_getElem hlt];rfl
   have HC:=am (HCL.out (rd_T113 l (j : Int)) wr (by rw [hx];exact List.getElem_mem hlt) (HJ.out _ _ HI.out HBw.out))
   have HX:=am hx
   clear hx
   cases hp : p (rd_T113 l (j : Int)) with
  |true =>
    have HPx:=am hp
    rw [hp] at HC
    clear hp
    go_wp2_with fail
    refine HC.out.mono ?_
    rintro e w' ⟨rfl,hd⟩
    have HD:=am hd
    clear hd
    go_wp2
    go_ret
    exact ⟨by rw [idxP_found hlt (by rw [← HX.out];exact HPx.out) HP.out];rfl,below_then HBw.out (below_size HBw.out) HD.out⟩
  |false =>
    have HPx:=am hp
    rw [hp] at HC
    clear hp
    go_wp2_with fail
    refine HC.out.mono ?_
    rintro e w' ⟨rfl,hd⟩
    have HD:=am hd
    clear hd
    go_wp2
    go_roundw
    case rel =>
     refine ⟨j + 1,by omega,by go_num,⟨fun i hi hij => ?_⟩,⟨below_then HBw.out (below_size HBw.out) HD.out⟩⟩
     by_cases e : i = j
     ·subst e;rw [← HX.out];exact HPx.out
     ·exact HP.out i hi (by omega)
    case measure => simp [intOf];omega
  ·go_wp2
   go_ret
   exact ⟨by rw [idxP_none (fun i hi => HP.out i hi (by omega))];rfl,HBw.out⟩
set_option maxRecDepth 100000 in
theorem has154_calls (A : Option Addr) (c : Nat) (l : List S113) (p : S113 → Bool) (K : Nat) (caps : Array Value) (Inv : World → Prop) (W : World) (hr : Kd.C k113 W A l.length l) (hc : l.length ≤ c)
  (ek : ∀ args w,(callFunc K args).run Tryz.prog w = .ok (.enter K args) w) (hi0 : Inv W) (hi1 : ∀ w w',Inv w → Below w.heap.size w w' → Inv w')
  (hcl : ∀ (x : S113) (w : World),x ∈ l → Inv w → Calls Tryz.prog K (#[.agg #[.int .i64 x.f0,.int .i64 x.f1.f0,.int .i64 x.f1.f1]] ++ caps) w fun e w' => e = .returned (.bool (p x)) ∧ Below w.heap.size w w') :
  Calls Tryz.prog 154 #[.slice A l.length c,.func (.func K) #[] caps] W fun e W' => e = .returned (.bool (l.any p)) ∧ Below W.heap.size W W':=by
 have HC:=am (idx209_calls A c l p K caps Inv W hr hc ek hi0 hi1 hcl)
 clear hr hc hi0 hi1 hcl
 go_enter Tryz.func154,Tryz.ntmps154
 go_wp2_with fail
 refine HC.out.mono ?_
 rintro e w' ⟨rfl,hd⟩
 have HD:=am hd
 clear hd
 go_wp2
 go_ret
 exact ⟨by rw [← idxP_nn];rfl,HD.out⟩
def pit_mille.f (a0_0 : Int) (a0_1 : Int) : Option (Bool):=if 0 ≤ a0_0 then (if a0_0 ≤ a0_1 then (some (decide (a0_1 ≤ 1000))) else (some false)) else (some false)
set_option maxHeartbeats 8000000 in
set_option maxRecDepth 100000 in
theorem pit_mille.calls (a0_0 : Int) (a0_1 : Int) (r : Bool) (w : World) (h : pit_mille.f a0_0 a0_1 = some r) :
  Calls Tryz.prog 153 #[.agg #[.int .i64 a0_0,.int .i64 a0_1]] w fun e w' => e = .returned (.bool r) ∧ Below w.heap.size w w':=by
 have hu66:=Tryz.underlying66
 have HB:=am (Below.refl w.heap.size w)
 have H : (if 0 ≤ a0_0 then (if a0_0 ≤ a0_1 then (some (decide (a0_1 ≤ 1000))) else (some false)) else (some false)) = some r:=h
 clear h
 by_cases c2 : 0 ≤ a0_0
 ·rw [if_pos c2] at H
  have c2b0 : decide (0 ≤ a0_0) = true:=decide_eq_true c2
  clear c2
  by_cases c3 : a0_0 ≤ a0_1
  ·rw [if_pos c3] at H
   have c3b0 : decide (a0_0 ≤ a0_1) = true:=decide_eq_true c3
   clear c3
   obtain rfl:=Option.some.inj H
   go_enter Tryz.func153,Tryz.ntmps153
   go_wp2_with (first|(refine bE 1 #[.int .i64 a0_0,.int .i64 a0_1] 66 ?_;intro gb101 hg w4 hbox hb;have BK101:=am (hbox);have GW101:=am (lg hg (below_size (v0 HB.out)) : w.heap.size ≤ gb101);have GE101:=GW101;replace HB:=am (below_step (v0 HB.out) hb);clear hb hbox hg;have hcz5_0:=bd BK101.out 0;have hcz5_1:=bd BK101.out 1;have hfz5_0:=blk_frozen BK101.out 0;have hfz5_1:=blk_frozen BK101.out 1))
   go_ret
   exact ⟨vf,v1 HB.out GE101.out⟩
  ·rw [if_neg c3] at H
   have c3b0 : decide (a0_0 ≤ a0_1) = false:=decide_eq_false c3
   clear c3
   obtain rfl:=Option.some.inj H
   go_enter Tryz.func153,Tryz.ntmps153
   go_wp2_with (first|(refine bE 1 #[.int .i64 a0_0,.int .i64 a0_1] 66 ?_;intro gb101 hg w6 hbox hb;have BK101:=am (hbox);have GW101:=am (lg hg (below_size (v0 HB.out)) : w.heap.size ≤ gb101);have GE101:=GW101;replace HB:=am (below_step (v0 HB.out) hb);clear hb hbox hg;have hcz7_0:=bd BK101.out 0;have hcz7_1:=bd BK101.out 1;have hfz7_0:=blk_frozen BK101.out 0;have hfz7_1:=blk_frozen BK101.out 1))
   go_ret
   exact ⟨vf,v1 HB.out GE101.out⟩
 ·rw [if_neg c2] at H
  have c2b0 : decide (0 ≤ a0_0) = false:=decide_eq_false c2
  clear c2
  obtain rfl:=Option.some.inj H
  go_enter Tryz.func153,Tryz.ntmps153
  go_wp2_with (first|(refine bE 1 #[.int .i64 a0_0,.int .i64 a0_1] 66 ?_;intro gb101 hg w8 hbox hb;have BK101:=am (hbox);have GW101:=am (lg hg (below_size (v0 HB.out)) : w.heap.size ≤ gb101);have GE101:=GW101;replace HB:=am (below_step (v0 HB.out) hb);clear hb hbox hg;have hcz9_0:=bd BK101.out 0;have hcz9_1:=bd BK101.out 1;have hfz9_0:=blk_frozen BK101.out 0;have hfz9_1:=blk_frozen BK101.out 1))
  go_ret
  exact ⟨vf,v1 HB.out GE101.out⟩
section
def milleP (s : S66) : Bool:=decide (0 ≤ s.f0 ∧ s.f0 ≤ s.f1 ∧ s.f1 ≤ 1000)
theorem mille_some (s : S66) : pit_mille.f s.f0 s.f1 = some (milleP s):=by
 unfold pit_mille.f milleP
 by_cases h1 : 0 ≤ s.f0
 ·rw [if_pos h1]
  by_cases h2 : s.f0 ≤ s.f1
  ·rw [if_pos h2];simp [h1,h2]
  ·rw [if_neg h2];simp [h2]
 ·rw [if_neg h1];simp [h1]
def askL {α : Type} (a : α → Int) (m : α → S66) (known : Int → Bool) : List α → List α → Int
|_,[] => 0
|done,g :: r => if known (a g) = true then (if milleP (m g) = true then (if (done.any fun x => decide (a x = a g)) = true then 6 else askL a m known (done ++ [g]) r) else 1) else 5
section
variable {α : Type} {a : α → Int} {m : α → S66} {known : Int → Bool} {done r : List α} {g : α}
theorem askL_5 (h : known (a g) = false) : askL a m known done (g :: r) = 5:=by simp only [askL];rw [if_neg (by rw [h];simp)]
theorem askL_1 (h : known (a g) = true) (h1 : milleP (m g) = false) : askL a m known done (g :: r) = 1:=by simp only [askL];rw [if_pos h,if_neg (by rw [h1];simp)]
theorem askL_6 (h : known (a g) = true) (h1 : milleP (m g) = true) (h2 : (done.any fun x => decide (a x = a g)) = true) : askL a m known done (g :: r) = 6:=by simp only [askL];rw [if_pos h,if_pos h1,if_pos h2]
theorem askL_go (h : known (a g) = true) (h1 : milleP (m g) = true) (h2 : (done.any fun x => decide (a x = a g)) = false) : askL a m known done (g :: r) = askL a m known (done ++ [g]) r:=by simp only [askL];rw [if_pos h,if_pos h1,if_neg (by rw [h2];simp)]
end
def gradesE (Y : Yd) (l : List S113) : Int:=if l.length ≤ 60 then askL (·.f0) (·.f1) (fun i => decide (i ∈ Y.pours)) [] l else 2
theorem cl155_calls (gx : Nat) (x y : S113) (w : World) (BK : w.heap[gx]? = some (.cells #[.int .i64 x.f0,.int .i64 x.f1.f0,.int .i64 x.f1.f1] 113 (0,0))) :
  Calls Tryz.prog 155 (#[.agg #[.int .i64 y.f0,.int .i64 y.f1.f0,.int .i64 y.f1.f1]] ++ #[.pointer (some ⟨gx,0,none⟩)]) w fun e w' => e = .returned (.bool (decide (y.f0 = x.f0))) ∧ Below w.heap.size w w':=by
 have hu:=Tryz.underlying113
 have hu66:=Tryz.underlying66
 have hc : ∀ o,(w.alloc o).cell? ⟨gx,0,none⟩ = some (.int .i64 x.f0):=fun o => (blk_cell (blk_alloc BK o) 0).trans rfl
 clear BK
 go_enter Tryz.func155,Tryz.ntmps155
 go_wp2
 go_ret
 exact ⟨by simp [beqd],below_alloc (Below.refl _ _) _⟩
theorem drop_rd113 {l : List S113} {j : Nat} (h : j < l.length) : l.drop j = rd_T113 l (j : Int) :: l.drop (j + 1):=by
 rw [List.drop_eq_getElem_cons h];unfold rd_T113;rw [Int.toNat_natCast,List.getD_eq_getElem?_getD,List.getElem?_eq_getElem h];rfl
theorem take_rd113 {l : List S113} {j : Nat} (h : j < l.length) : l.take (j + 1) = l.take j ++ [rd_T113 l (j : Int)]:=by
 rw [List.take_succ_eq_append_getElem h];unfold rd_T113;rw [Int.toNat_natCast,List.getD_eq_getElem?_getD,List.getElem?_eq_getElem h];rfl
set_option maxRecDepth 100000 in
set_option maxHeartbeats 2000000 in
theorem grades_calls {W : World} {base n : Nat} {L : Loc} {Y : Yd} (hY : YardAt W base L Y) (hw : Wf n Y) (hn : n ≤ 60) (A : Option Addr) (c : Nat) (l : List S113) (hr : Kd.C k113 W A l.length l) (hlc : l.length ≤ c) :
  Calls Tryz.prog 84 #[.pointer (some ⟨L.g,0,none⟩),.slice A l.length c] W fun e W' => e = .returned (.int .i64 (gradesE Y l)) ∧ Below W.heap.size W W':=by
 have hu:=Tryz.underlying113
 have hu66:=Tryz.underlying66
 have hu167:=Tryz.underlying167
 have hmf : ∀ (fn : Fn) (first cap : Array Value) (w : World),(Instr.makeFunc fn first cap).run Tryz.prog w = .ok (.func fn first cap) w:=fun _ _ _ _ => rfl
 have hmx:=hr.2.1
 have HW:=am hw
 have HC:=am hr
 have HY:=am hY
 have ekc : ∀ args w,(callFunc 155 args).run Tryz.prog w = .ok (.enter 155 args) w:=enters_of Tryz.func155 kr rfl
 obtain ⟨q,hq⟩ : ∃ q,q = gradesE Y l:=⟨_,rfl⟩
 rw [← hq]
 have HQ:=am hq
 clear hq hY hw hr
 by_cases hlim : 60 < l.length
 ·
  have HE:=am (show q = 2 by rw [HQ.out];exact if_neg (by omega))
  go_enter Tryz.func84,Tryz.ntmps84
  go_wp2
  go_ret
  exact ⟨by rw [HE.out];rfl,Below.refl _ _⟩
 ·
  have HQ1:=am (show q = askL (·.f0) (·.f1) (fun i => decide (i ∈ Y.pours)) [] l by rw [HQ.out];exact if_pos (by omega))
  clear HQ
  go_enter Tryz.func84,Tryz.ntmps84
  go_wp2
  go_loopw [12] (fun v12 wr => ∃ (j : Nat),j ≤ l.length ∧ v12 = .int .i64 (j : Int) ∧ Aside0 (Below W.heap.size W wr) ∧ Aside0 (q = askL (·.f0) (·.f1) (fun i => decide (i ∈ Y.pours)) (l.take j) (l.drop j))) (fun v12 _ => l.length - (intOf v12).toNat)
  case atStart => exact ⟨0,Nat.zero_le _,rfl,⟨Below.refl _ _⟩,⟨by rw [HQ1.out];rfl⟩⟩
  case round =>
   obtain ⟨j,hj,rfl,HB,HA⟩:=hrel
   by_cases hlt : j < l.length
   ·
    obtain ⟨ae,e,hx0,hx1,hx2⟩:=at_T113 (Kd.C_below HC.out HB.out) (j : Int) (by omega) (by omega)
    cases e
    rw [Int.toNat_natCast] at hx0 hx1 hx2
    rw [drop_rd113 hlt] at HA
    have HT:=am (take_rd113 hlt)
    have HCT:=am (Kd.C_take HC.out (m:=j) (by omega))
    have hlj : (l.take j).length = j:=by rw [List.length_take];omega
    obtain ⟨x,hx⟩ : ∃ x,x = rd_T113 l (j : Int):=⟨_,rfl⟩
    rw [← hx] at hx0 hx1 hx2 HA HT
    obtain ⟨dn,hdn⟩ : ∃ dn,dn = l.take j:=⟨_,rfl⟩
    rw [← hdn] at HA HT HCT hlj
    have HLJ:=am hlj
    clear hx hdn hlj
    have HB1:=am (below_alloc HB.out (.cells #[.int .i64 x.f0,.int .i64 x.f1.f0,.int .i64 x.f1.f1] 113))
    have HX:=am (blk_new wr (.cells #[.int .i64 x.f0,.int .i64 x.f1.f0,.int .i64 x.f1.f1] 113))
    obtain ⟨k1,hk1⟩ : ∃ k1,k1 = (fun i => decide (i ∈ Y.pours)) x.f0:=⟨_,rfl⟩
    have HK1:=am hk1
    clear hk1
    go_wp2_with fail
    refine (known_calls (HY.out.move (HB1.out)) HW.out (by omega) x.f0).mono ?_
    rintro e w5 ⟨rfl,hb⟩
    rw [show decide (x.f0 ∈ Y.pours) = k1 from HK1.out.symm]
    have HB2:=am (below_then HB1.out (below_size HB1.out) hb)
    have HX1:=am (blk_below HX.out hb)
    clear hb hx0 hx1 hx2
    cases k1 with
   |false =>
     go_wp2
     go_ret
     refine ⟨?_,HB2.out⟩
     rw [HA.out,askL_5 (known:=(fun i => decide (i ∈ Y.pours))) HK1.out.symm]
     rfl
   |true =>
     have g0:=bd HX1.out 0
     have g1:=bd HX1.out 1
     have g2:=bd HX1.out 2
     obtain ⟨k2,hk2⟩ : ∃ k2,k2 = milleP x.f1:=⟨_,rfl⟩
     have HM:=am (show pit_mille.f x.f1.f0 x.f1.f1 = some k2 by rw [hk2];exact mille_some x.f1)
     have HK2:=am hk2
     clear hk2
     go_wp2_with fail
     refine (pit_mille.calls _ _ _ _ HM.out).mono ?_
     rintro e w6 ⟨rfl,hb⟩
     have HB3:=am (below_then HB2.out (below_size HB2.out) hb)
     have HX2:=am (blk_below HX1.out hb)
     clear hb g0 g1 g2
     cases k2 with
    |false =>
      go_wp2
      go_ret
      refine ⟨?_,HB3.out⟩
      rw [HA.out,askL_1 (known:=(fun i => decide (i ∈ Y.pours))) HK1.out.symm HK2.out.symm]
      rfl
    |true =>
      have HH:=am (has154_calls (some ae) c dn (fun y => decide (y.f0 = x.f0)) 155 _ (fun w => w.heap[wr.heap.size]? = some (.cells #[.int .i64 x.f0,.int .i64 x.f1.f0,.int .i64 x.f1.f1] 113 (0,0))) w6 (Kd.C_below HCT.out HB3.out) (by rw [HLJ.out];omega) ekc HX2.out (fun w w' h hb => blk_below h hb) (fun y w _ h => cl155_calls _ x y w h))
      rw [HLJ.out] at HH
      obtain ⟨k3,hk3⟩ : ∃ k3,k3 = dn.any (fun y => decide (y.f0 = x.f0)):=⟨_,rfl⟩
      rw [← hk3] at HH
      have HK3:=am hk3
      clear hk3
      go_wp2_with fail
      refine HH.out.mono ?_
      rintro e w7 ⟨rfl,hb⟩
      have HB4:=am (below_then HB3.out (below_size HB3.out) hb)
      clear hb
      cases k3 with
     |true =>
       go_wp2
       go_ret
       refine ⟨?_,HB4.out⟩
       rw [HA.out,askL_6 (known:=(fun i => decide (i ∈ Y.pours))) HK1.out.symm HK2.out.symm HK3.out.symm]
       rfl
     |false =>
       go_wp2
       go_roundw
       case rel => exact ⟨j + 1,by omega,by go_num,HB4,⟨by rw [HA.out,HT.out,askL_go (known:=(fun i => decide (i ∈ Y.pours))) HK1.out.symm HK2.out.symm HK3.out.symm]⟩⟩
       case measure => simp [intOf];omega
   ·
    have HE:=am (show q = 0 by rw [HA.out,List.drop_eq_nil_of_le (by omega)];rfl)
    go_wp2
    go_ret
    exact ⟨by rw [HE.out];rfl,HB.out⟩
end
def R87_1.T : Bool × List (List Nat × List Nat):=(true,[([],[]),([0],[0]),([],[]),([],[]),([3],[3]),([2,4],[2,4]),([5],[5]),([1,6,5],[1,6]),([7,7,0,1,2,3,4,5,6,7],[7])])
def R87_1.B : List Nat:=[0,1,0,0,8,28,60,127,255]
theorem R87_1.tab : rtab .any (opsOf Tryz.f87 1) = R87_1.T:=by kernel_rfl
theorem R87_1.bits : waitsOk R87_1.T.2 R87_1.B = true:=by kernel_rfl
def R90_1.T : Bool × List (List Nat × List Nat):=(true,[([],[]),([0],[0]),([],[]),([],[]),([3],[3]),([2,4],[2,4]),([5],[5]),([1,6,5],[1,6]),([7,7,0,1,2,3,4,5,6,7],[7])])
def R90_1.B : List Nat:=[0,1,0,0,8,28,60,127,255]
theorem R90_1.tab : rtab .any (opsOf Tryz.f90 1) = R90_1.T:=by kernel_rfl
theorem R90_1.bits : waitsOk R90_1.T.2 R90_1.B = true:=by kernel_rfl
theorem goesv_ {P : Program} {ops : Array Oper} {Q : Exit → Act → World → Prop} {oi : Oper} {N : Option Tmp} {a : Act} {w : World} {K : Act → World → Prop} {f : FuncId} {fn : Func} {xs : Array Operand} {ts : Array TypeId} {x : Operand} {caps : Array Value} (hf : P.funcs[f]? = some fn) (hname : (fn.name == "runtime.NumGoroutine") = false) (hb : fn.body.isSome = true) (args : Array Value)
  (hw : Region.wanted oi (yielded ops a.tmps) = true) (hN : oi.dst = N) (hop : oi.op = .call { callee:=.value x,args:=xs,argTypes:=ts }) (hx : a.eval x = .func (.func f) #[] caps) (hargs : xs.map a.eval = args)
  (h : Calls P f (args ++ caps) w fun e w' => ∃ v,e = .returned v ∧ K (a.put N v) w') : if Region.wanted oi (yielded ops a.tmps) = true then Oper.wp P oi a w K Q else K (a.put N undef) w:=by
 refine call_ f (args ++ caps) hw hN ?_ h
 have he:=enters_ hf hname hb (args ++ caps) w
 unfold execOp
 simp only [hop,resolve,hargs,hx]
 simp [Deferred.ofValue,invoke,he]
theorem fd66_0 (a b : Int) (W : World) : (Instr.field 66 (.agg #[.int .i64 a,.int .i64 b]) 0).run Tryz.prog W = .ok (.int .i64 a) W:=by kernel_rfl
theorem fd66_1 (a b : Int) (W : World) : (Instr.field 66 (.agg #[.int .i64 a,.int .i64 b]) 1).run Tryz.prog W = .ok (.int .i64 b) W:=by kernel_rfl
def gradeL (l : List S113) (pour : Int) : S66:=match l.find? (fun g => decide (g.f0 = pour)) with
|some g => g.f1
|none => ⟨0,1000⟩
theorem gradeL_cons (g : S113) (l : List S113) (pour : Int) : gradeL (g :: l) pour = if g.f0 = pour then g.f1 else gradeL l pour:=by
 unfold gradeL
 rw [List.find?_cons]
 by_cases h : g.f0 = pour
 ·simp [h]
 ·simp [h]
theorem gradeL_mille {l : List S113} (h : ∀ g ∈ l,milleP g.f1 = true) (pour : Int) : milleP (gradeL l pour) = true:=by
 induction l with
|nil => exact (by decide : milleP ⟨0,1000⟩ = true)
|cons g r ih =>
  rw [gradeL_cons]
  split
  ·exact h g List.mem_cons_self
  ·exact ih fun y hy => h y (List.mem_cons_of_mem _ hy)
theorem askL_mille {α : Type} {a : α → Int} {m : α → S66} {known : Int → Bool} : ∀ {r done : List α},askL a m known done r = 0 → ∀ g ∈ r,known (a g) = true ∧ milleP (m g) = true
|[],_,_ => by simp
|g :: r,done,h => by
  simp only [askL] at h
  split at h
  ·rename_i h1
   split at h
   ·rename_i h2
    split at h
    ·cases h
    ·intro x hx
     rcases List.mem_cons.1 hx with rfl|hx
     ·exact ⟨h1,h2⟩
     ·exact askL_mille h x hx
   ·cases h
  ·cases h
theorem gradesE_ok {Y : Yd} {l : List S113} (h : gradesE Y l = 0) : l.length ≤ 60 ∧ ∀ g ∈ l,milleP g.f1 = true:=by
 unfold gradesE at h
 split at h
 ·rename_i h1
  exact ⟨h1,fun g hg => (askL_mille h g hg).2⟩
 ·cases h
theorem milleP_of {s : S66} (h : milleP s = true) : 0 ≤ s.f0 ∧ s.f0 ≤ 1000 ∧ 0 ≤ s.f1 ∧ s.f1 ≤ 1000:=by
 have:=of_decide_eq_true h
 omega
set_option maxRecDepth 100000 in
set_option maxHeartbeats 2000000 in
theorem cl85_calls {w : World} (A : Option Addr) (c : Nat) (l : List S113) (hr : Kd.C k113 w A l.length l) (hlc : l.length ≤ c) (gl : Nat) (hgl : w.heap[gl]? = some (.cells #[.slice A l.length c] 39 (0,0))) (pour : Int) :
  Calls Tryz.prog 85 (#[.int .i64 pour] ++ #[.pointer (some ⟨gl,0,none⟩)]) w fun e w' => e = .returned (.agg #[.int .i64 (gradeL l pour).f0,.int .i64 (gradeL l pour).f1]) ∧ Below w.heap.size w w':=by
 have hu113:=Tryz.underlying113
 have hu66:=Tryz.underlying66
 have hmx:=hr.2.1
 have HG:=am (hgl)
 have HC:=am (hr)
 have HB:=am (Below.refl w.heap.size w)
 have HG1:=am (blk_alloc HG.out (.cells #[.int .i64 0,.int .i64 0] 66))
 have HC1:=am (Kd.C_alloc HC.out (.cells #[.int .i64 0,.int .i64 0] 66))
 have HB1:=am (below_alloc HB.out (.cells #[.int .i64 0,.int .i64 0] 66))
 have HR:=am (blk_new w (.cells #[.int .i64 0,.int .i64 0] 66))
 obtain ⟨q,hq⟩ : ∃ q,q = gradeL l pour:=⟨_,rfl⟩
 rw [← hq]
 have HQ:=am hq
 clear hq hgl hr
 have a0:=bd HG1.out 0
 go_enter Tryz.func85,Tryz.ntmps85
 go_wp2
 clear a0
 go_loopw [8] (fun v8 wr => ∃ (j : Nat),j ≤ l.length ∧ v8 = .int .i64 (j : Int) ∧ Aside0 (Below (w.alloc (.cells #[.int .i64 0,.int .i64 0] 66)).heap.size (w.alloc (.cells #[.int .i64 0,.int .i64 0] 66)) wr) ∧ Aside0 (q = gradeL (l.drop j) pour)) (fun v8 _ => l.length - (intOf v8).toNat)
 case atStart => exact ⟨0,Nat.zero_le _,rfl,⟨Below.refl _ _⟩,⟨by rw [HQ.out];rfl⟩⟩
 case round =>
  obtain ⟨j,hj,rfl,HN,HA⟩:=hrel
  have HRw:=am (blk_below HR.out HN.out)
  have HBw:=am (below_then HB1.out (below_size HB1.out) HN.out)
  by_cases hlt : j < l.length
  ·
   obtain ⟨ae,e,hx0,hx1,hx2⟩:=at_T113 (Kd.C_below HC1.out HN.out) (j : Int) (by omega) (by omega)
   cases e
   rw [Int.toNat_natCast] at hx0 hx1 hx2
   rw [drop_rd113 hlt,gradeL_cons] at HA
   obtain ⟨x,hx⟩ : ∃ x,x = rd_T113 l (j : Int):=⟨_,rfl⟩
   rw [← hx] at hx0 hx1 hx2 HA
   clear hx
   have HN1:=am (below_alloc HN.out (.cells #[.int .i64 x.f0,.int .i64 x.f1.f0,.int .i64 x.f1.f1] 113))
   have HRw1:=am (blk_alloc HRw.out (.cells #[.int .i64 x.f0,.int .i64 x.f1.f0,.int .i64 x.f1.f1] 113))
   have HBw1:=am (below_alloc HBw.out (.cells #[.int .i64 x.f0,.int .i64 x.f1.f0,.int .i64 x.f1.f1] 113))
   by_cases he : x.f0 = pour
   ·
    have HE:=am (show q = x.f1 by rw [HA.out,if_pos he])
    subst he
    have u0:=bd HRw1.out 0
    have fu0:=blk_frozen HRw1.out 0
    have u1:=bd HRw1.out 1
    have fu1:=blk_frozen HRw1.out 1
    go_wp2
    rw [HE.out]
    have bz:=blk_put (cs':=#[.int .i64 x.f1.f0,.int .i64 x.f1.f1]) (blk_put (cs':=#[.int .i64 x.f1.f0,.int .i64 0]) (HRw1.out) 0 (.int .i64 x.f1.f0) rfl) 1 (.int .i64 x.f1.f1) rfl
    have z0:=bd bz 0
    have z1:=bd bz 1
    exact bodyPost_ret (v:=.agg #[.int .i64 x.f1.f0,.int .i64 x.f1.f1]) (by simp [results,Tryz.results85,go_sem,z0,z1,hu66]) rfl ⟨rfl,((HBw1.out).setCell (p:=⟨w.heap.size,0,none⟩) (by first|(simp;done)|(simp;omega)) (.int .i64 x.f1.f0)).setCell (p:=⟨w.heap.size,1,none⟩) (by first|(simp;done)|(simp;omega)) (.int .i64 x.f1.f1)⟩
   ·
    rw [if_neg he] at HA
    go_wp2
    go_roundw
    case rel => exact ⟨j + 1,by omega,by go_num,HN1,HA⟩
    case measure => simp [intOf];omega
  ·
   have HE:=am (show q = ⟨0,1000⟩ by rw [HA.out,List.drop_eq_nil_of_le (by omega)];rfl)
   have u0:=bd HRw.out 0
   have fu0:=blk_frozen HRw.out 0
   have u1:=bd HRw.out 1
   have fu1:=blk_frozen HRw.out 1
   go_wp2
   rw [HE.out]
   have bz:=blk_put (cs':=#[.int .i64 0,.int .i64 1000]) (blk_put (cs':=#[.int .i64 0,.int .i64 0]) (HRw.out) 0 (.int .i64 0) rfl) 1 (.int .i64 1000) rfl
   have z0:=bd bz 0
   have z1:=bd bz 1
   exact bodyPost_ret (v:=.agg #[.int .i64 0,.int .i64 1000]) (by simp [results,Tryz.results85,go_sem,z0,z1,hu66]) rfl ⟨rfl,((HBw.out).setCell (p:=⟨w.heap.size,0,none⟩) (by first|(simp;done)|(simp;omega)) (.int .i64 0)).setCell (p:=⟨w.heap.size,1,none⟩) (by first|(simp;done)|(simp;omega)) (.int .i64 1000)⟩
set_option maxRecDepth 100000 in
set_option maxHeartbeats 2000000 in
theorem cl87_calls {w : World} (A : Option Addr) (c : Nat) (l : List S113) (hr : Kd.C k113 w A l.length l) (hlc : l.length ≤ c) (gl gf : Nat) (hgl : w.heap[gl]? = some (.cells #[.slice A l.length c] 39 (0,0))) (hgf : w.heap[gf]? = some (.cells #[.func (.func 85) #[] #[.pointer (some ⟨gl,0,none⟩)]] 176 (0,0))) (hm : ∀ g ∈ l,milleP g.f1 = true) (x : S89) (hx : fineP x.f1 = true) :
  Calls Tryz.prog 87 (#[.agg #[.int .i64 x.f0,.int .i64 x.f1.f0,.int .i64 x.f1.f1]] ++ #[.pointer (some ⟨gf,0,none⟩)]) w fun e w' => e = .returned (.agg #[.int .i64 (timesP x.f1 (gradeL l x.f0).f0 1).f0,.int .i64 (timesP x.f1 (gradeL l x.f0).f0 1).f1]) ∧ Below w.heap.size w w':=by
 have hu89:=Tryz.underlying89
 have hu43:=Tryz.underlying43
 have hfd:=fd66_0
 have HG:=am (hgl)
 have HF:=am (hgf)
 have HC:=am (hr)
 have HB:=am (Below.refl w.heap.size w)
 have HG1:=am (blk_alloc HG.out (.cells #[.int .i64 x.f0,.int .i64 x.f1.f0,.int .i64 x.f1.f1] 89))
 have HF1:=am (blk_alloc HF.out (.cells #[.int .i64 x.f0,.int .i64 x.f1.f0,.int .i64 x.f1.f1] 89))
 have HC1:=am (Kd.C_alloc HC.out (.cells #[.int .i64 x.f0,.int .i64 x.f1.f0,.int .i64 x.f1.f1] 89))
 have HB1:=am (below_alloc HB.out (.cells #[.int .i64 x.f0,.int .i64 x.f1.f0,.int .i64 x.f1.f1] 89))
 have HX:=am (blk_new w (.cells #[.int .i64 x.f0,.int .i64 x.f1.f0,.int .i64 x.f1.f1] 89))
 have HG2:=am (blk_alloc HG1.out (.cells #[.int .i64 0,.int .i64 0] 43))
 have HF2:=am (blk_alloc HF1.out (.cells #[.int .i64 0,.int .i64 0] 43))
 have HC2:=am (Kd.C_alloc HC1.out (.cells #[.int .i64 0,.int .i64 0] 43))
 have HB2:=am (below_alloc HB1.out (.cells #[.int .i64 0,.int .i64 0] 43))
 have HX1:=am (blk_alloc HX.out (.cells #[.int .i64 0,.int .i64 0] 43))
 have HR:=am (blk_new' (w.alloc (.cells #[.int .i64 x.f0,.int .i64 x.f1.f0,.int .i64 x.f1.f1] 89)) (.cells #[.int .i64 0,.int .i64 0] 43) (w.heap.size + 1) (by simp))
 have HG3:=am (blk_drew HG2.out)
 have HF3:=am (blk_drew HF2.out)
 have HC3:=am (Kd.C_drew HC2.out)
 have HB3:=am (below_drew HB2.out)
 have HX2:=am (blk_drew HX1.out)
 have HR1:=am (blk_drew HR.out)
 obtain ⟨hm0,hm1,hm2,hm3⟩:=milleP_of (gradeL_mille hm x.f0)
 obtain ⟨hx0,hx1,hx2⟩:=fineP_of hx
 have HT:=am (times_some (n:=(gradeL l x.f0).f0) (m:=1) hx0 hx1 (by omega) (by omega) (by omega) (by omega) (by omega))
 obtain ⟨q,hq⟩ : ∃ q,q = timesP x.f1 (gradeL l x.f0).f0 1:=⟨_,rfl⟩
 rw [← hq] at HT ⊢
 obtain ⟨y,hy⟩ : ∃ y,y = gradeL l x.f0:=⟨_,rfl⟩
 rw [← hy] at HT
 have HYE:=am hy
 clear hq hy hm hm0 hm1 hm2 hm3 hx0 hx1 hx2 hx hgl hgf hr
 go_enter Tryz.func87,Tryz.ntmps87
 go_wp2
 refine start_ (n:=9) (S:=fun w' => w'.cell? ⟨gf,0,none⟩ = some (.func (.func 85) #[] #[.pointer (some ⟨gl,0,none⟩)]) ∧ w'.cell? ⟨w.heap.size,0,none⟩ = some (.int .i64 x.f0) ∧ w'.cell? ⟨w.heap.size,1,none⟩ = some (.int .i64 x.f1.f0) ∧ w'.cell? ⟨w.heap.size,2,none⟩ = some (.int .i64 x.f1.f1)) (ds:=[8]) (ab 9 0) kr rfl kr ⟨(blk_cell HF3.out 0).trans rfl,(blk_cell HX2.out 0).trans rfl,(blk_cell HX2.out 1).trans rfl,(blk_cell HX2.out 2).trans rfl⟩ (fun hHeld => ?_);refine with_tabW R87_1.tab R87_1.bits (fun HT_ HW_ => ?_)
 generalize (((w.alloc (.cells #[.int .i64 x.f0,.int .i64 x.f1.f0,.int .i64 x.f1.f1] 89)).alloc (.cells #[.int .i64 0,.int .i64 0] 43))).drew = wd at HG3 HF3 HC3 HB3 HX2 HR1 hHeld ⊢
 refine qA 0 (some 4) ?_;refine qT 1 (some 5) ?_;refine qT 2 (some 6) ?_;refine qA 3 (some 7) ?_;refine qT 4 (some 8) ?_
 refine qE 5 (some 9) fun K hK => ?_
 refine goesv_ (f:=85) Tryz.func85 kr rfl #[.int .i64 x.f0] (by rfl) rfl rfl rfl vn ?_
 refine (cl85_calls A c l HC3.out hlc gl HG3.out x.f0).mono ?_
 rintro e w1 ⟨rfl,hb⟩
 rw [← HYE.out]
 have HF4:=am (blk_below HF3.out hb)
 have HB4:=am (below_then HB3.out (below_size HB3.out) hb)
 have HX3:=am (blk_below HX2.out hb)
 have HR2:=am (blk_below HR1.out hb)
 clear hb
 refine ⟨_,rfl,?_⟩
 refine hK.out _ _ ⟨(blk_cell HF4.out 0).trans rfl,(blk_cell HX3.out 0).trans rfl,(blk_cell HX3.out 1).trans rfl,(blk_cell HX3.out 2).trans rfl⟩ (fun hHeld => ?_)
 clear hK K
 refine qN (some 9) ?_
 refine qA 6 (some 10) ?_
 refine qE 7 (some 11) fun K hK => ?_
 refine gC Tryz.func88 #[.agg #[.int .i64 x.f1.f0,.int .i64 x.f1.f1],.int .i64 y.f0,.int .i64 1] ?_
 refine (pit_times.calls FU _ _ _ _ _ _ _ HT.out).mono ?_
 rintro e w2 ⟨rfl,hb⟩
 have HF5:=am (blk_below HF4.out hb)
 have HB5:=am (below_then HB4.out (below_size HB4.out) hb)
 have HX4:=am (blk_below HX3.out hb)
 have HR3:=am (blk_below HR2.out hb)
 clear hb
 refine ⟨_,rfl,?_⟩
 refine hK.out _ _ ⟨(blk_cell HF5.out 0).trans rfl,(blk_cell HX4.out 0).trans rfl,(blk_cell HX4.out 1).trans rfl,(blk_cell HX4.out 2).trans rfl⟩ (fun hHeld => ?_)
 clear hK K
 refine qN (some 11) ?_
 refine qL 8 (none) fun K hK => ?_
 have u0:=bd HR3.out 0
 have fu0:=blk_frozen HR3.out 0
 have u1:=bd HR3.out 1
 have fu1:=blk_frozen HR3.out 1
 refine skip_ (w1:=?_) (by rfl) rfl ?_ ?_
 rotate_left
 ·go_simp
  rfl
 refine hK.out _ _ ?_
 clear hK K
 refine done_ (done_of HT_.out kr) ?_
 go_wp2
 have bz:=blk_put (cs':=#[.int .i64 q.f0,.int .i64 q.f1]) (blk_put (cs':=#[.int .i64 q.f0,.int .i64 0]) (HR3.out) 0 (.int .i64 q.f0) rfl) 1 (.int .i64 q.f1) rfl
 have z0:=bd bz 0
 have z1:=bd bz 1
 exact bodyPost_ret (v:=.agg #[.int .i64 q.f0,.int .i64 q.f1]) (by simp [results,Tryz.results87,go_sem,z0,z1,hu43]) rfl ⟨rfl,((HB5.out).setCell (p:=⟨w.heap.size + 1,0,none⟩) (by first|(simp;done)|(simp;omega)) (.int .i64 q.f0)).setCell (p:=⟨w.heap.size + 1,1,none⟩) (by first|(simp;done)|(simp;omega)) (.int .i64 q.f1)⟩
set_option maxRecDepth 100000 in
set_option maxHeartbeats 2000000 in
theorem cl90_calls {w : World} (A : Option Addr) (c : Nat) (l : List S113) (hr : Kd.C k113 w A l.length l) (hlc : l.length ≤ c) (gl gf : Nat) (hgl : w.heap[gl]? = some (.cells #[.slice A l.length c] 39 (0,0))) (hgf : w.heap[gf]? = some (.cells #[.func (.func 85) #[] #[.pointer (some ⟨gl,0,none⟩)]] 176 (0,0))) (hm : ∀ g ∈ l,milleP g.f1 = true) (x : S89) (hx : fineP x.f1 = true) :
  Calls Tryz.prog 90 (#[.agg #[.int .i64 x.f0,.int .i64 x.f1.f0,.int .i64 x.f1.f1]] ++ #[.pointer (some ⟨gf,0,none⟩)]) w fun e w' => e = .returned (.agg #[.int .i64 (timesP x.f1 (gradeL l x.f0).f1 1).f0,.int .i64 (timesP x.f1 (gradeL l x.f0).f1 1).f1]) ∧ Below w.heap.size w w':=by
 have hu89:=Tryz.underlying89
 have hu43:=Tryz.underlying43
 have hfd:=fd66_1
 have HG:=am (hgl)
 have HF:=am (hgf)
 have HC:=am (hr)
 have HB:=am (Below.refl w.heap.size w)
 have HG1:=am (blk_alloc HG.out (.cells #[.int .i64 x.f0,.int .i64 x.f1.f0,.int .i64 x.f1.f1] 89))
 have HF1:=am (blk_alloc HF.out (.cells #[.int .i64 x.f0,.int .i64 x.f1.f0,.int .i64 x.f1.f1] 89))
 have HC1:=am (Kd.C_alloc HC.out (.cells #[.int .i64 x.f0,.int .i64 x.f1.f0,.int .i64 x.f1.f1] 89))
 have HB1:=am (below_alloc HB.out (.cells #[.int .i64 x.f0,.int .i64 x.f1.f0,.int .i64 x.f1.f1] 89))
 have HX:=am (blk_new w (.cells #[.int .i64 x.f0,.int .i64 x.f1.f0,.int .i64 x.f1.f1] 89))
 have HG2:=am (blk_alloc HG1.out (.cells #[.int .i64 0,.int .i64 0] 43))
 have HF2:=am (blk_alloc HF1.out (.cells #[.int .i64 0,.int .i64 0] 43))
 have HC2:=am (Kd.C_alloc HC1.out (.cells #[.int .i64 0,.int .i64 0] 43))
 have HB2:=am (below_alloc HB1.out (.cells #[.int .i64 0,.int .i64 0] 43))
 have HX1:=am (blk_alloc HX.out (.cells #[.int .i64 0,.int .i64 0] 43))
 have HR:=am (blk_new' (w.alloc (.cells #[.int .i64 x.f0,.int .i64 x.f1.f0,.int .i64 x.f1.f1] 89)) (.cells #[.int .i64 0,.int .i64 0] 43) (w.heap.size + 1) (by simp))
 have HG3:=am (blk_drew HG2.out)
 have HF3:=am (blk_drew HF2.out)
 have HC3:=am (Kd.C_drew HC2.out)
 have HB3:=am (below_drew HB2.out)
 have HX2:=am (blk_drew HX1.out)
 have HR1:=am (blk_drew HR.out)
 obtain ⟨hm0,hm1,hm2,hm3⟩:=milleP_of (gradeL_mille hm x.f0)
 obtain ⟨hx0,hx1,hx2⟩:=fineP_of hx
 have HT:=am (times_some (n:=(gradeL l x.f0).f1) (m:=1) hx0 hx1 (by omega) (by omega) (by omega) (by omega) (by omega))
 obtain ⟨q,hq⟩ : ∃ q,q = timesP x.f1 (gradeL l x.f0).f1 1:=⟨_,rfl⟩
 rw [← hq] at HT ⊢
 obtain ⟨y,hy⟩ : ∃ y,y = gradeL l x.f0:=⟨_,rfl⟩
 rw [← hy] at HT
 have HYE:=am hy
 clear hq hy hm hm0 hm1 hm2 hm3 hx0 hx1 hx2 hx hgl hgf hr
 go_enter Tryz.func90,Tryz.ntmps90
 go_wp2
 refine start_ (n:=9) (S:=fun w' => w'.cell? ⟨gf,0,none⟩ = some (.func (.func 85) #[] #[.pointer (some ⟨gl,0,none⟩)]) ∧ w'.cell? ⟨w.heap.size,0,none⟩ = some (.int .i64 x.f0) ∧ w'.cell? ⟨w.heap.size,1,none⟩ = some (.int .i64 x.f1.f0) ∧ w'.cell? ⟨w.heap.size,2,none⟩ = some (.int .i64 x.f1.f1)) (ds:=[8]) (ab 9 0) kr rfl kr ⟨(blk_cell HF3.out 0).trans rfl,(blk_cell HX2.out 0).trans rfl,(blk_cell HX2.out 1).trans rfl,(blk_cell HX2.out 2).trans rfl⟩ (fun hHeld => ?_);refine with_tabW R90_1.tab R90_1.bits (fun HT_ HW_ => ?_)
 generalize (((w.alloc (.cells #[.int .i64 x.f0,.int .i64 x.f1.f0,.int .i64 x.f1.f1] 89)).alloc (.cells #[.int .i64 0,.int .i64 0] 43))).drew = wd at HG3 HF3 HC3 HB3 HX2 HR1 hHeld ⊢
 refine qA 0 (some 4) ?_;refine qT 1 (some 5) ?_;refine qT 2 (some 6) ?_;refine qA 3 (some 7) ?_;refine qT 4 (some 8) ?_
 refine qE 5 (some 9) fun K hK => ?_
 refine goesv_ (f:=85) Tryz.func85 kr rfl #[.int .i64 x.f0] (by rfl) rfl rfl rfl vn ?_
 refine (cl85_calls A c l HC3.out hlc gl HG3.out x.f0).mono ?_
 rintro e w1 ⟨rfl,hb⟩
 rw [← HYE.out]
 have HF4:=am (blk_below HF3.out hb)
 have HB4:=am (below_then HB3.out (below_size HB3.out) hb)
 have HX3:=am (blk_below HX2.out hb)
 have HR2:=am (blk_below HR1.out hb)
 clear hb
 refine ⟨_,rfl,?_⟩
 refine hK.out _ _ ⟨(blk_cell HF4.out 0).trans rfl,(blk_cell HX3.out 0).trans rfl,(blk_cell HX3.out 1).trans rfl,(blk_cell HX3.out 2).trans rfl⟩ (fun hHeld => ?_)
 clear hK K
 refine qN (some 9) ?_
 refine qA 6 (some 10) ?_
 refine qE 7 (some 11) fun K hK => ?_
 refine gC Tryz.func88 #[.agg #[.int .i64 x.f1.f0,.int .i64 x.f1.f1],.int .i64 y.f1,.int .i64 1] ?_
 refine (pit_times.calls FU _ _ _ _ _ _ _ HT.out).mono ?_
 rintro e w2 ⟨rfl,hb⟩
 have HF5:=am (blk_below HF4.out hb)
 have HB5:=am (below_then HB4.out (below_size HB4.out) hb)
 have HX4:=am (blk_below HX3.out hb)
 have HR3:=am (blk_below HR2.out hb)
 clear hb
 refine ⟨_,rfl,?_⟩
 refine hK.out _ _ ⟨(blk_cell HF5.out 0).trans rfl,(blk_cell HX4.out 0).trans rfl,(blk_cell HX4.out 1).trans rfl,(blk_cell HX4.out 2).trans rfl⟩ (fun hHeld => ?_)
 clear hK K
 refine qN (some 11) ?_
 refine qL 8 (none) fun K hK => ?_
 have u0:=bd HR3.out 0
 have fu0:=blk_frozen HR3.out 0
 have u1:=bd HR3.out 1
 have fu1:=blk_frozen HR3.out 1
 refine skip_ (w1:=?_) (by rfl) rfl ?_ ?_
 rotate_left
 ·go_simp
  rfl
 refine hK.out _ _ ?_
 clear hK K
 refine done_ (done_of HT_.out kr) ?_
 go_wp2
 have bz:=blk_put (cs':=#[.int .i64 q.f0,.int .i64 q.f1]) (blk_put (cs':=#[.int .i64 q.f0,.int .i64 0]) (HR3.out) 0 (.int .i64 q.f0) rfl) 1 (.int .i64 q.f1) rfl
 have z0:=bd bz 0
 have z1:=bd bz 1
 exact bodyPost_ret (v:=.agg #[.int .i64 q.f0,.int .i64 q.f1]) (by simp [results,Tryz.results90,go_sem,z0,z1,hu43]) rfl ⟨rfl,((HB5.out).setCell (p:=⟨w.heap.size + 1,0,none⟩) (by first|(simp;done)|(simp;omega)) (.int .i64 q.f0)).setCell (p:=⟨w.heap.size + 1,1,none⟩) (by first|(simp;done)|(simp;omega)) (.int .i64 q.f1)⟩
def R21_12.T : Bool × List (List Nat × List Nat):=(true,[([],[]),([],[]),([1],[1]),([0,2],[0,2]),([],[]),([],[]),([5],[5]),([4,6,3],[4,6]),([3,7,0,1,2,3],[3]),([7,8,0,1,2,3,4,5,6,7,8],[7])])
def R21_12.B : List Nat:=[0,0,2,7,0,0,32,127,255,511]
theorem R21_12.tab : rtab .any (opsOf Tryz.f21 12) = R21_12.T:=by kernel_rfl
theorem R21_12.bits : waitsOk R21_12.T.2 R21_12.B = true:=by kernel_rfl
def R21_15.T : Bool × List (List Nat × List Nat):=(true,[([],[]),([],[]),([0,0],[0]),([1,2,0,1,2],[1]),([3,0,1,2,3],[])])
def R21_15.B : List Nat:=[0,0,1,7,15]
theorem R21_15.tab : rtab .any (opsOf Tryz.f21 15) = R21_15.T:=by kernel_rfl
theorem R21_15.bits : waitsOk R21_15.T.2 R21_15.B = true:=by kernel_rfl
def loP (l : List S113) (x : S89) : S43:=timesP x.f1 (gradeL l x.f0).f0 1
def hiP (l : List S113) (x : S89) : S43:=timesP x.f1 (gradeL l x.f0).f1 1
def worthB (b : S167) (l : List S113) : S43 × S43 × Int :=
 if (totalP (loP l) b.f3).isSome = true then (if (totalP (hiP l) b.f3).isSome = true then
  (if validP (timesP ((totalP (loP l) b.f3).getD ⟨0,0⟩) 1 b.f2) = true then (if validP (timesP ((totalP (hiP l) b.f3).getD ⟨0,0⟩) 1 b.f2) = true then (timesP ((totalP (loP l) b.f3).getD ⟨0,0⟩) 1 b.f2,timesP ((totalP (hiP l) b.f3).getD ⟨0,0⟩) 1 b.f2,0) else (⟨0,0⟩,⟨0,0⟩,3)) else (⟨0,0⟩,⟨0,0⟩,3)) else (⟨0,0⟩,⟨0,0⟩,3)) else (⟨0,0⟩,⟨0,0⟩,3)
def worthE (r : Except (Int × Int) Yd) (id : Int) (l : List S113) : S43 × S43 × Int:=match r with
|.error x => (⟨0,0⟩,⟨0,0⟩,x.1)
|.ok Y => (match Y.barrows.find? (isId id) with
 |none => (⟨0,0⟩,⟨0,0⟩,5)
 |some b => if gradesE Y l = 0 then worthB b l else (⟨0,0⟩,⟨0,0⟩,gradesE Y l))
theorem totalE_eq (o : Option S43) : totalE o = .returned (.tuple #[.agg #[.int .i64 (o.getD ⟨0,0⟩).f0,.int .i64 (o.getD ⟨0,0⟩).f1],.bool o.isSome]):=by
 cases o <;> rfl
theorem total_valid_of {α : Type} {g : α → S43} {l : List α} (h : (totalP g l).isSome = true) : validP ((totalP g l).getD ⟨0,0⟩) = true:=by
 obtain ⟨r,hr⟩:=Option.isSome_iff_exists.1 h
 rw [hr]
 exact totalP_valid hr
set_option maxRecDepth 100000 in
set_option maxHeartbeats 4000000 in
theorem worth_calls (A A2 : Option Addr) (c c2 : Nat) (rooms : List Int) (stirs : List S84) (W : World) (lo : Nat) (hlo : lo ≤ W.heap.size) (hC : Kd.F (Kd.int .i64) W (fun k => k < lo) A rooms.length rooms) (hc : rooms.length ≤ c) (hS : Kd.C k84 W A2 stirs.length stirs) (hc2 : stirs.length ≤ c2) (id : Int) (B : Option Addr) (cb : Nat) (l : List S113) (hL : Kd.C k113 W B l.length l) (hlb : l.length ≤ cb) :
  Calls Tryz.prog 21 #[.agg #[.slice A rooms.length c,.slice A2 stirs.length c2],.int .i64 id,.slice B l.length cb] W fun e W' => e = .returned (.tuple #[.agg #[.int .i64 (worthE (playedP rooms stirs stirs.length) id l).1.f0,.int .i64 (worthE (playedP rooms stirs stirs.length) id l).1.f1],.agg #[.int .i64 (worthE (playedP rooms stirs stirs.length) id l).2.1.f0,.int .i64 (worthE (playedP rooms stirs stirs.length) id l).2.1.f1],.int .i64 (worthE (playedP rooms stirs stirs.length) id l).2.2]) ∧ Below W.heap.size W W':=by
 have hu:=Tryz.underlying32
 have hu167:=Tryz.underlying167
 have hu43:=Tryz.underlying43
 have hmf : ∀ (fn : Fn) (first cap : Array Value) (w : World),(Instr.makeFunc fn first cap).run Tryz.prog w = .ok (.func fn first cap) w:=fun _ _ _ _ => rfl
 have hsf : ∀ (p : Addr) (fn : Fn) (first cap : Array Value) (m : Mode) (w : World),(store p (.func fn first cap) m).run Tryz.prog w = stored Tryz.prog w p (.func fn first cap) m:=fun p fn first cap m w => run_store Tryz.prog w p _ m rfl
 have HC:=am (hC)
 have HS:=am (hS)
 have HL:=am (hL)
 have HB:=am (Below.refl W.heap.size W)
 have HC1:=am (Kd.F_alloc HC.out (.cells #[.slice A rooms.length c,.slice A2 stirs.length c2] 32))
 have HS1:=am (Kd.C_alloc HS.out (.cells #[.slice A rooms.length c,.slice A2 stirs.length c2] 32))
 have HL1:=am (Kd.C_alloc HL.out (.cells #[.slice A rooms.length c,.slice A2 stirs.length c2] 32))
 have HB1:=am (below_alloc HB.out (.cells #[.slice A rooms.length c,.slice A2 stirs.length c2] 32))
 have HC2:=am (Kd.F_alloc HC1.out (.cells #[.slice B l.length cb] 39))
 have HS2:=am (Kd.C_alloc HS1.out (.cells #[.slice B l.length cb] 39))
 have HL2:=am (Kd.C_alloc HL1.out (.cells #[.slice B l.length cb] 39))
 have HB2:=am (below_alloc HB1.out (.cells #[.slice B l.length cb] 39))
 have HG:=am (blk_new' (W.alloc (.cells #[.slice A rooms.length c,.slice A2 stirs.length c2] 32)) (.cells #[.slice B l.length cb] 39) (W.heap.size + 1) (by simp))
 have HC3:=am (Kd.F_alloc HC2.out (.cells #[.int .i64 0,.int .i64 0] 43))
 have HS3:=am (Kd.C_alloc HS2.out (.cells #[.int .i64 0,.int .i64 0] 43))
 have HL3:=am (Kd.C_alloc HL2.out (.cells #[.int .i64 0,.int .i64 0] 43))
 have HB3:=am (below_alloc HB2.out (.cells #[.int .i64 0,.int .i64 0] 43))
 have HG1:=am (blk_alloc HG.out (.cells #[.int .i64 0,.int .i64 0] 43))
 have HR:=am (blk_new' ((W.alloc (.cells #[.slice A rooms.length c,.slice A2 stirs.length c2] 32)).alloc (.cells #[.slice B l.length cb] 39)) (.cells #[.int .i64 0,.int .i64 0] 43) (W.heap.size + 1 + 1) (by simp))
 have HC4:=am (Kd.F_alloc HC3.out (.cells #[.int .i64 0,.int .i64 0] 43))
 have HS4:=am (Kd.C_alloc HS3.out (.cells #[.int .i64 0,.int .i64 0] 43))
 have HL4:=am (Kd.C_alloc HL3.out (.cells #[.int .i64 0,.int .i64 0] 43))
 have HB4:=am (below_alloc HB3.out (.cells #[.int .i64 0,.int .i64 0] 43))
 have HG2:=am (blk_alloc HG1.out (.cells #[.int .i64 0,.int .i64 0] 43))
 have HR1:=am (blk_alloc HR.out (.cells #[.int .i64 0,.int .i64 0] 43))
 have HT:=am (blk_new' (((W.alloc (.cells #[.slice A rooms.length c,.slice A2 stirs.length c2] 32)).alloc (.cells #[.slice B l.length cb] 39)).alloc (.cells #[.int .i64 0,.int .i64 0] 43)) (.cells #[.int .i64 0,.int .i64 0] 43) (W.heap.size + 1 + 1 + 1) (by simp))
 clear hC hS hL
 obtain ⟨r,hr⟩ : ∃ r,r = playedP rooms stirs stirs.length:=⟨_,rfl⟩
 rw [← hr]
 have HQP:=am hr.symm
 clear hr
 obtain ⟨q,hq⟩ : ∃ q,q = worthE r id l:=⟨_,rfl⟩
 rw [← hq]
 have HQ:=am hq
 clear hq
 go_enter Tryz.func21,Tryz.ntmps21
 go_wp2_with fail
 refine (barrowOf_calls A A2 c c2 rooms stirs _ lo (Nat.le_trans hlo (by simp;omega)) HC4.out hc HS4.out hc2 id).mono ?_
 rintro e w1 ⟨hb,h⟩
 rw [HQP.out] at h
 have HL5:=am (Kd.C_below HL4.out hb)
 have HB5:=am (below_then HB4.out (below_size HB4.out) hb)
 have HG3:=am (blk_below HG2.out hb)
 have HR2:=am (blk_below HR1.out hb)
 have HT1:=am (blk_below HT.out hb)
 clear hb
 have HLT:=am (show W.heap.size + 1 + 1 + 1 < w1.heap.size from blk_lt HT1.out)
 cases r with
|error x =>
  subst h
  have hx : ¬ x.1 = 0:=playedP_code HQP.out
  have HB6:=am (below_alloc HB5.out (.cells #[.int .i64 0,.int .i64 0,.int .i64 0,.slice none 0 0] 167))
  have HR3:=am (blk_alloc HR2.out (.cells #[.int .i64 0,.int .i64 0,.int .i64 0,.slice none 0 0] 167))
  have HT2:=am (blk_alloc HT1.out (.cells #[.int .i64 0,.int .i64 0,.int .i64 0,.slice none 0 0] 167))
  have HE:=am (show q = (⟨0,0⟩,⟨0,0⟩,x.1) by rw [HQ.out];rfl)
  have u0:=bd HR3.out 0
  have fu0:=blk_frozen HR3.out 0
  have u1:=bd HR3.out 1
  have fu1:=blk_frozen HR3.out 1
  have v0:=bd HT2.out 0
  have fv0:=blk_frozen HT2.out 0
  have v1:=bd HT2.out 1
  have fv1:=blk_frozen HT2.out 1
  go_wp2
  rw [HE.out]
  have by_:=blk_far (p:=⟨W.heap.size + 1 + 1 + 1,1,none⟩) (blk_far (p:=⟨W.heap.size + 1 + 1 + 1,0,none⟩) (blk_put (cs':=#[.int .i64 0,.int .i64 0]) (blk_put (cs':=#[.int .i64 0,.int .i64 0]) (HR3.out) 0 (.int .i64 0) rfl) 1 (.int .i64 0) rfl) (by simp) (.int .i64 0)) (by simp) (.int .i64 0)
  have bz:=blk_put (cs':=#[.int .i64 0,.int .i64 0]) (blk_put (cs':=#[.int .i64 0,.int .i64 0]) (blk_far (p:=⟨W.heap.size + 1 + 1,1,none⟩) (blk_far (p:=⟨W.heap.size + 1 + 1,0,none⟩) (HT2.out) (by simp) (.int .i64 0)) (by simp) (.int .i64 0)) 0 (.int .i64 0) rfl) 1 (.int .i64 0) rfl
  have y0:=bd by_ 0
  have y1:=bd by_ 1
  have z0:=bd bz 0
  have z1:=bd bz 1
  exact bodyPost_ret (v:=.tuple #[.agg #[.int .i64 0,.int .i64 0],.agg #[.int .i64 0,.int .i64 0],.int .i64 x.1]) (by simp [results,Tryz.results21,go_sem,y0,y1,z0,z1,hu43]) rfl ⟨rfl,((((HB6.out).setCell (p:=⟨W.heap.size + 1 + 1,0,none⟩) (by first|(simp;done)|(simp;omega)) (.int .i64 0)).setCell (p:=⟨W.heap.size + 1 + 1,1,none⟩) (by first|(simp;done)|(simp;omega)) (.int .i64 0)).setCell (p:=⟨W.heap.size + 1 + 1 + 1,0,none⟩) (by first|(simp;done)|(simp;omega)) (.int .i64 0)).setCell (p:=⟨W.heap.size + 1 + 1 + 1,1,none⟩) (by first|(simp;done)|(simp;omega)) (.int .i64 0)⟩
|ok Y =>
  cases hf : Y.barrows.find? (isId id) with
 |none =>
   have HE0:=am (show q = (⟨0,0⟩,⟨0,0⟩,5) by rw [HQ.out];unfold worthE;simp only [hf])
   simp only [hf] at h
   clear hf
   subst h
   have HB6:=am (below_alloc HB5.out (.cells #[.int .i64 0,.int .i64 0,.int .i64 0,.slice none 0 0] 167))
   have HR3:=am (blk_alloc HR2.out (.cells #[.int .i64 0,.int .i64 0,.int .i64 0,.slice none 0 0] 167))
   have HT2:=am (blk_alloc HT1.out (.cells #[.int .i64 0,.int .i64 0,.int .i64 0,.slice none 0 0] 167))
   have HE:=am (show q = (⟨0,0⟩,⟨0,0⟩,5) by exact HE0.out)
   have u0:=bd HR3.out 0
   have fu0:=blk_frozen HR3.out 0
   have u1:=bd HR3.out 1
   have fu1:=blk_frozen HR3.out 1
   have v0:=bd HT2.out 0
   have fv0:=blk_frozen HT2.out 0
   have v1:=bd HT2.out 1
   have fv1:=blk_frozen HT2.out 1
   go_wp2
   rw [HE.out]
   have by_:=blk_far (p:=⟨W.heap.size + 1 + 1 + 1,1,none⟩) (blk_far (p:=⟨W.heap.size + 1 + 1 + 1,0,none⟩) (blk_put (cs':=#[.int .i64 0,.int .i64 0]) (blk_put (cs':=#[.int .i64 0,.int .i64 0]) (HR3.out) 0 (.int .i64 0) rfl) 1 (.int .i64 0) rfl) (by simp) (.int .i64 0)) (by simp) (.int .i64 0)
   have bz:=blk_put (cs':=#[.int .i64 0,.int .i64 0]) (blk_put (cs':=#[.int .i64 0,.int .i64 0]) (blk_far (p:=⟨W.heap.size + 1 + 1,1,none⟩) (blk_far (p:=⟨W.heap.size + 1 + 1,0,none⟩) (HT2.out) (by simp) (.int .i64 0)) (by simp) (.int .i64 0)) 0 (.int .i64 0) rfl) 1 (.int .i64 0) rfl
   have y0:=bd by_ 0
   have y1:=bd by_ 1
   have z0:=bd bz 0
   have z1:=bd bz 1
   exact bodyPost_ret (v:=.tuple #[.agg #[.int .i64 0,.int .i64 0],.agg #[.int .i64 0,.int .i64 0],.int .i64 5]) (by simp [results,Tryz.results21,go_sem,y0,y1,z0,z1,hu43]) rfl ⟨rfl,((((HB6.out).setCell (p:=⟨W.heap.size + 1 + 1,0,none⟩) (by first|(simp;done)|(simp;omega)) (.int .i64 0)).setCell (p:=⟨W.heap.size + 1 + 1,1,none⟩) (by first|(simp;done)|(simp;omega)) (.int .i64 0)).setCell (p:=⟨W.heap.size + 1 + 1 + 1,0,none⟩) (by first|(simp;done)|(simp;omega)) (.int .i64 0)).setCell (p:=⟨W.heap.size + 1 + 1 + 1,1,none⟩) (by first|(simp;done)|(simp;omega)) (.int .i64 0)⟩
 |some b =>
   have HF:=am hf
   have HQ1:=am (show q = (if gradesE Y l = 0 then worthB b l else (⟨0,0⟩,⟨0,0⟩,gradesE Y l)) by rw [HQ.out];unfold worthE;simp only [hf])
   simp only [hf] at h
   clear hf
   obtain ⟨L,base,A3,c3,hbase,hbad,rfl,hY,hl3,hF3⟩:=h
   have HWF:=am (played_wf HQP.out)
   have HSL:=am (played_ok HQP.out).2.1
   have HBO:=am (HWF.out.barrows b (List.mem_of_find?_eq_some HF.out))
   have HL3:=am hl3
   have HY:=am (hY)
   have HF3:=am (Kd.F_now hF3)
   have HL6:=am (Kd.C_alloc HL5.out (.cells #[.int .i64 b.f0,.int .i64 b.f1,.int .i64 b.f2,.slice A3 b.f3.length c3] 167))
   have HB6:=am (below_alloc HB5.out (.cells #[.int .i64 b.f0,.int .i64 b.f1,.int .i64 b.f2,.slice A3 b.f3.length c3] 167))
   have HG4:=am (blk_alloc HG3.out (.cells #[.int .i64 b.f0,.int .i64 b.f1,.int .i64 b.f2,.slice A3 b.f3.length c3] 167))
   have HR3:=am (blk_alloc HR2.out (.cells #[.int .i64 b.f0,.int .i64 b.f1,.int .i64 b.f2,.slice A3 b.f3.length c3] 167))
   have HT2:=am (blk_alloc HT1.out (.cells #[.int .i64 b.f0,.int .i64 b.f1,.int .i64 b.f2,.slice A3 b.f3.length c3] 167))
   have HY1:=am (HY.out.move (below_alloc (Below.refl _ _) (.cells #[.int .i64 b.f0,.int .i64 b.f1,.int .i64 b.f2,.slice A3 b.f3.length c3] 167)))
   have HF31:=am (Kd.C_alloc HF3.out (.cells #[.int .i64 b.f0,.int .i64 b.f1,.int .i64 b.f2,.slice A3 b.f3.length c3] 167))
   have HX:=am (blk_new w1 (.cells #[.int .i64 b.f0,.int .i64 b.f1,.int .i64 b.f2,.slice A3 b.f3.length c3] 167))
   clear hbase hbad hY hl3 hF3
   have g0:=bd HG4.out 0
   go_wp2_with fail
   refine (grades_calls HY1.out HWF.out HSL.out B cb l HL6.out hlb).mono ?_
   rintro e w2 ⟨rfl,hb⟩
   have HL7:=am (Kd.C_below HL6.out hb)
   have HB7:=am (below_then HB6.out (below_size HB6.out) hb)
   have HG5:=am (blk_below HG4.out hb)
   have HR4:=am (blk_below HR3.out hb)
   have HT3:=am (blk_below HT2.out hb)
   have HF32:=am (Kd.C_below HF31.out hb)
   have HX1:=am (blk_below HX.out hb)
   clear hb g0
   obtain ⟨ge,hge⟩ : ∃ ge,ge = gradesE Y l:=⟨_,rfl⟩
   rw [← hge] at HQ1 ⊢
   have HGE:=am hge
   clear hge
   by_cases hg0 : ¬ ge = 0
   ·
    have HE0:=am (show q = (⟨0,0⟩,⟨0,0⟩,ge) by rw [HQ1.out];exact if_neg hg0)
    have HE:=am (show q = (⟨0,0⟩,⟨0,0⟩,ge) by exact HE0.out)
    have u0:=bd HR4.out 0
    have fu0:=blk_frozen HR4.out 0
    have u1:=bd HR4.out 1
    have fu1:=blk_frozen HR4.out 1
    have v0:=bd HT3.out 0
    have fv0:=blk_frozen HT3.out 0
    have v1:=bd HT3.out 1
    have fv1:=blk_frozen HT3.out 1
    go_wp2
    rw [HE.out]
    have by_:=blk_far (p:=⟨W.heap.size + 1 + 1 + 1,1,none⟩) (blk_far (p:=⟨W.heap.size + 1 + 1 + 1,0,none⟩) (blk_put (cs':=#[.int .i64 0,.int .i64 0]) (blk_put (cs':=#[.int .i64 0,.int .i64 0]) (HR4.out) 0 (.int .i64 0) rfl) 1 (.int .i64 0) rfl) (by simp) (.int .i64 0)) (by simp) (.int .i64 0)
    have bz:=blk_put (cs':=#[.int .i64 0,.int .i64 0]) (blk_put (cs':=#[.int .i64 0,.int .i64 0]) (blk_far (p:=⟨W.heap.size + 1 + 1,1,none⟩) (blk_far (p:=⟨W.heap.size + 1 + 1,0,none⟩) (HT3.out) (by simp) (.int .i64 0)) (by simp) (.int .i64 0)) 0 (.int .i64 0) rfl) 1 (.int .i64 0) rfl
    have y0:=bd by_ 0
    have y1:=bd by_ 1
    have z0:=bd bz 0
    have z1:=bd bz 1
    exact bodyPost_ret (v:=.tuple #[.agg #[.int .i64 0,.int .i64 0],.agg #[.int .i64 0,.int .i64 0],.int .i64 ge]) (by simp [results,Tryz.results21,go_sem,y0,y1,z0,z1,hu43]) rfl ⟨rfl,((((HB7.out).setCell (p:=⟨W.heap.size + 1 + 1,0,none⟩) (by first|(simp;done)|(simp;omega)) (.int .i64 0)).setCell (p:=⟨W.heap.size + 1 + 1,1,none⟩) (by first|(simp;done)|(simp;omega)) (.int .i64 0)).setCell (p:=⟨W.heap.size + 1 + 1 + 1,0,none⟩) (by first|(simp;done)|(simp;omega)) (.int .i64 0)).setCell (p:=⟨W.heap.size + 1 + 1 + 1,1,none⟩) (by first|(simp;done)|(simp;omega)) (.int .i64 0)⟩
   ·
    have hg0:=Decidable.not_not.1 hg0
    have HM:=am (gradesE_ok (HGE.out.symm.trans hg0)).2
    have HQ2:=am (show q = worthB b l by rw [HQ1.out];exact if_pos hg0)
    subst hg0
    have HL8:=am (Kd.C_alloc HL7.out (.cells #[.func (.func 85) #[] #[.pointer (some ⟨W.heap.size + 1,0,none⟩)]] 176))
    have HB8:=am (below_alloc HB7.out (.cells #[.func (.func 85) #[] #[.pointer (some ⟨W.heap.size + 1,0,none⟩)]] 176))
    have HG6:=am (blk_alloc HG5.out (.cells #[.func (.func 85) #[] #[.pointer (some ⟨W.heap.size + 1,0,none⟩)]] 176))
    have HR5:=am (blk_alloc HR4.out (.cells #[.func (.func 85) #[] #[.pointer (some ⟨W.heap.size + 1,0,none⟩)]] 176))
    have HT4:=am (blk_alloc HT3.out (.cells #[.func (.func 85) #[] #[.pointer (some ⟨W.heap.size + 1,0,none⟩)]] 176))
    have HF33:=am (Kd.C_alloc HF32.out (.cells #[.func (.func 85) #[] #[.pointer (some ⟨W.heap.size + 1,0,none⟩)]] 176))
    have HX2:=am (blk_alloc HX1.out (.cells #[.func (.func 85) #[] #[.pointer (some ⟨W.heap.size + 1,0,none⟩)]] 176))
    have HF:=am (blk_new w2 (.cells #[.func (.func 85) #[] #[.pointer (some ⟨W.heap.size + 1,0,none⟩)]] 176))
    have g3:=bd HX2.out 3
    have HSZ:=am (show w1.heap.size < w2.heap.size from blk_lt HX1.out)
    have ek87 : ∀ args w,(callFunc 87 args).run Tryz.prog w = .ok (.enter 87 args) w:=enters_of Tryz.func87 kr rfl
    have ek90 : ∀ args w,(callFunc 90 args).run Tryz.prog w = .ok (.enter 90 args) w:=enters_of Tryz.func90 kr rfl
    have HIN:=am (Below.refl (w2.alloc (.cells #[.func (.func 85) #[] #[.pointer (some ⟨W.heap.size + 1,0,none⟩)]] 176)).heap.size (w2.alloc (.cells #[.func (.func 85) #[] #[.pointer (some ⟨W.heap.size + 1,0,none⟩)]] 176)))
    go_wp2_with fail
    refine (total86_calls A3 c3 b.f3 (loP l) 87 _ (Below (w2.alloc (.cells #[.func (.func 85) #[] #[.pointer (some ⟨W.heap.size + 1,0,none⟩)]] 176)).heap.size (w2.alloc (.cells #[.func (.func 85) #[] #[.pointer (some ⟨W.heap.size + 1,0,none⟩)]] 176))) _ (Kd.C_below HF33.out HIN.out) HL3.out ek87 HIN.out (fun w w' h hb => below_then h (below_size h) hb) (fun x w hx h => cl87_calls B cb l (Kd.C_below HL8.out h) hlb (W.heap.size + 1) w2.heap.size (blk_below HG6.out h) (blk_below HF.out h) HM.out x (HBO.out.par.parts x hx).1)).mono ?_
    rintro e w3 ⟨rfl,hb⟩
    rw [totalE_eq]
    have HI3:=am (show Below (w2.alloc (.cells #[.func (.func 85) #[] #[.pointer (some ⟨W.heap.size + 1,0,none⟩)]] 176)).heap.size (w2.alloc (.cells #[.func (.func 85) #[] #[.pointer (some ⟨W.heap.size + 1,0,none⟩)]] 176)) w3 from hb)
    have HB9:=am (below_then HB8.out (below_size HB8.out) hb)
    have HR6:=am (blk_below HR5.out hb)
    have HT5:=am (blk_below HT4.out hb)
    have HX3:=am (blk_below HX2.out hb)
    clear hb g3
    have HSP1:=am (show w1.heap.size < w3.heap.size from Nat.lt_of_lt_of_le (show w1.heap.size < (w2.alloc (.cells #[.func (.func 85) #[] #[.pointer (some ⟨W.heap.size + 1,0,none⟩)]] 176)).heap.size from Nat.lt_of_lt_of_le HSZ.out (by simp)) HI3.out.size)
    obtain ⟨n1,hn1⟩ : ∃ n1,n1 = (totalP (loP l) b.f3).getD ⟨0,0⟩:=⟨_,rfl⟩
    obtain ⟨k1,hk1⟩ : ∃ k1,k1 = (totalP (loP l) b.f3).isSome:=⟨_,rfl⟩
    rw [← hn1,← hk1]
    have HN1:=am hn1
    have HK1:=am hk1
    clear hn1 hk1
    have HB10:=am (below_alloc HB9.out (.cells #[.int .i64 n1.f0,.int .i64 n1.f1] 43))
    have HR7:=am (blk_alloc HR6.out (.cells #[.int .i64 n1.f0,.int .i64 n1.f1] 43))
    have HT6:=am (blk_alloc HT5.out (.cells #[.int .i64 n1.f0,.int .i64 n1.f1] 43))
    have HX4:=am (blk_alloc HX3.out (.cells #[.int .i64 n1.f0,.int .i64 n1.f1] 43))
    have HP:=am (blk_new w3 (.cells #[.int .i64 n1.f0,.int .i64 n1.f1] 43))
    have HI4:=am (below_alloc HI3.out (.cells #[.int .i64 n1.f0,.int .i64 n1.f1] 43))
    have g3:=bd HX4.out 3
    go_wp2_with fail
    refine (total86_calls A3 c3 b.f3 (hiP l) 90 _ (Below (w2.alloc (.cells #[.func (.func 85) #[] #[.pointer (some ⟨W.heap.size + 1,0,none⟩)]] 176)).heap.size (w2.alloc (.cells #[.func (.func 85) #[] #[.pointer (some ⟨W.heap.size + 1,0,none⟩)]] 176))) _ (Kd.C_below HF33.out HI4.out) HL3.out ek90 HI4.out (fun w w' h hb => below_then h (below_size h) hb) (fun x w hx h => cl90_calls B cb l (Kd.C_below HL8.out h) hlb (W.heap.size + 1) w2.heap.size (blk_below HG6.out h) (blk_below HF.out h) HM.out x (HBO.out.par.parts x hx).1)).mono ?_
    rintro e w4 ⟨rfl,hb⟩
    rw [totalE_eq]
    have HB11:=am (below_then HB10.out (below_size HB10.out) hb)
    have HR8:=am (blk_below HR7.out hb)
    have HT7:=am (blk_below HT6.out hb)
    have HX5:=am (blk_below HX4.out hb)
    have HP1:=am (blk_below HP.out hb)
    clear hb g3 HI3 HI4 HIN
    have HSP2:=am (show w3.heap.size < w4.heap.size from blk_lt HP1.out)
    obtain ⟨n2,hn2⟩ : ∃ n2,n2 = (totalP (hiP l) b.f3).getD ⟨0,0⟩:=⟨_,rfl⟩
    obtain ⟨k2,hk2⟩ : ∃ k2,k2 = (totalP (hiP l) b.f3).isSome:=⟨_,rfl⟩
    rw [← hn2,← hk2]
    have HN2:=am hn2
    have HK2:=am hk2
    clear hn2 hk2
    have HB12:=am (below_alloc HB11.out (.cells #[.int .i64 n2.f0,.int .i64 n2.f1] 43))
    have HR9:=am (blk_alloc HR8.out (.cells #[.int .i64 n2.f0,.int .i64 n2.f1] 43))
    have HT8:=am (blk_alloc HT7.out (.cells #[.int .i64 n2.f0,.int .i64 n2.f1] 43))
    have HX6:=am (blk_alloc HX5.out (.cells #[.int .i64 n2.f0,.int .i64 n2.f1] 43))
    have HP2:=am (blk_alloc HP1.out (.cells #[.int .i64 n2.f0,.int .i64 n2.f1] 43))
    have HH:=am (blk_new w4 (.cells #[.int .i64 n2.f0,.int .i64 n2.f1] 43))
    cases k1 with
   |false =>
     have HE:=am (show q = (⟨0,0⟩,⟨0,0⟩,3) by rw [HQ2.out];unfold worthB;rw [if_neg (by rw [← HK1.out];simp)])
     have u0:=bd HR9.out 0
     have fu0:=blk_frozen HR9.out 0
     have u1:=bd HR9.out 1
     have fu1:=blk_frozen HR9.out 1
     have v0:=bd HT8.out 0
     have fv0:=blk_frozen HT8.out 0
     have v1:=bd HT8.out 1
     have fv1:=blk_frozen HT8.out 1
     go_wp2
     rw [HE.out]
     have by_:=blk_far (p:=⟨W.heap.size + 1 + 1 + 1,1,none⟩) (blk_far (p:=⟨W.heap.size + 1 + 1 + 1,0,none⟩) (blk_put (cs':=#[.int .i64 0,.int .i64 0]) (blk_put (cs':=#[.int .i64 0,.int .i64 0]) (HR9.out) 0 (.int .i64 0) rfl) 1 (.int .i64 0) rfl) (by simp) (.int .i64 0)) (by simp) (.int .i64 0)
     have bz:=blk_put (cs':=#[.int .i64 0,.int .i64 0]) (blk_put (cs':=#[.int .i64 0,.int .i64 0]) (blk_far (p:=⟨W.heap.size + 1 + 1,1,none⟩) (blk_far (p:=⟨W.heap.size + 1 + 1,0,none⟩) (HT8.out) (by simp) (.int .i64 0)) (by simp) (.int .i64 0)) 0 (.int .i64 0) rfl) 1 (.int .i64 0) rfl
     have y0:=bd by_ 0
     have y1:=bd by_ 1
     have z0:=bd bz 0
     have z1:=bd bz 1
     exact bodyPost_ret (v:=.tuple #[.agg #[.int .i64 0,.int .i64 0],.agg #[.int .i64 0,.int .i64 0],.int .i64 3]) (by simp [results,Tryz.results21,go_sem,y0,y1,z0,z1,hu43]) rfl ⟨rfl,((((HB12.out).setCell (p:=⟨W.heap.size + 1 + 1,0,none⟩) (by first|(simp;done)|(simp;omega)) (.int .i64 0)).setCell (p:=⟨W.heap.size + 1 + 1,1,none⟩) (by first|(simp;done)|(simp;omega)) (.int .i64 0)).setCell (p:=⟨W.heap.size + 1 + 1 + 1,0,none⟩) (by first|(simp;done)|(simp;omega)) (.int .i64 0)).setCell (p:=⟨W.heap.size + 1 + 1 + 1,1,none⟩) (by first|(simp;done)|(simp;omega)) (.int .i64 0)⟩
   |true =>
     cases k2 with
    |false =>
      have HE:=am (show q = (⟨0,0⟩,⟨0,0⟩,3) by rw [HQ2.out];unfold worthB;rw [if_pos HK1.out.symm,if_neg (by rw [← HK2.out];simp)])
      have u0:=bd HR9.out 0
      have fu0:=blk_frozen HR9.out 0
      have u1:=bd HR9.out 1
      have fu1:=blk_frozen HR9.out 1
      have v0:=bd HT8.out 0
      have fv0:=blk_frozen HT8.out 0
      have v1:=bd HT8.out 1
      have fv1:=blk_frozen HT8.out 1
      go_wp2
      rw [HE.out]
      have by_:=blk_far (p:=⟨W.heap.size + 1 + 1 + 1,1,none⟩) (blk_far (p:=⟨W.heap.size + 1 + 1 + 1,0,none⟩) (blk_put (cs':=#[.int .i64 0,.int .i64 0]) (blk_put (cs':=#[.int .i64 0,.int .i64 0]) (HR9.out) 0 (.int .i64 0) rfl) 1 (.int .i64 0) rfl) (by simp) (.int .i64 0)) (by simp) (.int .i64 0)
      have bz:=blk_put (cs':=#[.int .i64 0,.int .i64 0]) (blk_put (cs':=#[.int .i64 0,.int .i64 0]) (blk_far (p:=⟨W.heap.size + 1 + 1,1,none⟩) (blk_far (p:=⟨W.heap.size + 1 + 1,0,none⟩) (HT8.out) (by simp) (.int .i64 0)) (by simp) (.int .i64 0)) 0 (.int .i64 0) rfl) 1 (.int .i64 0) rfl
      have y0:=bd by_ 0
      have y1:=bd by_ 1
      have z0:=bd bz 0
      have z1:=bd bz 1
      exact bodyPost_ret (v:=.tuple #[.agg #[.int .i64 0,.int .i64 0],.agg #[.int .i64 0,.int .i64 0],.int .i64 3]) (by simp [results,Tryz.results21,go_sem,y0,y1,z0,z1,hu43]) rfl ⟨rfl,((((HB12.out).setCell (p:=⟨W.heap.size + 1 + 1,0,none⟩) (by first|(simp;done)|(simp;omega)) (.int .i64 0)).setCell (p:=⟨W.heap.size + 1 + 1,1,none⟩) (by first|(simp;done)|(simp;omega)) (.int .i64 0)).setCell (p:=⟨W.heap.size + 1 + 1 + 1,0,none⟩) (by first|(simp;done)|(simp;omega)) (.int .i64 0)).setCell (p:=⟨W.heap.size + 1 + 1 + 1,1,none⟩) (by first|(simp;done)|(simp;omega)) (.int .i64 0)⟩
    |true =>
      have HV1:=am (show validP n1 = true by rw [HN1.out];exact total_valid_of HK1.out.symm)
      have HV2:=am (show validP n2 = true by rw [HN2.out];exact total_valid_of HK2.out.symm)
      have HT1:=am (times_valid HV1.out (n:=1) (m:=b.f2) (by omega) (by omega) HBO.out.lo (by have:=HBO.out.hi;omega))
      have HT2:=am (times_valid HV2.out (n:=1) (m:=b.f2) (by omega) (by omega) HBO.out.lo (by have:=HBO.out.hi;omega))
      have HQ3:=am (show q = (if validP (timesP n1 1 b.f2) = true then (if validP (timesP n2 1 b.f2) = true then (timesP n1 1 b.f2,timesP n2 1 b.f2,0) else (⟨0,0⟩,⟨0,0⟩,3)) else (⟨0,0⟩,⟨0,0⟩,3)) by rw [HQ2.out];unfold worthB;rw [if_pos HK1.out.symm,if_pos HK2.out.symm,← HN1.out,← HN2.out])
      obtain ⟨r1,hr1⟩ : ∃ r1,r1 = timesP n1 1 b.f2:=⟨_,rfl⟩
      obtain ⟨r2,hr2⟩ : ∃ r2,r2 = timesP n2 1 b.f2:=⟨_,rfl⟩
      rw [← hr1] at HT1 HQ3
      rw [← hr2] at HT2 HQ3
      clear hr1 hr2
      obtain ⟨m1,hm1⟩ : ∃ m1,m1 = validP r1:=⟨_,rfl⟩
      obtain ⟨m2,hm2⟩ : ∃ m2,m2 = validP r2:=⟨_,rfl⟩
      have HVA:=am (show pit_valid.f FU r1.f0 r1.f1 = some m1 by rw [hm1];exact valid_some r1)
      have HVB:=am (show pit_valid.f FU r2.f0 r2.f1 = some m2 by rw [hm2];exact valid_some r2)
      rw [← hm1,← hm2] at HQ3
      clear hm1 hm2
      have HS1:=am (show w1.heap.size < w3.heap.size from HSP1.out)
      have HS2:=am (show w3.heap.size < w4.heap.size from HSP2.out)
      have HB13:=am (below_drew HB12.out)
      have HR10:=am (blk_drew HR9.out)
      have HT9:=am (blk_drew HT8.out)
      have HX7:=am (blk_drew HX6.out)
      have HP3:=am (blk_drew HP2.out)
      have HH1:=am (blk_drew HH.out)
      go_wp2
      refine start_ (n:=10) (S:=fun w' => w'.cell? ⟨w3.heap.size,0,none⟩ = some (.int .i64 n1.f0) ∧ w'.cell? ⟨w3.heap.size,1,none⟩ = some (.int .i64 n1.f1) ∧ w'.cell? ⟨w1.heap.size,2,none⟩ = some (.int .i64 b.f2) ∧ w'.cell? ⟨w4.heap.size,0,none⟩ = some (.int .i64 n2.f0) ∧ w'.cell? ⟨w4.heap.size,1,none⟩ = some (.int .i64 n2.f1)) (ds:=[8,9]) (ab 10 0) kr rfl kr ⟨(blk_cell HP3.out 0).trans rfl,(blk_cell HP3.out 1).trans rfl,(blk_cell HX7.out 2).trans rfl,(blk_cell HH1.out 0).trans rfl,(blk_cell HH1.out 1).trans rfl⟩ (fun hHeld => ?_);refine with_tabW R21_12.tab R21_12.bits (fun HT_ HW_ => ?_)
      generalize ((w4.alloc (.cells #[.int .i64 n2.f0,.int .i64 n2.f1] 43))).drew = wd at HB13 HR10 HT9 HX7 HP3 HH1 hHeld ⊢
      refine qT 0 (some 61) ?_;refine qA 1 (some 62) ?_;refine qT 2 (some 63) ?_;refine qT 4 (some 65) ?_;refine qA 5 (some 66) ?_;refine qT 6 (some 67) ?_
      refine qE 3 (some 64) fun K hK => ?_
      refine gC Tryz.func88 #[.agg #[.int .i64 n1.f0,.int .i64 n1.f1],.int .i64 1,.int .i64 b.f2] ?_
      refine (pit_times.calls FU _ _ _ _ _ _ _ HT1.out).mono ?_
      rintro e w6 ⟨rfl,hb⟩
      have HB14:=am (below_then HB13.out (below_size HB13.out) hb)
      have HR11:=am (blk_below HR10.out hb)
      have HT10:=am (blk_below HT9.out hb)
      have HX8:=am (blk_below HX7.out hb)
      have HP4:=am (blk_below HP3.out hb)
      have HH2:=am (blk_below HH1.out hb)
      clear hb
      refine ⟨_,rfl,?_⟩
      refine hK.out _ _ ⟨(blk_cell HP4.out 0).trans rfl,(blk_cell HP4.out 1).trans rfl,(blk_cell HX8.out 2).trans rfl,(blk_cell HH2.out 0).trans rfl,(blk_cell HH2.out 1).trans rfl⟩ (fun hHeld => ?_)
      clear hK K
      refine qN (some 64) ?_
      refine qE 7 (some 68) fun K hK => ?_
      refine gC Tryz.func88 #[.agg #[.int .i64 n2.f0,.int .i64 n2.f1],.int .i64 1,.int .i64 b.f2] ?_
      refine (pit_times.calls FU _ _ _ _ _ _ _ HT2.out).mono ?_
      rintro e w7 ⟨rfl,hb⟩
      have HB15:=am (below_then HB14.out (below_size HB14.out) hb)
      have HR12:=am (blk_below HR11.out hb)
      have HT11:=am (blk_below HT10.out hb)
      have HX9:=am (blk_below HX8.out hb)
      have HP5:=am (blk_below HP4.out hb)
      have HH3:=am (blk_below HH2.out hb)
      clear hb
      refine ⟨_,rfl,?_⟩
      refine hK.out _ _ ⟨(blk_cell HP5.out 0).trans rfl,(blk_cell HP5.out 1).trans rfl,(blk_cell HX9.out 2).trans rfl,(blk_cell HH3.out 0).trans rfl,(blk_cell HH3.out 1).trans rfl⟩ (fun hHeld => ?_)
      clear hK K
      refine qN (some 68) ?_
      refine qL 8 (none) fun K hK => ?_
      have u0:=bd HP5.out 0
      have fu0:=blk_frozen HP5.out 0
      have u1:=bd HP5.out 1
      have fu1:=blk_frozen HP5.out 1
      refine skip_ (w1:=?_) (by rfl) rfl ?_ ?_
      rotate_left
      ·go_simp
       rfl
      have HB16:=am (((HB15.out).setCell (p:=⟨w3.heap.size,0,none⟩) (by have h1:=HS1.out;have h2:=HS2.out;have h3:=HLT.out;(try dsimp only);omega) (.int .i64 r1.f0)).setCell (p:=⟨w3.heap.size,1,none⟩) (by have h1:=HS1.out;have h2:=HS2.out;have h3:=HLT.out;(try dsimp only);omega) (.int .i64 r1.f1))
      have HR13:=am (blk_far (p:=⟨w3.heap.size,1,none⟩) (blk_far (p:=⟨w3.heap.size,0,none⟩) (HR12.out) (by have h1:=HS1.out;have h2:=HS2.out;have h3:=HLT.out;(try dsimp only);omega) (.int .i64 r1.f0)) (by have h1:=HS1.out;have h2:=HS2.out;have h3:=HLT.out;(try dsimp only);omega) (.int .i64 r1.f1))
      have HT12:=am (blk_far (p:=⟨w3.heap.size,1,none⟩) (blk_far (p:=⟨w3.heap.size,0,none⟩) (HT11.out) (by have h1:=HS1.out;have h2:=HS2.out;have h3:=HLT.out;(try dsimp only);omega) (.int .i64 r1.f0)) (by have h1:=HS1.out;have h2:=HS2.out;have h3:=HLT.out;(try dsimp only);omega) (.int .i64 r1.f1))
      have HX10:=am (blk_far (p:=⟨w3.heap.size,1,none⟩) (blk_far (p:=⟨w3.heap.size,0,none⟩) (HX9.out) (by have h1:=HS1.out;have h2:=HS2.out;have h3:=HLT.out;(try dsimp only);omega) (.int .i64 r1.f0)) (by have h1:=HS1.out;have h2:=HS2.out;have h3:=HLT.out;(try dsimp only);omega) (.int .i64 r1.f1))
      have HH4:=am (blk_far (p:=⟨w3.heap.size,1,none⟩) (blk_far (p:=⟨w3.heap.size,0,none⟩) (HH3.out) (by have h1:=HS1.out;have h2:=HS2.out;have h3:=HLT.out;(try dsimp only);omega) (.int .i64 r1.f0)) (by have h1:=HS1.out;have h2:=HS2.out;have h3:=HLT.out;(try dsimp only);omega) (.int .i64 r1.f1))
      have HP6:=am (blk_put (cs':=#[.int .i64 r1.f0,.int .i64 r1.f1]) (blk_put (cs':=#[.int .i64 r1.f0,.int .i64 n1.f1]) (HP5.out) 0 (.int .i64 r1.f0) rfl) 1 (.int .i64 r1.f1) rfl)
      refine hK.out _ _ ?_
      clear hK K
      refine qL 9 (none) fun K hK => ?_
      have v0:=bd HH4.out 0
      have fv0:=blk_frozen HH4.out 0
      have v1:=bd HH4.out 1
      have fv1:=blk_frozen HH4.out 1
      refine skip_ (w1:=?_) (by rfl) rfl ?_ ?_
      rotate_left
      ·go_simp
       rfl
      have HB17:=am (((HB16.out).setCell (p:=⟨w4.heap.size,0,none⟩) (by have h1:=HS1.out;have h2:=HS2.out;have h3:=HLT.out;(try dsimp only);omega) (.int .i64 r2.f0)).setCell (p:=⟨w4.heap.size,1,none⟩) (by have h1:=HS1.out;have h2:=HS2.out;have h3:=HLT.out;(try dsimp only);omega) (.int .i64 r2.f1))
      have HR14:=am (blk_far (p:=⟨w4.heap.size,1,none⟩) (blk_far (p:=⟨w4.heap.size,0,none⟩) (HR13.out) (by have h1:=HS1.out;have h2:=HS2.out;have h3:=HLT.out;(try dsimp only);omega) (.int .i64 r2.f0)) (by have h1:=HS1.out;have h2:=HS2.out;have h3:=HLT.out;(try dsimp only);omega) (.int .i64 r2.f1))
      have HT13:=am (blk_far (p:=⟨w4.heap.size,1,none⟩) (blk_far (p:=⟨w4.heap.size,0,none⟩) (HT12.out) (by have h1:=HS1.out;have h2:=HS2.out;have h3:=HLT.out;(try dsimp only);omega) (.int .i64 r2.f0)) (by have h1:=HS1.out;have h2:=HS2.out;have h3:=HLT.out;(try dsimp only);omega) (.int .i64 r2.f1))
      have HX11:=am (blk_far (p:=⟨w4.heap.size,1,none⟩) (blk_far (p:=⟨w4.heap.size,0,none⟩) (HX10.out) (by have h1:=HS1.out;have h2:=HS2.out;have h3:=HLT.out;(try dsimp only);omega) (.int .i64 r2.f0)) (by have h1:=HS1.out;have h2:=HS2.out;have h3:=HLT.out;(try dsimp only);omega) (.int .i64 r2.f1))
      have HP7:=am (blk_far (p:=⟨w4.heap.size,1,none⟩) (blk_far (p:=⟨w4.heap.size,0,none⟩) (HP6.out) (by have h1:=HS1.out;have h2:=HS2.out;have h3:=HLT.out;(try dsimp only);omega) (.int .i64 r2.f0)) (by have h1:=HS1.out;have h2:=HS2.out;have h3:=HLT.out;(try dsimp only);omega) (.int .i64 r2.f1))
      have HH5:=am (blk_put (cs':=#[.int .i64 r2.f0,.int .i64 r2.f1]) (blk_put (cs':=#[.int .i64 r2.f0,.int .i64 n2.f1]) (HH4.out) 0 (.int .i64 r2.f0) rfl) 1 (.int .i64 r2.f1) rfl)
      refine hK.out _ _ ?_
      clear hK K
      refine done_ (done_of HT_.out kr) ?_
      clear u0 u1 fu0 fu1 v0 v1 fv0 fv1
      generalize ((((w7.setCell ⟨w3.heap.size,0,none⟩ (.int .i64 r1.f0)).setCell ⟨w3.heap.size,1,none⟩ (.int .i64 r1.f1)).setCell ⟨w4.heap.size,0,none⟩ (.int .i64 r2.f0)).setCell ⟨w4.heap.size,1,none⟩ (.int .i64 r2.f1)) = w9 at HB17 HR14 HT13 HX11 HP7 HH5 ⊢
      have g0:=bd HP7.out 0
      have g1:=bd HP7.out 1
      go_wp2_with fail
      refine (pit_valid.calls FU _ _ _ _ HVA.out).mono ?_
      rintro e w10 ⟨rfl,hb⟩
      have HB18:=am (below_then HB17.out (below_size HB17.out) hb)
      have HR15:=am (blk_below HR14.out hb)
      have HT14:=am (blk_below HT13.out hb)
      have HP8:=am (blk_below HP7.out hb)
      have HH6:=am (blk_below HH5.out hb)
      clear hb g0 g1
      cases m1 with
     |false =>
       have HE:=am (show q = (⟨0,0⟩,⟨0,0⟩,3) by rw [HQ3.out];exact if_neg (by simp))
       have u0:=bd HR15.out 0
       have fu0:=blk_frozen HR15.out 0
       have u1:=bd HR15.out 1
       have fu1:=blk_frozen HR15.out 1
       have v0:=bd HT14.out 0
       have fv0:=blk_frozen HT14.out 0
       have v1:=bd HT14.out 1
       have fv1:=blk_frozen HT14.out 1
       go_wp2
       rw [HE.out]
       have by_:=blk_far (p:=⟨W.heap.size + 1 + 1 + 1,1,none⟩) (blk_far (p:=⟨W.heap.size + 1 + 1 + 1,0,none⟩) (blk_put (cs':=#[.int .i64 0,.int .i64 0]) (blk_put (cs':=#[.int .i64 0,.int .i64 0]) (HR15.out) 0 (.int .i64 0) rfl) 1 (.int .i64 0) rfl) (by simp) (.int .i64 0)) (by simp) (.int .i64 0)
       have bz:=blk_put (cs':=#[.int .i64 0,.int .i64 0]) (blk_put (cs':=#[.int .i64 0,.int .i64 0]) (blk_far (p:=⟨W.heap.size + 1 + 1,1,none⟩) (blk_far (p:=⟨W.heap.size + 1 + 1,0,none⟩) (HT14.out) (by simp) (.int .i64 0)) (by simp) (.int .i64 0)) 0 (.int .i64 0) rfl) 1 (.int .i64 0) rfl
       have y0:=bd by_ 0
       have y1:=bd by_ 1
       have z0:=bd bz 0
       have z1:=bd bz 1
       exact bodyPost_ret (v:=.tuple #[.agg #[.int .i64 0,.int .i64 0],.agg #[.int .i64 0,.int .i64 0],.int .i64 3]) (by simp [results,Tryz.results21,go_sem,y0,y1,z0,z1,hu43]) rfl ⟨rfl,((((HB18.out).setCell (p:=⟨W.heap.size + 1 + 1,0,none⟩) (by first|(simp;done)|(simp;omega)) (.int .i64 0)).setCell (p:=⟨W.heap.size + 1 + 1,1,none⟩) (by first|(simp;done)|(simp;omega)) (.int .i64 0)).setCell (p:=⟨W.heap.size + 1 + 1 + 1,0,none⟩) (by first|(simp;done)|(simp;omega)) (.int .i64 0)).setCell (p:=⟨W.heap.size + 1 + 1 + 1,1,none⟩) (by first|(simp;done)|(simp;omega)) (.int .i64 0)⟩
     |true =>
       have g0:=bd HH6.out 0
       have g1:=bd HH6.out 1
       go_wp2_with fail
       refine (pit_valid.calls FU _ _ _ _ HVB.out).mono ?_
       rintro e w11 ⟨rfl,hb⟩
       have HB19:=am (below_then HB18.out (below_size HB18.out) hb)
       have HR16:=am (blk_below HR15.out hb)
       have HT15:=am (blk_below HT14.out hb)
       have HP9:=am (blk_below HP8.out hb)
       have HH7:=am (blk_below HH6.out hb)
       clear hb g0 g1
       cases m2 with
      |false =>
        have HE:=am (show q = (⟨0,0⟩,⟨0,0⟩,3) by rw [HQ3.out];rfl)
        have u0:=bd HR16.out 0
        have fu0:=blk_frozen HR16.out 0
        have u1:=bd HR16.out 1
        have fu1:=blk_frozen HR16.out 1
        have v0:=bd HT15.out 0
        have fv0:=blk_frozen HT15.out 0
        have v1:=bd HT15.out 1
        have fv1:=blk_frozen HT15.out 1
        go_wp2
        rw [HE.out]
        have by_:=blk_far (p:=⟨W.heap.size + 1 + 1 + 1,1,none⟩) (blk_far (p:=⟨W.heap.size + 1 + 1 + 1,0,none⟩) (blk_put (cs':=#[.int .i64 0,.int .i64 0]) (blk_put (cs':=#[.int .i64 0,.int .i64 0]) (HR16.out) 0 (.int .i64 0) rfl) 1 (.int .i64 0) rfl) (by simp) (.int .i64 0)) (by simp) (.int .i64 0)
        have bz:=blk_put (cs':=#[.int .i64 0,.int .i64 0]) (blk_put (cs':=#[.int .i64 0,.int .i64 0]) (blk_far (p:=⟨W.heap.size + 1 + 1,1,none⟩) (blk_far (p:=⟨W.heap.size + 1 + 1,0,none⟩) (HT15.out) (by simp) (.int .i64 0)) (by simp) (.int .i64 0)) 0 (.int .i64 0) rfl) 1 (.int .i64 0) rfl
        have y0:=bd by_ 0
        have y1:=bd by_ 1
        have z0:=bd bz 0
        have z1:=bd bz 1
        exact bodyPost_ret (v:=.tuple #[.agg #[.int .i64 0,.int .i64 0],.agg #[.int .i64 0,.int .i64 0],.int .i64 3]) (by simp [results,Tryz.results21,go_sem,y0,y1,z0,z1,hu43]) rfl ⟨rfl,((((HB19.out).setCell (p:=⟨W.heap.size + 1 + 1,0,none⟩) (by first|(simp;done)|(simp;omega)) (.int .i64 0)).setCell (p:=⟨W.heap.size + 1 + 1,1,none⟩) (by first|(simp;done)|(simp;omega)) (.int .i64 0)).setCell (p:=⟨W.heap.size + 1 + 1 + 1,0,none⟩) (by first|(simp;done)|(simp;omega)) (.int .i64 0)).setCell (p:=⟨W.heap.size + 1 + 1 + 1,1,none⟩) (by first|(simp;done)|(simp;omega)) (.int .i64 0)⟩
      |true =>
        have HE:=am (show q = (r1,r2,0) by rw [HQ3.out];rfl)
        have HB20:=am (below_drew HB19.out)
        have HR17:=am (blk_drew HR16.out)
        have HT16:=am (blk_drew HT15.out)
        have HP10:=am (blk_drew HP9.out)
        have HH8:=am (blk_drew HH7.out)
        go_wp2
        refine start_ (n:=5) (S:=fun w' => w'.cell? ⟨w3.heap.size,0,none⟩ = some (.int .i64 r1.f0) ∧ w'.cell? ⟨w3.heap.size,1,none⟩ = some (.int .i64 r1.f1) ∧ w'.cell? ⟨w4.heap.size,0,none⟩ = some (.int .i64 r2.f0) ∧ w'.cell? ⟨w4.heap.size,1,none⟩ = some (.int .i64 r2.f1)) (ds:=[3]) (ab 5 0) kr rfl kr ⟨(blk_cell HP10.out 0).trans rfl,(blk_cell HP10.out 1).trans rfl,(blk_cell HH8.out 0).trans rfl,(blk_cell HH8.out 1).trans rfl⟩ (fun hHeld => ?_);refine with_tabW R21_15.tab R21_15.bits (fun HT_ HW_ => ?_)
        generalize (w11).drew = wd at HB20 HR17 HT16 HP10 HH8 hHeld ⊢
        refine qT 0 (some 79) ?_;refine qT 1 (some 80) ?_
        refine qE 2 (none) fun K hK => ?_
        have u0:=bd HR17.out 0
        have fu0:=blk_frozen HR17.out 0
        have u1:=bd HR17.out 1
        have fu1:=blk_frozen HR17.out 1
        refine skip_ (w1:=?_) (by rfl) rfl ?_ ?_
        rotate_left
        ·go_simp
         rfl
        have HT17:=am (blk_far (p:=⟨W.heap.size + 1 + 1,1,none⟩) (blk_far (p:=⟨W.heap.size + 1 + 1,0,none⟩) (HT16.out) (by have h1:=HS1.out;have h2:=HS2.out;have h3:=HLT.out;(try dsimp only);omega) (.int .i64 r1.f0)) (by have h1:=HS1.out;have h2:=HS2.out;have h3:=HLT.out;(try dsimp only);omega) (.int .i64 r1.f1))
        have HP11:=am (blk_far (p:=⟨W.heap.size + 1 + 1,1,none⟩) (blk_far (p:=⟨W.heap.size + 1 + 1,0,none⟩) (HP10.out) (by have h1:=HS1.out;have h2:=HS2.out;have h3:=HLT.out;(try dsimp only);omega) (.int .i64 r1.f0)) (by have h1:=HS1.out;have h2:=HS2.out;have h3:=HLT.out;(try dsimp only);omega) (.int .i64 r1.f1))
        have HH9:=am (blk_far (p:=⟨W.heap.size + 1 + 1,1,none⟩) (blk_far (p:=⟨W.heap.size + 1 + 1,0,none⟩) (HH8.out) (by have h1:=HS1.out;have h2:=HS2.out;have h3:=HLT.out;(try dsimp only);omega) (.int .i64 r1.f0)) (by have h1:=HS1.out;have h2:=HS2.out;have h3:=HLT.out;(try dsimp only);omega) (.int .i64 r1.f1))
        refine hK.out _ _ ⟨(blk_cell HP11.out 0).trans rfl,(blk_cell HP11.out 1).trans rfl,(blk_cell HH9.out 0).trans rfl,(blk_cell HH9.out 1).trans rfl⟩ (fun hHeld => ?_)
        clear hK K
        refine qL 3 (none) fun K hK => ?_
        have v0:=bd HT17.out 0
        have fv0:=blk_frozen HT17.out 0
        have v1:=bd HT17.out 1
        have fv1:=blk_frozen HT17.out 1
        refine skip_ (w1:=?_) (by rfl) rfl ?_ ?_
        rotate_left
        ·go_simp
         rfl
        refine hK.out _ _ ?_
        clear hK K
        refine qA 4 (some 8) ?_
        refine done_ (done_of HT_.out kr) ?_
        go_wp2
        rw [HE.out]
        have by_:=blk_far (p:=⟨W.heap.size + 1 + 1 + 1,1,none⟩) (blk_far (p:=⟨W.heap.size + 1 + 1 + 1,0,none⟩) (blk_put (cs':=#[.int .i64 r1.f0,.int .i64 r1.f1]) (blk_put (cs':=#[.int .i64 r1.f0,.int .i64 0]) (HR17.out) 0 (.int .i64 r1.f0) rfl) 1 (.int .i64 r1.f1) rfl) (by simp) (.int .i64 r2.f0)) (by simp) (.int .i64 r2.f1)
        have bz:=blk_put (cs':=#[.int .i64 r2.f0,.int .i64 r2.f1]) (blk_put (cs':=#[.int .i64 r2.f0,.int .i64 0]) (blk_far (p:=⟨W.heap.size + 1 + 1,1,none⟩) (blk_far (p:=⟨W.heap.size + 1 + 1,0,none⟩) (HT16.out) (by simp) (.int .i64 r1.f0)) (by simp) (.int .i64 r1.f1)) 0 (.int .i64 r2.f0) rfl) 1 (.int .i64 r2.f1) rfl
        have y0:=bd by_ 0
        have y1:=bd by_ 1
        have z0:=bd bz 0
        have z1:=bd bz 1
        exact bodyPost_ret (v:=.tuple #[.agg #[.int .i64 r1.f0,.int .i64 r1.f1],.agg #[.int .i64 r2.f0,.int .i64 r2.f1],.int .i64 0]) (by simp [results,Tryz.results21,go_sem,y0,y1,z0,z1,hu43]) rfl ⟨rfl,((((HB20.out).setCell (p:=⟨W.heap.size + 1 + 1,0,none⟩) (by first|(simp;done)|(simp;omega)) (.int .i64 r1.f0)).setCell (p:=⟨W.heap.size + 1 + 1,1,none⟩) (by first|(simp;done)|(simp;omega)) (.int .i64 r1.f1)).setCell (p:=⟨W.heap.size + 1 + 1 + 1,0,none⟩) (by first|(simp;done)|(simp;omega)) (.int .i64 r2.f0)).setCell (p:=⟨W.heap.size + 1 + 1 + 1,1,none⟩) (by first|(simp;done)|(simp;omega)) (.int .i64 r2.f1)⟩
set_option maxRecDepth 100000 in
set_option maxHeartbeats 1000000 in
theorem idx247_calls (A : Option Addr) (c : Nat) (l : List S137) (p : S137 → Bool) (K : Nat) (caps : Array Value) (Inv : World → Prop) (W : World) (hr : Kd.C k137 W A l.length l) (hc : l.length ≤ c)
  (ek : ∀ args w,(callFunc K args).run Tryz.prog w = .ok (.enter K args) w) (hi0 : Inv W) (hi1 : ∀ w w',Inv w → Below w.heap.size w w' → Inv w')
  (hcl : ∀ (x : S137) (w : World),x ∈ l → Inv w → Calls Tryz.prog K (#[.agg #[.int .i64 x.f0,.int .i64 x.f1.f0,.int .i64 x.f1.f1]] ++ caps) w fun e w' => e = .returned (.bool (p x)) ∧ Below w.heap.size w w') :
  Calls Tryz.prog 247 #[.slice A l.length c,.func (.func K) #[] caps] W fun e W' => e = .returned (.int .i64 (idxP p l)) ∧ Below W.heap.size W W':=by
 have HR:=am hr
 have hm:=hr.2.1
 have HI:=am hi0
 have HJ:=am hi1
 have HCL:=am hcl
 clear hr hc hi0 hi1 hcl
 have hu:=Tryz.underlying137
 have hv:=Tryz.underlying66
 go_enter Tryz.func247,Tryz.ntmps247
 go_wp2
 go_loopw [8] (fun v8 wr => ∃ j : Nat,j ≤ l.length ∧ v8 = .int .i64 (j : Int) ∧ Aside0 (∀ i (hi : i < l.length),i < j → p l[i] = false) ∧ Aside0 (Below W.heap.size W wr)) (fun v8 _ => l.length - (intOf v8).toNat)
 case atStart => exact ⟨0,Nat.zero_le _,rfl,⟨fun i _ hi => absurd hi (Nat.not_lt_zero _)⟩,⟨Below.refl _ _⟩⟩
 case round =>
  obtain ⟨j,hj,rfl,HP,HBw⟩:=hrel
  by_cases hlt : j < l.length
  ·obtain ⟨ad,e,hx0,hx1,hx2⟩:=at_T137 (Kd.C_below HR.out HBw.out) (j : Int) (by omega) (by omega)
   cases e
   rw [Int.toNat_natCast] at hx0 hx1 hx2
   have hx : rd_T137 l (j : Int) = l[j]:=by unfold rd_T137;rw [Int.toNat_natCast,List.getD_eq_getElem?_getD,List.getElem?_eq_getElem hlt];rfl
   have HC:=am (HCL.out (rd_T137 l (j : Int)) wr (by rw [hx];exact List.getElem_mem hlt) (HJ.out _ _ HI.out HBw.out))
   have HX:=am hx
   clear hx
   cases hp : p (rd_T137 l (j : Int)) with
  |true =>
    have HPx:=am hp
    rw [hp] at HC
    clear hp
    go_wp2_with fail
    refine HC.out.mono ?_
    rintro e w' ⟨rfl,hd⟩
    have HD:=am hd
    clear hd
    go_wp2
    go_ret
    exact ⟨by rw [idxP_found hlt (by rw [← HX.out];exact HPx.out) HP.out];rfl,below_then HBw.out (below_size HBw.out) HD.out⟩
  |false =>
    have HPx:=am hp
    rw [hp] at HC
    clear hp
    go_wp2_with fail
    refine HC.out.mono ?_
    rintro e w' ⟨rfl,hd⟩
    have HD:=am hd
    clear hd
    go_wp2
    go_roundw
    case rel =>
     refine ⟨j + 1,by omega,by go_num,⟨fun i hi hij => ?_⟩,⟨below_then HBw.out (below_size HBw.out) HD.out⟩⟩
     by_cases e : i = j
     ·subst e;rw [← HX.out];exact HPx.out
     ·exact HP.out i hi (by omega)
    case measure => simp [intOf];omega
  ·go_wp2
   go_ret
   exact ⟨by rw [idxP_none (fun i hi => HP.out i hi (by omega))];rfl,HBw.out⟩
set_option maxRecDepth 100000 in
theorem has229_calls (A : Option Addr) (c : Nat) (l : List S137) (p : S137 → Bool) (K : Nat) (caps : Array Value) (Inv : World → Prop) (W : World) (hr : Kd.C k137 W A l.length l) (hc : l.length ≤ c)
  (ek : ∀ args w,(callFunc K args).run Tryz.prog w = .ok (.enter K args) w) (hi0 : Inv W) (hi1 : ∀ w w',Inv w → Below w.heap.size w w' → Inv w')
  (hcl : ∀ (x : S137) (w : World),x ∈ l → Inv w → Calls Tryz.prog K (#[.agg #[.int .i64 x.f0,.int .i64 x.f1.f0,.int .i64 x.f1.f1]] ++ caps) w fun e w' => e = .returned (.bool (p x)) ∧ Below w.heap.size w w') :
  Calls Tryz.prog 229 #[.slice A l.length c,.func (.func K) #[] caps] W fun e W' => e = .returned (.bool (l.any p)) ∧ Below W.heap.size W W':=by
 have HC:=am (idx247_calls A c l p K caps Inv W hr hc ek hi0 hi1 hcl)
 clear hr hc hi0 hi1 hcl
 go_enter Tryz.func229,Tryz.ntmps229
 go_wp2_with fail
 refine HC.out.mono ?_
 rintro e w' ⟨rfl,hd⟩
 have HD:=am hd
 clear hd
 go_wp2
 go_ret
 exact ⟨by rw [← idxP_nn];rfl,HD.out⟩
def probesE (Y : Yd) (l : List S137) : Int:=if l.length ≤ 20 then askL (·.f0) (·.f1) (fun i => Y.barrows.any (isId i)) [] l else 2
theorem cl230_calls (gx : Nat) (x y : S137) (w : World) (BK : w.heap[gx]? = some (.cells #[.int .i64 x.f0,.int .i64 x.f1.f0,.int .i64 x.f1.f1] 137 (0,0))) :
  Calls Tryz.prog 230 (#[.agg #[.int .i64 y.f0,.int .i64 y.f1.f0,.int .i64 y.f1.f1]] ++ #[.pointer (some ⟨gx,0,none⟩)]) w fun e w' => e = .returned (.bool (decide (y.f0 = x.f0))) ∧ Below w.heap.size w w':=by
 have hu:=Tryz.underlying137
 have hu66:=Tryz.underlying66
 have hc : ∀ o,(w.alloc o).cell? ⟨gx,0,none⟩ = some (.int .i64 x.f0):=fun o => (blk_cell (blk_alloc BK o) 0).trans rfl
 clear BK
 go_enter Tryz.func230,Tryz.ntmps230
 go_wp2
 go_ret
 exact ⟨by simp [beqd],below_alloc (Below.refl _ _) _⟩
theorem drop_rd137 {l : List S137} {j : Nat} (h : j < l.length) : l.drop j = rd_T137 l (j : Int) :: l.drop (j + 1):=by
 rw [List.drop_eq_getElem_cons h];unfold rd_T137;rw [Int.toNat_natCast,List.getD_eq_getElem?_getD,List.getElem?_eq_getElem h];rfl
theorem take_rd137 {l : List S137} {j : Nat} (h : j < l.length) : l.take (j + 1) = l.take j ++ [rd_T137 l (j : Int)]:=by
 rw [List.take_succ_eq_append_getElem h];unfold rd_T137;rw [Int.toNat_natCast,List.getD_eq_getElem?_getD,List.getElem?_eq_getElem h];rfl
set_option maxRecDepth 100000 in
set_option maxHeartbeats 2000000 in
theorem probes_calls {W : World} {base n : Nat} {L : Loc} {Y : Yd} (hY : YardAt W base L Y) (hw : Wf n Y) (hn : n ≤ 60) (A : Option Addr) (c : Nat) (l : List S137) (hr : Kd.C k137 W A l.length l) (hlc : l.length ≤ c) :
  Calls Tryz.prog 184 #[.pointer (some ⟨L.g,0,none⟩),.slice A l.length c] W fun e W' => e = .returned (.int .i64 (probesE Y l)) ∧ Below W.heap.size W W':=by
 have hu:=Tryz.underlying137
 have hu66:=Tryz.underlying66
 have hu167:=Tryz.underlying167
 have hmf : ∀ (fn : Fn) (first cap : Array Value) (w : World),(Instr.makeFunc fn first cap).run Tryz.prog w = .ok (.func fn first cap) w:=fun _ _ _ _ => rfl
 have hmx:=hr.2.1
 have HW:=am hw
 have HC:=am hr
 have HY:=am hY
 have ekc : ∀ args w,(callFunc 230 args).run Tryz.prog w = .ok (.enter 230 args) w:=enters_of Tryz.func230 kr rfl
 obtain ⟨q,hq⟩ : ∃ q,q = probesE Y l:=⟨_,rfl⟩
 rw [← hq]
 have HQ:=am hq
 clear hq hY hw hr
 by_cases hlim : 20 < l.length
 ·
  have HE:=am (show q = 2 by rw [HQ.out];exact if_neg (by omega))
  go_enter Tryz.func184,Tryz.ntmps184
  go_wp2
  go_ret
  exact ⟨by rw [HE.out];rfl,Below.refl _ _⟩
 ·
  have HQ1:=am (show q = askL (·.f0) (·.f1) (fun i => Y.barrows.any (isId i)) [] l by rw [HQ.out];exact if_pos (by omega))
  clear HQ
  go_enter Tryz.func184,Tryz.ntmps184
  go_wp2
  go_loopw [14] (fun v14 wr => ∃ (j : Nat),j ≤ l.length ∧ v14 = .int .i64 (j : Int) ∧ Aside0 (Below W.heap.size W wr) ∧ Aside0 (q = askL (·.f0) (·.f1) (fun i => Y.barrows.any (isId i)) (l.take j) (l.drop j))) (fun v14 _ => l.length - (intOf v14).toNat)
  case atStart => exact ⟨0,Nat.zero_le _,rfl,⟨Below.refl _ _⟩,⟨by rw [HQ1.out];rfl⟩⟩
  case round =>
   obtain ⟨j,hj,rfl,HB,HA⟩:=hrel
   by_cases hlt : j < l.length
   ·
    obtain ⟨ae,e,hx0,hx1,hx2⟩:=at_T137 (Kd.C_below HC.out HB.out) (j : Int) (by omega) (by omega)
    cases e
    rw [Int.toNat_natCast] at hx0 hx1 hx2
    rw [drop_rd137 hlt] at HA
    have HT:=am (take_rd137 hlt)
    have HCT:=am (Kd.C_take HC.out (m:=j) (by omega))
    have hlj : (l.take j).length = j:=by rw [List.length_take];omega
    obtain ⟨x,hx⟩ : ∃ x,x = rd_T137 l (j : Int):=⟨_,rfl⟩
    rw [← hx] at hx0 hx1 hx2 HA HT
    obtain ⟨dn,hdn⟩ : ∃ dn,dn = l.take j:=⟨_,rfl⟩
    rw [← hdn] at HA HT HCT hlj
    have HLJ:=am hlj
    clear hx hdn hlj
    have HB1:=am (below_alloc HB.out (.cells #[.int .i64 x.f0,.int .i64 x.f1.f0,.int .i64 x.f1.f1] 137))
    have HX:=am (blk_new wr (.cells #[.int .i64 x.f0,.int .i64 x.f1.f0,.int .i64 x.f1.f1] 137))
    obtain ⟨k1,hk1⟩ : ∃ k1,k1 = (fun i => Y.barrows.any (isId i)) x.f0:=⟨_,rfl⟩
    have HK1:=am hk1
    clear hk1
    go_wp2_with fail
    refine (find_calls (HY.out.move (HB1.out)) HW.out (by omega) x.f0).mono ?_
    rintro e w5 ⟨hb,h⟩
    have HB2:=am (below_then HB1.out (below_size HB1.out) hb)
    have HX1:=am (blk_below HX.out hb)
    clear hb hx0 hx1 hx2
    cases k1 with
   |false =>
     rcases h with ⟨_,rfl⟩|⟨b,A3,c3,hfd,_⟩
     ·
      have HB3:=am (below_alloc HB2.out (.cells #[.int .i64 0,.int .i64 0,.int .i64 0,.slice none 0 0] 167))
      have HX2:=am (blk_alloc HX1.out (.cells #[.int .i64 0,.int .i64 0,.int .i64 0,.slice none 0 0] 167))
      go_wp2
      go_ret
      refine ⟨?_,HB3.out⟩
      rw [HA.out,askL_5 (known:=(fun i => Y.barrows.any (isId i))) HK1.out.symm]
      rfl
     ·exact absurd (HK1.out.trans (List.any_eq_true.2 ⟨b,List.mem_of_find?_eq_some hfd,List.find?_some hfd⟩)) (by simp)
   |true =>
     rcases h with ⟨hno,_⟩|⟨b,A3,c3,hfd,rfl,hl3,hF3⟩
     ·exact absurd (HK1.out.trans hno) (by simp)
     clear hfd hl3 hF3
     have HB3:=am (below_alloc HB2.out (.cells #[.int .i64 b.f0,.int .i64 b.f1,.int .i64 b.f2,.slice A3 b.f3.length c3] 167))
     have HX2:=am (blk_alloc HX1.out (.cells #[.int .i64 b.f0,.int .i64 b.f1,.int .i64 b.f2,.slice A3 b.f3.length c3] 167))
     have g0:=bd HX2.out 0
     have g1:=bd HX2.out 1
     have g2:=bd HX2.out 2
     obtain ⟨k2,hk2⟩ : ∃ k2,k2 = milleP x.f1:=⟨_,rfl⟩
     have HM:=am (show pit_mille.f x.f1.f0 x.f1.f1 = some k2 by rw [hk2];exact mille_some x.f1)
     have HK2:=am hk2
     clear hk2
     go_wp2_with fail
     refine (pit_mille.calls _ _ _ _ HM.out).mono ?_
     rintro e w6 ⟨rfl,hb⟩
     have HB4:=am (below_then HB3.out (below_size HB3.out) hb)
     have HX3:=am (blk_below HX2.out hb)
     clear hb g0 g1 g2
     cases k2 with
    |false =>
      go_wp2
      go_ret
      refine ⟨?_,HB4.out⟩
      rw [HA.out,askL_1 (known:=(fun i => Y.barrows.any (isId i))) HK1.out.symm HK2.out.symm]
      rfl
    |true =>
      have HH:=am (has229_calls (some ae) c dn (fun y => decide (y.f0 = x.f0)) 230 _ (fun w => w.heap[wr.heap.size]? = some (.cells #[.int .i64 x.f0,.int .i64 x.f1.f0,.int .i64 x.f1.f1] 137 (0,0))) w6 (Kd.C_below HCT.out HB4.out) (by rw [HLJ.out];omega) ekc HX3.out (fun w w' h hb => blk_below h hb) (fun y w _ h => cl230_calls _ x y w h))
      rw [HLJ.out] at HH
      obtain ⟨k3,hk3⟩ : ∃ k3,k3 = dn.any (fun y => decide (y.f0 = x.f0)):=⟨_,rfl⟩
      rw [← hk3] at HH
      have HK3:=am hk3
      clear hk3
      go_wp2_with fail
      refine HH.out.mono ?_
      rintro e w7 ⟨rfl,hb⟩
      have HB5:=am (below_then HB4.out (below_size HB4.out) hb)
      clear hb
      cases k3 with
     |true =>
       go_wp2
       go_ret
       refine ⟨?_,HB5.out⟩
       rw [HA.out,askL_6 (known:=(fun i => Y.barrows.any (isId i))) HK1.out.symm HK2.out.symm HK3.out.symm]
       rfl
     |false =>
       go_wp2
       go_roundw
       case rel => exact ⟨j + 1,by omega,by go_num,HB5,⟨by rw [HA.out,HT.out,askL_go (known:=(fun i => Y.barrows.any (isId i))) HK1.out.symm HK2.out.symm HK3.out.symm]⟩⟩
       case measure => simp [intOf];omega
   ·
    have HE:=am (show q = 0 by rw [HA.out,List.drop_eq_nil_of_le (by omega)];rfl)
    go_wp2
    go_ret
    exact ⟨by rw [HE.out];rfl,HB.out⟩
theorem ratioP_le {n d : Int} (hn : 0 ≤ n) (hd : 1 ≤ d) : (ratioP n d).f0 ≤ n ∧ (ratioP n d).f1 ≤ d:=⟨Int.ediv_le_self _ hn,Int.ediv_le_self _ (by omega)⟩
theorem ratioP_mono {n d : Int} (hn : 0 ≤ n) (hd : 1 ≤ d) (h : n ≤ d) : (ratioP n d).f0 ≤ (ratioP n d).f1:=Int.ediv_le_ediv (by have:=gcd_ne (a:=n) hd;omega) h
theorem partL_le {pours : List Int} {n : Int} {l : List S89} (h : ∀ x ∈ l,x.f1.f0 ≤ n * x.f1.f1) (hn : 0 ≤ n) (pour : Int) : (partL l pour).f0 ≤ n * (partL l pour).f1:=by
 induction l with
|nil => show (0 : Int) ≤ n * 1;omega
|cons x r ih =>
  rw [partL_cons]
  split
  ·exact h x List.mem_cons_self
  ·exact ih fun y hy => h y (List.mem_cons_of_mem _ hy)
theorem shareP_bnd {n : Nat} {pours : List Int} {b : S167} (h : BarrowOk n pours b) (pour : Int) : Rok (shareP b pour) ∧ (shareP b pour).f0 ≤ (shareP b pour).f1 ∧ (shareP b pour).f1 ≤ 16384000:=by
 obtain ⟨h1,h2,h3⟩:=partP_ok h pour
 have h4:=h.lo
 have h5:=h.hi
 have h6 : (partP b pour).f0 ≤ b.f2 * (partP b pour).f1:=partL_le (pours:=pours) (n:=b.f2) (fun x hx => h.par.part_le hx) (by omega) pour
 have h7:=mul_pos_ h1.2.1 h4
 have h8:=mul_bound (show 0 ≤ (partP b pour).f1 by have:=h1.2.1;omega) (show 0 ≤ b.f2 by omega) h3 h5
 have h9 : 0 ≤ (partP b pour).f0 * 1:=by have:=h1.1;omega
 have h10:=ratioP_le h9 h7
 have h11:=ratioP_mono h9 h7 (by rw [Int.mul_comm (partP b pour).f1];omega)
 exact ⟨timesP_ok h1 (by omega) h4,h11,by show (ratioP _ _).f1 ≤ _;omega⟩
def EndOk (r : S43) : Prop:=Rok r ∧ r.f0 ≤ 16384000000 ∧ r.f1 ≤ 16384000
def endP (m : Int) (s : S43) : S43:=ratioP (m * s.f1) s.f0
theorem endP_ok {m : Int} {s : S43} (hm : 0 ≤ m) (hm2 : m ≤ 1000) (h : Rok s) (h1 : s.f0 ≤ s.f1) (h2 : s.f1 ≤ 16384000) (h3 : 1 ≤ s.f0) :
  EndOk (endP m s) ∧ 0 ≤ m * s.f1 ∧ m * s.f1 ≤ 16384000000 ∧ pit_ratio.f FU (m * s.f1) s.f0 = some ((endP m s).f0,(endP m s).f1):=by
 have b1:=mul_bound hm (show 0 ≤ s.f1 by have:=h.2.1;omega) hm2 h2
 have b2:=ratioP_le b1.1 h3
 refine ⟨⟨ratioP_ok b1.1 h3,by show (ratioP _ _).f0 ≤ _;omega,by show (ratioP _ _).f1 ≤ _;omega⟩,b1.1,by omega,ratio_some b1.1 (by omega) h3 (by omega)⟩
theorem cmp_end {a b : S43} (ha : EndOk a) (hb : EndOk b) : pit_compare.f a.f0 a.f1 b.f0 b.f1 = some (cmpP a b):=by
 have b1:=mul_bound ha.1.1 (show 0 ≤ b.f1 by have:=hb.1.2.1;omega) ha.2.1 hb.2.2
 have b2:=mul_bound hb.1.1 (show 0 ≤ a.f1 by have:=ha.1.2.1;omega) hb.2.1 ha.2.2
 exact compare_some ha.1 hb.1 (by omega) (by omega)
def barrowD (Y : Yd) (id : Int) : S167:=(Y.barrows.find? (isId id)).getD z167
def maxR (a lo : S43) : S43:=if cmpP a lo > 0 then a else lo
def minR (a hi : S43) : S43:=if cmpP a hi < 0 then a else hi
def blameL (Y : Yd) (pour : Int) : S43 → S43 → Int → List S137 → S139 × Int × Bool
|lo,hi,_,[] => (⟨pour,lo,hi⟩,0,true)
|lo,hi,i,x :: r =>
  if (shareP (barrowD Y x.f0) pour).f0 = 0 then (if x.f1.f0 > 0 then (⟨0,⟨0,0⟩,⟨0,0⟩⟩,i,false) else blameL Y pour lo hi (i + 1) r)
  else if cmpP (maxR (endP x.f1.f0 (shareP (barrowD Y x.f0) pour)) lo) (minR (endP x.f1.f1 (shareP (barrowD Y x.f0) pour)) hi) > 0 then (⟨0,⟨0,0⟩,⟨0,0⟩⟩,i,false)
  else blameL Y pour (maxR (endP x.f1.f0 (shareP (barrowD Y x.f0) pour)) lo) (minR (endP x.f1.f1 (shareP (barrowD Y x.f0) pour)) hi) (i + 1) r
def blamedP (Y : Yd) (l : List S137) (pour : Int) : S139 × Int × Bool:=blameL Y pour (wholeP 0) (wholeP 1000) 0 l
def ProbedPost (W : World) (lo : Nat) (r : Except (Int × Int) Yd) (l : List S137) (e : Ending) (W' : World) : Prop :=
 Below W.heap.size W W' ∧ (match r with
 |.error x => e = .returned (.tuple #[.pointer none,.int .i64 x.1])
 |.ok Y => if probesE Y l = 0 then ∃ (L : Loc) (base : Nat),W.heap.size ≤ base ∧ (∀ k,lo ≤ k → k < W.heap.size → L.bad k) ∧ e = .returned (.tuple #[.pointer (some ⟨L.g,0,none⟩),.int .i64 0]) ∧ YardAt W' base L Y
   else e = .returned (.tuple #[.pointer none,.int .i64 (probesE Y l)]))
set_option maxRecDepth 100000 in
set_option maxHeartbeats 2000000 in
theorem probed_calls (A A2 : Option Addr) (c c2 : Nat) (rooms : List Int) (stirs : List S84) (W : World) (lo : Nat) (hlo : lo ≤ W.heap.size) (hC : Kd.F (Kd.int .i64) W (fun k => k < lo) A rooms.length rooms) (hc : rooms.length ≤ c) (hS : Kd.C k84 W A2 stirs.length stirs) (hc2 : stirs.length ≤ c2) (B : Option Addr) (cb : Nat) (l : List S137) (hL : Kd.C k137 W B l.length l) (hlb : l.length ≤ cb) :
  Calls Tryz.prog 131 #[.agg #[.slice A rooms.length c,.slice A2 stirs.length c2],.slice B l.length cb] W fun e W' => ProbedPost W lo (playedP rooms stirs stirs.length) l e W':=by
 have hu:=Tryz.underlying32
 have HC:=am (hC)
 have HS:=am (hS)
 have HL:=am (hL)
 have HB:=am (Below.refl W.heap.size W)
 have HC1:=am (Kd.F_alloc HC.out (.cells #[.slice A rooms.length c,.slice A2 stirs.length c2] 32))
 have HS1:=am (Kd.C_alloc HS.out (.cells #[.slice A rooms.length c,.slice A2 stirs.length c2] 32))
 have HL1:=am (Kd.C_alloc HL.out (.cells #[.slice A rooms.length c,.slice A2 stirs.length c2] 32))
 have HB1:=am (below_alloc HB.out (.cells #[.slice A rooms.length c,.slice A2 stirs.length c2] 32))
 clear hC hS hL
 obtain ⟨r,hr⟩ : ∃ r,r = playedP rooms stirs stirs.length:=⟨_,rfl⟩
 rw [← hr]
 have HQP:=am hr.symm
 clear hr
 go_enter Tryz.func131,Tryz.ntmps131
 go_wp2_with fail
 refine (all_calls A A2 c c2 rooms stirs _ lo (Nat.le_trans hlo (by simp)) HC1.out hc HS1.out hc2).mono ?_
 rintro e w1 ⟨hb,h⟩
 rw [HQP.out] at h
 have HL2:=am (Kd.C_below HL1.out hb)
 have HB2:=am (below_then HB1.out (below_size HB1.out) hb)
 clear hb
 cases r with
|error x =>
  subst h
  have hx : ¬ x.1 = 0:=playedP_code HQP.out
  go_wp2
  go_ret2
  exact ⟨HB2.out,rfl⟩
|ok Y =>
  obtain ⟨L,base,hbase,hbad,rfl,hY⟩:=h
  have HBA:=am hbad
  have HBS:=am hbase
  have HWF:=am (played_wf HQP.out)
  have HSL:=am (played_ok HQP.out).2.1
  have HY:=am (hY)
  clear hbad hbase hY
  go_wp2_with fail
  refine (probes_calls HY.out HWF.out HSL.out B cb l HL2.out hlb).mono ?_
  rintro e w2 ⟨rfl,hb⟩
  have HB3:=am (below_then HB2.out (below_size HB2.out) hb)
  have HY1:=am (HY.out.move hb)
  clear hb
  obtain ⟨ge,hge⟩ : ∃ ge,ge = probesE Y l:=⟨_,rfl⟩
  rw [← hge]
  have HGE:=am hge
  clear hge
  by_cases hg0 : ge = 0
  ·
   subst hg0
   go_wp2
   go_ret2
   refine ⟨HB3.out,?_⟩
   dsimp only
   rw [if_pos HGE.out.symm]
   exact ⟨L,base,Nat.le_trans (by simp) HBS.out,fun k h1 h2 => HBA.out k h1 (Nat.lt_of_lt_of_le h2 (by simp)),rfl,HY1.out⟩
  ·
   go_wp2
   go_ret2
   refine ⟨HB3.out,?_⟩
   dsimp only
   rw [← HGE.out,if_neg hg0]
   rfl
end Go.Proofs.YtjjfpmapjjemcaaGreat.B
end
