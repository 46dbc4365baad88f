import Derived.Test.YtjjfpmapjjemcaaGreatQ7
set_option linter.unusedVariables false
set_option linter.unusedSimpArgs false
section
namespace Go.Proofs.YtjjfpmapjjemcaaGreat.B
open Go.RowKit Go.Proofs.YtjjfpmapjjemcaaGreatW.PrintWords Go.Proofs.YtjjfpmapjjemcaaGreatW.PrintLast Go.Proofs.YtjjfpmapjjemcaaGreatW.PrintMore
attribute [local go_sem] max2_int min2_int max_two min_two max_three min_three max_four min_four
def pit_whole.f (a0 : Int) : Option (Int × Int):=some (a0,1)
set_option maxHeartbeats 8000000 in
set_option maxRecDepth 100000 in
theorem pit_whole.calls (a0 : Int) (r1 : Int) (r2 : Int) (w : World) (h : pit_whole.f a0 = some (r1,r2)) :
  Calls Tryz.prog 156 #[ii a0] w fun e w' => e = .returned (.agg #[ii r1,ii r2]) ∧ Below w.heap.size w w':=by
 have hu43:=Tryz.underlying43
 have HB:=am (Below.refl w.heap.size w)
 have H : (some (a0,1)) = some (r1,r2):=h
 clear h
 simp only [Option.some.injEq,Prod.mk.injEq] at H
 obtain ⟨rfl,rfl⟩:=H
 go_enter Tryz.func156,Tryz.ntmps156
 go_wp2_with (first|(refine bE 2 #[ii 0,ii 0] 43 ?_;intro gb101 hg w2 hbox hb;have BK101:=am (hbox);have GW101:=am (lg hg (below_size (v0 HB.out)) : w.heap.size ≤ gb101);have GE101:=GW101;replace HB:=am (below_step (v0 HB.out) hb);clear hb hbox hg;have hcz3_0:=bd BK101.out 0;have hcz3_1:=bd BK101.out 1;have hfz3_0:=blk_frozen BK101.out 0;have hfz3_1:=blk_frozen BK101.out 1))
 refine bodyPost_ret (results_cell_row rfl _ _ gb101 43 #[ii a0,ii 1] (0,0) _ rfl (by (with_reducible repeat (first|refine blk_drewN ?_ _|refine blk_drew ?_|refine blk_alloc ?_ _));refine blk_put (cs:=#[ii a0,ii 0]) ?_ 1 _ rfl;(with_reducible repeat (first|refine blk_drewN ?_ _|refine blk_drew ?_|refine blk_alloc ?_ _));refine blk_put (cs:=#[ii 0,ii 0]) ?_ 0 _ rfl;(with_reducible repeat (first|refine blk_drewN ?_ _|refine blk_drew ?_|refine blk_alloc ?_ _));exact BK101.out) Tryz.underlying43 rfl kr) rfl ?_
 exact ⟨vf,v1 HB.out GE101.out⟩
def calxlaw04_blame.l0 : Nat → Int → List (S139) → Int → Int → Option (Int × Int × Int × Int × Int × Bool)
|0,_,_,_,_ => none
|k + 1,x1,x8,x9,x10 => if x10 < x9 then (if 0 ≤ x10 then (if x10 < (x8.length : Int) then (if ((rd_T139 x8 x10).f0) = x1 then (some ((rd_T139 x8 x10).f0,(rd_T139 x8 x10).f1.f0,(rd_T139 x8 x10).f1.f1,(rd_T139 x8 x10).f2.f0,(rd_T139 x8 x10).f2.f1,true)) else (calxlaw04_blame.l0 k x1 x8 x9 (wrap64 (x10 + 1)))) else (none)) else (none)) else (some (0,0,0,0,0,false))
def calxlaw04_blame.f (k : Nat) (l0 : List (S139)) (a1 : Int) : Option (Int × Int × Int × Int × Int × Bool):=calxlaw04_blame.l0 k a1 l0 (l0.length : Int) 0
set_option maxHeartbeats 8000000 in
set_option maxRecDepth 100000 in
theorem calxlaw04_blame.calls (k : Nat) (A0 : Option Addr) (c0 : Nat) (l0 : List (S139)) (a1 : Int) (r1 : Int) (r2 : Int) (r3 : Int) (r4 : Int) (r5 : Int) (r6 : Bool) (w : World) (hr0 : Kd.C k139 w A0 l0.length l0) (hc0 : l0.length ≤ c0) (h : calxlaw04_blame.f k l0 a1 = some (r1,r2,r3,r4,r5,r6)) :
  Calls Tryz.prog 66 #[.slice A0 l0.length c0,ii a1] w fun e w' => e = .returned (.tuple #[.agg #[ii r1,ii r2,ii r3,ii r4,ii r5],.bool r6]) ∧ Below w.heap.size w w':=by
 have hu139:=Tryz.underlying139
 have HR0:=am hr0
 have HC0:=am hc0
 clear hr0 hc0
 have HB:=am (Below.refl w.heap.size w)
 have H : (calxlaw04_blame.l0 k a1 l0 (l0.length : Int) 0) = some (r1,r2,r3,r4,r5,r6):=h
 clear h
 have H':=am H
 clear H
 go_enter Tryz.func66,Tryz.ntmps66
 go_wp2_with (first|(refine bE 4 #[ii 0,ii 0,ii 0,ii 0,ii 0] 139 ?_;intro gb101 hg w3 hbox hb;have BK101:=am (hbox);have GW101:=am (lg hg (below_size (v0 HB.out)) : w.heap.size ≤ gb101);have GE101:=GW101;replace HB:=am (below_step (v0 HB.out) hb);clear hb hbox hg))
 go_loopg [10] k (fun kq v10 w' => ∃ (x10_1 : Int) (x102000_1 : Int) (x102001_1 : Int) (x102002_1 : Int) (x102003_1 : Int) (x102004_1 : Int),v10 = ii x10_1 ∧ Aside0 (calxlaw04_blame.l0 kq a1 l0 (l0.length : Int) x10_1 = some (r1,r2,r3,r4,r5,r6)) ∧ Aside0 (kq ≤ k) ∧ Aside0 (w'.heap[gb101]? = some (.cells #[ii x102000_1,ii x102001_1,ii x102002_1,ii x102003_1,ii x102004_1] 139 (0,0))) ∧ Aside0 (Below w.heap.size w w'))
 case atStart => exact ⟨(0),(0),(0),(0),(0),(0),ve,H',⟨Nat.le_refl _⟩,⟨vb BK101.out⟩,⟨v1 HB.out GE101.out⟩⟩
 case round =>
  clear H'
  try clear p2
  obtain ⟨x10_1,x102000_1,x102001_1,x102002_1,x102003_1,x102004_1,rfl,HA,HK1,BK101,HB⟩:=hrel
  cases gk with
 |zero => exact absurd HA.out (by simp [calxlaw04_blame.l0])
 |succ k1 =>
   have H:=HA.out
   clear HA
   simp only [calxlaw04_blame.l0] at H
   by_cases c4 : x10_1 < (l0.length : Int)
   ·rw [if_pos c4] at H
    have c4b0 : decide (x10_1 < (l0.length : Int)) = true:=decide_eq_true c4
    clear c4
    by_cases c5 : 0 ≤ x10_1
    ·rw [if_pos c5] at H
     have c5b0 : decide (0 ≤ x10_1) = true:=decide_eq_true c5
     clear c5
     by_cases c6 : x10_1 < (l0.length : Int)
     ·rw [if_pos c6] at H
      have c6b0 : decide (x10_1 < (l0.length : Int)) = true:=decide_eq_true c6
      clear c6
      by_cases c7 : ((rd_T139 l0 x10_1).f0) = a1
      ·rw [if_pos c7] at H
       have c7b0 : (((rd_T139 l0 x10_1).f0) == a1) = true:=beq_iff_eq.mpr c7
       have c7b1 : (((rd_T139 l0 x10_1).f0) != a1) = false:=bne_eq_false_iff_eq.mpr c7
       clear c7
       simp only [Option.some.injEq,Prod.mk.injEq] at H
       obtain ⟨rfl,rfl,rfl,rfl,rfl,rfl⟩:=H
       have p102 : 0 ≤ (x10_1 : Int):=of_decide_eq_true va
       have q102 : x10_1 < (l0.length : Int):=of_decide_eq_true va
       obtain ⟨ad102,e102,hx102_0,hx102_1,hx102_2,hx102_3,hx102_4⟩:=at_T139 HR0.out x10_1 p102 q102
       cases e102
       replace hx102_0:=(HB.out.cell (wb w _ hx102_0)).trans hx102_0
       replace hx102_1:=(HB.out.cell (wb w _ hx102_1)).trans hx102_1
       replace hx102_2:=(HB.out.cell (wb w _ hx102_2)).trans hx102_2
       replace hx102_3:=(HB.out.cell (wb w _ hx102_3)).trans hx102_3
       replace hx102_4:=(HB.out.cell (wb w _ hx102_4)).trans hx102_4
       replace p102:=eq_true p102
       replace q102:=eq_true q102
       go_wp2_with (first|(refine bE 7 #[ii 0,ii 0,ii 0,ii 0,ii 0] 139 ?_;intro gb103 hg w8 hbox hb;have BK103:=am (hbox);have GW103:=am (lg hg (below_size (v1 HB.out GE101.out)) : w.heap.size ≤ gb103);have GE103:=GW103;have NB101_103:=am (nl hg (vb BK101.out));have NB103_101:=am ((nl hg (vb BK101.out)).symm);replace BK101:=am (blk_below (vb BK101.out) hb);replace HB:=am (below_step (v1 HB.out GE101.out) hb);clear hb hbox hg;have hnb9:=NB103_101.out;have hnc9:=NB101_103.out;have hcz10_0:=bd BK103.out 0;have hcz10_1:=bd BK103.out 1;have hcz10_2:=bd BK103.out 2;have hcz10_3:=bd BK103.out 3;have hcz10_4:=bd BK103.out 4;have hfz10_0:=blk_frozen BK103.out 0;have hfz10_1:=blk_frozen BK103.out 1;have hfz10_2:=blk_frozen BK103.out 2;have hfz10_3:=blk_frozen BK103.out 3;have hfz10_4:=blk_frozen BK103.out 4;have hcz11_0:=bd BK101.out 0;have hcz11_1:=bd BK101.out 1;have hcz11_2:=bd BK101.out 2;have hcz11_3:=bd BK101.out 3;have hcz11_4:=bd BK101.out 4;have hfz11_0:=blk_frozen BK101.out 0;have hfz11_1:=blk_frozen BK101.out 1;have hfz11_2:=blk_frozen BK101.out 2;have hfz11_3:=blk_frozen BK101.out 3;have hfz11_4:=blk_frozen BK101.out 4))
       refine bodyPost_ret (results_ct rfl _ _ gb101 139 #[ii ((rd_T139 l0 x10_1).f0),ii ((rd_T139 l0 x10_1).f1.f0),ii ((rd_T139 l0 x10_1).f1.f1),ii ((rd_T139 l0 x10_1).f2.f0),ii ((rd_T139 l0 x10_1).f2.f1)] (0,0) _ rfl (by (with_reducible repeat (first|refine blk_drewN ?_ _|refine blk_drew ?_|refine blk_alloc ?_ _));refine blk_put (cs:=#[ii ((rd_T139 l0 x10_1).f0),ii ((rd_T139 l0 x10_1).f1.f0),ii ((rd_T139 l0 x10_1).f1.f1),ii ((rd_T139 l0 x10_1).f2.f0),ii x102004_1]) ?_ 4 _ rfl;(with_reducible repeat (first|refine blk_drewN ?_ _|refine blk_drew ?_|refine blk_alloc ?_ _));refine blk_put (cs:=#[ii ((rd_T139 l0 x10_1).f0),ii ((rd_T139 l0 x10_1).f1.f0),ii ((rd_T139 l0 x10_1).f1.f1),ii x102003_1,ii x102004_1]) ?_ 3 _ rfl;(with_reducible repeat (first|refine blk_drewN ?_ _|refine blk_drew ?_|refine blk_alloc ?_ _));refine blk_put (cs:=#[ii ((rd_T139 l0 x10_1).f0),ii ((rd_T139 l0 x10_1).f1.f0),ii x102002_1,ii x102003_1,ii x102004_1]) ?_ 2 _ rfl;(with_reducible repeat (first|refine blk_drewN ?_ _|refine blk_drew ?_|refine blk_alloc ?_ _));refine blk_put (cs:=#[ii ((rd_T139 l0 x10_1).f0),ii x102001_1,ii x102002_1,ii x102003_1,ii x102004_1]) ?_ 1 _ rfl;(with_reducible repeat (first|refine blk_drewN ?_ _|refine blk_drew ?_|refine blk_alloc ?_ _));refine blk_put (cs:=#[ii x102000_1,ii x102001_1,ii x102002_1,ii x102003_1,ii x102004_1]) ?_ 0 _ rfl;(with_reducible repeat (first|refine blk_drewN ?_ _|refine blk_drew ?_|refine blk_alloc ?_ _));refine blk_far ?_ NB101_103.out _;(with_reducible repeat (first|refine blk_drewN ?_ _|refine blk_drew ?_|refine blk_alloc ?_ _));refine blk_far ?_ NB101_103.out _;(with_reducible repeat (first|refine blk_drewN ?_ _|refine blk_drew ?_|refine blk_alloc ?_ _));refine blk_far ?_ NB101_103.out _;(with_reducible repeat (first|refine blk_drewN ?_ _|refine blk_drew ?_|refine blk_alloc ?_ _));refine blk_far ?_ NB101_103.out _;(with_reducible repeat (first|refine blk_drewN ?_ _|refine blk_drew ?_|refine blk_alloc ?_ _));refine blk_far ?_ NB101_103.out _;(with_reducible repeat (first|refine blk_drewN ?_ _|refine blk_drew ?_|refine blk_alloc ?_ _));exact BK101.out) Tryz.underlying139 rfl kr) rfl ?_
       exact ⟨vf,v2 HB.out GE101.out GE103.out⟩
      ·rw [if_neg c7] at H
       have c7b0 : (((rd_T139 l0 x10_1).f0) == a1) = false:=beq_eq_false_iff_ne.mpr c7
       have c7b1 : (((rd_T139 l0 x10_1).f0) != a1) = true:=bne_iff_ne.mpr c7
       have H':=am H
       clear H
       have p102 : 0 ≤ (x10_1 : Int):=of_decide_eq_true va
       have q102 : x10_1 < (l0.length : Int):=of_decide_eq_true va
       obtain ⟨ad102,e102,hx102_0,hx102_1,hx102_2,hx102_3,hx102_4⟩:=at_T139 HR0.out x10_1 p102 q102
       cases e102
       replace hx102_0:=(HB.out.cell (wb w _ hx102_0)).trans hx102_0
       replace hx102_1:=(HB.out.cell (wb w _ hx102_1)).trans hx102_1
       replace hx102_2:=(HB.out.cell (wb w _ hx102_2)).trans hx102_2
       replace hx102_3:=(HB.out.cell (wb w _ hx102_3)).trans hx102_3
       replace hx102_4:=(HB.out.cell (wb w _ hx102_4)).trans hx102_4
       replace p102:=eq_true p102
       replace q102:=eq_true q102
       go_wp2_with (first|(refine bE 7 #[ii 0,ii 0,ii 0,ii 0,ii 0] 139 ?_;intro gb103 hg w12 hbox hb;have BK103:=am (hbox);have GW103:=am (lg hg (below_size (v1 HB.out GE101.out)) : w.heap.size ≤ gb103);have GE103:=GW103;have NB101_103:=am (nl hg (vb BK101.out));have NB103_101:=am ((nl hg (vb BK101.out)).symm);replace BK101:=am (blk_below (vb BK101.out) hb);replace HB:=am (below_step (v1 HB.out GE101.out) hb);clear hb hbox hg;have hnb13:=NB103_101.out;have hnc13:=NB101_103.out;have hcz14_0:=bd BK103.out 0;have hcz14_1:=bd BK103.out 1;have hcz14_2:=bd BK103.out 2;have hcz14_3:=bd BK103.out 3;have hcz14_4:=bd BK103.out 4;have hfz14_0:=blk_frozen BK103.out 0;have hfz14_1:=blk_frozen BK103.out 1;have hfz14_2:=blk_frozen BK103.out 2;have hfz14_3:=blk_frozen BK103.out 3;have hfz14_4:=blk_frozen BK103.out 4))
       go_roundg k1
       case measure => have:=HK1.out;omega
       case rel => exact ⟨(wrap64 (x10_1 + 1)),(x102000_1),(x102001_1),(x102002_1),(x102003_1),(x102004_1),ve,H',⟨by have:=HK1.out;omega⟩,⟨by (with_reducible repeat (first|refine blk_drewN ?_ _|refine blk_drew ?_|refine blk_alloc ?_ _));refine blk_far ?_ NB101_103.out _;(with_reducible repeat (first|refine blk_drewN ?_ _|refine blk_drew ?_|refine blk_alloc ?_ _));refine blk_far ?_ NB101_103.out _;(with_reducible repeat (first|refine blk_drewN ?_ _|refine blk_drew ?_|refine blk_alloc ?_ _));refine blk_far ?_ NB101_103.out _;(with_reducible repeat (first|refine blk_drewN ?_ _|refine blk_drew ?_|refine blk_alloc ?_ _));refine blk_far ?_ NB101_103.out _;(with_reducible repeat (first|refine blk_drewN ?_ _|refine blk_drew ?_|refine blk_alloc ?_ _));refine blk_far ?_ NB101_103.out _;(with_reducible repeat (first|refine blk_drewN ?_ _|refine blk_drew ?_|refine blk_alloc ?_ _));exact BK101.out⟩,⟨v2 HB.out GE101.out GE103.out⟩⟩
     ·rw [if_neg c6] at H
      exact absurd H (by simp)
    ·rw [if_neg c5] at H
     exact absurd H (by simp)
   ·rw [if_neg c4] at H
    have c4b0 : decide (x10_1 < (l0.length : Int)) = false:=decide_eq_false c4
    clear c4
    simp only [Option.some.injEq,Prod.mk.injEq] at H
    obtain ⟨rfl,rfl,rfl,rfl,rfl,rfl⟩:=H
    have hcz15_0:=bd BK101.out 0
    have hcz15_1:=bd BK101.out 1
    have hcz15_2:=bd BK101.out 2
    have hcz15_3:=bd BK101.out 3
    have hcz15_4:=bd BK101.out 4
    have hfz15_0:=blk_frozen BK101.out 0
    have hfz15_1:=blk_frozen BK101.out 1
    have hfz15_2:=blk_frozen BK101.out 2
    have hfz15_3:=blk_frozen BK101.out 3
    have hfz15_4:=blk_frozen BK101.out 4
    go_wp2
    refine bodyPost_ret (results_ct rfl _ _ gb101 139 #[ii 0,ii 0,ii 0,ii 0,ii 0] (0,0) _ rfl (by (with_reducible repeat (first|refine blk_drewN ?_ _|refine blk_drew ?_|refine blk_alloc ?_ _));refine blk_put (cs:=#[ii 0,ii 0,ii 0,ii 0,ii x102004_1]) ?_ 4 _ rfl;(with_reducible repeat (first|refine blk_drewN ?_ _|refine blk_drew ?_|refine blk_alloc ?_ _));refine blk_put (cs:=#[ii 0,ii 0,ii 0,ii x102003_1,ii x102004_1]) ?_ 3 _ rfl;(with_reducible repeat (first|refine blk_drewN ?_ _|refine blk_drew ?_|refine blk_alloc ?_ _));refine blk_put (cs:=#[ii 0,ii 0,ii x102002_1,ii x102003_1,ii x102004_1]) ?_ 2 _ rfl;(with_reducible repeat (first|refine blk_drewN ?_ _|refine blk_drew ?_|refine blk_alloc ?_ _));refine blk_put (cs:=#[ii 0,ii x102001_1,ii x102002_1,ii x102003_1,ii x102004_1]) ?_ 1 _ rfl;(with_reducible repeat (first|refine blk_drewN ?_ _|refine blk_drew ?_|refine blk_alloc ?_ _));refine blk_put (cs:=#[ii x102000_1,ii x102001_1,ii x102002_1,ii x102003_1,ii x102004_1]) ?_ 0 _ rfl;(with_reducible repeat (first|refine blk_drewN ?_ _|refine blk_drew ?_|refine blk_alloc ?_ _));exact BK101.out) Tryz.underlying139 rfl kr) rfl ?_
    exact ⟨vf,v1 HB.out GE101.out⟩
end Go.Proofs.YtjjfpmapjjemcaaGreat.B
end
