import Derived.Test.YtjjfpmapjjemcaaGreatQ7
import Derived.Test.YtjjfpmapjjemcaaGreatQ9
set_option linter.unusedVariables false
set_option linter.unusedSimpArgs false
section
namespace Go.Proofs.YtjjfpmapjjemcaaGreat.B
open Go.RowKit Go.Proofs.YtjjfpmapjjemcaaGreatW.PrintWords Go.Proofs.YtjjfpmapjjemcaaGreatW.PrintLast Go.Proofs.YtjjfpmapjjemcaaGreatW.PrintMore
attribute [local go_sem] max2_int min2_int max_two min_two max_three min_three max_four min_four
def pit_times.f (k : Nat) (a0_0 : Int) (a0_1 : Int) (a1 : Int) (a2 : Int) : Option (Int × Int):=(pit_ratio.f k (wrap64 (a0_0 * a1)) (wrap64 (a0_1 * a2))).bind fun bt103 => (some (bt103.1,bt103.2))
set_option maxHeartbeats 8000000 in
set_option maxRecDepth 100000 in
theorem pit_times.calls (k : Nat) (a0_0 : Int) (a0_1 : Int) (a1 : Int) (a2 : Int) (r1 : Int) (r2 : Int) (w : World) (h : pit_times.f k a0_0 a0_1 a1 a2 = some (r1,r2)) :
  Calls Tryz.prog 88 #[.agg #[ii a0_0,ii a0_1],ii a1,ii a2] w fun e w' => e = .returned (.agg #[ii r1,ii r2]) ∧ Below w.heap.size w w':=by
 have hu43:=Tryz.underlying43
 have HB:=am (Below.refl w.heap.size w)
 have H : ((pit_ratio.f k (wrap64 (a0_0 * a1)) (wrap64 (a0_1 * a2))).bind fun bt103 => (some (bt103.1,bt103.2))) = some (r1,r2):=h
 clear h
 replace H:=Option.bind_eq_some_iff.mp H
 obtain ⟨⟨t103,t104⟩,A40,H⟩:=H
 replace H : (some (t103,t104)) = some (r1,r2):=H
 have A4:=am A40
 clear A40
 simp only [Option.some.injEq,Prod.mk.injEq] at H
 obtain ⟨rfl,rfl⟩:=H
 go_enter Tryz.func88,Tryz.ntmps88
 go_wp2_with (first|(refine bE 3 #[ii a0_0,ii a0_1] 43 ?_;intro gb101 hg w5 hbox hb;have BK101:=am (hbox);have GW101:=am (lg hg (below_size (v0 HB.out)) : w.heap.size ≤ gb101);have GE101:=GW101;replace HB:=am (below_step (v0 HB.out) hb);clear hb hbox hg)|(refine bE 6 #[ii 0,ii 0] 43 ?_;intro gb102 hg w6 hbox hb;have BK102:=am (hbox);have GW102:=am (lg hg (below_size (v1 HB.out GE101.out)) : w.heap.size ≤ gb102);have GE102:=GW102;have NB101_102:=am (nl hg (vb BK101.out));have NB102_101:=am ((nl hg (vb BK101.out)).symm);replace BK101:=am (blk_below (vb BK101.out) hb);replace HB:=am (below_step (v1 HB.out GE101.out) hb);clear hb hbox hg;have hnb7:=NB101_102.out;have hnc7:=NB102_101.out;have hcz8_0:=bd BK101.out 0;have hcz8_1:=bd BK101.out 1;have hfz8_0:=blk_frozen BK101.out 0;have hfz8_1:=blk_frozen BK101.out 1)|(refine cE (some 15) Tryz.func157 #[ii (wrap64 (a0_0 * a1)),ii (wrap64 (a0_1 * a2))] ?_;(with_reducible refine (pit_ratio.calls k (wrap64 (a0_0 * a1)) (wrap64 (a0_1 * a2)) t103 t104 _ A4.out).mono ?_);rintro e w9 ⟨rfl,hb⟩;refine ⟨_,rfl,?_⟩;replace BK101:=am (blk_below (vb BK101.out) hb);replace BK102:=am (blk_below (vb BK102.out) hb);replace HB:=am (below_step (v2 HB.out GE101.out GE102.out) hb);(try clear hb);(try clear hb2);(try clear hk);(try clear hi);have hcz10_0:=bd BK102.out 0;have hcz10_1:=bd BK102.out 1;have hfz10_0:=blk_frozen BK102.out 0;have hfz10_1:=blk_frozen BK102.out 1))
 refine bodyPost_ret (results_cell_row rfl _ _ gb102 43 #[ii t103,ii t104] (0,0) _ rfl (by (with_reducible repeat (first|refine blk_drewN ?_ _|refine blk_drew ?_|refine blk_alloc ?_ _));refine blk_put (cs:=#[ii t103,ii 0]) ?_ 1 _ rfl;(with_reducible repeat (first|refine blk_drewN ?_ _|refine blk_drew ?_|refine blk_alloc ?_ _));refine blk_put (cs:=#[ii 0,ii 0]) ?_ 0 _ rfl;(with_reducible repeat (first|refine blk_drewN ?_ _|refine blk_drew ?_|refine blk_alloc ?_ _));exact BK102.out) Tryz.underlying43 rfl kr) rfl ?_
 exact ⟨vf,v2 HB.out GE101.out GE102.out⟩
def pit_add.f (k : Nat) (a0_0 : Int) (a0_1 : Int) (a1_0 : Int) (a1_1 : Int) : Option (Int × Int):=(pit_divisor.f k a0_1 a1_1).bind fun t104 => (if t104 = 0 then (none) else ((pit_ratio.f k (wrap64 ((wrap64 (a0_0 * (wrap64 (Int.tdiv a1_1 t104)))) + (wrap64 (a1_0 * (wrap64 (Int.tdiv a0_1 t104)))))) (wrap64 ((wrap64 (Int.tdiv a0_1 t104)) * a1_1))).bind fun bt105 => (some (bt105.1,bt105.2))))
def pit_add.T2 : Bool × List (List Nat × List Nat):=(true,[([],[]),([0],[0]),([],[]),([2],[2]),([],[]),([3,4],[3,4]),([1,5],[1,5]),([],[]),([7],[7]),([],[]),([9],[9]),([],[]),([10,11],[10,11]),([8,12],[8,12]),([6,13],[6,13]),([],[]),([15],[15]),([],[]),([16,17],[16,17]),([],[]),([19],[19]),([18,20],[18,20]),([14,21],[14,21]),([22,22,0,1,2,3,4,5,6,7,8,9,10,11,12,13,14,15,16,17,18,19,20,21,22],[22])])
def pit_add.B2 : List Nat:=[0,1,0,4,0,28,63,0,128,0,512,0,3584,8064,16383,0,32768,0,229376,0,524288,2064384,4194303,8388607]
theorem pit_add.tab2 : rtab .any (opsOf Tryz.f93 2) = pit_add.T2:=by kernel_rfl
theorem pit_add.bits2 : waitsOk pit_add.T2.2 pit_add.B2 = true:=by kernel_rfl
set_option maxHeartbeats 8000000 in
set_option maxRecDepth 100000 in
theorem pit_add.calls (k : Nat) (a0_0 : Int) (a0_1 : Int) (a1_0 : Int) (a1_1 : Int) (r1 : Int) (r2 : Int) (w : World) (h : pit_add.f k a0_0 a0_1 a1_0 a1_1 = some (r1,r2)) :
  Calls Tryz.prog 93 #[.agg #[ii a0_0,ii a0_1],.agg #[ii a1_0,ii a1_1]] w fun e w' => e = .returned (.agg #[ii r1,ii r2]) ∧ Below w.heap.size w w':=by
 have hu43:=Tryz.underlying43
 have HB:=am (Below.refl w.heap.size w)
 have H : ((pit_divisor.f k a0_1 a1_1).bind fun t104 => (if t104 = 0 then (none) else ((pit_ratio.f k (wrap64 ((wrap64 (a0_0 * (wrap64 (Int.tdiv a1_1 t104)))) + (wrap64 (a1_0 * (wrap64 (Int.tdiv a0_1 t104)))))) (wrap64 ((wrap64 (Int.tdiv a0_1 t104)) * a1_1))).bind fun bt105 => (some (bt105.1,bt105.2))))) = some (r1,r2):=h
 clear h
 replace H:=Option.bind_eq_some_iff.mp H
 obtain ⟨t104,A30,H⟩:=H
 replace H : (if t104 = 0 then (none) else ((pit_ratio.f k (wrap64 ((wrap64 (a0_0 * (wrap64 (Int.tdiv a1_1 t104)))) + (wrap64 (a1_0 * (wrap64 (Int.tdiv a0_1 t104)))))) (wrap64 ((wrap64 (Int.tdiv a0_1 t104)) * a1_1))).bind fun bt105 => (some (bt105.1,bt105.2)))) = some (r1,r2):=H
 have A3:=am A30
 clear A30
 by_cases c4 : t104 = 0
 ·rw [if_pos c4] at H
  exact absurd H (by simp)
 ·rw [if_neg c4] at H
  have c4b0 : (t104 == 0) = false:=beq_eq_false_iff_ne.mpr c4
  have c4b1 : (t104 != 0) = true:=bne_iff_ne.mpr c4
  replace H:=Option.bind_eq_some_iff.mp H
  obtain ⟨⟨t105,t106⟩,A50,H⟩:=H
  replace H : (some (t105,t106)) = some (r1,r2):=H
  have A5:=am A50
  clear A50
  simp only [Option.some.injEq,Prod.mk.injEq] at H
  obtain ⟨rfl,rfl⟩:=H
  go_enter Tryz.func93,Tryz.ntmps93
  try go_wp2_with (first|(refine bE 2 #[ii a0_0,ii a0_1] 43 ?_;intro gb101 hg w6 hbox hb;have BK101:=am (hbox);have GW101:=am (lg hg (below_size (v0 HB.out)) : w.heap.size ≤ gb101);have GE101:=GW101;replace HB:=am (below_step (v0 HB.out) hb);clear hb hbox hg)|(refine bE 3 #[ii a1_0,ii a1_1] 43 ?_;intro gb102 hg w7 hbox hb;have BK102:=am (hbox);have GW102:=am (lg hg (below_size (v1 HB.out GE101.out)) : w.heap.size ≤ gb102);have GE102:=GW102;have NB101_102:=am (nl hg (vb BK101.out));have NB102_101:=am ((nl hg (vb BK101.out)).symm);replace BK101:=am (blk_below (vb BK101.out) hb);replace HB:=am (below_step (v1 HB.out GE101.out) hb);clear hb hbox hg)|(refine bE 4 #[ii 0,ii 0] 43 ?_;intro gb103 hg w8 hbox hb;have BK103:=am (hbox);have GW103:=am (lg hg (below_size (v2 HB.out GE101.out GE102.out)) : w.heap.size ≤ gb103);have GE103:=GW103;have NB101_103:=am (nl hg (vb BK101.out));have NB103_101:=am ((nl hg (vb BK101.out)).symm);have NB102_103:=am (nl hg (vb BK102.out));have NB103_102:=am ((nl hg (vb BK102.out)).symm);replace BK101:=am (blk_below (vb BK101.out) hb);replace BK102:=am (blk_below (vb BK102.out) hb);replace HB:=am (below_step (v2 HB.out GE101.out GE102.out) hb);clear hb hbox hg;have hnb9:=NB101_102.out;have hnc9:=NB102_101.out;have hnb10:=NB101_103.out;have hnc10:=NB103_101.out;have hcz11_0:=bd BK101.out 0;have hcz11_1:=bd BK101.out 1;have hfz11_0:=blk_frozen BK101.out 0;have hfz11_1:=blk_frozen BK101.out 1;have hnb12:=NB102_103.out;have hnc12:=NB103_102.out;have hcz13_0:=bd BK102.out 0;have hcz13_1:=bd BK102.out 1;have hfz13_0:=blk_frozen BK102.out 0;have hfz13_1:=blk_frozen BK102.out 1)|(refine cE (some 10) Tryz.func158 #[ii a0_1,ii a1_1] ?_;(with_reducible refine (pit_divisor.calls k a0_1 a1_1 t104 _ A3.out).mono ?_);rintro e w' ⟨rfl,⟨nd,rfl⟩⟩;refine ⟨_,rfl,?_⟩;(try (rw [drewN_self w8];generalize hq_ : World.drewN w8 _ = w8;replace BK101:=am (dz hq_ (vb BK101.out));replace BK102:=am (dz hq_ (vb BK102.out));replace BK103:=am (dz hq_ (vb BK103.out));replace HB:=am (dy hq_ (v3 HB.out GE101.out GE102.out GE103.out));clear hq_))))
  replace BK101:=am (blk_drew BK101.out)
  replace BK102:=am (blk_drew BK102.out)
  replace BK103:=am (blk_drew BK103.out)
  replace HB:=am (below_drew1 HB.out)
  refine start_ (n:=24) (S:=fun w' => w'.cell? ⟨gb101,0,none⟩ = some (ii a0_0) ∧ w'.cell? ⟨gb101,1,none⟩ = some (ii a0_1) ∧ w'.cell? ⟨gb102,0,none⟩ = some (ii a1_0) ∧ w'.cell? ⟨gb102,1,none⟩ = some (ii a1_1)) (ds:=[]) (ab 24 0) kr rfl kr ⟨(blk_cell BK101.out 0).trans rfl,(blk_cell BK101.out 1).trans rfl,(blk_cell BK102.out 0).trans rfl,(blk_cell BK102.out 1).trans rfl⟩ (fun hHeld => ?_);refine with_tabW pit_add.tab2 pit_add.bits2 (fun HT_ HW_ => ?_)
  generalize w8.drew = w14 at BK101 BK102 BK103 HB hHeld ⊢
  refine qA 0 (some 11) ?_;refine qA 2 (some 13) ?_;refine qA 4 (some 15) ?_;refine qA 7 (some 18) ?_;refine qA 9 (some 20) ?_;refine qA 11 (some 22) ?_;refine qA 15 (some 26) ?_;refine qA 17 (some 28) ?_;refine qA 19 (some 30) ?_;refine qT 1 (some 12) ?_;refine qT 3 (some 14) ?_;refine qA 5 (some 16) ?_;refine qA 6 (some 17) ?_;refine qT 8 (some 19) ?_;refine qT 10 (some 21) ?_;refine qA 12 (some 23) ?_;refine qA 13 (some 24) ?_;refine qA 14 (some 25) ?_;refine qT 16 (some 27) ?_;refine qA 18 (some 29) ?_;refine qT 20 (some 31) ?_;refine qA 21 (some 32) ?_
  refine qE 22 (some 33) fun K hK => ?_
  refine gC Tryz.func157 #[ii (wrap64 ((wrap64 (a0_0 * (wrap64 (Int.tdiv a1_1 t104)))) + (wrap64 (a1_0 * (wrap64 (Int.tdiv a0_1 t104)))))),ii (wrap64 ((wrap64 (Int.tdiv a0_1 t104)) * a1_1))] ?_
  with_reducible refine (pit_ratio.calls k (wrap64 ((wrap64 (a0_0 * (wrap64 (Int.tdiv a1_1 t104)))) + (wrap64 (a1_0 * (wrap64 (Int.tdiv a0_1 t104)))))) (wrap64 ((wrap64 (Int.tdiv a0_1 t104)) * a1_1)) t105 t106 _ A5.out).mono ?_
  rintro e w15 ⟨rfl,hb⟩
  refine ⟨_,rfl,?_⟩
  replace BK101:=am (blk_below (vb BK101.out) hb)
  replace BK102:=am (blk_below (vb BK102.out) hb)
  replace BK103:=am (blk_below (vb BK103.out) hb)
  replace HB:=am (below_step (v3 HB.out GE101.out GE102.out GE103.out) hb)
  (try clear hb)
  (try clear hb2)
  (try clear hk)
  (try clear hi)
  refine hK.out _ _ ⟨(blk_cell BK101.out 0).trans rfl,(blk_cell BK101.out 1).trans rfl,(blk_cell BK102.out 0).trans rfl,(blk_cell BK102.out 1).trans rfl⟩ (fun hHeld => ?_)
  clear hK K
  refine qN (some 33) ?_
  refine qE 23 (none) fun K hK => ?_
  have hs16:=bd BK103.out 0
  have hfs16:=blk_frozen BK103.out 0
  have hns16_0:=NB101_103.out
  have hns16_1:=NB102_103.out
  have hms16_0:=NB103_101.out
  have hms16_1:=NB103_102.out
  have hs17:=bd BK103.out 1
  have hfs17:=blk_frozen BK103.out 1
  have hns17_0:=NB101_103.out
  have hns17_1:=NB102_103.out
  have hms17_0:=NB103_101.out
  have hms17_1:=NB103_102.out
  refine skip_ (w1:=?_) (by rfl) rfl ?_ ?_
  rotate_left
  ·go_simp
   rfl
  refine hK.out _ _ ⟨((cell_far (p:=⟨gb103,_,none⟩) NB101_103.out _).trans (((cell_far (p:=⟨gb103,_,none⟩) NB101_103.out _).trans (hHeld.1)))),((cell_far (p:=⟨gb103,_,none⟩) NB101_103.out _).trans (((cell_far (p:=⟨gb103,_,none⟩) NB101_103.out _).trans (hHeld.2.1)))),((cell_far (p:=⟨gb103,_,none⟩) NB102_103.out _).trans (((cell_far (p:=⟨gb103,_,none⟩) NB102_103.out _).trans (hHeld.2.2.1)))),((cell_far (p:=⟨gb103,_,none⟩) NB102_103.out _).trans (((cell_far (p:=⟨gb103,_,none⟩) NB102_103.out _).trans (hHeld.2.2.2))))⟩ (fun hHeld => ?_)
  clear hK K
  refine done_ (done_of HT_.out kr) ?_
  try go_wp2
  refine bodyPost_ret (results_cell_row rfl _ _ gb103 43 #[ii t105,ii t106] (0,0) _ rfl (by (with_reducible repeat (first|refine blk_drewN ?_ _|refine blk_drew ?_|refine blk_alloc ?_ _));refine blk_put (cs:=#[ii t105,ii 0]) ?_ 1 _ rfl;(with_reducible repeat (first|refine blk_drewN ?_ _|refine blk_drew ?_|refine blk_alloc ?_ _));refine blk_put (cs:=#[ii 0,ii 0]) ?_ 0 _ rfl;(with_reducible repeat (first|refine blk_drewN ?_ _|refine blk_drew ?_|refine blk_alloc ?_ _));exact BK103.out) Tryz.underlying43 rfl kr) rfl ?_
  exact ⟨vf,v3 HB.out GE101.out GE102.out GE103.out⟩
end Go.Proofs.YtjjfpmapjjemcaaGreat.B
end
