import Derived.Test.YtjjfpmapjjemcaaGreatQ7
set_option linter.unusedVariables false
set_option linter.unusedSimpArgs false
section
namespace Go.Proofs.YtjjfpmapjjemcaaGreat.B
open Go.RowKit Go.Proofs.YtjjfpmapjjemcaaGreatW.PrintWords Go.Proofs.YtjjfpmapjjemcaaGreatW.PrintLast Go.Proofs.YtjjfpmapjjemcaaGreatW.PrintMore
attribute [local go_sem] max2_int min2_int max_two min_two max_three min_three max_four min_four
def pit_ratio.f (k : Nat) (a0 : Int) (a1 : Int) : Option (Int × Int):=(pit_divisor.f k a0 a1).bind fun t102 => (if t102 = 0 then (none) else (some (wrap64 (Int.tdiv a0 t102),wrap64 (Int.tdiv a1 t102))))
def pit_ratio.T2 : Bool × List (List Nat × List Nat):=(true,[([],[]),([],[]),([0,1],[0,1]),([],[]),([],[]),([3,4],[3,4]),([2,5],[2,5]),([6,0,1,2,3,4,5,6],[6])])
def pit_ratio.B2 : List Nat:=[0,0,3,0,0,24,63,127]
theorem pit_ratio.tab2 : rtab .any (opsOf Tryz.f157 2) = pit_ratio.T2:=by kernel_rfl
theorem pit_ratio.bits2 : waitsOk pit_ratio.T2.2 pit_ratio.B2 = true:=by kernel_rfl
set_option maxHeartbeats 8000000 in
set_option maxRecDepth 100000 in
theorem pit_ratio.calls (k : Nat) (a0 : Int) (a1 : Int) (r1 : Int) (r2 : Int) (w : World) (h : pit_ratio.f k a0 a1 = some (r1,r2)) :
  Calls Tryz.prog 157 #[ii a0,ii a1] w fun e w' => e = .returned (.agg #[ii r1,ii r2]) ∧ Below w.heap.size w w':=by
 have hu43:=Tryz.underlying43
 have HB:=am (Below.refl w.heap.size w)
 have H : ((pit_divisor.f k a0 a1).bind fun t102 => (if t102 = 0 then (none) else (some (wrap64 (Int.tdiv a0 t102),wrap64 (Int.tdiv a1 t102))))) = some (r1,r2):=h
 clear h
 replace H:=Option.bind_eq_some_iff.mp H
 obtain ⟨t102,A30,H⟩:=H
 replace H : (if t102 = 0 then (none) else (some (wrap64 (Int.tdiv a0 t102),wrap64 (Int.tdiv a1 t102)))) = some (r1,r2):=H
 have A3:=am A30
 clear A30
 by_cases c4 : t102 = 0
 ·rw [if_pos c4] at H
  exact absurd H (by simp)
 ·rw [if_neg c4] at H
  have c4b0 : (t102 == 0) = false:=beq_eq_false_iff_ne.mpr c4
  have c4b1 : (t102 != 0) = true:=bne_iff_ne.mpr c4
  simp only [Option.some.injEq,Prod.mk.injEq] at H
  obtain ⟨rfl,rfl⟩:=H
  go_enter Tryz.func157,Tryz.ntmps157
  try go_wp2_with (first|(refine bE 4 #[ii 0,ii 0] 43 ?_;intro gb101 hg w5 hbox hb;have BK101:=am (hbox);have GW101:=am (lg hg (below_size (v0 HB.out)) : w.heap.size ≤ gb101);have GE101:=GW101;replace HB:=am (below_step (v0 HB.out) hb);clear hb hbox hg)|(refine cE (some 8) Tryz.func158 #[ii a0,ii a1] ?_;(with_reducible refine (pit_divisor.calls k a0 a1 t102 _ A3.out).mono ?_);rintro e w' ⟨rfl,⟨nd,rfl⟩⟩;refine ⟨_,rfl,?_⟩;(try (rw [drewN_self w5];generalize hq_ : World.drewN w5 _ = w5;replace BK101:=am (dz hq_ (vb BK101.out));replace HB:=am (dy hq_ (v1 HB.out GE101.out));clear hq_))))
  replace BK101:=am (blk_drew BK101.out)
  replace HB:=am (below_drew1 HB.out)
  refine start_ (n:=8) (S:=fun w' => True) (ds:=[]) (ab 8 0) kr rfl kr trivial (fun hHeld => ?_);refine with_tabW pit_ratio.tab2 pit_ratio.bits2 (fun HT_ HW_ => ?_)
  generalize w5.drew = w6 at BK101 HB hHeld ⊢
  refine qA 0 (some 9) ?_;refine qA 1 (some 10) ?_;refine qA 2 (some 11) ?_;refine qA 3 (some 12) ?_;refine qA 4 (some 13) ?_;refine qA 5 (some 14) ?_;refine qA 6 (some 15) ?_
  refine qE 7 (none) fun K hK => ?_
  have hs7:=bd BK101.out 0
  have hfs7:=blk_frozen BK101.out 0
  have hs8:=bd BK101.out 1
  have hfs8:=blk_frozen BK101.out 1
  refine skip_ (w1:=?_) (by rfl) rfl ?_ ?_
  rotate_left
  ·go_simp
   rfl
  refine hK.out _ _ trivial (fun hHeld => ?_)
  clear hK K
  refine done_ (done_of HT_.out kr) ?_
  try go_wp2
  refine bodyPost_ret (results_cell_row rfl _ _ gb101 43 #[ii (wrap64 (Int.tdiv a0 t102)),ii (wrap64 (Int.tdiv a1 t102))] (0,0) _ rfl (by (with_reducible repeat (first|refine blk_drewN ?_ _|refine blk_drew ?_|refine blk_alloc ?_ _));refine blk_put (cs:=#[ii (wrap64 (Int.tdiv a0 t102)),ii 0]) ?_ 1 _ rfl;(with_reducible repeat (first|refine blk_drewN ?_ _|refine blk_drew ?_|refine blk_alloc ?_ _));refine blk_put (cs:=#[ii 0,ii 0]) ?_ 0 _ rfl;(with_reducible repeat (first|refine blk_drewN ?_ _|refine blk_drew ?_|refine blk_alloc ?_ _));exact BK101.out) Tryz.underlying43 rfl kr) rfl ?_
  exact ⟨vf,v1 HB.out GE101.out⟩
def pit_whole.f (a0 : Int) : Option (Int × Int):=some (a0,1)
set_option maxHeartbeats 8000000 in
set_option maxRecDepth 100000 in
theorem pit_whole.calls (a0 : Int) (r1 : Int) (r2 : Int) (w : World) (h : pit_whole.f a0 = some (r1,r2)) :
  Calls Tryz.prog 156 #[ii a0] w fun e w' => e = .returned (.agg #[ii r1,ii r2]) ∧ Below w.heap.size w w':=by
 have hu43:=Tryz.underlying43
 have HB:=am (Below.refl w.heap.size w)
 have H : (some (a0,1)) = some (r1,r2):=h
 clear h
 simp only [Option.some.injEq,Prod.mk.injEq] at H
 obtain ⟨rfl,rfl⟩:=H
 go_enter Tryz.func156,Tryz.ntmps156
 go_wp2_with (first|(refine bE 2 #[ii 0,ii 0] 43 ?_;intro gb101 hg w2 hbox hb;have BK101:=am (hbox);have GW101:=am (lg hg (below_size (v0 HB.out)) : w.heap.size ≤ gb101);have GE101:=GW101;replace HB:=am (below_step (v0 HB.out) hb);clear hb hbox hg;have hcz3_0:=bd BK101.out 0;have hcz3_1:=bd BK101.out 1;have hfz3_0:=blk_frozen BK101.out 0;have hfz3_1:=blk_frozen BK101.out 1))
 refine bodyPost_ret (results_cell_row rfl _ _ gb101 43 #[ii a0,ii 1] (0,0) _ rfl (by (with_reducible repeat (first|refine blk_drewN ?_ _|refine blk_drew ?_|refine blk_alloc ?_ _));refine blk_put (cs:=#[ii a0,ii 0]) ?_ 1 _ rfl;(with_reducible repeat (first|refine blk_drewN ?_ _|refine blk_drew ?_|refine blk_alloc ?_ _));refine blk_put (cs:=#[ii 0,ii 0]) ?_ 0 _ rfl;(with_reducible repeat (first|refine blk_drewN ?_ _|refine blk_drew ?_|refine blk_alloc ?_ _));exact BK101.out) Tryz.underlying43 rfl kr) rfl ?_
 exact ⟨vf,v1 HB.out GE101.out⟩
def calxlaw04_Example.f  : Option (List Int × (List (S84))):=some ((([100,50] : List Int)),(([(⟨1,1,0,0,0,30⟩ : S84),(⟨2,1,2,0,0,20⟩ : S84),(⟨11,2,3,0,0,10⟩ : S84),(⟨0,3,4,0,0,0⟩ : S84),(⟨12,2,9,0,0,10⟩ : S84),(⟨0,4,9,0,1,15⟩ : S84),(⟨3,1,10,1,0,5⟩ : S84),(⟨13,2,12,1,0,18⟩ : S84)] : List (S84))))
set_option maxHeartbeats 8000000 in
set_option maxRecDepth 100000 in
theorem calxlaw04_Example.calls  (r1 : List Int) (r2 : List (S84)) (w : World) (h : calxlaw04_Example.f  = some (r1,r2)) :
  Calls Tryz.prog 96 #[] w fun e w' => ∃ v0_ v1_ : Value,e = .returned (.agg #[v0_,v1_]) ∧ Kd.R (Kd.int .i64) 3 w' w.heap.size (fun _ => True) v0_ r1 ∧ Kd.R k84 84 w' w.heap.size (fun _ => True) v1_ r2 ∧ Below w.heap.size w w':=by
 have hu32:=Tryz.underlying32
 have hu84:=Tryz.underlying84
 have HB:=am (Below.refl w.heap.size w)
 have H : (some ((([100,50] : List Int)),(([(⟨1,1,0,0,0,30⟩ : S84),(⟨2,1,2,0,0,20⟩ : S84),(⟨11,2,3,0,0,10⟩ : S84),(⟨0,3,4,0,0,0⟩ : S84),(⟨12,2,9,0,0,10⟩ : S84),(⟨0,4,9,0,1,15⟩ : S84),(⟨3,1,10,1,0,5⟩ : S84),(⟨13,2,12,1,0,18⟩ : S84)] : List (S84))))) = some (r1,r2):=h
 clear h
 obtain ⟨y102,hy102⟩ : ∃ y_ : List Int,y_ = (([100,50] : List Int)):=⟨_,rfl⟩
 replace H : (some (y102,(([(⟨1,1,0,0,0,30⟩ : S84),(⟨2,1,2,0,0,20⟩ : S84),(⟨11,2,3,0,0,10⟩ : S84),(⟨0,3,4,0,0,0⟩ : S84),(⟨12,2,9,0,0,10⟩ : S84),(⟨0,4,9,0,1,15⟩ : S84),(⟨3,1,10,1,0,5⟩ : S84),(⟨13,2,12,1,0,18⟩ : S84)] : List (S84))))) = some (r1,r2):=by first|(rw [hy102];with_reducible exact H)|(have H2_:=(Option.bind_some _ _).symm.trans H;rw [hy102];with_reducible exact H2_)|(have H2_:=(Option.bind_some _ _).symm.trans H;with_reducible exact H2_)|with_reducible exact H|(rw [hy102];exact H)|exact H
 have Ny102:=am hy102
 clear hy102
 obtain ⟨y105,hy105⟩ : ∃ y_ : List (S84),y_ = (([(⟨1,1,0,0,0,30⟩ : S84),(⟨2,1,2,0,0,20⟩ : S84),(⟨11,2,3,0,0,10⟩ : S84),(⟨0,3,4,0,0,0⟩ : S84),(⟨12,2,9,0,0,10⟩ : S84),(⟨0,4,9,0,1,15⟩ : S84),(⟨3,1,10,1,0,5⟩ : S84),(⟨13,2,12,1,0,18⟩ : S84)] : List (S84))):=⟨_,rfl⟩
 replace H : (some (y102,y105)) = some (r1,r2):=by first|(rw [hy105];with_reducible exact H)|(have H2_:=(Option.bind_some _ _).symm.trans H;rw [hy105];with_reducible exact H2_)|(have H2_:=(Option.bind_some _ _).symm.trans H;with_reducible exact H2_)|with_reducible exact H|(rw [hy105];exact H)|exact H
 have Ny105:=am hy105
 clear hy105
 simp only [Option.some.injEq,Prod.mk.injEq] at H
 obtain ⟨rfl,rfl⟩:=H
 go_enter Tryz.func96,Tryz.ntmps96
 go_wp2_with (first|(refine bE 0 #[.slice none 0 0,.slice none 0 0] 32 ?_;intro gb101 hg w1 hbox hb;have BK101:=am (hbox);have GW101:=am (lg hg (below_size (v0 HB.out)) : w.heap.size ≤ gb101);have GE101:=GW101;replace HB:=am (below_step (v0 HB.out) hb);clear hb hbox hg)|((with_reducible refine gate_dst (N:=1) rfl ?_);refine Kd.R_lit (Kd.int .i64) _ 3 ?hg (N:=1) ?hd (xs:=([100,50] : List Int)) (inner:=[ii 100,ii 50]) (ok:=fun _ => True) (okp:=fun _ => True) ?hr ?hp (fun _ hk => hk) trivial (Below.refl _ _) (Nat.le_refl _) (by simp) ?_;(case hd => rfl);(case hg => rfl);(case hr => first|(go_simp;done)|(go_simp;rfl));(case hp => exact (Reps.one (show Kd.M (Kd.int .i64) _ _ _ 100 [ii 100] from rfl) (Reps.one (show Kd.M (Kd.int .i64) _ _ _ 50 [ii 50] from rfl) (Reps.none _ _))));intro v103 w2 ho3 hb hg_ hnew_;clear hg_ hnew_;(first|rw [← Ny102.out] at ho3|(simp only [Int.reduceToNat] at ho3;rw [← Ny102.out] at ho3));have HO104:=am (Kd.R_lower ho3 (below_size (v1 HB.out GE101.out)));replace BK101:=am (blk_below (vb BK101.out) hb);replace HB:=am (below_step (v1 HB.out GE101.out) hb);clear hb ho3)|((with_reducible refine gate_dst (N:=10) rfl ?_);refine Kd.R_lit k84 _ 84 ?hg (N:=10) ?hd (xs:=([(⟨1,1,0,0,0,30⟩ : S84),(⟨2,1,2,0,0,20⟩ : S84),(⟨11,2,3,0,0,10⟩ : S84),(⟨0,3,4,0,0,0⟩ : S84),(⟨12,2,9,0,0,10⟩ : S84),(⟨0,4,9,0,1,15⟩ : S84),(⟨3,1,10,1,0,5⟩ : S84),(⟨13,2,12,1,0,18⟩ : S84)] : List (S84))) (inner:=[ii 1,ii 1,ii 0,ii 0,ii 0,ii 30,ii 2,ii 1,ii 2,ii 0,ii 0,ii 20,ii 11,ii 2,ii 3,ii 0,ii 0,ii 10,ii 0,ii 3,ii 4,ii 0,ii 0,ii 0,ii 12,ii 2,ii 9,ii 0,ii 0,ii 10,ii 0,ii 4,ii 9,ii 0,ii 1,ii 15,ii 3,ii 1,ii 10,ii 1,ii 0,ii 5,ii 13,ii 2,ii 12,ii 1,ii 0,ii 18]) (ok:=fun _ => True) (okp:=fun _ => True) ?hr ?hp (fun _ hk => hk) trivial (Below.refl _ _) (Nat.le_refl _) (by simp) ?_;(case hd => rfl);(case hg => rfl);(case hr => first|(go_simp;done)|(go_simp;rfl));(case hp => exact (Reps.c6 (show Kd.M k84 _ _ _ (⟨1,1,0,0,0,30⟩ : S84) [ii 1,ii 1,ii 0,ii 0,ii 0,ii 30] from (k84_mkM _ _ _ (⟨1,1,0,0,0,30⟩ : S84) )) (Reps.c6 (show Kd.M k84 _ _ _ (⟨2,1,2,0,0,20⟩ : S84) [ii 2,ii 1,ii 2,ii 0,ii 0,ii 20] from (k84_mkM _ _ _ (⟨2,1,2,0,0,20⟩ : S84) )) (Reps.c6 (show Kd.M k84 _ _ _ (⟨11,2,3,0,0,10⟩ : S84) [ii 11,ii 2,ii 3,ii 0,ii 0,ii 10] from (k84_mkM _ _ _ (⟨11,2,3,0,0,10⟩ : S84) )) (Reps.c6 (show Kd.M k84 _ _ _ (⟨0,3,4,0,0,0⟩ : S84) [ii 0,ii 3,ii 4,ii 0,ii 0,ii 0] from (k84_mkM _ _ _ (⟨0,3,4,0,0,0⟩ : S84) )) (Reps.c6 (show Kd.M k84 _ _ _ (⟨12,2,9,0,0,10⟩ : S84) [ii 12,ii 2,ii 9,ii 0,ii 0,ii 10] from (k84_mkM _ _ _ (⟨12,2,9,0,0,10⟩ : S84) )) (Reps.c6 (show Kd.M k84 _ _ _ (⟨0,4,9,0,1,15⟩ : S84) [ii 0,ii 4,ii 9,ii 0,ii 1,ii 15] from (k84_mkM _ _ _ (⟨0,4,9,0,1,15⟩ : S84) )) (Reps.c6 (show Kd.M k84 _ _ _ (⟨3,1,10,1,0,5⟩ : S84) [ii 3,ii 1,ii 10,ii 1,ii 0,ii 5] from (k84_mkM _ _ _ (⟨3,1,10,1,0,5⟩ : S84) )) (Reps.c6 (show Kd.M k84 _ _ _ (⟨13,2,12,1,0,18⟩ : S84) [ii 13,ii 2,ii 12,ii 1,ii 0,ii 18] from (k84_mkM _ _ _ (⟨13,2,12,1,0,18⟩ : S84) )) (Reps.none _ _))))))))));intro v106 w4 ho5 hb hg_ hnew_;clear hg_ hnew_;(first|rw [← Ny105.out] at ho5|(simp only [Int.reduceToNat] at ho5;rw [← Ny105.out] at ho5));have HO107:=am (Kd.R_lower ho5 (below_size (v1 HB.out GE101.out)));replace HO104:=am (Kd.R_below (wR HO104.out) hb);replace BK101:=am (blk_below (vb BK101.out) hb);replace HB:=am (below_step (v1 HB.out GE101.out) hb);clear hb ho5;obtain ⟨Ao6,co6,eo6⟩:=Kd.R_slice HO107.out;subst eo6;obtain ⟨Ao7,co7,eo7⟩:=Kd.R_slice HO104.out;subst eo7;have hcz8_0:=bd BK101.out 0;have hcz8_1:=bd BK101.out 1;have hfz8_0:=blk_frozen BK101.out 0;have hfz8_1:=blk_frozen BK101.out 1))
 refine bodyPost_ret (results_cell_row rfl _ _ gb101 32 #[.slice Ao7 y102.length co7,.slice Ao6 y105.length co6] (0,0) _ rfl (by (with_reducible repeat (first|refine blk_drewN ?_ _|refine blk_drew ?_|refine blk_alloc ?_ _));refine blk_put (cs:=#[.slice Ao7 y102.length co7,.slice none 0 0]) ?_ 1 _ rfl;(with_reducible repeat (first|refine blk_drewN ?_ _|refine blk_drew ?_|refine blk_alloc ?_ _));refine blk_put (cs:=#[.slice none 0 0,.slice none 0 0]) ?_ 0 _ rfl;(with_reducible repeat (first|refine blk_drewN ?_ _|refine blk_drew ?_|refine blk_alloc ?_ _));exact BK101.out) Tryz.underlying32 rfl kr) rfl ?_
 exact ⟨_,_,vf,by (with_reducible repeat (first|apply Kd.R_alloc|apply Kd.R_drewN|apply Kd.R_drew));exact Kd.R_mono (Kd.R_far (p:=⟨gb101,1,none⟩) (Kd.R_far (p:=⟨gb101,0,none⟩) (Kd.R_types HO104.out BK101.out (by decide)) (fun _ hk => hk.2) (.slice Ao7 y102.length co7)) (fun _ hk => hk.2) (.slice Ao6 y105.length co6)) (fun _ hk => trivial),by (with_reducible repeat (first|apply Kd.R_alloc|apply Kd.R_drewN|apply Kd.R_drew));exact Kd.R_mono (Kd.R_far (p:=⟨gb101,1,none⟩) (Kd.R_far (p:=⟨gb101,0,none⟩) (Kd.R_types HO107.out BK101.out (by decide)) (fun _ hk => hk.2) (.slice Ao7 y102.length co7)) (fun _ hk => hk.2) (.slice Ao6 y105.length co6)) (fun _ hk => trivial),v1 HB.out GE101.out⟩
end Go.Proofs.YtjjfpmapjjemcaaGreat.B
end
