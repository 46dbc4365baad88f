import Derived.Test.YtjjfpmapjjemcaaGreatQ13
import Derived.Test.YtjjfpmapjjemcaaGreatQ18
import Derived.Test.YtjjfpmapjjemcaaGreatQ7
set_option linter.unusedVariables false
set_option linter.unusedSimpArgs false
section
namespace Go.Proofs.YtjjfpmapjjemcaaGreat.B
open Go.RowKit Go.Proofs.YtjjfpmapjjemcaaGreatW.PrintWords Go.Proofs.YtjjfpmapjjemcaaGreatW.PrintLast Go.Proofs.YtjjfpmapjjemcaaGreatW.PrintMore
attribute [local go_sem] max2_int min2_int max_two min_two max_three min_three max_four min_four
def pit_barrow_share.f (k : Nat) (a0_0 : Int) (a0_1 : Int) (a0_2 : Int) (l0_3 : List (S89)) (a1 : Int) : Option (Int × Int):=(pit_barrow_part.f k a0_0 a0_1 a0_2 l0_3 a1).bind fun bt103 => ((pit_times.f k bt103.1 bt103.2 1 a0_2).bind fun bt105 => (some (bt105.1,bt105.2)))
set_option maxHeartbeats 8000000 in
set_option maxRecDepth 100000 in
theorem pit_barrow_share.calls (k : Nat) (a0_0 : Int) (a0_1 : Int) (a0_2 : Int) (A0_3 : Option Addr) (c0_3 : Nat) (l0_3 : List (S89)) (a1 : Int) (r1 : Int) (r2 : Int) (w : World) (hr0_3 : Kd.C k89 w A0_3 l0_3.length l0_3) (hc0_3 : l0_3.length ≤ c0_3) (h : pit_barrow_share.f k a0_0 a0_1 a0_2 l0_3 a1 = some (r1,r2)) :
  Calls Tryz.prog 100 #[.agg #[ii a0_0,ii a0_1,ii a0_2,.slice A0_3 l0_3.length c0_3],ii a1] w fun e w' => e = .returned (.agg #[ii r1,ii r2]) ∧ Below w.heap.size w w':=by
 have hu167:=Tryz.underlying167
 have hu43:=Tryz.underlying43
 have HR0_3:=am hr0_3
 have HC0_3:=am hc0_3
 clear hr0_3 hc0_3
 have HB:=am (Below.refl w.heap.size w)
 have H : ((pit_barrow_part.f k a0_0 a0_1 a0_2 l0_3 a1).bind fun bt103 => ((pit_times.f k bt103.1 bt103.2 1 a0_2).bind fun bt105 => (some (bt105.1,bt105.2)))) = some (r1,r2):=h
 clear h
 replace H:=Option.bind_eq_some_iff.mp H
 obtain ⟨⟨t103,t104⟩,A30,H⟩:=H
 replace H : ((pit_times.f k t103 t104 1 a0_2).bind fun bt105 => (some (bt105.1,bt105.2))) = some (r1,r2):=H
 have A3:=am A30
 clear A30
 replace H:=Option.bind_eq_some_iff.mp H
 obtain ⟨⟨t105,t106⟩,A40,H⟩:=H
 replace H : (some (t105,t106)) = some (r1,r2):=H
 have A4:=am A40
 clear A40
 simp only [Option.some.injEq,Prod.mk.injEq] at H
 obtain ⟨rfl,rfl⟩:=H
 go_enter Tryz.func100,Tryz.ntmps100
 try go_wp2_with (first|(refine bE 2 #[ii a0_0,ii a0_1,ii a0_2,.slice A0_3 l0_3.length c0_3] 167 ?_;intro gb101 hg w5 hbox hb;have BK101:=am (hbox);have GW101:=am (lg hg (below_size (v0 HB.out)) : w.heap.size ≤ gb101);have GE101:=GW101;replace HB:=am (below_step (v0 HB.out) hb);clear hb hbox hg)|(refine bE 4 #[ii 0,ii 0] 43 ?_;intro gb102 hg w6 hbox hb;have BK102:=am (hbox);have GW102:=am (lg hg (below_size (v1 HB.out GE101.out)) : w.heap.size ≤ gb102);have GE102:=GW102;have NB101_102:=am (nl hg (vb BK101.out));have NB102_101:=am ((nl hg (vb BK101.out)).symm);replace BK101:=am (blk_below (vb BK101.out) hb);replace HB:=am (below_step (v1 HB.out GE101.out) hb);clear hb hbox hg))
 replace BK101:=am (blk_drew BK101.out)
 replace BK102:=am (blk_drew BK102.out)
 replace HB:=am (below_drew1 HB.out)
 refine start_ (n:=7) (S:=fun w' => w'.cell? ⟨gb101,0,none⟩ = some (ii a0_0) ∧ w'.cell? ⟨gb101,1,none⟩ = some (ii a0_1) ∧ w'.cell? ⟨gb101,2,none⟩ = some (ii a0_2) ∧ w'.cell? ⟨gb101,3,none⟩ = some (.slice A0_3 l0_3.length c0_3)) (ds:=[]) (ab 7 0) kr rfl kr ⟨(blk_cell BK101.out 0).trans rfl,(blk_cell BK101.out 1).trans rfl,(blk_cell BK101.out 2).trans rfl,(blk_cell BK101.out 3).trans rfl⟩ (fun hHeld => ?_)
 generalize w6.drew = w7 at BK101 BK102 HB hHeld ⊢
 refine qA 1 (some 6) ?_;refine qA 3 (some 8) ?_;refine qT 0 (some 5) ?_;refine qT 4 (some 9) ?_
 refine qE 2 (some 7) fun K hK => ?_
 refine gC Tryz.func113 #[.agg #[ii a0_0,ii a0_1,ii a0_2,.slice A0_3 l0_3.length c0_3],ii a1] ?_
 with_reducible refine (pit_barrow_part.calls k a0_0 a0_1 a0_2 _ _ l0_3 a1 t103 t104 _ ?side1 ?side2 A3.out).mono ?_
 (case side1 => repeat (first|exact (Kd.C_below HR0_3.out HB.out)|(with_reducible refine Kd.C_alloc ?_ _)|(with_reducible refine Kd.C_drewN ?_ _)|(with_reducible refine Kd.C_drew ?_)))
 (case side2 => exact HC0_3.out)
 rintro e w8 ⟨rfl,hb⟩
 refine ⟨_,rfl,?_⟩
 replace BK101:=am (blk_below (vb BK101.out) hb)
 replace BK102:=am (blk_below (vb BK102.out) hb)
 replace HB:=am (below_step (v2 HB.out GE101.out GE102.out) hb)
 (try clear hb)
 (try clear hb2)
 (try clear hk)
 (try clear hi)
 refine hK.out _ _ ⟨(blk_cell BK101.out 0).trans rfl,(blk_cell BK101.out 1).trans rfl,(blk_cell BK101.out 2).trans rfl,(blk_cell BK101.out 3).trans rfl⟩ (fun hHeld => ?_)
 clear hK K
 refine qN (some 7) ?_
 refine qE 5 (some 10) fun K hK => ?_
 refine gC Tryz.func88 #[.agg #[ii t103,ii t104],ii 1,ii a0_2] ?_
 with_reducible refine (pit_times.calls k t103 t104 1 a0_2 t105 t106 _ A4.out).mono ?_
 rintro e w9 ⟨rfl,hb⟩
 refine ⟨_,rfl,?_⟩
 replace BK101:=am (blk_below (vb BK101.out) hb)
 replace BK102:=am (blk_below (vb BK102.out) hb)
 replace HB:=am (below_step (v2 HB.out GE101.out GE102.out) hb)
 (try clear hb)
 (try clear hb2)
 (try clear hk)
 (try clear hi)
 refine hK.out _ _ ⟨(blk_cell BK101.out 0).trans rfl,(blk_cell BK101.out 1).trans rfl,(blk_cell BK101.out 2).trans rfl,(blk_cell BK101.out 3).trans rfl⟩ (fun hHeld => ?_)
 clear hK K
 refine qN (some 10) ?_
 refine qE 6 (none) fun K hK => ?_
 have hs10:=bd BK102.out 0
 have hfs10:=blk_frozen BK102.out 0
 have hns10_0:=NB101_102.out
 have hms10_0:=NB102_101.out
 have hs11:=bd BK102.out 1
 have hfs11:=blk_frozen BK102.out 1
 have hns11_0:=NB101_102.out
 have hms11_0:=NB102_101.out
 refine skip_ (w1:=?_) (by rfl) rfl ?_ ?_
 rotate_left
 ·go_simp
  rfl
 refine hK.out _ _ ⟨((cell_far (p:=⟨gb102,_,none⟩) NB101_102.out _).trans (((cell_far (p:=⟨gb102,_,none⟩) NB101_102.out _).trans (hHeld.1)))),((cell_far (p:=⟨gb102,_,none⟩) NB101_102.out _).trans (((cell_far (p:=⟨gb102,_,none⟩) NB101_102.out _).trans (hHeld.2.1)))),((cell_far (p:=⟨gb102,_,none⟩) NB101_102.out _).trans (((cell_far (p:=⟨gb102,_,none⟩) NB101_102.out _).trans (hHeld.2.2.1)))),((cell_far (p:=⟨gb102,_,none⟩) NB101_102.out _).trans (((cell_far (p:=⟨gb102,_,none⟩) NB101_102.out _).trans (hHeld.2.2.2))))⟩ (fun hHeld => ?_)
 clear hK K
 refine done_ kr ?_
 try go_wp2
 refine bodyPost_ret (results_cell_row rfl _ _ gb102 43 #[ii t105,ii t106] (0,0) _ rfl (by (with_reducible repeat (first|refine blk_drewN ?_ _|refine blk_drew ?_|refine blk_alloc ?_ _));refine blk_put (cs:=#[ii t105,ii 0]) ?_ 1 _ rfl;(with_reducible repeat (first|refine blk_drewN ?_ _|refine blk_drew ?_|refine blk_alloc ?_ _));refine blk_put (cs:=#[ii 0,ii 0]) ?_ 0 _ rfl;(with_reducible repeat (first|refine blk_drewN ?_ _|refine blk_drew ?_|refine blk_alloc ?_ _));exact BK102.out) Tryz.underlying43 rfl kr) rfl ?_
 exact ⟨vf,v2 HB.out GE101.out GE102.out⟩
end Go.Proofs.YtjjfpmapjjemcaaGreat.B
end
