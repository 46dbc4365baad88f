import Derived.Test.YtjjfpmapjjemcaaGreatQ11
import Derived.Test.YtjjfpmapjjemcaaGreatQ13
import Derived.Test.YtjjfpmapjjemcaaGreatQ7
set_option linter.unusedVariables false
set_option linter.unusedSimpArgs false
section
namespace Go.Proofs.YtjjfpmapjjemcaaGreat.B
open Go.RowKit Go.Proofs.YtjjfpmapjjemcaaGreatW.PrintWords Go.Proofs.YtjjfpmapjjemcaaGreatW.PrintLast Go.Proofs.YtjjfpmapjjemcaaGreatW.PrintMore
attribute [local go_sem] max2_int min2_int max_two min_two max_three min_three max_four min_four
def pit_Compare.f (k : Nat) (a0_0 : Int) (a0_1 : Int) (a1_0 : Int) (a1_1 : Int) : Option (Int × Int):=(pit_valid.f k a0_0 a0_1).bind fun t103 => (if t103 = true then ((pit_valid.f k a1_0 a1_1).bind fun t104 => (if t104 = true then ((pit_compare.f a0_0 a0_1 a1_0 a1_1).bind fun t105 => (some (t105,0))) else (some (0,1)))) else (some (0,1)))
theorem pit_Compare.mono : ∀ a0 a1 a2 a3 k,LeO (pit_Compare.f k a0 a1 a2 a3) (pit_Compare.f (k + 1) a0 a1 a2 a3):=by
 intro a0 a1 a2 a3 k
 unfold pit_Compare.f
 repeat' first
  |(with_reducible exact pit_valid.mono _ _ _)
  |(with_reducible exact LeO.refl _)
  |(with_reducible exact LeO.none _)
  |(with_reducible refine LeO.ite ?_ ?_)
  |(with_reducible refine LeO.bind ?_ (fun _ => ?_))
  |exact pit_valid.mono _ _ _
  |exact LeO.none _
  |refine LeO.ite ?_ ?_
  |refine LeO.bind ?_ (fun _ => ?_)
set_option maxHeartbeats 8000000 in
set_option maxRecDepth 100000 in
theorem pit_Compare.calls (k : Nat) (a0_0 : Int) (a0_1 : Int) (a1_0 : Int) (a1_1 : Int) (r1 : Int) (r2 : Int) (w : World) (h : pit_Compare.f k a0_0 a0_1 a1_0 a1_1 = some (r1,r2)) :
  Calls Tryz.prog 23 #[.agg #[ii a0_0,ii a0_1],.agg #[ii a1_0,ii a1_1]] w fun e w' => e = .returned (.tuple #[ii r1,ii r2]) ∧ Below w.heap.size w w':=by
 have hu43:=Tryz.underlying43
 have HB:=am (Below.refl w.heap.size w)
 have H : ((pit_valid.f k a0_0 a0_1).bind fun t103 => (if t103 = true then ((pit_valid.f k a1_0 a1_1).bind fun t104 => (if t104 = true then ((pit_compare.f a0_0 a0_1 a1_0 a1_1).bind fun t105 => (some (t105,0))) else (some (0,1)))) else (some (0,1)))) = some (r1,r2):=h
 clear h
 replace H:=Option.bind_eq_some_iff.mp H
 obtain ⟨t103,A30,H⟩:=H
 replace H : (if t103 = true then ((pit_valid.f k a1_0 a1_1).bind fun t104 => (if t104 = true then ((pit_compare.f a0_0 a0_1 a1_0 a1_1).bind fun t105 => (some (t105,0))) else (some (0,1)))) else (some (0,1))) = some (r1,r2):=H
 have A3:=am A30
 clear A30
 by_cases c4 : t103 = true
 ·subst c4
  have H1 : ((pit_valid.f k a1_0 a1_1).bind fun t104 => (if t104 = true then ((pit_compare.f a0_0 a0_1 a1_0 a1_1).bind fun t105 => (some (t105,0))) else (some (0,1)))) = some (r1,r2):=by rw [if_pos rfl] at H;exact H
  clear H
  have H:=H1
  clear H1
  replace H:=Option.bind_eq_some_iff.mp H
  obtain ⟨t104,A50,H⟩:=H
  replace H : (if t104 = true then ((pit_compare.f a0_0 a0_1 a1_0 a1_1).bind fun t105 => (some (t105,0))) else (some (0,1))) = some (r1,r2):=H
  have A5:=am A50
  clear A50
  by_cases c6 : t104 = true
  ·subst c6
   have H1 : ((pit_compare.f a0_0 a0_1 a1_0 a1_1).bind fun t105 => (some (t105,0))) = some (r1,r2):=by rw [if_pos rfl] at H;exact H
   clear H
   have H:=H1
   clear H1
   replace H:=Option.bind_eq_some_iff.mp H
   obtain ⟨t105,A70,H⟩:=H
   replace H : (some (t105,0)) = some (r1,r2):=H
   have A7:=am A70
   clear A70
   simp only [Option.some.injEq,Prod.mk.injEq] at H
   obtain ⟨rfl,rfl⟩:=H
   go_enter Tryz.func23,Tryz.ntmps23
   go_wp2_with (first|(refine bE 2 #[ii a0_0,ii a0_1] 43 ?_;intro gb101 hg w8 hbox hb;have BK101:=am (hbox);have GW101:=am (lg hg (below_size (v0 HB.out)) : w.heap.size ≤ gb101);have GE101:=GW101;replace HB:=am (below_step (v0 HB.out) hb);clear hb hbox hg)|(refine bE 3 #[ii a1_0,ii a1_1] 43 ?_;intro gb102 hg w9 hbox hb;have BK102:=am (hbox);have GW102:=am (lg hg (below_size (v1 HB.out GE101.out)) : w.heap.size ≤ gb102);have GE102:=GW102;have NB101_102:=am (nl hg (vb BK101.out));have NB102_101:=am ((nl hg (vb BK101.out)).symm);replace BK101:=am (blk_below (vb BK101.out) hb);replace HB:=am (below_step (v1 HB.out GE101.out) hb);clear hb hbox hg;have hnb10:=NB101_102.out;have hnc10:=NB102_101.out;have hcz11_0:=bd BK101.out 0;have hcz11_1:=bd BK101.out 1;have hfz11_0:=blk_frozen BK101.out 0;have hfz11_1:=blk_frozen BK101.out 1)|(refine cE (some 7) Tryz.func89 #[.agg #[ii a0_0,ii a0_1]] ?_;(with_reducible refine (pit_valid.calls k a0_0 a0_1 true _ A3.out).mono ?_);rintro e w12 ⟨rfl,hb⟩;refine ⟨_,rfl,?_⟩;replace BK101:=am (blk_below (vb BK101.out) hb);replace BK102:=am (blk_below (vb BK102.out) hb);replace HB:=am (below_step (v2 HB.out GE101.out GE102.out) hb);(try clear hb);(try clear hb2);(try clear hk);(try clear hi);have hcz13_0:=bd BK102.out 0;have hcz13_1:=bd BK102.out 1;have hfz13_0:=blk_frozen BK102.out 0;have hfz13_1:=blk_frozen BK102.out 1)|(go_at_call 89;(with_reducible refine (pit_valid.calls k a1_0 a1_1 true _ A5.out).mono ?_);rintro e w14 ⟨rfl,hb⟩;replace BK101:=am (blk_below (vb BK101.out) hb);replace BK102:=am (blk_below (vb BK102.out) hb);replace HB:=am (below_step (v2 HB.out GE101.out GE102.out) hb);(try clear hb);(try clear hb2);(try clear hk);(try clear hi);have hcz15_0:=bd BK101.out 0;have hcz15_1:=bd BK101.out 1;have hfz15_0:=blk_frozen BK101.out 0;have hfz15_1:=blk_frozen BK101.out 1;have hcz16_0:=bd BK102.out 0;have hcz16_1:=bd BK102.out 1;have hfz16_0:=blk_frozen BK102.out 0;have hfz16_1:=blk_frozen BK102.out 1)|(refine cE (some 16) Tryz.func91 #[.agg #[ii a0_0,ii a0_1],.agg #[ii a1_0,ii a1_1]] ?_;(with_reducible refine (pit_compare.calls a0_0 a0_1 a1_0 a1_1 t105 _ A7.out).mono ?_);rintro e w17 ⟨rfl,hb⟩;refine ⟨_,rfl,?_⟩;replace BK101:=am (blk_below (vb BK101.out) hb);replace BK102:=am (blk_below (vb BK102.out) hb);replace HB:=am (below_step (v2 HB.out GE101.out GE102.out) hb);(try clear hb);(try clear hb2);(try clear hk);(try clear hi)))
   go_ret2
   exact ⟨vf,v2 HB.out GE101.out GE102.out⟩
  ·replace c6:=Bool.eq_false_iff.mpr c6
   subst c6
   have H1 : (some (0,1)) = some (r1,r2):=by rw [if_neg (show ¬ (false = true) by decide)] at H;exact H
   clear H
   have H:=H1
   clear H1
   simp only [Option.some.injEq,Prod.mk.injEq] at H
   obtain ⟨rfl,rfl⟩:=H
   go_enter Tryz.func23,Tryz.ntmps23
   go_wp2_with (first|(refine bE 2 #[ii a0_0,ii a0_1] 43 ?_;intro gb101 hg w18 hbox hb;have BK101:=am (hbox);have GW101:=am (lg hg (below_size (v0 HB.out)) : w.heap.size ≤ gb101);have GE101:=GW101;replace HB:=am (below_step (v0 HB.out) hb);clear hb hbox hg)|(refine bE 3 #[ii a1_0,ii a1_1] 43 ?_;intro gb102 hg w19 hbox hb;have BK102:=am (hbox);have GW102:=am (lg hg (below_size (v1 HB.out GE101.out)) : w.heap.size ≤ gb102);have GE102:=GW102;have NB101_102:=am (nl hg (vb BK101.out));have NB102_101:=am ((nl hg (vb BK101.out)).symm);replace BK101:=am (blk_below (vb BK101.out) hb);replace HB:=am (below_step (v1 HB.out GE101.out) hb);clear hb hbox hg;have hnb20:=NB101_102.out;have hnc20:=NB102_101.out;have hcz21_0:=bd BK101.out 0;have hcz21_1:=bd BK101.out 1;have hfz21_0:=blk_frozen BK101.out 0;have hfz21_1:=blk_frozen BK101.out 1)|(refine cE (some 7) Tryz.func89 #[.agg #[ii a0_0,ii a0_1]] ?_;(with_reducible refine (pit_valid.calls k a0_0 a0_1 true _ A3.out).mono ?_);rintro e w22 ⟨rfl,hb⟩;refine ⟨_,rfl,?_⟩;replace BK101:=am (blk_below (vb BK101.out) hb);replace BK102:=am (blk_below (vb BK102.out) hb);replace HB:=am (below_step (v2 HB.out GE101.out GE102.out) hb);(try clear hb);(try clear hb2);(try clear hk);(try clear hi);have hcz23_0:=bd BK102.out 0;have hcz23_1:=bd BK102.out 1;have hfz23_0:=blk_frozen BK102.out 0;have hfz23_1:=blk_frozen BK102.out 1)|(go_at_call 89;(with_reducible refine (pit_valid.calls k a1_0 a1_1 false _ A5.out).mono ?_);rintro e w24 ⟨rfl,hb⟩;replace BK101:=am (blk_below (vb BK101.out) hb);replace BK102:=am (blk_below (vb BK102.out) hb);replace HB:=am (below_step (v2 HB.out GE101.out GE102.out) hb);(try clear hb);(try clear hb2);(try clear hk);(try clear hi)))
   go_ret2
   exact ⟨vf,v2 HB.out GE101.out GE102.out⟩
 ·replace c4:=Bool.eq_false_iff.mpr c4
  subst c4
  have H1 : (some (0,1)) = some (r1,r2):=by rw [if_neg (show ¬ (false = true) by decide)] at H;exact H
  clear H
  have H:=H1
  clear H1
  simp only [Option.some.injEq,Prod.mk.injEq] at H
  obtain ⟨rfl,rfl⟩:=H
  go_enter Tryz.func23,Tryz.ntmps23
  go_wp2_with (first|(refine bE 2 #[ii a0_0,ii a0_1] 43 ?_;intro gb101 hg w25 hbox hb;have BK101:=am (hbox);have GW101:=am (lg hg (below_size (v0 HB.out)) : w.heap.size ≤ gb101);have GE101:=GW101;replace HB:=am (below_step (v0 HB.out) hb);clear hb hbox hg)|(refine bE 3 #[ii a1_0,ii a1_1] 43 ?_;intro gb102 hg w26 hbox hb;have BK102:=am (hbox);have GW102:=am (lg hg (below_size (v1 HB.out GE101.out)) : w.heap.size ≤ gb102);have GE102:=GW102;have NB101_102:=am (nl hg (vb BK101.out));have NB102_101:=am ((nl hg (vb BK101.out)).symm);replace BK101:=am (blk_below (vb BK101.out) hb);replace HB:=am (below_step (v1 HB.out GE101.out) hb);clear hb hbox hg;have hnb27:=NB101_102.out;have hnc27:=NB102_101.out;have hcz28_0:=bd BK101.out 0;have hcz28_1:=bd BK101.out 1;have hfz28_0:=blk_frozen BK101.out 0;have hfz28_1:=blk_frozen BK101.out 1)|(refine cE (some 7) Tryz.func89 #[.agg #[ii a0_0,ii a0_1]] ?_;(with_reducible refine (pit_valid.calls k a0_0 a0_1 false _ A3.out).mono ?_);rintro e w29 ⟨rfl,hb⟩;refine ⟨_,rfl,?_⟩;replace BK101:=am (blk_below (vb BK101.out) hb);replace BK102:=am (blk_below (vb BK102.out) hb);replace HB:=am (below_step (v2 HB.out GE101.out GE102.out) hb);(try clear hb);(try clear hb2);(try clear hk);(try clear hi)))
  go_ret2
  exact ⟨vf,v2 HB.out GE101.out GE102.out⟩
end Go.Proofs.YtjjfpmapjjemcaaGreat.B
end
