import Derived.Test.YtjjfpmapjjemcaaGreatQ1
import Derived.Test.YtjjfpmapjjemcaaGreatQ2
import Derived.Test.YtjjfpmapjjemcaaGreatQ3
import Derived.Test.YtjjfpmapjjemcaaGreatQ4
import Derived.Test.YtjjfpmapjjemcaaGreatQ5
import Derived.Test.YtjjfpmapjjemcaaGreatQ6
set_option linter.unusedVariables false
set_option linter.unusedSimpArgs false
section
namespace Go.Proofs.YtjjfpmapjjemcaaGreat.B
open Go.RowKit Go.Proofs.YtjjfpmapjjemcaaGreatW.PrintWords Go.Proofs.YtjjfpmapjjemcaaGreatW.PrintLast Go.Proofs.YtjjfpmapjjemcaaGreatW.PrintMore
attribute [local go_sem] max2_int min2_int max_two min_two max_three min_three max_four min_four
def calxref04_ratio.f (k : Nat) (a0 : Int) (a1 : Int) : Option (Int × Int):=(calxref04_divisor.f k a0 a1).bind fun t102 => (if t102 = 0 then (none) else (some (wrap64 (Int.tdiv a0 t102),wrap64 (Int.tdiv a1 t102))))
def calxref04_ratio.T2 : Bool × List (List Nat × List Nat):=(true,[([],[]),([],[]),([0,1],[0,1]),([],[]),([],[]),([3,4],[3,4]),([2,5],[2,5]),([6,0,1,2,3,4,5,6],[6])])
def calxref04_ratio.B2 : List Nat:=[0,0,3,0,0,24,63,127]
theorem calxref04_ratio.tab2 : rtab .any (opsOf Tryz.f169 2) = calxref04_ratio.T2:=by kernel_rfl
theorem calxref04_ratio.bits2 : waitsOk calxref04_ratio.T2.2 calxref04_ratio.B2 = true:=by kernel_rfl
set_option maxHeartbeats 8000000 in
set_option maxRecDepth 100000 in
theorem calxref04_ratio.calls (k : Nat) (a0 : Int) (a1 : Int) (r1 : Int) (r2 : Int) (w : World) (h : calxref04_ratio.f k a0 a1 = some (r1,r2)) :
  Calls Tryz.prog 169 #[.int .i64 a0,.int .i64 a1] w fun e w' => e = .returned (.agg #[.int .i64 r1,.int .i64 r2]) ∧ Below w.heap.size w w':=by
 have hu43:=Tryz.underlying43
 have HB:=am (Below.refl w.heap.size w)
 have H : ((calxref04_divisor.f k a0 a1).bind fun t102 => (if t102 = 0 then (none) else (some (wrap64 (Int.tdiv a0 t102),wrap64 (Int.tdiv a1 t102))))) = some (r1,r2):=h
 clear h
 replace H:=Option.bind_eq_some_iff.mp H
 obtain ⟨t102,A30,H⟩:=H
 replace H : (if t102 = 0 then (none) else (some (wrap64 (Int.tdiv a0 t102),wrap64 (Int.tdiv a1 t102)))) = some (r1,r2):=H
 have A3:=am A30
 clear A30
 by_cases c4 : t102 = 0
 ·rw [if_pos c4] at H
  exact absurd H (by simp)
 ·rw [if_neg c4] at H
  have c4b0 : (t102 == 0) = false:=beq_eq_false_iff_ne.mpr c4
  have c4b1 : (t102 != 0) = true:=bne_iff_ne.mpr c4
  simp only [Option.some.injEq,Prod.mk.injEq] at H
  obtain ⟨rfl,rfl⟩:=H
  go_enter Tryz.func169,Tryz.ntmps169
  try go_wp2_with (first|((with_reducible refine gate_dst (N:=4) rfl ?_);refine box_event ?hg (N:=4) ?hd (cs:=#[.int .i64 0,.int .i64 0]) (t:=43) ?hr ?_;(case hd => rfl);(case hg => rfl);(case hr => first|(go_simp;done)|(go_simp;rfl));intro gb101 hg w5 hbox hb;have n0_:=am (below_step (v0 HB.out) hb);have n1_:=am (hbox);have n2_:=am ((by rw [hg];exact (below_size (v0 HB.out)) : w.heap.size ≤ gb101));have n3_:=am ((by rw [hg];exact (below_size (v0 HB.out)) : w.heap.size ≤ gb101));clear HB;have HB:=n0_;have BK101:=n1_;have GW101:=n2_;have GE101:=n3_;clear n0_ n1_ n2_ n3_;clear hb hbox hg)|((with_reducible refine gate_callee (f:=168) rfl ?_);refine goesL_ (some 8) rfl rfl Tryz.func168 kr rfl #[.int .i64 a0,.int .i64 a1] rfl vm ?_;(with_reducible refine (calxref04_divisor.calls k a0 a1 t102 _ A3.out).mono ?_);rintro e w' ⟨rfl,⟨nd,rfl⟩⟩;refine ⟨_,rfl,?_⟩;(try (rw [drewN_self w5];generalize hq_ : World.drewN w5 _ = w5;have n0_ : Aside0 (w5.heap[gb101]? = some (.cells #[.int .i64 0,.int .i64 0] 43 (0,0))):=⟨by rw [← hq_];exact (vb BK101.out)⟩;have n1_ : Aside0 (Below w.heap.size w w5):=⟨by rw [← hq_];exact (v1 HB.out GE101.out)⟩;clear BK101 HB hq_;have BK101:=n0_;have HB:=n1_;clear n0_ n1_))))
  have n0_:=am (blk_drew BK101.out)
  have n1_:=am (below_drew1 HB.out)
  clear BK101
  clear HB
  have BK101:=n0_
  have HB:=n1_
  clear n0_ n1_
  refine start_ (n:=8) (S:=fun w' => True) (ds:=[]) #[false,false,false,false,false,false,false,false] kr rfl rfl trivial (fun hHeld => ?_);refine with_tabW calxref04_ratio.tab2 calxref04_ratio.bits2 (fun HT_ HW_ => ?_)
  generalize w5.drew = w6 at BK101 HB hHeld ⊢
  refine pA 0 (some 9) ?_ 8 1 HT_.out ?_ ?_ ?_ ?_
  rotate_left
  ·intro w'
   go_simp
   with_reducible rfl
  rotate_left
  ·exact vs
  refine pA 1 (some 10) ?_ 8 3 HT_.out ?_ ?_ ?_ ?_
  rotate_left
  ·intro w'
   go_simp
   with_reducible rfl
  rotate_left
  ·exact vs
  refine pA 2 (some 11) ?_ 8 7 HT_.out ?_ ?_ ?_ ?_
  rotate_left
  ·intro w'
   go_simp
   with_reducible rfl
  rotate_left
  ·exact vs
  refine pA 3 (some 12) ?_ 8 15 HT_.out ?_ ?_ ?_ ?_
  rotate_left
  ·intro w'
   go_simp
   with_reducible rfl
  rotate_left
  ·exact vs
  refine pA 4 (some 13) ?_ 8 31 HT_.out ?_ ?_ ?_ ?_
  rotate_left
  ·intro w'
   go_simp
   with_reducible rfl
  rotate_left
  ·exact vs
  refine pA 5 (some 14) ?_ 8 63 HT_.out ?_ ?_ ?_ ?_
  rotate_left
  ·intro w'
   go_simp
   with_reducible rfl
  rotate_left
  ·exact vs
  refine pA 6 (some 15) ?_ 8 127 HT_.out ?_ ?_ ?_ ?_
  rotate_left
  ·intro w'
   go_simp
   with_reducible rfl
  rotate_left
  ·exact vs
  refine one_ (i:=7) (N:=none) (ab 8 255) rfl rfl (one_of HT_.out kr) (by decide) (fun K hK => ?_)
  have hs7:=bc BK101.out 0 (.int .i64 0)
  have hfs7:=blk_frozen BK101.out 0
  have hs8:=bc BK101.out 1 (.int .i64 0)
  have hfs8:=blk_frozen BK101.out 1
  refine skip_ (w1:=?_) (by rfl) rfl ?_ ?_
  rotate_left
  ·go_simp
   rfl
  refine hK.out _ _ trivial (fun hHeld => ?_)
  clear hK K
  refine done_ (done_of HT_.out kr) ?_
  try go_wp2
  refine bodyPost_ret (results_cell_row rfl _ _ gb101 43 #[.int .i64 (wrap64 (Int.tdiv a0 t102)),.int .i64 (wrap64 (Int.tdiv a1 t102))] (0,0) _ rfl (by (with_reducible repeat (first|refine blk_drewN ?_ _|refine blk_drew ?_|refine blk_alloc ?_ _));refine blk_put (cs:=#[.int .i64 (wrap64 (Int.tdiv a0 t102)),.int .i64 0]) ?_ 1 _ rfl;(with_reducible repeat (first|refine blk_drewN ?_ _|refine blk_drew ?_|refine blk_alloc ?_ _));refine blk_put (cs:=#[.int .i64 0,.int .i64 0]) ?_ 0 _ rfl;(with_reducible repeat (first|refine blk_drewN ?_ _|refine blk_drew ?_|refine blk_alloc ?_ _));exact BK101.out) Tryz.underlying43 rfl kr) rfl ?_
  exact ⟨vf,v1 HB.out GE101.out⟩
def calxref04_times.f (k : Nat) (a0_0 : Int) (a0_1 : Int) (a1 : Int) (a2 : Int) : Option (Int × Int):=(calxref04_ratio.f k (wrap64 (a0_0 * a1)) (wrap64 (a0_1 * a2))).bind fun bt103 => (some (bt103.1,bt103.2))
set_option maxHeartbeats 8000000 in
set_option maxRecDepth 100000 in
theorem calxref04_times.calls (k : Nat) (a0_0 : Int) (a0_1 : Int) (a1 : Int) (a2 : Int) (r1 : Int) (r2 : Int) (w : World) (h : calxref04_times.f k a0_0 a0_1 a1 a2 = some (r1,r2)) :
  Calls Tryz.prog 112 #[.agg #[.int .i64 a0_0,.int .i64 a0_1],.int .i64 a1,.int .i64 a2] w fun e w' => e = .returned (.agg #[.int .i64 r1,.int .i64 r2]) ∧ Below w.heap.size w w':=by
 have hu43:=Tryz.underlying43
 have HB:=am (Below.refl w.heap.size w)
 have H : ((calxref04_ratio.f k (wrap64 (a0_0 * a1)) (wrap64 (a0_1 * a2))).bind fun bt103 => (some (bt103.1,bt103.2))) = some (r1,r2):=h
 clear h
 replace H:=Option.bind_eq_some_iff.mp H
 obtain ⟨⟨t103,t104⟩,A40,H⟩:=H
 replace H : (some (t103,t104)) = some (r1,r2):=H
 have A4:=am A40
 clear A40
 simp only [Option.some.injEq,Prod.mk.injEq] at H
 obtain ⟨rfl,rfl⟩:=H
 go_enter Tryz.func112,Tryz.ntmps112
 go_wp2_with (first|((with_reducible refine gate_dst (N:=3) rfl ?_);refine box_event ?hg (N:=3) ?hd (cs:=#[.int .i64 a0_0,.int .i64 a0_1]) (t:=43) ?hr ?_;(case hd => rfl);(case hg => rfl);(case hr => first|(go_simp;done)|(go_simp;rfl));intro gb101 hg w5 hbox hb;have n0_:=am (below_step (v0 HB.out) hb);have n1_:=am (hbox);have n2_:=am ((by rw [hg];exact (below_size (v0 HB.out)) : w.heap.size ≤ gb101));have n3_:=am ((by rw [hg];exact (below_size (v0 HB.out)) : w.heap.size ≤ gb101));clear HB;have HB:=n0_;have BK101:=n1_;have GW101:=n2_;have GE101:=n3_;clear n0_ n1_ n2_ n3_;clear hb hbox hg)|((with_reducible refine gate_dst (N:=6) rfl ?_);refine box_event ?hg (N:=6) ?hd (cs:=#[.int .i64 0,.int .i64 0]) (t:=43) ?hr ?_;(case hd => rfl);(case hg => rfl);(case hr => first|(go_simp;done)|(go_simp;rfl));intro gb102 hg w6 hbox hb;have n0_:=am (blk_below (g:=gb101) (o:=.cells #[.int .i64 a0_0,.int .i64 a0_1] 43 (0,0)) (vb BK101.out) hb);have n1_:=am (below_step (v1 HB.out GE101.out) hb);have n2_:=am (hbox);have n3_:=am ((by rw [hg];exact (below_size (v1 HB.out GE101.out)) : w.heap.size ≤ gb102));have n4_:=am ((by rw [hg];exact (below_size (v1 HB.out GE101.out)) : w.heap.size ≤ gb102));have n5_:=am ((by rw [hg];exact Nat.ne_of_lt (blk_lt (g:=gb101) (o:=.cells #[.int .i64 a0_0,.int .i64 a0_1] 43 (0,0)) (vb BK101.out)) : gb101 ≠ gb102));have n6_:=am ((by rw [hg];exact Nat.ne_of_gt (blk_lt (g:=gb101) (o:=.cells #[.int .i64 a0_0,.int .i64 a0_1] 43 (0,0)) (vb BK101.out)) : gb102 ≠ gb101));clear BK101;clear HB;have BK101:=n0_;have HB:=n1_;have BK102:=n2_;have GW102:=n3_;have GE102:=n4_;have NB101_102:=n5_;have NB102_101:=n6_;clear n0_ n1_ n2_ n3_ n4_ n5_ n6_;clear hb hbox hg;have hnb7:=NB101_102.out;have hnc7:=NB102_101.out;have hcz8_0:=bc BK101.out 0 (.int .i64 a0_0);have hcz8_1:=bc BK101.out 1 (.int .i64 a0_1);have hfz8_0:=blk_frozen BK101.out 0;have hfz8_1:=blk_frozen BK101.out 1)|((with_reducible refine gate_callee (f:=169) rfl ?_);refine goesL_ (some 15) rfl rfl Tryz.func169 kr rfl #[.int .i64 (wrap64 (a0_0 * a1)),.int .i64 (wrap64 (a0_1 * a2))] rfl vm ?_;(with_reducible refine (calxref04_ratio.calls k (wrap64 (a0_0 * a1)) (wrap64 (a0_1 * a2)) t103 t104 _ A4.out).mono ?_);rintro e w9 ⟨rfl,hb⟩;refine ⟨_,rfl,?_⟩;have n0_:=am (blk_below (g:=gb101) (o:=.cells #[.int .i64 a0_0,.int .i64 a0_1] 43 (0,0)) (vb BK101.out) hb);have n1_:=am (blk_below (g:=gb102) (o:=.cells #[.int .i64 0,.int .i64 0] 43 (0,0)) (vb BK102.out) hb);have n2_:=am (below_step (v2 HB.out GE101.out GE102.out) hb);clear BK101;clear BK102;clear HB;have BK101:=n0_;have BK102:=n1_;have HB:=n2_;clear n0_ n1_ n2_;(try clear hb);(try clear hb2);(try clear hk);(try clear hi);have hcz10_0:=bc BK102.out 0 (.int .i64 0);have hcz10_1:=bc BK102.out 1 (.int .i64 0);have hfz10_0:=blk_frozen BK102.out 0;have hfz10_1:=blk_frozen BK102.out 1))
 refine bodyPost_ret (results_cell_row rfl _ _ gb102 43 #[.int .i64 t103,.int .i64 t104] (0,0) _ rfl (by (with_reducible repeat (first|refine blk_drewN ?_ _|refine blk_drew ?_|refine blk_alloc ?_ _));refine blk_put (cs:=#[.int .i64 t103,.int .i64 0]) ?_ 1 _ rfl;(with_reducible repeat (first|refine blk_drewN ?_ _|refine blk_drew ?_|refine blk_alloc ?_ _));refine blk_put (cs:=#[.int .i64 0,.int .i64 0]) ?_ 0 _ rfl;(with_reducible repeat (first|refine blk_drewN ?_ _|refine blk_drew ?_|refine blk_alloc ?_ _));exact BK102.out) Tryz.underlying43 rfl kr) rfl ?_
 exact ⟨vf,v2 HB.out GE101.out GE102.out⟩
def calxref04_Times.j0 : Nat → Int → Int → Bool → Int → Int → Option (Int × Int × Int)
|0,_,_,_,_,_ => none
|k + 1,x1,x2,x21,x102000,x102001 => if x21 = true then (some (0,0,1)) else ((calxref04_times.f k x102000 x102001 x1 x2).bind fun bt106 => ((calxref04_made.f k bt106.1 bt106.2).bind fun bt108 => (some (bt108.1,bt108.2.1,bt108.2.2))))
def calxref04_Times.f (k : Nat) (a0_0 : Int) (a0_1 : Int) (a1 : Int) (a2 : Int) : Option (Int × Int × Int):=(calxref04_Valid.f k a0_0 a0_1).bind fun t103 => (if t103 = true then ((calxref04_in.f a1 0 16384).bind fun t104 => (if t104 = true then ((calxref04_in.f a2 1 16384).bind fun t105 => (calxref04_Times.j0 k a1 a2 (!t105) a0_0 a0_1)) else (calxref04_Times.j0 k a1 a2 true a0_0 a0_1))) else (calxref04_Times.j0 k a1 a2 true a0_0 a0_1))
set_option maxHeartbeats 8000000 in
set_option maxRecDepth 100000 in
theorem calxref04_Times.calls (k : Nat) (a0_0 : Int) (a0_1 : Int) (a1 : Int) (a2 : Int) (r1 : Int) (r2 : Int) (r3 : Int) (w : World) (h : calxref04_Times.f k a0_0 a0_1 a1 a2 = some (r1,r2,r3)) :
  Calls Tryz.prog 49 #[.agg #[.int .i64 a0_0,.int .i64 a0_1],.int .i64 a1,.int .i64 a2] w fun e w' => e = .returned (.agg #[.int .i64 r1,.int .i64 r2,.int .i64 r3]) ∧ Below w.heap.size w w':=by
 have hu43:=Tryz.underlying43
 have hu63:=Tryz.underlying63
 have HB:=am (Below.refl w.heap.size w)
 have H : ((calxref04_Valid.f k a0_0 a0_1).bind fun t103 => (if t103 = true then ((calxref04_in.f a1 0 16384).bind fun t104 => (if t104 = true then ((calxref04_in.f a2 1 16384).bind fun t105 => (calxref04_Times.j0 k a1 a2 (!t105) a0_0 a0_1)) else (calxref04_Times.j0 k a1 a2 true a0_0 a0_1))) else (calxref04_Times.j0 k a1 a2 true a0_0 a0_1))) = some (r1,r2,r3):=h
 clear h
 replace H:=Option.bind_eq_some_iff.mp H
 obtain ⟨t103,A40,H⟩:=H
 replace H : (if t103 = true then ((calxref04_in.f a1 0 16384).bind fun t104 => (if t104 = true then ((calxref04_in.f a2 1 16384).bind fun t105 => (calxref04_Times.j0 k a1 a2 (!t105) a0_0 a0_1)) else (calxref04_Times.j0 k a1 a2 true a0_0 a0_1))) else (calxref04_Times.j0 k a1 a2 true a0_0 a0_1)) = some (r1,r2,r3):=H
 have A4:=am A40
 clear A40
 have HC5:=am H
 clear H
 go_enter Tryz.func49,Tryz.ntmps49
 go_upto_region 2 with (first|((with_reducible refine gate_dst (N:=3) rfl ?_);refine box_event ?hg (N:=3) ?hd (cs:=#[.int .i64 a0_0,.int .i64 a0_1]) (t:=43) ?hr ?_;(case hd => rfl);(case hg => rfl);(case hr => first|(go_simp;done)|(go_simp;rfl));intro gb101 hg w6 hbox hb;have n0_:=am (below_step (v0 HB.out) hb);have n1_:=am (hbox);have n2_:=am ((by rw [hg];exact (below_size (v0 HB.out)) : w.heap.size ≤ gb101));have n3_:=am ((by rw [hg];exact (below_size (v0 HB.out)) : w.heap.size ≤ gb101));clear HB;have HB:=n0_;have BK101:=n1_;have GW101:=n2_;have GE101:=n3_;clear n0_ n1_ n2_ n3_;clear hb hbox hg)|((with_reducible refine gate_dst (N:=6) rfl ?_);refine box_event ?hg (N:=6) ?hd (cs:=#[.int .i64 0,.int .i64 0,.int .i64 0]) (t:=63) ?hr ?_;(case hd => rfl);(case hg => rfl);(case hr => first|(go_simp;done)|(go_simp;rfl));intro gb102 hg w7 hbox hb;have n0_:=am (blk_below (g:=gb101) (o:=.cells #[.int .i64 a0_0,.int .i64 a0_1] 43 (0,0)) (vb BK101.out) hb);have n1_:=am (below_step (v1 HB.out GE101.out) hb);have n2_:=am (hbox);have n3_:=am ((by rw [hg];exact (below_size (v1 HB.out GE101.out)) : w.heap.size ≤ gb102));have n4_:=am ((by rw [hg];exact (below_size (v1 HB.out GE101.out)) : w.heap.size ≤ gb102));have n5_:=am ((by rw [hg];exact Nat.ne_of_lt (blk_lt (g:=gb101) (o:=.cells #[.int .i64 a0_0,.int .i64 a0_1] 43 (0,0)) (vb BK101.out)) : gb101 ≠ gb102));have n6_:=am ((by rw [hg];exact Nat.ne_of_gt (blk_lt (g:=gb101) (o:=.cells #[.int .i64 a0_0,.int .i64 a0_1] 43 (0,0)) (vb BK101.out)) : gb102 ≠ gb101));clear BK101;clear HB;have BK101:=n0_;have HB:=n1_;have BK102:=n2_;have GW102:=n3_;have GE102:=n4_;have NB101_102:=n5_;have NB102_101:=n6_;clear n0_ n1_ n2_ n3_ n4_ n5_ n6_;clear hb hbox hg;have hnb8:=NB101_102.out;have hnc8:=NB102_101.out;have hcz9_0:=bc BK101.out 0 (.int .i64 a0_0);have hcz9_1:=bc BK101.out 1 (.int .i64 a0_1);have hfz9_0:=blk_frozen BK101.out 0;have hfz9_1:=blk_frozen BK101.out 1)|((with_reducible refine gate_callee (f:=127) rfl ?_);refine goesL_ (some 9) rfl rfl Tryz.func127 kr rfl #[.agg #[.int .i64 a0_0,.int .i64 a0_1]] rfl vm ?_;(with_reducible refine (calxref04_Valid.calls k a0_0 a0_1 t103 _ A4.out).mono ?_);rintro e w10 ⟨rfl,hb⟩;refine ⟨_,rfl,?_⟩;have n0_:=am (blk_below (g:=gb101) (o:=.cells #[.int .i64 a0_0,.int .i64 a0_1] 43 (0,0)) (vb BK101.out) hb);have n1_:=am (blk_below (g:=gb102) (o:=.cells #[.int .i64 0,.int .i64 0,.int .i64 0] 63 (0,0)) (vb BK102.out) hb);have n2_:=am (below_step (v2 HB.out GE101.out GE102.out) hb);clear BK101;clear BK102;clear HB;have BK101:=n0_;have BK102:=n1_;have HB:=n2_;clear n0_ n1_ n2_;(try clear hb);(try clear hb2);(try clear hk);(try clear hi)))
 (try simp only [Act.put,List.setIfInBounds_toArray,List.set_cons_zero,List.set_cons_succ])
 go_cut [21] (fun v21 wc => ∃ (kq : Nat) (x21_4 : Bool),v21 = .bool x21_4 ∧ Aside0 (calxref04_Times.j0 kq a1 a2 x21_4 a0_0 a0_1 = some (r1,r2,r3)) ∧ Aside0 (kq ≤ k) ∧ Aside0 (wc.heap[gb101]? = some (.cells #[.int .i64 a0_0,.int .i64 a0_1] 43 (0,0))) ∧ Aside0 (wc.heap[gb102]? = some (.cells #[.int .i64 0,.int .i64 0,.int .i64 0] 63 (0,0))) ∧ Aside0 (Below w.heap.size w wc))
 case first =>
  have H:=HC5.out
  clear HC5
  by_cases c11 : t103 = true
  ·subst c11
   have H1 : ((calxref04_in.f a1 0 16384).bind fun t104 => (if t104 = true then ((calxref04_in.f a2 1 16384).bind fun t105 => (calxref04_Times.j0 k a1 a2 (!t105) a0_0 a0_1)) else (calxref04_Times.j0 k a1 a2 true a0_0 a0_1))) = some (r1,r2,r3):=by rw [if_pos rfl] at H;exact H
   clear H
   have H:=H1
   clear H1
   replace H:=Option.bind_eq_some_iff.mp H
   obtain ⟨t104,A120,H⟩:=H
   replace H : (if t104 = true then ((calxref04_in.f a2 1 16384).bind fun t105 => (calxref04_Times.j0 k a1 a2 (!t105) a0_0 a0_1)) else (calxref04_Times.j0 k a1 a2 true a0_0 a0_1)) = some (r1,r2,r3):=H
   have A12:=am A120
   clear A120
   by_cases c13 : t104 = true
   ·subst c13
    have H1 : ((calxref04_in.f a2 1 16384).bind fun t105 => (calxref04_Times.j0 k a1 a2 (!t105) a0_0 a0_1)) = some (r1,r2,r3):=by rw [if_pos rfl] at H;exact H
    clear H
    have H:=H1
    clear H1
    replace H:=Option.bind_eq_some_iff.mp H
    obtain ⟨t105,A140,H⟩:=H
    replace H : (calxref04_Times.j0 k a1 a2 (!t105) a0_0 a0_1) = some (r1,r2,r3):=H
    have A14:=am A140
    clear A140
    have H':=am H
    clear H
    go_wp2_with (first|(go_at_call 110;(with_reducible refine (calxref04_in.calls a1 0 16384 true _ A12.out).mono ?_);rintro e w' ⟨rfl,⟨nd,rfl⟩⟩)|(go_at_call 110;(with_reducible refine (calxref04_in.calls a2 1 16384 t105 _ A14.out).mono ?_);rintro e w' ⟨rfl,⟨nd,rfl⟩⟩))
    go_meet
    case rel => exact ⟨_,(!t105),ve,H',⟨by first|omega|exact Nat.le_refl _⟩,⟨vb BK101.out⟩,⟨vb BK102.out⟩,⟨v2 HB.out GE101.out GE102.out⟩⟩
   ·replace c13:=Bool.eq_false_iff.mpr c13
    subst c13
    have H1 : (calxref04_Times.j0 k a1 a2 true a0_0 a0_1) = some (r1,r2,r3):=by rw [if_neg (show ¬ (false = true) by decide)] at H;exact H
    clear H
    have H:=H1
    clear H1
    have H':=am H
    clear H
    go_wp2_with (first|(go_at_call 110;(with_reducible refine (calxref04_in.calls a1 0 16384 false _ A12.out).mono ?_);rintro e w' ⟨rfl,⟨nd,rfl⟩⟩))
    go_meet
    case rel => exact ⟨_,(true),ve,H',⟨by first|omega|exact Nat.le_refl _⟩,⟨vb BK101.out⟩,⟨vb BK102.out⟩,⟨v2 HB.out GE101.out GE102.out⟩⟩
  ·replace c11:=Bool.eq_false_iff.mpr c11
   subst c11
   have H1 : (calxref04_Times.j0 k a1 a2 true a0_0 a0_1) = some (r1,r2,r3):=by rw [if_neg (show ¬ (false = true) by decide)] at H;exact H
   clear H
   have H:=H1
   clear H1
   have H':=am H
   clear H
   go_wp2
   go_meet
   case rel => exact ⟨_,(true),ve,H',⟨by first|omega|exact Nat.le_refl _⟩,⟨vb BK101.out⟩,⟨vb BK102.out⟩,⟨v2 HB.out GE101.out GE102.out⟩⟩
 case rest =>
  clear HC5
  try clear c1
  try clear p2
  try clear c4
  try clear c8
  try clear c11
  try clear c12
  try clear c13
  try clear hcz9_0
  try clear hcz9_1
  try clear hfz9_0
  try clear hfz9_1
  obtain ⟨kq,x21_4,rfl,HA,HJ4,BK101,BK102,HB⟩:=hcut
  cases kq with
 |zero => exact absurd HA.out (by simp [calxref04_Times.j0])
 |succ kj4 =>
   have H:=HA.out
   clear HA
   simp only [calxref04_Times.j0] at H
   by_cases c15 : x21_4 = true
   ·subst c15
    have H1 : (some (0,0,1)) = some (r1,r2,r3):=by rw [if_pos rfl] at H;exact H
    clear H
    have H:=H1
    clear H1
    simp only [Option.some.injEq,Prod.mk.injEq] at H
    obtain ⟨rfl,rfl,rfl⟩:=H
    have hnb16:=NB102_101.out
    have hnc16:=NB101_102.out
    have hcz17_0:=bc BK102.out 0 (.int .i64 0)
    have hcz17_1:=bc BK102.out 1 (.int .i64 0)
    have hcz17_2:=bc BK102.out 2 (.int .i64 0)
    have hfz17_0:=blk_frozen BK102.out 0
    have hfz17_1:=blk_frozen BK102.out 1
    have hfz17_2:=blk_frozen BK102.out 2
    go_wp2
    refine bodyPost_ret (results_cell_row rfl _ _ gb102 63 #[.int .i64 0,.int .i64 0,.int .i64 1] (0,0) _ rfl (by (with_reducible repeat (first|refine blk_drewN ?_ _|refine blk_drew ?_|refine blk_alloc ?_ _));refine blk_put (cs:=#[.int .i64 0,.int .i64 0,.int .i64 0]) ?_ 2 _ rfl;(with_reducible repeat (first|refine blk_drewN ?_ _|refine blk_drew ?_|refine blk_alloc ?_ _));refine blk_put (cs:=#[.int .i64 0,.int .i64 0,.int .i64 0]) ?_ 1 _ rfl;(with_reducible repeat (first|refine blk_drewN ?_ _|refine blk_drew ?_|refine blk_alloc ?_ _));refine blk_put (cs:=#[.int .i64 0,.int .i64 0,.int .i64 0]) ?_ 0 _ rfl;(with_reducible repeat (first|refine blk_drewN ?_ _|refine blk_drew ?_|refine blk_alloc ?_ _));exact BK102.out) Tryz.underlying63 rfl kr) rfl ?_
    exact ⟨vf,v2 HB.out GE101.out GE102.out⟩
   ·replace c15:=Bool.eq_false_iff.mpr c15
    subst c15
    have H1 : ((calxref04_times.f kj4 a0_0 a0_1 a1 a2).bind fun bt106 => ((calxref04_made.f kj4 bt106.1 bt106.2).bind fun bt108 => (some (bt108.1,bt108.2.1,bt108.2.2)))) = some (r1,r2,r3):=by rw [if_neg (show ¬ (false = true) by decide)] at H;exact H
    clear H
    have H:=H1
    clear H1
    replace H:=Option.bind_eq_some_iff.mp H
    obtain ⟨⟨t106,t107⟩,A180,H⟩:=H
    replace H : ((calxref04_made.f kj4 t106 t107).bind fun bt108 => (some (bt108.1,bt108.2.1,bt108.2.2))) = some (r1,r2,r3):=H
    have A18:=am A180
    clear A180
    replace H:=Option.bind_eq_some_iff.mp H
    obtain ⟨⟨t108,t109,t110⟩,A190,H⟩:=H
    replace H : (some (t108,t109,t110)) = some (r1,r2,r3):=H
    have A19:=am A190
    clear A190
    simp only [Option.some.injEq,Prod.mk.injEq] at H
    obtain ⟨rfl,rfl,rfl⟩:=H
    have hnb20:=NB101_102.out
    have hnc20:=NB102_101.out
    have hcz21_0:=bc BK101.out 0 (.int .i64 a0_0)
    have hcz21_1:=bc BK101.out 1 (.int .i64 a0_1)
    have hfz21_0:=blk_frozen BK101.out 0
    have hfz21_1:=blk_frozen BK101.out 1
    go_wp2_with (first|((with_reducible refine gate_callee (f:=112) rfl ?_);refine goesL_ (some 26) rfl rfl Tryz.func112 kr rfl #[.agg #[.int .i64 a0_0,.int .i64 a0_1],.int .i64 a1,.int .i64 a2] rfl vm ?_;(with_reducible refine (calxref04_times.calls kj4 a0_0 a0_1 a1 a2 t106 t107 _ A18.out).mono ?_);rintro e w22 ⟨rfl,hb⟩;refine ⟨_,rfl,?_⟩;have n0_:=am (blk_below (g:=gb101) (o:=.cells #[.int .i64 a0_0,.int .i64 a0_1] 43 (0,0)) (vb BK101.out) hb);have n1_:=am (blk_below (g:=gb102) (o:=.cells #[.int .i64 0,.int .i64 0,.int .i64 0] 63 (0,0)) (vb BK102.out) hb);have n2_:=am (below_step (v2 HB.out GE101.out GE102.out) hb);clear BK101;clear BK102;clear HB;have BK101:=n0_;have BK102:=n1_;have HB:=n2_;clear n0_ n1_ n2_;(try clear hb);(try clear hb2);(try clear hk);(try clear hi))|((with_reducible refine gate_callee (f:=102) rfl ?_);refine goesL_ (some 27) rfl rfl Tryz.func102 kr rfl #[.agg #[.int .i64 t106,.int .i64 t107]] rfl vm ?_;(with_reducible refine (calxref04_made.calls kj4 t106 t107 t108 t109 t110 _ A19.out).mono ?_);rintro e w23 ⟨rfl,hb⟩;refine ⟨_,rfl,?_⟩;have n0_:=am (blk_below (g:=gb101) (o:=.cells #[.int .i64 a0_0,.int .i64 a0_1] 43 (0,0)) (vb BK101.out) hb);have n1_:=am (blk_below (g:=gb102) (o:=.cells #[.int .i64 0,.int .i64 0,.int .i64 0] 63 (0,0)) (vb BK102.out) hb);have n2_:=am (below_step (v2 HB.out GE101.out GE102.out) hb);clear BK101;clear BK102;clear HB;have BK101:=n0_;have BK102:=n1_;have HB:=n2_;clear n0_ n1_ n2_;(try clear hb);(try clear hb2);(try clear hk);(try clear hi);have hcz24_0:=bc BK102.out 0 (.int .i64 0);have hcz24_1:=bc BK102.out 1 (.int .i64 0);have hcz24_2:=bc BK102.out 2 (.int .i64 0);have hfz24_0:=blk_frozen BK102.out 0;have hfz24_1:=blk_frozen BK102.out 1;have hfz24_2:=blk_frozen BK102.out 2))
    refine bodyPost_ret (results_cell_row rfl _ _ gb102 63 #[.int .i64 t108,.int .i64 t109,.int .i64 t110] (0,0) _ rfl (by (with_reducible repeat (first|refine blk_drewN ?_ _|refine blk_drew ?_|refine blk_alloc ?_ _));refine blk_put (cs:=#[.int .i64 t108,.int .i64 t109,.int .i64 0]) ?_ 2 _ rfl;(with_reducible repeat (first|refine blk_drewN ?_ _|refine blk_drew ?_|refine blk_alloc ?_ _));refine blk_put (cs:=#[.int .i64 t108,.int .i64 0,.int .i64 0]) ?_ 1 _ rfl;(with_reducible repeat (first|refine blk_drewN ?_ _|refine blk_drew ?_|refine blk_alloc ?_ _));refine blk_put (cs:=#[.int .i64 0,.int .i64 0,.int .i64 0]) ?_ 0 _ rfl;(with_reducible repeat (first|refine blk_drewN ?_ _|refine blk_drew ?_|refine blk_alloc ?_ _));exact BK102.out) Tryz.underlying63 rfl kr) rfl ?_
    exact ⟨vf,v2 HB.out GE101.out GE102.out⟩
def calxref04_order.f (a0_0 : Int) (a0_1 : Int) (a1_0 : Int) (a1_1 : Int) : Option (Int):=if (wrap64 (a0_0 * a1_1)) < (wrap64 (a1_0 * a0_1)) then (some (-1)) else (if (wrap64 (a0_0 * a1_1)) > (wrap64 (a1_0 * a0_1)) then (some 1) else (some 0))
set_option maxHeartbeats 8000000 in
set_option maxRecDepth 100000 in
theorem calxref04_order.calls (a0_0 : Int) (a0_1 : Int) (a1_0 : Int) (a1_1 : Int) (r : Int) (w : World) (h : calxref04_order.f a0_0 a0_1 a1_0 a1_1 = some r) :
  Calls Tryz.prog 128 #[.agg #[.int .i64 a0_0,.int .i64 a0_1],.agg #[.int .i64 a1_0,.int .i64 a1_1]] w fun e w' => e = .returned (.int .i64 r) ∧ Below w.heap.size w w':=by
 have hu43:=Tryz.underlying43
 have HB:=am (Below.refl w.heap.size w)
 have H : (if (wrap64 (a0_0 * a1_1)) < (wrap64 (a1_0 * a0_1)) then (some (-1)) else (if (wrap64 (a0_0 * a1_1)) > (wrap64 (a1_0 * a0_1)) then (some 1) else (some 0))) = some r:=h
 clear h
 by_cases c3 : (wrap64 (a0_0 * a1_1)) < (wrap64 (a1_0 * a0_1))
 ·rw [if_pos c3] at H
  have c3b0 : decide ((wrap64 (a0_0 * a1_1)) < (wrap64 (a1_0 * a0_1))) = true:=decide_eq_true c3
  clear c3
  obtain rfl:=Option.some.inj H
  go_enter Tryz.func128,Tryz.ntmps128
  go_wp2_with (first|((with_reducible refine gate_dst (N:=2) rfl ?_);refine box_event ?hg (N:=2) ?hd (cs:=#[.int .i64 a0_0,.int .i64 a0_1]) (t:=43) ?hr ?_;(case hd => rfl);(case hg => rfl);(case hr => first|(go_simp;done)|(go_simp;rfl));intro gb101 hg w4 hbox hb;have n0_:=am (below_step (v0 HB.out) hb);have n1_:=am (hbox);have n2_:=am ((by rw [hg];exact (below_size (v0 HB.out)) : w.heap.size ≤ gb101));have n3_:=am ((by rw [hg];exact (below_size (v0 HB.out)) : w.heap.size ≤ gb101));clear HB;have HB:=n0_;have BK101:=n1_;have GW101:=n2_;have GE101:=n3_;clear n0_ n1_ n2_ n3_;clear hb hbox hg)|((with_reducible refine gate_dst (N:=3) rfl ?_);refine box_event ?hg (N:=3) ?hd (cs:=#[.int .i64 a1_0,.int .i64 a1_1]) (t:=43) ?hr ?_;(case hd => rfl);(case hg => rfl);(case hr => first|(go_simp;done)|(go_simp;rfl));intro gb102 hg w5 hbox hb;have n0_:=am (blk_below (g:=gb101) (o:=.cells #[.int .i64 a0_0,.int .i64 a0_1] 43 (0,0)) (vb BK101.out) hb);have n1_:=am (below_step (v1 HB.out GE101.out) hb);have n2_:=am (hbox);have n3_:=am ((by rw [hg];exact (below_size (v1 HB.out GE101.out)) : w.heap.size ≤ gb102));have n4_:=am ((by rw [hg];exact (below_size (v1 HB.out GE101.out)) : w.heap.size ≤ gb102));have n5_:=am ((by rw [hg];exact Nat.ne_of_lt (blk_lt (g:=gb101) (o:=.cells #[.int .i64 a0_0,.int .i64 a0_1] 43 (0,0)) (vb BK101.out)) : gb101 ≠ gb102));have n6_:=am ((by rw [hg];exact Nat.ne_of_gt (blk_lt (g:=gb101) (o:=.cells #[.int .i64 a0_0,.int .i64 a0_1] 43 (0,0)) (vb BK101.out)) : gb102 ≠ gb101));clear BK101;clear HB;have BK101:=n0_;have HB:=n1_;have BK102:=n2_;have GW102:=n3_;have GE102:=n4_;have NB101_102:=n5_;have NB102_101:=n6_;clear n0_ n1_ n2_ n3_ n4_ n5_ n6_;clear hb hbox hg;have hnb6:=NB101_102.out;have hnc6:=NB102_101.out;have hcz7_0:=bc BK101.out 0 (.int .i64 a0_0);have hcz7_1:=bc BK101.out 1 (.int .i64 a0_1);have hfz7_0:=blk_frozen BK101.out 0;have hfz7_1:=blk_frozen BK101.out 1;have hcz8_0:=bc BK102.out 0 (.int .i64 a1_0);have hcz8_1:=bc BK102.out 1 (.int .i64 a1_1);have hfz8_0:=blk_frozen BK102.out 0;have hfz8_1:=blk_frozen BK102.out 1))
  go_ret
  exact ⟨vf,v2 HB.out GE101.out GE102.out⟩
 ·rw [if_neg c3] at H
  have c3b0 : decide ((wrap64 (a0_0 * a1_1)) < (wrap64 (a1_0 * a0_1))) = false:=decide_eq_false c3
  clear c3
  by_cases c9 : (wrap64 (a0_0 * a1_1)) > (wrap64 (a1_0 * a0_1))
  ·rw [if_pos c9] at H
   have c9b0 : decide ((wrap64 (a1_0 * a0_1)) < (wrap64 (a0_0 * a1_1))) = true:=decide_eq_true c9
   clear c9
   obtain rfl:=Option.some.inj H
   go_enter Tryz.func128,Tryz.ntmps128
   go_wp2_with (first|((with_reducible refine gate_dst (N:=2) rfl ?_);refine box_event ?hg (N:=2) ?hd (cs:=#[.int .i64 a0_0,.int .i64 a0_1]) (t:=43) ?hr ?_;(case hd => rfl);(case hg => rfl);(case hr => first|(go_simp;done)|(go_simp;rfl));intro gb101 hg w10 hbox hb;have n0_:=am (below_step (v0 HB.out) hb);have n1_:=am (hbox);have n2_:=am ((by rw [hg];exact (below_size (v0 HB.out)) : w.heap.size ≤ gb101));have n3_:=am ((by rw [hg];exact (below_size (v0 HB.out)) : w.heap.size ≤ gb101));clear HB;have HB:=n0_;have BK101:=n1_;have GW101:=n2_;have GE101:=n3_;clear n0_ n1_ n2_ n3_;clear hb hbox hg)|((with_reducible refine gate_dst (N:=3) rfl ?_);refine box_event ?hg (N:=3) ?hd (cs:=#[.int .i64 a1_0,.int .i64 a1_1]) (t:=43) ?hr ?_;(case hd => rfl);(case hg => rfl);(case hr => first|(go_simp;done)|(go_simp;rfl));intro gb102 hg w11 hbox hb;have n0_:=am (blk_below (g:=gb101) (o:=.cells #[.int .i64 a0_0,.int .i64 a0_1] 43 (0,0)) (vb BK101.out) hb);have n1_:=am (below_step (v1 HB.out GE101.out) hb);have n2_:=am (hbox);have n3_:=am ((by rw [hg];exact (below_size (v1 HB.out GE101.out)) : w.heap.size ≤ gb102));have n4_:=am ((by rw [hg];exact (below_size (v1 HB.out GE101.out)) : w.heap.size ≤ gb102));have n5_:=am ((by rw [hg];exact Nat.ne_of_lt (blk_lt (g:=gb101) (o:=.cells #[.int .i64 a0_0,.int .i64 a0_1] 43 (0,0)) (vb BK101.out)) : gb101 ≠ gb102));have n6_:=am ((by rw [hg];exact Nat.ne_of_gt (blk_lt (g:=gb101) (o:=.cells #[.int .i64 a0_0,.int .i64 a0_1] 43 (0,0)) (vb BK101.out)) : gb102 ≠ gb101));clear BK101;clear HB;have BK101:=n0_;have HB:=n1_;have BK102:=n2_;have GW102:=n3_;have GE102:=n4_;have NB101_102:=n5_;have NB102_101:=n6_;clear n0_ n1_ n2_ n3_ n4_ n5_ n6_;clear hb hbox hg;have hnb12:=NB101_102.out;have hnc12:=NB102_101.out;have hcz13_0:=bc BK101.out 0 (.int .i64 a0_0);have hcz13_1:=bc BK101.out 1 (.int .i64 a0_1);have hfz13_0:=blk_frozen BK101.out 0;have hfz13_1:=blk_frozen BK101.out 1;have hcz14_0:=bc BK102.out 0 (.int .i64 a1_0);have hcz14_1:=bc BK102.out 1 (.int .i64 a1_1);have hfz14_0:=blk_frozen BK102.out 0;have hfz14_1:=blk_frozen BK102.out 1))
   go_ret
   exact ⟨vf,v2 HB.out GE101.out GE102.out⟩
  ·rw [if_neg c9] at H
   have c9b0 : decide ((wrap64 (a1_0 * a0_1)) < (wrap64 (a0_0 * a1_1))) = false:=decide_eq_false c9
   clear c9
   obtain rfl:=Option.some.inj H
   go_enter Tryz.func128,Tryz.ntmps128
   go_wp2_with (first|((with_reducible refine gate_dst (N:=2) rfl ?_);refine box_event ?hg (N:=2) ?hd (cs:=#[.int .i64 a0_0,.int .i64 a0_1]) (t:=43) ?hr ?_;(case hd => rfl);(case hg => rfl);(case hr => first|(go_simp;done)|(go_simp;rfl));intro gb101 hg w15 hbox hb;have n0_:=am (below_step (v0 HB.out) hb);have n1_:=am (hbox);have n2_:=am ((by rw [hg];exact (below_size (v0 HB.out)) : w.heap.size ≤ gb101));have n3_:=am ((by rw [hg];exact (below_size (v0 HB.out)) : w.heap.size ≤ gb101));clear HB;have HB:=n0_;have BK101:=n1_;have GW101:=n2_;have GE101:=n3_;clear n0_ n1_ n2_ n3_;clear hb hbox hg)|((with_reducible refine gate_dst (N:=3) rfl ?_);refine box_event ?hg (N:=3) ?hd (cs:=#[.int .i64 a1_0,.int .i64 a1_1]) (t:=43) ?hr ?_;(case hd => rfl);(case hg => rfl);(case hr => first|(go_simp;done)|(go_simp;rfl));intro gb102 hg w16 hbox hb;have n0_:=am (blk_below (g:=gb101) (o:=.cells #[.int .i64 a0_0,.int .i64 a0_1] 43 (0,0)) (vb BK101.out) hb);have n1_:=am (below_step (v1 HB.out GE101.out) hb);have n2_:=am (hbox);have n3_:=am ((by rw [hg];exact (below_size (v1 HB.out GE101.out)) : w.heap.size ≤ gb102));have n4_:=am ((by rw [hg];exact (below_size (v1 HB.out GE101.out)) : w.heap.size ≤ gb102));have n5_:=am ((by rw [hg];exact Nat.ne_of_lt (blk_lt (g:=gb101) (o:=.cells #[.int .i64 a0_0,.int .i64 a0_1] 43 (0,0)) (vb BK101.out)) : gb101 ≠ gb102));have n6_:=am ((by rw [hg];exact Nat.ne_of_gt (blk_lt (g:=gb101) (o:=.cells #[.int .i64 a0_0,.int .i64 a0_1] 43 (0,0)) (vb BK101.out)) : gb102 ≠ gb101));clear BK101;clear HB;have BK101:=n0_;have HB:=n1_;have BK102:=n2_;have GW102:=n3_;have GE102:=n4_;have NB101_102:=n5_;have NB102_101:=n6_;clear n0_ n1_ n2_ n3_ n4_ n5_ n6_;clear hb hbox hg;have hnb17:=NB101_102.out;have hnc17:=NB102_101.out;have hcz18_0:=bc BK101.out 0 (.int .i64 a0_0);have hcz18_1:=bc BK101.out 1 (.int .i64 a0_1);have hfz18_0:=blk_frozen BK101.out 0;have hfz18_1:=blk_frozen BK101.out 1;have hcz19_0:=bc BK102.out 0 (.int .i64 a1_0);have hcz19_1:=bc BK102.out 1 (.int .i64 a1_1);have hfz19_0:=blk_frozen BK102.out 0;have hfz19_1:=blk_frozen BK102.out 1))
   go_ret
   exact ⟨vf,v2 HB.out GE101.out GE102.out⟩
def calxref04_Compare.f (k : Nat) (a0_0 : Int) (a0_1 : Int) (a1_0 : Int) (a1_1 : Int) : Option (Int × Int):=(calxref04_Valid.f k a0_0 a0_1).bind fun t103 => ((calxref04_Valid.f k a1_0 a1_1).bind fun t104 => (if t103 = true then (if t104 = true then ((calxref04_order.f a0_0 a0_1 a1_0 a1_1).bind fun t105 => (some (t105,0))) else (some (0,1))) else (some (0,1))))
set_option maxHeartbeats 8000000 in
set_option maxRecDepth 100000 in
theorem calxref04_Compare.calls (k : Nat) (a0_0 : Int) (a0_1 : Int) (a1_0 : Int) (a1_1 : Int) (r1 : Int) (r2 : Int) (w : World) (h : calxref04_Compare.f k a0_0 a0_1 a1_0 a1_1 = some (r1,r2)) :
  Calls Tryz.prog 50 #[.agg #[.int .i64 a0_0,.int .i64 a0_1],.agg #[.int .i64 a1_0,.int .i64 a1_1]] w fun e w' => e = .returned (.tuple #[.int .i64 r1,.int .i64 r2]) ∧ Below w.heap.size w w':=by
 have hu43:=Tryz.underlying43
 have HB:=am (Below.refl w.heap.size w)
 have H : ((calxref04_Valid.f k a0_0 a0_1).bind fun t103 => ((calxref04_Valid.f k a1_0 a1_1).bind fun t104 => (if t103 = true then (if t104 = true then ((calxref04_order.f a0_0 a0_1 a1_0 a1_1).bind fun t105 => (some (t105,0))) else (some (0,1))) else (some (0,1))))) = some (r1,r2):=h
 clear h
 replace H:=Option.bind_eq_some_iff.mp H
 obtain ⟨t103,A30,H⟩:=H
 replace H : ((calxref04_Valid.f k a1_0 a1_1).bind fun t104 => (if t103 = true then (if t104 = true then ((calxref04_order.f a0_0 a0_1 a1_0 a1_1).bind fun t105 => (some (t105,0))) else (some (0,1))) else (some (0,1)))) = some (r1,r2):=H
 have A3:=am A30
 clear A30
 replace H:=Option.bind_eq_some_iff.mp H
 obtain ⟨t104,A40,H⟩:=H
 replace H : (if t103 = true then (if t104 = true then ((calxref04_order.f a0_0 a0_1 a1_0 a1_1).bind fun t105 => (some (t105,0))) else (some (0,1))) else (some (0,1))) = some (r1,r2):=H
 have A4:=am A40
 clear A40
 by_cases c5 : t103 = true
 ·subst c5
  have H1 : (if t104 = true then ((calxref04_order.f a0_0 a0_1 a1_0 a1_1).bind fun t105 => (some (t105,0))) else (some (0,1))) = some (r1,r2):=by rw [if_pos rfl] at H;exact H
  clear H
  have H:=H1
  clear H1
  by_cases c6 : t104 = true
  ·subst c6
   have H1 : ((calxref04_order.f a0_0 a0_1 a1_0 a1_1).bind fun t105 => (some (t105,0))) = some (r1,r2):=by rw [if_pos rfl] at H;exact H
   clear H
   have H:=H1
   clear H1
   replace H:=Option.bind_eq_some_iff.mp H
   obtain ⟨t105,A70,H⟩:=H
   replace H : (some (t105,0)) = some (r1,r2):=H
   have A7:=am A70
   clear A70
   simp only [Option.some.injEq,Prod.mk.injEq] at H
   obtain ⟨rfl,rfl⟩:=H
   go_enter Tryz.func50,Tryz.ntmps50
   go_wp2_with (first|((with_reducible refine gate_dst (N:=2) rfl ?_);refine box_event ?hg (N:=2) ?hd (cs:=#[.int .i64 a0_0,.int .i64 a0_1]) (t:=43) ?hr ?_;(case hd => rfl);(case hg => rfl);(case hr => first|(go_simp;done)|(go_simp;rfl));intro gb101 hg w8 hbox hb;have n0_:=am (below_step (v0 HB.out) hb);have n1_:=am (hbox);have n2_:=am ((by rw [hg];exact (below_size (v0 HB.out)) : w.heap.size ≤ gb101));have n3_:=am ((by rw [hg];exact (below_size (v0 HB.out)) : w.heap.size ≤ gb101));clear HB;have HB:=n0_;have BK101:=n1_;have GW101:=n2_;have GE101:=n3_;clear n0_ n1_ n2_ n3_;clear hb hbox hg)|((with_reducible refine gate_dst (N:=3) rfl ?_);refine box_event ?hg (N:=3) ?hd (cs:=#[.int .i64 a1_0,.int .i64 a1_1]) (t:=43) ?hr ?_;(case hd => rfl);(case hg => rfl);(case hr => first|(go_simp;done)|(go_simp;rfl));intro gb102 hg w9 hbox hb;have n0_:=am (blk_below (g:=gb101) (o:=.cells #[.int .i64 a0_0,.int .i64 a0_1] 43 (0,0)) (vb BK101.out) hb);have n1_:=am (below_step (v1 HB.out GE101.out) hb);have n2_:=am (hbox);have n3_:=am ((by rw [hg];exact (below_size (v1 HB.out GE101.out)) : w.heap.size ≤ gb102));have n4_:=am ((by rw [hg];exact (below_size (v1 HB.out GE101.out)) : w.heap.size ≤ gb102));have n5_:=am ((by rw [hg];exact Nat.ne_of_lt (blk_lt (g:=gb101) (o:=.cells #[.int .i64 a0_0,.int .i64 a0_1] 43 (0,0)) (vb BK101.out)) : gb101 ≠ gb102));have n6_:=am ((by rw [hg];exact Nat.ne_of_gt (blk_lt (g:=gb101) (o:=.cells #[.int .i64 a0_0,.int .i64 a0_1] 43 (0,0)) (vb BK101.out)) : gb102 ≠ gb101));clear BK101;clear HB;have BK101:=n0_;have HB:=n1_;have BK102:=n2_;have GW102:=n3_;have GE102:=n4_;have NB101_102:=n5_;have NB102_101:=n6_;clear n0_ n1_ n2_ n3_ n4_ n5_ n6_;clear hb hbox hg;have hnb10:=NB101_102.out;have hnc10:=NB102_101.out;have hcz11_0:=bc BK101.out 0 (.int .i64 a0_0);have hcz11_1:=bc BK101.out 1 (.int .i64 a0_1);have hfz11_0:=blk_frozen BK101.out 0;have hfz11_1:=blk_frozen BK101.out 1)|((with_reducible refine gate_callee (f:=127) rfl ?_);refine goesL_ (some 9) rfl rfl Tryz.func127 kr rfl #[.agg #[.int .i64 a0_0,.int .i64 a0_1]] rfl vm ?_;(with_reducible refine (calxref04_Valid.calls k a0_0 a0_1 true _ A3.out).mono ?_);rintro e w12 ⟨rfl,hb⟩;refine ⟨_,rfl,?_⟩;have n0_:=am (blk_below (g:=gb101) (o:=.cells #[.int .i64 a0_0,.int .i64 a0_1] 43 (0,0)) (vb BK101.out) hb);have n1_:=am (blk_below (g:=gb102) (o:=.cells #[.int .i64 a1_0,.int .i64 a1_1] 43 (0,0)) (vb BK102.out) hb);have n2_:=am (below_step (v2 HB.out GE101.out GE102.out) hb);clear BK101;clear BK102;clear HB;have BK101:=n0_;have BK102:=n1_;have HB:=n2_;clear n0_ n1_ n2_;(try clear hb);(try clear hb2);(try clear hk);(try clear hi);have hcz13_0:=bc BK102.out 0 (.int .i64 a1_0);have hcz13_1:=bc BK102.out 1 (.int .i64 a1_1);have hfz13_0:=blk_frozen BK102.out 0;have hfz13_1:=blk_frozen BK102.out 1)|((with_reducible refine gate_callee (f:=127) rfl ?_);refine goesL_ (some 11) rfl rfl Tryz.func127 kr rfl #[.agg #[.int .i64 a1_0,.int .i64 a1_1]] rfl vm ?_;(with_reducible refine (calxref04_Valid.calls k a1_0 a1_1 true _ A4.out).mono ?_);rintro e w14 ⟨rfl,hb⟩;refine ⟨_,rfl,?_⟩;have n0_:=am (blk_below (g:=gb101) (o:=.cells #[.int .i64 a0_0,.int .i64 a0_1] 43 (0,0)) (vb BK101.out) hb);have n1_:=am (blk_below (g:=gb102) (o:=.cells #[.int .i64 a1_0,.int .i64 a1_1] 43 (0,0)) (vb BK102.out) hb);have n2_:=am (below_step (v2 HB.out GE101.out GE102.out) hb);clear BK101;clear BK102;clear HB;have BK101:=n0_;have BK102:=n1_;have HB:=n2_;clear n0_ n1_ n2_;(try clear hb);(try clear hb2);(try clear hk);(try clear hi);have hcz15_0:=bc BK101.out 0 (.int .i64 a0_0);have hcz15_1:=bc BK101.out 1 (.int .i64 a0_1);have hfz15_0:=blk_frozen BK101.out 0;have hfz15_1:=blk_frozen BK101.out 1;have hcz16_0:=bc BK102.out 0 (.int .i64 a1_0);have hcz16_1:=bc BK102.out 1 (.int .i64 a1_1);have hfz16_0:=blk_frozen BK102.out 0;have hfz16_1:=blk_frozen BK102.out 1)|((with_reducible refine gate_callee (f:=128) rfl ?_);refine goesL_ (some 20) rfl rfl Tryz.func128 kr rfl #[.agg #[.int .i64 a0_0,.int .i64 a0_1],.agg #[.int .i64 a1_0,.int .i64 a1_1]] rfl vm ?_;(with_reducible refine (calxref04_order.calls a0_0 a0_1 a1_0 a1_1 t105 _ A7.out).mono ?_);rintro e w17 ⟨rfl,hb⟩;refine ⟨_,rfl,?_⟩;have n0_:=am (blk_below (g:=gb101) (o:=.cells #[.int .i64 a0_0,.int .i64 a0_1] 43 (0,0)) (vb BK101.out) hb);have n1_:=am (blk_below (g:=gb102) (o:=.cells #[.int .i64 a1_0,.int .i64 a1_1] 43 (0,0)) (vb BK102.out) hb);have n2_:=am (below_step (v2 HB.out GE101.out GE102.out) hb);clear BK101;clear BK102;clear HB;have BK101:=n0_;have BK102:=n1_;have HB:=n2_;clear n0_ n1_ n2_;(try clear hb);(try clear hb2);(try clear hk);(try clear hi)))
   go_ret2
   exact ⟨vf,v2 HB.out GE101.out GE102.out⟩
  ·replace c6:=Bool.eq_false_iff.mpr c6
   subst c6
   have H1 : (some (0,1)) = some (r1,r2):=by rw [if_neg (show ¬ (false = true) by decide)] at H;exact H
   clear H
   have H:=H1
   clear H1
   simp only [Option.some.injEq,Prod.mk.injEq] at H
   obtain ⟨rfl,rfl⟩:=H
   go_enter Tryz.func50,Tryz.ntmps50
   go_wp2_with (first|((with_reducible refine gate_dst (N:=2) rfl ?_);refine box_event ?hg (N:=2) ?hd (cs:=#[.int .i64 a0_0,.int .i64 a0_1]) (t:=43) ?hr ?_;(case hd => rfl);(case hg => rfl);(case hr => first|(go_simp;done)|(go_simp;rfl));intro gb101 hg w18 hbox hb;have n0_:=am (below_step (v0 HB.out) hb);have n1_:=am (hbox);have n2_:=am ((by rw [hg];exact (below_size (v0 HB.out)) : w.heap.size ≤ gb101));have n3_:=am ((by rw [hg];exact (below_size (v0 HB.out)) : w.heap.size ≤ gb101));clear HB;have HB:=n0_;have BK101:=n1_;have GW101:=n2_;have GE101:=n3_;clear n0_ n1_ n2_ n3_;clear hb hbox hg)|((with_reducible refine gate_dst (N:=3) rfl ?_);refine box_event ?hg (N:=3) ?hd (cs:=#[.int .i64 a1_0,.int .i64 a1_1]) (t:=43) ?hr ?_;(case hd => rfl);(case hg => rfl);(case hr => first|(go_simp;done)|(go_simp;rfl));intro gb102 hg w19 hbox hb;have n0_:=am (blk_below (g:=gb101) (o:=.cells #[.int .i64 a0_0,.int .i64 a0_1] 43 (0,0)) (vb BK101.out) hb);have n1_:=am (below_step (v1 HB.out GE101.out) hb);have n2_:=am (hbox);have n3_:=am ((by rw [hg];exact (below_size (v1 HB.out GE101.out)) : w.heap.size ≤ gb102));have n4_:=am ((by rw [hg];exact (below_size (v1 HB.out GE101.out)) : w.heap.size ≤ gb102));have n5_:=am ((by rw [hg];exact Nat.ne_of_lt (blk_lt (g:=gb101) (o:=.cells #[.int .i64 a0_0,.int .i64 a0_1] 43 (0,0)) (vb BK101.out)) : gb101 ≠ gb102));have n6_:=am ((by rw [hg];exact Nat.ne_of_gt (blk_lt (g:=gb101) (o:=.cells #[.int .i64 a0_0,.int .i64 a0_1] 43 (0,0)) (vb BK101.out)) : gb102 ≠ gb101));clear BK101;clear HB;have BK101:=n0_;have HB:=n1_;have BK102:=n2_;have GW102:=n3_;have GE102:=n4_;have NB101_102:=n5_;have NB102_101:=n6_;clear n0_ n1_ n2_ n3_ n4_ n5_ n6_;clear hb hbox hg;have hnb20:=NB101_102.out;have hnc20:=NB102_101.out;have hcz21_0:=bc BK101.out 0 (.int .i64 a0_0);have hcz21_1:=bc BK101.out 1 (.int .i64 a0_1);have hfz21_0:=blk_frozen BK101.out 0;have hfz21_1:=blk_frozen BK101.out 1)|((with_reducible refine gate_callee (f:=127) rfl ?_);refine goesL_ (some 9) rfl rfl Tryz.func127 kr rfl #[.agg #[.int .i64 a0_0,.int .i64 a0_1]] rfl vm ?_;(with_reducible refine (calxref04_Valid.calls k a0_0 a0_1 true _ A3.out).mono ?_);rintro e w22 ⟨rfl,hb⟩;refine ⟨_,rfl,?_⟩;have n0_:=am (blk_below (g:=gb101) (o:=.cells #[.int .i64 a0_0,.int .i64 a0_1] 43 (0,0)) (vb BK101.out) hb);have n1_:=am (blk_below (g:=gb102) (o:=.cells #[.int .i64 a1_0,.int .i64 a1_1] 43 (0,0)) (vb BK102.out) hb);have n2_:=am (below_step (v2 HB.out GE101.out GE102.out) hb);clear BK101;clear BK102;clear HB;have BK101:=n0_;have BK102:=n1_;have HB:=n2_;clear n0_ n1_ n2_;(try clear hb);(try clear hb2);(try clear hk);(try clear hi);have hcz23_0:=bc BK102.out 0 (.int .i64 a1_0);have hcz23_1:=bc BK102.out 1 (.int .i64 a1_1);have hfz23_0:=blk_frozen BK102.out 0;have hfz23_1:=blk_frozen BK102.out 1)|((with_reducible refine gate_callee (f:=127) rfl ?_);refine goesL_ (some 11) rfl rfl Tryz.func127 kr rfl #[.agg #[.int .i64 a1_0,.int .i64 a1_1]] rfl vm ?_;(with_reducible refine (calxref04_Valid.calls k a1_0 a1_1 false _ A4.out).mono ?_);rintro e w24 ⟨rfl,hb⟩;refine ⟨_,rfl,?_⟩;have n0_:=am (blk_below (g:=gb101) (o:=.cells #[.int .i64 a0_0,.int .i64 a0_1] 43 (0,0)) (vb BK101.out) hb);have n1_:=am (blk_below (g:=gb102) (o:=.cells #[.int .i64 a1_0,.int .i64 a1_1] 43 (0,0)) (vb BK102.out) hb);have n2_:=am (below_step (v2 HB.out GE101.out GE102.out) hb);clear BK101;clear BK102;clear HB;have BK101:=n0_;have BK102:=n1_;have HB:=n2_;clear n0_ n1_ n2_;(try clear hb);(try clear hb2);(try clear hk);(try clear hi)))
   go_ret2
   exact ⟨vf,v2 HB.out GE101.out GE102.out⟩
 ·replace c5:=Bool.eq_false_iff.mpr c5
  subst c5
  have H1 : (some (0,1)) = some (r1,r2):=by rw [if_neg (show ¬ (false = true) by decide)] at H;exact H
  clear H
  have H:=H1
  clear H1
  simp only [Option.some.injEq,Prod.mk.injEq] at H
  obtain ⟨rfl,rfl⟩:=H
  go_enter Tryz.func50,Tryz.ntmps50
  go_wp2_with (first|((with_reducible refine gate_dst (N:=2) rfl ?_);refine box_event ?hg (N:=2) ?hd (cs:=#[.int .i64 a0_0,.int .i64 a0_1]) (t:=43) ?hr ?_;(case hd => rfl);(case hg => rfl);(case hr => first|(go_simp;done)|(go_simp;rfl));intro gb101 hg w25 hbox hb;have n0_:=am (below_step (v0 HB.out) hb);have n1_:=am (hbox);have n2_:=am ((by rw [hg];exact (below_size (v0 HB.out)) : w.heap.size ≤ gb101));have n3_:=am ((by rw [hg];exact (below_size (v0 HB.out)) : w.heap.size ≤ gb101));clear HB;have HB:=n0_;have BK101:=n1_;have GW101:=n2_;have GE101:=n3_;clear n0_ n1_ n2_ n3_;clear hb hbox hg)|((with_reducible refine gate_dst (N:=3) rfl ?_);refine box_event ?hg (N:=3) ?hd (cs:=#[.int .i64 a1_0,.int .i64 a1_1]) (t:=43) ?hr ?_;(case hd => rfl);(case hg => rfl);(case hr => first|(go_simp;done)|(go_simp;rfl));intro gb102 hg w26 hbox hb;have n0_:=am (blk_below (g:=gb101) (o:=.cells #[.int .i64 a0_0,.int .i64 a0_1] 43 (0,0)) (vb BK101.out) hb);have n1_:=am (below_step (v1 HB.out GE101.out) hb);have n2_:=am (hbox);have n3_:=am ((by rw [hg];exact (below_size (v1 HB.out GE101.out)) : w.heap.size ≤ gb102));have n4_:=am ((by rw [hg];exact (below_size (v1 HB.out GE101.out)) : w.heap.size ≤ gb102));have n5_:=am ((by rw [hg];exact Nat.ne_of_lt (blk_lt (g:=gb101) (o:=.cells #[.int .i64 a0_0,.int .i64 a0_1] 43 (0,0)) (vb BK101.out)) : gb101 ≠ gb102));have n6_:=am ((by rw [hg];exact Nat.ne_of_gt (blk_lt (g:=gb101) (o:=.cells #[.int .i64 a0_0,.int .i64 a0_1] 43 (0,0)) (vb BK101.out)) : gb102 ≠ gb101));clear BK101;clear HB;have BK101:=n0_;have HB:=n1_;have BK102:=n2_;have GW102:=n3_;have GE102:=n4_;have NB101_102:=n5_;have NB102_101:=n6_;clear n0_ n1_ n2_ n3_ n4_ n5_ n6_;clear hb hbox hg;have hnb27:=NB101_102.out;have hnc27:=NB102_101.out;have hcz28_0:=bc BK101.out 0 (.int .i64 a0_0);have hcz28_1:=bc BK101.out 1 (.int .i64 a0_1);have hfz28_0:=blk_frozen BK101.out 0;have hfz28_1:=blk_frozen BK101.out 1)|((with_reducible refine gate_callee (f:=127) rfl ?_);refine goesL_ (some 9) rfl rfl Tryz.func127 kr rfl #[.agg #[.int .i64 a0_0,.int .i64 a0_1]] rfl vm ?_;(with_reducible refine (calxref04_Valid.calls k a0_0 a0_1 false _ A3.out).mono ?_);rintro e w29 ⟨rfl,hb⟩;refine ⟨_,rfl,?_⟩;have n0_:=am (blk_below (g:=gb101) (o:=.cells #[.int .i64 a0_0,.int .i64 a0_1] 43 (0,0)) (vb BK101.out) hb);have n1_:=am (blk_below (g:=gb102) (o:=.cells #[.int .i64 a1_0,.int .i64 a1_1] 43 (0,0)) (vb BK102.out) hb);have n2_:=am (below_step (v2 HB.out GE101.out GE102.out) hb);clear BK101;clear BK102;clear HB;have BK101:=n0_;have BK102:=n1_;have HB:=n2_;clear n0_ n1_ n2_;(try clear hb);(try clear hb2);(try clear hk);(try clear hi);have hcz30_0:=bc BK102.out 0 (.int .i64 a1_0);have hcz30_1:=bc BK102.out 1 (.int .i64 a1_1);have hfz30_0:=blk_frozen BK102.out 0;have hfz30_1:=blk_frozen BK102.out 1)|((with_reducible refine gate_callee (f:=127) rfl ?_);refine goesL_ (some 11) rfl rfl Tryz.func127 kr rfl #[.agg #[.int .i64 a1_0,.int .i64 a1_1]] rfl vm ?_;(with_reducible refine (calxref04_Valid.calls k a1_0 a1_1 t104 _ A4.out).mono ?_);rintro e w31 ⟨rfl,hb⟩;refine ⟨_,rfl,?_⟩;have n0_:=am (blk_below (g:=gb101) (o:=.cells #[.int .i64 a0_0,.int .i64 a0_1] 43 (0,0)) (vb BK101.out) hb);have n1_:=am (blk_below (g:=gb102) (o:=.cells #[.int .i64 a1_0,.int .i64 a1_1] 43 (0,0)) (vb BK102.out) hb);have n2_:=am (below_step (v2 HB.out GE101.out GE102.out) hb);clear BK101;clear BK102;clear HB;have BK101:=n0_;have BK102:=n1_;have HB:=n2_;clear n0_ n1_ n2_;(try clear hb);(try clear hb2);(try clear hk);(try clear hi)))
  go_ret2
  exact ⟨vf,v2 HB.out GE101.out GE102.out⟩
section
attribute [local go_sem high] eqA43
def calxlaw04_PitFractions.f (k : Nat) (a0_0 : Int) (a0_1 : Int) (a1_0 : Int) (a1_1 : Int) (a2 : Int) (a3 : Int) : Option (Bool):=(pit_Add.f k a0_0 a0_1 a1_0 a1_1).bind fun bt103 => ((calxref04_Add.f k a0_0 a0_1 a1_0 a1_1).bind fun bt107 => ((pit_Times.f k a0_0 a0_1 a2 a3).bind fun bt111 => ((calxref04_Times.f k a0_0 a0_1 a2 a3).bind fun bt115 => ((pit_Compare.f k a0_0 a0_1 a1_0 a1_1).bind fun bt119 => ((calxref04_Compare.f k a0_0 a0_1 a1_0 a1_1).bind fun bt121 => ((calxlaw04_sanity.f).bind fun t123 => (if t123 = true then (if (bt103.1 == bt107.1 && (bt103.2.1 == bt107.2.1)) = true then (if bt103.2.2 = bt107.2.2 then (if (bt111.1 == bt115.1 && (bt111.2.1 == bt115.2.1)) = true then (if bt111.2.2 = bt115.2.2 then (if bt119.1 = bt121.1 then (some (bt119.2 == bt121.2)) else (some false)) else (some false)) else (some false)) else (some false)) else (some false)) else (some false))))))))
set_option maxHeartbeats 8000000 in
set_option maxRecDepth 100000 in
theorem calxlaw04_PitFractions.calls (k : Nat) (a0_0 : Int) (a0_1 : Int) (a1_0 : Int) (a1_1 : Int) (a2 : Int) (a3 : Int) (r : Bool) (w : World) (h : calxlaw04_PitFractions.f k a0_0 a0_1 a1_0 a1_1 a2 a3 = some r) (hr : Aside0 (r = true)) :
  Calls Tryz.prog 8 #[.agg #[.int .i64 a0_0,.int .i64 a0_1],.agg #[.int .i64 a1_0,.int .i64 a1_1],.int .i64 a2,.int .i64 a3] w fun e w' => e = .returned (.bool r) ∧ Below w.heap.size w w':=by
 have hu43:=Tryz.underlying43
 have hu63:=Tryz.underlying63
 have HB:=am (Below.refl w.heap.size w)
 have H : ((pit_Add.f k a0_0 a0_1 a1_0 a1_1).bind fun bt103 => ((calxref04_Add.f k a0_0 a0_1 a1_0 a1_1).bind fun bt107 => ((pit_Times.f k a0_0 a0_1 a2 a3).bind fun bt111 => ((calxref04_Times.f k a0_0 a0_1 a2 a3).bind fun bt115 => ((pit_Compare.f k a0_0 a0_1 a1_0 a1_1).bind fun bt119 => ((calxref04_Compare.f k a0_0 a0_1 a1_0 a1_1).bind fun bt121 => ((calxlaw04_sanity.f).bind fun t123 => (if t123 = true then (if (bt103.1 == bt107.1 && (bt103.2.1 == bt107.2.1)) = true then (if bt103.2.2 = bt107.2.2 then (if (bt111.1 == bt115.1 && (bt111.2.1 == bt115.2.1)) = true then (if bt111.2.2 = bt115.2.2 then (if bt119.1 = bt121.1 then (some (bt119.2 == bt121.2)) else (some false)) else (some false)) else (some false)) else (some false)) else (some false)) else (some false))))))))) = some r:=h
 clear h
 replace H:=Option.bind_eq_some_iff.mp H
 obtain ⟨⟨t103,t104,t105⟩,A50,H⟩:=H
 replace H : ((calxref04_Add.f k a0_0 a0_1 a1_0 a1_1).bind fun bt107 => ((pit_Times.f k a0_0 a0_1 a2 a3).bind fun bt111 => ((calxref04_Times.f k a0_0 a0_1 a2 a3).bind fun bt115 => ((pit_Compare.f k a0_0 a0_1 a1_0 a1_1).bind fun bt119 => ((calxref04_Compare.f k a0_0 a0_1 a1_0 a1_1).bind fun bt121 => ((calxlaw04_sanity.f).bind fun t123 => (if t123 = true then (if (t103 == bt107.1 && (t104 == bt107.2.1)) = true then (if t105 = bt107.2.2 then (if (bt111.1 == bt115.1 && (bt111.2.1 == bt115.2.1)) = true then (if bt111.2.2 = bt115.2.2 then (if bt119.1 = bt121.1 then (some (bt119.2 == bt121.2)) else (some false)) else (some false)) else (some false)) else (some false)) else (some false)) else (some false)))))))) = some r:=H
 have A5:=am A50
 clear A50
 replace H:=Option.bind_eq_some_iff.mp H
 obtain ⟨⟨t107,t108,t109⟩,A60,H⟩:=H
 replace H : ((pit_Times.f k a0_0 a0_1 a2 a3).bind fun bt111 => ((calxref04_Times.f k a0_0 a0_1 a2 a3).bind fun bt115 => ((pit_Compare.f k a0_0 a0_1 a1_0 a1_1).bind fun bt119 => ((calxref04_Compare.f k a0_0 a0_1 a1_0 a1_1).bind fun bt121 => ((calxlaw04_sanity.f).bind fun t123 => (if t123 = true then (if (t103 == t107 && (t104 == t108)) = true then (if t105 = t109 then (if (bt111.1 == bt115.1 && (bt111.2.1 == bt115.2.1)) = true then (if bt111.2.2 = bt115.2.2 then (if bt119.1 = bt121.1 then (some (bt119.2 == bt121.2)) else (some false)) else (some false)) else (some false)) else (some false)) else (some false)) else (some false))))))) = some r:=H
 have A6:=am A60
 clear A60
 replace H:=Option.bind_eq_some_iff.mp H
 obtain ⟨⟨t111,t112,t113⟩,A70,H⟩:=H
 replace H : ((calxref04_Times.f k a0_0 a0_1 a2 a3).bind fun bt115 => ((pit_Compare.f k a0_0 a0_1 a1_0 a1_1).bind fun bt119 => ((calxref04_Compare.f k a0_0 a0_1 a1_0 a1_1).bind fun bt121 => ((calxlaw04_sanity.f).bind fun t123 => (if t123 = true then (if (t103 == t107 && (t104 == t108)) = true then (if t105 = t109 then (if (t111 == bt115.1 && (t112 == bt115.2.1)) = true then (if t113 = bt115.2.2 then (if bt119.1 = bt121.1 then (some (bt119.2 == bt121.2)) else (some false)) else (some false)) else (some false)) else (some false)) else (some false)) else (some false)))))) = some r:=H
 have A7:=am A70
 clear A70
 replace H:=Option.bind_eq_some_iff.mp H
 obtain ⟨⟨t115,t116,t117⟩,A80,H⟩:=H
 replace H : ((pit_Compare.f k a0_0 a0_1 a1_0 a1_1).bind fun bt119 => ((calxref04_Compare.f k a0_0 a0_1 a1_0 a1_1).bind fun bt121 => ((calxlaw04_sanity.f).bind fun t123 => (if t123 = true then (if (t103 == t107 && (t104 == t108)) = true then (if t105 = t109 then (if (t111 == t115 && (t112 == t116)) = true then (if t113 = t117 then (if bt119.1 = bt121.1 then (some (bt119.2 == bt121.2)) else (some false)) else (some false)) else (some false)) else (some false)) else (some false)) else (some false))))) = some r:=H
 have A8:=am A80
 clear A80
 replace H:=Option.bind_eq_some_iff.mp H
 obtain ⟨⟨t119,t120⟩,A90,H⟩:=H
 replace H : ((calxref04_Compare.f k a0_0 a0_1 a1_0 a1_1).bind fun bt121 => ((calxlaw04_sanity.f).bind fun t123 => (if t123 = true then (if (t103 == t107 && (t104 == t108)) = true then (if t105 = t109 then (if (t111 == t115 && (t112 == t116)) = true then (if t113 = t117 then (if t119 = bt121.1 then (some (t120 == bt121.2)) else (some false)) else (some false)) else (some false)) else (some false)) else (some false)) else (some false)))) = some r:=H
 have A9:=am A90
 clear A90
 replace H:=Option.bind_eq_some_iff.mp H
 obtain ⟨⟨t121,t122⟩,A100,H⟩:=H
 replace H : ((calxlaw04_sanity.f).bind fun t123 => (if t123 = true then (if (t103 == t107 && (t104 == t108)) = true then (if t105 = t109 then (if (t111 == t115 && (t112 == t116)) = true then (if t113 = t117 then (if t119 = t121 then (some (t120 == t122)) else (some false)) else (some false)) else (some false)) else (some false)) else (some false)) else (some false))) = some r:=H
 have A10:=am A100
 clear A100
 replace H:=Option.bind_eq_some_iff.mp H
 obtain ⟨t123,A110,H⟩:=H
 replace H : (if t123 = true then (if (t103 == t107 && (t104 == t108)) = true then (if t105 = t109 then (if (t111 == t115 && (t112 == t116)) = true then (if t113 = t117 then (if t119 = t121 then (some (t120 == t122)) else (some false)) else (some false)) else (some false)) else (some false)) else (some false)) else (some false)) = some r:=H
 have A11:=am A110
 clear A110
 by_cases c12 : t123 = true
 ·subst c12
  have H1 : (if (t103 == t107 && (t104 == t108)) = true then (if t105 = t109 then (if (t111 == t115 && (t112 == t116)) = true then (if t113 = t117 then (if t119 = t121 then (some (t120 == t122)) else (some false)) else (some false)) else (some false)) else (some false)) else (some false)) = some r:=by rw [if_pos rfl] at H;exact H
  clear H
  have H:=H1
  clear H1
  by_cases c13 : (t103 == t107 && (t104 == t108)) = true
  ·rw [if_pos c13] at H
   have c13b0 : (t103 == t107 && (t104 == t108)) = true:=c13
   (try (have c13b1 : decide (t103 = t107 && (t104 == t108)) = true:=by simpa using c13))
   (try (have c13b2 : (t103 == t107 && (t104 == t108)) = true:=by simpa using c13))
   clear c13
   by_cases c14 : t105 = t109
   ·rw [if_pos c14] at H
    have c14b0 : (t105 == t109) = true:=beq_iff_eq.mpr c14
    have c14b1 : (t105 != t109) = false:=bne_eq_false_iff_eq.mpr c14
    clear c14
    by_cases c15 : (t111 == t115 && (t112 == t116)) = true
    ·rw [if_pos c15] at H
     have c15b0 : (t111 == t115 && (t112 == t116)) = true:=c15
     (try (have c15b1 : decide (t111 = t115 && (t112 == t116)) = true:=by simpa using c15))
     (try (have c15b2 : (t111 == t115 && (t112 == t116)) = true:=by simpa using c15))
     clear c15
     by_cases c16 : t113 = t117
     ·rw [if_pos c16] at H
      have c16b0 : (t113 == t117) = true:=beq_iff_eq.mpr c16
      have c16b1 : (t113 != t117) = false:=bne_eq_false_iff_eq.mpr c16
      clear c16
      by_cases c17 : t119 = t121
      ·rw [if_pos c17] at H
       have c17b0 : (t119 == t121) = true:=beq_iff_eq.mpr c17
       have c17b1 : (t119 != t121) = false:=bne_eq_false_iff_eq.mpr c17
       clear c17
       obtain rfl:=Option.some.inj H
       go_enter Tryz.func8,Tryz.ntmps8
       go_wp2_with (first|((with_reducible refine gate_dst (N:=4) rfl ?_);refine box_event ?hg (N:=4) ?hd (cs:=#[.int .i64 a0_0,.int .i64 a0_1]) (t:=43) ?hr ?_;(case hd => rfl);(case hg => rfl);(case hr => first|(go_simp;done)|(go_simp;rfl));intro gb101 hg w18 hbox hb;have n0_:=am (below_step (v0 HB.out) hb);have n1_:=am (hbox);have n2_:=am ((by rw [hg];exact (below_size (v0 HB.out)) : w.heap.size ≤ gb101));have n3_:=am ((by rw [hg];exact (below_size (v0 HB.out)) : w.heap.size ≤ gb101));clear HB;have HB:=n0_;have BK101:=n1_;have GW101:=n2_;have GE101:=n3_;clear n0_ n1_ n2_ n3_;clear hb hbox hg)|((with_reducible refine gate_dst (N:=5) rfl ?_);refine box_event ?hg (N:=5) ?hd (cs:=#[.int .i64 a1_0,.int .i64 a1_1]) (t:=43) ?hr ?_;(case hd => rfl);(case hg => rfl);(case hr => first|(go_simp;done)|(go_simp;rfl));intro gb102 hg w19 hbox hb;have n0_:=am (blk_below (g:=gb101) (o:=.cells #[.int .i64 a0_0,.int .i64 a0_1] 43 (0,0)) (vb BK101.out) hb);have n1_:=am (below_step (v1 HB.out GE101.out) hb);have n2_:=am (hbox);have n3_:=am ((by rw [hg];exact (below_size (v1 HB.out GE101.out)) : w.heap.size ≤ gb102));have n4_:=am ((by rw [hg];exact (below_size (v1 HB.out GE101.out)) : w.heap.size ≤ gb102));have n5_:=am ((by rw [hg];exact Nat.ne_of_lt (blk_lt (g:=gb101) (o:=.cells #[.int .i64 a0_0,.int .i64 a0_1] 43 (0,0)) (vb BK101.out)) : gb101 ≠ gb102));have n6_:=am ((by rw [hg];exact Nat.ne_of_gt (blk_lt (g:=gb101) (o:=.cells #[.int .i64 a0_0,.int .i64 a0_1] 43 (0,0)) (vb BK101.out)) : gb102 ≠ gb101));clear BK101;clear HB;have BK101:=n0_;have HB:=n1_;have BK102:=n2_;have GW102:=n3_;have GE102:=n4_;have NB101_102:=n5_;have NB102_101:=n6_;clear n0_ n1_ n2_ n3_ n4_ n5_ n6_;clear hb hbox hg;have hnb20:=NB101_102.out;have hnc20:=NB102_101.out;have hcz21_0:=bc BK101.out 0 (.int .i64 a0_0);have hcz21_1:=bc BK101.out 1 (.int .i64 a0_1);have hfz21_0:=blk_frozen BK101.out 0;have hfz21_1:=blk_frozen BK101.out 1;have hcz22_0:=bc BK102.out 0 (.int .i64 a1_0);have hcz22_1:=bc BK102.out 1 (.int .i64 a1_1);have hfz22_0:=blk_frozen BK102.out 0;have hfz22_1:=blk_frozen BK102.out 1)|((with_reducible refine gate_callee (f:=24) rfl ?_);refine goesL_ (some 22) rfl rfl Tryz.func24 kr rfl #[.agg #[.int .i64 a0_0,.int .i64 a0_1],.agg #[.int .i64 a1_0,.int .i64 a1_1]] rfl vm ?_;(with_reducible refine (pit_Add.calls k a0_0 a0_1 a1_0 a1_1 t103 t104 t105 _ A5.out).mono ?_);rintro e w23 ⟨rfl,hb⟩;refine ⟨_,rfl,?_⟩;have n0_:=am (blk_below (g:=gb101) (o:=.cells #[.int .i64 a0_0,.int .i64 a0_1] 43 (0,0)) (vb BK101.out) hb);have n1_:=am (blk_below (g:=gb102) (o:=.cells #[.int .i64 a1_0,.int .i64 a1_1] 43 (0,0)) (vb BK102.out) hb);have n2_:=am (below_step (v2 HB.out GE101.out GE102.out) hb);clear BK101;clear BK102;clear HB;have BK101:=n0_;have BK102:=n1_;have HB:=n2_;clear n0_ n1_ n2_;(try clear hb);(try clear hb2);(try clear hk);(try clear hi))|((with_reducible refine gate_dst (N:=9) rfl ?_);refine box_event ?hg (N:=9) ?hd (cs:=#[.int .i64 0,.int .i64 0]) (t:=43) ?hr ?_;(case hd => rfl);(case hg => rfl);(case hr => first|(go_simp;done)|(go_simp;rfl));intro gb106 hg w24 hbox hb;have n0_:=am (blk_below (g:=gb101) (o:=.cells #[.int .i64 a0_0,.int .i64 a0_1] 43 (0,0)) (vb BK101.out) hb);have n1_:=am (blk_below (g:=gb102) (o:=.cells #[.int .i64 a1_0,.int .i64 a1_1] 43 (0,0)) (vb BK102.out) hb);have n2_:=am (below_step (v2 HB.out GE101.out GE102.out) hb);have n3_:=am (hbox);have n4_:=am ((by rw [hg];exact (below_size (v2 HB.out GE101.out GE102.out)) : w.heap.size ≤ gb106));have n5_:=am ((by rw [hg];exact (below_size (v2 HB.out GE101.out GE102.out)) : w.heap.size ≤ gb106));have n6_:=am ((by rw [hg];exact Nat.ne_of_lt (blk_lt (g:=gb101) (o:=.cells #[.int .i64 a0_0,.int .i64 a0_1] 43 (0,0)) (vb BK101.out)) : gb101 ≠ gb106));have n7_:=am ((by rw [hg];exact Nat.ne_of_gt (blk_lt (g:=gb101) (o:=.cells #[.int .i64 a0_0,.int .i64 a0_1] 43 (0,0)) (vb BK101.out)) : gb106 ≠ gb101));have n8_:=am ((by rw [hg];exact Nat.ne_of_lt (blk_lt (g:=gb102) (o:=.cells #[.int .i64 a1_0,.int .i64 a1_1] 43 (0,0)) (vb BK102.out)) : gb102 ≠ gb106));have n9_:=am ((by rw [hg];exact Nat.ne_of_gt (blk_lt (g:=gb102) (o:=.cells #[.int .i64 a1_0,.int .i64 a1_1] 43 (0,0)) (vb BK102.out)) : gb106 ≠ gb102));clear BK101;clear BK102;clear HB;have BK101:=n0_;have BK102:=n1_;have HB:=n2_;have BK106:=n3_;have GW106:=n4_;have GE106:=n5_;have NB101_106:=n6_;have NB106_101:=n7_;have NB102_106:=n8_;have NB106_102:=n9_;clear n0_ n1_ n2_ n3_ n4_ n5_ n6_ n7_ n8_ n9_;clear hb hbox hg;have hnb25:=NB106_101.out;have hnc25:=NB101_106.out;have hnb26:=NB106_102.out;have hnc26:=NB102_106.out;have hcz27_0:=bc BK106.out 0 (.int .i64 0);have hcz27_1:=bc BK106.out 1 (.int .i64 0);have hfz27_0:=blk_frozen BK106.out 0;have hfz27_1:=blk_frozen BK106.out 1;have hcz28_0:=bc BK101.out 0 (.int .i64 a0_0);have hcz28_1:=bc BK101.out 1 (.int .i64 a0_1);have hfz28_0:=blk_frozen BK101.out 0;have hfz28_1:=blk_frozen BK101.out 1;have hcz29_0:=bc BK102.out 0 (.int .i64 a1_0);have hcz29_1:=bc BK102.out 1 (.int .i64 a1_1);have hfz29_0:=blk_frozen BK102.out 0;have hfz29_1:=blk_frozen BK102.out 1)|((with_reducible refine gate_callee (f:=47) rfl ?_);refine goesL_ (some 27) rfl rfl Tryz.func47 kr rfl #[.agg #[.int .i64 a0_0,.int .i64 a0_1],.agg #[.int .i64 a1_0,.int .i64 a1_1]] rfl vm ?_;(with_reducible refine (calxref04_Add.calls k a0_0 a0_1 a1_0 a1_1 t107 t108 t109 _ A6.out).mono ?_);rintro e w30 ⟨rfl,hb⟩;refine ⟨_,rfl,?_⟩;have n0_:=am (blk_below (g:=gb101) (o:=.cells #[.int .i64 a0_0,.int .i64 a0_1] 43 (0,0)) (vh BK101.out NB101_106.out) hb);have n1_:=am (blk_below (g:=gb102) (o:=.cells #[.int .i64 a1_0,.int .i64 a1_1] 43 (0,0)) (vh BK102.out NB102_106.out) hb);have n2_:=am (blk_below (g:=gb106) (o:=.cells #[.int .i64 t103,.int .i64 t104] 43 (0,0)) (by (with_reducible repeat (first|refine blk_drewN ?_ _|refine blk_drew ?_|refine blk_alloc ?_ _));refine blk_put (cs:=#[.int .i64 t103,.int .i64 0]) ?_ 1 _ rfl;(with_reducible repeat (first|refine blk_drewN ?_ _|refine blk_drew ?_|refine blk_alloc ?_ _));refine blk_put (cs:=#[.int .i64 0,.int .i64 0]) ?_ 0 _ rfl;(with_reducible repeat (first|refine blk_drewN ?_ _|refine blk_drew ?_|refine blk_alloc ?_ _));exact BK106.out) hb);have n3_:=am (below_step (v3 HB.out GE101.out GE102.out GE106.out) hb);clear BK101;clear BK102;clear BK106;clear HB;have BK101:=n0_;have BK102:=n1_;have BK106:=n2_;have HB:=n3_;clear n0_ n1_ n2_ n3_;(try clear hb);(try clear hb2);(try clear hk);(try clear hi))|((with_reducible refine gate_dst (N:=11) rfl ?_);refine box_event ?hg (N:=11) ?hd (cs:=#[.int .i64 0,.int .i64 0,.int .i64 0]) (t:=63) ?hr ?_;(case hd => rfl);(case hg => rfl);(case hr => first|(go_simp;done)|(go_simp;rfl));intro gb110 hg w31 hbox hb;have n0_:=am (blk_below (g:=gb101) (o:=.cells #[.int .i64 a0_0,.int .i64 a0_1] 43 (0,0)) (vb BK101.out) hb);have n1_:=am (blk_below (g:=gb102) (o:=.cells #[.int .i64 a1_0,.int .i64 a1_1] 43 (0,0)) (vb BK102.out) hb);have n2_:=am (blk_below (g:=gb106) (o:=.cells #[.int .i64 t103,.int .i64 t104] 43 (0,0)) (vb BK106.out) hb);have n3_:=am (below_step (v3 HB.out GE101.out GE102.out GE106.out) hb);have n4_:=am (hbox);have n5_:=am ((by rw [hg];exact (below_size (v3 HB.out GE101.out GE102.out GE106.out)) : w.heap.size ≤ gb110));have n6_:=am ((by rw [hg];exact (below_size (v3 HB.out GE101.out GE102.out GE106.out)) : w.heap.size ≤ gb110));have n7_:=am ((by rw [hg];exact Nat.ne_of_lt (blk_lt (g:=gb101) (o:=.cells #[.int .i64 a0_0,.int .i64 a0_1] 43 (0,0)) (vb BK101.out)) : gb101 ≠ gb110));have n8_:=am ((by rw [hg];exact Nat.ne_of_gt (blk_lt (g:=gb101) (o:=.cells #[.int .i64 a0_0,.int .i64 a0_1] 43 (0,0)) (vb BK101.out)) : gb110 ≠ gb101));have n9_:=am ((by rw [hg];exact Nat.ne_of_lt (blk_lt (g:=gb102) (o:=.cells #[.int .i64 a1_0,.int .i64 a1_1] 43 (0,0)) (vb BK102.out)) : gb102 ≠ gb110));have n10_:=am ((by rw [hg];exact Nat.ne_of_gt (blk_lt (g:=gb102) (o:=.cells #[.int .i64 a1_0,.int .i64 a1_1] 43 (0,0)) (vb BK102.out)) : gb110 ≠ gb102));have n11_:=am ((by rw [hg];exact Nat.ne_of_lt (blk_lt (g:=gb106) (o:=.cells #[.int .i64 t103,.int .i64 t104] 43 (0,0)) (vb BK106.out)) : gb106 ≠ gb110));have n12_:=am ((by rw [hg];exact Nat.ne_of_gt (blk_lt (g:=gb106) (o:=.cells #[.int .i64 t103,.int .i64 t104] 43 (0,0)) (vb BK106.out)) : gb110 ≠ gb106));clear BK101;clear BK102;clear BK106;clear HB;have BK101:=n0_;have BK102:=n1_;have BK106:=n2_;have HB:=n3_;have BK110:=n4_;have GW110:=n5_;have GE110:=n6_;have NB101_110:=n7_;have NB110_101:=n8_;have NB102_110:=n9_;have NB110_102:=n10_;have NB106_110:=n11_;have NB110_106:=n12_;clear n0_ n1_ n2_ n3_ n4_ n5_ n6_ n7_ n8_ n9_ n10_ n11_ n12_;clear hb hbox hg;have hnb32:=NB110_101.out;have hnc32:=NB101_110.out;have hnb33:=NB110_102.out;have hnc33:=NB102_110.out;have hnb34:=NB110_106.out;have hnc34:=NB106_110.out;have hcz35_0:=bc BK110.out 0 (.int .i64 0);have hcz35_1:=bc BK110.out 1 (.int .i64 0);have hcz35_2:=bc BK110.out 2 (.int .i64 0);have hfz35_0:=blk_frozen BK110.out 0;have hfz35_1:=blk_frozen BK110.out 1;have hfz35_2:=blk_frozen BK110.out 2;have hcz36_0:=bc BK101.out 0 (.int .i64 a0_0);have hcz36_1:=bc BK101.out 1 (.int .i64 a0_1);have hfz36_0:=blk_frozen BK101.out 0;have hfz36_1:=blk_frozen BK101.out 1)|((with_reducible refine gate_callee (f:=48) rfl ?_);refine goesL_ (some 32) rfl rfl Tryz.func48 kr rfl #[.agg #[.int .i64 a0_0,.int .i64 a0_1],.int .i64 a2,.int .i64 a3] rfl vm ?_;(with_reducible refine (pit_Times.calls k a0_0 a0_1 a2 a3 t111 t112 t113 _ A7.out).mono ?_);rintro e w37 ⟨rfl,hb⟩;refine ⟨_,rfl,?_⟩;have n0_:=am (blk_below (g:=gb101) (o:=.cells #[.int .i64 a0_0,.int .i64 a0_1] 43 (0,0)) (vi BK101.out NB101_110.out) hb);have n1_:=am (blk_below (g:=gb102) (o:=.cells #[.int .i64 a1_0,.int .i64 a1_1] 43 (0,0)) (vi BK102.out NB102_110.out) hb);have n2_:=am (blk_below (g:=gb106) (o:=.cells #[.int .i64 t103,.int .i64 t104] 43 (0,0)) (vi BK106.out NB106_110.out) hb);have n3_:=am (blk_below (g:=gb110) (o:=.cells #[.int .i64 t107,.int .i64 t108,.int .i64 t109] 63 (0,0)) (by (with_reducible repeat (first|refine blk_drewN ?_ _|refine blk_drew ?_|refine blk_alloc ?_ _));refine blk_put (cs:=#[.int .i64 t107,.int .i64 t108,.int .i64 0]) ?_ 2 _ rfl;(with_reducible repeat (first|refine blk_drewN ?_ _|refine blk_drew ?_|refine blk_alloc ?_ _));refine blk_put (cs:=#[.int .i64 t107,.int .i64 0,.int .i64 0]) ?_ 1 _ rfl;(with_reducible repeat (first|refine blk_drewN ?_ _|refine blk_drew ?_|refine blk_alloc ?_ _));refine blk_put (cs:=#[.int .i64 0,.int .i64 0,.int .i64 0]) ?_ 0 _ rfl;(with_reducible repeat (first|refine blk_drewN ?_ _|refine blk_drew ?_|refine blk_alloc ?_ _));exact BK110.out) hb);have n4_:=am (below_step (by repeat (first|(with_reducible first|exact HB.out|apply below_alloc|apply pw_below_drewN|apply below_drew1|refine below_set ?_ GE101.out|refine below_set ?_ GE102.out|refine below_set ?_ GE106.out|refine below_set ?_ GE110.out)|exact HB.out)) hb);clear BK101;clear BK102;clear BK106;clear BK110;clear HB;have BK101:=n0_;have BK102:=n1_;have BK106:=n2_;have BK110:=n3_;have HB:=n4_;clear n0_ n1_ n2_ n3_ n4_;(try clear hb);(try clear hb2);(try clear hk);(try clear hi))|((with_reducible refine gate_dst (N:=12) rfl ?_);refine box_event ?hg (N:=12) ?hd (cs:=#[.int .i64 0,.int .i64 0]) (t:=43) ?hr ?_;(case hd => rfl);(case hg => rfl);(case hr => first|(go_simp;done)|(go_simp;rfl));intro gb114 hg w38 hbox hb;have n0_:=am (blk_below (g:=gb101) (o:=.cells #[.int .i64 a0_0,.int .i64 a0_1] 43 (0,0)) (vb BK101.out) hb);have n1_:=am (blk_below (g:=gb102) (o:=.cells #[.int .i64 a1_0,.int .i64 a1_1] 43 (0,0)) (vb BK102.out) hb);have n2_:=am (blk_below (g:=gb106) (o:=.cells #[.int .i64 t103,.int .i64 t104] 43 (0,0)) (vb BK106.out) hb);have n3_:=am (blk_below (g:=gb110) (o:=.cells #[.int .i64 t107,.int .i64 t108,.int .i64 t109] 63 (0,0)) (vb BK110.out) hb);have n4_:=am (below_step (by repeat (first|(with_reducible first|exact HB.out|apply below_alloc|apply pw_below_drewN|apply below_drew1|refine below_set ?_ GE101.out|refine below_set ?_ GE102.out|refine below_set ?_ GE106.out|refine below_set ?_ GE110.out)|exact HB.out)) hb);have n5_:=am (hbox);have n6_:=am ((by rw [hg];exact (below_size (by repeat (first|(with_reducible first|exact HB.out|apply below_alloc|apply pw_below_drewN|apply below_drew1|refine below_set ?_ GE101.out|refine below_set ?_ GE102.out|refine below_set ?_ GE106.out|refine below_set ?_ GE110.out)|exact HB.out))) : w.heap.size ≤ gb114));have n7_:=am ((by rw [hg];exact (below_size (by repeat (first|(with_reducible first|exact HB.out|apply below_alloc|apply pw_below_drewN|apply below_drew1|refine below_set ?_ GE101.out|refine below_set ?_ GE102.out|refine below_set ?_ GE106.out|refine below_set ?_ GE110.out)|exact HB.out))) : w.heap.size ≤ gb114));have n8_:=am ((by rw [hg];exact Nat.ne_of_lt (blk_lt (g:=gb101) (o:=.cells #[.int .i64 a0_0,.int .i64 a0_1] 43 (0,0)) (vb BK101.out)) : gb101 ≠ gb114));have n9_:=am ((by rw [hg];exact Nat.ne_of_gt (blk_lt (g:=gb101) (o:=.cells #[.int .i64 a0_0,.int .i64 a0_1] 43 (0,0)) (vb BK101.out)) : gb114 ≠ gb101));have n10_:=am ((by rw [hg];exact Nat.ne_of_lt (blk_lt (g:=gb102) (o:=.cells #[.int .i64 a1_0,.int .i64 a1_1] 43 (0,0)) (vb BK102.out)) : gb102 ≠ gb114));have n11_:=am ((by rw [hg];exact Nat.ne_of_gt (blk_lt (g:=gb102) (o:=.cells #[.int .i64 a1_0,.int .i64 a1_1] 43 (0,0)) (vb BK102.out)) : gb114 ≠ gb102));have n12_:=am ((by rw [hg];exact Nat.ne_of_lt (blk_lt (g:=gb106) (o:=.cells #[.int .i64 t103,.int .i64 t104] 43 (0,0)) (vb BK106.out)) : gb106 ≠ gb114));have n13_:=am ((by rw [hg];exact Nat.ne_of_gt (blk_lt (g:=gb106) (o:=.cells #[.int .i64 t103,.int .i64 t104] 43 (0,0)) (vb BK106.out)) : gb114 ≠ gb106));have n14_:=am ((by rw [hg];exact Nat.ne_of_lt (blk_lt (g:=gb110) (o:=.cells #[.int .i64 t107,.int .i64 t108,.int .i64 t109] 63 (0,0)) (vb BK110.out)) : gb110 ≠ gb114));have n15_:=am ((by rw [hg];exact Nat.ne_of_gt (blk_lt (g:=gb110) (o:=.cells #[.int .i64 t107,.int .i64 t108,.int .i64 t109] 63 (0,0)) (vb BK110.out)) : gb114 ≠ gb110));clear BK101;clear BK102;clear BK106;clear BK110;clear HB;have BK101:=n0_;have BK102:=n1_;have BK106:=n2_;have BK110:=n3_;have HB:=n4_;have BK114:=n5_;have GW114:=n6_;have GE114:=n7_;have NB101_114:=n8_;have NB114_101:=n9_;have NB102_114:=n10_;have NB114_102:=n11_;have NB106_114:=n12_;have NB114_106:=n13_;have NB110_114:=n14_;have NB114_110:=n15_;clear n0_ n1_ n2_ n3_ n4_ n5_ n6_ n7_ n8_ n9_ n10_ n11_ n12_ n13_ n14_ n15_;clear hb hbox hg;have hnb39:=NB114_101.out;have hnc39:=NB101_114.out;have hnb40:=NB114_102.out;have hnc40:=NB102_114.out;have hnb41:=NB114_106.out;have hnc41:=NB106_114.out;have hnb42:=NB114_110.out;have hnc42:=NB110_114.out;have hcz43_0:=bc BK114.out 0 (.int .i64 0);have hcz43_1:=bc BK114.out 1 (.int .i64 0);have hfz43_0:=blk_frozen BK114.out 0;have hfz43_1:=blk_frozen BK114.out 1;have hcz44_0:=bc BK101.out 0 (.int .i64 a0_0);have hcz44_1:=bc BK101.out 1 (.int .i64 a0_1);have hfz44_0:=blk_frozen BK101.out 0;have hfz44_1:=blk_frozen BK101.out 1)|((with_reducible refine gate_callee (f:=49) rfl ?_);refine goesL_ (some 38) rfl rfl Tryz.func49 kr rfl #[.agg #[.int .i64 a0_0,.int .i64 a0_1],.int .i64 a2,.int .i64 a3] rfl vm ?_;(with_reducible refine (calxref04_Times.calls k a0_0 a0_1 a2 a3 t115 t116 t117 _ A8.out).mono ?_);rintro e w45 ⟨rfl,hb⟩;refine ⟨_,rfl,?_⟩;have n0_:=am (blk_below (g:=gb101) (o:=.cells #[.int .i64 a0_0,.int .i64 a0_1] 43 (0,0)) (vh BK101.out NB101_114.out) hb);have n1_:=am (blk_below (g:=gb102) (o:=.cells #[.int .i64 a1_0,.int .i64 a1_1] 43 (0,0)) (vh BK102.out NB102_114.out) hb);have n2_:=am (blk_below (g:=gb106) (o:=.cells #[.int .i64 t103,.int .i64 t104] 43 (0,0)) (vh BK106.out NB106_114.out) hb);have n3_:=am (blk_below (g:=gb110) (o:=.cells #[.int .i64 t107,.int .i64 t108,.int .i64 t109] 63 (0,0)) (vh BK110.out NB110_114.out) hb);have n4_:=am (blk_below (g:=gb114) (o:=.cells #[.int .i64 t111,.int .i64 t112] 43 (0,0)) (by (with_reducible repeat (first|refine blk_drewN ?_ _|refine blk_drew ?_|refine blk_alloc ?_ _));refine blk_put (cs:=#[.int .i64 t111,.int .i64 0]) ?_ 1 _ rfl;(with_reducible repeat (first|refine blk_drewN ?_ _|refine blk_drew ?_|refine blk_alloc ?_ _));refine blk_put (cs:=#[.int .i64 0,.int .i64 0]) ?_ 0 _ rfl;(with_reducible repeat (first|refine blk_drewN ?_ _|refine blk_drew ?_|refine blk_alloc ?_ _));exact BK114.out) hb);have n5_:=am (below_step (by repeat (first|(with_reducible first|exact HB.out|apply below_alloc|apply pw_below_drewN|apply below_drew1|refine below_set ?_ GE101.out|refine below_set ?_ GE102.out|refine below_set ?_ GE106.out|refine below_set ?_ GE110.out|refine below_set ?_ GE114.out)|exact HB.out)) hb);clear BK101;clear BK102;clear BK106;clear BK110;clear BK114;clear HB;have BK101:=n0_;have BK102:=n1_;have BK106:=n2_;have BK110:=n3_;have BK114:=n4_;have HB:=n5_;clear n0_ n1_ n2_ n3_ n4_ n5_;(try clear hb);(try clear hb2);(try clear hk);(try clear hi))|((with_reducible refine gate_dst (N:=14) rfl ?_);refine box_event ?hg (N:=14) ?hd (cs:=#[.int .i64 0,.int .i64 0,.int .i64 0]) (t:=63) ?hr ?_;(case hd => rfl);(case hg => rfl);(case hr => first|(go_simp;done)|(go_simp;rfl));intro gb118 hg w46 hbox hb;have n0_:=am (blk_below (g:=gb101) (o:=.cells #[.int .i64 a0_0,.int .i64 a0_1] 43 (0,0)) (vb BK101.out) hb);have n1_:=am (blk_below (g:=gb102) (o:=.cells #[.int .i64 a1_0,.int .i64 a1_1] 43 (0,0)) (vb BK102.out) hb);have n2_:=am (blk_below (g:=gb106) (o:=.cells #[.int .i64 t103,.int .i64 t104] 43 (0,0)) (vb BK106.out) hb);have n3_:=am (blk_below (g:=gb110) (o:=.cells #[.int .i64 t107,.int .i64 t108,.int .i64 t109] 63 (0,0)) (vb BK110.out) hb);have n4_:=am (blk_below (g:=gb114) (o:=.cells #[.int .i64 t111,.int .i64 t112] 43 (0,0)) (vb BK114.out) hb);have n5_:=am (below_step (by repeat (first|(with_reducible first|exact HB.out|apply below_alloc|apply pw_below_drewN|apply below_drew1|refine below_set ?_ GE101.out|refine below_set ?_ GE102.out|refine below_set ?_ GE106.out|refine below_set ?_ GE110.out|refine below_set ?_ GE114.out)|exact HB.out)) hb);have n6_:=am (hbox);have n7_:=am ((by rw [hg];exact (below_size (by repeat (first|(with_reducible first|exact HB.out|apply below_alloc|apply pw_below_drewN|apply below_drew1|refine below_set ?_ GE101.out|refine below_set ?_ GE102.out|refine below_set ?_ GE106.out|refine below_set ?_ GE110.out|refine below_set ?_ GE114.out)|exact HB.out))) : w.heap.size ≤ gb118));have n8_:=am ((by rw [hg];exact (below_size (by repeat (first|(with_reducible first|exact HB.out|apply below_alloc|apply pw_below_drewN|apply below_drew1|refine below_set ?_ GE101.out|refine below_set ?_ GE102.out|refine below_set ?_ GE106.out|refine below_set ?_ GE110.out|refine below_set ?_ GE114.out)|exact HB.out))) : w.heap.size ≤ gb118));have n9_:=am ((by rw [hg];exact Nat.ne_of_lt (blk_lt (g:=gb101) (o:=.cells #[.int .i64 a0_0,.int .i64 a0_1] 43 (0,0)) (vb BK101.out)) : gb101 ≠ gb118));have n10_:=am ((by rw [hg];exact Nat.ne_of_gt (blk_lt (g:=gb101) (o:=.cells #[.int .i64 a0_0,.int .i64 a0_1] 43 (0,0)) (vb BK101.out)) : gb118 ≠ gb101));have n11_:=am ((by rw [hg];exact Nat.ne_of_lt (blk_lt (g:=gb102) (o:=.cells #[.int .i64 a1_0,.int .i64 a1_1] 43 (0,0)) (vb BK102.out)) : gb102 ≠ gb118));have n12_:=am ((by rw [hg];exact Nat.ne_of_gt (blk_lt (g:=gb102) (o:=.cells #[.int .i64 a1_0,.int .i64 a1_1] 43 (0,0)) (vb BK102.out)) : gb118 ≠ gb102));have n13_:=am ((by rw [hg];exact Nat.ne_of_lt (blk_lt (g:=gb106) (o:=.cells #[.int .i64 t103,.int .i64 t104] 43 (0,0)) (vb BK106.out)) : gb106 ≠ gb118));have n14_:=am ((by rw [hg];exact Nat.ne_of_gt (blk_lt (g:=gb106) (o:=.cells #[.int .i64 t103,.int .i64 t104] 43 (0,0)) (vb BK106.out)) : gb118 ≠ gb106));have n15_:=am ((by rw [hg];exact Nat.ne_of_lt (blk_lt (g:=gb110) (o:=.cells #[.int .i64 t107,.int .i64 t108,.int .i64 t109] 63 (0,0)) (vb BK110.out)) : gb110 ≠ gb118));have n16_:=am ((by rw [hg];exact Nat.ne_of_gt (blk_lt (g:=gb110) (o:=.cells #[.int .i64 t107,.int .i64 t108,.int .i64 t109] 63 (0,0)) (vb BK110.out)) : gb118 ≠ gb110));have n17_:=am ((by rw [hg];exact Nat.ne_of_lt (blk_lt (g:=gb114) (o:=.cells #[.int .i64 t111,.int .i64 t112] 43 (0,0)) (vb BK114.out)) : gb114 ≠ gb118));have n18_:=am ((by rw [hg];exact Nat.ne_of_gt (blk_lt (g:=gb114) (o:=.cells #[.int .i64 t111,.int .i64 t112] 43 (0,0)) (vb BK114.out)) : gb118 ≠ gb114));clear BK101;clear BK102;clear BK106;clear BK110;clear BK114;clear HB;have BK101:=n0_;have BK102:=n1_;have BK106:=n2_;have BK110:=n3_;have BK114:=n4_;have HB:=n5_;have BK118:=n6_;have GW118:=n7_;have GE118:=n8_;have NB101_118:=n9_;have NB118_101:=n10_;have NB102_118:=n11_;have NB118_102:=n12_;have NB106_118:=n13_;have NB118_106:=n14_;have NB110_118:=n15_;have NB118_110:=n16_;have NB114_118:=n17_;have NB118_114:=n18_;clear n0_ n1_ n2_ n3_ n4_ n5_ n6_ n7_ n8_ n9_ n10_ n11_ n12_ n13_ n14_ n15_ n16_ n17_ n18_;clear hb hbox hg;have hnb47:=NB118_101.out;have hnc47:=NB101_118.out;have hnb48:=NB118_102.out;have hnc48:=NB102_118.out;have hnb49:=NB118_106.out;have hnc49:=NB106_118.out;have hnb50:=NB118_110.out;have hnc50:=NB110_118.out;have hnb51:=NB118_114.out;have hnc51:=NB114_118.out;have hcz52_0:=bc BK118.out 0 (.int .i64 0);have hcz52_1:=bc BK118.out 1 (.int .i64 0);have hcz52_2:=bc BK118.out 2 (.int .i64 0);have hfz52_0:=blk_frozen BK118.out 0;have hfz52_1:=blk_frozen BK118.out 1;have hfz52_2:=blk_frozen BK118.out 2;have hcz53_0:=bc BK101.out 0 (.int .i64 a0_0);have hcz53_1:=bc BK101.out 1 (.int .i64 a0_1);have hfz53_0:=blk_frozen BK101.out 0;have hfz53_1:=blk_frozen BK101.out 1;have hcz54_0:=bc BK102.out 0 (.int .i64 a1_0);have hcz54_1:=bc BK102.out 1 (.int .i64 a1_1);have hfz54_0:=blk_frozen BK102.out 0;have hfz54_1:=blk_frozen BK102.out 1)|((with_reducible refine gate_callee (f:=23) rfl ?_);refine goesL_ (some 42) rfl rfl Tryz.func23 kr rfl #[.agg #[.int .i64 a0_0,.int .i64 a0_1],.agg #[.int .i64 a1_0,.int .i64 a1_1]] rfl vm ?_;(with_reducible refine (pit_Compare.calls k a0_0 a0_1 a1_0 a1_1 t119 t120 _ A9.out).mono ?_);rintro e w55 ⟨rfl,hb⟩;refine ⟨_,rfl,?_⟩;have n0_:=am (blk_below (g:=gb101) (o:=.cells #[.int .i64 a0_0,.int .i64 a0_1] 43 (0,0)) (vi BK101.out NB101_118.out) hb);have n1_:=am (blk_below (g:=gb102) (o:=.cells #[.int .i64 a1_0,.int .i64 a1_1] 43 (0,0)) (vi BK102.out NB102_118.out) hb);have n2_:=am (blk_below (g:=gb106) (o:=.cells #[.int .i64 t103,.int .i64 t104] 43 (0,0)) (vi BK106.out NB106_118.out) hb);have n3_:=am (blk_below (g:=gb110) (o:=.cells #[.int .i64 t107,.int .i64 t108,.int .i64 t109] 63 (0,0)) (vi BK110.out NB110_118.out) hb);have n4_:=am (blk_below (g:=gb114) (o:=.cells #[.int .i64 t111,.int .i64 t112] 43 (0,0)) (vi BK114.out NB114_118.out) hb);have n5_:=am (blk_below (g:=gb118) (o:=.cells #[.int .i64 t115,.int .i64 t116,.int .i64 t117] 63 (0,0)) (by (with_reducible repeat (first|refine blk_drewN ?_ _|refine blk_drew ?_|refine blk_alloc ?_ _));refine blk_put (cs:=#[.int .i64 t115,.int .i64 t116,.int .i64 0]) ?_ 2 _ rfl;(with_reducible repeat (first|refine blk_drewN ?_ _|refine blk_drew ?_|refine blk_alloc ?_ _));refine blk_put (cs:=#[.int .i64 t115,.int .i64 0,.int .i64 0]) ?_ 1 _ rfl;(with_reducible repeat (first|refine blk_drewN ?_ _|refine blk_drew ?_|refine blk_alloc ?_ _));refine blk_put (cs:=#[.int .i64 0,.int .i64 0,.int .i64 0]) ?_ 0 _ rfl;(with_reducible repeat (first|refine blk_drewN ?_ _|refine blk_drew ?_|refine blk_alloc ?_ _));exact BK118.out) hb);have n6_:=am (below_step (by repeat (first|(with_reducible first|exact HB.out|apply below_alloc|apply pw_below_drewN|apply below_drew1|refine below_set ?_ GE101.out|refine below_set ?_ GE102.out|refine below_set ?_ GE106.out|refine below_set ?_ GE110.out|refine below_set ?_ GE114.out|refine below_set ?_ GE118.out)|exact HB.out)) hb);clear BK101;clear BK102;clear BK106;clear BK110;clear BK114;clear BK118;clear HB;have BK101:=n0_;have BK102:=n1_;have BK106:=n2_;have BK110:=n3_;have BK114:=n4_;have BK118:=n5_;have HB:=n6_;clear n0_ n1_ n2_ n3_ n4_ n5_ n6_;(try clear hb);(try clear hb2);(try clear hk);(try clear hi);have hcz56_0:=bc BK101.out 0 (.int .i64 a0_0);have hcz56_1:=bc BK101.out 1 (.int .i64 a0_1);have hfz56_0:=blk_frozen BK101.out 0;have hfz56_1:=blk_frozen BK101.out 1;have hcz57_0:=bc BK102.out 0 (.int .i64 a1_0);have hcz57_1:=bc BK102.out 1 (.int .i64 a1_1);have hfz57_0:=blk_frozen BK102.out 0;have hfz57_1:=blk_frozen BK102.out 1)|((with_reducible refine gate_callee (f:=50) rfl ?_);refine goesL_ (some 48) rfl rfl Tryz.func50 kr rfl #[.agg #[.int .i64 a0_0,.int .i64 a0_1],.agg #[.int .i64 a1_0,.int .i64 a1_1]] rfl vm ?_;(with_reducible refine (calxref04_Compare.calls k a0_0 a0_1 a1_0 a1_1 t121 t122 _ A10.out).mono ?_);rintro e w58 ⟨rfl,hb⟩;refine ⟨_,rfl,?_⟩;have n0_:=am (blk_below (g:=gb101) (o:=.cells #[.int .i64 a0_0,.int .i64 a0_1] 43 (0,0)) (vb BK101.out) hb);have n1_:=am (blk_below (g:=gb102) (o:=.cells #[.int .i64 a1_0,.int .i64 a1_1] 43 (0,0)) (vb BK102.out) hb);have n2_:=am (blk_below (g:=gb106) (o:=.cells #[.int .i64 t103,.int .i64 t104] 43 (0,0)) (vb BK106.out) hb);have n3_:=am (blk_below (g:=gb110) (o:=.cells #[.int .i64 t107,.int .i64 t108,.int .i64 t109] 63 (0,0)) (vb BK110.out) hb);have n4_:=am (blk_below (g:=gb114) (o:=.cells #[.int .i64 t111,.int .i64 t112] 43 (0,0)) (vb BK114.out) hb);have n5_:=am (blk_below (g:=gb118) (o:=.cells #[.int .i64 t115,.int .i64 t116,.int .i64 t117] 63 (0,0)) (vb BK118.out) hb);have n6_:=am (below_step (by repeat (first|(with_reducible first|exact HB.out|apply below_alloc|apply pw_below_drewN|apply below_drew1|refine below_set ?_ GE101.out|refine below_set ?_ GE102.out|refine below_set ?_ GE106.out|refine below_set ?_ GE110.out|refine below_set ?_ GE114.out|refine below_set ?_ GE118.out)|exact HB.out)) hb);clear BK101;clear BK102;clear BK106;clear BK110;clear BK114;clear BK118;clear HB;have BK101:=n0_;have BK102:=n1_;have BK106:=n2_;have BK110:=n3_;have BK114:=n4_;have BK118:=n5_;have HB:=n6_;clear n0_ n1_ n2_ n3_ n4_ n5_ n6_;(try clear hb);(try clear hb2);(try clear hk);(try clear hi))|((with_reducible refine gate_callee (f:=27) rfl ?_);refine goesL_ (some 51) rfl rfl Tryz.func27 kr rfl #[] rfl vm ?_;(with_reducible refine (calxlaw04_sanity.calls  true _ A11.out).mono ?_);rintro e w59 ⟨rfl,hb⟩;refine ⟨_,rfl,?_⟩;have n0_:=am (blk_below (g:=gb101) (o:=.cells #[.int .i64 a0_0,.int .i64 a0_1] 43 (0,0)) (vb BK101.out) hb);have n1_:=am (blk_below (g:=gb102) (o:=.cells #[.int .i64 a1_0,.int .i64 a1_1] 43 (0,0)) (vb BK102.out) hb);have n2_:=am (blk_below (g:=gb106) (o:=.cells #[.int .i64 t103,.int .i64 t104] 43 (0,0)) (vb BK106.out) hb);have n3_:=am (blk_below (g:=gb110) (o:=.cells #[.int .i64 t107,.int .i64 t108,.int .i64 t109] 63 (0,0)) (vb BK110.out) hb);have n4_:=am (blk_below (g:=gb114) (o:=.cells #[.int .i64 t111,.int .i64 t112] 43 (0,0)) (vb BK114.out) hb);have n5_:=am (blk_below (g:=gb118) (o:=.cells #[.int .i64 t115,.int .i64 t116,.int .i64 t117] 63 (0,0)) (vb BK118.out) hb);have n6_:=am (below_step (by repeat (first|(with_reducible first|exact HB.out|apply below_alloc|apply pw_below_drewN|apply below_drew1|refine below_set ?_ GE101.out|refine below_set ?_ GE102.out|refine below_set ?_ GE106.out|refine below_set ?_ GE110.out|refine below_set ?_ GE114.out|refine below_set ?_ GE118.out)|exact HB.out)) hb);clear BK101;clear BK102;clear BK106;clear BK110;clear BK114;clear BK118;clear HB;have BK101:=n0_;have BK102:=n1_;have BK106:=n2_;have BK110:=n3_;have BK114:=n4_;have BK118:=n5_;have HB:=n6_;clear n0_ n1_ n2_ n3_ n4_ n5_ n6_;(try clear hb);(try clear hb2);(try clear hk);(try clear hi);have hcz60_0:=bc BK106.out 0 (.int .i64 t103);have hcz60_1:=bc BK106.out 1 (.int .i64 t104);have hfz60_0:=blk_frozen BK106.out 0;have hfz60_1:=blk_frozen BK106.out 1;have hcz61_0:=bc BK110.out 0 (.int .i64 t107);have hcz61_1:=bc BK110.out 1 (.int .i64 t108);have hcz61_2:=bc BK110.out 2 (.int .i64 t109);have hfz61_0:=blk_frozen BK110.out 0;have hfz61_1:=blk_frozen BK110.out 1;have hfz61_2:=blk_frozen BK110.out 2;have hcz62_0:=bc BK114.out 0 (.int .i64 t111);have hcz62_1:=bc BK114.out 1 (.int .i64 t112);have hfz62_0:=blk_frozen BK114.out 0;have hfz62_1:=blk_frozen BK114.out 1;have hcz63_0:=bc BK118.out 0 (.int .i64 t115);have hcz63_1:=bc BK118.out 1 (.int .i64 t116);have hcz63_2:=bc BK118.out 2 (.int .i64 t117);have hfz63_0:=blk_frozen BK118.out 0;have hfz63_1:=blk_frozen BK118.out 1;have hfz63_2:=blk_frozen BK118.out 2))
       go_ret
       exact ⟨vf,by repeat (first|(with_reducible first|exact HB.out|apply below_alloc|apply pw_below_drewN|apply below_drew1|refine below_set ?_ GE101.out|refine below_set ?_ GE102.out|refine below_set ?_ GE106.out|refine below_set ?_ GE110.out|refine below_set ?_ GE114.out|refine below_set ?_ GE118.out)|exact HB.out)⟩
      ·rw [if_neg c17] at H
       have c17b0 : (t119 == t121) = false:=beq_eq_false_iff_ne.mpr c17
       have c17b1 : (t119 != t121) = true:=bne_iff_ne.mpr c17
       obtain rfl:=Option.some.inj H
       cases hr.out
     ·rw [if_neg c16] at H
      have c16b0 : (t113 == t117) = false:=beq_eq_false_iff_ne.mpr c16
      have c16b1 : (t113 != t117) = true:=bne_iff_ne.mpr c16
      obtain rfl:=Option.some.inj H
      cases hr.out
    ·rw [if_neg c15] at H
     have c15b0 : (t111 == t115 && (t112 == t116)) = false:=by simpa using c15
     (try (have c15b1 : decide (t111 = t115 && (t112 == t116)) = false:=by simpa using c15))
     (try (have c15b2 : (t111 == t115 && (t112 == t116)) = false:=by simpa using c15))
     (try (have c15b3 : ¬ (t111 = t115 && (t112 == t116)):=by simpa using c15))
     clear c15
     obtain rfl:=Option.some.inj H
     cases hr.out
   ·rw [if_neg c14] at H
    have c14b0 : (t105 == t109) = false:=beq_eq_false_iff_ne.mpr c14
    have c14b1 : (t105 != t109) = true:=bne_iff_ne.mpr c14
    obtain rfl:=Option.some.inj H
    cases hr.out
  ·rw [if_neg c13] at H
   have c13b0 : (t103 == t107 && (t104 == t108)) = false:=by simpa using c13
   (try (have c13b1 : decide (t103 = t107 && (t104 == t108)) = false:=by simpa using c13))
   (try (have c13b2 : (t103 == t107 && (t104 == t108)) = false:=by simpa using c13))
   (try (have c13b3 : ¬ (t103 = t107 && (t104 == t108)):=by simpa using c13))
   clear c13
   obtain rfl:=Option.some.inj H
   cases hr.out
 ·replace c12:=Bool.eq_false_iff.mpr c12
  subst c12
  have H1 : (some false) = some r:=by rw [if_neg (show ¬ (false = true) by decide)] at H;exact H
  clear H
  have H:=H1
  clear H1
  obtain rfl:=Option.some.inj H
  cases hr.out
end
theorem rf_divisor_l0 : ∀ (k : Nat) (a b : Int),0 ≤ a → 0 ≤ b → b.toNat < k → calxref04_divisor.l0 k a b = some (Int.gcd a b : Int)
|0,a,b,_,_,h => by omega
|k + 1,a,b,ha,hb,h => by
  simp only [calxref04_divisor.l0]
  by_cases c : b > 0
  ·rw [if_pos c,if_neg (by omega),Int.tmod_eq_emod_of_nonneg ha]
   have h1:=Int.emod_nonneg a (show b ≠ 0 by omega)
   have h2:=Int.emod_lt_of_pos a c
   rw [rf_divisor_l0 k b (a % b) hb h1 (by omega)]
   congr 2
   obtain ⟨a,rfl⟩:=Int.eq_ofNat_of_zero_le ha
   obtain ⟨b,rfl⟩:=Int.eq_ofNat_of_zero_le hb
   rw [← Int.natCast_emod,Int.gcd_natCast_natCast,Int.gcd_natCast_natCast,Nat.gcd_comm a b,Nat.gcd_rec b a,Nat.gcd_comm]
  ·obtain rfl : b = 0:=by omega
   rw [if_neg c]
   congr 1
   simp only [Int.gcd_zero]
   omega
theorem rf_divisor {a b : Int} (ha : 0 ≤ a) (hb : 0 ≤ b) (h : b < 9223372036854775808) : calxref04_divisor.f FU a b = some (Int.gcd a b : Int):=by
 unfold calxref04_divisor.f
 exact rf_divisor_l0 _ a b ha hb (FU_lt (by omega))
theorem rf_in (a b c : Int) : calxref04_in.f a b c = some (decide (b ≤ a ∧ a ≤ c)):=by
 unfold calxref04_in.f
 by_cases h : b ≤ a <;> simp [h]
theorem rf_valid (r : S43) : calxref04_Valid.f FU r.f0 r.f1 = some (validP r):=by
 unfold calxref04_Valid.f validP
 rw [rf_in,rf_in]
 simp only [Option.bind_some,decide_eq_true_eq]
 by_cases h1 : 0 ≤ r.f0 ∧ r.f0 ≤ 68719476736
 ·rw [if_pos h1]
  by_cases h2 : 1 ≤ r.f1 ∧ r.f1 ≤ 16777216
  ·have e0 : mx r.f0 0 = r.f0:=by unfold mx;split <;> omega
   have e1 : mx r.f1 1 = r.f1:=by unfold mx;split <;> omega
   rw [if_pos h2,e0,e1,rf_divisor h1.1 (by omega) (by omega)]
   simp only [Option.bind_some]
   congr 1
   by_cases h3 : Int.gcd r.f0 r.f1 = 1
   ·simp [h1,h2,h3]
   ·simp only [h1,h2,h3,and_false,decide_false]
    have : (Int.gcd r.f0 r.f1 : Int) ≠ 1:=by omega
    simpa using this
  ·rw [if_neg h2]
   simp only [h2,false_and,and_false,decide_false]
 ·rw [if_neg h1]
  simp only [h1,false_and,decide_false]
theorem rf_made (r : S43) : calxref04_made.f FU r.f0 r.f1 = some ((resultP r).1.f0,(resultP r).1.f1,(resultP r).2):=by
 unfold calxref04_made.f resultP
 rw [rf_valid]
 simp only [Option.bind_some]
 cases validP r <;> rfl
theorem rf_ratio {n d : Int} (hn : 0 ≤ n) (hn2 : n < 9223372036854775808) (hd : 1 ≤ d) (hd2 : d < 9223372036854775808) : calxref04_ratio.f FU n d = some ((ratioP n d).f0,(ratioP n d).f1):=by
 unfold calxref04_ratio.f
 rw [rf_divisor hn (by omega) hd2]
 simp only [Option.bind_some]
 rw [if_neg (gcd_ne hd),div_range hn (by omega) hn2,div_range (by omega) (by omega) hd2]
 rfl
theorem rf_times {a : S43} (h : validP a = true) {n m : Int} (hn : 0 ≤ n) (hn2 : n ≤ 16384) (hm : 1 ≤ m) (hm2 : m ≤ 16384) :
  calxref04_times.f FU a.f0 a.f1 n m = some ((timesP a n m).f0,(timesP a n m).f1):=by
 obtain ⟨ha,h0,h1⟩:=validP_ok h
 have b1:=mul_bound ha.1 hn h0 hn2
 have b2:=mul_bound (show 0 ≤ a.f1 by have:=ha.2.1;omega) (show 0 ≤ m by omega) h1 hm2
 have b3:=mul_pos_ ha.2.1 hm
 unfold calxref04_times.f
 rw [wrap_in (n:=a.f0 * n) (by omega) (by omega),wrap_in (n:=a.f1 * m) (by omega) (by omega),rf_ratio b1.1 (by omega) b3 (by omega)]
 rfl
theorem rf_add {a b : S43} (hva : validP a = true) (hvb : validP b = true) :
  calxref04_add.f FU a.f0 a.f1 b.f0 b.f1 = some ((addP a b).f0,(addP a b).f1):=by
 obtain ⟨ha,h0,h1⟩:=validP_ok hva
 obtain ⟨hb,h2,h3⟩:=validP_ok hvb
 have ha1:=ha.2.1
 have hb1:=hb.2.1
 have ha0:=ha.1
 have hb0:=hb.1
 rw [← add_ref ha hb]
 unfold calxref04_add.f addR
 rw [rf_divisor (by omega) (by omega) (by omega)]
 simp only [Option.bind_some]
 have hg:=gcd_ne (a:=a.f1) hb1
 rw [if_neg hg,div_range (by omega) (by omega) (by omega),div_range (by omega) (by omega) (by omega)]
 obtain ⟨g,hgg⟩ : ∃ g : Int,g = (Int.gcd a.f1 b.f1 : Int):=⟨_,rfl⟩
 have hg0 : 1 ≤ g:=by rw [hgg];omega
 have hd1 : g ∣ a.f1:=by rw [hgg];exact Int.gcd_dvd_left _ _
 have hd2 : g ≤ b.f1:=by rw [hgg];exact Int.le_of_dvd (by omega) (Int.gcd_dvd_right _ _)
 rw [← hgg]
 have p1:=Int.ediv_nonneg (show 0 ≤ b.f1 by omega) (show 0 ≤ g by omega)
 have p2:=Int.ediv_le_self g (show 0 ≤ b.f1 by omega)
 have p3:=Int.ediv_nonneg (show 0 ≤ a.f1 by omega) (show 0 ≤ g by omega)
 have p4:=Int.ediv_le_self g (show 0 ≤ a.f1 by omega)
 have q1:=mul_bound ha0 p1 h0 (show b.f1 / g ≤ 16777216 by omega)
 have q2:=mul_bound hb0 p3 h2 (show a.f1 / g ≤ 16777216 by omega)
 rw [wrap_in (n:=a.f0 * (b.f1 / g)) (by omega) (by omega),wrap_in (n:=b.f0 * (a.f1 / g)) (by omega) (by omega),wrap_in (n:=a.f0 * (b.f1 / g) + b.f0 * (a.f1 / g)) (by omega) (by omega)]
 obtain ⟨s,hs⟩ : ∃ s : Int,s = a.f0 * (b.f1 / g) + b.f0 * (a.f1 / g):=⟨_,rfl⟩
 have hs0 : 0 ≤ s:=by omega
 have hs1 : s < 9223372036854775808:=by omega
 rw [← hs]
 rw [rf_divisor hs0 (by omega) (by omega)]
 simp only [Option.bind_some]
 have hg2:=gcd_ne (a:=s) hg0
 rw [if_neg hg2,div_range hs0 (by omega) hs1,div_range (by omega) (by omega) (by omega)]
 have p5:=Int.ediv_nonneg (show 0 ≤ b.f1 by omega) (show 0 ≤ (Int.gcd s g : Int) by omega)
 have p6:=Int.ediv_le_self (Int.gcd s g : Int) (show 0 ≤ b.f1 by omega)
 have q3:=mul_bound p3 p5 (show a.f1 / g ≤ 16777216 by omega) (show b.f1 / (Int.gcd s g : Int) ≤ 16777216 by omega)
 rw [wrap_in (n:=a.f1 / g * (b.f1 / (Int.gcd s g : Int))) (by omega) (by omega)]
theorem valid_prod {a b : S43} (hva : validP a = true) (hvb : validP b = true) : 0 ≤ a.f0 * b.f1 ∧ a.f0 * b.f1 < 9223372036854775808:=by
 obtain ⟨ha,h0,h1⟩:=validP_ok hva
 obtain ⟨hb,h2,h3⟩:=validP_ok hvb
 have:=mul_bound ha.1 (show 0 ≤ b.f1 by have:=hb.2.1;omega) h0 h3
 omega
theorem rf_order {a b : S43} (hva : validP a = true) (hvb : validP b = true) : calxref04_order.f a.f0 a.f1 b.f0 b.f1 = some (cmpP a b):=by
 have b1:=valid_prod hva hvb
 have b2:=valid_prod hvb hva
 unfold calxref04_order.f cmpP
 rw [wrap_in (n:=a.f0 * b.f1) (by omega) (by omega),wrap_in (n:=b.f0 * a.f1) (by omega) (by omega)]
 split
 ·rfl
 ·split <;> rfl
theorem cmp_valid {a b : S43} (hva : validP a = true) (hvb : validP b = true) : pit_compare.f a.f0 a.f1 b.f0 b.f1 = some (cmpP a b) :=
 compare_some (validP_ok hva).1 (validP_ok hvb).1 (valid_prod hva hvb).2 (valid_prod hvb hva).2
def AddP (a b : S43) : S43 × Int:=if (validP a && validP b) = true then resultP (addP a b) else (⟨0,0⟩,1)
def TimesP (a : S43) (n m : Int) : S43 × Int:=if (validP a && (decide (0 ≤ n ∧ n ≤ 16384) && decide (1 ≤ m ∧ m ≤ 16384))) = true then resultP (timesP a n m) else (⟨0,0⟩,1)
def CompareP (a b : S43) : Int × Int:=if (validP a && validP b) = true then (cmpP a b,0) else (0,1)
theorem AddP_prog (a b : S43) : pit_Add.f (FU + 1) a.f0 a.f1 b.f0 b.f1 = some ((AddP a b).1.f0,(AddP a b).1.f1,(AddP a b).2):=by
 unfold pit_Add.f AddP
 rw [pit_valid.mono _ _ _ _ (valid_some a),pit_valid.mono _ _ _ _ (valid_some b)]
 simp only [Option.bind_some,pit_Add.j0]
 cases ha : validP a
 ·rfl
 cases hb : validP b
 ·rfl
 simp only [Bool.not_true,Bool.false_eq_true,if_true,if_false,Bool.and_true,add_valid ha hb,Option.bind_some,result_some]
theorem AddP_ref (a b : S43) : calxref04_Add.f (FU + 1) a.f0 a.f1 b.f0 b.f1 = some ((AddP a b).1.f0,(AddP a b).1.f1,(AddP a b).2):=by
 unfold calxref04_Add.f AddP
 rw [calxref04_Valid.mono _ _ _ _ (rf_valid a),calxref04_Valid.mono _ _ _ _ (rf_valid b)]
 simp only [Option.bind_some,calxref04_Add.j0]
 cases ha : validP a
 ·rfl
 cases hb : validP b
 ·rfl
 simp only [Bool.not_true,Bool.false_eq_true,if_true,if_false,Bool.and_true,rf_add ha hb,Option.bind_some,rf_made]
theorem TimesP_prog (a : S43) (n m : Int) : pit_Times.f (FU + 1) a.f0 a.f1 n m = some ((TimesP a n m).1.f0,(TimesP a n m).1.f1,(TimesP a n m).2):=by
 unfold pit_Times.f TimesP
 rw [pit_valid.mono _ _ _ _ (valid_some a)]
 simp only [Option.bind_some,pit_Times.j0,within_some]
 cases ha : validP a
 ·rfl
 by_cases hn : 0 ≤ n ∧ n ≤ 16384
 ·by_cases hm : 1 ≤ m ∧ m ≤ 16384
  ·simp only [hn,hm,and_self,decide_true,Bool.not_true,Bool.false_eq_true,if_true,if_false,Bool.and_true,times_valid ha hn.1 hn.2 hm.1 hm.2,Option.bind_some,result_some]
  ·simp only [hn,hm,and_self,decide_true,decide_false,Bool.not_false,Bool.false_eq_true,if_true,if_false,Bool.and_false]
 ·simp only [hn,decide_false,Bool.false_eq_true,if_true,if_false,Bool.and_false,Bool.false_and]
theorem TimesP_ref (a : S43) (n m : Int) : calxref04_Times.f (FU + 1) a.f0 a.f1 n m = some ((TimesP a n m).1.f0,(TimesP a n m).1.f1,(TimesP a n m).2):=by
 unfold calxref04_Times.f TimesP
 rw [calxref04_Valid.mono _ _ _ _ (rf_valid a)]
 simp only [Option.bind_some,calxref04_Times.j0,rf_in]
 cases ha : validP a
 ·rfl
 by_cases hn : 0 ≤ n ∧ n ≤ 16384
 ·by_cases hm : 1 ≤ m ∧ m ≤ 16384
  ·simp only [hn,hm,and_self,decide_true,Bool.not_true,Bool.false_eq_true,if_true,if_false,Bool.and_true,rf_times ha hn.1 hn.2 hm.1 hm.2,Option.bind_some,rf_made]
  ·simp only [hn,hm,and_self,decide_true,decide_false,Bool.not_false,Bool.false_eq_true,if_true,if_false,Bool.and_false]
 ·simp only [hn,decide_false,Bool.false_eq_true,if_true,if_false,Bool.and_false,Bool.false_and]
theorem CompareP_prog (a b : S43) : pit_Compare.f (FU + 1) a.f0 a.f1 b.f0 b.f1 = some ((CompareP a b).1,(CompareP a b).2):=by
 unfold pit_Compare.f CompareP
 rw [pit_valid.mono _ _ _ _ (valid_some a),pit_valid.mono _ _ _ _ (valid_some b)]
 simp only [Option.bind_some]
 cases ha : validP a
 ·rfl
 cases hb : validP b
 ·rfl
 simp only [if_true,Bool.and_true,cmp_valid ha hb,Option.bind_some]
theorem CompareP_ref (a b : S43) : calxref04_Compare.f (FU + 1) a.f0 a.f1 b.f0 b.f1 = some ((CompareP a b).1,(CompareP a b).2):=by
 unfold calxref04_Compare.f CompareP
 rw [calxref04_Valid.mono _ _ _ _ (rf_valid a),calxref04_Valid.mono _ _ _ _ (rf_valid b)]
 simp only [Option.bind_some]
 cases ha : validP a
 ·rfl
 cases hb : validP b
 ·rfl
 simp only [if_true,Bool.and_true,rf_order ha hb,Option.bind_some]
theorem purePitFractions (a b : S43) (n m : Int) : ∃ k,calxlaw04_PitFractions.f k a.f0 a.f1 b.f0 b.f1 n m = some true:=by
 refine ⟨FU + 1,?_⟩
 unfold calxlaw04_PitFractions.f calxlaw04_sanity.f
 rw [AddP_prog,AddP_ref,TimesP_prog,TimesP_ref,CompareP_prog,CompareP_ref]
 simp only [Option.bind_some,beq_self_eq_true,Bool.and_self,if_true]
end Go.Proofs.YtjjfpmapjjemcaaGreat.B
end
