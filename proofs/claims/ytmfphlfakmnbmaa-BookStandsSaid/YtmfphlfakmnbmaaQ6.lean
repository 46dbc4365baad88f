import Derived.Test.YtmfphlfakmnbmaaQ1
import Derived.Test.YtmfphlfakmnbmaaQ2
import Derived.Test.YtmfphlfakmnbmaaQ3
import Derived.Test.YtmfphlfakmnbmaaQ4
import Derived.Test.YtmfphlfakmnbmaaQ5
set_option linter.unusedVariables false
set_option linter.unusedSimpArgs false
section
namespace Go.Proofs.Ytmfphlfakmnbmaa.B
open Go.RowKit Go.Proofs.YtmfphlfakmnbmaaW.PrintWords Go.Proofs.YtmfphlfakmnbmaaW.PrintLast Go.Proofs.YtmfphlfakmnbmaaW.PrintMore
attribute [local go_sem] max2_int min2_int max_two min_two max_three min_three max_four min_four
def calxref08_CheckStands.j0 : Nat → Int → Int → Int → List (S129) → Bool → Int → Int → Int → Int → Option (Int)
|0,_,_,_,_,_,_,_,_,_ => none
|k + 1,x0,x1,x2,x4,x46,x102000,x102001,x102002,x102003 => if x46 = true then (some 1) else ((calxref08_beside.f k ([] : List (S29)) 0 x1 x2).bind fun t107 => ((calxref08_shaped.f k x4 t107).bind fun t110 => (if t110 = true then ((calxref08_leaf.f k x102000 x102001 x102002 x102003).bind fun t111 => ((calxref08_top.f k x4 x2 t111).bind fun t112 => (if t112 = x0 then (some 0) else (some 8)))) else (some 8))))
def calxref08_CheckStands.f (k : Nat) (a0 : Int) (a1 : Int) (a2 : Int) (a3_0 : Int) (a3_1 : Int) (a3_2 : Int) (a3_3 : Int) (l4 : List (S129)) : Option (Int):=(calxref08_Entry.f a3_0 a3_1 a3_2 a3_3).bind fun t102 => ((calxref08_within.f a1 1 64).bind fun t103 => ((calxref08_within.f a2 0 (wrap64 (a1 - 1))).bind fun t104 => ((calxref08_isDigest.f a0).bind fun t105 => ((calxref08_twigged.f k l4).bind fun t106 => (if t102 = true then (if t103 = true then (if t104 = true then (if t105 = true then (calxref08_CheckStands.j0 k a0 a1 a2 l4 (!t106) a3_0 a3_1 a3_2 a3_3) else (calxref08_CheckStands.j0 k a0 a1 a2 l4 true a3_0 a3_1 a3_2 a3_3)) else (calxref08_CheckStands.j0 k a0 a1 a2 l4 true a3_0 a3_1 a3_2 a3_3)) else (calxref08_CheckStands.j0 k a0 a1 a2 l4 true a3_0 a3_1 a3_2 a3_3)) else (calxref08_CheckStands.j0 k a0 a1 a2 l4 true a3_0 a3_1 a3_2 a3_3))))))
theorem calxref08_CheckStands.mono_l : ∀ k,(∀ y0 y1 y2 y3 y4 y5 y6 y7 y8,LeO (calxref08_CheckStands.j0 k y0 y1 y2 y3 y4 y5 y6 y7 y8) (calxref08_CheckStands.j0 (k + 1) y0 y1 y2 y3 y4 y5 y6 y7 y8))
|0 => fun _ _ _ _ _ _ _ _ _ r h => by simp [calxref08_CheckStands.j0] at h
|k + 1 => by
  have ih0:=calxref08_CheckStands.mono_l k
  ·intro y0 y1 y2 y3 y4 y5 y6 y7 y8
   unfold calxref08_CheckStands.j0
   repeat' first
  |(with_reducible exact ih0 _ _ _ _ _ _ _ _ _)
  |(with_reducible exact calxref08_beside.mono _ _ _ _ _)
  |(with_reducible exact calxref08_leaf.mono _ _ _ _ _)
  |(with_reducible exact calxref08_shaped.mono _ _ _)
  |(with_reducible exact calxref08_top.mono _ _ _ _)
  |(with_reducible exact calxref08_twigged.mono _ _)
  |(with_reducible exact LeO.refl _)
  |(with_reducible exact LeO.none _)
  |(with_reducible refine LeO.ite ?_ ?_)
  |(with_reducible refine LeO.bind ?_ (fun _ => ?_))
  |exact ih0 _ _ _ _ _ _ _ _ _
  |exact calxref08_beside.mono _ _ _ _ _
  |exact calxref08_leaf.mono _ _ _ _ _
  |exact calxref08_shaped.mono _ _ _
  |exact calxref08_top.mono _ _ _ _
  |exact calxref08_twigged.mono _ _
  |exact LeO.none _
  |refine LeO.ite ?_ ?_
  |refine LeO.bind ?_ (fun _ => ?_)
theorem calxref08_CheckStands.mono : ∀ a0 a1 a2 a3 a4 a5 a6 a7 k,LeO (calxref08_CheckStands.f k a0 a1 a2 a3 a4 a5 a6 a7) (calxref08_CheckStands.f (k + 1) a0 a1 a2 a3 a4 a5 a6 a7):=by
 intro a0 a1 a2 a3 a4 a5 a6 a7 k
 have ih0:=calxref08_CheckStands.mono_l k
 unfold calxref08_CheckStands.f
 repeat' first
  |(with_reducible exact ih0 _ _ _ _ _ _ _ _ _)
  |(with_reducible exact calxref08_beside.mono _ _ _ _ _)
  |(with_reducible exact calxref08_leaf.mono _ _ _ _ _)
  |(with_reducible exact calxref08_shaped.mono _ _ _)
  |(with_reducible exact calxref08_top.mono _ _ _ _)
  |(with_reducible exact calxref08_twigged.mono _ _)
  |(with_reducible exact LeO.refl _)
  |(with_reducible exact LeO.none _)
  |(with_reducible refine LeO.ite ?_ ?_)
  |(with_reducible refine LeO.bind ?_ (fun _ => ?_))
  |exact ih0 _ _ _ _ _ _ _ _ _
  |exact calxref08_beside.mono _ _ _ _ _
  |exact calxref08_leaf.mono _ _ _ _ _
  |exact calxref08_shaped.mono _ _ _
  |exact calxref08_top.mono _ _ _ _
  |exact calxref08_twigged.mono _ _
  |exact LeO.none _
  |refine LeO.ite ?_ ?_
  |refine LeO.bind ?_ (fun _ => ?_)
set_option maxHeartbeats 8000000 in
set_option maxRecDepth 100000 in
theorem calxref08_CheckStands.calls (k : Nat) (a0 : Int) (a1 : Int) (a2 : Int) (a3_0 : Int) (a3_1 : Int) (a3_2 : Int) (a3_3 : Int) (A4 : Option Addr) (c4 : Nat) (l4 : List (S129)) (r : Int) (w : World) (hr4 : Kd.C k129 w A4 l4.length l4) (hc4 : l4.length ≤ c4) (h : calxref08_CheckStands.f k a0 a1 a2 a3_0 a3_1 a3_2 a3_3 l4 = some r) :
  Calls Try.prog 75 #[.int .i64 a0,.int .i64 a1,.int .i64 a2,.agg #[.int .i64 a3_0,.int .i64 a3_1,.int .i64 a3_2,.int .i64 a3_3],.slice A4 l4.length c4] w fun e w' => e = .returned (.int .i64 r) ∧ Below w.heap.size w w':=by
 have hu29:=Try.underlying29
 have HR4:=am hr4
 have HC4:=am hc4
 clear hr4 hc4
 have HB:=am (Below.refl w.heap.size w)
 have H : ((calxref08_Entry.f a3_0 a3_1 a3_2 a3_3).bind fun t102 => ((calxref08_within.f a1 1 64).bind fun t103 => ((calxref08_within.f a2 0 (wrap64 (a1 - 1))).bind fun t104 => ((calxref08_isDigest.f a0).bind fun t105 => ((calxref08_twigged.f k l4).bind fun t106 => (if t102 = true then (if t103 = true then (if t104 = true then (if t105 = true then (calxref08_CheckStands.j0 k a0 a1 a2 l4 (!t106) a3_0 a3_1 a3_2 a3_3) else (calxref08_CheckStands.j0 k a0 a1 a2 l4 true a3_0 a3_1 a3_2 a3_3)) else (calxref08_CheckStands.j0 k a0 a1 a2 l4 true a3_0 a3_1 a3_2 a3_3)) else (calxref08_CheckStands.j0 k a0 a1 a2 l4 true a3_0 a3_1 a3_2 a3_3)) else (calxref08_CheckStands.j0 k a0 a1 a2 l4 true a3_0 a3_1 a3_2 a3_3))))))) = some r:=h
 clear h
 replace H:=Option.bind_eq_some_iff.mp H
 obtain ⟨t102,A60,H⟩:=H
 replace H : ((calxref08_within.f a1 1 64).bind fun t103 => ((calxref08_within.f a2 0 (wrap64 (a1 - 1))).bind fun t104 => ((calxref08_isDigest.f a0).bind fun t105 => ((calxref08_twigged.f k l4).bind fun t106 => (if t102 = true then (if t103 = true then (if t104 = true then (if t105 = true then (calxref08_CheckStands.j0 k a0 a1 a2 l4 (!t106) a3_0 a3_1 a3_2 a3_3) else (calxref08_CheckStands.j0 k a0 a1 a2 l4 true a3_0 a3_1 a3_2 a3_3)) else (calxref08_CheckStands.j0 k a0 a1 a2 l4 true a3_0 a3_1 a3_2 a3_3)) else (calxref08_CheckStands.j0 k a0 a1 a2 l4 true a3_0 a3_1 a3_2 a3_3)) else (calxref08_CheckStands.j0 k a0 a1 a2 l4 true a3_0 a3_1 a3_2 a3_3)))))) = some r:=H
 have A6:=am A60
 clear A60
 replace H:=Option.bind_eq_some_iff.mp H
 obtain ⟨t103,A70,H⟩:=H
 replace H : ((calxref08_within.f a2 0 (wrap64 (a1 - 1))).bind fun t104 => ((calxref08_isDigest.f a0).bind fun t105 => ((calxref08_twigged.f k l4).bind fun t106 => (if t102 = true then (if t103 = true then (if t104 = true then (if t105 = true then (calxref08_CheckStands.j0 k a0 a1 a2 l4 (!t106) a3_0 a3_1 a3_2 a3_3) else (calxref08_CheckStands.j0 k a0 a1 a2 l4 true a3_0 a3_1 a3_2 a3_3)) else (calxref08_CheckStands.j0 k a0 a1 a2 l4 true a3_0 a3_1 a3_2 a3_3)) else (calxref08_CheckStands.j0 k a0 a1 a2 l4 true a3_0 a3_1 a3_2 a3_3)) else (calxref08_CheckStands.j0 k a0 a1 a2 l4 true a3_0 a3_1 a3_2 a3_3))))) = some r:=H
 have A7:=am A70
 clear A70
 replace H:=Option.bind_eq_some_iff.mp H
 obtain ⟨t104,A80,H⟩:=H
 replace H : ((calxref08_isDigest.f a0).bind fun t105 => ((calxref08_twigged.f k l4).bind fun t106 => (if t102 = true then (if t103 = true then (if t104 = true then (if t105 = true then (calxref08_CheckStands.j0 k a0 a1 a2 l4 (!t106) a3_0 a3_1 a3_2 a3_3) else (calxref08_CheckStands.j0 k a0 a1 a2 l4 true a3_0 a3_1 a3_2 a3_3)) else (calxref08_CheckStands.j0 k a0 a1 a2 l4 true a3_0 a3_1 a3_2 a3_3)) else (calxref08_CheckStands.j0 k a0 a1 a2 l4 true a3_0 a3_1 a3_2 a3_3)) else (calxref08_CheckStands.j0 k a0 a1 a2 l4 true a3_0 a3_1 a3_2 a3_3)))) = some r:=H
 have A8:=am A80
 clear A80
 replace H:=Option.bind_eq_some_iff.mp H
 obtain ⟨t105,A90,H⟩:=H
 replace H : ((calxref08_twigged.f k l4).bind fun t106 => (if t102 = true then (if t103 = true then (if t104 = true then (if t105 = true then (calxref08_CheckStands.j0 k a0 a1 a2 l4 (!t106) a3_0 a3_1 a3_2 a3_3) else (calxref08_CheckStands.j0 k a0 a1 a2 l4 true a3_0 a3_1 a3_2 a3_3)) else (calxref08_CheckStands.j0 k a0 a1 a2 l4 true a3_0 a3_1 a3_2 a3_3)) else (calxref08_CheckStands.j0 k a0 a1 a2 l4 true a3_0 a3_1 a3_2 a3_3)) else (calxref08_CheckStands.j0 k a0 a1 a2 l4 true a3_0 a3_1 a3_2 a3_3))) = some r:=H
 have A9:=am A90
 clear A90
 replace H:=Option.bind_eq_some_iff.mp H
 obtain ⟨t106,A100,H⟩:=H
 replace H : (if t102 = true then (if t103 = true then (if t104 = true then (if t105 = true then (calxref08_CheckStands.j0 k a0 a1 a2 l4 (!t106) a3_0 a3_1 a3_2 a3_3) else (calxref08_CheckStands.j0 k a0 a1 a2 l4 true a3_0 a3_1 a3_2 a3_3)) else (calxref08_CheckStands.j0 k a0 a1 a2 l4 true a3_0 a3_1 a3_2 a3_3)) else (calxref08_CheckStands.j0 k a0 a1 a2 l4 true a3_0 a3_1 a3_2 a3_3)) else (calxref08_CheckStands.j0 k a0 a1 a2 l4 true a3_0 a3_1 a3_2 a3_3)) = some r:=H
 have A10:=am A100
 clear A100
 have HC11:=am H
 clear H
 go_enter Try.func75,Try.ntmps75
 go_upto_region 6 with (first|((with_reducible refine gate_dst (N:=8) rfl ?_);refine box_event ?hg (N:=8) ?hd (cs:=#[.int .i64 a3_0,.int .i64 a3_1,.int .i64 a3_2,.int .i64 a3_3]) (t:=29) ?hr ?_;(case hd => rfl);(case hg => rfl);(case hr => first|(go_simp;done)|(go_simp;rfl));intro gb101 hg w12 hbox hb;have n0_:=am (below_step (v0 HB.out) hb);have n1_:=am (hbox);have n2_:=am ((by rw [hg];exact (below_size (v0 HB.out)) : w.heap.size ≤ gb101));have n3_:=am ((by rw [hg];exact (below_size (v0 HB.out)) : w.heap.size ≤ gb101));clear HB;have HB:=n0_;have BK101:=n1_;have GW101:=n2_;have GE101:=n3_;clear n0_ n1_ n2_ n3_;clear hb hbox hg;have hcz13_0 : w12.cell? ⟨gb101,0,none⟩ = some (.int .i64 a3_0):=(blk_cell BK101.out 0).trans rfl;have hcz13_1 : w12.cell? ⟨gb101,1,none⟩ = some (.int .i64 a3_1):=(blk_cell BK101.out 1).trans rfl;have hcz13_2 : w12.cell? ⟨gb101,2,none⟩ = some (.int .i64 a3_2):=(blk_cell BK101.out 2).trans rfl;have hcz13_3 : w12.cell? ⟨gb101,3,none⟩ = some (.int .i64 a3_3):=(blk_cell BK101.out 3).trans rfl;have hfz13_0:=blk_frozen BK101.out 0;have hfz13_1:=blk_frozen BK101.out 1;have hfz13_2:=blk_frozen BK101.out 2;have hfz13_3:=blk_frozen BK101.out 3)|((with_reducible refine gate_callee (f:=101) rfl ?_);refine goesL_ (some 18) rfl rfl Try.func101 kr rfl #[.agg #[.int .i64 a3_0,.int .i64 a3_1,.int .i64 a3_2,.int .i64 a3_3]] rfl (by (try simp only [List.map_toArray,List.map_cons,List.map_nil]);first|done|rfl|(simp only [List.length_drop,List.length_take];rfl)) ?_;(with_reducible refine (calxref08_Entry.calls a3_0 a3_1 a3_2 a3_3 t102 _ A6.out).mono ?_);rintro e w14 ⟨rfl,hb⟩;refine ⟨_,rfl,?_⟩;have n0_:=am (blk_below (g:=gb101) (o:=.cells #[.int .i64 a3_0,.int .i64 a3_1,.int .i64 a3_2,.int .i64 a3_3] 29 (0,0)) (vb BK101.out) hb);have n1_:=am (below_step (v1 HB.out GE101.out) hb);clear BK101;clear HB;have BK101:=n0_;have HB:=n1_;clear n0_ n1_;(try clear hb);(try clear hb2);(try clear hk);(try clear hi))|((with_reducible refine gate_callee (f:=103) rfl ?_);refine goesL_ (some 20) rfl rfl Try.func103 kr rfl #[.int .i64 a1,.int .i64 1,.int .i64 64] rfl (by (try simp only [List.map_toArray,List.map_cons,List.map_nil]);first|done|rfl|(simp only [List.length_drop,List.length_take];rfl)) ?_;(with_reducible refine (calxref08_within.calls a1 1 64 t103 _ A7.out).mono ?_);rintro e w' ⟨rfl,⟨nd,rfl⟩⟩;refine ⟨_,rfl,?_⟩)|((with_reducible refine gate_callee (f:=103) rfl ?_);refine goesL_ (some 24) rfl rfl Try.func103 kr rfl #[.int .i64 a2,.int .i64 0,.int .i64 (wrap64 (a1 - 1))] rfl (by (try simp only [List.map_toArray,List.map_cons,List.map_nil]);first|done|rfl|(simp only [List.length_drop,List.length_take];rfl)) ?_;(with_reducible refine (calxref08_within.calls a2 0 (wrap64 (a1 - 1)) t104 _ A8.out).mono ?_);rintro e w' ⟨rfl,⟨nd,rfl⟩⟩;refine ⟨_,rfl,?_⟩)|((with_reducible refine gate_callee (f:=104) rfl ?_);refine goesL_ (some 26) rfl rfl Try.func104 kr rfl #[.int .i64 a0] rfl (by (try simp only [List.map_toArray,List.map_cons,List.map_nil]);first|done|rfl|(simp only [List.length_drop,List.length_take];rfl)) ?_;(with_reducible refine (calxref08_isDigest.calls a0 t105 _ A9.out).mono ?_);rintro e w' ⟨rfl,⟨nd,rfl⟩⟩;refine ⟨_,rfl,?_⟩)|((with_reducible refine gate_callee (f:=138) rfl ?_);refine goesL_ (some 28) rfl rfl Try.func138 kr rfl #[.slice A4 l4.length c4] rfl (by (try simp only [List.map_toArray,List.map_cons,List.map_nil]);first|done|rfl|(simp only [List.length_drop,List.length_take];rfl)) ?_;(with_reducible refine (calxref08_twigged.calls k _ _ l4 t106 _ ?side1 ?side2 A10.out).mono ?_);(case side1 => repeat (first|exact (Kd.C_below HR4.out (v1 HB.out GE101.out))|(with_reducible refine Kd.C_alloc ?_ _)|(with_reducible refine Kd.C_drewN ?_ _)|(with_reducible refine Kd.C_drew ?_)));(case side2 => exact HC4.out);rintro e w' ⟨rfl,⟨nd,rfl⟩⟩;refine ⟨_,rfl,?_⟩))
 (try simp only [Act.put,List.setIfInBounds_toArray,List.set_cons_zero,List.set_cons_succ])
 go_cut [46] (fun v46 wc => ∃ (kq : Nat) (x46_10 : Bool),v46 = .bool x46_10 ∧ Aside0 (calxref08_CheckStands.j0 kq a0 a1 a2 l4 x46_10 a3_0 a3_1 a3_2 a3_3 = some r) ∧ Aside0 (kq ≤ k) ∧ Aside0 (wc.heap[gb101]? = some (.cells #[.int .i64 a3_0,.int .i64 a3_1,.int .i64 a3_2,.int .i64 a3_3] 29 (0,0))) ∧ Aside0 (Below w.heap.size w wc))
 case first =>
  have H:=HC11.out
  clear HC11
  by_cases c15 : t102 = true
  ·subst c15
   have H1 : (if t103 = true then (if t104 = true then (if t105 = true then (calxref08_CheckStands.j0 k a0 a1 a2 l4 (!t106) a3_0 a3_1 a3_2 a3_3) else (calxref08_CheckStands.j0 k a0 a1 a2 l4 true a3_0 a3_1 a3_2 a3_3)) else (calxref08_CheckStands.j0 k a0 a1 a2 l4 true a3_0 a3_1 a3_2 a3_3)) else (calxref08_CheckStands.j0 k a0 a1 a2 l4 true a3_0 a3_1 a3_2 a3_3)) = some r:=by rw [if_pos rfl] at H;exact H
   clear H
   have H:=H1
   clear H1
   by_cases c16 : t103 = true
   ·subst c16
    have H1 : (if t104 = true then (if t105 = true then (calxref08_CheckStands.j0 k a0 a1 a2 l4 (!t106) a3_0 a3_1 a3_2 a3_3) else (calxref08_CheckStands.j0 k a0 a1 a2 l4 true a3_0 a3_1 a3_2 a3_3)) else (calxref08_CheckStands.j0 k a0 a1 a2 l4 true a3_0 a3_1 a3_2 a3_3)) = some r:=by rw [if_pos rfl] at H;exact H
    clear H
    have H:=H1
    clear H1
    by_cases c17 : t104 = true
    ·subst c17
     have H1 : (if t105 = true then (calxref08_CheckStands.j0 k a0 a1 a2 l4 (!t106) a3_0 a3_1 a3_2 a3_3) else (calxref08_CheckStands.j0 k a0 a1 a2 l4 true a3_0 a3_1 a3_2 a3_3)) = some r:=by rw [if_pos rfl] at H;exact H
     clear H
     have H:=H1
     clear H1
     by_cases c18 : t105 = true
     ·subst c18
      have H1 : (calxref08_CheckStands.j0 k a0 a1 a2 l4 (!t106) a3_0 a3_1 a3_2 a3_3) = some r:=by rw [if_pos rfl] at H;exact H
      clear H
      have H:=H1
      clear H1
      have H':=am H
      clear H
      go_wp2
      go_meet
      case rel => exact ⟨_,(!t106),ve,H',⟨by first|omega|exact Nat.le_refl _⟩,⟨vb BK101.out⟩,⟨v1 HB.out GE101.out⟩⟩
     ·replace c18:=Bool.eq_false_iff.mpr c18
      subst c18
      have H1 : (calxref08_CheckStands.j0 k a0 a1 a2 l4 true a3_0 a3_1 a3_2 a3_3) = some r:=by rw [if_neg (show ¬ (false = true) by decide)] at H;exact H
      clear H
      have H:=H1
      clear H1
      have H':=am H
      clear H
      go_wp2
      go_meet
      case rel => exact ⟨_,(true),ve,H',⟨by first|omega|exact Nat.le_refl _⟩,⟨vb BK101.out⟩,⟨v1 HB.out GE101.out⟩⟩
    ·replace c17:=Bool.eq_false_iff.mpr c17
     subst c17
     have H1 : (calxref08_CheckStands.j0 k a0 a1 a2 l4 true a3_0 a3_1 a3_2 a3_3) = some r:=by rw [if_neg (show ¬ (false = true) by decide)] at H;exact H
     clear H
     have H:=H1
     clear H1
     have H':=am H
     clear H
     go_wp2
     go_meet
     case rel => exact ⟨_,(true),ve,H',⟨by first|omega|exact Nat.le_refl _⟩,⟨vb BK101.out⟩,⟨v1 HB.out GE101.out⟩⟩
   ·replace c16:=Bool.eq_false_iff.mpr c16
    subst c16
    have H1 : (calxref08_CheckStands.j0 k a0 a1 a2 l4 true a3_0 a3_1 a3_2 a3_3) = some r:=by rw [if_neg (show ¬ (false = true) by decide)] at H;exact H
    clear H
    have H:=H1
    clear H1
    have H':=am H
    clear H
    go_wp2
    go_meet
    case rel => exact ⟨_,(true),ve,H',⟨by first|omega|exact Nat.le_refl _⟩,⟨vb BK101.out⟩,⟨v1 HB.out GE101.out⟩⟩
  ·replace c15:=Bool.eq_false_iff.mpr c15
   subst c15
   have H1 : (calxref08_CheckStands.j0 k a0 a1 a2 l4 true a3_0 a3_1 a3_2 a3_3) = some r:=by rw [if_neg (show ¬ (false = true) by decide)] at H;exact H
   clear H
   have H:=H1
   clear H1
   have H':=am H
   clear H
   go_wp2
   go_meet
   case rel => exact ⟨_,(true),ve,H',⟨by first|omega|exact Nat.le_refl _⟩,⟨vb BK101.out⟩,⟨v1 HB.out GE101.out⟩⟩
 case rest =>
  clear HC11
  try clear c1
  try clear p2
  try clear c4
  try clear p6
  try clear c7
  try clear c10
  try clear c13
  try clear c15
  try clear c16
  try clear c17
  try clear c18
  try clear hcz13_0
  try clear hcz13_1
  try clear hcz13_2
  try clear hcz13_3
  try clear hfz13_0
  try clear hfz13_1
  try clear hfz13_2
  try clear hfz13_3
  obtain ⟨kq,x46_10,rfl,HA,HJ10,BK101,HB⟩:=hcut
  cases kq with
 |zero => exact absurd HA.out (by simp [calxref08_CheckStands.j0])
 |succ kj10 =>
   have H:=HA.out
   clear HA
   simp only [calxref08_CheckStands.j0] at H
   by_cases c19 : x46_10 = true
   ·subst c19
    have H1 : (some 1) = some r:=by rw [if_pos rfl] at H;exact H
    clear H
    have H:=H1
    clear H1
    obtain rfl:=Option.some.inj H
    go_wp2
    go_ret
    exact ⟨vf,v1 HB.out GE101.out⟩
   ·replace c19:=Bool.eq_false_iff.mpr c19
    subst c19
    have H1 : ((calxref08_beside.f kj10 ([] : List (S29)) 0 a1 a2).bind fun t107 => ((calxref08_shaped.f kj10 l4 t107).bind fun t110 => (if t110 = true then ((calxref08_leaf.f kj10 a3_0 a3_1 a3_2 a3_3).bind fun t111 => ((calxref08_top.f kj10 l4 a2 t111).bind fun t112 => (if t112 = a0 then (some 0) else (some 8)))) else (some 8)))) = some r:=by rw [if_neg (show ¬ (false = true) by decide)] at H;exact H
    clear H
    have H:=H1
    clear H1
    replace H:=Option.bind_eq_some_iff.mp H
    obtain ⟨t107,A200,H⟩:=H
    replace H : ((calxref08_shaped.f kj10 l4 t107).bind fun t110 => (if t110 = true then ((calxref08_leaf.f kj10 a3_0 a3_1 a3_2 a3_3).bind fun t111 => ((calxref08_top.f kj10 l4 a2 t111).bind fun t112 => (if t112 = a0 then (some 0) else (some 8)))) else (some 8))) = some r:=H
    have A20:=am A200
    clear A200
    replace H:=Option.bind_eq_some_iff.mp H
    obtain ⟨t110,A210,H⟩:=H
    replace H : (if t110 = true then ((calxref08_leaf.f kj10 a3_0 a3_1 a3_2 a3_3).bind fun t111 => ((calxref08_top.f kj10 l4 a2 t111).bind fun t112 => (if t112 = a0 then (some 0) else (some 8)))) else (some 8)) = some r:=H
    have A21:=am A210
    clear A210
    by_cases c22 : t110 = true
    ·subst c22
     have H1 : ((calxref08_leaf.f kj10 a3_0 a3_1 a3_2 a3_3).bind fun t111 => ((calxref08_top.f kj10 l4 a2 t111).bind fun t112 => (if t112 = a0 then (some 0) else (some 8)))) = some r:=by rw [if_pos rfl] at H;exact H
     clear H
     have H:=H1
     clear H1
     replace H:=Option.bind_eq_some_iff.mp H
     obtain ⟨t111,A230,H⟩:=H
     replace H : ((calxref08_top.f kj10 l4 a2 t111).bind fun t112 => (if t112 = a0 then (some 0) else (some 8))) = some r:=H
     have A23:=am A230
     clear A230
     replace H:=Option.bind_eq_some_iff.mp H
     obtain ⟨t112,A240,H⟩:=H
     replace H : (if t112 = a0 then (some 0) else (some 8)) = some r:=H
     have A24:=am A240
     clear A240
     by_cases c25 : t112 = a0
     ·rw [if_pos c25] at H
      have c25b0 : (t112 == a0) = true:=beq_iff_eq.mpr c25
      have c25b1 : (t112 != a0) = false:=bne_eq_false_iff_eq.mpr c25
      clear c25
      obtain rfl:=Option.some.inj H
      go_wp2_with (first|((with_reducible refine gate_callee (f:=134) rfl ?_);refine goesL_ (some 50) rfl rfl Try.func134 kr rfl #[.slice none 0 0,.int .i64 0,.int .i64 a1,.int .i64 a2] rfl (by (try simp only [List.map_toArray,List.map_cons,List.map_nil]);first|done|rfl|(simp only [List.length_drop,List.length_take];rfl)) ?_;(refine (calxref08_beside.calls kj10 _ _ ([] : List (S29)) 0 a1 a2 t107 _ ?side1 ?side2 A20.out).mono ?_);(case side1 => exact Kd.C_nil _ _);(case side2 => exact Nat.le_refl _);rintro e w26 ⟨v108,rfl,ho0,hb⟩;refine ⟨_,rfl,?_⟩;have n0_:=am (Kd.R_lower ho0 (below_size (v1 HB.out GE101.out)));have n1_:=am (blk_below (g:=gb101) (o:=.cells #[.int .i64 a3_0,.int .i64 a3_1,.int .i64 a3_2,.int .i64 a3_3] 29 (0,0)) (vb BK101.out) hb);have n2_:=am (below_step (v1 HB.out GE101.out) hb);clear BK101;clear HB;have HO109:=n0_;have BK101:=n1_;have HB:=n2_;clear n0_ n1_ n2_;(try clear hb);(try clear hb2);(try clear hk);(try clear hi);(try clear ho0);obtain ⟨Ao27,co27,eo27⟩:=Kd.R_slice HO109.out;subst eo27)|((with_reducible refine gate_callee (f:=139) rfl ?_);refine goesL_ (some 51) rfl rfl Try.func139 kr rfl #[.slice A4 l4.length c4,.slice Ao27 t107.length co27] rfl (by (try simp only [List.map_toArray,List.map_cons,List.map_nil]);first|done|rfl|(simp only [List.length_drop,List.length_take];rfl)) ?_;(with_reducible refine (calxref08_shaped.calls kj10 _ _ l4 _ _ t107 true _ ?side1 ?side2 ?side3 ?side4 A21.out).mono ?_);(case side1 => repeat (first|exact (Kd.C_below HR4.out HB.out)|(with_reducible refine Kd.C_alloc ?_ _)|(with_reducible refine Kd.C_drewN ?_ _)|(with_reducible refine Kd.C_drew ?_)));(case side2 => exact HC4.out);(case side3 => repeat (first|exact (Kd.R_reads' HO109.out).2.2|(with_reducible refine Kd.C_alloc ?_ _)|(with_reducible refine Kd.C_drewN ?_ _)|(with_reducible refine Kd.C_drew ?_)));(case side4 => exact (Kd.R_reads' HO109.out).2.1);rintro e w' ⟨rfl,⟨nd,rfl⟩⟩;refine ⟨_,rfl,?_⟩;have hcz28_0 : w26.cell? ⟨gb101,0,none⟩ = some (.int .i64 a3_0):=(blk_cell BK101.out 0).trans rfl;have hcz28_1 : w26.cell? ⟨gb101,1,none⟩ = some (.int .i64 a3_1):=(blk_cell BK101.out 1).trans rfl;have hcz28_2 : w26.cell? ⟨gb101,2,none⟩ = some (.int .i64 a3_2):=(blk_cell BK101.out 2).trans rfl;have hcz28_3 : w26.cell? ⟨gb101,3,none⟩ = some (.int .i64 a3_3):=(blk_cell BK101.out 3).trans rfl;have hfz28_0:=blk_frozen BK101.out 0;have hfz28_1:=blk_frozen BK101.out 1;have hfz28_2:=blk_frozen BK101.out 2;have hfz28_3:=blk_frozen BK101.out 3)|(go_at_call 102;(with_reducible refine (calxref08_leaf.calls kj10 a3_0 a3_1 a3_2 a3_3 t111 _ A23.out).mono ?_);rintro e w29 ⟨rfl,hb⟩;have n0_:=am (Kd.R_below (by (with_reducible repeat (first|apply Kd.R_alloc|apply Kd.R_drewN|apply Kd.R_drew));exact HO109.out) hb);have n1_:=am (blk_below (g:=gb101) (o:=.cells #[.int .i64 a3_0,.int .i64 a3_1,.int .i64 a3_2,.int .i64 a3_3] 29 (0,0)) (vb BK101.out) hb);have n2_:=am (below_step (v1 HB.out GE101.out) hb);clear HO109;clear BK101;clear HB;have HO109:=n0_;have BK101:=n1_;have HB:=n2_;clear n0_ n1_ n2_;(try clear hb);(try clear hb2);(try clear hk);(try clear hi))|(go_at_call 141;(with_reducible refine (calxref08_top.calls kj10 _ _ l4 a2 t111 t112 _ ?side1 ?side2 A24.out).mono ?_);(case side1 => repeat (first|exact (Kd.C_below HR4.out HB.out)|(with_reducible refine Kd.C_alloc ?_ _)|(with_reducible refine Kd.C_drewN ?_ _)|(with_reducible refine Kd.C_drew ?_)));(case side2 => exact HC4.out);rintro e w30 ⟨rfl,hb⟩;have n0_:=am (Kd.R_below (by (with_reducible repeat (first|apply Kd.R_alloc|apply Kd.R_drewN|apply Kd.R_drew));exact HO109.out) hb);have n1_:=am (blk_below (g:=gb101) (o:=.cells #[.int .i64 a3_0,.int .i64 a3_1,.int .i64 a3_2,.int .i64 a3_3] 29 (0,0)) (vb BK101.out) hb);have n2_:=am (below_step (v1 HB.out GE101.out) hb);clear HO109;clear BK101;clear HB;have HO109:=n0_;have BK101:=n1_;have HB:=n2_;clear n0_ n1_ n2_;(try clear hb);(try clear hb2);(try clear hk);(try clear hi)))
      go_ret
      exact ⟨vf,v1 HB.out GE101.out⟩
     ·rw [if_neg c25] at H
      have c25b0 : (t112 == a0) = false:=beq_eq_false_iff_ne.mpr c25
      have c25b1 : (t112 != a0) = true:=bne_iff_ne.mpr c25
      obtain rfl:=Option.some.inj H
      go_wp2_with (first|((with_reducible refine gate_callee (f:=134) rfl ?_);refine goesL_ (some 50) rfl rfl Try.func134 kr rfl #[.slice none 0 0,.int .i64 0,.int .i64 a1,.int .i64 a2] rfl (by (try simp only [List.map_toArray,List.map_cons,List.map_nil]);first|done|rfl|(simp only [List.length_drop,List.length_take];rfl)) ?_;(refine (calxref08_beside.calls kj10 _ _ ([] : List (S29)) 0 a1 a2 t107 _ ?side1 ?side2 A20.out).mono ?_);(case side1 => exact Kd.C_nil _ _);(case side2 => exact Nat.le_refl _);rintro e w31 ⟨v108,rfl,ho0,hb⟩;refine ⟨_,rfl,?_⟩;have n0_:=am (Kd.R_lower ho0 (below_size (v1 HB.out GE101.out)));have n1_:=am (blk_below (g:=gb101) (o:=.cells #[.int .i64 a3_0,.int .i64 a3_1,.int .i64 a3_2,.int .i64 a3_3] 29 (0,0)) (vb BK101.out) hb);have n2_:=am (below_step (v1 HB.out GE101.out) hb);clear BK101;clear HB;have HO109:=n0_;have BK101:=n1_;have HB:=n2_;clear n0_ n1_ n2_;(try clear hb);(try clear hb2);(try clear hk);(try clear hi);(try clear ho0);obtain ⟨Ao32,co32,eo32⟩:=Kd.R_slice HO109.out;subst eo32)|((with_reducible refine gate_callee (f:=139) rfl ?_);refine goesL_ (some 51) rfl rfl Try.func139 kr rfl #[.slice A4 l4.length c4,.slice Ao32 t107.length co32] rfl (by (try simp only [List.map_toArray,List.map_cons,List.map_nil]);first|done|rfl|(simp only [List.length_drop,List.length_take];rfl)) ?_;(with_reducible refine (calxref08_shaped.calls kj10 _ _ l4 _ _ t107 true _ ?side1 ?side2 ?side3 ?side4 A21.out).mono ?_);(case side1 => repeat (first|exact (Kd.C_below HR4.out HB.out)|(with_reducible refine Kd.C_alloc ?_ _)|(with_reducible refine Kd.C_drewN ?_ _)|(with_reducible refine Kd.C_drew ?_)));(case side2 => exact HC4.out);(case side3 => repeat (first|exact (Kd.R_reads' HO109.out).2.2|(with_reducible refine Kd.C_alloc ?_ _)|(with_reducible refine Kd.C_drewN ?_ _)|(with_reducible refine Kd.C_drew ?_)));(case side4 => exact (Kd.R_reads' HO109.out).2.1);rintro e w' ⟨rfl,⟨nd,rfl⟩⟩;refine ⟨_,rfl,?_⟩;have hcz33_0 : w31.cell? ⟨gb101,0,none⟩ = some (.int .i64 a3_0):=(blk_cell BK101.out 0).trans rfl;have hcz33_1 : w31.cell? ⟨gb101,1,none⟩ = some (.int .i64 a3_1):=(blk_cell BK101.out 1).trans rfl;have hcz33_2 : w31.cell? ⟨gb101,2,none⟩ = some (.int .i64 a3_2):=(blk_cell BK101.out 2).trans rfl;have hcz33_3 : w31.cell? ⟨gb101,3,none⟩ = some (.int .i64 a3_3):=(blk_cell BK101.out 3).trans rfl;have hfz33_0:=blk_frozen BK101.out 0;have hfz33_1:=blk_frozen BK101.out 1;have hfz33_2:=blk_frozen BK101.out 2;have hfz33_3:=blk_frozen BK101.out 3)|(go_at_call 102;(with_reducible refine (calxref08_leaf.calls kj10 a3_0 a3_1 a3_2 a3_3 t111 _ A23.out).mono ?_);rintro e w34 ⟨rfl,hb⟩;have n0_:=am (Kd.R_below (by (with_reducible repeat (first|apply Kd.R_alloc|apply Kd.R_drewN|apply Kd.R_drew));exact HO109.out) hb);have n1_:=am (blk_below (g:=gb101) (o:=.cells #[.int .i64 a3_0,.int .i64 a3_1,.int .i64 a3_2,.int .i64 a3_3] 29 (0,0)) (vb BK101.out) hb);have n2_:=am (below_step (v1 HB.out GE101.out) hb);clear HO109;clear BK101;clear HB;have HO109:=n0_;have BK101:=n1_;have HB:=n2_;clear n0_ n1_ n2_;(try clear hb);(try clear hb2);(try clear hk);(try clear hi))|(go_at_call 141;(with_reducible refine (calxref08_top.calls kj10 _ _ l4 a2 t111 t112 _ ?side1 ?side2 A24.out).mono ?_);(case side1 => repeat (first|exact (Kd.C_below HR4.out HB.out)|(with_reducible refine Kd.C_alloc ?_ _)|(with_reducible refine Kd.C_drewN ?_ _)|(with_reducible refine Kd.C_drew ?_)));(case side2 => exact HC4.out);rintro e w35 ⟨rfl,hb⟩;have n0_:=am (Kd.R_below (by (with_reducible repeat (first|apply Kd.R_alloc|apply Kd.R_drewN|apply Kd.R_drew));exact HO109.out) hb);have n1_:=am (blk_below (g:=gb101) (o:=.cells #[.int .i64 a3_0,.int .i64 a3_1,.int .i64 a3_2,.int .i64 a3_3] 29 (0,0)) (vb BK101.out) hb);have n2_:=am (below_step (v1 HB.out GE101.out) hb);clear HO109;clear BK101;clear HB;have HO109:=n0_;have BK101:=n1_;have HB:=n2_;clear n0_ n1_ n2_;(try clear hb);(try clear hb2);(try clear hk);(try clear hi)))
      go_ret
      exact ⟨vf,v1 HB.out GE101.out⟩
    ·replace c22:=Bool.eq_false_iff.mpr c22
     subst c22
     have H1 : (some 8) = some r:=by rw [if_neg (show ¬ (false = true) by decide)] at H;exact H
     clear H
     have H:=H1
     clear H1
     obtain rfl:=Option.some.inj H
     go_wp2_with (first|((with_reducible refine gate_callee (f:=134) rfl ?_);refine goesL_ (some 50) rfl rfl Try.func134 kr rfl #[.slice none 0 0,.int .i64 0,.int .i64 a1,.int .i64 a2] rfl (by (try simp only [List.map_toArray,List.map_cons,List.map_nil]);first|done|rfl|(simp only [List.length_drop,List.length_take];rfl)) ?_;(refine (calxref08_beside.calls kj10 _ _ ([] : List (S29)) 0 a1 a2 t107 _ ?side1 ?side2 A20.out).mono ?_);(case side1 => exact Kd.C_nil _ _);(case side2 => exact Nat.le_refl _);rintro e w36 ⟨v108,rfl,ho0,hb⟩;refine ⟨_,rfl,?_⟩;have n0_:=am (Kd.R_lower ho0 (below_size (v1 HB.out GE101.out)));have n1_:=am (blk_below (g:=gb101) (o:=.cells #[.int .i64 a3_0,.int .i64 a3_1,.int .i64 a3_2,.int .i64 a3_3] 29 (0,0)) (vb BK101.out) hb);have n2_:=am (below_step (v1 HB.out GE101.out) hb);clear BK101;clear HB;have HO109:=n0_;have BK101:=n1_;have HB:=n2_;clear n0_ n1_ n2_;(try clear hb);(try clear hb2);(try clear hk);(try clear hi);(try clear ho0);obtain ⟨Ao37,co37,eo37⟩:=Kd.R_slice HO109.out;subst eo37)|((with_reducible refine gate_callee (f:=139) rfl ?_);refine goesL_ (some 51) rfl rfl Try.func139 kr rfl #[.slice A4 l4.length c4,.slice Ao37 t107.length co37] rfl (by (try simp only [List.map_toArray,List.map_cons,List.map_nil]);first|done|rfl|(simp only [List.length_drop,List.length_take];rfl)) ?_;(with_reducible refine (calxref08_shaped.calls kj10 _ _ l4 _ _ t107 false _ ?side1 ?side2 ?side3 ?side4 A21.out).mono ?_);(case side1 => repeat (first|exact (Kd.C_below HR4.out HB.out)|(with_reducible refine Kd.C_alloc ?_ _)|(with_reducible refine Kd.C_drewN ?_ _)|(with_reducible refine Kd.C_drew ?_)));(case side2 => exact HC4.out);(case side3 => repeat (first|exact (Kd.R_reads' HO109.out).2.2|(with_reducible refine Kd.C_alloc ?_ _)|(with_reducible refine Kd.C_drewN ?_ _)|(with_reducible refine Kd.C_drew ?_)));(case side4 => exact (Kd.R_reads' HO109.out).2.1);rintro e w' ⟨rfl,⟨nd,rfl⟩⟩;refine ⟨_,rfl,?_⟩))
     go_ret
     exact ⟨vf,v1 HB.out GE101.out⟩
def calxref08_Stands.f (k : Nat) (l0 : List (S29)) (a1 : Int) : Option ((List (S129)) × Int):=(calxref08_Check.f k l0).bind fun t102 => (if t102 = 0 then ((calxref08_within.f a1 0 (wrap64 ((l0.length : Int) - 1))).bind fun t103 => (if t103 = true then ((calxref08_beside.f k l0 0 (l0.length : Int) a1).bind fun t104 => (some (t104,0))) else (some (([] : List (S129)),1)))) else (some (([] : List (S129)),t102)))
theorem calxref08_Stands.mono : ∀ a0 a1 k,LeO (calxref08_Stands.f k a0 a1) (calxref08_Stands.f (k + 1) a0 a1):=by
 intro a0 a1 k
 unfold calxref08_Stands.f
 repeat' first
  |(with_reducible exact calxref08_Check.mono _ _)
  |(with_reducible exact calxref08_beside.mono _ _ _ _ _)
  |(with_reducible exact LeO.refl _)
  |(with_reducible exact LeO.none _)
  |(with_reducible refine LeO.ite ?_ ?_)
  |(with_reducible refine LeO.bind ?_ (fun _ => ?_))
  |exact calxref08_Check.mono _ _
  |exact calxref08_beside.mono _ _ _ _ _
  |exact LeO.none _
  |refine LeO.ite ?_ ?_
  |refine LeO.bind ?_ (fun _ => ?_)
set_option maxHeartbeats 8000000 in
set_option maxRecDepth 100000 in
theorem calxref08_Stands.calls (k : Nat) (A0 : Option Addr) (c0 : Nat) (l0 : List (S29)) (a1 : Int) (r1 : List (S129)) (r2 : Int) (w : World) (hr0 : Kd.C k29 w A0 l0.length l0) (hc0 : l0.length ≤ c0) (h : calxref08_Stands.f k l0 a1 = some (r1,r2)) :
  Calls Try.prog 74 #[.slice A0 l0.length c0,.int .i64 a1] w fun e w' => ∃ v0_ : Value,e = .returned (.agg #[v0_,.int .i64 r2]) ∧ Kd.R k129 129 w' w.heap.size (fun _ => True) v0_ r1 ∧ Below w.heap.size w w':=by
 have hu111:=Try.underlying111
 have HR0:=am hr0
 have HC0:=am hc0
 clear hr0 hc0
 have HB:=am (Below.refl w.heap.size w)
 have H : ((calxref08_Check.f k l0).bind fun t102 => (if t102 = 0 then ((calxref08_within.f a1 0 (wrap64 ((l0.length : Int) - 1))).bind fun t103 => (if t103 = true then ((calxref08_beside.f k l0 0 (l0.length : Int) a1).bind fun t104 => (some (t104,0))) else (some (([] : List (S129)),1)))) else (some (([] : List (S129)),t102)))) = some (r1,r2):=h
 clear h
 replace H:=Option.bind_eq_some_iff.mp H
 obtain ⟨t102,A30,H⟩:=H
 replace H : (if t102 = 0 then ((calxref08_within.f a1 0 (wrap64 ((l0.length : Int) - 1))).bind fun t103 => (if t103 = true then ((calxref08_beside.f k l0 0 (l0.length : Int) a1).bind fun t104 => (some (t104,0))) else (some (([] : List (S129)),1)))) else (some (([] : List (S129)),t102))) = some (r1,r2):=H
 have A3:=am A30
 clear A30
 by_cases c4 : t102 = 0
 ·rw [if_pos c4] at H
  have c4b0 : (t102 == 0) = true:=beq_iff_eq.mpr c4
  have c4b1 : (t102 != 0) = false:=bne_eq_false_iff_eq.mpr c4
  clear c4
  replace H:=Option.bind_eq_some_iff.mp H
  obtain ⟨t103,A50,H⟩:=H
  replace H : (if t103 = true then ((calxref08_beside.f k l0 0 (l0.length : Int) a1).bind fun t104 => (some (t104,0))) else (some (([] : List (S129)),1))) = some (r1,r2):=H
  have A5:=am A50
  clear A50
  by_cases c6 : t103 = true
  ·subst c6
   have H1 : ((calxref08_beside.f k l0 0 (l0.length : Int) a1).bind fun t104 => (some (t104,0))) = some (r1,r2):=by rw [if_pos rfl] at H;exact H
   clear H
   have H:=H1
   clear H1
   replace H:=Option.bind_eq_some_iff.mp H
   obtain ⟨t104,A70,H⟩:=H
   replace H : (some (t104,0)) = some (r1,r2):=H
   have A7:=am A70
   clear A70
   simp only [Option.some.injEq,Prod.mk.injEq] at H
   obtain ⟨rfl,rfl⟩:=H
   go_enter Try.func74,Try.ntmps74
   go_wp2_with (first|((with_reducible refine gate_dst (N:=4) rfl ?_);refine box_event ?hg (N:=4) ?hd (cs:=#[.slice none 0 0,.int .i64 0]) (t:=111) ?hr ?_;(case hd => rfl);(case hg => rfl);(case hr => first|(go_simp;done)|(go_simp;rfl));intro gb101 hg w8 hbox hb;have n0_:=am (below_step (v0 HB.out) hb);have n1_:=am (hbox);have n2_:=am ((by rw [hg];exact (below_size (v0 HB.out)) : w.heap.size ≤ gb101));have n3_:=am ((by rw [hg];exact (below_size (v0 HB.out)) : w.heap.size ≤ gb101));clear HB;have HB:=n0_;have BK101:=n1_;have GW101:=n2_;have GE101:=n3_;clear n0_ n1_ n2_ n3_;clear hb hbox hg)|((with_reducible refine gate_callee (f:=43) rfl ?_);refine goesL_ (some 8) rfl rfl Try.func43 kr rfl #[.slice A0 l0.length c0] rfl (by (try simp only [List.map_toArray,List.map_cons,List.map_nil]);first|done|rfl|(simp only [List.length_drop,List.length_take];rfl)) ?_;(with_reducible refine (calxref08_Check.calls k _ _ l0 t102 _ ?side1 ?side2 A3.out).mono ?_);(case side1 => repeat (first|exact (Kd.C_below HR0.out HB.out)|(with_reducible refine Kd.C_alloc ?_ _)|(with_reducible refine Kd.C_drewN ?_ _)|(with_reducible refine Kd.C_drew ?_)));(case side2 => exact HC0.out);rintro e w9 ⟨rfl,hb⟩;refine ⟨_,rfl,?_⟩;have n0_:=am (blk_below (g:=gb101) (o:=.cells #[.slice none 0 0,.int .i64 0] 111 (0,0)) (vb BK101.out) hb);have n1_:=am (below_step (v1 HB.out GE101.out) hb);clear BK101;clear HB;have BK101:=n0_;have HB:=n1_;clear n0_ n1_;(try clear hb);(try clear hb2);(try clear hk);(try clear hi))|((with_reducible refine gate_callee (f:=103) rfl ?_);refine goesL_ (some 17) rfl rfl Try.func103 kr rfl #[.int .i64 a1,.int .i64 0,.int .i64 (wrap64 ((l0.length : Int) - 1))] rfl (by (try simp only [List.map_toArray,List.map_cons,List.map_nil]);first|done|rfl|(simp only [List.length_drop,List.length_take];rfl)) ?_;(with_reducible refine (calxref08_within.calls a1 0 (wrap64 ((l0.length : Int) - 1)) true _ A5.out).mono ?_);rintro e w' ⟨rfl,⟨nd,rfl⟩⟩;refine ⟨_,rfl,?_⟩;(try (rw [drewN_self w9];generalize hq_ : World.drewN w9 _ = w9;have n0_ : Aside0 (w9.heap[gb101]? = some (.cells #[.slice none 0 0,.int .i64 0] 111 (0,0))):=⟨by rw [← hq_];exact (vb BK101.out)⟩;have n1_ : Aside0 (Below w.heap.size w w9):=⟨by rw [← hq_];exact (v1 HB.out GE101.out)⟩;clear BK101 HB hq_;have BK101:=n0_;have HB:=n1_;clear n0_ n1_)))|((with_reducible refine gate_callee (f:=134) rfl ?_);refine goesL_ (some 25) rfl rfl Try.func134 kr rfl #[.slice A0 l0.length c0,.int .i64 0,.int .i64 (l0.length : Int),.int .i64 a1] rfl (by (try simp only [List.map_toArray,List.map_cons,List.map_nil]);first|done|rfl|(simp only [List.length_drop,List.length_take];rfl)) ?_;(with_reducible refine (calxref08_beside.calls k _ _ l0 0 (l0.length : Int) a1 t104 _ ?side1 ?side2 A7.out).mono ?_);(case side1 => repeat (first|exact (Kd.C_below HR0.out HB.out)|(with_reducible refine Kd.C_alloc ?_ _)|(with_reducible refine Kd.C_drewN ?_ _)|(with_reducible refine Kd.C_drew ?_)));(case side2 => exact HC0.out);rintro e w10 ⟨v105,rfl,ho0,hb⟩;refine ⟨_,rfl,?_⟩;have n0_:=am (Kd.R_lower ho0 (below_size (v1 HB.out GE101.out)));have n1_:=am (blk_below (g:=gb101) (o:=.cells #[.slice none 0 0,.int .i64 0] 111 (0,0)) (vb BK101.out) hb);have n2_:=am (below_step (v1 HB.out GE101.out) hb);clear BK101;clear HB;have HO106:=n0_;have BK101:=n1_;have HB:=n2_;clear n0_ n1_ n2_;(try clear hb);(try clear hb2);(try clear hk);(try clear hi);(try clear ho0);obtain ⟨Ao11,co11,eo11⟩:=Kd.R_slice HO106.out;subst eo11;have hcz12_0 : w10.cell? ⟨gb101,0,none⟩ = some (.slice none 0 0):=(blk_cell BK101.out 0).trans rfl;have hcz12_1 : w10.cell? ⟨gb101,1,none⟩ = some (.int .i64 0):=(blk_cell BK101.out 1).trans rfl;have hfz12_0:=blk_frozen BK101.out 0;have hfz12_1:=blk_frozen BK101.out 1))
   refine bodyPost_ret (results_cell_row rfl _ _ gb101 111 #[.slice Ao11 t104.length co11,.int .i64 0] (0,0) _ rfl (by (with_reducible repeat (first|refine blk_drewN ?_ _|refine blk_drew ?_|refine blk_alloc ?_ _));refine blk_put (cs:=#[.slice Ao11 t104.length co11,.int .i64 0]) ?_ 1 _ rfl;(with_reducible repeat (first|refine blk_drewN ?_ _|refine blk_drew ?_|refine blk_alloc ?_ _));refine blk_put (cs:=#[.slice none 0 0,.int .i64 0]) ?_ 0 _ rfl;(with_reducible repeat (first|refine blk_drewN ?_ _|refine blk_drew ?_|refine blk_alloc ?_ _));exact BK101.out) Try.underlying111 rfl kr) rfl ?_
   exact ⟨_,vf,by (with_reducible repeat (first|apply Kd.R_alloc|apply Kd.R_drewN|apply Kd.R_drew));exact Kd.R_mono (Kd.R_far (p:=⟨gb101,1,none⟩) (Kd.R_far (p:=⟨gb101,0,none⟩) (Kd.R_types HO106.out BK101.out (by decide)) (fun _ hk => hk.2) (.slice Ao11 t104.length co11)) (fun _ hk => hk.2) (.int .i64 0)) (fun _ hk => trivial),v1 HB.out GE101.out⟩
  ·replace c6:=Bool.eq_false_iff.mpr c6
   subst c6
   have H1 : (some (([] : List (S129)),1)) = some (r1,r2):=by rw [if_neg (show ¬ (false = true) by decide)] at H;exact H
   clear H
   have H:=H1
   clear H1
   simp only [Option.some.injEq,Prod.mk.injEq] at H
   obtain ⟨rfl,rfl⟩:=H
   go_enter Try.func74,Try.ntmps74
   go_wp2_with (first|((with_reducible refine gate_dst (N:=4) rfl ?_);refine box_event ?hg (N:=4) ?hd (cs:=#[.slice none 0 0,.int .i64 0]) (t:=111) ?hr ?_;(case hd => rfl);(case hg => rfl);(case hr => first|(go_simp;done)|(go_simp;rfl));intro gb101 hg w13 hbox hb;have n0_:=am (below_step (v0 HB.out) hb);have n1_:=am (hbox);have n2_:=am ((by rw [hg];exact (below_size (v0 HB.out)) : w.heap.size ≤ gb101));have n3_:=am ((by rw [hg];exact (below_size (v0 HB.out)) : w.heap.size ≤ gb101));clear HB;have HB:=n0_;have BK101:=n1_;have GW101:=n2_;have GE101:=n3_;clear n0_ n1_ n2_ n3_;clear hb hbox hg)|((with_reducible refine gate_callee (f:=43) rfl ?_);refine goesL_ (some 8) rfl rfl Try.func43 kr rfl #[.slice A0 l0.length c0] rfl (by (try simp only [List.map_toArray,List.map_cons,List.map_nil]);first|done|rfl|(simp only [List.length_drop,List.length_take];rfl)) ?_;(with_reducible refine (calxref08_Check.calls k _ _ l0 t102 _ ?side1 ?side2 A3.out).mono ?_);(case side1 => repeat (first|exact (Kd.C_below HR0.out HB.out)|(with_reducible refine Kd.C_alloc ?_ _)|(with_reducible refine Kd.C_drewN ?_ _)|(with_reducible refine Kd.C_drew ?_)));(case side2 => exact HC0.out);rintro e w14 ⟨rfl,hb⟩;refine ⟨_,rfl,?_⟩;have n0_:=am (blk_below (g:=gb101) (o:=.cells #[.slice none 0 0,.int .i64 0] 111 (0,0)) (vb BK101.out) hb);have n1_:=am (below_step (v1 HB.out GE101.out) hb);clear BK101;clear HB;have BK101:=n0_;have HB:=n1_;clear n0_ n1_;(try clear hb);(try clear hb2);(try clear hk);(try clear hi))|((with_reducible refine gate_callee (f:=103) rfl ?_);refine goesL_ (some 17) rfl rfl Try.func103 kr rfl #[.int .i64 a1,.int .i64 0,.int .i64 (wrap64 ((l0.length : Int) - 1))] rfl (by (try simp only [List.map_toArray,List.map_cons,List.map_nil]);first|done|rfl|(simp only [List.length_drop,List.length_take];rfl)) ?_;(with_reducible refine (calxref08_within.calls a1 0 (wrap64 ((l0.length : Int) - 1)) false _ A5.out).mono ?_);rintro e w' ⟨rfl,⟨nd,rfl⟩⟩;refine ⟨_,rfl,?_⟩;(try (rw [drewN_self w14];generalize hq_ : World.drewN w14 _ = w14;have n0_ : Aside0 (w14.heap[gb101]? = some (.cells #[.slice none 0 0,.int .i64 0] 111 (0,0))):=⟨by rw [← hq_];exact (vb BK101.out)⟩;have n1_ : Aside0 (Below w.heap.size w w14):=⟨by rw [← hq_];exact (v1 HB.out GE101.out)⟩;clear BK101 HB hq_;have BK101:=n0_;have HB:=n1_;clear n0_ n1_));have hcz15_0 : w14.cell? ⟨gb101,0,none⟩ = some (.slice none 0 0):=(blk_cell BK101.out 0).trans rfl;have hcz15_1 : w14.cell? ⟨gb101,1,none⟩ = some (.int .i64 0):=(blk_cell BK101.out 1).trans rfl;have hfz15_0:=blk_frozen BK101.out 0;have hfz15_1:=blk_frozen BK101.out 1))
   refine bodyPost_ret (results_cell_row rfl _ _ gb101 111 #[.slice none 0 0,.int .i64 1] (0,0) _ rfl (by (with_reducible repeat (first|refine blk_drewN ?_ _|refine blk_drew ?_|refine blk_alloc ?_ _));refine blk_put (cs:=#[.slice none 0 0,.int .i64 0]) ?_ 1 _ rfl;(with_reducible repeat (first|refine blk_drewN ?_ _|refine blk_drew ?_|refine blk_alloc ?_ _));refine blk_put (cs:=#[.slice none 0 0,.int .i64 0]) ?_ 0 _ rfl;(with_reducible repeat (first|refine blk_drewN ?_ _|refine blk_drew ?_|refine blk_alloc ?_ _));exact BK101.out) Try.underlying111 rfl kr) rfl ?_
   exact ⟨_,vf,by first|exact Kd.R_nil _ _ _ _ _|exact Kd.N_nil _ _ _ _ _|exact Kd.V_nil _ _ _ _ _|exact Kd.Q_nil _ _ _ _ _|exact Kd.S_nil _ _ _ _ _,v1 HB.out GE101.out⟩
 ·rw [if_neg c4] at H
  have c4b0 : (t102 == 0) = false:=beq_eq_false_iff_ne.mpr c4
  have c4b1 : (t102 != 0) = true:=bne_iff_ne.mpr c4
  simp only [Option.some.injEq,Prod.mk.injEq] at H
  obtain ⟨rfl,rfl⟩:=H
  go_enter Try.func74,Try.ntmps74
  go_wp2_with (first|((with_reducible refine gate_dst (N:=4) rfl ?_);refine box_event ?hg (N:=4) ?hd (cs:=#[.slice none 0 0,.int .i64 0]) (t:=111) ?hr ?_;(case hd => rfl);(case hg => rfl);(case hr => first|(go_simp;done)|(go_simp;rfl));intro gb101 hg w16 hbox hb;have n0_:=am (below_step (v0 HB.out) hb);have n1_:=am (hbox);have n2_:=am ((by rw [hg];exact (below_size (v0 HB.out)) : w.heap.size ≤ gb101));have n3_:=am ((by rw [hg];exact (below_size (v0 HB.out)) : w.heap.size ≤ gb101));clear HB;have HB:=n0_;have BK101:=n1_;have GW101:=n2_;have GE101:=n3_;clear n0_ n1_ n2_ n3_;clear hb hbox hg)|((with_reducible refine gate_callee (f:=43) rfl ?_);refine goesL_ (some 8) rfl rfl Try.func43 kr rfl #[.slice A0 l0.length c0] rfl (by (try simp only [List.map_toArray,List.map_cons,List.map_nil]);first|done|rfl|(simp only [List.length_drop,List.length_take];rfl)) ?_;(with_reducible refine (calxref08_Check.calls k _ _ l0 t102 _ ?side1 ?side2 A3.out).mono ?_);(case side1 => repeat (first|exact (Kd.C_below HR0.out HB.out)|(with_reducible refine Kd.C_alloc ?_ _)|(with_reducible refine Kd.C_drewN ?_ _)|(with_reducible refine Kd.C_drew ?_)));(case side2 => exact HC0.out);rintro e w17 ⟨rfl,hb⟩;refine ⟨_,rfl,?_⟩;have n0_:=am (blk_below (g:=gb101) (o:=.cells #[.slice none 0 0,.int .i64 0] 111 (0,0)) (vb BK101.out) hb);have n1_:=am (below_step (v1 HB.out GE101.out) hb);clear BK101;clear HB;have BK101:=n0_;have HB:=n1_;clear n0_ n1_;(try clear hb);(try clear hb2);(try clear hk);(try clear hi);have hcz18_0 : w17.cell? ⟨gb101,0,none⟩ = some (.slice none 0 0):=(blk_cell BK101.out 0).trans rfl;have hcz18_1 : w17.cell? ⟨gb101,1,none⟩ = some (.int .i64 0):=(blk_cell BK101.out 1).trans rfl;have hfz18_0:=blk_frozen BK101.out 0;have hfz18_1:=blk_frozen BK101.out 1))
  refine bodyPost_ret (results_cell_row rfl _ _ gb101 111 #[.slice none 0 0,.int .i64 t102] (0,0) _ rfl (by (with_reducible repeat (first|refine blk_drewN ?_ _|refine blk_drew ?_|refine blk_alloc ?_ _));refine blk_put (cs:=#[.slice none 0 0,.int .i64 0]) ?_ 1 _ rfl;(with_reducible repeat (first|refine blk_drewN ?_ _|refine blk_drew ?_|refine blk_alloc ?_ _));refine blk_put (cs:=#[.slice none 0 0,.int .i64 0]) ?_ 0 _ rfl;(with_reducible repeat (first|refine blk_drewN ?_ _|refine blk_drew ?_|refine blk_alloc ?_ _));exact BK101.out) Try.underlying111 rfl kr) rfl ?_
  exact ⟨_,vf,by first|exact Kd.R_nil _ _ _ _ _|exact Kd.N_nil _ _ _ _ _|exact Kd.V_nil _ _ _ _ _|exact Kd.Q_nil _ _ _ _ _|exact Kd.S_nil _ _ _ _ _,v1 HB.out GE101.out⟩
theorem eqA190 (d : Nat) (w : World) (x0 y0 : Int) (x1 y1 : Int) (x2 y2 : Int) :
  (Op.equalIn (d + 2) 190 (.agg #[.int .i64 x0,.int .i64 x1,.int .i64 x2]) (.agg #[.int .i64 y0,.int .i64 y1,.int .i64 y2])).run Try.prog w = .ok (x0 == y0 && (x1 == y1 && (x2 == y2))) w:=by
 refine eqA_of Try.underlying190 kr ?_
 refine eqf_cons (by rfl) (by go_simp;rfl) (by go_simp;rfl) (by go_simp) ?_
 refine eqf_cons (by rfl) (by go_simp;rfl) (by go_simp;rfl) (by go_simp) ?_
 exact eqf_last (by rfl) (by go_simp;rfl) (by go_simp;rfl) (by go_simp)
section
attribute [local go_sem high] eqA29 eqA190
mutual
def calxref08_Gap.j0 : Nat → List (S29) → Int → List (S129) → Bool → Int → Int → Int → Int → Option (List Int × List Int × Bool × Int)
|0,_,_,_,_,_,_,_,_ => none
|k + 1,x0,x1,x3,x42,x102000,x102001,x102002,x102003 => if x42 = true then (some (([] : List Int),([] : List Int),false,1)) else ((calxref08_root.f x0).bind fun t107 => ((calxref08_CheckStands.f k t107 (x0.length : Int) x1 x102000 x102001 x102002 x102003 x3).bind fun t108 => (if t108 = 0 then (if 0 ≤ x1 then (if x1 < (x0.length : Int) then (if (!(x102000 == ((rd_T29 x0 x1).f0)) || (!(x102001 == ((rd_T29 x0 x1).f1)) || (!(x102002 == ((rd_T29 x0 x1).f2)) || (!(x102003 == ((rd_T29 x0 x1).f3)))))) = true then ((calxref08_leaf.f k x102000 x102001 x102002 x102003).bind fun t110 => ((calxref08_leaf.f k ((rd_T29 x0 x1).f0) ((rd_T29 x0 x1).f1) ((rd_T29 x0 x1).f2) ((rd_T29 x0 x1).f3)).bind fun t112 => (calxref08_Gap.j1 k x0 x1 x3 (t110 == t112) x102000 x102001 x102002 x102003))) else (calxref08_Gap.j1 k x0 x1 x3 false x102000 x102001 x102002 x102003)) else (none)) else (none)) else (some (([] : List Int),([] : List Int),false,0)))))
def calxref08_Gap.j1 : Nat → List (S29) → Int → List (S129) → Bool → Int → Int → Int → Int → Option (List Int × List Int × Bool × Int)
|0,_,_,_,_,_,_,_,_ => none
|k + 1,x0,x1,x3,x69,x102000,x102001,x102002,x102003 => if x69 = true then ((calxref08_parts.f x102000 x102001 x102002 x102003).bind fun t113 => (if 0 ≤ x1 then (if x1 < (x0.length : Int) then ((calxref08_parts.f ((rd_T29 x0 x1).f0) ((rd_T29 x0 x1).f1) ((rd_T29 x0 x1).f2) ((rd_T29 x0 x1).f3)).bind fun t117 => (some (t113,t117,true,0))) else (none)) else (none))) else ((calxref08_leaf.f k x102000 x102001 x102002 x102003).bind fun t120 => ((calxref08_climb.f x3 x1 t120).bind fun t121 => ((calxref08_beside.f k x0 0 (x0.length : Int) x1).bind fun t124 => (if 0 ≤ x1 then (if x1 < (x0.length : Int) then ((calxref08_leaf.f k ((rd_T29 x0 x1).f0) ((rd_T29 x0 x1).f1) ((rd_T29 x0 x1).f2) ((rd_T29 x0 x1).f3)).bind fun t128 => ((calxref08_climb.f t124 x1 t128).bind fun t129 => (calxref08_Gap.l0 k t121 t129 0))) else (none)) else (none)))))
def calxref08_Gap.l0 : Nat → List (S190) → List (S190) → Int → Option (List Int × List Int × Bool × Int)
|0,_,_,_ => none
|k + 1,x13,x14,x15 => if x15 < (x13.length : Int) then (if 0 ≤ x15 then (if x15 < (x14.length : Int) then (if (!(((rd_T190 x13 x15).f0) == ((rd_T190 x14 x15).f0)) || (!(((rd_T190 x13 x15).f1) == ((rd_T190 x14 x15).f1)) || (!(((rd_T190 x13 x15).f2) == ((rd_T190 x14 x15).f2))))) = true then ((calxref08_node.f k ((rd_T190 x13 x15).f0) ((rd_T190 x13 x15).f1) ((rd_T190 x13 x15).f2)).bind fun t136 => ((calxref08_node.f k ((rd_T190 x14 x15).f0) ((rd_T190 x14 x15).f1) ((rd_T190 x14 x15).f2)).bind fun t137 => (if t136 = t137 then (some ((([1,(rd_T190 x13 x15).f0,(rd_T190 x13 x15).f1,(rd_T190 x13 x15).f2] : List Int)),(([1,(rd_T190 x14 x15).f0,(rd_T190 x14 x15).f1,(rd_T190 x14 x15).f2] : List Int)),true,0)) else (calxref08_Gap.l0 k x13 x14 (wrap64 (x15 + 1)))))) else (calxref08_Gap.l0 k x13 x14 (wrap64 (x15 + 1)))) else (none)) else (none)) else (some (([] : List Int),([] : List Int),false,0))
end
def calxref08_Gap.f (k : Nat) (l0 : List (S29)) (a1 : Int) (a2_0 : Int) (a2_1 : Int) (a2_2 : Int) (a2_3 : Int) (l3 : List (S129)) : Option (List Int × List Int × Bool × Int):=(calxref08_Check.f k l0).bind fun t103 => (if t103 = 0 then ((calxref08_within.f a1 0 (wrap64 ((l0.length : Int) - 1))).bind fun t104 => ((calxref08_Entry.f a2_0 a2_1 a2_2 a2_3).bind fun t105 => ((calxref08_twigged.f k l3).bind fun t106 => (if t104 = true then (if t105 = true then (calxref08_Gap.j0 k l0 a1 l3 (!t106) a2_0 a2_1 a2_2 a2_3) else (calxref08_Gap.j0 k l0 a1 l3 true a2_0 a2_1 a2_2 a2_3)) else (calxref08_Gap.j0 k l0 a1 l3 true a2_0 a2_1 a2_2 a2_3))))) else (some (([] : List Int),([] : List Int),false,t103)))
theorem calxref08_Gap.mono_l : ∀ k,(∀ y0 y1 y2 y3 y4 y5 y6 y7,LeO (calxref08_Gap.j0 k y0 y1 y2 y3 y4 y5 y6 y7) (calxref08_Gap.j0 (k + 1) y0 y1 y2 y3 y4 y5 y6 y7)) ∧ (∀ y0 y1 y2 y3 y4 y5 y6 y7,LeO (calxref08_Gap.j1 k y0 y1 y2 y3 y4 y5 y6 y7) (calxref08_Gap.j1 (k + 1) y0 y1 y2 y3 y4 y5 y6 y7)) ∧ (∀ y0 y1 y2,LeO (calxref08_Gap.l0 k y0 y1 y2) (calxref08_Gap.l0 (k + 1) y0 y1 y2))
|0 => ⟨fun _ _ _ _ _ _ _ _ r h => by simp [calxref08_Gap.j0] at h,fun _ _ _ _ _ _ _ _ r h => by simp [calxref08_Gap.j1] at h,fun _ _ _ r h => by simp [calxref08_Gap.l0] at h⟩
|k + 1 => by
  obtain ⟨ih0,ih1,ih2⟩:=calxref08_Gap.mono_l k
  refine ⟨?_,?_,?_⟩
  ·intro y0 y1 y2 y3 y4 y5 y6 y7
   unfold calxref08_Gap.j0
   repeat' first
  |(with_reducible exact ih0 _ _ _ _ _ _ _ _)
  |(with_reducible exact ih1 _ _ _ _ _ _ _ _)
  |(with_reducible exact ih2 _ _ _)
  |(with_reducible exact calxref08_Check.mono _ _)
  |(with_reducible exact calxref08_CheckStands.mono _ _ _ _ _ _ _ _ _)
  |(with_reducible exact calxref08_beside.mono _ _ _ _ _)
  |(with_reducible exact calxref08_leaf.mono _ _ _ _ _)
  |(with_reducible exact calxref08_node.mono _ _ _ _)
  |(with_reducible exact calxref08_twigged.mono _ _)
  |(with_reducible exact LeO.refl _)
  |(with_reducible exact LeO.none _)
  |(with_reducible refine LeO.ite ?_ ?_)
  |(with_reducible refine LeO.bind ?_ (fun _ => ?_))
  |exact ih0 _ _ _ _ _ _ _ _
  |exact ih1 _ _ _ _ _ _ _ _
  |exact ih2 _ _ _
  |exact calxref08_Check.mono _ _
  |exact calxref08_CheckStands.mono _ _ _ _ _ _ _ _ _
  |exact calxref08_beside.mono _ _ _ _ _
  |exact calxref08_leaf.mono _ _ _ _ _
  |exact calxref08_node.mono _ _ _ _
  |exact calxref08_twigged.mono _ _
  |exact LeO.none _
  |refine LeO.ite ?_ ?_
  |refine LeO.bind ?_ (fun _ => ?_)
  ·intro y0 y1 y2 y3 y4 y5 y6 y7
   unfold calxref08_Gap.j1
   repeat' first
  |(with_reducible exact ih0 _ _ _ _ _ _ _ _)
  |(with_reducible exact ih1 _ _ _ _ _ _ _ _)
  |(with_reducible exact ih2 _ _ _)
  |(with_reducible exact calxref08_Check.mono _ _)
  |(with_reducible exact calxref08_CheckStands.mono _ _ _ _ _ _ _ _ _)
  |(with_reducible exact calxref08_beside.mono _ _ _ _ _)
  |(with_reducible exact calxref08_leaf.mono _ _ _ _ _)
  |(with_reducible exact calxref08_node.mono _ _ _ _)
  |(with_reducible exact calxref08_twigged.mono _ _)
  |(with_reducible exact LeO.refl _)
  |(with_reducible exact LeO.none _)
  |(with_reducible refine LeO.ite ?_ ?_)
  |(with_reducible refine LeO.bind ?_ (fun _ => ?_))
  |exact ih0 _ _ _ _ _ _ _ _
  |exact ih1 _ _ _ _ _ _ _ _
  |exact ih2 _ _ _
  |exact calxref08_Check.mono _ _
  |exact calxref08_CheckStands.mono _ _ _ _ _ _ _ _ _
  |exact calxref08_beside.mono _ _ _ _ _
  |exact calxref08_leaf.mono _ _ _ _ _
  |exact calxref08_node.mono _ _ _ _
  |exact calxref08_twigged.mono _ _
  |exact LeO.none _
  |refine LeO.ite ?_ ?_
  |refine LeO.bind ?_ (fun _ => ?_)
  ·intro y0 y1 y2
   unfold calxref08_Gap.l0
   repeat' first
  |(with_reducible exact ih0 _ _ _ _ _ _ _ _)
  |(with_reducible exact ih1 _ _ _ _ _ _ _ _)
  |(with_reducible exact ih2 _ _ _)
  |(with_reducible exact calxref08_Check.mono _ _)
  |(with_reducible exact calxref08_CheckStands.mono _ _ _ _ _ _ _ _ _)
  |(with_reducible exact calxref08_beside.mono _ _ _ _ _)
  |(with_reducible exact calxref08_leaf.mono _ _ _ _ _)
  |(with_reducible exact calxref08_node.mono _ _ _ _)
  |(with_reducible exact calxref08_twigged.mono _ _)
  |(with_reducible exact LeO.refl _)
  |(with_reducible exact LeO.none _)
  |(with_reducible refine LeO.ite ?_ ?_)
  |(with_reducible refine LeO.bind ?_ (fun _ => ?_))
  |exact ih0 _ _ _ _ _ _ _ _
  |exact ih1 _ _ _ _ _ _ _ _
  |exact ih2 _ _ _
  |exact calxref08_Check.mono _ _
  |exact calxref08_CheckStands.mono _ _ _ _ _ _ _ _ _
  |exact calxref08_beside.mono _ _ _ _ _
  |exact calxref08_leaf.mono _ _ _ _ _
  |exact calxref08_node.mono _ _ _ _
  |exact calxref08_twigged.mono _ _
  |exact LeO.none _
  |refine LeO.ite ?_ ?_
  |refine LeO.bind ?_ (fun _ => ?_)
theorem calxref08_Gap.mono : ∀ a0 a1 a2 a3 a4 a5 a6 k,LeO (calxref08_Gap.f k a0 a1 a2 a3 a4 a5 a6) (calxref08_Gap.f (k + 1) a0 a1 a2 a3 a4 a5 a6):=by
 intro a0 a1 a2 a3 a4 a5 a6 k
 obtain ⟨ih0,ih1,ih2⟩:=calxref08_Gap.mono_l k
 unfold calxref08_Gap.f
 repeat' first
  |(with_reducible exact ih0 _ _ _ _ _ _ _ _)
  |(with_reducible exact ih1 _ _ _ _ _ _ _ _)
  |(with_reducible exact ih2 _ _ _)
  |(with_reducible exact calxref08_Check.mono _ _)
  |(with_reducible exact calxref08_CheckStands.mono _ _ _ _ _ _ _ _ _)
  |(with_reducible exact calxref08_beside.mono _ _ _ _ _)
  |(with_reducible exact calxref08_leaf.mono _ _ _ _ _)
  |(with_reducible exact calxref08_node.mono _ _ _ _)
  |(with_reducible exact calxref08_twigged.mono _ _)
  |(with_reducible exact LeO.refl _)
  |(with_reducible exact LeO.none _)
  |(with_reducible refine LeO.ite ?_ ?_)
  |(with_reducible refine LeO.bind ?_ (fun _ => ?_))
  |exact ih0 _ _ _ _ _ _ _ _
  |exact ih1 _ _ _ _ _ _ _ _
  |exact ih2 _ _ _
  |exact calxref08_Check.mono _ _
  |exact calxref08_CheckStands.mono _ _ _ _ _ _ _ _ _
  |exact calxref08_beside.mono _ _ _ _ _
  |exact calxref08_leaf.mono _ _ _ _ _
  |exact calxref08_node.mono _ _ _ _
  |exact calxref08_twigged.mono _ _
  |exact LeO.none _
  |refine LeO.ite ?_ ?_
  |refine LeO.bind ?_ (fun _ => ?_)
def calxref08_Gap.T9 : Bool × List (List Nat × List Nat):=(true,[([],[]),([0],[0]),([],[]),([2],[2]),([],[]),([],[]),([],[]),([1,3,4,5,6,1],[1,3,4,5,6]),([7],[7])])
def calxref08_Gap.B9 : List Nat:=[0,1,0,4,0,0,0,127,255]
theorem calxref08_Gap.tab9 : rtab .any (opsOf Try.f77 9) = calxref08_Gap.T9:=by kernel_rfl
theorem calxref08_Gap.bits9 : waitsOk calxref08_Gap.T9.2 calxref08_Gap.B9 = true:=by kernel_rfl
def calxref08_Gap.T11 : Bool × List (List Nat × List Nat):=(true,[([],[]),([],[]),([],[]),([1,2],[1,2]),([3],[3]),([0,4],[0,4]),([5],[5]),([6],[6]),([7,6,6],[6,7]),([6],[6]),([6],[6]),([9,10,6],[6,9,10]),([11,6],[6,11]),([12,8,6],[6,12]),([8,13,6],[6,8,13]),([6,14],[6,14])])
def calxref08_Gap.B11 : List Nat:=[0,0,0,6,14,31,63,127,255,127,127,1663,3711,8191,16383,32767]
theorem calxref08_Gap.tab11 : rtab .any (opsOf Try.f77 11) = calxref08_Gap.T11:=by kernel_rfl
theorem calxref08_Gap.bits11 : waitsOk calxref08_Gap.T11.2 calxref08_Gap.B11 = true:=by kernel_rfl
def calxref08_Gap.T12 : Bool × List (List Nat × List Nat):=(true,[([],[]),([0],[0]),([],[]),([],[]),([2,3],[2,3]),([4],[4]),([5,1],[5]),([1,6],[1,6]),([7],[7]),([8,6,0,1,2,3,4,5,6,7,8],[8])])
def calxref08_Gap.B12 : List Nat:=[0,1,0,0,12,28,63,127,255,511]
theorem calxref08_Gap.tab12 : rtab .any (opsOf Try.f77 12) = calxref08_Gap.T12:=by kernel_rfl
theorem calxref08_Gap.bits12 : waitsOk calxref08_Gap.T12.2 calxref08_Gap.B12 = true:=by kernel_rfl
def calxref08_Gap.T14 : Bool × List (List Nat × List Nat):=(true,[([],[]),([],[]),([1],[1]),([],[]),([0,2,3],[0,2,3]),([],[]),([],[]),([],[]),([6,7],[6,7]),([8],[8]),([9,4],[9]),([4,5,10,10],[4,5,10]),([11,11,0,1,2,3,4,5,6,7,8,9,10,11],[11])])
def calxref08_Gap.B14 : List Nat:=[0,0,2,0,15,0,0,0,192,448,991,2047,4095]
theorem calxref08_Gap.tab14 : rtab .any (opsOf Try.f77 14) = calxref08_Gap.T14:=by kernel_rfl
theorem calxref08_Gap.bits14 : waitsOk calxref08_Gap.T14.2 calxref08_Gap.B14 = true:=by kernel_rfl
def calxref08_Gap.T20 : Bool × List (List Nat × List Nat):=(true,[([],[]),([],[]),([0,1],[0,1]),([2],[2]),([3],[3]),([4,3],[3,4]),([3],[3]),([6,3],[3,6]),([3],[3]),([8,3],[3,8]),([5,7,9,3,3],[3,5,7,9]),([3],[3]),([11,3],[3,11]),([3],[3]),([13,3],[3,13]),([3],[3]),([15,3],[3,15]),([12,14,16,10,3],[3,12,14,16]),([10,17,3],[3,10,17]),([3,18],[3,18])])
def calxref08_Gap.B20 : List Nat:=[0,0,3,7,15,31,15,79,15,271,1023,15,2063,15,8207,15,32783,131071,262143,524287]
theorem calxref08_Gap.tab20 : rtab .any (opsOf Try.f77 20) = calxref08_Gap.T20:=by kernel_rfl
theorem calxref08_Gap.bits20 : waitsOk calxref08_Gap.T20.2 calxref08_Gap.B20 = true:=by kernel_rfl
set_option maxHeartbeats 8000000 in
set_option maxRecDepth 100000 in
theorem calxref08_Gap.calls (k : Nat) (A0 : Option Addr) (c0 : Nat) (l0 : List (S29)) (a1 : Int) (a2_0 : Int) (a2_1 : Int) (a2_2 : Int) (a2_3 : Int) (A3 : Option Addr) (c3 : Nat) (l3 : List (S129)) (r1 : List Int) (r2 : List Int) (r3 : Bool) (r4 : Int) (w : World) (hr0 : Kd.C k29 w A0 l0.length l0) (hc0 : l0.length ≤ c0) (hr3 : Kd.C k129 w A3 l3.length l3) (hc3 : l3.length ≤ c3) (h : calxref08_Gap.f k l0 a1 a2_0 a2_1 a2_2 a2_3 l3 = some (r1,r2,r3,r4)) :
  Calls Try.prog 77 #[.slice A0 l0.length c0,.int .i64 a1,.agg #[.int .i64 a2_0,.int .i64 a2_1,.int .i64 a2_2,.int .i64 a2_3],.slice A3 l3.length c3] w fun e w' => ∃ v0_ v1_ : Value,e = .returned (.agg #[v0_,v1_,.bool r3,.int .i64 r4]) ∧ Kd.R (Kd.int .i64) 3 w' w.heap.size (fun k_ => some k_ ≠ (v1_ : Value).ownBlock) v0_ r1 ∧ Kd.R (Kd.int .i64) 3 w' w.heap.size (fun k_ => some k_ ≠ (v0_ : Value).ownBlock) v1_ r2 ∧ Below w.heap.size w w':=by
 have hu29:=Try.underlying29
 have hu118:=Try.underlying118
 have hu67:=Try.underlying67
 have hu190:=Try.underlying190
 have HR0:=am hr0
 have HC0:=am hc0
 clear hr0 hc0
 have HR3:=am hr3
 have HC3:=am hc3
 clear hr3 hc3
 have HB:=am (Below.refl w.heap.size w)
 have H : ((calxref08_Check.f k l0).bind fun t103 => (if t103 = 0 then ((calxref08_within.f a1 0 (wrap64 ((l0.length : Int) - 1))).bind fun t104 => ((calxref08_Entry.f a2_0 a2_1 a2_2 a2_3).bind fun t105 => ((calxref08_twigged.f k l3).bind fun t106 => (if t104 = true then (if t105 = true then (calxref08_Gap.j0 k l0 a1 l3 (!t106) a2_0 a2_1 a2_2 a2_3) else (calxref08_Gap.j0 k l0 a1 l3 true a2_0 a2_1 a2_2 a2_3)) else (calxref08_Gap.j0 k l0 a1 l3 true a2_0 a2_1 a2_2 a2_3))))) else (some (([] : List Int),([] : List Int),false,t103)))) = some (r1,r2,r3,r4):=h
 clear h
 replace H:=Option.bind_eq_some_iff.mp H
 obtain ⟨t103,A50,H⟩:=H
 replace H : (if t103 = 0 then ((calxref08_within.f a1 0 (wrap64 ((l0.length : Int) - 1))).bind fun t104 => ((calxref08_Entry.f a2_0 a2_1 a2_2 a2_3).bind fun t105 => ((calxref08_twigged.f k l3).bind fun t106 => (if t104 = true then (if t105 = true then (calxref08_Gap.j0 k l0 a1 l3 (!t106) a2_0 a2_1 a2_2 a2_3) else (calxref08_Gap.j0 k l0 a1 l3 true a2_0 a2_1 a2_2 a2_3)) else (calxref08_Gap.j0 k l0 a1 l3 true a2_0 a2_1 a2_2 a2_3))))) else (some (([] : List Int),([] : List Int),false,t103))) = some (r1,r2,r3,r4):=H
 have A5:=am A50
 clear A50
 by_cases c6 : t103 = 0
 ·rw [if_pos c6] at H
  have c6b0 : (t103 == 0) = true:=beq_iff_eq.mpr c6
  have c6b1 : (t103 != 0) = false:=bne_eq_false_iff_eq.mpr c6
  clear c6
  replace H:=Option.bind_eq_some_iff.mp H
  obtain ⟨t104,A70,H⟩:=H
  replace H : ((calxref08_Entry.f a2_0 a2_1 a2_2 a2_3).bind fun t105 => ((calxref08_twigged.f k l3).bind fun t106 => (if t104 = true then (if t105 = true then (calxref08_Gap.j0 k l0 a1 l3 (!t106) a2_0 a2_1 a2_2 a2_3) else (calxref08_Gap.j0 k l0 a1 l3 true a2_0 a2_1 a2_2 a2_3)) else (calxref08_Gap.j0 k l0 a1 l3 true a2_0 a2_1 a2_2 a2_3)))) = some (r1,r2,r3,r4):=H
  have A7:=am A70
  clear A70
  replace H:=Option.bind_eq_some_iff.mp H
  obtain ⟨t105,A80,H⟩:=H
  replace H : ((calxref08_twigged.f k l3).bind fun t106 => (if t104 = true then (if t105 = true then (calxref08_Gap.j0 k l0 a1 l3 (!t106) a2_0 a2_1 a2_2 a2_3) else (calxref08_Gap.j0 k l0 a1 l3 true a2_0 a2_1 a2_2 a2_3)) else (calxref08_Gap.j0 k l0 a1 l3 true a2_0 a2_1 a2_2 a2_3))) = some (r1,r2,r3,r4):=H
  have A8:=am A80
  clear A80
  replace H:=Option.bind_eq_some_iff.mp H
  obtain ⟨t106,A90,H⟩:=H
  replace H : (if t104 = true then (if t105 = true then (calxref08_Gap.j0 k l0 a1 l3 (!t106) a2_0 a2_1 a2_2 a2_3) else (calxref08_Gap.j0 k l0 a1 l3 true a2_0 a2_1 a2_2 a2_3)) else (calxref08_Gap.j0 k l0 a1 l3 true a2_0 a2_1 a2_2 a2_3)) = some (r1,r2,r3,r4):=H
  have A9:=am A90
  clear A90
  have HC10:=am H
  clear H
  go_enter Try.func77,Try.ntmps77
  go_upto_region 7 with (first|((with_reducible refine gate_dst (N:=6) rfl ?_);refine box_event ?hg (N:=6) ?hd (cs:=#[.int .i64 a2_0,.int .i64 a2_1,.int .i64 a2_2,.int .i64 a2_3]) (t:=29) ?hr ?_;(case hd => rfl);(case hg => rfl);(case hr => first|(go_simp;done)|(go_simp;rfl));intro gb101 hg w11 hbox hb;have n0_:=am (below_step (v0 HB.out) hb);have n1_:=am (hbox);have n2_:=am ((by rw [hg];exact (below_size (v0 HB.out)) : w.heap.size ≤ gb101));have n3_:=am ((by rw [hg];exact (below_size (v0 HB.out)) : w.heap.size ≤ gb101));clear HB;have HB:=n0_;have BK101:=n1_;have GW101:=n2_;have GE101:=n3_;clear n0_ n1_ n2_ n3_;clear hb hbox hg)|((with_reducible refine gate_dst (N:=8) rfl ?_);refine box_event ?hg (N:=8) ?hd (cs:=#[.slice none 0 0,.slice none 0 0,.bool false,.int .i64 0]) (t:=118) ?hr ?_;(case hd => rfl);(case hg => rfl);(case hr => first|(go_simp;done)|(go_simp;rfl));intro gb102 hg w12 hbox hb;have n0_:=am (blk_below (g:=gb101) (o:=.cells #[.int .i64 a2_0,.int .i64 a2_1,.int .i64 a2_2,.int .i64 a2_3] 29 (0,0)) (vb BK101.out) hb);have n1_:=am (below_step (v1 HB.out GE101.out) hb);have n2_:=am (hbox);have n3_:=am ((by rw [hg];exact (below_size (v1 HB.out GE101.out)) : w.heap.size ≤ gb102));have n4_:=am ((by rw [hg];exact (below_size (v1 HB.out GE101.out)) : w.heap.size ≤ gb102));have n5_:=am ((by rw [hg];exact Nat.ne_of_lt (blk_lt (g:=gb101) (o:=.cells #[.int .i64 a2_0,.int .i64 a2_1,.int .i64 a2_2,.int .i64 a2_3] 29 (0,0)) (vb BK101.out)) : gb101 ≠ gb102));have n6_:=am ((by rw [hg];exact Nat.ne_of_gt (blk_lt (g:=gb101) (o:=.cells #[.int .i64 a2_0,.int .i64 a2_1,.int .i64 a2_2,.int .i64 a2_3] 29 (0,0)) (vb BK101.out)) : gb102 ≠ gb101));clear BK101;clear HB;have BK101:=n0_;have HB:=n1_;have BK102:=n2_;have GW102:=n3_;have GE102:=n4_;have NB101_102:=n5_;have NB102_101:=n6_;clear n0_ n1_ n2_ n3_ n4_ n5_ n6_;clear hb hbox hg)|((with_reducible refine gate_callee (f:=43) rfl ?_);refine goesL_ (some 19) rfl rfl Try.func43 kr rfl #[.slice A0 l0.length c0] rfl (by (try simp only [List.map_toArray,List.map_cons,List.map_nil]);first|done|rfl|(simp only [List.length_drop,List.length_take];rfl)) ?_;(with_reducible refine (calxref08_Check.calls k _ _ l0 t103 _ ?side1 ?side2 A5.out).mono ?_);(case side1 => repeat (first|exact (Kd.C_below HR0.out HB.out)|(with_reducible refine Kd.C_alloc ?_ _)|(with_reducible refine Kd.C_drewN ?_ _)|(with_reducible refine Kd.C_drew ?_)));(case side2 => exact HC0.out);rintro e w13 ⟨rfl,hb⟩;refine ⟨_,rfl,?_⟩;have n0_:=am (blk_below (g:=gb101) (o:=.cells #[.int .i64 a2_0,.int .i64 a2_1,.int .i64 a2_2,.int .i64 a2_3] 29 (0,0)) (vb BK101.out) hb);have n1_:=am (blk_below (g:=gb102) (o:=.cells #[.slice none 0 0,.slice none 0 0,.bool false,.int .i64 0] 118 (0,0)) (vb BK102.out) hb);have n2_:=am (below_step (v2 HB.out GE101.out GE102.out) hb);clear BK101;clear BK102;clear HB;have BK101:=n0_;have BK102:=n1_;have HB:=n2_;clear n0_ n1_ n2_;(try clear hb);(try clear hb2);(try clear hk);(try clear hi))|((with_reducible refine gate_callee (f:=103) rfl ?_);refine goesL_ (some 28) rfl rfl Try.func103 kr rfl #[.int .i64 a1,.int .i64 0,.int .i64 (wrap64 ((l0.length : Int) - 1))] rfl (by (try simp only [List.map_toArray,List.map_cons,List.map_nil]);first|done|rfl|(simp only [List.length_drop,List.length_take];rfl)) ?_;(with_reducible refine (calxref08_within.calls a1 0 (wrap64 ((l0.length : Int) - 1)) t104 _ A7.out).mono ?_);rintro e w' ⟨rfl,⟨nd,rfl⟩⟩;refine ⟨_,rfl,?_⟩;have hnb14:=NB101_102.out;have hnc14:=NB102_101.out;have hcz15_0 : w13.cell? ⟨gb101,0,none⟩ = some (.int .i64 a2_0):=(blk_cell BK101.out 0).trans rfl;have hcz15_1 : w13.cell? ⟨gb101,1,none⟩ = some (.int .i64 a2_1):=(blk_cell BK101.out 1).trans rfl;have hcz15_2 : w13.cell? ⟨gb101,2,none⟩ = some (.int .i64 a2_2):=(blk_cell BK101.out 2).trans rfl;have hcz15_3 : w13.cell? ⟨gb101,3,none⟩ = some (.int .i64 a2_3):=(blk_cell BK101.out 3).trans rfl;have hfz15_0:=blk_frozen BK101.out 0;have hfz15_1:=blk_frozen BK101.out 1;have hfz15_2:=blk_frozen BK101.out 2;have hfz15_3:=blk_frozen BK101.out 3)|((with_reducible refine gate_callee (f:=101) rfl ?_);refine goesL_ (some 30) rfl rfl Try.func101 kr rfl #[.agg #[.int .i64 a2_0,.int .i64 a2_1,.int .i64 a2_2,.int .i64 a2_3]] rfl (by (try simp only [List.map_toArray,List.map_cons,List.map_nil]);first|done|rfl|(simp only [List.length_drop,List.length_take];rfl)) ?_;(with_reducible refine (calxref08_Entry.calls a2_0 a2_1 a2_2 a2_3 t105 _ A8.out).mono ?_);rintro e w16 ⟨rfl,hb⟩;refine ⟨_,rfl,?_⟩;have n0_:=am (blk_below (g:=gb101) (o:=.cells #[.int .i64 a2_0,.int .i64 a2_1,.int .i64 a2_2,.int .i64 a2_3] 29 (0,0)) (vb BK101.out) hb);have n1_:=am (blk_below (g:=gb102) (o:=.cells #[.slice none 0 0,.slice none 0 0,.bool false,.int .i64 0] 118 (0,0)) (vb BK102.out) hb);have n2_:=am (below_step (v2 HB.out GE101.out GE102.out) hb);clear BK101;clear BK102;clear HB;have BK101:=n0_;have BK102:=n1_;have HB:=n2_;clear n0_ n1_ n2_;(try clear hb);(try clear hb2);(try clear hk);(try clear hi))|((with_reducible refine gate_callee (f:=138) rfl ?_);refine goesL_ (some 32) rfl rfl Try.func138 kr rfl #[.slice A3 l3.length c3] rfl (by (try simp only [List.map_toArray,List.map_cons,List.map_nil]);first|done|rfl|(simp only [List.length_drop,List.length_take];rfl)) ?_;(with_reducible refine (calxref08_twigged.calls k _ _ l3 t106 _ ?side1 ?side2 A9.out).mono ?_);(case side1 => repeat (first|exact (Kd.C_below HR3.out HB.out)|(with_reducible refine Kd.C_alloc ?_ _)|(with_reducible refine Kd.C_drewN ?_ _)|(with_reducible refine Kd.C_drew ?_)));(case side2 => exact HC3.out);rintro e w' ⟨rfl,⟨nd,rfl⟩⟩;refine ⟨_,rfl,?_⟩))
  (try simp only [Act.put,List.setIfInBounds_toArray,List.set_cons_zero,List.set_cons_succ])
  go_cut [42] (fun v42 wc => ∃ (kq : Nat) (x42_9 : Bool),v42 = .bool x42_9 ∧ Aside0 (calxref08_Gap.j0 kq l0 a1 l3 x42_9 a2_0 a2_1 a2_2 a2_3 = some (r1,r2,r3,r4)) ∧ Aside0 (kq ≤ k) ∧ Aside0 (wc.heap[gb101]? = some (.cells #[.int .i64 a2_0,.int .i64 a2_1,.int .i64 a2_2,.int .i64 a2_3] 29 (0,0))) ∧ Aside0 (wc.heap[gb102]? = some (.cells #[(.slice none 0 0),(.slice none 0 0),.bool false,.int .i64 0] 118 (0,0))) ∧ Aside0 (Below w.heap.size w wc))
  case first =>
   have H:=HC10.out
   clear HC10
   by_cases c17 : t104 = true
   ·subst c17
    rw [if_pos rfl] at H
    by_cases c18 : t105 = true
    ·subst c18
     rw [if_pos rfl] at H
     have H':=am H
     clear H
     go_wp2
     go_meet
     case rel => exact ⟨_,(!t106),ve,H',⟨by first|omega|exact Nat.le_refl _⟩,⟨vb BK101.out⟩,⟨vb BK102.out⟩,⟨v2 HB.out GE101.out GE102.out⟩⟩
    ·replace c18:=Bool.eq_false_iff.mpr c18
     subst c18
     rw [if_neg (show ¬ (false = true) by decide)] at H
     have H':=am H
     clear H
     go_wp2
     go_meet
     case rel => exact ⟨_,(true),ve,H',⟨by first|omega|exact Nat.le_refl _⟩,⟨vb BK101.out⟩,⟨vb BK102.out⟩,⟨v2 HB.out GE101.out GE102.out⟩⟩
   ·replace c17:=Bool.eq_false_iff.mpr c17
    subst c17
    rw [if_neg (show ¬ (false = true) by decide)] at H
    have H':=am H
    clear H
    go_wp2
    go_meet
    case rel => exact ⟨_,(true),ve,H',⟨by first|omega|exact Nat.le_refl _⟩,⟨vb BK101.out⟩,⟨vb BK102.out⟩,⟨v2 HB.out GE101.out GE102.out⟩⟩
  case rest =>
   clear HC10
   obtain ⟨kq,x42_9,rfl,HA,HJ9,BK101,BK102,HB⟩:=hcut
   cases kq with
  |zero => exact absurd HA.out (by simp [calxref08_Gap.j0])
  |succ kj9 =>
    have H:=HA.out
    clear HA
    simp only [calxref08_Gap.j0] at H
    by_cases c19 : x42_9 = true
    ·subst c19
     rw [if_pos rfl] at H
     simp only [Option.some.injEq,Prod.mk.injEq] at H
     obtain ⟨rfl,rfl,rfl,rfl⟩:=H
     have hnb20:=NB102_101.out
     have hnc20:=NB101_102.out
     have hcz21_0 : wc.cell? ⟨gb102,0,none⟩ = some (.slice none 0 0):=(blk_cell BK102.out 0).trans rfl
     have hcz21_1 : wc.cell? ⟨gb102,1,none⟩ = some (.slice none 0 0):=(blk_cell BK102.out 1).trans rfl
     have hcz21_2 : wc.cell? ⟨gb102,2,none⟩ = some (.bool false):=(blk_cell BK102.out 2).trans rfl
     have hcz21_3 : wc.cell? ⟨gb102,3,none⟩ = some (.int .i64 0):=(blk_cell BK102.out 3).trans rfl
     have hfz21_0:=blk_frozen BK102.out 0
     have hfz21_1:=blk_frozen BK102.out 1
     have hfz21_2:=blk_frozen BK102.out 2
     have hfz21_3:=blk_frozen BK102.out 3
     go_wp2
     refine bodyPost_ret (results_cell_row rfl _ _ gb102 118 #[.slice none 0 0,.slice none 0 0,.bool false,.int .i64 1] (0,0) _ rfl (by (with_reducible repeat (first|refine blk_drewN ?_ _|refine blk_drew ?_|refine blk_alloc ?_ _));refine blk_put (cs:=#[.slice none 0 0,.slice none 0 0,.bool false,.int .i64 0]) ?_ 3 _ rfl;(with_reducible repeat (first|refine blk_drewN ?_ _|refine blk_drew ?_|refine blk_alloc ?_ _));refine blk_put (cs:=#[.slice none 0 0,.slice none 0 0,.bool false,.int .i64 0]) ?_ 2 _ rfl;(with_reducible repeat (first|refine blk_drewN ?_ _|refine blk_drew ?_|refine blk_alloc ?_ _));refine blk_put (cs:=#[.slice none 0 0,.slice none 0 0,.bool false,.int .i64 0]) ?_ 1 _ rfl;(with_reducible repeat (first|refine blk_drewN ?_ _|refine blk_drew ?_|refine blk_alloc ?_ _));refine blk_put (cs:=#[.slice none 0 0,.slice none 0 0,.bool false,.int .i64 0]) ?_ 0 _ rfl;(with_reducible repeat (first|refine blk_drewN ?_ _|refine blk_drew ?_|refine blk_alloc ?_ _));exact BK102.out) Try.underlying118 rfl kr) rfl ?_
     exact ⟨_,_,vf,by first|exact Kd.R_nil _ _ _ _ _|exact Kd.N_nil _ _ _ _ _|exact Kd.V_nil _ _ _ _ _|exact Kd.Q_nil _ _ _ _ _|exact Kd.S_nil _ _ _ _ _,by first|exact Kd.R_nil _ _ _ _ _|exact Kd.N_nil _ _ _ _ _|exact Kd.V_nil _ _ _ _ _|exact Kd.Q_nil _ _ _ _ _|exact Kd.S_nil _ _ _ _ _,v2 HB.out GE101.out GE102.out⟩
    ·replace c19:=Bool.eq_false_iff.mpr c19
     subst c19
     rw [if_neg (show ¬ (false = true) by decide)] at H
     replace H:=Option.bind_eq_some_iff.mp H
     obtain ⟨t107,A220,H⟩:=H
     replace H : ((calxref08_CheckStands.f kj9 t107 (l0.length : Int) a1 a2_0 a2_1 a2_2 a2_3 l3).bind fun t108 => (if t108 = 0 then (if 0 ≤ a1 then (if a1 < (l0.length : Int) then (if (!(a2_0 == ((rd_T29 l0 a1).f0)) || (!(a2_1 == ((rd_T29 l0 a1).f1)) || (!(a2_2 == ((rd_T29 l0 a1).f2)) || (!(a2_3 == ((rd_T29 l0 a1).f3)))))) = true then ((calxref08_leaf.f kj9 a2_0 a2_1 a2_2 a2_3).bind fun t110 => ((calxref08_leaf.f kj9 ((rd_T29 l0 a1).f0) ((rd_T29 l0 a1).f1) ((rd_T29 l0 a1).f2) ((rd_T29 l0 a1).f3)).bind fun t112 => (calxref08_Gap.j1 kj9 l0 a1 l3 (t110 == t112) a2_0 a2_1 a2_2 a2_3))) else (calxref08_Gap.j1 kj9 l0 a1 l3 false a2_0 a2_1 a2_2 a2_3)) else (none)) else (none)) else (some (([] : List Int),([] : List Int),false,0)))) = some (r1,r2,r3,r4):=H
     have A22:=am A220
     clear A220
     replace H:=Option.bind_eq_some_iff.mp H
     obtain ⟨t108,A230,H⟩:=H
     replace H : (if t108 = 0 then (if 0 ≤ a1 then (if a1 < (l0.length : Int) then (if (!(a2_0 == ((rd_T29 l0 a1).f0)) || (!(a2_1 == ((rd_T29 l0 a1).f1)) || (!(a2_2 == ((rd_T29 l0 a1).f2)) || (!(a2_3 == ((rd_T29 l0 a1).f3)))))) = true then ((calxref08_leaf.f kj9 a2_0 a2_1 a2_2 a2_3).bind fun t110 => ((calxref08_leaf.f kj9 ((rd_T29 l0 a1).f0) ((rd_T29 l0 a1).f1) ((rd_T29 l0 a1).f2) ((rd_T29 l0 a1).f3)).bind fun t112 => (calxref08_Gap.j1 kj9 l0 a1 l3 (t110 == t112) a2_0 a2_1 a2_2 a2_3))) else (calxref08_Gap.j1 kj9 l0 a1 l3 false a2_0 a2_1 a2_2 a2_3)) else (none)) else (none)) else (some (([] : List Int),([] : List Int),false,0))) = some (r1,r2,r3,r4):=H
     have A23:=am A230
     clear A230
     by_cases c24 : t108 = 0
     ·rw [if_pos c24] at H
      have c24b0 : (t108 == 0) = true:=beq_iff_eq.mpr c24
      have c24b1 : (t108 != 0) = false:=bne_eq_false_iff_eq.mpr c24
      clear c24
      have HC25:=am H
      clear H
      try go_wp2
      have n0_:=am (blk_drew BK101.out)
      have n1_:=am (blk_drew BK102.out)
      have n2_:=am (below_drew1 HB.out)
      clear BK101
      clear BK102
      clear HB
      have BK101:=n0_
      have BK102:=n1_
      have HB:=n2_
      clear n0_ n1_ n2_
      refine start_ (n:=9) (S:=fun w' => w'.cell? ⟨gb101,0,none⟩ = some (.int .i64 a2_0) ∧ w'.cell? ⟨gb101,1,none⟩ = some (.int .i64 a2_1) ∧ w'.cell? ⟨gb101,2,none⟩ = some (.int .i64 a2_2) ∧ w'.cell? ⟨gb101,3,none⟩ = some (.int .i64 a2_3)) (ds:=[]) #[false,false,false,false,false,false,false,false,false] kr rfl rfl ⟨(blk_cell BK101.out 0).trans rfl,(blk_cell BK101.out 1).trans rfl,(blk_cell BK101.out 2).trans rfl,(blk_cell BK101.out 3).trans rfl⟩ (fun hHeld => ?_);refine with_tabW calxref08_Gap.tab9 calxref08_Gap.bits9 (fun HT_ HW_ => ?_)
      generalize wc.drew = w26 at BK101 BK102 HB hHeld ⊢
      refine pure_ (i:=0) (N:=some 44) (v:=?_) (a':=?_) #[true,false,false,false,false,false,false,false,false] rfl rfl (any_of HT_.out kr) (fun _ _ _ h => h) (Or.inl ⟨by rfl,?_⟩) ?_ ?_
      rotate_left
      ·intro w'
       go_simp
       with_reducible rfl
      rotate_left
      ·exact vs
      refine pure_ (i:=2) (N:=some 46) (v:=?_) (a':=?_) #[true,false,true,false,false,false,false,false,false] rfl rfl (any_of HT_.out kr) (fun _ _ _ h => h) (Or.inl ⟨by rfl,?_⟩) ?_ ?_
      rotate_left
      ·intro w'
       go_simp
       with_reducible rfl
      rotate_left
      ·exact vs
      refine pure_ (i:=3) (N:=some 47) (v:=?_) (a':=?_) #[true,false,true,true,false,false,false,false,false] rfl rfl (any_of HT_.out kr) (fun _ _ _ h => h) (Or.inl ⟨by rfl,?_⟩) ?_ ?_
      rotate_left
      ·intro w'
       go_simp
       with_reducible rfl
      rotate_left
      ·exact vs
      refine pure_ (i:=4) (N:=some 48) (v:=?_) (a':=?_) #[true,false,true,true,true,false,false,false,false] rfl rfl (any_of HT_.out kr) (fun _ _ _ h => h) (Or.inl ⟨by rfl,?_⟩) ?_ ?_
      rotate_left
      ·intro w'
       go_simp
       with_reducible rfl
      rotate_left
      ·exact vs
      refine pure_ (i:=6) (N:=some 50) (v:=?_) (a':=?_) #[true,false,true,true,true,false,true,false,false] rfl rfl (any_of HT_.out kr) (fun _ _ _ h => h) (Or.inl ⟨by rfl,?_⟩) ?_ ?_
      rotate_left
      ·intro w'
       go_simp
       with_reducible rfl
      rotate_left
      ·exact vs
      refine take_ (i:=5) (N:=some 49) (v:=?_) (a':=?_) #[true,false,true,true,true,true,true,false,false] rfl rfl (take_ofW HT_.out HW_.out kr) (fun _ _ _ h => h) (Or.inl ⟨by rfl,?_⟩) hHeld ?_ ?_
      rotate_left
      ·rintro w' ⟨s0,s1,s2,s3⟩
       go_simp
       with_reducible rfl
      rotate_left
      ·exact vs
      refine one_ (i:=1) (N:=some 45) #[true,true,true,true,true,true,true,false,false] rfl rfl (one_of HT_.out kr) (by decide) (fun K hK => ?_)
      refine goes_ Try.func106 kr rfl #[.slice A0 l0.length c0] (by rfl) rfl rfl (by (try simp only [List.map_toArray,List.map_cons,List.map_nil]);first|done|rfl|(simp only [List.length_drop,List.length_take];rfl)) ?_
      with_reducible refine (calxref08_root.calls _ _ l0 t107 _ ?side1 ?side2 A22.out).mono ?_
      (case side1 => repeat (first|exact (Kd.C_below HR0.out HB.out)|(with_reducible refine Kd.C_alloc ?_ _)|(with_reducible refine Kd.C_drewN ?_ _)|(with_reducible refine Kd.C_drew ?_)))
      (case side2 => exact HC0.out)
      rintro e w27 ⟨rfl,hb⟩
      refine ⟨_,rfl,?_⟩
      have n0_:=am (blk_below (g:=gb101) (o:=.cells #[.int .i64 a2_0,.int .i64 a2_1,.int .i64 a2_2,.int .i64 a2_3] 29 (0,0)) (vb BK101.out) hb)
      have n1_:=am (blk_below (g:=gb102) (o:=.cells #[.slice none 0 0,.slice none 0 0,.bool false,.int .i64 0] 118 (0,0)) (vb BK102.out) hb)
      have n2_:=am (below_step (v2 HB.out GE101.out GE102.out) hb)
      clear BK101
      clear BK102
      clear HB
      have BK101:=n0_
      have BK102:=n1_
      have HB:=n2_
      clear n0_ n1_ n2_
      (try clear hb)
      (try clear hb2)
      (try clear hk)
      (try clear hi)
      refine hK.out _ _ ⟨(blk_cell BK101.out 0).trans rfl,(blk_cell BK101.out 1).trans rfl,(blk_cell BK101.out 2).trans rfl,(blk_cell BK101.out 3).trans rfl⟩ (fun hHeld => ?_)
      clear hK K
      refine norm_ (a':=?_) ?_ ?_
      rotate_left
      ·show Act.put _ (some 45) _ = _
       simp only [Act.put,List.setIfInBounds_toArray,List.set_cons_zero,List.set_cons_succ,i64_w,i32_w]
       rfl
      refine one_ (i:=7) (N:=some 51) #[true,true,true,true,true,true,true,true,false] rfl rfl (one_of HT_.out kr) (by decide) (fun K hK => ?_)
      refine goes_ Try.func75 kr rfl #[.int .i64 t107,.int .i64 (l0.length : Int),.int .i64 a1,.agg #[.int .i64 a2_0,.int .i64 a2_1,.int .i64 a2_2,.int .i64 a2_3],.slice A3 l3.length c3] (by rfl) rfl rfl (by (try simp only [List.map_toArray,List.map_cons,List.map_nil]);first|done|rfl|(simp only [List.length_drop,List.length_take];rfl)) ?_
      with_reducible refine (calxref08_CheckStands.calls kj9 t107 (l0.length : Int) a1 a2_0 a2_1 a2_2 a2_3 _ _ l3 t108 _ ?side1 ?side2 A23.out).mono ?_
      (case side1 => repeat (first|exact (Kd.C_below HR3.out HB.out)|(with_reducible refine Kd.C_alloc ?_ _)|(with_reducible refine Kd.C_drewN ?_ _)|(with_reducible refine Kd.C_drew ?_)))
      (case side2 => exact HC3.out)
      rintro e w28 ⟨rfl,hb⟩
      refine ⟨_,rfl,?_⟩
      have n0_:=am (blk_below (g:=gb101) (o:=.cells #[.int .i64 a2_0,.int .i64 a2_1,.int .i64 a2_2,.int .i64 a2_3] 29 (0,0)) (vb BK101.out) hb)
      have n1_:=am (blk_below (g:=gb102) (o:=.cells #[.slice none 0 0,.slice none 0 0,.bool false,.int .i64 0] 118 (0,0)) (vb BK102.out) hb)
      have n2_:=am (below_step (v2 HB.out GE101.out GE102.out) hb)
      clear BK101
      clear BK102
      clear HB
      have BK101:=n0_
      have BK102:=n1_
      have HB:=n2_
      clear n0_ n1_ n2_
      (try clear hb)
      (try clear hb2)
      (try clear hk)
      (try clear hi)
      refine hK.out _ _ ⟨(blk_cell BK101.out 0).trans rfl,(blk_cell BK101.out 1).trans rfl,(blk_cell BK101.out 2).trans rfl,(blk_cell BK101.out 3).trans rfl⟩ (fun hHeld => ?_)
      clear hK K
      refine norm_ (a':=?_) ?_ ?_
      rotate_left
      ·show Act.put _ (some 51) _ = _
       simp only [Act.put,List.setIfInBounds_toArray,List.set_cons_zero,List.set_cons_succ,i64_w,i32_w]
       rfl
      refine pure_ (i:=8) (N:=some 52) (v:=?_) (a':=?_) #[true,true,true,true,true,true,true,true,true] rfl rfl (any_of HT_.out kr) (fun _ _ _ h => h) (Or.inl ⟨by rfl,?_⟩) ?_ ?_
      rotate_left
      ·intro w'
       go_simp
       with_reducible rfl
      rotate_left
      ·exact vs
      refine done_ (done_of HT_.out kr) ?_
      go_upto_region 11 with (fail)
      go_cut [69] (fun v69 wc => ∃ (kq : Nat) (x69_24 : Bool),v69 = .bool x69_24 ∧ Aside0 (calxref08_Gap.j1 kq l0 a1 l3 x69_24 a2_0 a2_1 a2_2 a2_3 = some (r1,r2,r3,r4)) ∧ Aside0 (kq ≤ kj9) ∧ Aside0 (wc.heap[gb101]? = some (.cells #[.int .i64 a2_0,.int .i64 a2_1,.int .i64 a2_2,.int .i64 a2_3] 29 (0,0))) ∧ Aside0 (wc.heap[gb102]? = some (.cells #[(.slice none 0 0),(.slice none 0 0),.bool false,.int .i64 0] 118 (0,0))) ∧ Aside0 (Below w.heap.size w wc))
      case first =>
       have H:=HC25.out
       clear HC25
       by_cases c29 : 0 ≤ a1
       ·rw [if_pos c29] at H
        have c29b0 : decide (0 ≤ a1) = true:=decide_eq_true c29
        clear c29
        (first|rw [c29b0]|(simp only [i64_w,i32_w];rw [c29b0])|skip)
        by_cases c30 : a1 < (l0.length : Int)
        ·rw [if_pos c30] at H
         have c30b0 : decide (a1 < (l0.length : Int)) = true:=decide_eq_true c30
         clear c30
         by_cases c31 : (!(a2_0 == ((rd_T29 l0 a1).f0)) || (!(a2_1 == ((rd_T29 l0 a1).f1)) || (!(a2_2 == ((rd_T29 l0 a1).f2)) || (!(a2_3 == ((rd_T29 l0 a1).f3)))))) = true
         ·rw [if_pos c31] at H
          have c31b0 : (!(a2_0 == ((rd_T29 l0 a1).f0)) || (!(a2_1 == ((rd_T29 l0 a1).f1)) || (!(a2_2 == ((rd_T29 l0 a1).f2)) || (!(a2_3 == ((rd_T29 l0 a1).f3)))))) = true:=c31
          clear c31
          replace H:=Option.bind_eq_some_iff.mp H
          obtain ⟨t110,A320,H⟩:=H
          replace H : ((calxref08_leaf.f kj9 ((rd_T29 l0 a1).f0) ((rd_T29 l0 a1).f1) ((rd_T29 l0 a1).f2) ((rd_T29 l0 a1).f3)).bind fun t112 => (calxref08_Gap.j1 kj9 l0 a1 l3 (t110 == t112) a2_0 a2_1 a2_2 a2_3)) = some (r1,r2,r3,r4):=H
          have A32:=am A320
          clear A320
          replace H:=Option.bind_eq_some_iff.mp H
          obtain ⟨t112,A330,H⟩:=H
          replace H : (calxref08_Gap.j1 kj9 l0 a1 l3 (t110 == t112) a2_0 a2_1 a2_2 a2_3) = some (r1,r2,r3,r4):=H
          have A33:=am A330
          clear A330
          have H':=am H
          clear H
          try go_wp2
          have n0_:=am (blk_drew BK101.out)
          have n1_:=am (blk_drew BK102.out)
          have n2_:=am (below_drew1 HB.out)
          clear BK101
          clear BK102
          clear HB
          have BK101:=n0_
          have BK102:=n1_
          have HB:=n2_
          clear n0_ n1_ n2_
          have p109 : 0 ≤ (a1 : Int):=of_decide_eq_true va
          have q109 : a1 < (l0.length : Int):=of_decide_eq_true va
          obtain ⟨ad109,e109,hx109_0,hx109_1,hx109_2,hx109_3⟩:=at_T29 HR0.out a1 p109 q109
          have hw109_3:=hx109_3
          have hw109_2:=hx109_2
          have hw109_1:=hx109_1
          have hw109_0:=hx109_0
          cases e109
          replace hx109_0:=(HB.out.cell (wb w _ hx109_0)).trans hx109_0
          replace hx109_1:=(HB.out.cell (wb w _ hx109_1)).trans hx109_1
          replace hx109_2:=(HB.out.cell (wb w _ hx109_2)).trans hx109_2
          replace hx109_3:=(HB.out.cell (wb w _ hx109_3)).trans hx109_3
          replace p109:=eq_true p109
          replace q109:=eq_true q109
          have p111 : 0 ≤ (a1 : Int):=of_decide_eq_true va
          have q111 : a1 < (l0.length : Int):=of_decide_eq_true va
          obtain ⟨ad111,e111,hx111_0,hx111_1,hx111_2,hx111_3⟩:=at_T29 HR0.out a1 p111 q111
          have hw111_3:=hx111_3
          have hw111_2:=hx111_2
          have hw111_1:=hx111_1
          have hw111_0:=hx111_0
          obtain rfl : ad109 = ad111:=(by injection e111)
          replace hx111_0:=(HB.out.cell (wb w _ hx111_0)).trans hx111_0
          replace hx111_1:=(HB.out.cell (wb w _ hx111_1)).trans hx111_1
          replace hx111_2:=(HB.out.cell (wb w _ hx111_2)).trans hx111_2
          replace hx111_3:=(HB.out.cell (wb w _ hx111_3)).trans hx111_3
          replace p111:=eq_true p111
          replace q111:=eq_true q111
          refine start_ (n:=16) (S:=fun w' => w'.cell? ⟨gb101,0,none⟩ = some (.int .i64 a2_0) ∧ w'.cell? ⟨gb101,1,none⟩ = some (.int .i64 a2_1) ∧ w'.cell? ⟨gb101,2,none⟩ = some (.int .i64 a2_2) ∧ w'.cell? ⟨gb101,3,none⟩ = some (.int .i64 a2_3) ∧ w'.cell? (ad109.add ((a1).toNat * 4)) = some (.int .i64 ((rd_T29 l0 a1).f0)) ∧ w'.cell? ⟨(ad109.add ((a1).toNat * 4)).block,(ad109.add ((a1).toNat * 4)).off + 1,none⟩ = some (.int .i64 ((rd_T29 l0 a1).f1)) ∧ w'.cell? ⟨(ad109.add ((a1).toNat * 4)).block,(ad109.add ((a1).toNat * 4)).off + 2,none⟩ = some (.int .i64 ((rd_T29 l0 a1).f2)) ∧ w'.cell? ⟨(ad109.add ((a1).toNat * 4)).block,(ad109.add ((a1).toNat * 4)).off + 3,none⟩ = some (.int .i64 ((rd_T29 l0 a1).f3)) ∧ w'.cell? (ad109.add ((a1).toNat * 4)) = some (.int .i64 ((rd_T29 l0 a1).f0)) ∧ w'.cell? ⟨(ad109.add ((a1).toNat * 4)).block,(ad109.add ((a1).toNat * 4)).off + 1,none⟩ = some (.int .i64 ((rd_T29 l0 a1).f1)) ∧ w'.cell? ⟨(ad109.add ((a1).toNat * 4)).block,(ad109.add ((a1).toNat * 4)).off + 2,none⟩ = some (.int .i64 ((rd_T29 l0 a1).f2)) ∧ w'.cell? ⟨(ad109.add ((a1).toNat * 4)).block,(ad109.add ((a1).toNat * 4)).off + 3,none⟩ = some (.int .i64 ((rd_T29 l0 a1).f3))) (ds:=[]) #[false,false,false,false,false,false,false,false,false,false,false,false,false,false,false,false] kr rfl rfl ⟨(blk_cell BK101.out 0).trans rfl,(blk_cell BK101.out 1).trans rfl,(blk_cell BK101.out 2).trans rfl,(blk_cell BK101.out 3).trans rfl,((HB.out.cell (wb w _ hw109_0)).trans hw109_0),((HB.out.cell (wb w _ hw109_1)).trans hw109_1),((HB.out.cell (wb w _ hw109_2)).trans hw109_2),((HB.out.cell (wb w _ hw109_3)).trans hw109_3),((HB.out.cell (wb w _ hw111_0)).trans hw111_0),((HB.out.cell (wb w _ hw111_1)).trans hw111_1),((HB.out.cell (wb w _ hw111_2)).trans hw111_2),((HB.out.cell (wb w _ hw111_3)).trans hw111_3)⟩ (fun hHeld => ?_);refine with_tabW calxref08_Gap.tab11 calxref08_Gap.bits11 (fun HT_ HW_ => ?_)
          generalize w28.drew = w34 at BK101 BK102 HB hx109_0 hx109_1 hx109_2 hx109_3 hx111_0 hx111_1 hx111_2 hx111_3 hHeld ⊢
          refine pure_ (i:=1) (N:=some 55) (v:=?_) (a':=?_) #[false,true,false,false,false,false,false,false,false,false,false,false,false,false,false,false] rfl rfl (any_of HT_.out kr) (fun _ _ _ h => h) (Or.inl ⟨by rfl,?_⟩) ?_ ?_
          rotate_left
          ·intro w'
           go_simp
           with_reducible rfl
          rotate_left
          ·exact vs
          refine pure_ (i:=2) (N:=some 56) (v:=?_) (a':=?_) #[false,true,true,false,false,false,false,false,false,false,false,false,false,false,false,false] rfl rfl (any_of HT_.out kr) (fun _ _ _ h => h) (Or.inl ⟨by rfl,?_⟩) ?_ ?_
          rotate_left
          ·intro w'
           go_simp
           with_reducible rfl
          rotate_left
          ·exact vs
          refine pure_ (i:=3) (N:=some 57) (v:=?_) (a':=?_) #[false,true,true,true,false,false,false,false,false,false,false,false,false,false,false,false] rfl rfl (any_of HT_.out kr) (fun _ _ _ h => h) (Or.inl ⟨by rfl,?_⟩) ?_ ?_
          rotate_left
          ·intro w'
           go_simp
           with_reducible rfl
          rotate_left
          ·exact vs
          refine take_ (i:=0) (N:=some 54) (v:=?_) (a':=?_) #[true,true,true,true,false,false,false,false,false,false,false,false,false,false,false,false] rfl rfl (take_ofW HT_.out HW_.out kr) (fun _ _ _ h => h) (Or.inl ⟨by rfl,?_⟩) hHeld ?_ ?_
          rotate_left
          ·rintro w' ⟨s0,s1,s2,s3,s4,s5,s6,s7,s8,s9,s10,s11⟩
           go_simp
           with_reducible rfl
          rotate_left
          ·exact vs
          refine take_ (i:=4) (N:=some 58) (v:=?_) (a':=?_) #[true,true,true,true,true,false,false,false,false,false,false,false,false,false,false,false] rfl rfl (take_ofW HT_.out HW_.out kr) (fun _ _ _ h => h) (Or.inl ⟨by rfl,?_⟩) hHeld ?_ ?_
          rotate_left
          ·rintro w' ⟨s0,s1,s2,s3,s4,s5,s6,s7,s8,s9,s10,s11⟩
           go_simp
           with_reducible rfl
          rotate_left
          ·exact vs
          refine pure_ (i:=5) (N:=some 59) (v:=?_) (a':=?_) #[true,true,true,true,true,true,false,false,false,false,false,false,false,false,false,false] rfl rfl (any_of HT_.out kr) (fun _ _ _ h => h) (Or.inl ⟨by rfl,?_⟩) ?_ ?_
          rotate_left
          ·intro w'
           go_simp
           with_reducible rfl
          rotate_left
          ·exact vs
          refine pure_ (i:=6) (N:=some 60) (v:=?_) (a':=?_) #[true,true,true,true,true,true,true,false,false,false,false,false,false,false,false,false] rfl rfl (any_of HT_.out kr) (fun _ _ _ h => h) (Or.inl ⟨by rfl,?_⟩) ?_ ?_
          rotate_left
          ·intro w'
           go_simp
           with_reducible rfl
          rotate_left
          ·exact vs
          refine pure_ (i:=9) (N:=some 63) (v:=?_) (a':=?_) #[true,true,true,true,true,true,true,false,false,true,false,false,false,false,false,false] rfl rfl (any_of HT_.out kr) (fun _ _ _ h => h) (Or.inl ⟨by rfl,?_⟩) ?_ ?_
          rotate_left
          ·intro w'
           go_simp
           with_reducible rfl
          rotate_left
          ·exact vs
          refine pure_ (i:=10) (N:=some 64) (v:=?_) (a':=?_) #[true,true,true,true,true,true,true,false,false,true,true,false,false,false,false,false] rfl rfl (any_of HT_.out kr) (fun _ _ _ h => h) (Or.inl ⟨by rfl,?_⟩) ?_ ?_
          rotate_left
          ·intro w'
           go_simp
           with_reducible rfl
          rotate_left
          ·exact vs
          refine pure_ (i:=11) (N:=some 65) (v:=?_) (a':=?_) #[true,true,true,true,true,true,true,false,false,true,true,true,false,false,false,false] rfl rfl (any_of HT_.out kr) (fun _ _ _ h => h) (Or.inl ⟨by rfl,?_⟩) ?_ ?_
          rotate_left
          ·intro w'
           go_simp
           with_reducible rfl
          rotate_left
          ·exact vs
          refine take_ (i:=7) (N:=some 61) (v:=?_) (a':=?_) #[true,true,true,true,true,true,true,true,false,true,true,true,false,false,false,false] rfl rfl (take_ofW HT_.out HW_.out kr) (fun _ _ _ h => h) (Or.inl ⟨by rfl,?_⟩) hHeld ?_ ?_
          rotate_left
          ·rintro w' ⟨s0,s1,s2,s3,s4,s5,s6,s7,s8,s9,s10,s11⟩
           go_simp
           with_reducible rfl
          rotate_left
          ·exact vs
          refine take_ (i:=12) (N:=some 66) (v:=?_) (a':=?_) #[true,true,true,true,true,true,true,true,false,true,true,true,true,false,false,false] rfl rfl (take_ofW HT_.out HW_.out kr) (fun _ _ _ h => h) (Or.inl ⟨by rfl,?_⟩) hHeld ?_ ?_
          rotate_left
          ·rintro w' ⟨s0,s1,s2,s3,s4,s5,s6,s7,s8,s9,s10,s11⟩
           go_simp
           with_reducible rfl
          rotate_left
          ·exact vs
          refine one_ (i:=8) (N:=some 62) #[true,true,true,true,true,true,true,true,true,true,true,true,true,false,false,false] rfl rfl (one_of HT_.out kr) (by decide) (fun K hK => ?_)
          refine goes_ Try.func102 kr rfl #[.agg #[.int .i64 a2_0,.int .i64 a2_1,.int .i64 a2_2,.int .i64 a2_3]] (by rfl) rfl rfl (by (try simp only [List.map_toArray,List.map_cons,List.map_nil]);first|done|rfl|(simp only [List.length_drop,List.length_take];rfl)) ?_
          with_reducible refine (calxref08_leaf.calls kj9 a2_0 a2_1 a2_2 a2_3 t110 _ A32.out).mono ?_
          rintro e w35 ⟨rfl,hb⟩
          refine ⟨_,rfl,?_⟩
          have n0_:=am (blk_below (g:=gb101) (o:=.cells #[.int .i64 a2_0,.int .i64 a2_1,.int .i64 a2_2,.int .i64 a2_3] 29 (0,0)) (vb BK101.out) hb)
          have n1_:=am (blk_below (g:=gb102) (o:=.cells #[.slice none 0 0,.slice none 0 0,.bool false,.int .i64 0] 118 (0,0)) (vb BK102.out) hb)
          have n2_:=am (below_step (v2 HB.out GE101.out GE102.out) hb)
          clear BK101
          clear BK102
          clear HB
          have BK101:=n0_
          have BK102:=n1_
          have HB:=n2_
          clear n0_ n1_ n2_
          (try clear hb)
          (try clear hb2)
          (try clear hk)
          (try clear hi)
          refine hK.out _ _ ⟨(blk_cell BK101.out 0).trans rfl,(blk_cell BK101.out 1).trans rfl,(blk_cell BK101.out 2).trans rfl,(blk_cell BK101.out 3).trans rfl,((HB.out.cell (wb w _ hw109_0)).trans hw109_0),((HB.out.cell (wb w _ hw109_1)).trans hw109_1),((HB.out.cell (wb w _ hw109_2)).trans hw109_2),((HB.out.cell (wb w _ hw109_3)).trans hw109_3),((HB.out.cell (wb w _ hw111_0)).trans hw111_0),((HB.out.cell (wb w _ hw111_1)).trans hw111_1),((HB.out.cell (wb w _ hw111_2)).trans hw111_2),((HB.out.cell (wb w _ hw111_3)).trans hw111_3)⟩ (fun hHeld => ?_)
          clear hK K
          refine norm_ (a':=?_) ?_ ?_
          rotate_left
          ·show Act.put _ (some 62) _ = _
           simp only [Act.put,List.setIfInBounds_toArray,List.set_cons_zero,List.set_cons_succ,i64_w,i32_w]
           rfl
          refine one_ (i:=13) (N:=some 67) #[true,true,true,true,true,true,true,true,true,true,true,true,true,true,false,false] rfl rfl (one_of HT_.out kr) (by decide) (fun K hK => ?_)
          refine goes_ Try.func102 kr rfl #[.agg #[.int .i64 ((rd_T29 l0 a1).f0),.int .i64 ((rd_T29 l0 a1).f1),.int .i64 ((rd_T29 l0 a1).f2),.int .i64 ((rd_T29 l0 a1).f3)]] (by rfl) rfl rfl (by (try simp only [List.map_toArray,List.map_cons,List.map_nil]);first|done|rfl|(simp only [List.length_drop,List.length_take];rfl)) ?_
          with_reducible refine (calxref08_leaf.calls kj9 ((rd_T29 l0 a1).f0) ((rd_T29 l0 a1).f1) ((rd_T29 l0 a1).f2) ((rd_T29 l0 a1).f3) t112 _ A33.out).mono ?_
          rintro e w36 ⟨rfl,hb⟩
          refine ⟨_,rfl,?_⟩
          have n0_:=am (blk_below (g:=gb101) (o:=.cells #[.int .i64 a2_0,.int .i64 a2_1,.int .i64 a2_2,.int .i64 a2_3] 29 (0,0)) (vb BK101.out) hb)
          have n1_:=am (blk_below (g:=gb102) (o:=.cells #[.slice none 0 0,.slice none 0 0,.bool false,.int .i64 0] 118 (0,0)) (vb BK102.out) hb)
          have n2_:=am (below_step (v2 HB.out GE101.out GE102.out) hb)
          clear BK101
          clear BK102
          clear HB
          have BK101:=n0_
          have BK102:=n1_
          have HB:=n2_
          clear n0_ n1_ n2_
          (try clear hb)
          (try clear hb2)
          (try clear hk)
          (try clear hi)
          refine hK.out _ _ ⟨(blk_cell BK101.out 0).trans rfl,(blk_cell BK101.out 1).trans rfl,(blk_cell BK101.out 2).trans rfl,(blk_cell BK101.out 3).trans rfl,((HB.out.cell (wb w _ hw109_0)).trans hw109_0),((HB.out.cell (wb w _ hw109_1)).trans hw109_1),((HB.out.cell (wb w _ hw109_2)).trans hw109_2),((HB.out.cell (wb w _ hw109_3)).trans hw109_3),((HB.out.cell (wb w _ hw111_0)).trans hw111_0),((HB.out.cell (wb w _ hw111_1)).trans hw111_1),((HB.out.cell (wb w _ hw111_2)).trans hw111_2),((HB.out.cell (wb w _ hw111_3)).trans hw111_3)⟩ (fun hHeld => ?_)
          clear hK K
          refine norm_ (a':=?_) ?_ ?_
          rotate_left
          ·show Act.put _ (some 67) _ = _
           simp only [Act.put,List.setIfInBounds_toArray,List.set_cons_zero,List.set_cons_succ,i64_w,i32_w]
           rfl
          refine pure_ (i:=14) (N:=some 68) (v:=?_) (a':=?_) #[true,true,true,true,true,true,true,true,true,true,true,true,true,true,true,false] rfl rfl (any_of HT_.out kr) (fun _ _ _ h => h) (Or.inl ⟨by rfl,?_⟩) ?_ ?_
          rotate_left
          ·intro w'
           go_simp
           with_reducible rfl
          rotate_left
          ·exact vs
          refine pure_ (i:=15) (N:=some 69) (v:=?_) (a':=?_) #[true,true,true,true,true,true,true,true,true,true,true,true,true,true,true,true] rfl rfl (any_of HT_.out kr) (fun _ _ _ h => h) (Or.inl ⟨by rfl,?_⟩) ?_ ?_
          rotate_left
          ·intro w'
           go_simp
           with_reducible rfl
          rotate_left
          ·exact vs
          refine done_ (done_of HT_.out kr) ?_
          try go_wp2
          go_meet
          case rel => exact ⟨_,((t110 == t112)),ve,H',⟨by have:=HJ9.out;first|omega|exact Nat.le_refl _⟩,⟨vb BK101.out⟩,⟨vb BK102.out⟩,⟨v2 HB.out GE101.out GE102.out⟩⟩
         ·rw [if_neg c31] at H
          have c31b0 : (!(a2_0 == ((rd_T29 l0 a1).f0)) || (!(a2_1 == ((rd_T29 l0 a1).f1)) || (!(a2_2 == ((rd_T29 l0 a1).f2)) || (!(a2_3 == ((rd_T29 l0 a1).f3)))))) = false:=by simpa using c31
          clear c31
          have H':=am H
          clear H
          try go_wp2
          have n0_:=am (blk_drew BK101.out)
          have n1_:=am (blk_drew BK102.out)
          have n2_:=am (below_drew1 HB.out)
          clear BK101
          clear BK102
          clear HB
          have BK101:=n0_
          have BK102:=n1_
          have HB:=n2_
          clear n0_ n1_ n2_
          have p109 : 0 ≤ (a1 : Int):=of_decide_eq_true va
          have q109 : a1 < (l0.length : Int):=of_decide_eq_true va
          obtain ⟨ad109,e109,hx109_0,hx109_1,hx109_2,hx109_3⟩:=at_T29 HR0.out a1 p109 q109
          have hw109_3:=hx109_3
          have hw109_2:=hx109_2
          have hw109_1:=hx109_1
          have hw109_0:=hx109_0
          cases e109
          replace hx109_0:=(HB.out.cell (wb w _ hx109_0)).trans hx109_0
          replace hx109_1:=(HB.out.cell (wb w _ hx109_1)).trans hx109_1
          replace hx109_2:=(HB.out.cell (wb w _ hx109_2)).trans hx109_2
          replace hx109_3:=(HB.out.cell (wb w _ hx109_3)).trans hx109_3
          replace p109:=eq_true p109
          replace q109:=eq_true q109
          refine start_ (n:=16) (S:=fun w' => w'.cell? ⟨gb101,0,none⟩ = some (.int .i64 a2_0) ∧ w'.cell? ⟨gb101,1,none⟩ = some (.int .i64 a2_1) ∧ w'.cell? ⟨gb101,2,none⟩ = some (.int .i64 a2_2) ∧ w'.cell? ⟨gb101,3,none⟩ = some (.int .i64 a2_3) ∧ w'.cell? (ad109.add ((a1).toNat * 4)) = some (.int .i64 ((rd_T29 l0 a1).f0)) ∧ w'.cell? ⟨(ad109.add ((a1).toNat * 4)).block,(ad109.add ((a1).toNat * 4)).off + 1,none⟩ = some (.int .i64 ((rd_T29 l0 a1).f1)) ∧ w'.cell? ⟨(ad109.add ((a1).toNat * 4)).block,(ad109.add ((a1).toNat * 4)).off + 2,none⟩ = some (.int .i64 ((rd_T29 l0 a1).f2)) ∧ w'.cell? ⟨(ad109.add ((a1).toNat * 4)).block,(ad109.add ((a1).toNat * 4)).off + 3,none⟩ = some (.int .i64 ((rd_T29 l0 a1).f3))) (ds:=[]) #[false,false,false,false,false,false,false,false,false,false,false,false,false,false,false,false] kr rfl rfl ⟨(blk_cell BK101.out 0).trans rfl,(blk_cell BK101.out 1).trans rfl,(blk_cell BK101.out 2).trans rfl,(blk_cell BK101.out 3).trans rfl,((HB.out.cell (wb w _ hw109_0)).trans hw109_0),((HB.out.cell (wb w _ hw109_1)).trans hw109_1),((HB.out.cell (wb w _ hw109_2)).trans hw109_2),((HB.out.cell (wb w _ hw109_3)).trans hw109_3)⟩ (fun hHeld => ?_);refine with_tabW calxref08_Gap.tab11 calxref08_Gap.bits11 (fun HT_ HW_ => ?_)
          generalize w28.drew = w37 at BK101 BK102 HB hx109_0 hx109_1 hx109_2 hx109_3 hHeld ⊢
          refine pure_ (i:=1) (N:=some 55) (v:=?_) (a':=?_) #[false,true,false,false,false,false,false,false,false,false,false,false,false,false,false,false] rfl rfl (any_of HT_.out kr) (fun _ _ _ h => h) (Or.inl ⟨by rfl,?_⟩) ?_ ?_
          rotate_left
          ·intro w'
           go_simp
           with_reducible rfl
          rotate_left
          ·exact vs
          refine pure_ (i:=2) (N:=some 56) (v:=?_) (a':=?_) #[false,true,true,false,false,false,false,false,false,false,false,false,false,false,false,false] rfl rfl (any_of HT_.out kr) (fun _ _ _ h => h) (Or.inl ⟨by rfl,?_⟩) ?_ ?_
          rotate_left
          ·intro w'
           go_simp
           with_reducible rfl
          rotate_left
          ·exact vs
          refine pure_ (i:=3) (N:=some 57) (v:=?_) (a':=?_) #[false,true,true,true,false,false,false,false,false,false,false,false,false,false,false,false] rfl rfl (any_of HT_.out kr) (fun _ _ _ h => h) (Or.inl ⟨by rfl,?_⟩) ?_ ?_
          rotate_left
          ·intro w'
           go_simp
           with_reducible rfl
          rotate_left
          ·exact vs
          refine take_ (i:=0) (N:=some 54) (v:=?_) (a':=?_) #[true,true,true,true,false,false,false,false,false,false,false,false,false,false,false,false] rfl rfl (take_ofW HT_.out HW_.out kr) (fun _ _ _ h => h) (Or.inl ⟨by rfl,?_⟩) hHeld ?_ ?_
          rotate_left
          ·rintro w' ⟨s0,s1,s2,s3,s4,s5,s6,s7⟩
           go_simp
           with_reducible rfl
          rotate_left
          ·exact vs
          refine take_ (i:=4) (N:=some 58) (v:=?_) (a':=?_) #[true,true,true,true,true,false,false,false,false,false,false,false,false,false,false,false] rfl rfl (take_ofW HT_.out HW_.out kr) (fun _ _ _ h => h) (Or.inl ⟨by rfl,?_⟩) hHeld ?_ ?_
          rotate_left
          ·rintro w' ⟨s0,s1,s2,s3,s4,s5,s6,s7⟩
           go_simp
           with_reducible rfl
          rotate_left
          ·exact vs
          refine pure_ (i:=5) (N:=some 59) (v:=?_) (a':=?_) #[true,true,true,true,true,true,false,false,false,false,false,false,false,false,false,false] rfl rfl (any_of HT_.out kr) (fun _ _ _ h => h) (Or.inl ⟨by rfl,?_⟩) ?_ ?_
          rotate_left
          ·intro w'
           go_simp
           with_reducible rfl
          rotate_left
          ·exact vs
          refine pure_ (i:=6) (N:=some 60) (v:=?_) (a':=?_) #[true,true,true,true,true,true,true,false,false,false,false,false,false,false,false,false] rfl rfl (any_of HT_.out kr) (fun _ _ _ h => h) (Or.inl ⟨by rfl,?_⟩) ?_ ?_
          rotate_left
          ·intro w'
           go_simp
           with_reducible rfl
          rotate_left
          ·exact vs
          refine pure_ (i:=7) (N:=some 61) (v:=undef) (a':=?_) #[true,true,true,true,true,true,true,true,false,false,false,false,false,false,false,false] rfl rfl (any_of HT_.out kr) (fun _ _ _ h => h) (Or.inr ⟨by rfl,rfl⟩) ?_ ?_
          rotate_left
          ·exact vs
          refine pure_ (i:=8) (N:=some 62) (v:=undef) (a':=?_) #[true,true,true,true,true,true,true,true,true,false,false,false,false,false,false,false] rfl rfl (any_of HT_.out kr) (fun _ _ _ h => h) (Or.inr ⟨by rfl,rfl⟩) ?_ ?_
          rotate_left
          ·exact vs
          refine pure_ (i:=9) (N:=some 63) (v:=undef) (a':=?_) #[true,true,true,true,true,true,true,true,true,true,false,false,false,false,false,false] rfl rfl (any_of HT_.out kr) (fun _ _ _ h => h) (Or.inr ⟨by rfl,rfl⟩) ?_ ?_
          rotate_left
          ·exact vs
          refine pure_ (i:=10) (N:=some 64) (v:=undef) (a':=?_) #[true,true,true,true,true,true,true,true,true,true,true,false,false,false,false,false] rfl rfl (any_of HT_.out kr) (fun _ _ _ h => h) (Or.inr ⟨by rfl,rfl⟩) ?_ ?_
          rotate_left
          ·exact vs
          refine pure_ (i:=11) (N:=some 65) (v:=undef) (a':=?_) #[true,true,true,true,true,true,true,true,true,true,true,true,false,false,false,false] rfl rfl (any_of HT_.out kr) (fun _ _ _ h => h) (Or.inr ⟨by rfl,rfl⟩) ?_ ?_
          rotate_left
          ·exact vs
          refine pure_ (i:=12) (N:=some 66) (v:=undef) (a':=?_) #[true,true,true,true,true,true,true,true,true,true,true,true,true,false,false,false] rfl rfl (any_of HT_.out kr) (fun _ _ _ h => h) (Or.inr ⟨by rfl,rfl⟩) ?_ ?_
          rotate_left
          ·exact vs
          refine pure_ (i:=13) (N:=some 67) (v:=undef) (a':=?_) #[true,true,true,true,true,true,true,true,true,true,true,true,true,true,false,false] rfl rfl (any_of HT_.out kr) (fun _ _ _ h => h) (Or.inr ⟨by rfl,rfl⟩) ?_ ?_
          rotate_left
          ·exact vs
          refine pure_ (i:=14) (N:=some 68) (v:=undef) (a':=?_) #[true,true,true,true,true,true,true,true,true,true,true,true,true,true,true,false] rfl rfl (any_of HT_.out kr) (fun _ _ _ h => h) (Or.inr ⟨by rfl,rfl⟩) ?_ ?_
          rotate_left
          ·exact vs
          refine pure_ (i:=15) (N:=some 69) (v:=?_) (a':=?_) #[true,true,true,true,true,true,true,true,true,true,true,true,true,true,true,true] rfl rfl (any_of HT_.out kr) (fun _ _ _ h => h) (Or.inl ⟨by rfl,?_⟩) ?_ ?_
          rotate_left
          ·intro w'
           go_simp
           with_reducible rfl
          rotate_left
          ·exact vs
          refine done_ (done_of HT_.out kr) ?_
          try go_wp2
          go_meet
          case rel => exact ⟨_,(false),ve,H',⟨by have:=HJ9.out;first|omega|exact Nat.le_refl _⟩,⟨vb BK101.out⟩,⟨vb BK102.out⟩,⟨v2 HB.out GE101.out GE102.out⟩⟩
        ·rw [if_neg c30] at H
         exact absurd H (by simp)
       ·rw [if_neg c29] at H
        exact absurd H (by simp)
      case rest =>
       clear HC25
       obtain ⟨kq,x69_24,rfl,HA,HJ24,BK101,BK102,HB⟩:=hcut
       cases kq with
      |zero => exact absurd HA.out (by simp [calxref08_Gap.j1])
      |succ kj24 =>
        have H:=HA.out
        clear HA
        simp only [calxref08_Gap.j1] at H
        by_cases c38 : x69_24 = true
        ·subst c38
         rw [if_pos rfl] at H
         replace H:=Option.bind_eq_some_iff.mp H
         obtain ⟨t113,A390,H⟩:=H
         replace H : (if 0 ≤ a1 then (if a1 < (l0.length : Int) then ((calxref08_parts.f ((rd_T29 l0 a1).f0) ((rd_T29 l0 a1).f1) ((rd_T29 l0 a1).f2) ((rd_T29 l0 a1).f3)).bind fun t117 => (some (t113,t117,true,0))) else (none)) else (none)) = some (r1,r2,r3,r4):=H
         have A39:=am A390
         clear A390
         by_cases c40 : 0 ≤ a1
         ·rw [if_pos c40] at H
          have c40b0 : decide (0 ≤ a1) = true:=decide_eq_true c40
          clear c40
          by_cases c41 : a1 < (l0.length : Int)
          ·rw [if_pos c41] at H
           have c41b0 : decide (a1 < (l0.length : Int)) = true:=decide_eq_true c41
           clear c41
           replace H:=Option.bind_eq_some_iff.mp H
           obtain ⟨t117,A420,H⟩:=H
           replace H : (some (t113,t117,true,0)) = some (r1,r2,r3,r4):=H
           have A42:=am A420
           clear A420
           simp only [Option.some.injEq,Prod.mk.injEq] at H
           obtain ⟨rfl,rfl,rfl,rfl⟩:=H
           try go_wp2
           have n0_:=am (blk_drew BK101.out)
           have n1_:=am (blk_drew BK102.out)
           have n2_:=am (below_drew1 HB.out)
           clear BK101
           clear BK102
           clear HB
           have BK101:=n0_
           have BK102:=n1_
           have HB:=n2_
           clear n0_ n1_ n2_
           have p116 : 0 ≤ (a1 : Int):=of_decide_eq_true va
           have q116 : a1 < (l0.length : Int):=of_decide_eq_true va
           obtain ⟨ad116,e116,hx116_0,hx116_1,hx116_2,hx116_3⟩:=at_T29 HR0.out a1 p116 q116
           have hw116_3:=hx116_3
           have hw116_2:=hx116_2
           have hw116_1:=hx116_1
           have hw116_0:=hx116_0
           cases e116
           replace hx116_0:=(HB.out.cell (wb w _ hx116_0)).trans hx116_0
           replace hx116_1:=(HB.out.cell (wb w _ hx116_1)).trans hx116_1
           replace hx116_2:=(HB.out.cell (wb w _ hx116_2)).trans hx116_2
           replace hx116_3:=(HB.out.cell (wb w _ hx116_3)).trans hx116_3
           replace p116:=eq_true p116
           replace q116:=eq_true q116
           refine start_ (n:=10) (S:=fun w' => w'.cell? ⟨gb101,0,none⟩ = some (.int .i64 a2_0) ∧ w'.cell? ⟨gb101,1,none⟩ = some (.int .i64 a2_1) ∧ w'.cell? ⟨gb101,2,none⟩ = some (.int .i64 a2_2) ∧ w'.cell? ⟨gb101,3,none⟩ = some (.int .i64 a2_3) ∧ w'.cell? (ad116.add ((a1).toNat * 4)) = some (.int .i64 ((rd_T29 l0 a1).f0)) ∧ w'.cell? ⟨(ad116.add ((a1).toNat * 4)).block,(ad116.add ((a1).toNat * 4)).off + 1,none⟩ = some (.int .i64 ((rd_T29 l0 a1).f1)) ∧ w'.cell? ⟨(ad116.add ((a1).toNat * 4)).block,(ad116.add ((a1).toNat * 4)).off + 2,none⟩ = some (.int .i64 ((rd_T29 l0 a1).f2)) ∧ w'.cell? ⟨(ad116.add ((a1).toNat * 4)).block,(ad116.add ((a1).toNat * 4)).off + 3,none⟩ = some (.int .i64 ((rd_T29 l0 a1).f3))) (ds:=[]) #[false,false,false,false,false,false,false,false,false,false] kr rfl rfl ⟨(blk_cell BK101.out 0).trans rfl,(blk_cell BK101.out 1).trans rfl,(blk_cell BK101.out 2).trans rfl,(blk_cell BK101.out 3).trans rfl,((HB.out.cell (wb w _ hw116_0)).trans hw116_0),((HB.out.cell (wb w _ hw116_1)).trans hw116_1),((HB.out.cell (wb w _ hw116_2)).trans hw116_2),((HB.out.cell (wb w _ hw116_3)).trans hw116_3)⟩ (fun hHeld => ?_);refine with_tabW calxref08_Gap.tab12 calxref08_Gap.bits12 (fun HT_ HW_ => ?_)
           generalize wc.drew = w43 at BK101 BK102 HB hx116_0 hx116_1 hx116_2 hx116_3 hHeld ⊢
           refine pure_ (i:=2) (N:=some 72) (v:=?_) (a':=?_) #[false,false,true,false,false,false,false,false,false,false] rfl rfl (any_of HT_.out kr) (fun _ _ _ h => h) (Or.inl ⟨by rfl,?_⟩) ?_ ?_
           rotate_left
           ·intro w'
            go_simp
            with_reducible rfl
           rotate_left
           ·exact vs
           refine pure_ (i:=3) (N:=some 73) (v:=?_) (a':=?_) #[false,false,true,true,false,false,false,false,false,false] rfl rfl (any_of HT_.out kr) (fun _ _ _ h => h) (Or.inl ⟨by rfl,?_⟩) ?_ ?_
           rotate_left
           ·intro w'
            go_simp
            with_reducible rfl
           rotate_left
           ·exact vs
           refine pure_ (i:=4) (N:=some 74) (v:=?_) (a':=?_) #[false,false,true,true,true,false,false,false,false,false] rfl rfl (any_of HT_.out kr) (fun _ _ _ h => h) (Or.inl ⟨by rfl,?_⟩) ?_ ?_
           rotate_left
           ·intro w'
            go_simp
            with_reducible rfl
           rotate_left
           ·exact vs
           refine take_ (i:=0) (N:=some 70) (v:=?_) (a':=?_) #[true,false,true,true,true,false,false,false,false,false] rfl rfl (take_ofW HT_.out HW_.out kr) (fun _ _ _ h => h) (Or.inl ⟨by rfl,?_⟩) hHeld ?_ ?_
           rotate_left
           ·rintro w' ⟨s0,s1,s2,s3,s4,s5,s6,s7⟩
            go_simp
            with_reducible rfl
           rotate_left
           ·exact vs
           refine take_ (i:=5) (N:=some 75) (v:=?_) (a':=?_) #[true,false,true,true,true,true,false,false,false,false] rfl rfl (take_ofW HT_.out HW_.out kr) (fun _ _ _ h => h) (Or.inl ⟨by rfl,?_⟩) hHeld ?_ ?_
           rotate_left
           ·rintro w' ⟨s0,s1,s2,s3,s4,s5,s6,s7⟩
            go_simp
            with_reducible rfl
           rotate_left
           ·exact vs
           refine one_ (i:=1) (N:=some 71) #[true,true,true,true,true,true,false,false,false,false] rfl rfl (one_of HT_.out kr) (by decide) (fun K hK => ?_)
           refine goes_ Try.func143 kr rfl #[.agg #[.int .i64 a2_0,.int .i64 a2_1,.int .i64 a2_2,.int .i64 a2_3]] (by rfl) rfl rfl (by (try simp only [List.map_toArray,List.map_cons,List.map_nil]);first|done|rfl|(simp only [List.length_drop,List.length_take];rfl)) ?_
           with_reducible refine (calxref08_parts.calls a2_0 a2_1 a2_2 a2_3 t113 _ A39.out).mono ?_
           rintro e w44 ⟨v114,rfl,ho0,hb⟩
           refine ⟨_,rfl,?_⟩
           have n0_:=am (Kd.R_lower ho0 (below_size (v2 HB.out GE101.out GE102.out)))
           have n1_:=am (blk_below (g:=gb101) (o:=.cells #[.int .i64 a2_0,.int .i64 a2_1,.int .i64 a2_2,.int .i64 a2_3] 29 (0,0)) (vb BK101.out) hb)
           have n2_:=am (blk_below (g:=gb102) (o:=.cells #[.slice none 0 0,.slice none 0 0,.bool false,.int .i64 0] 118 (0,0)) (vb BK102.out) hb)
           have n3_:=am (below_step (v2 HB.out GE101.out GE102.out) hb)
           clear BK101
           clear BK102
           clear HB
           have HO115:=n0_
           have BK101:=n1_
           have BK102:=n2_
           have HB:=n3_
           clear n0_ n1_ n2_ n3_
           (try clear hb)
           (try clear hb2)
           (try clear hk)
           (try clear hi)
           (try clear ho0)
           refine hK.out _ _ ⟨(blk_cell BK101.out 0).trans rfl,(blk_cell BK101.out 1).trans rfl,(blk_cell BK101.out 2).trans rfl,(blk_cell BK101.out 3).trans rfl,((HB.out.cell (wb w _ hw116_0)).trans hw116_0),((HB.out.cell (wb w _ hw116_1)).trans hw116_1),((HB.out.cell (wb w _ hw116_2)).trans hw116_2),((HB.out.cell (wb w _ hw116_3)).trans hw116_3)⟩ (fun hHeld => ?_)
           clear hK K
           refine norm_ (a':=?_) ?_ ?_
           rotate_left
           ·show Act.put _ (some 71) _ = _
            simp only [Act.put,List.setIfInBounds_toArray,List.set_cons_zero,List.set_cons_succ,i64_w,i32_w]
            rfl
           refine one_ (i:=6) (N:=some 76) #[true,true,true,true,true,true,true,false,false,false] rfl rfl (one_of HT_.out kr) (by decide) (fun K hK => ?_)
           refine goes_ Try.func143 kr rfl #[.agg #[.int .i64 ((rd_T29 l0 a1).f0),.int .i64 ((rd_T29 l0 a1).f1),.int .i64 ((rd_T29 l0 a1).f2),.int .i64 ((rd_T29 l0 a1).f3)]] (by rfl) rfl rfl (by (try simp only [List.map_toArray,List.map_cons,List.map_nil]);first|done|rfl|(simp only [List.length_drop,List.length_take];rfl)) ?_
           with_reducible refine (calxref08_parts.calls ((rd_T29 l0 a1).f0) ((rd_T29 l0 a1).f1) ((rd_T29 l0 a1).f2) ((rd_T29 l0 a1).f3) t117 _ A42.out).mono ?_
           rintro e w45 ⟨v118,rfl,ho0,hb⟩
           refine ⟨_,rfl,?_⟩
           have n0_:=am (Kd.R_elder' (by (with_reducible repeat (first|apply Kd.R_alloc|apply Kd.R_drewN|apply Kd.R_drew));exact HO115.out) (Kd.R_base ho0) hb)
           have n1_:=am (Kd.R_lower (Kd.R_new' ho0 (Kd.R_lt (by (with_reducible repeat (first|apply Kd.R_alloc|apply Kd.R_drewN|apply Kd.R_drew));exact HO115.out))) (below_size (v2 HB.out GE101.out GE102.out)))
           have n2_:=am (blk_below (g:=gb101) (o:=.cells #[.int .i64 a2_0,.int .i64 a2_1,.int .i64 a2_2,.int .i64 a2_3] 29 (0,0)) (vb BK101.out) hb)
           have n3_:=am (blk_below (g:=gb102) (o:=.cells #[.slice none 0 0,.slice none 0 0,.bool false,.int .i64 0] 118 (0,0)) (vb BK102.out) hb)
           have n4_:=am (below_step (v2 HB.out GE101.out GE102.out) hb)
           clear HO115
           clear BK101
           clear BK102
           clear HB
           have HO115:=n0_
           have HO119:=n1_
           have BK101:=n2_
           have BK102:=n3_
           have HB:=n4_
           clear n0_ n1_ n2_ n3_ n4_
           (try clear hb)
           (try clear hb2)
           (try clear hk)
           (try clear hi)
           (try clear ho0)
           obtain ⟨Ao46,co46,eo46⟩:=Kd.R_slice HO119.out
           (first|subst eo46|(injection eo46 with f1_ f2_ f3_;have f4_:=f1_.symm;have f5_:=f3_.symm;clear f1_ f2_ f3_;subst f4_;subst f5_))
           obtain ⟨Ao47,co47,eo47⟩:=Kd.R_slice HO115.out
           (first|subst eo47|(injection eo47 with f1_ f2_ f3_;have f4_:=f1_.symm;have f5_:=f3_.symm;clear f1_ f2_ f3_;subst f4_;subst f5_))
           refine hK.out _ _ ⟨(blk_cell BK101.out 0).trans rfl,(blk_cell BK101.out 1).trans rfl,(blk_cell BK101.out 2).trans rfl,(blk_cell BK101.out 3).trans rfl,((HB.out.cell (wb w _ hw116_0)).trans hw116_0),((HB.out.cell (wb w _ hw116_1)).trans hw116_1),((HB.out.cell (wb w _ hw116_2)).trans hw116_2),((HB.out.cell (wb w _ hw116_3)).trans hw116_3)⟩ (fun hHeld => ?_)
           clear hK K
           refine norm_ (a':=?_) ?_ ?_
           rotate_left
           ·show Act.put _ (some 76) _ = _
            simp only [Act.put,List.setIfInBounds_toArray,List.set_cons_zero,List.set_cons_succ,i64_w,i32_w]
            rfl
           refine pure_ (i:=7) (N:=some 77) (v:=?_) (a':=?_) #[true,true,true,true,true,true,true,true,false,false] rfl rfl (any_of HT_.out kr) (fun _ _ _ h => h) (Or.inl ⟨by rfl,?_⟩) ?_ ?_
           rotate_left
           ·intro w'
            go_simp
            with_reducible rfl
           rotate_left
           ·exact vs
           refine pure_ (i:=8) (N:=some 78) (v:=?_) (a':=?_) #[true,true,true,true,true,true,true,true,true,false] rfl rfl (any_of HT_.out kr) (fun _ _ _ h => h) (Or.inl ⟨by rfl,?_⟩) ?_ ?_
           rotate_left
           ·intro w'
            go_simp
            with_reducible rfl
           rotate_left
           ·exact vs
           refine one_ (i:=9) (N:=none) #[true,true,true,true,true,true,true,true,true,true] rfl rfl (one_of HT_.out kr) (by decide) (fun K hK => ?_)
           have hs48 : w45.cell? ⟨gb102,0,none⟩ = some (.slice none 0 0):=(blk_cell BK102.out 0).trans rfl
           have hfs48:=blk_frozen BK102.out 0
           have hns48_0:=NB101_102.out
           have hms48_0:=NB102_101.out
           have hs49 : w45.cell? ⟨gb102,1,none⟩ = some (.slice none 0 0):=(blk_cell BK102.out 1).trans rfl
           have hfs49:=blk_frozen BK102.out 1
           have hns49_0:=NB101_102.out
           have hms49_0:=NB102_101.out
           have hs50 : w45.cell? ⟨gb102,2,none⟩ = some (.bool false):=(blk_cell BK102.out 2).trans rfl
           have hfs50:=blk_frozen BK102.out 2
           have hns50_0:=NB101_102.out
           have hms50_0:=NB102_101.out
           have hs51 : w45.cell? ⟨gb102,3,none⟩ = some (.int .i64 0):=(blk_cell BK102.out 3).trans rfl
           have hfs51:=blk_frozen BK102.out 3
           have hns51_0:=NB101_102.out
           have hms51_0:=NB102_101.out
           refine skip_ (w1:=?_) (by rfl) rfl ?_ ?_
           rotate_left
           ·go_simp
            rfl
           refine hK.out _ _ ⟨((cell_far (p:=⟨gb102,_,none⟩) NB101_102.out _).trans (((cell_far (p:=⟨gb102,_,none⟩) NB101_102.out _).trans (((cell_far (p:=⟨gb102,_,none⟩) NB101_102.out _).trans (((cell_far (p:=⟨gb102,_,none⟩) NB101_102.out _).trans (hHeld.1)))))))),((cell_far (p:=⟨gb102,_,none⟩) NB101_102.out _).trans (((cell_far (p:=⟨gb102,_,none⟩) NB101_102.out _).trans (((cell_far (p:=⟨gb102,_,none⟩) NB101_102.out _).trans (((cell_far (p:=⟨gb102,_,none⟩) NB101_102.out _).trans (hHeld.2.1)))))))),((cell_far (p:=⟨gb102,_,none⟩) NB101_102.out _).trans (((cell_far (p:=⟨gb102,_,none⟩) NB101_102.out _).trans (((cell_far (p:=⟨gb102,_,none⟩) NB101_102.out _).trans (((cell_far (p:=⟨gb102,_,none⟩) NB101_102.out _).trans (hHeld.2.2.1)))))))),((cell_far (p:=⟨gb102,_,none⟩) NB101_102.out _).trans (((cell_far (p:=⟨gb102,_,none⟩) NB101_102.out _).trans (((cell_far (p:=⟨gb102,_,none⟩) NB101_102.out _).trans (((cell_far (p:=⟨gb102,_,none⟩) NB101_102.out _).trans (hHeld.2.2.2.1)))))))),((cell_far (p:=⟨gb102,_,none⟩) (by first|exact Nat.ne_of_lt (Nat.lt_of_lt_of_le (by have:=wb _ _ hw116_0;first|rwa [add_block] at this|exact this) GW102.out)|(rw [add_block];exact Nat.ne_of_lt (Nat.lt_of_lt_of_le (by have:=wb _ _ hw116_0;first|rwa [add_block] at this|exact this) GW102.out))|(show (Addr.add _ _).block ≠ _;rw [add_block];exact Nat.ne_of_lt (Nat.lt_of_lt_of_le (by have:=wb _ _ hw116_0;first|rwa [add_block] at this|exact this) GW102.out))|(dsimp only;exact Nat.ne_of_lt (Nat.lt_of_lt_of_le (by have:=wb _ _ hw116_0;first|rwa [add_block] at this|exact this) GW102.out))) _).trans (((cell_far (p:=⟨gb102,_,none⟩) (by first|exact Nat.ne_of_lt (Nat.lt_of_lt_of_le (by have:=wb _ _ hw116_0;first|rwa [add_block] at this|exact this) GW102.out)|(rw [add_block];exact Nat.ne_of_lt (Nat.lt_of_lt_of_le (by have:=wb _ _ hw116_0;first|rwa [add_block] at this|exact this) GW102.out))|(show (Addr.add _ _).block ≠ _;rw [add_block];exact Nat.ne_of_lt (Nat.lt_of_lt_of_le (by have:=wb _ _ hw116_0;first|rwa [add_block] at this|exact this) GW102.out))|(dsimp only;exact Nat.ne_of_lt (Nat.lt_of_lt_of_le (by have:=wb _ _ hw116_0;first|rwa [add_block] at this|exact this) GW102.out))) _).trans (((cell_far (p:=⟨gb102,_,none⟩) (by first|exact Nat.ne_of_lt (Nat.lt_of_lt_of_le (by have:=wb _ _ hw116_0;first|rwa [add_block] at this|exact this) GW102.out)|(rw [add_block];exact Nat.ne_of_lt (Nat.lt_of_lt_of_le (by have:=wb _ _ hw116_0;first|rwa [add_block] at this|exact this) GW102.out))|(show (Addr.add _ _).block ≠ _;rw [add_block];exact Nat.ne_of_lt (Nat.lt_of_lt_of_le (by have:=wb _ _ hw116_0;first|rwa [add_block] at this|exact this) GW102.out))|(dsimp only;exact Nat.ne_of_lt (Nat.lt_of_lt_of_le (by have:=wb _ _ hw116_0;first|rwa [add_block] at this|exact this) GW102.out))) _).trans (((cell_far (p:=⟨gb102,_,none⟩) (by first|exact Nat.ne_of_lt (Nat.lt_of_lt_of_le (by have:=wb _ _ hw116_0;first|rwa [add_block] at this|exact this) GW102.out)|(rw [add_block];exact Nat.ne_of_lt (Nat.lt_of_lt_of_le (by have:=wb _ _ hw116_0;first|rwa [add_block] at this|exact this) GW102.out))|(show (Addr.add _ _).block ≠ _;rw [add_block];exact Nat.ne_of_lt (Nat.lt_of_lt_of_le (by have:=wb _ _ hw116_0;first|rwa [add_block] at this|exact this) GW102.out))|(dsimp only;exact Nat.ne_of_lt (Nat.lt_of_lt_of_le (by have:=wb _ _ hw116_0;first|rwa [add_block] at this|exact this) GW102.out))) _).trans (hHeld.2.2.2.2.1)))))))),((cell_far (p:=⟨gb102,_,none⟩) (by first|exact Nat.ne_of_lt (Nat.lt_of_lt_of_le (by have:=wb _ _ hw116_1;first|rwa [add_block] at this|exact this) GW102.out)|(rw [add_block];exact Nat.ne_of_lt (Nat.lt_of_lt_of_le (by have:=wb _ _ hw116_1;first|rwa [add_block] at this|exact this) GW102.out))|(show (Addr.add _ _).block ≠ _;rw [add_block];exact Nat.ne_of_lt (Nat.lt_of_lt_of_le (by have:=wb _ _ hw116_1;first|rwa [add_block] at this|exact this) GW102.out))|(dsimp only;exact Nat.ne_of_lt (Nat.lt_of_lt_of_le (by have:=wb _ _ hw116_1;first|rwa [add_block] at this|exact this) GW102.out))) _).trans (((cell_far (p:=⟨gb102,_,none⟩) (by first|exact Nat.ne_of_lt (Nat.lt_of_lt_of_le (by have:=wb _ _ hw116_1;first|rwa [add_block] at this|exact this) GW102.out)|(rw [add_block];exact Nat.ne_of_lt (Nat.lt_of_lt_of_le (by have:=wb _ _ hw116_1;first|rwa [add_block] at this|exact this) GW102.out))|(show (Addr.add _ _).block ≠ _;rw [add_block];exact Nat.ne_of_lt (Nat.lt_of_lt_of_le (by have:=wb _ _ hw116_1;first|rwa [add_block] at this|exact this) GW102.out))|(dsimp only;exact Nat.ne_of_lt (Nat.lt_of_lt_of_le (by have:=wb _ _ hw116_1;first|rwa [add_block] at this|exact this) GW102.out))) _).trans (((cell_far (p:=⟨gb102,_,none⟩) (by first|exact Nat.ne_of_lt (Nat.lt_of_lt_of_le (by have:=wb _ _ hw116_1;first|rwa [add_block] at this|exact this) GW102.out)|(rw [add_block];exact Nat.ne_of_lt (Nat.lt_of_lt_of_le (by have:=wb _ _ hw116_1;first|rwa [add_block] at this|exact this) GW102.out))|(show (Addr.add _ _).block ≠ _;rw [add_block];exact Nat.ne_of_lt (Nat.lt_of_lt_of_le (by have:=wb _ _ hw116_1;first|rwa [add_block] at this|exact this) GW102.out))|(dsimp only;exact Nat.ne_of_lt (Nat.lt_of_lt_of_le (by have:=wb _ _ hw116_1;first|rwa [add_block] at this|exact this) GW102.out))) _).trans (((cell_far (p:=⟨gb102,_,none⟩) (by first|exact Nat.ne_of_lt (Nat.lt_of_lt_of_le (by have:=wb _ _ hw116_1;first|rwa [add_block] at this|exact this) GW102.out)|(rw [add_block];exact Nat.ne_of_lt (Nat.lt_of_lt_of_le (by have:=wb _ _ hw116_1;first|rwa [add_block] at this|exact this) GW102.out))|(show (Addr.add _ _).block ≠ _;rw [add_block];exact Nat.ne_of_lt (Nat.lt_of_lt_of_le (by have:=wb _ _ hw116_1;first|rwa [add_block] at this|exact this) GW102.out))|(dsimp only;exact Nat.ne_of_lt (Nat.lt_of_lt_of_le (by have:=wb _ _ hw116_1;first|rwa [add_block] at this|exact this) GW102.out))) _).trans (hHeld.2.2.2.2.2.1)))))))),((cell_far (p:=⟨gb102,_,none⟩) (by first|exact Nat.ne_of_lt (Nat.lt_of_lt_of_le (by have:=wb _ _ hw116_2;first|rwa [add_block] at this|exact this) GW102.out)|(rw [add_block];exact Nat.ne_of_lt (Nat.lt_of_lt_of_le (by have:=wb _ _ hw116_2;first|rwa [add_block] at this|exact this) GW102.out))|(show (Addr.add _ _).block ≠ _;rw [add_block];exact Nat.ne_of_lt (Nat.lt_of_lt_of_le (by have:=wb _ _ hw116_2;first|rwa [add_block] at this|exact this) GW102.out))|(dsimp only;exact Nat.ne_of_lt (Nat.lt_of_lt_of_le (by have:=wb _ _ hw116_2;first|rwa [add_block] at this|exact this) GW102.out))) _).trans (((cell_far (p:=⟨gb102,_,none⟩) (by first|exact Nat.ne_of_lt (Nat.lt_of_lt_of_le (by have:=wb _ _ hw116_2;first|rwa [add_block] at this|exact this) GW102.out)|(rw [add_block];exact Nat.ne_of_lt (Nat.lt_of_lt_of_le (by have:=wb _ _ hw116_2;first|rwa [add_block] at this|exact this) GW102.out))|(show (Addr.add _ _).block ≠ _;rw [add_block];exact Nat.ne_of_lt (Nat.lt_of_lt_of_le (by have:=wb _ _ hw116_2;first|rwa [add_block] at this|exact this) GW102.out))|(dsimp only;exact Nat.ne_of_lt (Nat.lt_of_lt_of_le (by have:=wb _ _ hw116_2;first|rwa [add_block] at this|exact this) GW102.out))) _).trans (((cell_far (p:=⟨gb102,_,none⟩) (by first|exact Nat.ne_of_lt (Nat.lt_of_lt_of_le (by have:=wb _ _ hw116_2;first|rwa [add_block] at this|exact this) GW102.out)|(rw [add_block];exact Nat.ne_of_lt (Nat.lt_of_lt_of_le (by have:=wb _ _ hw116_2;first|rwa [add_block] at this|exact this) GW102.out))|(show (Addr.add _ _).block ≠ _;rw [add_block];exact Nat.ne_of_lt (Nat.lt_of_lt_of_le (by have:=wb _ _ hw116_2;first|rwa [add_block] at this|exact this) GW102.out))|(dsimp only;exact Nat.ne_of_lt (Nat.lt_of_lt_of_le (by have:=wb _ _ hw116_2;first|rwa [add_block] at this|exact this) GW102.out))) _).trans (((cell_far (p:=⟨gb102,_,none⟩) (by first|exact Nat.ne_of_lt (Nat.lt_of_lt_of_le (by have:=wb _ _ hw116_2;first|rwa [add_block] at this|exact this) GW102.out)|(rw [add_block];exact Nat.ne_of_lt (Nat.lt_of_lt_of_le (by have:=wb _ _ hw116_2;first|rwa [add_block] at this|exact this) GW102.out))|(show (Addr.add _ _).block ≠ _;rw [add_block];exact Nat.ne_of_lt (Nat.lt_of_lt_of_le (by have:=wb _ _ hw116_2;first|rwa [add_block] at this|exact this) GW102.out))|(dsimp only;exact Nat.ne_of_lt (Nat.lt_of_lt_of_le (by have:=wb _ _ hw116_2;first|rwa [add_block] at this|exact this) GW102.out))) _).trans (hHeld.2.2.2.2.2.2.1)))))))),((cell_far (p:=⟨gb102,_,none⟩) (by first|exact Nat.ne_of_lt (Nat.lt_of_lt_of_le (by have:=wb _ _ hw116_3;first|rwa [add_block] at this|exact this) GW102.out)|(rw [add_block];exact Nat.ne_of_lt (Nat.lt_of_lt_of_le (by have:=wb _ _ hw116_3;first|rwa [add_block] at this|exact this) GW102.out))|(show (Addr.add _ _).block ≠ _;rw [add_block];exact Nat.ne_of_lt (Nat.lt_of_lt_of_le (by have:=wb _ _ hw116_3;first|rwa [add_block] at this|exact this) GW102.out))|(dsimp only;exact Nat.ne_of_lt (Nat.lt_of_lt_of_le (by have:=wb _ _ hw116_3;first|rwa [add_block] at this|exact this) GW102.out))) _).trans (((cell_far (p:=⟨gb102,_,none⟩) (by first|exact Nat.ne_of_lt (Nat.lt_of_lt_of_le (by have:=wb _ _ hw116_3;first|rwa [add_block] at this|exact this) GW102.out)|(rw [add_block];exact Nat.ne_of_lt (Nat.lt_of_lt_of_le (by have:=wb _ _ hw116_3;first|rwa [add_block] at this|exact this) GW102.out))|(show (Addr.add _ _).block ≠ _;rw [add_block];exact Nat.ne_of_lt (Nat.lt_of_lt_of_le (by have:=wb _ _ hw116_3;first|rwa [add_block] at this|exact this) GW102.out))|(dsimp only;exact Nat.ne_of_lt (Nat.lt_of_lt_of_le (by have:=wb _ _ hw116_3;first|rwa [add_block] at this|exact this) GW102.out))) _).trans (((cell_far (p:=⟨gb102,_,none⟩) (by first|exact Nat.ne_of_lt (Nat.lt_of_lt_of_le (by have:=wb _ _ hw116_3;first|rwa [add_block] at this|exact this) GW102.out)|(rw [add_block];exact Nat.ne_of_lt (Nat.lt_of_lt_of_le (by have:=wb _ _ hw116_3;first|rwa [add_block] at this|exact this) GW102.out))|(show (Addr.add _ _).block ≠ _;rw [add_block];exact Nat.ne_of_lt (Nat.lt_of_lt_of_le (by have:=wb _ _ hw116_3;first|rwa [add_block] at this|exact this) GW102.out))|(dsimp only;exact Nat.ne_of_lt (Nat.lt_of_lt_of_le (by have:=wb _ _ hw116_3;first|rwa [add_block] at this|exact this) GW102.out))) _).trans (((cell_far (p:=⟨gb102,_,none⟩) (by first|exact Nat.ne_of_lt (Nat.lt_of_lt_of_le (by have:=wb _ _ hw116_3;first|rwa [add_block] at this|exact this) GW102.out)|(rw [add_block];exact Nat.ne_of_lt (Nat.lt_of_lt_of_le (by have:=wb _ _ hw116_3;first|rwa [add_block] at this|exact this) GW102.out))|(show (Addr.add _ _).block ≠ _;rw [add_block];exact Nat.ne_of_lt (Nat.lt_of_lt_of_le (by have:=wb _ _ hw116_3;first|rwa [add_block] at this|exact this) GW102.out))|(dsimp only;exact Nat.ne_of_lt (Nat.lt_of_lt_of_le (by have:=wb _ _ hw116_3;first|rwa [add_block] at this|exact this) GW102.out))) _).trans (hHeld.2.2.2.2.2.2.2))))))))⟩ (fun hHeld => ?_)
           clear hK K
           refine done_ (done_of HT_.out kr) ?_
           try go_wp2
           refine bodyPost_ret (results_cell_row rfl _ _ gb102 118 #[.slice Ao47 t113.length co47,.slice Ao46 t117.length co46,.bool true,.int .i64 0] (0,0) _ rfl (by (with_reducible repeat (first|refine blk_drewN ?_ _|refine blk_drew ?_|refine blk_alloc ?_ _));refine blk_put (cs:=#[.slice Ao47 t113.length co47,.slice Ao46 t117.length co46,.bool true,.int .i64 0]) ?_ 3 _ rfl;(with_reducible repeat (first|refine blk_drewN ?_ _|refine blk_drew ?_|refine blk_alloc ?_ _));refine blk_put (cs:=#[.slice Ao47 t113.length co47,.slice Ao46 t117.length co46,.bool false,.int .i64 0]) ?_ 2 _ rfl;(with_reducible repeat (first|refine blk_drewN ?_ _|refine blk_drew ?_|refine blk_alloc ?_ _));refine blk_put (cs:=#[.slice Ao47 t113.length co47,.slice none 0 0,.bool false,.int .i64 0]) ?_ 1 _ rfl;(with_reducible repeat (first|refine blk_drewN ?_ _|refine blk_drew ?_|refine blk_alloc ?_ _));refine blk_put (cs:=#[.slice none 0 0,.slice none 0 0,.bool false,.int .i64 0]) ?_ 0 _ rfl;(with_reducible repeat (first|refine blk_drewN ?_ _|refine blk_drew ?_|refine blk_alloc ?_ _));exact BK102.out) Try.underlying118 rfl kr) rfl ?_
           exact ⟨_,_,vf,by (with_reducible repeat (first|apply Kd.R_alloc|apply Kd.R_drewN|apply Kd.R_drew));exact Kd.R_mono (Kd.R_far (p:=⟨gb102,3,none⟩) (Kd.R_far (p:=⟨gb102,2,none⟩) (Kd.R_far (p:=⟨gb102,1,none⟩) (Kd.R_far (p:=⟨gb102,0,none⟩) (Kd.R_types HO115.out BK102.out (by decide)) (fun _ hk => hk.2) (.slice Ao47 t113.length co47)) (fun _ hk => hk.2) (.slice Ao46 t117.length co46)) (fun _ hk => hk.2) (.bool true)) (fun _ hk => hk.2) (.int .i64 0)) (fun _ hk => hk.1.2),by (with_reducible repeat (first|apply Kd.R_alloc|apply Kd.R_drewN|apply Kd.R_drew));exact Kd.R_mono (Kd.R_far (p:=⟨gb102,3,none⟩) (Kd.R_far (p:=⟨gb102,2,none⟩) (Kd.R_far (p:=⟨gb102,1,none⟩) (Kd.R_far (p:=⟨gb102,0,none⟩) (Kd.R_types HO119.out BK102.out (by decide)) (fun _ hk => hk.2) (.slice Ao47 t113.length co47)) (fun _ hk => hk.2) (.slice Ao46 t117.length co46)) (fun _ hk => hk.2) (.bool true)) (fun _ hk => hk.2) (.int .i64 0)) (fun _ hk => hk.1.2),v2 HB.out GE101.out GE102.out⟩
          ·rw [if_neg c41] at H
           exact absurd H (by simp)
         ·rw [if_neg c40] at H
          exact absurd H (by simp)
        ·replace c38:=Bool.eq_false_iff.mpr c38
         subst c38
         rw [if_neg (show ¬ (false = true) by decide)] at H
         replace H:=Option.bind_eq_some_iff.mp H
         obtain ⟨t120,A520,H⟩:=H
         replace H : ((calxref08_climb.f l3 a1 t120).bind fun t121 => ((calxref08_beside.f kj24 l0 0 (l0.length : Int) a1).bind fun t124 => (if 0 ≤ a1 then (if a1 < (l0.length : Int) then ((calxref08_leaf.f kj24 ((rd_T29 l0 a1).f0) ((rd_T29 l0 a1).f1) ((rd_T29 l0 a1).f2) ((rd_T29 l0 a1).f3)).bind fun t128 => ((calxref08_climb.f t124 a1 t128).bind fun t129 => (calxref08_Gap.l0 kj24 t121 t129 0))) else (none)) else (none)))) = some (r1,r2,r3,r4):=H
         have A52:=am A520
         clear A520
         replace H:=Option.bind_eq_some_iff.mp H
         obtain ⟨t121,A530,H⟩:=H
         replace H : ((calxref08_beside.f kj24 l0 0 (l0.length : Int) a1).bind fun t124 => (if 0 ≤ a1 then (if a1 < (l0.length : Int) then ((calxref08_leaf.f kj24 ((rd_T29 l0 a1).f0) ((rd_T29 l0 a1).f1) ((rd_T29 l0 a1).f2) ((rd_T29 l0 a1).f3)).bind fun t128 => ((calxref08_climb.f t124 a1 t128).bind fun t129 => (calxref08_Gap.l0 kj24 t121 t129 0))) else (none)) else (none))) = some (r1,r2,r3,r4):=H
         have A53:=am A530
         clear A530
         replace H:=Option.bind_eq_some_iff.mp H
         obtain ⟨t124,A540,H⟩:=H
         replace H : (if 0 ≤ a1 then (if a1 < (l0.length : Int) then ((calxref08_leaf.f kj24 ((rd_T29 l0 a1).f0) ((rd_T29 l0 a1).f1) ((rd_T29 l0 a1).f2) ((rd_T29 l0 a1).f3)).bind fun t128 => ((calxref08_climb.f t124 a1 t128).bind fun t129 => (calxref08_Gap.l0 kj24 t121 t129 0))) else (none)) else (none)) = some (r1,r2,r3,r4):=H
         have A54:=am A540
         clear A540
         by_cases c55 : 0 ≤ a1
         ·rw [if_pos c55] at H
          have c55b0 : decide (0 ≤ a1) = true:=decide_eq_true c55
          clear c55
          by_cases c56 : a1 < (l0.length : Int)
          ·rw [if_pos c56] at H
           have c56b0 : decide (a1 < (l0.length : Int)) = true:=decide_eq_true c56
           clear c56
           replace H:=Option.bind_eq_some_iff.mp H
           obtain ⟨t128,A570,H⟩:=H
           replace H : ((calxref08_climb.f t124 a1 t128).bind fun t129 => (calxref08_Gap.l0 kj24 t121 t129 0)) = some (r1,r2,r3,r4):=H
           have A57:=am A570
           clear A570
           replace H:=Option.bind_eq_some_iff.mp H
           obtain ⟨t129,A580,H⟩:=H
           replace H : (calxref08_Gap.l0 kj24 t121 t129 0) = some (r1,r2,r3,r4):=H
           have A58:=am A580
           clear A580
           have H':=am H
           clear H
           have hnb59:=NB101_102.out
           have hnc59:=NB102_101.out
           have hcz60_0 : wc.cell? ⟨gb101,0,none⟩ = some (.int .i64 a2_0):=(blk_cell BK101.out 0).trans rfl
           have hcz60_1 : wc.cell? ⟨gb101,1,none⟩ = some (.int .i64 a2_1):=(blk_cell BK101.out 1).trans rfl
           have hcz60_2 : wc.cell? ⟨gb101,2,none⟩ = some (.int .i64 a2_2):=(blk_cell BK101.out 2).trans rfl
           have hcz60_3 : wc.cell? ⟨gb101,3,none⟩ = some (.int .i64 a2_3):=(blk_cell BK101.out 3).trans rfl
           have hfz60_0:=blk_frozen BK101.out 0
           have hfz60_1:=blk_frozen BK101.out 1
           have hfz60_2:=blk_frozen BK101.out 2
           have hfz60_3:=blk_frozen BK101.out 3
           try go_wp2_with (first|((with_reducible refine gate_callee (f:=102) rfl ?_);refine goesL_ (some 82) rfl rfl Try.func102 kr rfl #[.agg #[.int .i64 a2_0,.int .i64 a2_1,.int .i64 a2_2,.int .i64 a2_3]] rfl (by (try simp only [List.map_toArray,List.map_cons,List.map_nil]);first|done|rfl|(simp only [List.length_drop,List.length_take];rfl)) ?_;(with_reducible refine (calxref08_leaf.calls kj24 a2_0 a2_1 a2_2 a2_3 t120 _ A52.out).mono ?_);rintro e w61 ⟨rfl,hb⟩;refine ⟨_,rfl,?_⟩;have n0_:=am (blk_below (g:=gb101) (o:=.cells #[.int .i64 a2_0,.int .i64 a2_1,.int .i64 a2_2,.int .i64 a2_3] 29 (0,0)) (vb BK101.out) hb);have n1_:=am (blk_below (g:=gb102) (o:=.cells #[.slice none 0 0,.slice none 0 0,.bool false,.int .i64 0] 118 (0,0)) (vb BK102.out) hb);have n2_:=am (below_step (v2 HB.out GE101.out GE102.out) hb);clear BK101;clear BK102;clear HB;have BK101:=n0_;have BK102:=n1_;have HB:=n2_;clear n0_ n1_ n2_;(try clear hb);(try clear hb2);(try clear hk);(try clear hi))|((with_reducible refine gate_callee (f:=144) rfl ?_);refine goesL_ (some 83) rfl rfl Try.func144 kr rfl #[.slice A3 l3.length c3,.int .i64 a1,.int .i64 t120] rfl (by (try simp only [List.map_toArray,List.map_cons,List.map_nil]);first|done|rfl|(simp only [List.length_drop,List.length_take];rfl)) ?_;(with_reducible refine (calxref08_climb.calls _ _ l3 a1 t120 t121 _ ?side1 ?side2 A53.out).mono ?_);(case side1 => repeat (first|exact (Kd.C_below HR3.out HB.out)|(with_reducible refine Kd.C_alloc ?_ _)|(with_reducible refine Kd.C_drewN ?_ _)|(with_reducible refine Kd.C_drew ?_)));(case side2 => exact HC3.out);rintro e w62 ⟨v122,rfl,ho0,hb⟩;refine ⟨_,rfl,?_⟩;have n0_:=am (Kd.R_lower ho0 (below_size (v2 HB.out GE101.out GE102.out)));have n1_:=am (blk_below (g:=gb101) (o:=.cells #[.int .i64 a2_0,.int .i64 a2_1,.int .i64 a2_2,.int .i64 a2_3] 29 (0,0)) (vb BK101.out) hb);have n2_:=am (blk_below (g:=gb102) (o:=.cells #[.slice none 0 0,.slice none 0 0,.bool false,.int .i64 0] 118 (0,0)) (vb BK102.out) hb);have n3_:=am (below_step (v2 HB.out GE101.out GE102.out) hb);clear BK101;clear BK102;clear HB;have HO123:=n0_;have BK101:=n1_;have BK102:=n2_;have HB:=n3_;clear n0_ n1_ n2_ n3_;(try clear hb);(try clear hb2);(try clear hk);(try clear hi);(try clear ho0)))
           have n0_:=am (Kd.R_drew HO123.out)
           have n1_:=am (blk_drew BK101.out)
           have n2_:=am (blk_drew BK102.out)
           have n3_:=am (below_drew1 HB.out)
           clear HO123
           clear BK101
           clear BK102
           clear HB
           have HO123:=n0_
           have BK101:=n1_
           have BK102:=n2_
           have HB:=n3_
           clear n0_ n1_ n2_ n3_
           have p127 : 0 ≤ (a1 : Int):=of_decide_eq_true va
           have q127 : a1 < (l0.length : Int):=of_decide_eq_true va
           obtain ⟨ad127,e127,hx127_0,hx127_1,hx127_2,hx127_3⟩:=at_T29 HR0.out a1 p127 q127
           have hw127_3:=hx127_3
           have hw127_2:=hx127_2
           have hw127_1:=hx127_1
           have hw127_0:=hx127_0
           cases e127
           replace hx127_0:=(HB.out.cell (wb w _ hx127_0)).trans hx127_0
           replace hx127_1:=(HB.out.cell (wb w _ hx127_1)).trans hx127_1
           replace hx127_2:=(HB.out.cell (wb w _ hx127_2)).trans hx127_2
           replace hx127_3:=(HB.out.cell (wb w _ hx127_3)).trans hx127_3
           replace p127:=eq_true p127
           replace q127:=eq_true q127
           refine start_ (n:=13) (S:=fun w' => w'.cell? (ad127.add ((a1).toNat * 4)) = some (.int .i64 ((rd_T29 l0 a1).f0)) ∧ w'.cell? ⟨(ad127.add ((a1).toNat * 4)).block,(ad127.add ((a1).toNat * 4)).off + 1,none⟩ = some (.int .i64 ((rd_T29 l0 a1).f1)) ∧ w'.cell? ⟨(ad127.add ((a1).toNat * 4)).block,(ad127.add ((a1).toNat * 4)).off + 2,none⟩ = some (.int .i64 ((rd_T29 l0 a1).f2)) ∧ w'.cell? ⟨(ad127.add ((a1).toNat * 4)).block,(ad127.add ((a1).toNat * 4)).off + 3,none⟩ = some (.int .i64 ((rd_T29 l0 a1).f3))) (ds:=[]) #[false,false,false,false,false,false,false,false,false,false,false,false,false] kr rfl rfl ⟨((HB.out.cell (wb w _ hw127_0)).trans hw127_0),((HB.out.cell (wb w _ hw127_1)).trans hw127_1),((HB.out.cell (wb w _ hw127_2)).trans hw127_2),((HB.out.cell (wb w _ hw127_3)).trans hw127_3)⟩ (fun hHeld => ?_);refine with_tabW calxref08_Gap.tab14 calxref08_Gap.bits14 (fun HT_ HW_ => ?_)
           generalize w62.drew = w63 at HO123 BK101 BK102 HB hx127_0 hx127_1 hx127_2 hx127_3 hHeld ⊢
           refine pure_ (i:=0) (N:=some 84) (v:=?_) (a':=?_) #[true,false,false,false,false,false,false,false,false,false,false,false,false] rfl rfl (any_of HT_.out kr) (fun _ _ _ h => h) (Or.inl ⟨by rfl,?_⟩) ?_ ?_
           rotate_left
           ·intro w'
            go_simp
            with_reducible rfl
           rotate_left
           ·exact vs
           refine pure_ (i:=1) (N:=some 85) (v:=?_) (a':=?_) #[true,true,false,false,false,false,false,false,false,false,false,false,false] rfl rfl (any_of HT_.out kr) (fun _ _ _ h => h) (Or.inl ⟨by rfl,?_⟩) ?_ ?_
           rotate_left
           ·intro w'
            go_simp
            with_reducible rfl
           rotate_left
           ·exact vs
           refine pure_ (i:=2) (N:=some 86) (v:=?_) (a':=?_) #[true,true,true,false,false,false,false,false,false,false,false,false,false] rfl rfl (any_of HT_.out kr) (fun _ _ _ h => h) (Or.inl ⟨by rfl,?_⟩) ?_ ?_
           rotate_left
           ·intro w'
            go_simp
            with_reducible rfl
           rotate_left
           ·exact vs
           refine pure_ (i:=3) (N:=some 87) (v:=?_) (a':=?_) #[true,true,true,true,false,false,false,false,false,false,false,false,false] rfl rfl (any_of HT_.out kr) (fun _ _ _ h => h) (Or.inl ⟨by rfl,?_⟩) ?_ ?_
           rotate_left
           ·intro w'
            go_simp
            with_reducible rfl
           rotate_left
           ·exact vs
           refine pure_ (i:=5) (N:=some 89) (v:=?_) (a':=?_) #[true,true,true,true,false,true,false,false,false,false,false,false,false] rfl rfl (any_of HT_.out kr) (fun _ _ _ h => h) (Or.inl ⟨by rfl,?_⟩) ?_ ?_
           rotate_left
           ·intro w'
            go_simp
            with_reducible rfl
           rotate_left
           ·exact vs
           refine pure_ (i:=6) (N:=some 90) (v:=?_) (a':=?_) #[true,true,true,true,false,true,true,false,false,false,false,false,false] rfl rfl (any_of HT_.out kr) (fun _ _ _ h => h) (Or.inl ⟨by rfl,?_⟩) ?_ ?_
           rotate_left
           ·intro w'
            go_simp
            with_reducible rfl
           rotate_left
           ·exact vs
           refine pure_ (i:=7) (N:=some 91) (v:=?_) (a':=?_) #[true,true,true,true,false,true,true,true,false,false,false,false,false] rfl rfl (any_of HT_.out kr) (fun _ _ _ h => h) (Or.inl ⟨by rfl,?_⟩) ?_ ?_
           rotate_left
           ·intro w'
            go_simp
            with_reducible rfl
           rotate_left
           ·exact vs
           refine pure_ (i:=8) (N:=some 92) (v:=?_) (a':=?_) #[true,true,true,true,false,true,true,true,true,false,false,false,false] rfl rfl (any_of HT_.out kr) (fun _ _ _ h => h) (Or.inl ⟨by rfl,?_⟩) ?_ ?_
           rotate_left
           ·intro w'
            go_simp
            with_reducible rfl
           rotate_left
           ·exact vs
           refine take_ (i:=9) (N:=some 93) (v:=?_) (a':=?_) #[true,true,true,true,false,true,true,true,true,true,false,false,false] rfl rfl (take_ofW HT_.out HW_.out kr) (fun _ _ _ h => h) (Or.inl ⟨by rfl,?_⟩) hHeld ?_ ?_
           rotate_left
           ·rintro w' ⟨s0,s1,s2,s3⟩
            go_simp
            with_reducible rfl
           rotate_left
           ·exact vs
           refine one_ (i:=4) (N:=some 88) #[true,true,true,true,true,true,true,true,true,true,false,false,false] rfl rfl (one_of HT_.out kr) (by decide) (fun K hK => ?_)
           refine goes_ Try.func134 kr rfl #[.slice (some ad127) l0.length c0,.int .i64 0,.int .i64 (l0.length : Int),.int .i64 a1] (by rfl) rfl rfl (by (try simp only [List.map_toArray,List.map_cons,List.map_nil]);first|done|rfl|(simp only [List.length_drop,List.length_take];rfl)) ?_
           with_reducible refine (calxref08_beside.calls kj24 _ _ l0 0 (l0.length : Int) a1 t124 _ ?side1 ?side2 A54.out).mono ?_
           (case side1 => repeat (first|exact (Kd.C_below HR0.out HB.out)|(with_reducible refine Kd.C_alloc ?_ _)|(with_reducible refine Kd.C_drewN ?_ _)|(with_reducible refine Kd.C_drew ?_)))
           (case side2 => exact HC0.out)
           rintro e w64 ⟨v125,rfl,ho0,hb⟩
           refine ⟨_,rfl,?_⟩
           have n0_:=am (Kd.R_below (by (with_reducible repeat (first|apply Kd.R_alloc|apply Kd.R_drewN|apply Kd.R_drew));exact HO123.out) hb)
           have n1_:=am (Kd.R_lower ho0 (below_size (v2 HB.out GE101.out GE102.out)))
           have n2_:=am (blk_below (g:=gb101) (o:=.cells #[.int .i64 a2_0,.int .i64 a2_1,.int .i64 a2_2,.int .i64 a2_3] 29 (0,0)) (vb BK101.out) hb)
           have n3_:=am (blk_below (g:=gb102) (o:=.cells #[.slice none 0 0,.slice none 0 0,.bool false,.int .i64 0] 118 (0,0)) (vb BK102.out) hb)
           have n4_:=am (below_step (v2 HB.out GE101.out GE102.out) hb)
           clear HO123
           clear BK101
           clear BK102
           clear HB
           have HO123:=n0_
           have HO126:=n1_
           have BK101:=n2_
           have BK102:=n3_
           have HB:=n4_
           clear n0_ n1_ n2_ n3_ n4_
           (try clear hb)
           (try clear hb2)
           (try clear hk)
           (try clear hi)
           (try clear ho0)
           refine hK.out _ _ ⟨((HB.out.cell (wb w _ hw127_0)).trans hw127_0),((HB.out.cell (wb w _ hw127_1)).trans hw127_1),((HB.out.cell (wb w _ hw127_2)).trans hw127_2),((HB.out.cell (wb w _ hw127_3)).trans hw127_3)⟩ (fun hHeld => ?_)
           clear hK K
           refine norm_ (a':=?_) ?_ ?_
           rotate_left
           ·show Act.put _ (some 88) _ = _
            simp only [Act.put,List.setIfInBounds_toArray,List.set_cons_zero,List.set_cons_succ,i64_w,i32_w]
            rfl
           refine one_ (i:=10) (N:=some 94) #[true,true,true,true,true,true,true,true,true,true,true,false,false] rfl rfl (one_of HT_.out kr) (by decide) (fun K hK => ?_)
           refine goes_ Try.func102 kr rfl #[.agg #[.int .i64 ((rd_T29 l0 a1).f0),.int .i64 ((rd_T29 l0 a1).f1),.int .i64 ((rd_T29 l0 a1).f2),.int .i64 ((rd_T29 l0 a1).f3)]] (by rfl) rfl rfl (by (try simp only [List.map_toArray,List.map_cons,List.map_nil]);first|done|rfl|(simp only [List.length_drop,List.length_take];rfl)) ?_
           with_reducible refine (calxref08_leaf.calls kj24 ((rd_T29 l0 a1).f0) ((rd_T29 l0 a1).f1) ((rd_T29 l0 a1).f2) ((rd_T29 l0 a1).f3) t128 _ A57.out).mono ?_
           rintro e w65 ⟨rfl,hb⟩
           refine ⟨_,rfl,?_⟩
           have n0_:=am (Kd.R_below (by (with_reducible repeat (first|apply Kd.R_alloc|apply Kd.R_drewN|apply Kd.R_drew));exact HO123.out) hb)
           have n1_:=am (Kd.R_below (by (with_reducible repeat (first|apply Kd.R_alloc|apply Kd.R_drewN|apply Kd.R_drew));exact HO126.out) hb)
           have n2_:=am (blk_below (g:=gb101) (o:=.cells #[.int .i64 a2_0,.int .i64 a2_1,.int .i64 a2_2,.int .i64 a2_3] 29 (0,0)) (vb BK101.out) hb)
           have n3_:=am (blk_below (g:=gb102) (o:=.cells #[.slice none 0 0,.slice none 0 0,.bool false,.int .i64 0] 118 (0,0)) (vb BK102.out) hb)
           have n4_:=am (below_step (v2 HB.out GE101.out GE102.out) hb)
           clear HO123
           clear HO126
           clear BK101
           clear BK102
           clear HB
           have HO123:=n0_
           have HO126:=n1_
           have BK101:=n2_
           have BK102:=n3_
           have HB:=n4_
           clear n0_ n1_ n2_ n3_ n4_
           (try clear hb)
           (try clear hb2)
           (try clear hk)
           (try clear hi)
           obtain ⟨Ao66,co66,eo66⟩:=Kd.R_slice HO126.out
           (first|subst eo66|(injection eo66 with f1_ f2_ f3_;have f4_:=f1_.symm;have f5_:=f3_.symm;clear f1_ f2_ f3_;subst f4_;subst f5_))
           refine hK.out _ _ ⟨((HB.out.cell (wb w _ hw127_0)).trans hw127_0),((HB.out.cell (wb w _ hw127_1)).trans hw127_1),((HB.out.cell (wb w _ hw127_2)).trans hw127_2),((HB.out.cell (wb w _ hw127_3)).trans hw127_3)⟩ (fun hHeld => ?_)
           clear hK K
           refine norm_ (a':=?_) ?_ ?_
           rotate_left
           ·show Act.put _ (some 94) _ = _
            simp only [Act.put,List.setIfInBounds_toArray,List.set_cons_zero,List.set_cons_succ,i64_w,i32_w]
            rfl
           refine one_ (i:=11) (N:=some 95) #[true,true,true,true,true,true,true,true,true,true,true,true,false] rfl rfl (one_of HT_.out kr) (by decide) (fun K hK => ?_)
           refine goes_ Try.func144 kr rfl #[.slice Ao66 t124.length co66,.int .i64 a1,.int .i64 t128] (by rfl) rfl rfl (by (try simp only [List.map_toArray,List.map_cons,List.map_nil]);first|done|rfl|(simp only [List.length_drop,List.length_take];rfl)) ?_
           with_reducible refine (calxref08_climb.calls _ _ t124 a1 t128 t129 _ ?side1 ?side2 A58.out).mono ?_
           (case side1 => repeat (first|exact (Kd.R_reads' HO126.out).2.2|(with_reducible refine Kd.C_alloc ?_ _)|(with_reducible refine Kd.C_drewN ?_ _)|(with_reducible refine Kd.C_drew ?_)))
           (case side2 => exact (Kd.R_reads' HO126.out).2.1)
           rintro e w67 ⟨v130,rfl,ho0,hb⟩
           refine ⟨_,rfl,?_⟩
           have n0_:=am (Kd.R_elder' (by (with_reducible repeat (first|apply Kd.R_alloc|apply Kd.R_drewN|apply Kd.R_drew));exact HO123.out) (Kd.R_base ho0) hb)
           have n1_:=am (Kd.R_below (by (with_reducible repeat (first|apply Kd.R_alloc|apply Kd.R_drewN|apply Kd.R_drew));exact HO126.out) hb)
           have n2_:=am (Kd.R_lower (Kd.R_new' ho0 (Kd.R_lt (by (with_reducible repeat (first|apply Kd.R_alloc|apply Kd.R_drewN|apply Kd.R_drew));exact HO123.out))) (below_size (v2 HB.out GE101.out GE102.out)))
           have n3_:=am (blk_below (g:=gb101) (o:=.cells #[.int .i64 a2_0,.int .i64 a2_1,.int .i64 a2_2,.int .i64 a2_3] 29 (0,0)) (vb BK101.out) hb)
           have n4_:=am (blk_below (g:=gb102) (o:=.cells #[.slice none 0 0,.slice none 0 0,.bool false,.int .i64 0] 118 (0,0)) (vb BK102.out) hb)
           have n5_:=am (below_step (v2 HB.out GE101.out GE102.out) hb)
           clear HO123
           clear HO126
           clear BK101
           clear BK102
           clear HB
           have HO123:=n0_
           have HO126:=n1_
           have HO131:=n2_
           have BK101:=n3_
           have BK102:=n4_
           have HB:=n5_
           clear n0_ n1_ n2_ n3_ n4_ n5_
           (try clear hb)
           (try clear hb2)
           (try clear hk)
           (try clear hi)
           (try clear ho0)
           refine hK.out _ _ ⟨((HB.out.cell (wb w _ hw127_0)).trans hw127_0),((HB.out.cell (wb w _ hw127_1)).trans hw127_1),((HB.out.cell (wb w _ hw127_2)).trans hw127_2),((HB.out.cell (wb w _ hw127_3)).trans hw127_3)⟩ (fun hHeld => ?_)
           clear hK K
           refine norm_ (a':=?_) ?_ ?_
           rotate_left
           ·show Act.put _ (some 95) _ = _
            simp only [Act.put,List.setIfInBounds_toArray,List.set_cons_zero,List.set_cons_succ,i64_w,i32_w]
            rfl
           refine pure_ (i:=12) (N:=some 14) (v:=?_) (a':=?_) #[true,true,true,true,true,true,true,true,true,true,true,true,true] rfl rfl (any_of HT_.out kr) (fun _ _ _ h => h) (Or.inl ⟨by rfl,?_⟩) ?_ ?_
           rotate_left
           ·intro w'
            go_simp
            with_reducible rfl
           rotate_left
           ·exact vs
           refine done_ (done_of HT_.out kr) ?_
           try go_wp2
           go_loopg [15] kj24 (fun kq v15 w' => ∃ (x15_3 : Int) (x103002_3 : Bool) (x103003_3 : Int),v15 = .int .i64 x15_3 ∧ Aside0 (calxref08_Gap.l0 kq t121 t129 x15_3 = some (r1,r2,r3,r4)) ∧ Aside0 (kq ≤ kj24) ∧ Aside0 (Kd.R k190 190 w' w.heap.size (fun k_ => some k_ ≠ (v130 : Value).ownBlock) v122 t121) ∧ Aside0 (Kd.R k190 190 w' w.heap.size (fun k_ => some k_ ≠ (v122 : Value).ownBlock) v130 t129) ∧ Aside0 (w'.heap[gb101]? = some (.cells #[.int .i64 a2_0,.int .i64 a2_1,.int .i64 a2_2,.int .i64 a2_3] 29 (0,0))) ∧ Aside0 (w'.heap[gb102]? = some (.cells #[(.slice none 0 0),(.slice none 0 0),.bool x103002_3,.int .i64 x103003_3] 118 (0,0))) ∧ Aside0 (Below w.heap.size w w'))
           case atStart => exact ⟨(0),(false),(0),ve,H',⟨Nat.le_refl _⟩,⟨by (with_reducible repeat (first|apply Kd.R_alloc|apply Kd.R_drewN|apply Kd.R_drew));exact Kd.R_mono HO123.out (fun _ hk => hk.2)⟩,⟨by (with_reducible repeat (first|apply Kd.R_alloc|apply Kd.R_drewN|apply Kd.R_drew));exact Kd.R_mono HO131.out (fun _ hk => hk.2)⟩,⟨vb BK101.out⟩,⟨vb BK102.out⟩,⟨v2 HB.out GE101.out GE102.out⟩⟩
           case round =>
            clear H'
            obtain ⟨x15_3,x103002_3,x103003_3,rfl,HA,HK3,HO_13,HO_14,BK101,BK102,HB⟩:=hrel
            cases gk with
           |zero => exact absurd HA.out (by simp [calxref08_Gap.l0])
           |succ k3 =>
             have H:=HA.out
             clear HA
             simp only [calxref08_Gap.l0] at H
             by_cases c68 : x15_3 < (t121.length : Int)
             ·rw [if_pos c68] at H
              have c68b0 : decide (x15_3 < (t121.length : Int)) = true:=decide_eq_true c68
              clear c68
              by_cases c69 : 0 ≤ x15_3
              ·rw [if_pos c69] at H
               have c69b0 : decide (0 ≤ x15_3) = true:=decide_eq_true c69
               clear c69
               by_cases c70 : x15_3 < (t129.length : Int)
               ·rw [if_pos c70] at H
                have c70b0 : decide (x15_3 < (t129.length : Int)) = true:=decide_eq_true c70
                clear c70
                have HS_:=am H
                clear H
                obtain ⟨Ao75,co75,eo75⟩:=Kd.R_slice HO_13.out
                subst eo75
                have p132 : 0 ≤ (x15_3 : Int):=of_decide_eq_true va
                have q132 : x15_3 < (t121.length : Int):=of_decide_eq_true va
                obtain ⟨ad132,e132,hx132_0,hx132_1,hx132_2⟩:=at_T190 (Kd.R_reads' HO_13.out).2.2 x15_3 p132 q132
                cases e132
                replace p132:=eq_true p132
                replace q132:=eq_true q132
                try go_wp2_with (first|((with_reducible refine gate_dst (N:=16) rfl ?_);refine box_event ?hg (N:=16) ?hd (cs:=#[.int .i64 0,.int .i64 0,.int .i64 0]) (t:=190) ?hr ?_;(case hd => rfl);(case hg => rfl);(case hr => first|(go_simp;done)|(go_simp;rfl));intro gb133 hg w76 hbox hb;have n0_:=am (Kd.R_below (Kd.R_elderB (by (with_reducible repeat (first|apply Kd.R_alloc|apply Kd.R_drewN|apply Kd.R_drew));exact HO_13.out) gb133 (Nat.le_of_eq hg.symm)) hb);have n1_:=am (Kd.R_below (Kd.R_elderB (by (with_reducible repeat (first|apply Kd.R_alloc|apply Kd.R_drewN|apply Kd.R_drew));exact HO_14.out) gb133 (Nat.le_of_eq hg.symm)) hb);have n2_:=am (blk_below (g:=gb101) (o:=.cells #[.int .i64 a2_0,.int .i64 a2_1,.int .i64 a2_2,.int .i64 a2_3] 29 (0,0)) (vb BK101.out) hb);have n3_:=am (blk_below (g:=gb102) (o:=.cells #[.slice none 0 0,.slice none 0 0,.bool x103002_3,.int .i64 x103003_3] 118 (0,0)) (vb BK102.out) hb);have n4_:=am (below_step (v2 HB.out GE101.out GE102.out) hb);have n5_:=am (hbox);have n6_:=am ((by rw [hg];exact (below_size (v2 HB.out GE101.out GE102.out)) : w.heap.size ≤ gb133));have n7_:=am ((by rw [hg];exact (below_size (v2 HB.out GE101.out GE102.out)) : w.heap.size ≤ gb133));have n8_:=am ((by rw [hg];exact Nat.ne_of_lt (blk_lt (g:=gb101) (o:=.cells #[.int .i64 a2_0,.int .i64 a2_1,.int .i64 a2_2,.int .i64 a2_3] 29 (0,0)) (vb BK101.out)) : gb101 ≠ gb133));have n9_:=am ((by rw [hg];exact Nat.ne_of_gt (blk_lt (g:=gb101) (o:=.cells #[.int .i64 a2_0,.int .i64 a2_1,.int .i64 a2_2,.int .i64 a2_3] 29 (0,0)) (vb BK101.out)) : gb133 ≠ gb101));have n10_:=am ((by rw [hg];exact Nat.ne_of_lt (blk_lt (g:=gb102) (o:=.cells #[.slice none 0 0,.slice none 0 0,.bool x103002_3,.int .i64 x103003_3] 118 (0,0)) (vb BK102.out)) : gb102 ≠ gb133));have n11_:=am ((by rw [hg];exact Nat.ne_of_gt (blk_lt (g:=gb102) (o:=.cells #[.slice none 0 0,.slice none 0 0,.bool x103002_3,.int .i64 x103003_3] 118 (0,0)) (vb BK102.out)) : gb133 ≠ gb102));clear HO_13;clear HO_14;clear BK101;clear BK102;clear HB;have HO_13:=n0_;have HO_14:=n1_;have BK101:=n2_;have BK102:=n3_;have HB:=n4_;have BK133:=n5_;have GW133:=n6_;have GE133:=n7_;have NB101_133:=n8_;have NB133_101:=n9_;have NB102_133:=n10_;have NB133_102:=n11_;clear n0_ n1_ n2_ n3_ n4_ n5_ n6_ n7_ n8_ n9_ n10_ n11_;clear hb hbox hg;have hnb77:=NB133_101.out;have hnc77:=NB101_133.out;have hnb78:=NB133_102.out;have hnc78:=NB102_133.out;have hcz79_0 : w76.cell? ⟨gb133,0,none⟩ = some (.int .i64 0):=(blk_cell BK133.out 0).trans rfl;have hcz79_1 : w76.cell? ⟨gb133,1,none⟩ = some (.int .i64 0):=(blk_cell BK133.out 1).trans rfl;have hcz79_2 : w76.cell? ⟨gb133,2,none⟩ = some (.int .i64 0):=(blk_cell BK133.out 2).trans rfl;have hfz79_0:=blk_frozen BK133.out 0;have hfz79_1:=blk_frozen BK133.out 1;have hfz79_2:=blk_frozen BK133.out 2;obtain ⟨Ao80,co80,eo80⟩:=Kd.R_slice HO_14.out;subst eo80;have p134 : 0 ≤ (x15_3 : Int):=of_decide_eq_true va;have q134 : x15_3 < (t129.length : Int):=of_decide_eq_true va;obtain ⟨ad134,e134,hx134_0,hx134_1,hx134_2⟩:=at_T190 (Kd.R_reads' HO_14.out).2.2 x15_3 p134 q134;cases e134;have hn134_0 : ad134.block ≠ gb133:=(HO_14.out.1 _ rfl).2;have hn134_1 : ad134.block ≠ gb133:=(HO_14.out.1 _ rfl).2;have hn134_2 : ad134.block ≠ gb133:=(HO_14.out.1 _ rfl).2;replace hx134_0:=(cell_far (p:=⟨gb133,0,none⟩) (by first|(rw [add_block];exact hn134_0)|(show (Addr.add _ _).block ≠ _;rw [add_block];exact hn134_0)|exact hn134_0) (.int .i64 ((rd_T190 t121 x15_3).f0))).trans hx134_0;replace hx134_1:=(cell_far (p:=⟨gb133,0,none⟩) (by first|(rw [add_block];exact hn134_0)|(show (Addr.add _ _).block ≠ _;rw [add_block];exact hn134_0)|exact hn134_0) (.int .i64 ((rd_T190 t121 x15_3).f0))).trans hx134_1;replace hx134_2:=(cell_far (p:=⟨gb133,0,none⟩) (by first|(rw [add_block];exact hn134_0)|(show (Addr.add _ _).block ≠ _;rw [add_block];exact hn134_0)|exact hn134_0) (.int .i64 ((rd_T190 t121 x15_3).f0))).trans hx134_2;replace hx134_0:=(cell_far (p:=⟨gb133,1,none⟩) (by first|(rw [add_block];exact hn134_1)|(show (Addr.add _ _).block ≠ _;rw [add_block];exact hn134_1)|exact hn134_1) (.int .i64 ((rd_T190 t121 x15_3).f1))).trans hx134_0;replace hx134_1:=(cell_far (p:=⟨gb133,1,none⟩) (by first|(rw [add_block];exact hn134_1)|(show (Addr.add _ _).block ≠ _;rw [add_block];exact hn134_1)|exact hn134_1) (.int .i64 ((rd_T190 t121 x15_3).f1))).trans hx134_1;replace hx134_2:=(cell_far (p:=⟨gb133,1,none⟩) (by first|(rw [add_block];exact hn134_1)|(show (Addr.add _ _).block ≠ _;rw [add_block];exact hn134_1)|exact hn134_1) (.int .i64 ((rd_T190 t121 x15_3).f1))).trans hx134_2;replace hx134_0:=(cell_far (p:=⟨gb133,2,none⟩) (by first|(rw [add_block];exact hn134_2)|(show (Addr.add _ _).block ≠ _;rw [add_block];exact hn134_2)|exact hn134_2) (.int .i64 ((rd_T190 t121 x15_3).f2))).trans hx134_0;replace hx134_1:=(cell_far (p:=⟨gb133,2,none⟩) (by first|(rw [add_block];exact hn134_2)|(show (Addr.add _ _).block ≠ _;rw [add_block];exact hn134_2)|exact hn134_2) (.int .i64 ((rd_T190 t121 x15_3).f2))).trans hx134_1;replace hx134_2:=(cell_far (p:=⟨gb133,2,none⟩) (by first|(rw [add_block];exact hn134_2)|(show (Addr.add _ _).block ≠ _;rw [add_block];exact hn134_2)|exact hn134_2) (.int .i64 ((rd_T190 t121 x15_3).f2))).trans hx134_2;clear hn134_0;clear hn134_1;clear hn134_2;replace p134:=eq_true p134;replace q134:=eq_true q134)|((with_reducible refine gate_dst (N:=17) rfl ?_);refine box_event ?hg (N:=17) ?hd (cs:=#[.int .i64 0,.int .i64 0,.int .i64 0]) (t:=190) ?hr ?_;(case hd => rfl);(case hg => rfl);(case hr => first|(go_simp;done)|(go_simp;rfl));intro gb135 hg w81 hbox hb;have n0_:=am (Kd.R_below (Kd.R_elderB (by (with_reducible repeat (first|apply Kd.R_alloc|apply Kd.R_drewN|apply Kd.R_drew));exact (Kd.R_mono (Kd.R_far (p:=⟨gb133,2,none⟩) (Kd.R_far (p:=⟨gb133,1,none⟩) (Kd.R_far (p:=⟨gb133,0,none⟩) (Kd.R_mono HO_13.out (fun k_ hk => (⟨hk,hk.2⟩ : _ ∧ k_ ≠ gb133))) (fun _ hk => hk.2) (.int .i64 ((rd_T190 t121 x15_3).f0))) (fun _ hk => hk.2) (.int .i64 ((rd_T190 t121 x15_3).f1))) (fun _ hk => hk.2) (.int .i64 ((rd_T190 t121 x15_3).f2))) (fun _ h_ => h_.1))) gb135 (Nat.le_of_eq hg.symm)) hb);have n1_:=am (Kd.R_below (Kd.R_elderB (by (with_reducible repeat (first|apply Kd.R_alloc|apply Kd.R_drewN|apply Kd.R_drew));exact (Kd.R_mono (Kd.R_far (p:=⟨gb133,2,none⟩) (Kd.R_far (p:=⟨gb133,1,none⟩) (Kd.R_far (p:=⟨gb133,0,none⟩) (Kd.R_mono HO_14.out (fun k_ hk => (⟨hk,hk.2⟩ : _ ∧ k_ ≠ gb133))) (fun _ hk => hk.2) (.int .i64 ((rd_T190 t121 x15_3).f0))) (fun _ hk => hk.2) (.int .i64 ((rd_T190 t121 x15_3).f1))) (fun _ hk => hk.2) (.int .i64 ((rd_T190 t121 x15_3).f2))) (fun _ h_ => h_.1))) gb135 (Nat.le_of_eq hg.symm)) hb);have n2_:=am (blk_below (g:=gb101) (o:=.cells #[.int .i64 a2_0,.int .i64 a2_1,.int .i64 a2_2,.int .i64 a2_3] 29 (0,0)) (by (with_reducible repeat (first|refine blk_drewN ?_ _|refine blk_drew ?_|refine blk_alloc ?_ _));refine blk_far ?_ NB101_133.out _;(with_reducible repeat (first|refine blk_drewN ?_ _|refine blk_drew ?_|refine blk_alloc ?_ _));refine blk_far ?_ NB101_133.out _;(with_reducible repeat (first|refine blk_drewN ?_ _|refine blk_drew ?_|refine blk_alloc ?_ _));refine blk_far ?_ NB101_133.out _;(with_reducible repeat (first|refine blk_drewN ?_ _|refine blk_drew ?_|refine blk_alloc ?_ _));exact BK101.out) hb);have n3_:=am (blk_below (g:=gb102) (o:=.cells #[.slice none 0 0,.slice none 0 0,.bool x103002_3,.int .i64 x103003_3] 118 (0,0)) (by (with_reducible repeat (first|refine blk_drewN ?_ _|refine blk_drew ?_|refine blk_alloc ?_ _));refine blk_far ?_ NB102_133.out _;(with_reducible repeat (first|refine blk_drewN ?_ _|refine blk_drew ?_|refine blk_alloc ?_ _));refine blk_far ?_ NB102_133.out _;(with_reducible repeat (first|refine blk_drewN ?_ _|refine blk_drew ?_|refine blk_alloc ?_ _));refine blk_far ?_ NB102_133.out _;(with_reducible repeat (first|refine blk_drewN ?_ _|refine blk_drew ?_|refine blk_alloc ?_ _));exact BK102.out) hb);have n4_:=am (blk_below (g:=gb133) (o:=.cells #[.int .i64 ((rd_T190 t121 x15_3).f0),.int .i64 ((rd_T190 t121 x15_3).f1),.int .i64 ((rd_T190 t121 x15_3).f2)] 190 (0,0)) (by (with_reducible repeat (first|refine blk_drewN ?_ _|refine blk_drew ?_|refine blk_alloc ?_ _));refine blk_put (cs:=#[.int .i64 ((rd_T190 t121 x15_3).f0),.int .i64 ((rd_T190 t121 x15_3).f1),.int .i64 0]) ?_ 2 _ rfl;(with_reducible repeat (first|refine blk_drewN ?_ _|refine blk_drew ?_|refine blk_alloc ?_ _));refine blk_put (cs:=#[.int .i64 ((rd_T190 t121 x15_3).f0),.int .i64 0,.int .i64 0]) ?_ 1 _ rfl;(with_reducible repeat (first|refine blk_drewN ?_ _|refine blk_drew ?_|refine blk_alloc ?_ _));refine blk_put (cs:=#[.int .i64 0,.int .i64 0,.int .i64 0]) ?_ 0 _ rfl;(with_reducible repeat (first|refine blk_drewN ?_ _|refine blk_drew ?_|refine blk_alloc ?_ _));exact BK133.out) hb);have n5_:=am (below_step (v3 HB.out GE101.out GE102.out GE133.out) hb);have n6_:=am (hbox);have n7_:=am ((by rw [hg];exact (below_size (v3 HB.out GE101.out GE102.out GE133.out)) : w.heap.size ≤ gb135));have n8_:=am ((by rw [hg];exact (below_size (v3 HB.out GE101.out GE102.out GE133.out)) : w.heap.size ≤ gb135));have n9_:=am ((by rw [hg];exact Nat.ne_of_lt (blk_lt (g:=gb101) (o:=.cells #[.int .i64 a2_0,.int .i64 a2_1,.int .i64 a2_2,.int .i64 a2_3] 29 (0,0)) (by (with_reducible repeat (first|refine blk_drewN ?_ _|refine blk_drew ?_|refine blk_alloc ?_ _));refine blk_far ?_ NB101_133.out _;(with_reducible repeat (first|refine blk_drewN ?_ _|refine blk_drew ?_|refine blk_alloc ?_ _));refine blk_far ?_ NB101_133.out _;(with_reducible repeat (first|refine blk_drewN ?_ _|refine blk_drew ?_|refine blk_alloc ?_ _));refine blk_far ?_ NB101_133.out _;(with_reducible repeat (first|refine blk_drewN ?_ _|refine blk_drew ?_|refine blk_alloc ?_ _));exact BK101.out)) : gb101 ≠ gb135));have n10_:=am ((by rw [hg];exact Nat.ne_of_gt (blk_lt (g:=gb101) (o:=.cells #[.int .i64 a2_0,.int .i64 a2_1,.int .i64 a2_2,.int .i64 a2_3] 29 (0,0)) (by (with_reducible repeat (first|refine blk_drewN ?_ _|refine blk_drew ?_|refine blk_alloc ?_ _));refine blk_far ?_ NB101_133.out _;(with_reducible repeat (first|refine blk_drewN ?_ _|refine blk_drew ?_|refine blk_alloc ?_ _));refine blk_far ?_ NB101_133.out _;(with_reducible repeat (first|refine blk_drewN ?_ _|refine blk_drew ?_|refine blk_alloc ?_ _));refine blk_far ?_ NB101_133.out _;(with_reducible repeat (first|refine blk_drewN ?_ _|refine blk_drew ?_|refine blk_alloc ?_ _));exact BK101.out)) : gb135 ≠ gb101));have n11_:=am ((by rw [hg];exact Nat.ne_of_lt (blk_lt (g:=gb102) (o:=.cells #[.slice none 0 0,.slice none 0 0,.bool x103002_3,.int .i64 x103003_3] 118 (0,0)) (by (with_reducible repeat (first|refine blk_drewN ?_ _|refine blk_drew ?_|refine blk_alloc ?_ _));refine blk_far ?_ NB102_133.out _;(with_reducible repeat (first|refine blk_drewN ?_ _|refine blk_drew ?_|refine blk_alloc ?_ _));refine blk_far ?_ NB102_133.out _;(with_reducible repeat (first|refine blk_drewN ?_ _|refine blk_drew ?_|refine blk_alloc ?_ _));refine blk_far ?_ NB102_133.out _;(with_reducible repeat (first|refine blk_drewN ?_ _|refine blk_drew ?_|refine blk_alloc ?_ _));exact BK102.out)) : gb102 ≠ gb135));have n12_:=am ((by rw [hg];exact Nat.ne_of_gt (blk_lt (g:=gb102) (o:=.cells #[.slice none 0 0,.slice none 0 0,.bool x103002_3,.int .i64 x103003_3] 118 (0,0)) (by (with_reducible repeat (first|refine blk_drewN ?_ _|refine blk_drew ?_|refine blk_alloc ?_ _));refine blk_far ?_ NB102_133.out _;(with_reducible repeat (first|refine blk_drewN ?_ _|refine blk_drew ?_|refine blk_alloc ?_ _));refine blk_far ?_ NB102_133.out _;(with_reducible repeat (first|refine blk_drewN ?_ _|refine blk_drew ?_|refine blk_alloc ?_ _));refine blk_far ?_ NB102_133.out _;(with_reducible repeat (first|refine blk_drewN ?_ _|refine blk_drew ?_|refine blk_alloc ?_ _));exact BK102.out)) : gb135 ≠ gb102));have n13_:=am ((by rw [hg];exact Nat.ne_of_lt (blk_lt (g:=gb133) (o:=.cells #[.int .i64 ((rd_T190 t121 x15_3).f0),.int .i64 ((rd_T190 t121 x15_3).f1),.int .i64 ((rd_T190 t121 x15_3).f2)] 190 (0,0)) (by (with_reducible repeat (first|refine blk_drewN ?_ _|refine blk_drew ?_|refine blk_alloc ?_ _));refine blk_put (cs:=#[.int .i64 ((rd_T190 t121 x15_3).f0),.int .i64 ((rd_T190 t121 x15_3).f1),.int .i64 0]) ?_ 2 _ rfl;(with_reducible repeat (first|refine blk_drewN ?_ _|refine blk_drew ?_|refine blk_alloc ?_ _));refine blk_put (cs:=#[.int .i64 ((rd_T190 t121 x15_3).f0),.int .i64 0,.int .i64 0]) ?_ 1 _ rfl;(with_reducible repeat (first|refine blk_drewN ?_ _|refine blk_drew ?_|refine blk_alloc ?_ _));refine blk_put (cs:=#[.int .i64 0,.int .i64 0,.int .i64 0]) ?_ 0 _ rfl;(with_reducible repeat (first|refine blk_drewN ?_ _|refine blk_drew ?_|refine blk_alloc ?_ _));exact BK133.out)) : gb133 ≠ gb135));have n14_:=am ((by rw [hg];exact Nat.ne_of_gt (blk_lt (g:=gb133) (o:=.cells #[.int .i64 ((rd_T190 t121 x15_3).f0),.int .i64 ((rd_T190 t121 x15_3).f1),.int .i64 ((rd_T190 t121 x15_3).f2)] 190 (0,0)) (by (with_reducible repeat (first|refine blk_drewN ?_ _|refine blk_drew ?_|refine blk_alloc ?_ _));refine blk_put (cs:=#[.int .i64 ((rd_T190 t121 x15_3).f0),.int .i64 ((rd_T190 t121 x15_3).f1),.int .i64 0]) ?_ 2 _ rfl;(with_reducible repeat (first|refine blk_drewN ?_ _|refine blk_drew ?_|refine blk_alloc ?_ _));refine blk_put (cs:=#[.int .i64 ((rd_T190 t121 x15_3).f0),.int .i64 0,.int .i64 0]) ?_ 1 _ rfl;(with_reducible repeat (first|refine blk_drewN ?_ _|refine blk_drew ?_|refine blk_alloc ?_ _));refine blk_put (cs:=#[.int .i64 0,.int .i64 0,.int .i64 0]) ?_ 0 _ rfl;(with_reducible repeat (first|refine blk_drewN ?_ _|refine blk_drew ?_|refine blk_alloc ?_ _));exact BK133.out)) : gb135 ≠ gb133));clear HO_13;clear HO_14;clear BK101;clear BK102;clear BK133;clear HB;have HO_13:=n0_;have HO_14:=n1_;have BK101:=n2_;have BK102:=n3_;have BK133:=n4_;have HB:=n5_;have BK135:=n6_;have GW135:=n7_;have GE135:=n8_;have NB101_135:=n9_;have NB135_101:=n10_;have NB102_135:=n11_;have NB135_102:=n12_;have NB133_135:=n13_;have NB135_133:=n14_;clear n0_ n1_ n2_ n3_ n4_ n5_ n6_ n7_ n8_ n9_ n10_ n11_ n12_ n13_ n14_;clear hb hbox hg;have hnb82:=NB135_101.out;have hnc82:=NB101_135.out;have hnb83:=NB135_102.out;have hnc83:=NB102_135.out;have hnb84:=NB135_133.out;have hnc84:=NB133_135.out;have hcz85_0 : w81.cell? ⟨gb135,0,none⟩ = some (.int .i64 0):=(blk_cell BK135.out 0).trans rfl;have hcz85_1 : w81.cell? ⟨gb135,1,none⟩ = some (.int .i64 0):=(blk_cell BK135.out 1).trans rfl;have hcz85_2 : w81.cell? ⟨gb135,2,none⟩ = some (.int .i64 0):=(blk_cell BK135.out 2).trans rfl;have hfz85_0:=blk_frozen BK135.out 0;have hfz85_1:=blk_frozen BK135.out 1;have hfz85_2:=blk_frozen BK135.out 2))
                have n0_ : Aside0 (Kd.R k190 190 (((w81.setCell ⟨gb135,0,none⟩ (.int .i64 ((rd_T190 t129 x15_3).f0))).setCell ⟨gb135,1,none⟩ (.int .i64 ((rd_T190 t129 x15_3).f1))).setCell ⟨gb135,2,none⟩ (.int .i64 ((rd_T190 t129 x15_3).f2))) w.heap.size (fun k_ => some k_ ≠ (.slice (some ad134) t129.length co80 : Value).ownBlock ∧ k_ ≠ gb133 ∧ k_ ≠ gb135) (.slice (some ad132) t121.length co75) t121):=⟨by (with_reducible repeat (first|apply Kd.R_alloc|apply Kd.R_drewN|apply Kd.R_drew));exact Kd.R_mono (Kd.R_far (p:=⟨gb135,2,none⟩) (Kd.R_far (p:=⟨gb135,1,none⟩) (Kd.R_far (p:=⟨gb135,0,none⟩) (Kd.R_mono HO_13.out (fun k_ hk => (⟨hk,hk.2⟩ : _ ∧ k_ ≠ gb135))) (fun _ hk => hk.2) (.int .i64 ((rd_T190 t129 x15_3).f0))) (fun _ hk => hk.2) (.int .i64 ((rd_T190 t129 x15_3).f1))) (fun _ hk => hk.2) (.int .i64 ((rd_T190 t129 x15_3).f2))) (fun _ hk => ⟨hk.1.1.1,⟨hk.1.1.2,hk.1.2⟩⟩)⟩
                have n1_ : Aside0 (Kd.R k190 190 (((w81.setCell ⟨gb135,0,none⟩ (.int .i64 ((rd_T190 t129 x15_3).f0))).setCell ⟨gb135,1,none⟩ (.int .i64 ((rd_T190 t129 x15_3).f1))).setCell ⟨gb135,2,none⟩ (.int .i64 ((rd_T190 t129 x15_3).f2))) w.heap.size (fun k_ => some k_ ≠ (.slice (some ad132) t121.length co75 : Value).ownBlock ∧ k_ ≠ gb133 ∧ k_ ≠ gb135) (.slice (some ad134) t129.length co80) t129):=⟨by (with_reducible repeat (first|apply Kd.R_alloc|apply Kd.R_drewN|apply Kd.R_drew));exact Kd.R_mono (Kd.R_far (p:=⟨gb135,2,none⟩) (Kd.R_far (p:=⟨gb135,1,none⟩) (Kd.R_far (p:=⟨gb135,0,none⟩) (Kd.R_mono HO_14.out (fun k_ hk => (⟨hk,hk.2⟩ : _ ∧ k_ ≠ gb135))) (fun _ hk => hk.2) (.int .i64 ((rd_T190 t129 x15_3).f0))) (fun _ hk => hk.2) (.int .i64 ((rd_T190 t129 x15_3).f1))) (fun _ hk => hk.2) (.int .i64 ((rd_T190 t129 x15_3).f2))) (fun _ hk => ⟨hk.1.1.1,⟨hk.1.1.2,hk.1.2⟩⟩)⟩
                have n2_ : Aside0 ((((w81.setCell ⟨gb135,0,none⟩ (.int .i64 ((rd_T190 t129 x15_3).f0))).setCell ⟨gb135,1,none⟩ (.int .i64 ((rd_T190 t129 x15_3).f1))).setCell ⟨gb135,2,none⟩ (.int .i64 ((rd_T190 t129 x15_3).f2))).heap[gb101]? = some (.cells #[.int .i64 a2_0,.int .i64 a2_1,.int .i64 a2_2,.int .i64 a2_3] 29 (0,0))):=⟨by (with_reducible repeat (first|refine blk_drewN ?_ _|refine blk_drew ?_|refine blk_alloc ?_ _));refine blk_far ?_ NB101_135.out _;(with_reducible repeat (first|refine blk_drewN ?_ _|refine blk_drew ?_|refine blk_alloc ?_ _));refine blk_far ?_ NB101_135.out _;(with_reducible repeat (first|refine blk_drewN ?_ _|refine blk_drew ?_|refine blk_alloc ?_ _));refine blk_far ?_ NB101_135.out _;(with_reducible repeat (first|refine blk_drewN ?_ _|refine blk_drew ?_|refine blk_alloc ?_ _));exact BK101.out⟩
                have n3_ : Aside0 ((((w81.setCell ⟨gb135,0,none⟩ (.int .i64 ((rd_T190 t129 x15_3).f0))).setCell ⟨gb135,1,none⟩ (.int .i64 ((rd_T190 t129 x15_3).f1))).setCell ⟨gb135,2,none⟩ (.int .i64 ((rd_T190 t129 x15_3).f2))).heap[gb102]? = some (.cells #[.slice none 0 0,.slice none 0 0,.bool x103002_3,.int .i64 x103003_3] 118 (0,0))):=⟨by (with_reducible repeat (first|refine blk_drewN ?_ _|refine blk_drew ?_|refine blk_alloc ?_ _));refine blk_far ?_ NB102_135.out _;(with_reducible repeat (first|refine blk_drewN ?_ _|refine blk_drew ?_|refine blk_alloc ?_ _));refine blk_far ?_ NB102_135.out _;(with_reducible repeat (first|refine blk_drewN ?_ _|refine blk_drew ?_|refine blk_alloc ?_ _));refine blk_far ?_ NB102_135.out _;(with_reducible repeat (first|refine blk_drewN ?_ _|refine blk_drew ?_|refine blk_alloc ?_ _));exact BK102.out⟩
                have n4_ : Aside0 ((((w81.setCell ⟨gb135,0,none⟩ (.int .i64 ((rd_T190 t129 x15_3).f0))).setCell ⟨gb135,1,none⟩ (.int .i64 ((rd_T190 t129 x15_3).f1))).setCell ⟨gb135,2,none⟩ (.int .i64 ((rd_T190 t129 x15_3).f2))).heap[gb133]? = some (.cells #[.int .i64 ((rd_T190 t121 x15_3).f0),.int .i64 ((rd_T190 t121 x15_3).f1),.int .i64 ((rd_T190 t121 x15_3).f2)] 190 (0,0))):=⟨by (with_reducible repeat (first|refine blk_drewN ?_ _|refine blk_drew ?_|refine blk_alloc ?_ _));refine blk_far ?_ NB133_135.out _;(with_reducible repeat (first|refine blk_drewN ?_ _|refine blk_drew ?_|refine blk_alloc ?_ _));refine blk_far ?_ NB133_135.out _;(with_reducible repeat (first|refine blk_drewN ?_ _|refine blk_drew ?_|refine blk_alloc ?_ _));refine blk_far ?_ NB133_135.out _;(with_reducible repeat (first|refine blk_drewN ?_ _|refine blk_drew ?_|refine blk_alloc ?_ _));exact BK133.out⟩
                have n5_ : Aside0 ((((w81.setCell ⟨gb135,0,none⟩ (.int .i64 ((rd_T190 t129 x15_3).f0))).setCell ⟨gb135,1,none⟩ (.int .i64 ((rd_T190 t129 x15_3).f1))).setCell ⟨gb135,2,none⟩ (.int .i64 ((rd_T190 t129 x15_3).f2))).heap[gb135]? = some (.cells #[.int .i64 ((rd_T190 t129 x15_3).f0),.int .i64 ((rd_T190 t129 x15_3).f1),.int .i64 ((rd_T190 t129 x15_3).f2)] 190 (0,0))):=⟨by (with_reducible repeat (first|refine blk_drewN ?_ _|refine blk_drew ?_|refine blk_alloc ?_ _));refine blk_put (cs:=#[.int .i64 ((rd_T190 t129 x15_3).f0),.int .i64 ((rd_T190 t129 x15_3).f1),.int .i64 0]) ?_ 2 _ rfl;(with_reducible repeat (first|refine blk_drewN ?_ _|refine blk_drew ?_|refine blk_alloc ?_ _));refine blk_put (cs:=#[.int .i64 ((rd_T190 t129 x15_3).f0),.int .i64 0,.int .i64 0]) ?_ 1 _ rfl;(with_reducible repeat (first|refine blk_drewN ?_ _|refine blk_drew ?_|refine blk_alloc ?_ _));refine blk_put (cs:=#[.int .i64 0,.int .i64 0,.int .i64 0]) ?_ 0 _ rfl;(with_reducible repeat (first|refine blk_drewN ?_ _|refine blk_drew ?_|refine blk_alloc ?_ _));exact BK135.out⟩
                have n6_ : Aside0 (Below w.heap.size w (((w81.setCell ⟨gb135,0,none⟩ (.int .i64 ((rd_T190 t129 x15_3).f0))).setCell ⟨gb135,1,none⟩ (.int .i64 ((rd_T190 t129 x15_3).f1))).setCell ⟨gb135,2,none⟩ (.int .i64 ((rd_T190 t129 x15_3).f2)))):=⟨by repeat (first|(with_reducible first|exact HB.out|apply below_alloc|apply pw_below_drewN|apply below_drew1|refine below_set ?_ GE101.out|refine below_set ?_ GE102.out|refine below_set ?_ GE133.out|refine below_set ?_ GE135.out)|exact HB.out)⟩
                (try clear HO_13)
                (try clear HO_14)
                (try clear BK101)
                (try clear BK102)
                (try clear BK133)
                (try clear BK135)
                (try clear HB)
                generalize (((w81.setCell ⟨gb135,0,none⟩ (.int .i64 ((rd_T190 t129 x15_3).f0))).setCell ⟨gb135,1,none⟩ (.int .i64 ((rd_T190 t129 x15_3).f1))).setCell ⟨gb135,2,none⟩ (.int .i64 ((rd_T190 t129 x15_3).f2))) = w86 at n0_ n1_ n2_ n3_ n4_ n5_ n6_ ⊢
                have HO_13:=n0_
                have HO_14:=n1_
                have BK101:=n2_
                have BK102:=n3_
                have BK133:=n4_
                have BK135:=n5_
                have HB:=n6_
                clear n0_ n1_ n2_ n3_ n4_ n5_ n6_
                have n0_:=am (Kd.R_drew HO_13.out)
                have n1_:=am (Kd.R_drew HO_14.out)
                have n2_:=am (blk_drew BK101.out)
                have n3_:=am (blk_drew BK102.out)
                have n4_:=am (blk_drew BK133.out)
                have n5_:=am (blk_drew BK135.out)
                have n6_:=am (below_drew1 HB.out)
                clear HO_13
                clear HO_14
                clear BK101
                clear BK102
                clear BK133
                clear BK135
                clear HB
                have HO_13:=n0_
                have HO_14:=n1_
                have BK101:=n2_
                have BK102:=n3_
                have BK133:=n4_
                have BK135:=n5_
                have HB:=n6_
                clear n0_ n1_ n2_ n3_ n4_ n5_ n6_
                have H:=HS_.out
                clear HS_
                by_cases c71 : (!(((rd_T190 t121 x15_3).f0) == ((rd_T190 t129 x15_3).f0)) || (!(((rd_T190 t121 x15_3).f1) == ((rd_T190 t129 x15_3).f1)) || (!(((rd_T190 t121 x15_3).f2) == ((rd_T190 t129 x15_3).f2))))) = true
                ·rw [if_pos c71] at H
                 have c71b0 : (!(((rd_T190 t121 x15_3).f0) == ((rd_T190 t129 x15_3).f0)) || (!(((rd_T190 t121 x15_3).f1) == ((rd_T190 t129 x15_3).f1)) || (!(((rd_T190 t121 x15_3).f2) == ((rd_T190 t129 x15_3).f2))))) = true:=c71
                 clear c71
                 replace H:=Option.bind_eq_some_iff.mp H
                 obtain ⟨t136,A720,H⟩:=H
                 replace H : ((calxref08_node.f k3 ((rd_T190 t129 x15_3).f0) ((rd_T190 t129 x15_3).f1) ((rd_T190 t129 x15_3).f2)).bind fun t137 => (if t136 = t137 then (some ((([1,(rd_T190 t121 x15_3).f0,(rd_T190 t121 x15_3).f1,(rd_T190 t121 x15_3).f2] : List Int)),(([1,(rd_T190 t129 x15_3).f0,(rd_T190 t129 x15_3).f1,(rd_T190 t129 x15_3).f2] : List Int)),true,0)) else (calxref08_Gap.l0 k3 t121 t129 (wrap64 (x15_3 + 1))))) = some (r1,r2,r3,r4):=H
                 have A72:=am A720
                 clear A720
                 replace H:=Option.bind_eq_some_iff.mp H
                 obtain ⟨t137,A730,H⟩:=H
                 replace H : (if t136 = t137 then (some ((([1,(rd_T190 t121 x15_3).f0,(rd_T190 t121 x15_3).f1,(rd_T190 t121 x15_3).f2] : List Int)),(([1,(rd_T190 t129 x15_3).f0,(rd_T190 t129 x15_3).f1,(rd_T190 t129 x15_3).f2] : List Int)),true,0)) else (calxref08_Gap.l0 k3 t121 t129 (wrap64 (x15_3 + 1)))) = some (r1,r2,r3,r4):=H
                 have A73:=am A730
                 clear A730
                 have HS_:=am H
                 clear H
                 refine start_ (n:=20) (S:=fun w' => w'.cell? ⟨gb133,0,none⟩ = some (.int .i64 ((rd_T190 t121 x15_3).f0)) ∧ w'.cell? ⟨gb133,1,none⟩ = some (.int .i64 ((rd_T190 t121 x15_3).f1)) ∧ w'.cell? ⟨gb133,2,none⟩ = some (.int .i64 ((rd_T190 t121 x15_3).f2)) ∧ w'.cell? ⟨gb135,0,none⟩ = some (.int .i64 ((rd_T190 t129 x15_3).f0)) ∧ w'.cell? ⟨gb135,1,none⟩ = some (.int .i64 ((rd_T190 t129 x15_3).f1)) ∧ w'.cell? ⟨gb135,2,none⟩ = some (.int .i64 ((rd_T190 t129 x15_3).f2))) (ds:=[]) #[false,false,false,false,false,false,false,false,false,false,false,false,false,false,false,false,false,false,false,false] kr rfl rfl ⟨(blk_cell BK133.out 0).trans rfl,(blk_cell BK133.out 1).trans rfl,(blk_cell BK133.out 2).trans rfl,(blk_cell BK135.out 0).trans rfl,(blk_cell BK135.out 1).trans rfl,(blk_cell BK135.out 2).trans rfl⟩ (fun hHeld => ?_);refine with_tabW calxref08_Gap.tab20 calxref08_Gap.bits20 (fun HT_ HW_ => ?_)
                 generalize w86.drew = w87 at HO_13 HO_14 BK101 BK102 BK133 BK135 HB hHeld ⊢
                 refine take_ (i:=0) (N:=some 110) (v:=?_) (a':=?_) #[true,false,false,false,false,false,false,false,false,false,false,false,false,false,false,false,false,false,false,false] rfl rfl (take_ofW HT_.out HW_.out kr) (fun _ _ _ h => h) (Or.inl ⟨by rfl,?_⟩) hHeld ?_ ?_
                 rotate_left
                 ·rintro w' ⟨s0,s1,s2,s3,s4,s5⟩
                  go_simp
                  with_reducible rfl
                 rotate_left
                 ·exact vs
                 refine take_ (i:=1) (N:=some 111) (v:=?_) (a':=?_) #[true,true,false,false,false,false,false,false,false,false,false,false,false,false,false,false,false,false,false,false] rfl rfl (take_ofW HT_.out HW_.out kr) (fun _ _ _ h => h) (Or.inl ⟨by rfl,?_⟩) hHeld ?_ ?_
                 rotate_left
                 ·rintro w' ⟨s0,s1,s2,s3,s4,s5⟩
                  go_simp
                  with_reducible rfl
                 rotate_left
                 ·exact vs
                 refine pure_ (i:=2) (N:=some 112) (v:=?_) (a':=?_) #[true,true,true,false,false,false,false,false,false,false,false,false,false,false,false,false,false,false,false,false] rfl rfl (any_of HT_.out kr) (fun _ _ _ h => h) (Or.inl ⟨by rfl,?_⟩) ?_ ?_
                 rotate_left
                 ·intro w'
                  go_simp
                  with_reducible rfl
                 rotate_left
                 ·exact vs
                 refine pure_ (i:=3) (N:=some 113) (v:=?_) (a':=?_) #[true,true,true,true,false,false,false,false,false,false,false,false,false,false,false,false,false,false,false,false] rfl rfl (any_of HT_.out kr) (fun _ _ _ h => h) (Or.inl ⟨by rfl,?_⟩) ?_ ?_
                 rotate_left
                 ·intro w'
                  go_simp
                  with_reducible rfl
                 rotate_left
                 ·exact vs
                 refine pure_ (i:=4) (N:=some 114) (v:=?_) (a':=?_) #[true,true,true,true,true,false,false,false,false,false,false,false,false,false,false,false,false,false,false,false] rfl rfl (any_of HT_.out kr) (fun _ _ _ h => h) (Or.inl ⟨by rfl,?_⟩) ?_ ?_
                 rotate_left
                 ·intro w'
                  go_simp
                  with_reducible rfl
                 rotate_left
                 ·exact vs
                 refine pure_ (i:=6) (N:=some 116) (v:=?_) (a':=?_) #[true,true,true,true,true,false,true,false,false,false,false,false,false,false,false,false,false,false,false,false] rfl rfl (any_of HT_.out kr) (fun _ _ _ h => h) (Or.inl ⟨by rfl,?_⟩) ?_ ?_
                 rotate_left
                 ·intro w'
                  go_simp
                  with_reducible rfl
                 rotate_left
                 ·exact vs
                 refine pure_ (i:=8) (N:=some 118) (v:=?_) (a':=?_) #[true,true,true,true,true,false,true,false,true,false,false,false,false,false,false,false,false,false,false,false] rfl rfl (any_of HT_.out kr) (fun _ _ _ h => h) (Or.inl ⟨by rfl,?_⟩) ?_ ?_
                 rotate_left
                 ·intro w'
                  go_simp
                  with_reducible rfl
                 rotate_left
                 ·exact vs
                 refine pure_ (i:=11) (N:=some 121) (v:=?_) (a':=?_) #[true,true,true,true,true,false,true,false,true,false,false,true,false,false,false,false,false,false,false,false] rfl rfl (any_of HT_.out kr) (fun _ _ _ h => h) (Or.inl ⟨by rfl,?_⟩) ?_ ?_
                 rotate_left
                 ·intro w'
                  go_simp
                  with_reducible rfl
                 rotate_left
                 ·exact vs
                 refine pure_ (i:=13) (N:=some 123) (v:=?_) (a':=?_) #[true,true,true,true,true,false,true,false,true,false,false,true,false,true,false,false,false,false,false,false] rfl rfl (any_of HT_.out kr) (fun _ _ _ h => h) (Or.inl ⟨by rfl,?_⟩) ?_ ?_
                 rotate_left
                 ·intro w'
                  go_simp
                  with_reducible rfl
                 rotate_left
                 ·exact vs
                 refine pure_ (i:=15) (N:=some 125) (v:=?_) (a':=?_) #[true,true,true,true,true,false,true,false,true,false,false,true,false,true,false,true,false,false,false,false] rfl rfl (any_of HT_.out kr) (fun _ _ _ h => h) (Or.inl ⟨by rfl,?_⟩) ?_ ?_
                 rotate_left
                 ·intro w'
                  go_simp
                  with_reducible rfl
                 rotate_left
                 ·exact vs
                 refine take_ (i:=5) (N:=some 115) (v:=?_) (a':=?_) #[true,true,true,true,true,true,true,false,true,false,false,true,false,true,false,true,false,false,false,false] rfl rfl (take_ofW HT_.out HW_.out kr) (fun _ _ _ h => h) (Or.inl ⟨by rfl,?_⟩) hHeld ?_ ?_
                 rotate_left
                 ·rintro w' ⟨s0,s1,s2,s3,s4,s5⟩
                  go_simp
                  with_reducible rfl
                 rotate_left
                 ·exact vs
                 refine take_ (i:=7) (N:=some 117) (v:=?_) (a':=?_) #[true,true,true,true,true,true,true,true,true,false,false,true,false,true,false,true,false,false,false,false] rfl rfl (take_ofW HT_.out HW_.out kr) (fun _ _ _ h => h) (Or.inl ⟨by rfl,?_⟩) hHeld ?_ ?_
                 rotate_left
                 ·rintro w' ⟨s0,s1,s2,s3,s4,s5⟩
                  go_simp
                  with_reducible rfl
                 rotate_left
                 ·exact vs
                 refine take_ (i:=9) (N:=some 119) (v:=?_) (a':=?_) #[true,true,true,true,true,true,true,true,true,true,false,true,false,true,false,true,false,false,false,false] rfl rfl (take_ofW HT_.out HW_.out kr) (fun _ _ _ h => h) (Or.inl ⟨by rfl,?_⟩) hHeld ?_ ?_
                 rotate_left
                 ·rintro w' ⟨s0,s1,s2,s3,s4,s5⟩
                  go_simp
                  with_reducible rfl
                 rotate_left
                 ·exact vs
                 refine take_ (i:=12) (N:=some 122) (v:=?_) (a':=?_) #[true,true,true,true,true,true,true,true,true,true,false,true,true,true,false,true,false,false,false,false] rfl rfl (take_ofW HT_.out HW_.out kr) (fun _ _ _ h => h) (Or.inl ⟨by rfl,?_⟩) hHeld ?_ ?_
                 rotate_left
                 ·rintro w' ⟨s0,s1,s2,s3,s4,s5⟩
                  go_simp
                  with_reducible rfl
                 rotate_left
                 ·exact vs
                 refine take_ (i:=14) (N:=some 124) (v:=?_) (a':=?_) #[true,true,true,true,true,true,true,true,true,true,false,true,true,true,true,true,false,false,false,false] rfl rfl (take_ofW HT_.out HW_.out kr) (fun _ _ _ h => h) (Or.inl ⟨by rfl,?_⟩) hHeld ?_ ?_
                 rotate_left
                 ·rintro w' ⟨s0,s1,s2,s3,s4,s5⟩
                  go_simp
                  with_reducible rfl
                 rotate_left
                 ·exact vs
                 refine take_ (i:=16) (N:=some 126) (v:=?_) (a':=?_) #[true,true,true,true,true,true,true,true,true,true,false,true,true,true,true,true,true,false,false,false] rfl rfl (take_ofW HT_.out HW_.out kr) (fun _ _ _ h => h) (Or.inl ⟨by rfl,?_⟩) hHeld ?_ ?_
                 rotate_left
                 ·rintro w' ⟨s0,s1,s2,s3,s4,s5⟩
                  go_simp
                  with_reducible rfl
                 rotate_left
                 ·exact vs
                 refine one_ (i:=10) (N:=some 120) #[true,true,true,true,true,true,true,true,true,true,true,true,true,true,true,true,true,false,false,false] rfl rfl (one_of HT_.out kr) (by decide) (fun K hK => ?_)
                 refine goes_ Try.func105 kr rfl #[.int .i64 ((rd_T190 t121 x15_3).f0),.int .i64 ((rd_T190 t121 x15_3).f1),.int .i64 ((rd_T190 t121 x15_3).f2)] (by rfl) rfl rfl (by (try simp only [List.map_toArray,List.map_cons,List.map_nil]);first|done|rfl|(simp only [List.length_drop,List.length_take];rfl)) ?_
                 with_reducible refine (calxref08_node.calls k3 ((rd_T190 t121 x15_3).f0) ((rd_T190 t121 x15_3).f1) ((rd_T190 t121 x15_3).f2) t136 _ A72.out).mono ?_
                 rintro e w88 ⟨rfl,hb⟩
                 refine ⟨_,rfl,?_⟩
                 have n0_:=am (Kd.R_below (by (with_reducible repeat (first|apply Kd.R_alloc|apply Kd.R_drewN|apply Kd.R_drew));exact HO_13.out) hb)
                 have n1_:=am (Kd.R_below (by (with_reducible repeat (first|apply Kd.R_alloc|apply Kd.R_drewN|apply Kd.R_drew));exact HO_14.out) hb)
                 have n2_:=am (blk_below (g:=gb101) (o:=.cells #[.int .i64 a2_0,.int .i64 a2_1,.int .i64 a2_2,.int .i64 a2_3] 29 (0,0)) (vb BK101.out) hb)
                 have n3_:=am (blk_below (g:=gb102) (o:=.cells #[.slice none 0 0,.slice none 0 0,.bool x103002_3,.int .i64 x103003_3] 118 (0,0)) (vb BK102.out) hb)
                 have n4_:=am (blk_below (g:=gb133) (o:=.cells #[.int .i64 ((rd_T190 t121 x15_3).f0),.int .i64 ((rd_T190 t121 x15_3).f1),.int .i64 ((rd_T190 t121 x15_3).f2)] 190 (0,0)) (vb BK133.out) hb)
                 have n5_:=am (blk_below (g:=gb135) (o:=.cells #[.int .i64 ((rd_T190 t129 x15_3).f0),.int .i64 ((rd_T190 t129 x15_3).f1),.int .i64 ((rd_T190 t129 x15_3).f2)] 190 (0,0)) (vb BK135.out) hb)
                 have n6_:=am (below_step (by repeat (first|(with_reducible first|exact HB.out|apply below_alloc|apply pw_below_drewN|apply below_drew1|refine below_set ?_ GE101.out|refine below_set ?_ GE102.out|refine below_set ?_ GE133.out|refine below_set ?_ GE135.out)|exact HB.out)) hb)
                 clear HO_13
                 clear HO_14
                 clear BK101
                 clear BK102
                 clear BK133
                 clear BK135
                 clear HB
                 have HO_13:=n0_
                 have HO_14:=n1_
                 have BK101:=n2_
                 have BK102:=n3_
                 have BK133:=n4_
                 have BK135:=n5_
                 have HB:=n6_
                 clear n0_ n1_ n2_ n3_ n4_ n5_ n6_
                 (try clear hb)
                 (try clear hb2)
                 (try clear hk)
                 (try clear hi)
                 refine hK.out _ _ ⟨(blk_cell BK133.out 0).trans rfl,(blk_cell BK133.out 1).trans rfl,(blk_cell BK133.out 2).trans rfl,(blk_cell BK135.out 0).trans rfl,(blk_cell BK135.out 1).trans rfl,(blk_cell BK135.out 2).trans rfl⟩ (fun hHeld => ?_)
                 clear hK K
                 refine norm_ (a':=?_) ?_ ?_
                 rotate_left
                 ·show Act.put _ (some 120) _ = _
                  simp only [Act.put,List.setIfInBounds_toArray,List.set_cons_zero,List.set_cons_succ,i64_w,i32_w]
                  rfl
                 refine one_ (i:=17) (N:=some 127) #[true,true,true,true,true,true,true,true,true,true,true,true,true,true,true,true,true,true,false,false] rfl rfl (one_of HT_.out kr) (by decide) (fun K hK => ?_)
                 refine goes_ Try.func105 kr rfl #[.int .i64 ((rd_T190 t129 x15_3).f0),.int .i64 ((rd_T190 t129 x15_3).f1),.int .i64 ((rd_T190 t129 x15_3).f2)] (by rfl) rfl rfl (by (try simp only [List.map_toArray,List.map_cons,List.map_nil]);first|done|rfl|(simp only [List.length_drop,List.length_take];rfl)) ?_
                 with_reducible refine (calxref08_node.calls k3 ((rd_T190 t129 x15_3).f0) ((rd_T190 t129 x15_3).f1) ((rd_T190 t129 x15_3).f2) t137 _ A73.out).mono ?_
                 rintro e w89 ⟨rfl,hb⟩
                 refine ⟨_,rfl,?_⟩
                 have n0_:=am (Kd.R_below (by (with_reducible repeat (first|apply Kd.R_alloc|apply Kd.R_drewN|apply Kd.R_drew));exact HO_13.out) hb)
                 have n1_:=am (Kd.R_below (by (with_reducible repeat (first|apply Kd.R_alloc|apply Kd.R_drewN|apply Kd.R_drew));exact HO_14.out) hb)
                 have n2_:=am (blk_below (g:=gb101) (o:=.cells #[.int .i64 a2_0,.int .i64 a2_1,.int .i64 a2_2,.int .i64 a2_3] 29 (0,0)) (vb BK101.out) hb)
                 have n3_:=am (blk_below (g:=gb102) (o:=.cells #[.slice none 0 0,.slice none 0 0,.bool x103002_3,.int .i64 x103003_3] 118 (0,0)) (vb BK102.out) hb)
                 have n4_:=am (blk_below (g:=gb133) (o:=.cells #[.int .i64 ((rd_T190 t121 x15_3).f0),.int .i64 ((rd_T190 t121 x15_3).f1),.int .i64 ((rd_T190 t121 x15_3).f2)] 190 (0,0)) (vb BK133.out) hb)
                 have n5_:=am (blk_below (g:=gb135) (o:=.cells #[.int .i64 ((rd_T190 t129 x15_3).f0),.int .i64 ((rd_T190 t129 x15_3).f1),.int .i64 ((rd_T190 t129 x15_3).f2)] 190 (0,0)) (vb BK135.out) hb)
                 have n6_:=am (below_step (by repeat (first|(with_reducible first|exact HB.out|apply below_alloc|apply pw_below_drewN|apply below_drew1|refine below_set ?_ GE101.out|refine below_set ?_ GE102.out|refine below_set ?_ GE133.out|refine below_set ?_ GE135.out)|exact HB.out)) hb)
                 clear HO_13
                 clear HO_14
                 clear BK101
                 clear BK102
                 clear BK133
                 clear BK135
                 clear HB
                 have HO_13:=n0_
                 have HO_14:=n1_
                 have BK101:=n2_
                 have BK102:=n3_
                 have BK133:=n4_
                 have BK135:=n5_
                 have HB:=n6_
                 clear n0_ n1_ n2_ n3_ n4_ n5_ n6_
                 (try clear hb)
                 (try clear hb2)
                 (try clear hk)
                 (try clear hi)
                 refine hK.out _ _ ⟨(blk_cell BK133.out 0).trans rfl,(blk_cell BK133.out 1).trans rfl,(blk_cell BK133.out 2).trans rfl,(blk_cell BK135.out 0).trans rfl,(blk_cell BK135.out 1).trans rfl,(blk_cell BK135.out 2).trans rfl⟩ (fun hHeld => ?_)
                 clear hK K
                 refine norm_ (a':=?_) ?_ ?_
                 rotate_left
                 ·show Act.put _ (some 127) _ = _
                  simp only [Act.put,List.setIfInBounds_toArray,List.set_cons_zero,List.set_cons_succ,i64_w,i32_w]
                  rfl
                 refine pure_ (i:=18) (N:=some 128) (v:=?_) (a':=?_) #[true,true,true,true,true,true,true,true,true,true,true,true,true,true,true,true,true,true,true,false] rfl rfl (any_of HT_.out kr) (fun _ _ _ h => h) (Or.inl ⟨by rfl,?_⟩) ?_ ?_
                 rotate_left
                 ·intro w'
                  go_simp
                  with_reducible rfl
                 rotate_left
                 ·exact vs
                 refine pure_ (i:=19) (N:=some 129) (v:=?_) (a':=?_) #[true,true,true,true,true,true,true,true,true,true,true,true,true,true,true,true,true,true,true,true] rfl rfl (any_of HT_.out kr) (fun _ _ _ h => h) (Or.inl ⟨by rfl,?_⟩) ?_ ?_
                 rotate_left
                 ·intro w'
                  go_simp
                  with_reducible rfl
                 rotate_left
                 ·exact vs
                 refine done_ (done_of HT_.out kr) ?_
                 have H:=HS_.out
                 clear HS_
                 by_cases c74 : t136 = t137
                 ·rw [if_pos c74] at H
                  have c74b0 : (t136 == t137) = true:=beq_iff_eq.mpr c74
                  have c74b1 : (t136 != t137) = false:=bne_eq_false_iff_eq.mpr c74
                  clear c74
                  obtain ⟨y138,hy138⟩ : ∃ y_ : List Int,y_ = (([1,(rd_T190 t121 x15_3).f0,(rd_T190 t121 x15_3).f1,(rd_T190 t121 x15_3).f2] : List Int)):=⟨_,rfl⟩
                  replace H : (some (y138,(([1,(rd_T190 t129 x15_3).f0,(rd_T190 t129 x15_3).f1,(rd_T190 t129 x15_3).f2] : List Int)),true,0)) = some (r1,r2,r3,r4):=by first|(rw [hy138];with_reducible exact H)|(have H2_:=(Option.bind_some _ _).symm.trans H;rw [hy138];with_reducible exact H2_)|(have H2_:=(Option.bind_some _ _).symm.trans H;with_reducible exact H2_)|with_reducible exact H|(rw [hy138];exact H)|exact H
                  have Ny138:=am hy138
                  clear hy138
                  obtain ⟨y141,hy141⟩ : ∃ y_ : List Int,y_ = (([1,(rd_T190 t129 x15_3).f0,(rd_T190 t129 x15_3).f1,(rd_T190 t129 x15_3).f2] : List Int)):=⟨_,rfl⟩
                  replace H : (some (y138,y141,true,0)) = some (r1,r2,r3,r4):=by first|(rw [hy141];with_reducible exact H)|(have H2_:=(Option.bind_some _ _).symm.trans H;rw [hy141];with_reducible exact H2_)|(have H2_:=(Option.bind_some _ _).symm.trans H;with_reducible exact H2_)|with_reducible exact H|(rw [hy141];exact H)|exact H
                  have Ny141:=am hy141
                  clear hy141
                  simp only [Option.some.injEq,Prod.mk.injEq] at H
                  obtain ⟨rfl,rfl,rfl,rfl⟩:=H
                  have hcz90_0 : w89.cell? ⟨gb133,0,none⟩ = some (.int .i64 ((rd_T190 t121 x15_3).f0)):=(blk_cell BK133.out 0).trans rfl
                  have hcz90_1 : w89.cell? ⟨gb133,1,none⟩ = some (.int .i64 ((rd_T190 t121 x15_3).f1)):=(blk_cell BK133.out 1).trans rfl
                  have hcz90_2 : w89.cell? ⟨gb133,2,none⟩ = some (.int .i64 ((rd_T190 t121 x15_3).f2)):=(blk_cell BK133.out 2).trans rfl
                  have hfz90_0:=blk_frozen BK133.out 0
                  have hfz90_1:=blk_frozen BK133.out 1
                  have hfz90_2:=blk_frozen BK133.out 2
                  try go_wp2_with (first|((with_reducible refine gate_dst (N:=136) rfl ?_);refine Kd.R_lit (Kd.int .i64) _ 3 ?hg (N:=136) ?hd (xs:=([1,(rd_T190 t121 x15_3).f0,(rd_T190 t121 x15_3).f1,(rd_T190 t121 x15_3).f2] : List Int)) (inner:=[.int .i64 1,.int .i64 ((rd_T190 t121 x15_3).f0),.int .i64 ((rd_T190 t121 x15_3).f1),.int .i64 ((rd_T190 t121 x15_3).f2)]) (ok:=fun _ => True) (okp:=fun _ => True) ?hr ?hp (fun _ hk => hk) trivial (Below.refl _ _) (Nat.le_refl _) (by simp) ?_;(case hd => rfl);(case hg => rfl);(case hr => first|(go_simp;done)|(go_simp;rfl));(case hp => exact (Reps.one (show Kd.M (Kd.int .i64) _ _ _ 1 [.int .i64 1] from rfl) (Reps.one (show Kd.M (Kd.int .i64) _ _ _ ((rd_T190 t121 x15_3).f0) [.int .i64 ((rd_T190 t121 x15_3).f0)] from rfl) (Reps.one (show Kd.M (Kd.int .i64) _ _ _ ((rd_T190 t121 x15_3).f1) [.int .i64 ((rd_T190 t121 x15_3).f1)] from rfl) (Reps.one (show Kd.M (Kd.int .i64) _ _ _ ((rd_T190 t121 x15_3).f2) [.int .i64 ((rd_T190 t121 x15_3).f2)] from rfl) (Reps.none _ _))))));intro v139 w91 ho92 hb hg_ hnew_;clear hg_ hnew_;(first|rw [← Ny138.out] at ho92|(simp only [Int.reduceToNat] at ho92;rw [← Ny138.out] at ho92));have n0_:=am (Kd.R_below (by (with_reducible repeat (first|apply Kd.R_alloc|apply Kd.R_drewN|apply Kd.R_drew));exact HO_13.out) hb);have n1_:=am (Kd.R_below (by (with_reducible repeat (first|apply Kd.R_alloc|apply Kd.R_drewN|apply Kd.R_drew));exact HO_14.out) hb);have n2_:=am (Kd.R_lower ho92 (below_size (by repeat (first|(with_reducible first|exact HB.out|apply below_alloc|apply pw_below_drewN|apply below_drew1|refine below_set ?_ GE101.out|refine below_set ?_ GE102.out|refine below_set ?_ GE133.out|refine below_set ?_ GE135.out)|exact HB.out))));have n3_:=am (blk_below (g:=gb101) (o:=.cells #[.int .i64 a2_0,.int .i64 a2_1,.int .i64 a2_2,.int .i64 a2_3] 29 (0,0)) (vb BK101.out) hb);have n4_:=am (blk_below (g:=gb102) (o:=.cells #[.slice none 0 0,.slice none 0 0,.bool x103002_3,.int .i64 x103003_3] 118 (0,0)) (vb BK102.out) hb);have n5_:=am (blk_below (g:=gb133) (o:=.cells #[.int .i64 ((rd_T190 t121 x15_3).f0),.int .i64 ((rd_T190 t121 x15_3).f1),.int .i64 ((rd_T190 t121 x15_3).f2)] 190 (0,0)) (vb BK133.out) hb);have n6_:=am (blk_below (g:=gb135) (o:=.cells #[.int .i64 ((rd_T190 t129 x15_3).f0),.int .i64 ((rd_T190 t129 x15_3).f1),.int .i64 ((rd_T190 t129 x15_3).f2)] 190 (0,0)) (vb BK135.out) hb);have n7_:=am (below_step (by repeat (first|(with_reducible first|exact HB.out|apply below_alloc|apply pw_below_drewN|apply below_drew1|refine below_set ?_ GE101.out|refine below_set ?_ GE102.out|refine below_set ?_ GE133.out|refine below_set ?_ GE135.out)|exact HB.out)) hb);clear HO_13;clear HO_14;clear BK101;clear BK102;clear BK133;clear BK135;clear HB;have HO_13:=n0_;have HO_14:=n1_;have HO140:=n2_;have BK101:=n3_;have BK102:=n4_;have BK133:=n5_;have BK135:=n6_;have HB:=n7_;clear n0_ n1_ n2_ n3_ n4_ n5_ n6_ n7_;clear hb ho92;have hcz93_0 : w91.cell? ⟨gb135,0,none⟩ = some (.int .i64 ((rd_T190 t129 x15_3).f0)):=(blk_cell BK135.out 0).trans rfl;have hcz93_1 : w91.cell? ⟨gb135,1,none⟩ = some (.int .i64 ((rd_T190 t129 x15_3).f1)):=(blk_cell BK135.out 1).trans rfl;have hcz93_2 : w91.cell? ⟨gb135,2,none⟩ = some (.int .i64 ((rd_T190 t129 x15_3).f2)):=(blk_cell BK135.out 2).trans rfl;have hfz93_0:=blk_frozen BK135.out 0;have hfz93_1:=blk_frozen BK135.out 1;have hfz93_2:=blk_frozen BK135.out 2)|((with_reducible refine gate_dst (N:=143) rfl ?_);refine Kd.R_lit (Kd.int .i64) _ 3 ?hg (N:=143) ?hd (xs:=([1,(rd_T190 t129 x15_3).f0,(rd_T190 t129 x15_3).f1,(rd_T190 t129 x15_3).f2] : List Int)) (inner:=[.int .i64 1,.int .i64 ((rd_T190 t129 x15_3).f0),.int .i64 ((rd_T190 t129 x15_3).f1),.int .i64 ((rd_T190 t129 x15_3).f2)]) (ok:=fun _ => True) (okp:=fun _ => True) ?hr ?hp (fun _ hk => hk) trivial (Below.refl _ _) (Nat.le_refl _) (by simp) ?_;(case hd => rfl);(case hg => rfl);(case hr => first|(go_simp;done)|(go_simp;rfl));(case hp => exact (Reps.one (show Kd.M (Kd.int .i64) _ _ _ 1 [.int .i64 1] from rfl) (Reps.one (show Kd.M (Kd.int .i64) _ _ _ ((rd_T190 t129 x15_3).f0) [.int .i64 ((rd_T190 t129 x15_3).f0)] from rfl) (Reps.one (show Kd.M (Kd.int .i64) _ _ _ ((rd_T190 t129 x15_3).f1) [.int .i64 ((rd_T190 t129 x15_3).f1)] from rfl) (Reps.one (show Kd.M (Kd.int .i64) _ _ _ ((rd_T190 t129 x15_3).f2) [.int .i64 ((rd_T190 t129 x15_3).f2)] from rfl) (Reps.none _ _))))));intro v142 w94 ho95 hb hg_ hnew_;clear hg_ hnew_;(first|rw [← Ny141.out] at ho95|(simp only [Int.reduceToNat] at ho95;rw [← Ny141.out] at ho95));have n0_:=am (Kd.R_below (by (with_reducible repeat (first|apply Kd.R_alloc|apply Kd.R_drewN|apply Kd.R_drew));exact HO_13.out) hb);have n1_:=am (Kd.R_below (by (with_reducible repeat (first|apply Kd.R_alloc|apply Kd.R_drewN|apply Kd.R_drew));exact HO_14.out) hb);have n2_:=am (Kd.R_elder' (by (with_reducible repeat (first|apply Kd.R_alloc|apply Kd.R_drewN|apply Kd.R_drew));exact HO140.out) (Kd.R_base ho95) hb);have n3_:=am (Kd.R_lower (Kd.R_new' ho95 (Kd.R_lt (by (with_reducible repeat (first|apply Kd.R_alloc|apply Kd.R_drewN|apply Kd.R_drew));exact HO140.out))) (below_size (by repeat (first|(with_reducible first|exact HB.out|apply below_alloc|apply pw_below_drewN|apply below_drew1|refine below_set ?_ GE101.out|refine below_set ?_ GE102.out|refine below_set ?_ GE133.out|refine below_set ?_ GE135.out)|exact HB.out))));have n4_:=am (blk_below (g:=gb101) (o:=.cells #[.int .i64 a2_0,.int .i64 a2_1,.int .i64 a2_2,.int .i64 a2_3] 29 (0,0)) (vb BK101.out) hb);have n5_:=am (blk_below (g:=gb102) (o:=.cells #[.slice none 0 0,.slice none 0 0,.bool x103002_3,.int .i64 x103003_3] 118 (0,0)) (vb BK102.out) hb);have n6_:=am (blk_below (g:=gb133) (o:=.cells #[.int .i64 ((rd_T190 t121 x15_3).f0),.int .i64 ((rd_T190 t121 x15_3).f1),.int .i64 ((rd_T190 t121 x15_3).f2)] 190 (0,0)) (vb BK133.out) hb);have n7_:=am (blk_below (g:=gb135) (o:=.cells #[.int .i64 ((rd_T190 t129 x15_3).f0),.int .i64 ((rd_T190 t129 x15_3).f1),.int .i64 ((rd_T190 t129 x15_3).f2)] 190 (0,0)) (vb BK135.out) hb);have n8_:=am (below_step (by repeat (first|(with_reducible first|exact HB.out|apply below_alloc|apply pw_below_drewN|apply below_drew1|refine below_set ?_ GE101.out|refine below_set ?_ GE102.out|refine below_set ?_ GE133.out|refine below_set ?_ GE135.out)|exact HB.out)) hb);clear HO_13;clear HO_14;clear HO140;clear BK101;clear BK102;clear BK133;clear BK135;clear HB;have HO_13:=n0_;have HO_14:=n1_;have HO140:=n2_;have HO143:=n3_;have BK101:=n4_;have BK102:=n5_;have BK133:=n6_;have BK135:=n7_;have HB:=n8_;clear n0_ n1_ n2_ n3_ n4_ n5_ n6_ n7_ n8_;clear hb ho95;obtain ⟨Ao96,co96,eo96⟩:=Kd.R_slice HO143.out;subst eo96;obtain ⟨Ao97,co97,eo97⟩:=Kd.R_slice HO140.out;subst eo97;have hnb98:=NB102_101.out;have hnc98:=NB101_102.out;have hcz99_0 : w94.cell? ⟨gb102,0,none⟩ = some (.slice none 0 0):=(blk_cell BK102.out 0).trans rfl;have hcz99_1 : w94.cell? ⟨gb102,1,none⟩ = some (.slice none 0 0):=(blk_cell BK102.out 1).trans rfl;have hcz99_2 : w94.cell? ⟨gb102,2,none⟩ = some (.bool x103002_3):=(blk_cell BK102.out 2).trans rfl;have hcz99_3 : w94.cell? ⟨gb102,3,none⟩ = some (.int .i64 x103003_3):=(blk_cell BK102.out 3).trans rfl;have hfz99_0:=blk_frozen BK102.out 0;have hfz99_1:=blk_frozen BK102.out 1;have hfz99_2:=blk_frozen BK102.out 2;have hfz99_3:=blk_frozen BK102.out 3))
                  refine bodyPost_ret (results_cell_row rfl _ _ gb102 118 #[.slice Ao97 y138.length co97,.slice Ao96 y141.length co96,.bool true,.int .i64 0] (0,0) _ rfl (by (with_reducible repeat (first|refine blk_drewN ?_ _|refine blk_drew ?_|refine blk_alloc ?_ _));refine blk_put (cs:=#[.slice Ao97 y138.length co97,.slice Ao96 y141.length co96,.bool true,.int .i64 x103003_3]) ?_ 3 _ rfl;(with_reducible repeat (first|refine blk_drewN ?_ _|refine blk_drew ?_|refine blk_alloc ?_ _));refine blk_put (cs:=#[.slice Ao97 y138.length co97,.slice Ao96 y141.length co96,.bool x103002_3,.int .i64 x103003_3]) ?_ 2 _ rfl;(with_reducible repeat (first|refine blk_drewN ?_ _|refine blk_drew ?_|refine blk_alloc ?_ _));refine blk_put (cs:=#[.slice Ao97 y138.length co97,.slice none 0 0,.bool x103002_3,.int .i64 x103003_3]) ?_ 1 _ rfl;(with_reducible repeat (first|refine blk_drewN ?_ _|refine blk_drew ?_|refine blk_alloc ?_ _));refine blk_put (cs:=#[.slice none 0 0,.slice none 0 0,.bool x103002_3,.int .i64 x103003_3]) ?_ 0 _ rfl;(with_reducible repeat (first|refine blk_drewN ?_ _|refine blk_drew ?_|refine blk_alloc ?_ _));exact BK102.out) Try.underlying118 rfl kr) rfl ?_
                  exact ⟨_,_,vf,by (with_reducible repeat (first|apply Kd.R_alloc|apply Kd.R_drewN|apply Kd.R_drew));exact Kd.R_mono (Kd.R_far (p:=⟨gb102,3,none⟩) (Kd.R_far (p:=⟨gb102,2,none⟩) (Kd.R_far (p:=⟨gb102,1,none⟩) (Kd.R_far (p:=⟨gb102,0,none⟩) (Kd.R_types HO140.out BK102.out (by decide)) (fun _ hk => hk.2) (.slice Ao97 y138.length co97)) (fun _ hk => hk.2) (.slice Ao96 y141.length co96)) (fun _ hk => hk.2) (.bool true)) (fun _ hk => hk.2) (.int .i64 0)) (fun _ hk => hk.1.2),by (with_reducible repeat (first|apply Kd.R_alloc|apply Kd.R_drewN|apply Kd.R_drew));exact Kd.R_mono (Kd.R_far (p:=⟨gb102,3,none⟩) (Kd.R_far (p:=⟨gb102,2,none⟩) (Kd.R_far (p:=⟨gb102,1,none⟩) (Kd.R_far (p:=⟨gb102,0,none⟩) (Kd.R_types HO143.out BK102.out (by decide)) (fun _ hk => hk.2) (.slice Ao97 y138.length co97)) (fun _ hk => hk.2) (.slice Ao96 y141.length co96)) (fun _ hk => hk.2) (.bool true)) (fun _ hk => hk.2) (.int .i64 0)) (fun _ hk => hk.1.2),by repeat (first|(with_reducible first|exact HB.out|apply below_alloc|apply pw_below_drewN|apply below_drew1|refine below_set ?_ GE101.out|refine below_set ?_ GE102.out|refine below_set ?_ GE133.out|refine below_set ?_ GE135.out)|exact HB.out)⟩
                 ·rw [if_neg c74] at H
                  have c74b0 : (t136 == t137) = false:=beq_eq_false_iff_ne.mpr c74
                  have c74b1 : (t136 != t137) = true:=bne_iff_ne.mpr c74
                  have H':=am H
                  clear H
                  try go_wp2
                  go_roundg k3
                  case measure => have:=HJ9.out;have:=HJ24.out;have:=HK3.out;omega
                  case rel => exact ⟨(wrap64 (x15_3 + 1)),(x103002_3),(x103003_3),ve,H',⟨by have:=HJ9.out;have:=HJ24.out;have:=HK3.out;omega⟩,⟨by (with_reducible repeat (first|apply Kd.R_alloc|apply Kd.R_drewN|apply Kd.R_drew));exact Kd.R_mono HO_13.out (fun _ hk => hk.1)⟩,⟨by (with_reducible repeat (first|apply Kd.R_alloc|apply Kd.R_drewN|apply Kd.R_drew));exact Kd.R_mono HO_14.out (fun _ hk => hk.1)⟩,⟨vb BK101.out⟩,⟨vb BK102.out⟩,⟨by repeat (first|(with_reducible first|exact HB.out|apply below_alloc|apply pw_below_drewN|apply below_drew1|refine below_set ?_ GE101.out|refine below_set ?_ GE102.out|refine below_set ?_ GE133.out|refine below_set ?_ GE135.out)|exact HB.out)⟩⟩
                ·rw [if_neg c71] at H
                 have c71b0 : (!(((rd_T190 t121 x15_3).f0) == ((rd_T190 t129 x15_3).f0)) || (!(((rd_T190 t121 x15_3).f1) == ((rd_T190 t129 x15_3).f1)) || (!(((rd_T190 t121 x15_3).f2) == ((rd_T190 t129 x15_3).f2))))) = false:=by simpa using c71
                 clear c71
                 have H':=am H
                 clear H
                 refine start_ (n:=20) (S:=fun w' => w'.cell? ⟨gb133,0,none⟩ = some (.int .i64 ((rd_T190 t121 x15_3).f0)) ∧ w'.cell? ⟨gb133,1,none⟩ = some (.int .i64 ((rd_T190 t121 x15_3).f1)) ∧ w'.cell? ⟨gb133,2,none⟩ = some (.int .i64 ((rd_T190 t121 x15_3).f2)) ∧ w'.cell? ⟨gb135,0,none⟩ = some (.int .i64 ((rd_T190 t129 x15_3).f0)) ∧ w'.cell? ⟨gb135,1,none⟩ = some (.int .i64 ((rd_T190 t129 x15_3).f1)) ∧ w'.cell? ⟨gb135,2,none⟩ = some (.int .i64 ((rd_T190 t129 x15_3).f2))) (ds:=[]) #[false,false,false,false,false,false,false,false,false,false,false,false,false,false,false,false,false,false,false,false] kr rfl rfl ⟨(blk_cell BK133.out 0).trans rfl,(blk_cell BK133.out 1).trans rfl,(blk_cell BK133.out 2).trans rfl,(blk_cell BK135.out 0).trans rfl,(blk_cell BK135.out 1).trans rfl,(blk_cell BK135.out 2).trans rfl⟩ (fun hHeld => ?_);refine with_tabW calxref08_Gap.tab20 calxref08_Gap.bits20 (fun HT_ HW_ => ?_)
                 generalize w86.drew = w127 at HO_13 HO_14 BK101 BK102 BK133 BK135 HB hHeld ⊢
                 refine take_ (i:=0) (N:=some 110) (v:=?_) (a':=?_) #[true,false,false,false,false,false,false,false,false,false,false,false,false,false,false,false,false,false,false,false] rfl rfl (take_ofW HT_.out HW_.out kr) (fun _ _ _ h => h) (Or.inl ⟨by rfl,?_⟩) hHeld ?_ ?_
                 rotate_left
                 ·rintro w' ⟨s0,s1,s2,s3,s4,s5⟩
                  go_simp
                  with_reducible rfl
                 rotate_left
                 ·exact vs
                 refine take_ (i:=1) (N:=some 111) (v:=?_) (a':=?_) #[true,true,false,false,false,false,false,false,false,false,false,false,false,false,false,false,false,false,false,false] rfl rfl (take_ofW HT_.out HW_.out kr) (fun _ _ _ h => h) (Or.inl ⟨by rfl,?_⟩) hHeld ?_ ?_
                 rotate_left
                 ·rintro w' ⟨s0,s1,s2,s3,s4,s5⟩
                  go_simp
                  with_reducible rfl
                 rotate_left
                 ·exact vs
                 refine pure_ (i:=2) (N:=some 112) (v:=?_) (a':=?_) #[true,true,true,false,false,false,false,false,false,false,false,false,false,false,false,false,false,false,false,false] rfl rfl (any_of HT_.out kr) (fun _ _ _ h => h) (Or.inl ⟨by rfl,?_⟩) ?_ ?_
                 rotate_left
                 ·intro w'
                  go_simp
                  with_reducible rfl
                 rotate_left
                 ·exact vs
                 refine pure_ (i:=3) (N:=some 113) (v:=?_) (a':=?_) #[true,true,true,true,false,false,false,false,false,false,false,false,false,false,false,false,false,false,false,false] rfl rfl (any_of HT_.out kr) (fun _ _ _ h => h) (Or.inl ⟨by rfl,?_⟩) ?_ ?_
                 rotate_left
                 ·intro w'
                  go_simp
                  with_reducible rfl
                 rotate_left
                 ·exact vs
                 refine pure_ (i:=4) (N:=some 114) (v:=undef) (a':=?_) #[true,true,true,true,true,false,false,false,false,false,false,false,false,false,false,false,false,false,false,false] rfl rfl (any_of HT_.out kr) (fun _ _ _ h => h) (Or.inr ⟨by rfl,rfl⟩) ?_ ?_
                 rotate_left
                 ·exact vs
                 refine pure_ (i:=5) (N:=some 115) (v:=undef) (a':=?_) #[true,true,true,true,true,true,false,false,false,false,false,false,false,false,false,false,false,false,false,false] rfl rfl (any_of HT_.out kr) (fun _ _ _ h => h) (Or.inr ⟨by rfl,rfl⟩) ?_ ?_
                 rotate_left
                 ·exact vs
                 refine pure_ (i:=6) (N:=some 116) (v:=undef) (a':=?_) #[true,true,true,true,true,true,true,false,false,false,false,false,false,false,false,false,false,false,false,false] rfl rfl (any_of HT_.out kr) (fun _ _ _ h => h) (Or.inr ⟨by rfl,rfl⟩) ?_ ?_
                 rotate_left
                 ·exact vs
                 refine pure_ (i:=7) (N:=some 117) (v:=undef) (a':=?_) #[true,true,true,true,true,true,true,true,false,false,false,false,false,false,false,false,false,false,false,false] rfl rfl (any_of HT_.out kr) (fun _ _ _ h => h) (Or.inr ⟨by rfl,rfl⟩) ?_ ?_
                 rotate_left
                 ·exact vs
                 refine pure_ (i:=8) (N:=some 118) (v:=undef) (a':=?_) #[true,true,true,true,true,true,true,true,true,false,false,false,false,false,false,false,false,false,false,false] rfl rfl (any_of HT_.out kr) (fun _ _ _ h => h) (Or.inr ⟨by rfl,rfl⟩) ?_ ?_
                 rotate_left
                 ·exact vs
                 refine pure_ (i:=9) (N:=some 119) (v:=undef) (a':=?_) #[true,true,true,true,true,true,true,true,true,true,false,false,false,false,false,false,false,false,false,false] rfl rfl (any_of HT_.out kr) (fun _ _ _ h => h) (Or.inr ⟨by rfl,rfl⟩) ?_ ?_
                 rotate_left
                 ·exact vs
                 refine pure_ (i:=10) (N:=some 120) (v:=undef) (a':=?_) #[true,true,true,true,true,true,true,true,true,true,true,false,false,false,false,false,false,false,false,false] rfl rfl (any_of HT_.out kr) (fun _ _ _ h => h) (Or.inr ⟨by rfl,rfl⟩) ?_ ?_
                 rotate_left
                 ·exact vs
                 refine pure_ (i:=11) (N:=some 121) (v:=undef) (a':=?_) #[true,true,true,true,true,true,true,true,true,true,true,true,false,false,false,false,false,false,false,false] rfl rfl (any_of HT_.out kr) (fun _ _ _ h => h) (Or.inr ⟨by rfl,rfl⟩) ?_ ?_
                 rotate_left
                 ·exact vs
                 refine pure_ (i:=12) (N:=some 122) (v:=undef) (a':=?_) #[true,true,true,true,true,true,true,true,true,true,true,true,true,false,false,false,false,false,false,false] rfl rfl (any_of HT_.out kr) (fun _ _ _ h => h) (Or.inr ⟨by rfl,rfl⟩) ?_ ?_
                 rotate_left
                 ·exact vs
                 refine pure_ (i:=13) (N:=some 123) (v:=undef) (a':=?_) #[true,true,true,true,true,true,true,true,true,true,true,true,true,true,false,false,false,false,false,false] rfl rfl (any_of HT_.out kr) (fun _ _ _ h => h) (Or.inr ⟨by rfl,rfl⟩) ?_ ?_
                 rotate_left
                 ·exact vs
                 refine pure_ (i:=14) (N:=some 124) (v:=undef) (a':=?_) #[true,true,true,true,true,true,true,true,true,true,true,true,true,true,true,false,false,false,false,false] rfl rfl (any_of HT_.out kr) (fun _ _ _ h => h) (Or.inr ⟨by rfl,rfl⟩) ?_ ?_
                 rotate_left
                 ·exact vs
                 refine pure_ (i:=15) (N:=some 125) (v:=undef) (a':=?_) #[true,true,true,true,true,true,true,true,true,true,true,true,true,true,true,true,false,false,false,false] rfl rfl (any_of HT_.out kr) (fun _ _ _ h => h) (Or.inr ⟨by rfl,rfl⟩) ?_ ?_
                 rotate_left
                 ·exact vs
                 refine pure_ (i:=16) (N:=some 126) (v:=undef) (a':=?_) #[true,true,true,true,true,true,true,true,true,true,true,true,true,true,true,true,true,false,false,false] rfl rfl (any_of HT_.out kr) (fun _ _ _ h => h) (Or.inr ⟨by rfl,rfl⟩) ?_ ?_
                 rotate_left
                 ·exact vs
                 refine pure_ (i:=17) (N:=some 127) (v:=undef) (a':=?_) #[true,true,true,true,true,true,true,true,true,true,true,true,true,true,true,true,true,true,false,false] rfl rfl (any_of HT_.out kr) (fun _ _ _ h => h) (Or.inr ⟨by rfl,rfl⟩) ?_ ?_
                 rotate_left
                 ·exact vs
                 refine pure_ (i:=18) (N:=some 128) (v:=undef) (a':=?_) #[true,true,true,true,true,true,true,true,true,true,true,true,true,true,true,true,true,true,true,false] rfl rfl (any_of HT_.out kr) (fun _ _ _ h => h) (Or.inr ⟨by rfl,rfl⟩) ?_ ?_
                 rotate_left
                 ·exact vs
                 refine pure_ (i:=19) (N:=some 129) (v:=?_) (a':=?_) #[true,true,true,true,true,true,true,true,true,true,true,true,true,true,true,true,true,true,true,true] rfl rfl (any_of HT_.out kr) (fun _ _ _ h => h) (Or.inl ⟨by rfl,?_⟩) ?_ ?_
                 rotate_left
                 ·intro w'
                  go_simp
                  with_reducible rfl
                 rotate_left
                 ·exact vs
                 refine done_ (done_of HT_.out kr) ?_
                 try go_wp2
                 go_roundg k3
                 case measure => have:=HJ9.out;have:=HJ24.out;have:=HK3.out;omega
                 case rel => exact ⟨(wrap64 (x15_3 + 1)),(x103002_3),(x103003_3),ve,H',⟨by have:=HJ9.out;have:=HJ24.out;have:=HK3.out;omega⟩,⟨by (with_reducible repeat (first|apply Kd.R_alloc|apply Kd.R_drewN|apply Kd.R_drew));exact Kd.R_mono HO_13.out (fun _ hk => hk.1)⟩,⟨by (with_reducible repeat (first|apply Kd.R_alloc|apply Kd.R_drewN|apply Kd.R_drew));exact Kd.R_mono HO_14.out (fun _ hk => hk.1)⟩,⟨vb BK101.out⟩,⟨vb BK102.out⟩,⟨by repeat (first|(with_reducible first|exact HB.out|apply below_alloc|apply pw_below_drewN|apply below_drew1|refine below_set ?_ GE101.out|refine below_set ?_ GE102.out|refine below_set ?_ GE133.out|refine below_set ?_ GE135.out)|exact HB.out)⟩⟩
               ·rw [if_neg c70] at H
                exact absurd H (by simp)
              ·rw [if_neg c69] at H
               exact absurd H (by simp)
             ·rw [if_neg c68] at H
              have c68b0 : decide (x15_3 < (t121.length : Int)) = false:=decide_eq_false c68
              clear c68
              simp only [Option.some.injEq,Prod.mk.injEq] at H
              obtain ⟨rfl,rfl,rfl,rfl⟩:=H
              obtain ⟨Ao128,co128,eo128⟩:=Kd.R_slice HO_13.out
              subst eo128
              have hnb129:=NB102_101.out
              have hnc129:=NB101_102.out
              have hcz130_0 : wr.cell? ⟨gb102,0,none⟩ = some (.slice none 0 0):=(blk_cell BK102.out 0).trans rfl
              have hcz130_1 : wr.cell? ⟨gb102,1,none⟩ = some (.slice none 0 0):=(blk_cell BK102.out 1).trans rfl
              have hcz130_2 : wr.cell? ⟨gb102,2,none⟩ = some (.bool x103002_3):=(blk_cell BK102.out 2).trans rfl
              have hcz130_3 : wr.cell? ⟨gb102,3,none⟩ = some (.int .i64 x103003_3):=(blk_cell BK102.out 3).trans rfl
              have hfz130_0:=blk_frozen BK102.out 0
              have hfz130_1:=blk_frozen BK102.out 1
              have hfz130_2:=blk_frozen BK102.out 2
              have hfz130_3:=blk_frozen BK102.out 3
              go_wp2
              refine bodyPost_ret (results_cell_row rfl _ _ gb102 118 #[.slice none 0 0,.slice none 0 0,.bool false,.int .i64 0] (0,0) _ rfl (by (with_reducible repeat (first|refine blk_drewN ?_ _|refine blk_drew ?_|refine blk_alloc ?_ _));refine blk_put (cs:=#[.slice none 0 0,.slice none 0 0,.bool false,.int .i64 x103003_3]) ?_ 3 _ rfl;(with_reducible repeat (first|refine blk_drewN ?_ _|refine blk_drew ?_|refine blk_alloc ?_ _));refine blk_put (cs:=#[.slice none 0 0,.slice none 0 0,.bool x103002_3,.int .i64 x103003_3]) ?_ 2 _ rfl;(with_reducible repeat (first|refine blk_drewN ?_ _|refine blk_drew ?_|refine blk_alloc ?_ _));refine blk_put (cs:=#[.slice none 0 0,.slice none 0 0,.bool x103002_3,.int .i64 x103003_3]) ?_ 1 _ rfl;(with_reducible repeat (first|refine blk_drewN ?_ _|refine blk_drew ?_|refine blk_alloc ?_ _));refine blk_put (cs:=#[.slice none 0 0,.slice none 0 0,.bool x103002_3,.int .i64 x103003_3]) ?_ 0 _ rfl;(with_reducible repeat (first|refine blk_drewN ?_ _|refine blk_drew ?_|refine blk_alloc ?_ _));exact BK102.out) Try.underlying118 rfl kr) rfl ?_
              exact ⟨_,_,vf,by first|exact Kd.R_nil _ _ _ _ _|exact Kd.N_nil _ _ _ _ _|exact Kd.V_nil _ _ _ _ _|exact Kd.Q_nil _ _ _ _ _|exact Kd.S_nil _ _ _ _ _,by first|exact Kd.R_nil _ _ _ _ _|exact Kd.N_nil _ _ _ _ _|exact Kd.V_nil _ _ _ _ _|exact Kd.Q_nil _ _ _ _ _|exact Kd.S_nil _ _ _ _ _,v2 HB.out GE101.out GE102.out⟩
          ·rw [if_neg c56] at H
           exact absurd H (by simp)
         ·rw [if_neg c55] at H
          exact absurd H (by simp)
     ·rw [if_neg c24] at H
      have c24b0 : (t108 == 0) = false:=beq_eq_false_iff_ne.mpr c24
      have c24b1 : (t108 != 0) = true:=bne_iff_ne.mpr c24
      simp only [Option.some.injEq,Prod.mk.injEq] at H
      obtain ⟨rfl,rfl,rfl,rfl⟩:=H
      try go_wp2
      have n0_:=am (blk_drew BK101.out)
      have n1_:=am (blk_drew BK102.out)
      have n2_:=am (below_drew1 HB.out)
      clear BK101
      clear BK102
      clear HB
      have BK101:=n0_
      have BK102:=n1_
      have HB:=n2_
      clear n0_ n1_ n2_
      refine start_ (n:=9) (S:=fun w' => w'.cell? ⟨gb101,0,none⟩ = some (.int .i64 a2_0) ∧ w'.cell? ⟨gb101,1,none⟩ = some (.int .i64 a2_1) ∧ w'.cell? ⟨gb101,2,none⟩ = some (.int .i64 a2_2) ∧ w'.cell? ⟨gb101,3,none⟩ = some (.int .i64 a2_3)) (ds:=[]) #[false,false,false,false,false,false,false,false,false] kr rfl rfl ⟨(blk_cell BK101.out 0).trans rfl,(blk_cell BK101.out 1).trans rfl,(blk_cell BK101.out 2).trans rfl,(blk_cell BK101.out 3).trans rfl⟩ (fun hHeld => ?_);refine with_tabW calxref08_Gap.tab9 calxref08_Gap.bits9 (fun HT_ HW_ => ?_)
      generalize wc.drew = w131 at BK101 BK102 HB hHeld ⊢
      refine pure_ (i:=0) (N:=some 44) (v:=?_) (a':=?_) #[true,false,false,false,false,false,false,false,false] rfl rfl (any_of HT_.out kr) (fun _ _ _ h => h) (Or.inl ⟨by rfl,?_⟩) ?_ ?_
      rotate_left
      ·intro w'
       go_simp
       with_reducible rfl
      rotate_left
      ·exact vs
      refine pure_ (i:=2) (N:=some 46) (v:=?_) (a':=?_) #[true,false,true,false,false,false,false,false,false] rfl rfl (any_of HT_.out kr) (fun _ _ _ h => h) (Or.inl ⟨by rfl,?_⟩) ?_ ?_
      rotate_left
      ·intro w'
       go_simp
       with_reducible rfl
      rotate_left
      ·exact vs
      refine pure_ (i:=3) (N:=some 47) (v:=?_) (a':=?_) #[true,false,true,true,false,false,false,false,false] rfl rfl (any_of HT_.out kr) (fun _ _ _ h => h) (Or.inl ⟨by rfl,?_⟩) ?_ ?_
      rotate_left
      ·intro w'
       go_simp
       with_reducible rfl
      rotate_left
      ·exact vs
      refine pure_ (i:=4) (N:=some 48) (v:=?_) (a':=?_) #[true,false,true,true,true,false,false,false,false] rfl rfl (any_of HT_.out kr) (fun _ _ _ h => h) (Or.inl ⟨by rfl,?_⟩) ?_ ?_
      rotate_left
      ·intro w'
       go_simp
       with_reducible rfl
      rotate_left
      ·exact vs
      refine pure_ (i:=6) (N:=some 50) (v:=?_) (a':=?_) #[true,false,true,true,true,false,true,false,false] rfl rfl (any_of HT_.out kr) (fun _ _ _ h => h) (Or.inl ⟨by rfl,?_⟩) ?_ ?_
      rotate_left
      ·intro w'
       go_simp
       with_reducible rfl
      rotate_left
      ·exact vs
      refine take_ (i:=5) (N:=some 49) (v:=?_) (a':=?_) #[true,false,true,true,true,true,true,false,false] rfl rfl (take_ofW HT_.out HW_.out kr) (fun _ _ _ h => h) (Or.inl ⟨by rfl,?_⟩) hHeld ?_ ?_
      rotate_left
      ·rintro w' ⟨s0,s1,s2,s3⟩
       go_simp
       with_reducible rfl
      rotate_left
      ·exact vs
      refine one_ (i:=1) (N:=some 45) #[true,true,true,true,true,true,true,false,false] rfl rfl (one_of HT_.out kr) (by decide) (fun K hK => ?_)
      refine goes_ Try.func106 kr rfl #[.slice A0 l0.length c0] (by rfl) rfl rfl (by (try simp only [List.map_toArray,List.map_cons,List.map_nil]);first|done|rfl|(simp only [List.length_drop,List.length_take];rfl)) ?_
      with_reducible refine (calxref08_root.calls _ _ l0 t107 _ ?side1 ?side2 A22.out).mono ?_
      (case side1 => repeat (first|exact (Kd.C_below HR0.out HB.out)|(with_reducible refine Kd.C_alloc ?_ _)|(with_reducible refine Kd.C_drewN ?_ _)|(with_reducible refine Kd.C_drew ?_)))
      (case side2 => exact HC0.out)
      rintro e w132 ⟨rfl,hb⟩
      refine ⟨_,rfl,?_⟩
      have n0_:=am (blk_below (g:=gb101) (o:=.cells #[.int .i64 a2_0,.int .i64 a2_1,.int .i64 a2_2,.int .i64 a2_3] 29 (0,0)) (vb BK101.out) hb)
      have n1_:=am (blk_below (g:=gb102) (o:=.cells #[.slice none 0 0,.slice none 0 0,.bool false,.int .i64 0] 118 (0,0)) (vb BK102.out) hb)
      have n2_:=am (below_step (v2 HB.out GE101.out GE102.out) hb)
      clear BK101
      clear BK102
      clear HB
      have BK101:=n0_
      have BK102:=n1_
      have HB:=n2_
      clear n0_ n1_ n2_
      (try clear hb)
      (try clear hb2)
      (try clear hk)
      (try clear hi)
      refine hK.out _ _ ⟨(blk_cell BK101.out 0).trans rfl,(blk_cell BK101.out 1).trans rfl,(blk_cell BK101.out 2).trans rfl,(blk_cell BK101.out 3).trans rfl⟩ (fun hHeld => ?_)
      clear hK K
      refine norm_ (a':=?_) ?_ ?_
      rotate_left
      ·show Act.put _ (some 45) _ = _
       simp only [Act.put,List.setIfInBounds_toArray,List.set_cons_zero,List.set_cons_succ,i64_w,i32_w]
       rfl
      refine one_ (i:=7) (N:=some 51) #[true,true,true,true,true,true,true,true,false] rfl rfl (one_of HT_.out kr) (by decide) (fun K hK => ?_)
      refine goes_ Try.func75 kr rfl #[.int .i64 t107,.int .i64 (l0.length : Int),.int .i64 a1,.agg #[.int .i64 a2_0,.int .i64 a2_1,.int .i64 a2_2,.int .i64 a2_3],.slice A3 l3.length c3] (by rfl) rfl rfl (by (try simp only [List.map_toArray,List.map_cons,List.map_nil]);first|done|rfl|(simp only [List.length_drop,List.length_take];rfl)) ?_
      with_reducible refine (calxref08_CheckStands.calls kj9 t107 (l0.length : Int) a1 a2_0 a2_1 a2_2 a2_3 _ _ l3 t108 _ ?side1 ?side2 A23.out).mono ?_
      (case side1 => repeat (first|exact (Kd.C_below HR3.out HB.out)|(with_reducible refine Kd.C_alloc ?_ _)|(with_reducible refine Kd.C_drewN ?_ _)|(with_reducible refine Kd.C_drew ?_)))
      (case side2 => exact HC3.out)
      rintro e w133 ⟨rfl,hb⟩
      refine ⟨_,rfl,?_⟩
      have n0_:=am (blk_below (g:=gb101) (o:=.cells #[.int .i64 a2_0,.int .i64 a2_1,.int .i64 a2_2,.int .i64 a2_3] 29 (0,0)) (vb BK101.out) hb)
      have n1_:=am (blk_below (g:=gb102) (o:=.cells #[.slice none 0 0,.slice none 0 0,.bool false,.int .i64 0] 118 (0,0)) (vb BK102.out) hb)
      have n2_:=am (below_step (v2 HB.out GE101.out GE102.out) hb)
      clear BK101
      clear BK102
      clear HB
      have BK101:=n0_
      have BK102:=n1_
      have HB:=n2_
      clear n0_ n1_ n2_
      (try clear hb)
      (try clear hb2)
      (try clear hk)
      (try clear hi)
      refine hK.out _ _ ⟨(blk_cell BK101.out 0).trans rfl,(blk_cell BK101.out 1).trans rfl,(blk_cell BK101.out 2).trans rfl,(blk_cell BK101.out 3).trans rfl⟩ (fun hHeld => ?_)
      clear hK K
      refine norm_ (a':=?_) ?_ ?_
      rotate_left
      ·show Act.put _ (some 51) _ = _
       simp only [Act.put,List.setIfInBounds_toArray,List.set_cons_zero,List.set_cons_succ,i64_w,i32_w]
       rfl
      refine pure_ (i:=8) (N:=some 52) (v:=?_) (a':=?_) #[true,true,true,true,true,true,true,true,true] rfl rfl (any_of HT_.out kr) (fun _ _ _ h => h) (Or.inl ⟨by rfl,?_⟩) ?_ ?_
      rotate_left
      ·intro w'
       go_simp
       with_reducible rfl
      rotate_left
      ·exact vs
      refine done_ (done_of HT_.out kr) ?_
      have hnb134:=NB102_101.out
      have hnc134:=NB101_102.out
      have hcz135_0 : w133.cell? ⟨gb102,0,none⟩ = some (.slice none 0 0):=(blk_cell BK102.out 0).trans rfl
      have hcz135_1 : w133.cell? ⟨gb102,1,none⟩ = some (.slice none 0 0):=(blk_cell BK102.out 1).trans rfl
      have hcz135_2 : w133.cell? ⟨gb102,2,none⟩ = some (.bool false):=(blk_cell BK102.out 2).trans rfl
      have hcz135_3 : w133.cell? ⟨gb102,3,none⟩ = some (.int .i64 0):=(blk_cell BK102.out 3).trans rfl
      have hfz135_0:=blk_frozen BK102.out 0
      have hfz135_1:=blk_frozen BK102.out 1
      have hfz135_2:=blk_frozen BK102.out 2
      have hfz135_3:=blk_frozen BK102.out 3
      try go_wp2
      refine bodyPost_ret (results_cell_row rfl _ _ gb102 118 #[.slice none 0 0,.slice none 0 0,.bool false,.int .i64 0] (0,0) _ rfl (by (with_reducible repeat (first|refine blk_drewN ?_ _|refine blk_drew ?_|refine blk_alloc ?_ _));refine blk_put (cs:=#[.slice none 0 0,.slice none 0 0,.bool false,.int .i64 0]) ?_ 3 _ rfl;(with_reducible repeat (first|refine blk_drewN ?_ _|refine blk_drew ?_|refine blk_alloc ?_ _));refine blk_put (cs:=#[.slice none 0 0,.slice none 0 0,.bool false,.int .i64 0]) ?_ 2 _ rfl;(with_reducible repeat (first|refine blk_drewN ?_ _|refine blk_drew ?_|refine blk_alloc ?_ _));refine blk_put (cs:=#[.slice none 0 0,.slice none 0 0,.bool false,.int .i64 0]) ?_ 1 _ rfl;(with_reducible repeat (first|refine blk_drewN ?_ _|refine blk_drew ?_|refine blk_alloc ?_ _));refine blk_put (cs:=#[.slice none 0 0,.slice none 0 0,.bool false,.int .i64 0]) ?_ 0 _ rfl;(with_reducible repeat (first|refine blk_drewN ?_ _|refine blk_drew ?_|refine blk_alloc ?_ _));exact BK102.out) Try.underlying118 rfl kr) rfl ?_
      exact ⟨_,_,vf,by first|exact Kd.R_nil _ _ _ _ _|exact Kd.N_nil _ _ _ _ _|exact Kd.V_nil _ _ _ _ _|exact Kd.Q_nil _ _ _ _ _|exact Kd.S_nil _ _ _ _ _,by first|exact Kd.R_nil _ _ _ _ _|exact Kd.N_nil _ _ _ _ _|exact Kd.V_nil _ _ _ _ _|exact Kd.Q_nil _ _ _ _ _|exact Kd.S_nil _ _ _ _ _,v2 HB.out GE101.out GE102.out⟩
 ·rw [if_neg c6] at H
  have c6b0 : (t103 == 0) = false:=beq_eq_false_iff_ne.mpr c6
  have c6b1 : (t103 != 0) = true:=bne_iff_ne.mpr c6
  simp only [Option.some.injEq,Prod.mk.injEq] at H
  obtain ⟨rfl,rfl,rfl,rfl⟩:=H
  go_enter Try.func77,Try.ntmps77
  go_wp2_with (first|((with_reducible refine gate_dst (N:=6) rfl ?_);refine box_event ?hg (N:=6) ?hd (cs:=#[.int .i64 a2_0,.int .i64 a2_1,.int .i64 a2_2,.int .i64 a2_3]) (t:=29) ?hr ?_;(case hd => rfl);(case hg => rfl);(case hr => first|(go_simp;done)|(go_simp;rfl));intro gb101 hg w136 hbox hb;have n0_:=am (below_step (v0 HB.out) hb);have n1_:=am (hbox);have n2_:=am ((by rw [hg];exact (below_size (v0 HB.out)) : w.heap.size ≤ gb101));have n3_:=am ((by rw [hg];exact (below_size (v0 HB.out)) : w.heap.size ≤ gb101));clear HB;have HB:=n0_;have BK101:=n1_;have GW101:=n2_;have GE101:=n3_;clear n0_ n1_ n2_ n3_;clear hb hbox hg)|((with_reducible refine gate_dst (N:=8) rfl ?_);refine box_event ?hg (N:=8) ?hd (cs:=#[.slice none 0 0,.slice none 0 0,.bool false,.int .i64 0]) (t:=118) ?hr ?_;(case hd => rfl);(case hg => rfl);(case hr => first|(go_simp;done)|(go_simp;rfl));intro gb102 hg w137 hbox hb;have n0_:=am (blk_below (g:=gb101) (o:=.cells #[.int .i64 a2_0,.int .i64 a2_1,.int .i64 a2_2,.int .i64 a2_3] 29 (0,0)) (vb BK101.out) hb);have n1_:=am (below_step (v1 HB.out GE101.out) hb);have n2_:=am (hbox);have n3_:=am ((by rw [hg];exact (below_size (v1 HB.out GE101.out)) : w.heap.size ≤ gb102));have n4_:=am ((by rw [hg];exact (below_size (v1 HB.out GE101.out)) : w.heap.size ≤ gb102));have n5_:=am ((by rw [hg];exact Nat.ne_of_lt (blk_lt (g:=gb101) (o:=.cells #[.int .i64 a2_0,.int .i64 a2_1,.int .i64 a2_2,.int .i64 a2_3] 29 (0,0)) (vb BK101.out)) : gb101 ≠ gb102));have n6_:=am ((by rw [hg];exact Nat.ne_of_gt (blk_lt (g:=gb101) (o:=.cells #[.int .i64 a2_0,.int .i64 a2_1,.int .i64 a2_2,.int .i64 a2_3] 29 (0,0)) (vb BK101.out)) : gb102 ≠ gb101));clear BK101;clear HB;have BK101:=n0_;have HB:=n1_;have BK102:=n2_;have GW102:=n3_;have GE102:=n4_;have NB101_102:=n5_;have NB102_101:=n6_;clear n0_ n1_ n2_ n3_ n4_ n5_ n6_;clear hb hbox hg)|((with_reducible refine gate_callee (f:=43) rfl ?_);refine goesL_ (some 19) rfl rfl Try.func43 kr rfl #[.slice A0 l0.length c0] rfl (by (try simp only [List.map_toArray,List.map_cons,List.map_nil]);first|done|rfl|(simp only [List.length_drop,List.length_take];rfl)) ?_;(with_reducible refine (calxref08_Check.calls k _ _ l0 t103 _ ?side1 ?side2 A5.out).mono ?_);(case side1 => repeat (first|exact (Kd.C_below HR0.out HB.out)|(with_reducible refine Kd.C_alloc ?_ _)|(with_reducible refine Kd.C_drewN ?_ _)|(with_reducible refine Kd.C_drew ?_)));(case side2 => exact HC0.out);rintro e w138 ⟨rfl,hb⟩;refine ⟨_,rfl,?_⟩;have n0_:=am (blk_below (g:=gb101) (o:=.cells #[.int .i64 a2_0,.int .i64 a2_1,.int .i64 a2_2,.int .i64 a2_3] 29 (0,0)) (vb BK101.out) hb);have n1_:=am (blk_below (g:=gb102) (o:=.cells #[.slice none 0 0,.slice none 0 0,.bool false,.int .i64 0] 118 (0,0)) (vb BK102.out) hb);have n2_:=am (below_step (v2 HB.out GE101.out GE102.out) hb);clear BK101;clear BK102;clear HB;have BK101:=n0_;have BK102:=n1_;have HB:=n2_;clear n0_ n1_ n2_;(try clear hb);(try clear hb2);(try clear hk);(try clear hi);have hnb139:=NB102_101.out;have hnc139:=NB101_102.out;have hcz140_0 : w138.cell? ⟨gb102,0,none⟩ = some (.slice none 0 0):=(blk_cell BK102.out 0).trans rfl;have hcz140_1 : w138.cell? ⟨gb102,1,none⟩ = some (.slice none 0 0):=(blk_cell BK102.out 1).trans rfl;have hcz140_2 : w138.cell? ⟨gb102,2,none⟩ = some (.bool false):=(blk_cell BK102.out 2).trans rfl;have hcz140_3 : w138.cell? ⟨gb102,3,none⟩ = some (.int .i64 0):=(blk_cell BK102.out 3).trans rfl;have hfz140_0:=blk_frozen BK102.out 0;have hfz140_1:=blk_frozen BK102.out 1;have hfz140_2:=blk_frozen BK102.out 2;have hfz140_3:=blk_frozen BK102.out 3))
  refine bodyPost_ret (results_cell_row rfl _ _ gb102 118 #[.slice none 0 0,.slice none 0 0,.bool false,.int .i64 t103] (0,0) _ rfl (by (with_reducible repeat (first|refine blk_drewN ?_ _|refine blk_drew ?_|refine blk_alloc ?_ _));refine blk_put (cs:=#[.slice none 0 0,.slice none 0 0,.bool false,.int .i64 0]) ?_ 3 _ rfl;(with_reducible repeat (first|refine blk_drewN ?_ _|refine blk_drew ?_|refine blk_alloc ?_ _));refine blk_put (cs:=#[.slice none 0 0,.slice none 0 0,.bool false,.int .i64 0]) ?_ 2 _ rfl;(with_reducible repeat (first|refine blk_drewN ?_ _|refine blk_drew ?_|refine blk_alloc ?_ _));refine blk_put (cs:=#[.slice none 0 0,.slice none 0 0,.bool false,.int .i64 0]) ?_ 1 _ rfl;(with_reducible repeat (first|refine blk_drewN ?_ _|refine blk_drew ?_|refine blk_alloc ?_ _));refine blk_put (cs:=#[.slice none 0 0,.slice none 0 0,.bool false,.int .i64 0]) ?_ 0 _ rfl;(with_reducible repeat (first|refine blk_drewN ?_ _|refine blk_drew ?_|refine blk_alloc ?_ _));exact BK102.out) Try.underlying118 rfl kr) rfl ?_
  exact ⟨_,_,vf,by first|exact Kd.R_nil _ _ _ _ _|exact Kd.N_nil _ _ _ _ _|exact Kd.V_nil _ _ _ _ _|exact Kd.Q_nil _ _ _ _ _|exact Kd.S_nil _ _ _ _ _,by first|exact Kd.R_nil _ _ _ _ _|exact Kd.N_nil _ _ _ _ _|exact Kd.V_nil _ _ _ _ _|exact Kd.Q_nil _ _ _ _ _|exact Kd.S_nil _ _ _ _ _,v2 HB.out GE101.out GE102.out⟩
end
end Go.Proofs.Ytmfphlfakmnbmaa.B
end
