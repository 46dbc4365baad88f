import Derived.Test.YtjjfpmapjjemcaaGreatQ1
import Derived.Test.YtjjfpmapjjemcaaGreatQ2
import Derived.Test.YtjjfpmapjjemcaaGreatQ3
import Derived.Test.YtjjfpmapjjemcaaGreatQ4
import Derived.Test.YtjjfpmapjjemcaaGreatQ5
import Derived.Test.YtjjfpmapjjemcaaGreatQ6
set_option linter.unusedVariables false
set_option linter.unusedSimpArgs false
section
namespace Go.Proofs.YtjjfpmapjjemcaaGreat.B
open Go.RowKit Go.Proofs.YtjjfpmapjjemcaaGreatW.PrintWords Go.Proofs.YtjjfpmapjjemcaaGreatW.PrintLast Go.Proofs.YtjjfpmapjjemcaaGreatW.PrintMore
attribute [local go_sem] max2_int min2_int max_two min_two max_three min_three max_four min_four
section
attribute [local go_sem high] eqA43
mutual
def calxlaw04_PitKeeps.j0 : Nat → Int → List Int → List Int → Bool → List Int → List (S84) → Option (Bool)
|0,_,_,_,_,_,_ => none
|k + 1,x1,x5,x7,x49,x102000,x102001 => if x49 = true then ((calxlaw04_sanity.f).bind fun t112 => (some t112)) else (if (x5.length : Int) = 0 then (none) else (if 0 ≤ (Int.tmod (wrap64 (x1)) (x5.length : Int)) then (if (Int.tmod (wrap64 (x1)) (x5.length : Int)) < (x5.length : Int) then ((pit_Fate.f x102000 x102001 (rd x5 (Int.tmod (wrap64 (x1)) (x5.length : Int)))).bind fun bt114 => (if bt114.2.2.2.2.2 = 0 then ((calxlaw04_sum.f k bt114.2.1 bt114.2.2.1 bt114.2.2.2.1 bt114.2.2.2.2.1 true).bind fun bt125 => (calxlaw04_PitKeeps.l0 k x5 x7 (rd x5 (Int.tmod (wrap64 (x1)) (x5.length : Int))) bt125.2.2 bt114.1 (bt114.1.length : Int) 0 x102000 x102001 bt125.1 bt125.2.1)) else ((calxlaw04_sanity.f).bind fun t124 => (if t124 = true then (some (bt114.2.2.2.2.2 == 3)) else (some false))))) else (none)) else (none)))
def calxlaw04_PitKeeps.l0 : Nat → List Int → List Int → Int → Bool → List (S89) → Int → Int → List Int → List (S84) → Int → Int → Option (Bool)
|0,_,_,_,_,_,_,_,_,_,_,_ => none
|k + 1,x5,x7,x9,x15,x80,x81,x82,x102000,x102001,x129000,x129001 => if x82 < x81 then (if 0 ≤ x82 then (if x82 < (x80.length : Int) then ((calxlaw04_sum.f k x129000 x129001 ((rd_T89 x80 x82).f1.f0) ((rd_T89 x80 x82).f1.f1) x15).bind fun bt131 => (calxlaw04_PitKeeps.l0 k x5 x7 x9 bt131.2.2 x80 x81 (wrap64 (x82 + 1)) x102000 x102001 bt131.1 bt131.2.1)) else (none)) else (none)) else (if x15 = true then ((calxlaw04_poured.f k x102000 x102001 x9).bind fun t134 => ((calxlaw04_frac.f t134 1).bind fun bt135 => (calxlaw04_PitKeeps.j2 k x5 x7 (!(x129000 == bt135.1) || (!(x129001 == bt135.2))) x102000 x102001))) else (calxlaw04_PitKeeps.j2 k x5 x7 false x102000 x102001))
def calxlaw04_PitKeeps.j2 : Nat → List Int → List Int → Bool → List Int → List (S84) → Option (Bool)
|0,_,_,_,_,_ => none
|k + 1,x5,x7,x103,x102000,x102001 => if x103 = true then (some false) else (calxlaw04_PitKeeps.l1 k x5 x7 (x7.length : Int) 0 x102000 x102001)
def calxlaw04_PitKeeps.l1 : Nat → List Int → List Int → Int → Int → List Int → List (S84) → Option (Bool)
|0,_,_,_,_,_,_ => none
|k + 1,x5,x104,x105,x106,x102000,x102001 => if x106 < x105 then (if 0 ≤ x106 then (if x106 < (x104.length : Int) then ((calxlaw04_frac.f 0 1).bind fun bt139 => (calxlaw04_PitKeeps.l2 k x5 (rd x104 x106) true x104 x105 x106 x5 (x5.length : Int) 0 x102000 x102001 bt139.1 bt139.2)) else (none)) else (none)) else ((calxlaw04_sanity.f).bind fun t137 => (some t137))
def calxlaw04_PitKeeps.l2 : Nat → List Int → Int → Bool → List Int → Int → Int → List Int → Int → Int → List Int → List (S84) → Int → Int → Option (Bool)
|0,_,_,_,_,_,_,_,_,_,_,_,_,_ => none
|k + 1,x5,x19,x21,x104,x105,x106,x111,x112,x113,x102000,x102001,x142000,x142001 => if x113 < x112 then (if 0 ≤ x113 then (if x113 < (x111.length : Int) then ((pit_Share.f x102000 x102001 x19 (rd x111 x113)).bind fun bt145 => (if bt145.2.2 = 0 then ((calxlaw04_sum.f k x142000 x142001 bt145.1 bt145.2.1 x21).bind fun bt149 => (calxlaw04_PitKeeps.l2 k x5 x19 bt149.2.2 x104 x105 x106 x111 x112 (wrap64 (x113 + 1)) x102000 x102001 bt149.1 bt149.2.1)) else (some false))) else (none)) else (none)) else (if x21 = true then ((calxlaw04_frac.f 1 1).bind fun bt142 => (if (!(x142000 == bt142.1) || (!(x142001 == bt142.2))) = true then (some false) else (calxlaw04_PitKeeps.l1 k x5 x104 x105 (wrap64 (x106 + 1)) x102000 x102001))) else (calxlaw04_PitKeeps.l1 k x5 x104 x105 (wrap64 (x106 + 1)) x102000 x102001))
end
def calxlaw04_PitKeeps.f (k : Nat) (l0_0 : List Int) (l0_1 : List (S84)) (a1 : Int) : Option (Bool):=(calxlaw04_few.f l0_0 l0_1).bind fun t102 => (if t102 = true then ((pit_Pours.f l0_0 l0_1).bind fun bt104 => ((pit_Barrows.f l0_0 l0_1).bind fun bt108 => (if bt104.2 = bt108.2 then (if bt104.2 = 0 then (calxlaw04_PitKeeps.j0 k a1 bt104.1 bt108.1 ((bt104.1.length : Int) == 0) l0_0 l0_1) else (calxlaw04_PitKeeps.j0 k a1 bt104.1 bt108.1 true l0_0 l0_1)) else (some false)))) else ((calxlaw04_sanity.f).bind fun t103 => (some t103)))
def calxlaw04_PitKeeps.T19 : Bool × List (List Nat × List Nat):=(true,[([],[]),([0],[0]),([1],[1]),([1],[1]),([1],[1]),([3,4,1,1],[1,3,4]),([5,5,1],[1,5]),([2,6,1],[1,2,6]),([1,7],[1,7])])
def calxlaw04_PitKeeps.B19 : List Nat:=[0,1,3,3,3,27,59,127,255]
theorem calxlaw04_PitKeeps.tab19 : rtab .any (opsOf Tryz.f9 19) = calxlaw04_PitKeeps.T19:=by kernel_rfl
theorem calxlaw04_PitKeeps.bits19 : waitsOk calxlaw04_PitKeeps.T19.2 calxlaw04_PitKeeps.B19 = true:=by kernel_rfl
set_option maxHeartbeats 8000000 in
set_option maxRecDepth 100000 in
theorem calxlaw04_PitKeeps.calls (k : Nat) (A0_0 : Option Addr) (c0_0 : Nat) (l0_0 : List Int) (A0_1 : Option Addr) (c0_1 : Nat) (l0_1 : List (S84)) (a1 : Int) (r : Bool) (w : World) (hr0_0 : Kd.C (Kd.int .i64) w A0_0 l0_0.length l0_0) (hc0_0 : l0_0.length ≤ c0_0) (hr0_1 : Kd.C k84 w A0_1 l0_1.length l0_1) (hc0_1 : l0_1.length ≤ c0_1) (h : calxlaw04_PitKeeps.f k l0_0 l0_1 a1 = some r) (hr : Aside0 (r = true)) :
  Calls Tryz.prog 9 #[.agg #[.slice A0_0 l0_0.length c0_0,.slice A0_1 l0_1.length c0_1],.int .u8 a1] w fun e w' => e = .returned (.bool r) ∧ Below w.heap.size w w':=by
 have hu32:=Tryz.underlying32
 have hu43:=Tryz.underlying43
 have hu89:=Tryz.underlying89
 have HR0_0:=am hr0_0
 have HC0_0:=am hc0_0
 clear hr0_0 hc0_0
 have HR0_1:=am hr0_1
 have HC0_1:=am hc0_1
 clear hr0_1 hc0_1
 have HB:=am (Below.refl w.heap.size w)
 have H : ((calxlaw04_few.f l0_0 l0_1).bind fun t102 => (if t102 = true then ((pit_Pours.f l0_0 l0_1).bind fun bt104 => ((pit_Barrows.f l0_0 l0_1).bind fun bt108 => (if bt104.2 = bt108.2 then (if bt104.2 = 0 then (calxlaw04_PitKeeps.j0 k a1 bt104.1 bt108.1 ((bt104.1.length : Int) == 0) l0_0 l0_1) else (calxlaw04_PitKeeps.j0 k a1 bt104.1 bt108.1 true l0_0 l0_1)) else (some false)))) else ((calxlaw04_sanity.f).bind fun t103 => (some t103)))) = some r:=h
 clear h
 replace H:=Option.bind_eq_some_iff.mp H
 obtain ⟨t102,A30,H⟩:=H
 replace H : (if t102 = true then ((pit_Pours.f l0_0 l0_1).bind fun bt104 => ((pit_Barrows.f l0_0 l0_1).bind fun bt108 => (if bt104.2 = bt108.2 then (if bt104.2 = 0 then (calxlaw04_PitKeeps.j0 k a1 bt104.1 bt108.1 ((bt104.1.length : Int) == 0) l0_0 l0_1) else (calxlaw04_PitKeeps.j0 k a1 bt104.1 bt108.1 true l0_0 l0_1)) else (some false)))) else ((calxlaw04_sanity.f).bind fun t103 => (some t103))) = some r:=H
 have A3:=am A30
 clear A30
 by_cases c4 : t102 = true
 ·subst c4
  have H1 : ((pit_Pours.f l0_0 l0_1).bind fun bt104 => ((pit_Barrows.f l0_0 l0_1).bind fun bt108 => (if bt104.2 = bt108.2 then (if bt104.2 = 0 then (calxlaw04_PitKeeps.j0 k a1 bt104.1 bt108.1 ((bt104.1.length : Int) == 0) l0_0 l0_1) else (calxlaw04_PitKeeps.j0 k a1 bt104.1 bt108.1 true l0_0 l0_1)) else (some false)))) = some r:=by rw [if_pos rfl] at H;exact H
  clear H
  have H:=H1
  clear H1
  replace H:=Option.bind_eq_some_iff.mp H
  obtain ⟨⟨t104,t107⟩,A50,H⟩:=H
  replace H : ((pit_Barrows.f l0_0 l0_1).bind fun bt108 => (if t107 = bt108.2 then (if t107 = 0 then (calxlaw04_PitKeeps.j0 k a1 t104 bt108.1 ((t104.length : Int) == 0) l0_0 l0_1) else (calxlaw04_PitKeeps.j0 k a1 t104 bt108.1 true l0_0 l0_1)) else (some false))) = some r:=H
  have A5:=am A50
  clear A50
  replace H:=Option.bind_eq_some_iff.mp H
  obtain ⟨⟨t108,t111⟩,A60,H⟩:=H
  replace H : (if t107 = t111 then (if t107 = 0 then (calxlaw04_PitKeeps.j0 k a1 t104 t108 ((t104.length : Int) == 0) l0_0 l0_1) else (calxlaw04_PitKeeps.j0 k a1 t104 t108 true l0_0 l0_1)) else (some false)) = some r:=H
  have A6:=am A60
  clear A60
  by_cases c7 : t107 = t111
  ·rw [if_pos c7] at H
   have c7b0 : (t107 == t111) = true:=beq_iff_eq.mpr c7
   have c7b1 : (t107 != t111) = false:=bne_eq_false_iff_eq.mpr c7
   clear c7
   have HC8:=am H
   clear H
   go_enter Tryz.func9,Tryz.ntmps9
   go_upto_region 7 with (first|((with_reducible refine gate_dst (N:=2) rfl ?_);(try (refine gate_guard (by rfl) ?_;dsimp only));refine box_event ?hg (N:=2) ?hd (cs:=#[.slice A0_0 l0_0.length c0_0,.slice A0_1 l0_1.length c0_1]) (t:=32) ?hr ?_;(case hd => rfl);(case hg => rfl);(case hr => first|(go_simp;done)|(go_simp;rfl));intro gb101 hg w9 hbox hb;have BK101:=am (hbox);have GW101:=am (lg hg (below_size (v0 HB.out)) : w.heap.size ≤ gb101);have GE101:=GW101;replace HB:=am (below_step (v0 HB.out) hb);clear hb hbox hg;have hcz10_0:=bd BK101.out 0;have hcz10_1:=bd BK101.out 1;have hfz10_0:=blk_frozen BK101.out 0;have hfz10_1:=blk_frozen BK101.out 1)|(refine cE (some 27) Tryz.func26 #[.agg #[.slice A0_0 l0_0.length c0_0,.slice A0_1 l0_1.length c0_1]] ?_;(with_reducible refine (calxlaw04_few.calls _ _ l0_0 _ _ l0_1 true _ ?side1 ?side2 ?side3 ?side4 A3.out).mono ?_);(case side1 => repeat (first|exact (Kd.C_below HR0_0.out HB.out)|(with_reducible refine Kd.C_alloc ?_ _)|(with_reducible refine Kd.C_drewN ?_ _)|(with_reducible refine Kd.C_drew ?_)));(case side2 => exact HC0_0.out);(case side3 => repeat (first|exact (Kd.C_below HR0_1.out HB.out)|(with_reducible refine Kd.C_alloc ?_ _)|(with_reducible refine Kd.C_drewN ?_ _)|(with_reducible refine Kd.C_drew ?_)));(case side4 => exact HC0_1.out);rintro e w11 ⟨rfl,hb⟩;refine ⟨_,rfl,?_⟩;replace BK101:=am (blk_below (vb BK101.out) hb);replace HB:=am (below_step (v1 HB.out GE101.out) hb);(try clear hb);(try clear hb2);(try clear hk);(try clear hi);have hcz12_0:=bd BK101.out 0;have hcz12_1:=bd BK101.out 1;have hfz12_0:=blk_frozen BK101.out 0;have hfz12_1:=blk_frozen BK101.out 1)|(refine cE (some 32) Tryz.func19 #[.agg #[.slice A0_0 l0_0.length c0_0,.slice A0_1 l0_1.length c0_1]] ?_;(with_reducible refine (pit_Pours.calls _ _ l0_0 _ _ l0_1 t104 t107 _ ?side1 ?side2 ?side3 ?side4 A5.out).mono ?_);(case side1 => repeat (first|exact (Kd.C_below HR0_0.out HB.out)|(with_reducible refine Kd.C_alloc ?_ _)|(with_reducible refine Kd.C_drewN ?_ _)|(with_reducible refine Kd.C_drew ?_)));(case side2 => exact HC0_0.out);(case side3 => repeat (first|exact (Kd.C_below HR0_1.out HB.out)|(with_reducible refine Kd.C_alloc ?_ _)|(with_reducible refine Kd.C_drewN ?_ _)|(with_reducible refine Kd.C_drew ?_)));(case side4 => exact HC0_1.out);rintro e w13 ⟨v105,rfl,ho0,hb⟩;refine ⟨_,rfl,?_⟩;have HO106:=am (Kd.V_lower (Kd.V_mono (ok':=fun k_ => k_ ≠ gb101) ho0 (fun k_ hk_ => (Kd.freshB (g:=gb101) (o:=.cells #[.slice A0_0 l0_0.length c0_0,.slice A0_1 l0_1.length c0_1] 32 (0,0)) (vb BK101.out) k_ hk_))) (below_size (v1 HB.out GE101.out)));replace BK101:=am (blk_below (vb BK101.out) hb);replace HB:=am (below_step (v1 HB.out GE101.out) hb);(try clear hb);(try clear hb2);(try clear hk);(try clear hi);(try clear ho0);have hcz14_0:=bd BK101.out 0;have hcz14_1:=bd BK101.out 1;have hfz14_0:=blk_frozen BK101.out 0;have hfz14_1:=blk_frozen BK101.out 1)|(refine cE (some 37) Tryz.func18 #[.agg #[.slice A0_0 l0_0.length c0_0,.slice A0_1 l0_1.length c0_1]] ?_;(with_reducible refine (pit_Barrows.calls _ _ l0_0 _ _ l0_1 t108 t111 _ ?side1 ?side2 ?side3 ?side4 A6.out).mono ?_);(case side1 => repeat (first|exact (Kd.C_below HR0_0.out HB.out)|(with_reducible refine Kd.C_alloc ?_ _)|(with_reducible refine Kd.C_drewN ?_ _)|(with_reducible refine Kd.C_drew ?_)));(case side2 => exact HC0_0.out);(case side3 => repeat (first|exact (Kd.C_below HR0_1.out HB.out)|(with_reducible refine Kd.C_alloc ?_ _)|(with_reducible refine Kd.C_drewN ?_ _)|(with_reducible refine Kd.C_drew ?_)));(case side4 => exact HC0_1.out);rintro e w15 ⟨v109,rfl,ho0,hb⟩;refine ⟨_,rfl,?_⟩;have HO110:=am (Kd.V_lower (Kd.V_mono (ok':=fun k_ => k_ ≠ gb101) ho0 (fun k_ hk_ => (Kd.freshB (g:=gb101) (o:=.cells #[.slice A0_0 l0_0.length c0_0,.slice A0_1 l0_1.length c0_1] 32 (0,0)) (vb BK101.out) k_ hk_))) (below_size (v1 HB.out GE101.out)));replace HO106:=am (Kd.V_below (by (with_reducible repeat (first|apply Kd.V_alloc|apply Kd.V_drewN|apply Kd.V_drew));exact HO106.out) hb);replace BK101:=am (blk_below (vb BK101.out) hb);replace HB:=am (below_step (v1 HB.out GE101.out) hb);(try clear hb);(try clear hb2);(try clear hk);(try clear hi);(try clear ho0)))
   (try simp only [Act.put,List.setIfInBounds_toArray,List.set_cons_zero,List.set_cons_succ])
   go_cut [49] (fun v49 wc => ∃ (kq : Nat) (x49_7 : Bool),v49 = .bool x49_7 ∧ Aside0 (calxlaw04_PitKeeps.j0 kq a1 t104 t108 x49_7 l0_0 l0_1 = some r) ∧ Aside0 (kq ≤ k) ∧ Aside0 (Kd.V (Kd.int .i64) 3 wc w.heap.size (fun k_ => k_ ≠ gb101) v105 t104) ∧ Aside0 (Kd.V (Kd.int .i64) 3 wc w.heap.size (fun k_ => k_ ≠ gb101) v109 t108) ∧ Aside0 (wc.heap[gb101]? = some (.cells #[(.slice A0_0 l0_0.length c0_0),(.slice A0_1 l0_1.length c0_1)] 32 (0,0))) ∧ Aside0 (Below w.heap.size w wc))
   case first =>
    have H:=HC8.out
    clear HC8
    by_cases c16 : t107 = 0
    ·rw [if_pos c16] at H
     have c16b0 : (t107 == 0) = true:=beq_iff_eq.mpr c16
     have c16b1 : (t107 != 0) = false:=bne_eq_false_iff_eq.mpr c16
     clear c16
     (first|rw [c16b0]|(simp only [i64_w,i32_w];rw [c16b0])|skip)
     have H':=am H
     clear H
     obtain ⟨Ao17,co17,eo17⟩:=Kd.V_slice HO106.out
     subst eo17
     go_wp2
     go_meet
     case rel => exact ⟨_,(((t104.length : Int) == 0)),ve,H',⟨by first|omega|exact Nat.le_refl _⟩,⟨by (with_reducible repeat (first|apply Kd.V_alloc|apply Kd.V_drewN|apply Kd.V_drew));exact HO106.out⟩,⟨by (with_reducible repeat (first|apply Kd.V_alloc|apply Kd.V_drewN|apply Kd.V_drew));exact HO110.out⟩,⟨vb BK101.out⟩,⟨v1 HB.out GE101.out⟩⟩
    ·rw [if_neg c16] at H
     have c16b0 : (t107 == 0) = false:=beq_eq_false_iff_ne.mpr c16
     have c16b1 : (t107 != 0) = true:=bne_iff_ne.mpr c16
     (first|rw [c16b0]|(simp only [i64_w,i32_w];rw [c16b0])|skip)
     have H':=am H
     clear H
     go_wp2
     go_meet
     case rel => exact ⟨_,(true),ve,H',⟨by first|omega|exact Nat.le_refl _⟩,⟨by (with_reducible repeat (first|apply Kd.V_alloc|apply Kd.V_drewN|apply Kd.V_drew));exact HO106.out⟩,⟨by (with_reducible repeat (first|apply Kd.V_alloc|apply Kd.V_drewN|apply Kd.V_drew));exact HO110.out⟩,⟨vb BK101.out⟩,⟨v1 HB.out GE101.out⟩⟩
   case rest =>
    clear HC8
    try clear c1
    try clear c2
    try clear p2
    try clear c4
    try clear c7
    try clear c7b0
    try clear c7b1
    try clear c9
    try clear c16
    try clear c16b0
    try clear c16b1
    try clear hcz10_0
    try clear hcz10_1
    try clear hcz12_0
    try clear hcz12_1
    try clear hcz14_0
    try clear hcz14_1
    try clear hfz10_0
    try clear hfz10_1
    try clear hfz12_0
    try clear hfz12_1
    try clear hfz14_0
    try clear hfz14_1
    obtain ⟨kq,x49_7,rfl,HA,HJ7,HO_5,HO_7,BK101,HB⟩:=hcut
    cases kq with
   |zero => exact absurd HA.out (by simp [calxlaw04_PitKeeps.j0])
   |succ kj7 =>
     have H:=HA.out
     clear HA
     simp only [calxlaw04_PitKeeps.j0] at H
     by_cases c18 : x49_7 = true
     ·subst c18
      have H1 : ((calxlaw04_sanity.f).bind fun t112 => (some t112)) = some r:=by rw [if_pos rfl] at H;exact H
      clear H
      have H:=H1
      clear H1
      replace H:=Option.bind_eq_some_iff.mp H
      obtain ⟨t112,A190,H⟩:=H
      replace H : (some t112) = some r:=H
      have A19:=am A190
      clear A190
      obtain rfl:=Option.some.inj H
      go_wp2_with (first|(refine cE (some 50) Tryz.func27 #[] ?_;(with_reducible refine (calxlaw04_sanity.calls  t112 _ A19.out).mono ?_);rintro e w20 ⟨rfl,hb⟩;refine ⟨_,rfl,?_⟩;replace HO_5:=am (Kd.V_below (by (with_reducible repeat (first|apply Kd.V_alloc|apply Kd.V_drewN|apply Kd.V_drew));exact HO_5.out) hb);replace HO_7:=am (Kd.V_below (by (with_reducible repeat (first|apply Kd.V_alloc|apply Kd.V_drewN|apply Kd.V_drew));exact HO_7.out) hb);replace BK101:=am (blk_below (vb BK101.out) hb);replace HB:=am (below_step (v1 HB.out GE101.out) hb);(try clear hb);(try clear hb2);(try clear hk);(try clear hi)))
      go_ret
      exact ⟨vf,v1 HB.out GE101.out⟩
     ·replace c18:=Bool.eq_false_iff.mpr c18
      subst c18
      have H1 : (if (t104.length : Int) = 0 then (none) else (if 0 ≤ (Int.tmod (wrap64 (a1)) (t104.length : Int)) then (if (Int.tmod (wrap64 (a1)) (t104.length : Int)) < (t104.length : Int) then ((pit_Fate.f l0_0 l0_1 (rd t104 (Int.tmod (wrap64 (a1)) (t104.length : Int)))).bind fun bt114 => (if bt114.2.2.2.2.2 = 0 then ((calxlaw04_sum.f kj7 bt114.2.1 bt114.2.2.1 bt114.2.2.2.1 bt114.2.2.2.2.1 true).bind fun bt125 => (calxlaw04_PitKeeps.l0 kj7 t104 t108 (rd t104 (Int.tmod (wrap64 (a1)) (t104.length : Int))) bt125.2.2 bt114.1 (bt114.1.length : Int) 0 l0_0 l0_1 bt125.1 bt125.2.1)) else ((calxlaw04_sanity.f).bind fun t124 => (if t124 = true then (some (bt114.2.2.2.2.2 == 3)) else (some false))))) else (none)) else (none))) = some r:=by rw [if_neg (show ¬ (false = true) by decide)] at H;exact H
      clear H
      have H:=H1
      clear H1
      by_cases c21 : (t104.length : Int) = 0
      ·rw [if_pos c21] at H
       exact absurd H (by simp)
      ·rw [if_neg c21] at H
       have c21b0 : ((t104.length : Int) == 0) = false:=beq_eq_false_iff_ne.mpr c21
       have c21b1 : ((t104.length : Int) != 0) = true:=bne_iff_ne.mpr c21
       have c21b2 : ¬ (t104 = []):=fun h_ => c21 (by rw [h_];rfl)
       obtain ⟨ji22,hji22⟩ : ∃ j_ : Int,(Int.tmod (wrap64 (a1)) (t104.length : Int)) = j_:=⟨_,rfl⟩
       replace H : (if 0 ≤ (ji22) then (if (ji22) < (t104.length : Int) then ((pit_Fate.f l0_0 l0_1 (rd t104 (ji22))).bind fun bt114 => (if bt114.2.2.2.2.2 = 0 then ((calxlaw04_sum.f kj7 bt114.2.1 bt114.2.2.1 bt114.2.2.2.1 bt114.2.2.2.2.1 true).bind fun bt125 => (calxlaw04_PitKeeps.l0 kj7 t104 t108 (rd t104 (ji22)) bt125.2.2 bt114.1 (bt114.1.length : Int) 0 l0_0 l0_1 bt125.1 bt125.2.1)) else ((calxlaw04_sanity.f).bind fun t124 => (if t124 = true then (some (bt114.2.2.2.2.2 == 3)) else (some false))))) else (none)) else (none)) = some r:=by first|(rw [hji22] at H;exact H)|(simp only [hji22] at H ⊢;exact H)
       by_cases c23 : 0 ≤ (ji22)
       ·rw [if_pos c23] at H
        have c23b0 : decide (0 ≤ (ji22)) = true:=decide_eq_true c23
        clear c23
        by_cases c24 : (ji22) < (t104.length : Int)
        ·rw [if_pos c24] at H
         have c24b0 : decide ((ji22) < (t104.length : Int)) = true:=decide_eq_true c24
         clear c24
         replace H:=Option.bind_eq_some_iff.mp H
         obtain ⟨⟨t114,t117,t118,t119,t120,t121⟩,A250,H⟩:=H
         replace H : (if t121 = 0 then ((calxlaw04_sum.f kj7 t117 t118 t119 t120 true).bind fun bt125 => (calxlaw04_PitKeeps.l0 kj7 t104 t108 (rd t104 (ji22)) bt125.2.2 t114 (t114.length : Int) 0 l0_0 l0_1 bt125.1 bt125.2.1)) else ((calxlaw04_sanity.f).bind fun t124 => (if t124 = true then (some (t121 == 3)) else (some false)))) = some r:=H
         have A25:=am A250
         clear A250
         by_cases c26 : t121 = 0
         ·rw [if_pos c26] at H
          have c26b0 : (t121 == 0) = true:=beq_iff_eq.mpr c26
          have c26b1 : (t121 != 0) = false:=bne_eq_false_iff_eq.mpr c26
          clear c26
          replace H:=Option.bind_eq_some_iff.mp H
          obtain ⟨⟨t125,t126,t127⟩,A270,H⟩:=H
          replace H : (calxlaw04_PitKeeps.l0 kj7 t104 t108 (rd t104 (ji22)) t127 t114 (t114.length : Int) 0 l0_0 l0_1 t125 t126) = some r:=H
          have A27:=am A270
          clear A270
          have H':=am H
          clear H
          obtain ⟨Ao28,co28,eo28⟩:=Kd.V_slice HO_5.out
          subst eo28
          have p113 : 0 ≤ ((ji22) : Int):=of_decide_eq_true va
          have q113 : (ji22) < (t104.length : Int):=of_decide_eq_true va
          obtain ⟨ad113,e113,hx113_0⟩:=Kd.at_int (Kd.V_reads' HO_5.out).2.2 (ji22) p113 q113
          cases e113
          replace p113:=eq_true p113
          replace q113:=eq_true q113
          have hcz29_0:=bd BK101.out 0
          have hcz29_1:=bd BK101.out 1
          have hfz29_0:=blk_frozen BK101.out 0
          have hfz29_1:=blk_frozen BK101.out 1
          go_wp2_with (first|((with_reducible refine gate_callee (f:=36) rfl ?_);refine goesL_ (some 62) rfl rfl Tryz.func36 kr rfl #[.agg #[.slice A0_0 l0_0.length c0_0,.slice A0_1 l0_1.length c0_1],.int .i64 (rd t104 (ji22))] rfl (by (try simp only [List.map_toArray,List.map_cons,List.map_nil]);first|done|(simp only [hji22];rfl)|rfl|(simp only [List.length_drop,List.length_take];rfl)) ?_;(with_reducible refine (pit_Fate.calls _ _ l0_0 _ _ l0_1 (rd t104 (ji22)) t114 t117 t118 t119 t120 t121 _ ?side1 ?side2 ?side3 ?side4 A25.out).mono ?_);(case side1 => repeat (first|exact (Kd.C_below HR0_0.out HB.out)|(with_reducible refine Kd.C_alloc ?_ _)|(with_reducible refine Kd.C_drewN ?_ _)|(with_reducible refine Kd.C_drew ?_)));(case side2 => exact HC0_0.out);(case side3 => repeat (first|exact (Kd.C_below HR0_1.out HB.out)|(with_reducible refine Kd.C_alloc ?_ _)|(with_reducible refine Kd.C_drewN ?_ _)|(with_reducible refine Kd.C_drew ?_)));(case side4 => exact HC0_1.out);rintro e w30 ⟨v115,rfl,ho0,hb⟩;refine ⟨_,rfl,?_⟩;have HO116:=am (Kd.V_lower (Kd.V_mono (ok':=fun k_ => k_ ≠ gb101) ho0 (fun k_ hk_ => (Kd.freshB (g:=gb101) (o:=.cells #[.slice A0_0 l0_0.length c0_0,.slice A0_1 l0_1.length c0_1] 32 (0,0)) (vb BK101.out) k_ hk_))) (below_size (v1 HB.out GE101.out)));replace HO_5:=am (Kd.V_below (by (with_reducible repeat (first|apply Kd.V_alloc|apply Kd.V_drewN|apply Kd.V_drew));exact HO_5.out) hb);replace HO_7:=am (Kd.V_below (by (with_reducible repeat (first|apply Kd.V_alloc|apply Kd.V_drewN|apply Kd.V_drew));exact HO_7.out) hb);replace BK101:=am (blk_below (vb BK101.out) hb);replace HB:=am (below_step (v1 HB.out GE101.out) hb);(try clear hb);(try clear hb2);(try clear hk);(try clear hi);(try clear ho0))|((with_reducible refine gate_dst (N:=11) rfl ?_);(try (refine gate_guard (by rfl) ?_;dsimp only));refine box_event ?hg (N:=11) ?hd (cs:=#[.int .i64 0,.int .i64 0]) (t:=43) ?hr ?_;(case hd => rfl);(case hg => rfl);(case hr => first|(go_simp;done)|(go_simp;rfl));intro gb122 hg w31 hbox hb;have BK122:=am (hbox);have GW122:=am (lg hg (below_size (v1 HB.out GE101.out)) : w.heap.size ≤ gb122);have GE122:=GW122;have NB101_122:=am (nl hg (vb BK101.out));have NB122_101:=am ((nl hg (vb BK101.out)).symm);replace HO_5:=am (Kd.V_below (Kd.V_elderB (by (with_reducible repeat (first|apply Kd.V_alloc|apply Kd.V_drewN|apply Kd.V_drew));exact HO_5.out) gb122 (Nat.le_of_eq hg.symm)) hb);replace HO_7:=am (Kd.V_below (Kd.V_elderB (by (with_reducible repeat (first|apply Kd.V_alloc|apply Kd.V_drewN|apply Kd.V_drew));exact HO_7.out) gb122 (Nat.le_of_eq hg.symm)) hb);replace HO116:=am (Kd.V_below (Kd.V_elderB (by (with_reducible repeat (first|apply Kd.V_alloc|apply Kd.V_drewN|apply Kd.V_drew));exact HO116.out) gb122 (Nat.le_of_eq hg.symm)) hb);replace BK101:=am (blk_below (vb BK101.out) hb);replace HB:=am (below_step (v1 HB.out GE101.out) hb);clear hb hbox hg)|((with_reducible refine gate_dst (N:=12) rfl ?_);(try (refine gate_guard (by rfl) ?_;dsimp only));refine box_event ?hg (N:=12) ?hd (cs:=#[.int .i64 0,.int .i64 0]) (t:=43) ?hr ?_;(case hd => rfl);(case hg => rfl);(case hr => first|(go_simp;done)|(go_simp;rfl));intro gb123 hg w32 hbox hb;have BK123:=am (hbox);have GW123:=am (lg hg (below_size (v2 HB.out GE101.out GE122.out)) : w.heap.size ≤ gb123);have GE123:=GW123;have NB101_123:=am (nl hg (vb BK101.out));have NB123_101:=am ((nl hg (vb BK101.out)).symm);have NB122_123:=am (nl hg (vb BK122.out));have NB123_122:=am ((nl hg (vb BK122.out)).symm);replace HO_5:=am (Kd.V_below (Kd.V_elderB (by (with_reducible repeat (first|apply Kd.V_alloc|apply Kd.V_drewN|apply Kd.V_drew));exact HO_5.out) gb123 (Nat.le_of_eq hg.symm)) hb);replace HO_7:=am (Kd.V_below (Kd.V_elderB (by (with_reducible repeat (first|apply Kd.V_alloc|apply Kd.V_drewN|apply Kd.V_drew));exact HO_7.out) gb123 (Nat.le_of_eq hg.symm)) hb);replace HO116:=am (Kd.V_below (Kd.V_elderB (by (with_reducible repeat (first|apply Kd.V_alloc|apply Kd.V_drewN|apply Kd.V_drew));exact HO116.out) gb123 (Nat.le_of_eq hg.symm)) hb);replace BK101:=am (blk_below (vb BK101.out) hb);replace BK122:=am (blk_below (vb BK122.out) hb);replace HB:=am (below_step (v2 HB.out GE101.out GE122.out) hb);clear hb hbox hg;have hnb33:=NB122_101.out;have hnc33:=NB101_122.out;have hnb34:=NB122_123.out;have hnc34:=NB123_122.out;have hcz35_0:=bd BK122.out 0;have hcz35_1:=bd BK122.out 1;have hfz35_0:=blk_frozen BK122.out 0;have hfz35_1:=blk_frozen BK122.out 1;have hnb36:=NB123_101.out;have hnc36:=NB101_123.out;have hcz37_0:=bd BK123.out 0;have hcz37_1:=bd BK123.out 1;have hfz37_0:=blk_frozen BK123.out 0;have hfz37_1:=blk_frozen BK123.out 1)|(refine cE (some 77) Tryz.func51 #[.agg #[.int .i64 t117,.int .i64 t118],.agg #[.int .i64 t119,.int .i64 t120],.bool true] ?_;(with_reducible refine (calxlaw04_sum.calls kj7 t117 t118 t119 t120 true t125 t126 t127 _ A27.out).mono ?_);rintro e w38 ⟨rfl,hb⟩;refine ⟨_,rfl,?_⟩;replace HO_5:=am (Kd.V_below (by (with_reducible repeat (first|apply Kd.V_alloc|apply Kd.V_drewN|apply Kd.V_drew));exact (Kd.V_mono (Kd.V_mono (Kd.V_far (p:=⟨gb123,1,none⟩) (Kd.V_far (p:=⟨gb123,0,none⟩) (Kd.V_far (p:=⟨gb122,1,none⟩) (Kd.V_far (p:=⟨gb122,0,none⟩) (Kd.V_mono (Kd.V_mono HO_5.out (fun k_ hk => (⟨hk,hk.1.2⟩ : _ ∧ k_ ≠ gb122))) (fun k_ hk => (⟨hk,hk.1.2⟩ : _ ∧ k_ ≠ gb123))) (fun _ hk => hk.1.2) (.int .i64 t117)) (fun _ hk => hk.1.2) (.int .i64 t118)) (fun _ hk => hk.2) (.int .i64 t119)) (fun _ hk => hk.2) (.int .i64 t120)) (fun _ h_ => h_.1)) (fun _ h_ => h_.1))) hb);replace HO_7:=am (Kd.V_below (by (with_reducible repeat (first|apply Kd.V_alloc|apply Kd.V_drewN|apply Kd.V_drew));exact (Kd.V_mono (Kd.V_mono (Kd.V_far (p:=⟨gb123,1,none⟩) (Kd.V_far (p:=⟨gb123,0,none⟩) (Kd.V_far (p:=⟨gb122,1,none⟩) (Kd.V_far (p:=⟨gb122,0,none⟩) (Kd.V_mono (Kd.V_mono HO_7.out (fun k_ hk => (⟨hk,hk.1.2⟩ : _ ∧ k_ ≠ gb122))) (fun k_ hk => (⟨hk,hk.1.2⟩ : _ ∧ k_ ≠ gb123))) (fun _ hk => hk.1.2) (.int .i64 t117)) (fun _ hk => hk.1.2) (.int .i64 t118)) (fun _ hk => hk.2) (.int .i64 t119)) (fun _ hk => hk.2) (.int .i64 t120)) (fun _ h_ => h_.1)) (fun _ h_ => h_.1))) hb);replace HO116:=am (Kd.V_below (by (with_reducible repeat (first|apply Kd.V_alloc|apply Kd.V_drewN|apply Kd.V_drew));exact (Kd.V_mono (Kd.V_mono (Kd.V_far (p:=⟨gb123,1,none⟩) (Kd.V_far (p:=⟨gb123,0,none⟩) (Kd.V_far (p:=⟨gb122,1,none⟩) (Kd.V_far (p:=⟨gb122,0,none⟩) (Kd.V_mono (Kd.V_mono HO116.out (fun k_ hk => (⟨hk,hk.1.2⟩ : _ ∧ k_ ≠ gb122))) (fun k_ hk => (⟨hk,hk.1.2⟩ : _ ∧ k_ ≠ gb123))) (fun _ hk => hk.1.2) (.int .i64 t117)) (fun _ hk => hk.1.2) (.int .i64 t118)) (fun _ hk => hk.2) (.int .i64 t119)) (fun _ hk => hk.2) (.int .i64 t120)) (fun _ h_ => h_.1)) (fun _ h_ => h_.1))) hb);replace BK101:=am (blk_below (g:=gb101) (o:=.cells #[.slice A0_0 l0_0.length c0_0,.slice A0_1 l0_1.length c0_1] 32 (0,0)) (by (with_reducible repeat (first|refine blk_drewN ?_ _|refine blk_drew ?_|refine blk_alloc ?_ _));refine blk_far ?_ NB101_123.out _;(with_reducible repeat (first|refine blk_drewN ?_ _|refine blk_drew ?_|refine blk_alloc ?_ _));refine blk_far ?_ NB101_123.out _;(with_reducible repeat (first|refine blk_drewN ?_ _|refine blk_drew ?_|refine blk_alloc ?_ _));refine blk_far ?_ NB101_122.out _;(with_reducible repeat (first|refine blk_drewN ?_ _|refine blk_drew ?_|refine blk_alloc ?_ _));refine blk_far ?_ NB101_122.out _;(with_reducible repeat (first|refine blk_drewN ?_ _|refine blk_drew ?_|refine blk_alloc ?_ _));exact BK101.out) hb);replace BK122:=am (blk_below (g:=gb122) (o:=.cells #[.int .i64 t117,.int .i64 t118] 43 (0,0)) (by (with_reducible repeat (first|refine blk_drewN ?_ _|refine blk_drew ?_|refine blk_alloc ?_ _));refine blk_far ?_ NB122_123.out _;(with_reducible repeat (first|refine blk_drewN ?_ _|refine blk_drew ?_|refine blk_alloc ?_ _));refine blk_far ?_ NB122_123.out _;(with_reducible repeat (first|refine blk_drewN ?_ _|refine blk_drew ?_|refine blk_alloc ?_ _));refine blk_put (cs:=#[.int .i64 t117,.int .i64 0]) ?_ 1 _ rfl;(with_reducible repeat (first|refine blk_drewN ?_ _|refine blk_drew ?_|refine blk_alloc ?_ _));refine blk_put (cs:=#[.int .i64 0,.int .i64 0]) ?_ 0 _ rfl;(with_reducible repeat (first|refine blk_drewN ?_ _|refine blk_drew ?_|refine blk_alloc ?_ _));exact BK122.out) hb);replace BK123:=am (blk_below (g:=gb123) (o:=.cells #[.int .i64 t119,.int .i64 t120] 43 (0,0)) (by (with_reducible repeat (first|refine blk_drewN ?_ _|refine blk_drew ?_|refine blk_alloc ?_ _));refine blk_put (cs:=#[.int .i64 t119,.int .i64 0]) ?_ 1 _ rfl;(with_reducible repeat (first|refine blk_drewN ?_ _|refine blk_drew ?_|refine blk_alloc ?_ _));refine blk_put (cs:=#[.int .i64 0,.int .i64 0]) ?_ 0 _ rfl;(with_reducible repeat (first|refine blk_drewN ?_ _|refine blk_drew ?_|refine blk_alloc ?_ _));refine blk_far ?_ NB123_122.out _;(with_reducible repeat (first|refine blk_drewN ?_ _|refine blk_drew ?_|refine blk_alloc ?_ _));refine blk_far ?_ NB123_122.out _;(with_reducible repeat (first|refine blk_drewN ?_ _|refine blk_drew ?_|refine blk_alloc ?_ _));exact BK123.out) hb);replace HB:=am (below_step (v3 HB.out GE101.out GE122.out GE123.out) hb);(try clear hb);(try clear hb2);(try clear hk);(try clear hi))|((with_reducible refine gate_dst (N:=14) rfl ?_);(try (refine gate_guard (by rfl) ?_;dsimp only));refine box_event ?hg (N:=14) ?hd (cs:=#[.int .i64 0,.int .i64 0]) (t:=43) ?hr ?_;(case hd => rfl);(case hg => rfl);(case hr => first|(go_simp;done)|(go_simp;rfl));intro gb128 hg w39 hbox hb;have BK128:=am (hbox);have GW128:=am (lg hg (below_size (v3 HB.out GE101.out GE122.out GE123.out)) : w.heap.size ≤ gb128);have GE128:=GW128;have NB101_128:=am (nl hg (vb BK101.out));have NB128_101:=am ((nl hg (vb BK101.out)).symm);have NB122_128:=am (nl hg (vb BK122.out));have NB128_122:=am ((nl hg (vb BK122.out)).symm);have NB123_128:=am (nl hg (vb BK123.out));have NB128_123:=am ((nl hg (vb BK123.out)).symm);replace HO_5:=am (Kd.V_below (Kd.V_elderB (by (with_reducible repeat (first|apply Kd.V_alloc|apply Kd.V_drewN|apply Kd.V_drew));exact HO_5.out) gb128 (Nat.le_of_eq hg.symm)) hb);replace HO_7:=am (Kd.V_below (Kd.V_elderB (by (with_reducible repeat (first|apply Kd.V_alloc|apply Kd.V_drewN|apply Kd.V_drew));exact HO_7.out) gb128 (Nat.le_of_eq hg.symm)) hb);replace HO116:=am (Kd.V_below (Kd.V_elderB (by (with_reducible repeat (first|apply Kd.V_alloc|apply Kd.V_drewN|apply Kd.V_drew));exact HO116.out) gb128 (Nat.le_of_eq hg.symm)) hb);replace BK101:=am (blk_below (vb BK101.out) hb);replace BK122:=am (blk_below (vb BK122.out) hb);replace BK123:=am (blk_below (vb BK123.out) hb);replace HB:=am (below_step (v3 HB.out GE101.out GE122.out GE123.out) hb);clear hb hbox hg;have hnb40:=NB128_101.out;have hnc40:=NB101_128.out;have hnb41:=NB128_122.out;have hnc41:=NB122_128.out;have hnb42:=NB128_123.out;have hnc42:=NB123_128.out;have hcz43_0:=bd BK128.out 0;have hcz43_1:=bd BK128.out 1;have hfz43_0:=blk_frozen BK128.out 0;have hfz43_1:=blk_frozen BK128.out 1;obtain ⟨Ao44,co44,eo44⟩:=Kd.V_slice HO116.out;subst eo44))
          go_loopg [15,82] kj7 (fun kq v15 v82 w' => ∃ (x15_2 : Bool) (x82_2 : Int) (x129000_2 : Int) (x129001_2 : Int),v15 = .bool x15_2 ∧ v82 = .int .i64 x82_2 ∧ Aside0 (calxlaw04_PitKeeps.l0 kq t104 t108 (rd t104 (ji22)) x15_2 t114 (t114.length : Int) x82_2 l0_0 l0_1 x129000_2 x129001_2 = some r) ∧ Aside0 (kq ≤ kj7) ∧ Aside0 (Kd.V (Kd.int .i64) 3 w' w.heap.size (fun k_ => k_ ≠ gb101 ∧ k_ ≠ gb122 ∧ k_ ≠ gb123 ∧ k_ ≠ gb128) (.slice (some ad113) t104.length co28) t104) ∧ Aside0 (Kd.V (Kd.int .i64) 3 w' w.heap.size (fun k_ => k_ ≠ gb101 ∧ k_ ≠ gb122 ∧ k_ ≠ gb123 ∧ k_ ≠ gb128) v109 t108) ∧ Aside0 (Kd.V k89 89 w' w.heap.size (fun k_ => k_ ≠ gb101 ∧ k_ ≠ gb122 ∧ k_ ≠ gb123 ∧ k_ ≠ gb128) (.slice Ao44 t114.length co44) t114) ∧ Aside0 (w'.heap[gb101]? = some (.cells #[(.slice A0_0 l0_0.length c0_0),(.slice A0_1 l0_1.length c0_1)] 32 (0,0))) ∧ Aside0 (w'.heap[gb122]? = some (.cells #[.int .i64 t117,.int .i64 t118] 43 (0,0))) ∧ Aside0 (w'.heap[gb123]? = some (.cells #[.int .i64 t119,.int .i64 t120] 43 (0,0))) ∧ Aside0 (w'.heap[gb128]? = some (.cells #[.int .i64 x129000_2,.int .i64 x129001_2] 43 (0,0))) ∧ Aside0 (Below w.heap.size w w'))
          case atStart => exact ⟨(t127),(0),(t125),(t126),ve,ve,H',⟨Nat.le_refl _⟩,⟨by (with_reducible repeat (first|apply Kd.V_alloc|apply Kd.V_drewN|apply Kd.V_drew));exact Kd.V_mono (Kd.V_far (p:=⟨gb128,1,none⟩) (Kd.V_far (p:=⟨gb128,0,none⟩) (Kd.V_mono HO_5.out (fun k_ hk => (⟨hk,hk.2⟩ : _ ∧ k_ ≠ gb128))) (fun _ hk => hk.2) (.int .i64 t125)) (fun _ hk => hk.2) (.int .i64 t126)) (fun _ hk => ⟨hk.1.1.1.1,⟨hk.1.1.1.2,⟨hk.1.1.2,hk.1.2⟩⟩⟩)⟩,⟨by (with_reducible repeat (first|apply Kd.V_alloc|apply Kd.V_drewN|apply Kd.V_drew));exact Kd.V_mono (Kd.V_far (p:=⟨gb128,1,none⟩) (Kd.V_far (p:=⟨gb128,0,none⟩) (Kd.V_mono HO_7.out (fun k_ hk => (⟨hk,hk.2⟩ : _ ∧ k_ ≠ gb128))) (fun _ hk => hk.2) (.int .i64 t125)) (fun _ hk => hk.2) (.int .i64 t126)) (fun _ hk => ⟨hk.1.1.1.1,⟨hk.1.1.1.2,⟨hk.1.1.2,hk.1.2⟩⟩⟩)⟩,⟨by (with_reducible repeat (first|apply Kd.V_alloc|apply Kd.V_drewN|apply Kd.V_drew));exact Kd.V_mono (Kd.V_far (p:=⟨gb128,1,none⟩) (Kd.V_far (p:=⟨gb128,0,none⟩) (Kd.V_mono HO116.out (fun k_ hk => (⟨hk,hk.2⟩ : _ ∧ k_ ≠ gb128))) (fun _ hk => hk.2) (.int .i64 t125)) (fun _ hk => hk.2) (.int .i64 t126)) (fun _ hk => ⟨hk.1.1.1.1,⟨hk.1.1.1.2,⟨hk.1.1.2,hk.1.2⟩⟩⟩)⟩,⟨by (with_reducible repeat (first|refine blk_drewN ?_ _|refine blk_drew ?_|refine blk_alloc ?_ _));refine blk_far ?_ NB101_128.out _;(with_reducible repeat (first|refine blk_drewN ?_ _|refine blk_drew ?_|refine blk_alloc ?_ _));refine blk_far ?_ NB101_128.out _;(with_reducible repeat (first|refine blk_drewN ?_ _|refine blk_drew ?_|refine blk_alloc ?_ _));exact BK101.out⟩,⟨by (with_reducible repeat (first|refine blk_drewN ?_ _|refine blk_drew ?_|refine blk_alloc ?_ _));refine blk_far ?_ NB122_128.out _;(with_reducible repeat (first|refine blk_drewN ?_ _|refine blk_drew ?_|refine blk_alloc ?_ _));refine blk_far ?_ NB122_128.out _;(with_reducible repeat (first|refine blk_drewN ?_ _|refine blk_drew ?_|refine blk_alloc ?_ _));exact BK122.out⟩,⟨by (with_reducible repeat (first|refine blk_drewN ?_ _|refine blk_drew ?_|refine blk_alloc ?_ _));refine blk_far ?_ NB123_128.out _;(with_reducible repeat (first|refine blk_drewN ?_ _|refine blk_drew ?_|refine blk_alloc ?_ _));refine blk_far ?_ NB123_128.out _;(with_reducible repeat (first|refine blk_drewN ?_ _|refine blk_drew ?_|refine blk_alloc ?_ _));exact BK123.out⟩,⟨by (with_reducible repeat (first|refine blk_drewN ?_ _|refine blk_drew ?_|refine blk_alloc ?_ _));refine blk_put (cs:=#[.int .i64 t125,.int .i64 0]) ?_ 1 _ rfl;(with_reducible repeat (first|refine blk_drewN ?_ _|refine blk_drew ?_|refine blk_alloc ?_ _));refine blk_put (cs:=#[.int .i64 0,.int .i64 0]) ?_ 0 _ rfl;(with_reducible repeat (first|refine blk_drewN ?_ _|refine blk_drew ?_|refine blk_alloc ?_ _));exact BK128.out⟩,⟨by repeat (first|(with_reducible first|exact HB.out|apply below_alloc|apply pw_below_drewN|apply below_drew1|refine below_set ?_ GE101.out|refine below_set ?_ GE122.out|refine below_set ?_ GE123.out|refine below_set ?_ GE128.out)|exact HB.out)⟩⟩
          case round =>
           clear H'
           try clear c1
           try clear p1
           try clear q1
           try clear hx1
           try clear c2
           try clear p2
           try clear c3
           try clear c4
           try clear c5
           try clear p6
           try clear c7
           try clear c7b0
           try clear c7b1
           try clear c9
           try clear p11
           try clear q11
           try clear hx11
           try clear c16
           try clear c16b0
           try clear c16b1
           try clear c18
           try clear c19
           try clear c21
           try clear c21b0
           try clear c21b1
           try clear c21b2
           try clear c23
           try clear c23b0
           try clear c24
           try clear c24b0
           try clear c26
           try clear c26b0
           try clear c26b1
           try clear c27
           try clear c33
           try clear c34
           try clear c36
           try clear c40
           try clear c41
           try clear c42
           try clear hcz10_0
           try clear hcz10_1
           try clear hcz12_0
           try clear hcz12_1
           try clear hcz14_0
           try clear hcz14_1
           try clear hcz29_0
           try clear hcz29_1
           try clear hcz35_0
           try clear hcz35_1
           try clear hcz37_0
           try clear hcz37_1
           try clear hcz43_0
           try clear hcz43_1
           try clear hfz10_0
           try clear hfz10_1
           try clear hfz12_0
           try clear hfz12_1
           try clear hfz14_0
           try clear hfz14_1
           try clear hfz29_0
           try clear hfz29_1
           try clear hfz35_0
           try clear hfz35_1
           try clear hfz37_0
           try clear hfz37_1
           try clear hfz43_0
           try clear hfz43_1
           try clear hx113_0
           try clear p113
           try clear p2
           try clear q113
           obtain ⟨x15_2,x82_2,x129000_2,x129001_2,rfl,rfl,HA,HK2,HO_5,HO_7,HO_80,BK101,BK122,BK123,BK128,HB⟩:=hrel
           cases gk with
          |zero => exact absurd HA.out (by simp [calxlaw04_PitKeeps.l0])
          |succ k2 =>
            have H:=HA.out
            clear HA
            simp only [calxlaw04_PitKeeps.l0] at H
            by_cases c45 : x82_2 < (t114.length : Int)
            ·rw [if_pos c45] at H
             have c45b0 : decide (x82_2 < (t114.length : Int)) = true:=decide_eq_true c45
             clear c45
             by_cases c46 : 0 ≤ x82_2
             ·rw [if_pos c46] at H
              have c46b0 : decide (0 ≤ x82_2) = true:=decide_eq_true c46
              clear c46
              by_cases c47 : x82_2 < (t114.length : Int)
              ·rw [if_pos c47] at H
               have c47b0 : decide (x82_2 < (t114.length : Int)) = true:=decide_eq_true c47
               clear c47
               replace H:=Option.bind_eq_some_iff.mp H
               obtain ⟨⟨t131,t132,t133⟩,A480,H⟩:=H
               replace H : (calxlaw04_PitKeeps.l0 k2 t104 t108 (rd t104 (ji22)) t133 t114 (t114.length : Int) (wrap64 (x82_2 + 1)) l0_0 l0_1 t131 t132) = some r:=H
               have A48:=am A480
               clear A480
               have H':=am H
               clear H
               have p129 : 0 ≤ (x82_2 : Int):=of_decide_eq_true va
               have q129 : x82_2 < (t114.length : Int):=of_decide_eq_true va
               obtain ⟨ad129,e129,hx129_0,hx129_1,hx129_2⟩:=at_T89 (Kd.V_reads' HO_80.out).2.2 x82_2 p129 q129
               cases e129
               replace p129:=eq_true p129
               replace q129:=eq_true q129
               go_wp2_with (first|((with_reducible refine gate_dst (N:=17) rfl ?_);(try (refine gate_guard (by rfl) ?_;dsimp only));refine box_event ?hg (N:=17) ?hd (cs:=#[.int .i64 0,.int .i64 0,.int .i64 0]) (t:=89) ?hr ?_;(case hd => rfl);(case hg => rfl);(case hr => first|(go_simp;done)|(go_simp;rfl));intro gb130 hg w49 hbox hb;have BK130:=am (hbox);have GW130:=am (lg hg (below_size (by repeat (first|(with_reducible first|exact HB.out|apply below_alloc|apply pw_below_drewN|apply below_drew1|refine below_set ?_ GE101.out|refine below_set ?_ GE122.out|refine below_set ?_ GE123.out|refine below_set ?_ GE128.out)|exact HB.out))) : w.heap.size ≤ gb130);have GE130:=GW130;have NB101_130:=am (nl hg (vb BK101.out));have NB130_101:=am ((nl hg (vb BK101.out)).symm);have NB122_130:=am (nl hg (vb BK122.out));have NB130_122:=am ((nl hg (vb BK122.out)).symm);have NB123_130:=am (nl hg (vb BK123.out));have NB130_123:=am ((nl hg (vb BK123.out)).symm);have NB128_130:=am (nl hg (vb BK128.out));have NB130_128:=am ((nl hg (vb BK128.out)).symm);replace HO_5:=am (Kd.V_below (Kd.V_elderB (by (with_reducible repeat (first|apply Kd.V_alloc|apply Kd.V_drewN|apply Kd.V_drew));exact HO_5.out) gb130 (Nat.le_of_eq hg.symm)) hb);replace HO_7:=am (Kd.V_below (Kd.V_elderB (by (with_reducible repeat (first|apply Kd.V_alloc|apply Kd.V_drewN|apply Kd.V_drew));exact HO_7.out) gb130 (Nat.le_of_eq hg.symm)) hb);replace HO_80:=am (Kd.V_below (Kd.V_elderB (by (with_reducible repeat (first|apply Kd.V_alloc|apply Kd.V_drewN|apply Kd.V_drew));exact HO_80.out) gb130 (Nat.le_of_eq hg.symm)) hb);replace BK101:=am (blk_below (vb BK101.out) hb);replace BK122:=am (blk_below (vb BK122.out) hb);replace BK123:=am (blk_below (vb BK123.out) hb);replace BK128:=am (blk_below (vb BK128.out) hb);replace HB:=am (below_step (by repeat (first|(with_reducible first|exact HB.out|apply below_alloc|apply pw_below_drewN|apply below_drew1|refine below_set ?_ GE101.out|refine below_set ?_ GE122.out|refine below_set ?_ GE123.out|refine below_set ?_ GE128.out)|exact HB.out)) hb);clear hb hbox hg;have hnb50:=NB130_101.out;have hnc50:=NB101_130.out;have hnb51:=NB130_122.out;have hnc51:=NB122_130.out;have hnb52:=NB130_123.out;have hnc52:=NB123_130.out;have hnb53:=NB130_128.out;have hnc53:=NB128_130.out;have hcz54_0:=bd BK130.out 0;have hcz54_1:=bd BK130.out 1;have hcz54_2:=bd BK130.out 2;have hfz54_0:=blk_frozen BK130.out 0;have hfz54_1:=blk_frozen BK130.out 1;have hfz54_2:=blk_frozen BK130.out 2;have hnb55:=NB128_101.out;have hnc55:=NB101_128.out;have hnb56:=NB128_122.out;have hnc56:=NB122_128.out;have hnb57:=NB128_123.out;have hnc57:=NB123_128.out;have hcz58_0:=bd BK128.out 0;have hcz58_1:=bd BK128.out 1;have hfz58_0:=blk_frozen BK128.out 0;have hfz58_1:=blk_frozen BK128.out 1)|(refine cE (some 91) Tryz.func51 #[.agg #[.int .i64 x129000_2,.int .i64 x129001_2],.agg #[.int .i64 ((rd_T89 t114 x82_2).f1.f0),.int .i64 ((rd_T89 t114 x82_2).f1.f1)],.bool x15_2] ?_;(with_reducible refine (calxlaw04_sum.calls k2 x129000_2 x129001_2 ((rd_T89 t114 x82_2).f1.f0) ((rd_T89 t114 x82_2).f1.f1) x15_2 t131 t132 t133 _ A48.out).mono ?_);rintro e w59 ⟨rfl,hb⟩;refine ⟨_,rfl,?_⟩;replace HO_5:=am (Kd.V_below (by (with_reducible repeat (first|apply Kd.V_alloc|apply Kd.V_drewN|apply Kd.V_drew));exact (Kd.V_mono (Kd.V_far (p:=⟨gb130,2,none⟩) (Kd.V_far (p:=⟨gb130,1,none⟩) (Kd.V_far (p:=⟨gb130,0,none⟩) (Kd.V_mono HO_5.out (fun k_ hk => (⟨hk,hk.2⟩ : _ ∧ k_ ≠ gb130))) (fun _ hk => hk.2) (.int .i64 ((rd_T89 t114 x82_2).f0))) (fun _ hk => hk.2) (.int .i64 ((rd_T89 t114 x82_2).f1.f0))) (fun _ hk => hk.2) (.int .i64 ((rd_T89 t114 x82_2).f1.f1))) (fun _ h_ => h_.1))) hb);replace HO_7:=am (Kd.V_below (by (with_reducible repeat (first|apply Kd.V_alloc|apply Kd.V_drewN|apply Kd.V_drew));exact (Kd.V_mono (Kd.V_far (p:=⟨gb130,2,none⟩) (Kd.V_far (p:=⟨gb130,1,none⟩) (Kd.V_far (p:=⟨gb130,0,none⟩) (Kd.V_mono HO_7.out (fun k_ hk => (⟨hk,hk.2⟩ : _ ∧ k_ ≠ gb130))) (fun _ hk => hk.2) (.int .i64 ((rd_T89 t114 x82_2).f0))) (fun _ hk => hk.2) (.int .i64 ((rd_T89 t114 x82_2).f1.f0))) (fun _ hk => hk.2) (.int .i64 ((rd_T89 t114 x82_2).f1.f1))) (fun _ h_ => h_.1))) hb);replace HO_80:=am (Kd.V_below (by (with_reducible repeat (first|apply Kd.V_alloc|apply Kd.V_drewN|apply Kd.V_drew));exact (Kd.V_mono (Kd.V_far (p:=⟨gb130,2,none⟩) (Kd.V_far (p:=⟨gb130,1,none⟩) (Kd.V_far (p:=⟨gb130,0,none⟩) (Kd.V_mono HO_80.out (fun k_ hk => (⟨hk,hk.2⟩ : _ ∧ k_ ≠ gb130))) (fun _ hk => hk.2) (.int .i64 ((rd_T89 t114 x82_2).f0))) (fun _ hk => hk.2) (.int .i64 ((rd_T89 t114 x82_2).f1.f0))) (fun _ hk => hk.2) (.int .i64 ((rd_T89 t114 x82_2).f1.f1))) (fun _ h_ => h_.1))) hb);replace BK101:=am (blk_below (g:=gb101) (o:=.cells #[.slice A0_0 l0_0.length c0_0,.slice A0_1 l0_1.length c0_1] 32 (0,0)) (vi BK101.out NB101_130.out) hb);replace BK122:=am (blk_below (g:=gb122) (o:=.cells #[.int .i64 t117,.int .i64 t118] 43 (0,0)) (vi BK122.out NB122_130.out) hb);replace BK123:=am (blk_below (g:=gb123) (o:=.cells #[.int .i64 t119,.int .i64 t120] 43 (0,0)) (vi BK123.out NB123_130.out) hb);replace BK128:=am (blk_below (g:=gb128) (o:=.cells #[.int .i64 x129000_2,.int .i64 x129001_2] 43 (0,0)) (vi BK128.out NB128_130.out) hb);replace BK130:=am (blk_below (g:=gb130) (o:=.cells #[.int .i64 ((rd_T89 t114 x82_2).f0),.int .i64 ((rd_T89 t114 x82_2).f1.f0),.int .i64 ((rd_T89 t114 x82_2).f1.f1)] 89 (0,0)) (by (with_reducible repeat (first|refine blk_drewN ?_ _|refine blk_drew ?_|refine blk_alloc ?_ _));refine blk_put (cs:=#[.int .i64 ((rd_T89 t114 x82_2).f0),.int .i64 ((rd_T89 t114 x82_2).f1.f0),.int .i64 0]) ?_ 2 _ rfl;(with_reducible repeat (first|refine blk_drewN ?_ _|refine blk_drew ?_|refine blk_alloc ?_ _));refine blk_put (cs:=#[.int .i64 ((rd_T89 t114 x82_2).f0),.int .i64 0,.int .i64 0]) ?_ 1 _ rfl;(with_reducible repeat (first|refine blk_drewN ?_ _|refine blk_drew ?_|refine blk_alloc ?_ _));refine blk_put (cs:=#[.int .i64 0,.int .i64 0,.int .i64 0]) ?_ 0 _ rfl;(with_reducible repeat (first|refine blk_drewN ?_ _|refine blk_drew ?_|refine blk_alloc ?_ _));exact BK130.out) hb);replace HB:=am (below_step (by repeat (first|(with_reducible first|exact HB.out|apply below_alloc|apply pw_below_drewN|apply below_drew1|refine below_set ?_ GE101.out|refine below_set ?_ GE122.out|refine below_set ?_ GE123.out|refine below_set ?_ GE128.out|refine below_set ?_ GE130.out)|exact HB.out)) hb);(try clear hb);(try clear hb2);(try clear hk);(try clear hi);have hcz60_0:=bd BK128.out 0;have hcz60_1:=bd BK128.out 1;have hfz60_0:=blk_frozen BK128.out 0;have hfz60_1:=blk_frozen BK128.out 1))
               go_roundg k2
               case measure => have:=HJ7.out;have:=HK2.out;omega
               case rel => exact ⟨(t133),(wrap64 (x82_2 + 1)),(t131),(t132),ve,ve,H',⟨by have:=HJ7.out;have:=HK2.out;omega⟩,⟨by (with_reducible repeat (first|apply Kd.V_alloc|apply Kd.V_drewN|apply Kd.V_drew));exact Kd.V_mono (Kd.V_far (p:=⟨gb128,1,none⟩) (Kd.V_far (p:=⟨gb128,0,none⟩) (Kd.V_mono HO_5.out (fun k_ hk => (⟨hk,hk.1.2.2.2⟩ : _ ∧ k_ ≠ gb128))) (fun _ hk => hk.2) (.int .i64 t131)) (fun _ hk => hk.2) (.int .i64 t132)) (fun _ hk => ⟨hk.1.1.1,⟨hk.1.1.2.1,⟨hk.1.1.2.2.1,hk.1.1.2.2.2⟩⟩⟩)⟩,⟨by (with_reducible repeat (first|apply Kd.V_alloc|apply Kd.V_drewN|apply Kd.V_drew));exact Kd.V_mono (Kd.V_far (p:=⟨gb128,1,none⟩) (Kd.V_far (p:=⟨gb128,0,none⟩) (Kd.V_mono HO_7.out (fun k_ hk => (⟨hk,hk.1.2.2.2⟩ : _ ∧ k_ ≠ gb128))) (fun _ hk => hk.2) (.int .i64 t131)) (fun _ hk => hk.2) (.int .i64 t132)) (fun _ hk => ⟨hk.1.1.1,⟨hk.1.1.2.1,⟨hk.1.1.2.2.1,hk.1.1.2.2.2⟩⟩⟩)⟩,⟨by (with_reducible repeat (first|apply Kd.V_alloc|apply Kd.V_drewN|apply Kd.V_drew));exact Kd.V_mono (Kd.V_far (p:=⟨gb128,1,none⟩) (Kd.V_far (p:=⟨gb128,0,none⟩) (Kd.V_mono HO_80.out (fun k_ hk => (⟨hk,hk.1.2.2.2⟩ : _ ∧ k_ ≠ gb128))) (fun _ hk => hk.2) (.int .i64 t131)) (fun _ hk => hk.2) (.int .i64 t132)) (fun _ hk => ⟨hk.1.1.1,⟨hk.1.1.2.1,⟨hk.1.1.2.2.1,hk.1.1.2.2.2⟩⟩⟩)⟩,⟨by (with_reducible repeat (first|refine blk_drewN ?_ _|refine blk_drew ?_|refine blk_alloc ?_ _));refine blk_far ?_ NB101_128.out _;(with_reducible repeat (first|refine blk_drewN ?_ _|refine blk_drew ?_|refine blk_alloc ?_ _));refine blk_far ?_ NB101_128.out _;(with_reducible repeat (first|refine blk_drewN ?_ _|refine blk_drew ?_|refine blk_alloc ?_ _));exact BK101.out⟩,⟨by (with_reducible repeat (first|refine blk_drewN ?_ _|refine blk_drew ?_|refine blk_alloc ?_ _));refine blk_far ?_ NB122_128.out _;(with_reducible repeat (first|refine blk_drewN ?_ _|refine blk_drew ?_|refine blk_alloc ?_ _));refine blk_far ?_ NB122_128.out _;(with_reducible repeat (first|refine blk_drewN ?_ _|refine blk_drew ?_|refine blk_alloc ?_ _));exact BK122.out⟩,⟨by (with_reducible repeat (first|refine blk_drewN ?_ _|refine blk_drew ?_|refine blk_alloc ?_ _));refine blk_far ?_ NB123_128.out _;(with_reducible repeat (first|refine blk_drewN ?_ _|refine blk_drew ?_|refine blk_alloc ?_ _));refine blk_far ?_ NB123_128.out _;(with_reducible repeat (first|refine blk_drewN ?_ _|refine blk_drew ?_|refine blk_alloc ?_ _));exact BK123.out⟩,⟨by (with_reducible repeat (first|refine blk_drewN ?_ _|refine blk_drew ?_|refine blk_alloc ?_ _));refine blk_put (cs:=#[.int .i64 t131,.int .i64 x129001_2]) ?_ 1 _ rfl;(with_reducible repeat (first|refine blk_drewN ?_ _|refine blk_drew ?_|refine blk_alloc ?_ _));refine blk_put (cs:=#[.int .i64 x129000_2,.int .i64 x129001_2]) ?_ 0 _ rfl;(with_reducible repeat (first|refine blk_drewN ?_ _|refine blk_drew ?_|refine blk_alloc ?_ _));exact BK128.out⟩,⟨by repeat (first|(with_reducible first|exact HB.out|apply below_alloc|apply pw_below_drewN|apply below_drew1|refine below_set ?_ GE101.out|refine below_set ?_ GE122.out|refine below_set ?_ GE123.out|refine below_set ?_ GE128.out|refine below_set ?_ GE130.out)|exact HB.out)⟩⟩
              ·rw [if_neg c47] at H
               exact absurd H (by simp)
             ·rw [if_neg c46] at H
              exact absurd H (by simp)
            ·rw [if_neg c45] at H
             have c45b0 : decide (x82_2 < (t114.length : Int)) = false:=decide_eq_false c45
             clear c45
             have HC61:=am H
             clear H
             go_upto_region 19 with (fail)
             go_cut [103] (fun v103 wc => ∃ (kq : Nat) (x103_60 : Bool),v103 = .bool x103_60 ∧ Aside0 (calxlaw04_PitKeeps.j2 kq t104 t108 x103_60 l0_0 l0_1 = some r) ∧ Aside0 (kq ≤ k2) ∧ Aside0 (Kd.V (Kd.int .i64) 3 wc w.heap.size (fun k_ => k_ ≠ gb101 ∧ k_ ≠ gb122 ∧ k_ ≠ gb123 ∧ k_ ≠ gb128) (.slice (some ad113) t104.length co28) t104) ∧ Aside0 (Kd.V (Kd.int .i64) 3 wc w.heap.size (fun k_ => k_ ≠ gb101 ∧ k_ ≠ gb122 ∧ k_ ≠ gb123 ∧ k_ ≠ gb128) v109 t108) ∧ Aside0 (wc.heap[gb101]? = some (.cells #[(.slice A0_0 l0_0.length c0_0),(.slice A0_1 l0_1.length c0_1)] 32 (0,0))) ∧ Aside0 (wc.heap[gb122]? = some (.cells #[.int .i64 t117,.int .i64 t118] 43 (0,0))) ∧ Aside0 (wc.heap[gb123]? = some (.cells #[.int .i64 t119,.int .i64 t120] 43 (0,0))) ∧ Aside0 (wc.heap[gb128]? = some (.cells #[.int .i64 x129000_2,.int .i64 x129001_2] 43 (0,0))) ∧ Aside0 (Below w.heap.size w wc))
             case first =>
              have H:=HC61.out
              clear HC61
              by_cases c62 : x15_2 = true
              ·subst c62
               have H1 : ((calxlaw04_poured.f k2 l0_0 l0_1 (rd t104 (ji22))).bind fun t134 => ((calxlaw04_frac.f t134 1).bind fun bt135 => (calxlaw04_PitKeeps.j2 k2 t104 t108 (!(x129000_2 == bt135.1) || (!(x129001_2 == bt135.2))) l0_0 l0_1))) = some r:=by rw [if_pos rfl] at H;exact H
               clear H
               have H:=H1
               clear H1
               replace H:=Option.bind_eq_some_iff.mp H
               obtain ⟨t134,A630,H⟩:=H
               replace H : ((calxlaw04_frac.f t134 1).bind fun bt135 => (calxlaw04_PitKeeps.j2 k2 t104 t108 (!(x129000_2 == bt135.1) || (!(x129001_2 == bt135.2))) l0_0 l0_1)) = some r:=H
               have A63:=am A630
               clear A630
               replace H:=Option.bind_eq_some_iff.mp H
               obtain ⟨⟨t135,t136⟩,A640,H⟩:=H
               replace H : (calxlaw04_PitKeeps.j2 k2 t104 t108 (!(x129000_2 == t135) || (!(x129001_2 == t136))) l0_0 l0_1) = some r:=H
               have A64:=am A640
               clear A640
               have H':=am H
               clear H
               try go_wp2
               replace HO_5:=am (Kd.V_drew HO_5.out)
               replace HO_7:=am (Kd.V_drew HO_7.out)
               replace HO_80:=am (Kd.V_drew HO_80.out)
               replace BK101:=am (blk_drew BK101.out)
               replace BK122:=am (blk_drew BK122.out)
               replace BK123:=am (blk_drew BK123.out)
               replace BK128:=am (blk_drew BK128.out)
               replace HB:=am (below_drew1 HB.out)
               refine start_ (n:=9) (S:=fun w' => w'.cell? ⟨gb128,0,none⟩ = some (.int .i64 x129000_2) ∧ w'.cell? ⟨gb128,1,none⟩ = some (.int .i64 x129001_2) ∧ w'.cell? ⟨gb101,0,none⟩ = some (.slice A0_0 l0_0.length c0_0) ∧ w'.cell? ⟨gb101,1,none⟩ = some (.slice A0_1 l0_1.length c0_1)) (ds:=[]) (ab 9 0) kr rfl kr ⟨(blk_cell BK128.out 0).trans rfl,(blk_cell BK128.out 1).trans rfl,(blk_cell BK101.out 0).trans rfl,(blk_cell BK101.out 1).trans rfl⟩ (fun hHeld => ?_);refine with_tabW calxlaw04_PitKeeps.tab19 calxlaw04_PitKeeps.bits19 (fun HT_ HW_ => ?_)
               generalize wr.drew = w65 at HO_5 HO_7 HO_80 BK101 BK122 BK123 BK128 HB hHeld ⊢
               refine qA 0 (some 95) ?_;refine qA 1 (some 96) ?_;refine qA 4 (some 99) ?_;refine qT 2 (some 97) ?_;refine qT 3 (some 98) ?_
               refine qE 5 (some 100) fun K hK => ?_
               refine goes_ Tryz.func53 kr rfl #[.agg #[.slice A0_0 l0_0.length c0_0,.slice A0_1 l0_1.length c0_1],.int .i64 (rd t104 (ji22))] (by rfl) rfl rfl (by (try simp only [List.map_toArray,List.map_cons,List.map_nil]);first|done|(simp only [hji22];rfl)|rfl|(simp only [List.length_drop,List.length_take];rfl)) ?_
               with_reducible refine (calxlaw04_poured.calls k2 _ _ l0_0 _ _ l0_1 (rd t104 (ji22)) t134 _ ?side1 ?side2 ?side3 ?side4 A63.out).mono ?_
               (case side1 => repeat (first|exact (Kd.C_below HR0_0.out HB.out)|(with_reducible refine Kd.C_alloc ?_ _)|(with_reducible refine Kd.C_drewN ?_ _)|(with_reducible refine Kd.C_drew ?_)))
               (case side2 => exact HC0_0.out)
               (case side3 => repeat (first|exact (Kd.C_below HR0_1.out HB.out)|(with_reducible refine Kd.C_alloc ?_ _)|(with_reducible refine Kd.C_drewN ?_ _)|(with_reducible refine Kd.C_drew ?_)))
               (case side4 => exact HC0_1.out)
               rintro e w66 ⟨rfl,hb⟩
               refine ⟨_,rfl,?_⟩
               replace HO_5:=am (Kd.V_below (by (with_reducible repeat (first|apply Kd.V_alloc|apply Kd.V_drewN|apply Kd.V_drew));exact HO_5.out) hb)
               replace HO_7:=am (Kd.V_below (by (with_reducible repeat (first|apply Kd.V_alloc|apply Kd.V_drewN|apply Kd.V_drew));exact HO_7.out) hb)
               replace HO_80:=am (Kd.V_below (by (with_reducible repeat (first|apply Kd.V_alloc|apply Kd.V_drewN|apply Kd.V_drew));exact HO_80.out) hb)
               replace BK101:=am (blk_below (vb BK101.out) hb)
               replace BK122:=am (blk_below (vb BK122.out) hb)
               replace BK123:=am (blk_below (vb BK123.out) hb)
               replace BK128:=am (blk_below (vb BK128.out) hb)
               replace HB:=am (below_step (by repeat (first|(with_reducible first|exact HB.out|apply below_alloc|apply pw_below_drewN|apply below_drew1|refine below_set ?_ GE101.out|refine below_set ?_ GE122.out|refine below_set ?_ GE123.out|refine below_set ?_ GE128.out)|exact HB.out)) hb)
               (try clear hb)
               (try clear hb2)
               (try clear hk)
               (try clear hi)
               refine hK.out _ _ ⟨(blk_cell BK128.out 0).trans rfl,(blk_cell BK128.out 1).trans rfl,(blk_cell BK101.out 0).trans rfl,(blk_cell BK101.out 1).trans rfl⟩ (fun hHeld => ?_)
               clear hK K
               refine qN (some 100) ?_
               refine qE 6 (some 101) fun K hK => ?_
               refine gC Tryz.func52 #[.int .i64 t134,.int .i64 1] ?_
               with_reducible refine (calxlaw04_frac.calls t134 1 t135 t136 _ A64.out).mono ?_
               rintro e w67 ⟨rfl,hb⟩
               refine ⟨_,rfl,?_⟩
               replace HO_5:=am (Kd.V_below (by (with_reducible repeat (first|apply Kd.V_alloc|apply Kd.V_drewN|apply Kd.V_drew));exact HO_5.out) hb)
               replace HO_7:=am (Kd.V_below (by (with_reducible repeat (first|apply Kd.V_alloc|apply Kd.V_drewN|apply Kd.V_drew));exact HO_7.out) hb)
               replace HO_80:=am (Kd.V_below (by (with_reducible repeat (first|apply Kd.V_alloc|apply Kd.V_drewN|apply Kd.V_drew));exact HO_80.out) hb)
               replace BK101:=am (blk_below (vb BK101.out) hb)
               replace BK122:=am (blk_below (vb BK122.out) hb)
               replace BK123:=am (blk_below (vb BK123.out) hb)
               replace BK128:=am (blk_below (vb BK128.out) hb)
               replace HB:=am (below_step (by repeat (first|(with_reducible first|exact HB.out|apply below_alloc|apply pw_below_drewN|apply below_drew1|refine below_set ?_ GE101.out|refine below_set ?_ GE122.out|refine below_set ?_ GE123.out|refine below_set ?_ GE128.out)|exact HB.out)) hb)
               (try clear hb)
               (try clear hb2)
               (try clear hk)
               (try clear hi)
               refine hK.out _ _ ⟨(blk_cell BK128.out 0).trans rfl,(blk_cell BK128.out 1).trans rfl,(blk_cell BK101.out 0).trans rfl,(blk_cell BK101.out 1).trans rfl⟩ (fun hHeld => ?_)
               clear hK K
               refine qN (some 101) ?_
               refine qA 7 (some 102) ?_;refine qA 8 (some 103) ?_
               refine done_ (done_of HT_.out kr) ?_
               try go_wp2
               go_meet
               case rel => exact ⟨_,((!(x129000_2 == t135) || (!(x129001_2 == t136)))),ve,H',⟨by have:=HJ7.out;have:=HK2.out;first|omega|exact Nat.le_refl _⟩,⟨by (with_reducible repeat (first|apply Kd.V_alloc|apply Kd.V_drewN|apply Kd.V_drew));exact HO_5.out⟩,⟨by (with_reducible repeat (first|apply Kd.V_alloc|apply Kd.V_drewN|apply Kd.V_drew));exact HO_7.out⟩,⟨vb BK101.out⟩,⟨vb BK122.out⟩,⟨vb BK123.out⟩,⟨vb BK128.out⟩,⟨by repeat (first|(with_reducible first|exact HB.out|apply below_alloc|apply pw_below_drewN|apply below_drew1|refine below_set ?_ GE101.out|refine below_set ?_ GE122.out|refine below_set ?_ GE123.out|refine below_set ?_ GE128.out)|exact HB.out)⟩⟩
              ·replace c62:=Bool.eq_false_iff.mpr c62
               subst c62
               have H1 : (calxlaw04_PitKeeps.j2 k2 t104 t108 false l0_0 l0_1) = some r:=by rw [if_neg (show ¬ (false = true) by decide)] at H;exact H
               clear H
               have H:=H1
               clear H1
               have H':=am H
               clear H
               try go_wp2
               replace HO_5:=am (Kd.V_drew HO_5.out)
               replace HO_7:=am (Kd.V_drew HO_7.out)
               replace HO_80:=am (Kd.V_drew HO_80.out)
               replace BK101:=am (blk_drew BK101.out)
               replace BK122:=am (blk_drew BK122.out)
               replace BK123:=am (blk_drew BK123.out)
               replace BK128:=am (blk_drew BK128.out)
               replace HB:=am (below_drew1 HB.out)
               refine start_ (n:=9) (S:=fun w' => True) (ds:=[]) (ab 9 0) kr rfl kr trivial (fun hHeld => ?_);refine with_tabW calxlaw04_PitKeeps.tab19 calxlaw04_PitKeeps.bits19 (fun HT_ HW_ => ?_)
               generalize wr.drew = w68 at HO_5 HO_7 HO_80 BK101 BK122 BK123 BK128 HB hHeld ⊢
               refine qA 0 (some 95) ?_;refine qA 1 (some 96) ?_;refine qO 2 (some 97) ?_;refine qO 3 (some 98) ?_;refine qO 4 (some 99) ?_;refine qO 5 (some 100) ?_;refine qO 6 (some 101) ?_;refine qO 7 (some 102) ?_;refine qA 8 (some 103) ?_
               refine done_ (done_of HT_.out kr) ?_
               try go_wp2
               go_meet
               case rel => exact ⟨_,(false),ve,H',⟨by have:=HJ7.out;have:=HK2.out;first|omega|exact Nat.le_refl _⟩,⟨by (with_reducible repeat (first|apply Kd.V_alloc|apply Kd.V_drewN|apply Kd.V_drew));exact HO_5.out⟩,⟨by (with_reducible repeat (first|apply Kd.V_alloc|apply Kd.V_drewN|apply Kd.V_drew));exact HO_7.out⟩,⟨vb BK101.out⟩,⟨vb BK122.out⟩,⟨vb BK123.out⟩,⟨vb BK128.out⟩,⟨by repeat (first|(with_reducible first|exact HB.out|apply below_alloc|apply pw_below_drewN|apply below_drew1|refine below_set ?_ GE101.out|refine below_set ?_ GE122.out|refine below_set ?_ GE123.out|refine below_set ?_ GE128.out)|exact HB.out)⟩⟩
             case rest =>
              clear HC61
              try clear c1
              try clear p1
              try clear q1
              try clear hx1
              try clear c2
              try clear p2
              try clear c3
              try clear c4
              try clear c5
              try clear c6
              try clear p6
              try clear c7
              try clear c7b0
              try clear c7b1
              try clear c9
              try clear p11
              try clear q11
              try clear hx11
              try clear p12
              try clear q12
              try clear hx12
              try clear c16
              try clear c16b0
              try clear c16b1
              try clear c18
              try clear c19
              try clear c21
              try clear c21b0
              try clear c21b1
              try clear c21b2
              try clear c23
              try clear c23b0
              try clear c24
              try clear c24b0
              try clear c26
              try clear c26b0
              try clear c26b1
              try clear c27
              try clear c33
              try clear c34
              try clear c36
              try clear c40
              try clear c41
              try clear c42
              try clear c45
              try clear c45b0
              try clear c46
              try clear c46b0
              try clear c47
              try clear c47b0
              try clear c50
              try clear c51
              try clear c52
              try clear c53
              try clear c55
              try clear c56
              try clear c57
              try clear c62
              try clear p64
              try clear hcz10_0
              try clear hcz10_1
              try clear hcz12_0
              try clear hcz12_1
              try clear hcz14_0
              try clear hcz14_1
              try clear hcz29_0
              try clear hcz29_1
              try clear hcz35_0
              try clear hcz35_1
              try clear hcz37_0
              try clear hcz37_1
              try clear hcz43_0
              try clear hcz43_1
              try clear hcz54_0
              try clear hcz54_1
              try clear hcz54_2
              try clear hcz58_0
              try clear hcz58_1
              try clear hcz60_0
              try clear hcz60_1
              try clear hfz10_0
              try clear hfz10_1
              try clear hfz12_0
              try clear hfz12_1
              try clear hfz14_0
              try clear hfz14_1
              try clear hfz29_0
              try clear hfz29_1
              try clear hfz35_0
              try clear hfz35_1
              try clear hfz37_0
              try clear hfz37_1
              try clear hfz43_0
              try clear hfz43_1
              try clear hfz54_0
              try clear hfz54_1
              try clear hfz54_2
              try clear hfz58_0
              try clear hfz58_1
              try clear hfz60_0
              try clear hfz60_1
              try clear hx113_0
              try clear hx129_0
              try clear hx129_1
              try clear hx129_2
              try clear p1
              try clear p11
              try clear p113
              try clear p129
              try clear p2
              try clear p6
              try clear q1
              try clear q11
              try clear q113
              try clear q129
              obtain ⟨kq,x103_60,rfl,HA,HJ60,HO_5,HO_7,BK101,BK122,BK123,BK128,HB⟩:=hcut
              cases kq with
             |zero => exact absurd HA.out (by simp [calxlaw04_PitKeeps.j2])
             |succ kj60 =>
               have H:=HA.out
               clear HA
               simp only [calxlaw04_PitKeeps.j2] at H
               by_cases c69 : x103_60 = true
               ·subst c69
                have H1 : (some false) = some r:=by rw [if_pos rfl] at H;exact H
                clear H
                have H:=H1
                clear H1
                obtain rfl:=Option.some.inj H
                cases hr.out
               ·replace c69:=Bool.eq_false_iff.mpr c69
                subst c69
                have H1 : (calxlaw04_PitKeeps.l1 kj60 t104 t108 (t108.length : Int) 0 l0_0 l0_1) = some r:=by rw [if_neg (show ¬ (false = true) by decide)] at H;exact H
                clear H
                have H:=H1
                clear H1
                have H':=am H
                clear H
                obtain ⟨Ao70,co70,eo70⟩:=Kd.V_slice HO_7.out
                subst eo70
                go_wp2
                go_loopg [106] kj60 (fun kq v106 w' => ∃ (x106_4 : Int),v106 = .int .i64 x106_4 ∧ Aside0 (calxlaw04_PitKeeps.l1 kq t104 t108 (t108.length : Int) x106_4 l0_0 l0_1 = some r) ∧ Aside0 (kq ≤ kj60) ∧ Aside0 (Kd.V (Kd.int .i64) 3 w' w.heap.size (fun k_ => k_ ≠ gb101 ∧ k_ ≠ gb122 ∧ k_ ≠ gb123 ∧ k_ ≠ gb128) (.slice (some ad113) t104.length co28) t104) ∧ Aside0 (Kd.V (Kd.int .i64) 3 w' w.heap.size (fun k_ => k_ ≠ gb101 ∧ k_ ≠ gb122 ∧ k_ ≠ gb123 ∧ k_ ≠ gb128) (.slice Ao70 t108.length co70) t108) ∧ Aside0 (w'.heap[gb101]? = some (.cells #[(.slice A0_0 l0_0.length c0_0),(.slice A0_1 l0_1.length c0_1)] 32 (0,0))) ∧ Aside0 (w'.heap[gb122]? = some (.cells #[.int .i64 t117,.int .i64 t118] 43 (0,0))) ∧ Aside0 (w'.heap[gb123]? = some (.cells #[.int .i64 t119,.int .i64 t120] 43 (0,0))) ∧ Aside0 (w'.heap[gb128]? = some (.cells #[.int .i64 x129000_2,.int .i64 x129001_2] 43 (0,0))) ∧ Aside0 (Below w.heap.size w w'))
                case atStart => exact ⟨(0),ve,H',⟨Nat.le_refl _⟩,⟨by (with_reducible repeat (first|apply Kd.V_alloc|apply Kd.V_drewN|apply Kd.V_drew));exact HO_5.out⟩,⟨by (with_reducible repeat (first|apply Kd.V_alloc|apply Kd.V_drewN|apply Kd.V_drew));exact HO_7.out⟩,⟨vb BK101.out⟩,⟨vb BK122.out⟩,⟨vb BK123.out⟩,⟨vb BK128.out⟩,⟨by repeat (first|(with_reducible first|exact HB.out|apply below_alloc|apply pw_below_drewN|apply below_drew1|refine below_set ?_ GE101.out|refine below_set ?_ GE122.out|refine below_set ?_ GE123.out|refine below_set ?_ GE128.out)|exact HB.out)⟩⟩
                case round =>
                 clear H'
                 try clear c1
                 try clear p1
                 try clear q1
                 try clear hx1
                 try clear c2
                 try clear p2
                 try clear c3
                 try clear c4
                 try clear c5
                 try clear c6
                 try clear p6
                 try clear c7
                 try clear c7b0
                 try clear c7b1
                 try clear c9
                 try clear p11
                 try clear q11
                 try clear hx11
                 try clear p12
                 try clear q12
                 try clear hx12
                 try clear c16
                 try clear c16b0
                 try clear c16b1
                 try clear c18
                 try clear c19
                 try clear c21
                 try clear c21b0
                 try clear c21b1
                 try clear c21b2
                 try clear c23
                 try clear c23b0
                 try clear c24
                 try clear c24b0
                 try clear c26
                 try clear c26b0
                 try clear c26b1
                 try clear c27
                 try clear c33
                 try clear c34
                 try clear c36
                 try clear c40
                 try clear c41
                 try clear c42
                 try clear c45
                 try clear c45b0
                 try clear c46
                 try clear c46b0
                 try clear c47
                 try clear c47b0
                 try clear c50
                 try clear c51
                 try clear c52
                 try clear c53
                 try clear c55
                 try clear c56
                 try clear c57
                 try clear c62
                 try clear p64
                 try clear c69
                 try clear hcz10_0
                 try clear hcz10_1
                 try clear hcz12_0
                 try clear hcz12_1
                 try clear hcz14_0
                 try clear hcz14_1
                 try clear hcz29_0
                 try clear hcz29_1
                 try clear hcz35_0
                 try clear hcz35_1
                 try clear hcz37_0
                 try clear hcz37_1
                 try clear hcz43_0
                 try clear hcz43_1
                 try clear hcz54_0
                 try clear hcz54_1
                 try clear hcz54_2
                 try clear hcz58_0
                 try clear hcz58_1
                 try clear hcz60_0
                 try clear hcz60_1
                 try clear hfz10_0
                 try clear hfz10_1
                 try clear hfz12_0
                 try clear hfz12_1
                 try clear hfz14_0
                 try clear hfz14_1
                 try clear hfz29_0
                 try clear hfz29_1
                 try clear hfz35_0
                 try clear hfz35_1
                 try clear hfz37_0
                 try clear hfz37_1
                 try clear hfz43_0
                 try clear hfz43_1
                 try clear hfz54_0
                 try clear hfz54_1
                 try clear hfz54_2
                 try clear hfz58_0
                 try clear hfz58_1
                 try clear hfz60_0
                 try clear hfz60_1
                 try clear hx113_0
                 try clear hx129_0
                 try clear hx129_1
                 try clear hx129_2
                 try clear p1
                 try clear p11
                 try clear p113
                 try clear p12
                 try clear p129
                 try clear p2
                 try clear p6
                 try clear p64
                 try clear q1
                 try clear q11
                 try clear q113
                 try clear q12
                 try clear q129
                 obtain ⟨x106_4,rfl,HA,HK4,HO_5,HO_104,BK101,BK122,BK123,BK128,HB⟩:=hrel
                 cases gk with
                |zero => exact absurd HA.out (by simp [calxlaw04_PitKeeps.l1])
                |succ k4 =>
                  have H:=HA.out
                  clear HA
                  simp only [calxlaw04_PitKeeps.l1] at H
                  by_cases c71 : x106_4 < (t108.length : Int)
                  ·rw [if_pos c71] at H
                   have c71b0 : decide (x106_4 < (t108.length : Int)) = true:=decide_eq_true c71
                   clear c71
                   by_cases c72 : 0 ≤ x106_4
                   ·rw [if_pos c72] at H
                    have c72b0 : decide (0 ≤ x106_4) = true:=decide_eq_true c72
                    clear c72
                    by_cases c73 : x106_4 < (t108.length : Int)
                    ·rw [if_pos c73] at H
                     have c73b0 : decide (x106_4 < (t108.length : Int)) = true:=decide_eq_true c73
                     clear c73
                     replace H:=Option.bind_eq_some_iff.mp H
                     obtain ⟨⟨t139,t140⟩,A740,H⟩:=H
                     replace H : (calxlaw04_PitKeeps.l2 k4 t104 (rd t108 x106_4) true t108 (t108.length : Int) x106_4 t104 (t104.length : Int) 0 l0_0 l0_1 t139 t140) = some r:=H
                     have A74:=am A740
                     clear A740
                     have H':=am H
                     clear H
                     have p138 : 0 ≤ (x106_4 : Int):=of_decide_eq_true va
                     have q138 : x106_4 < (t108.length : Int):=of_decide_eq_true va
                     obtain ⟨ad138,e138,hx138_0⟩:=Kd.at_int (Kd.V_reads' HO_104.out).2.2 x106_4 p138 q138
                     cases e138
                     replace p138:=eq_true p138
                     replace q138:=eq_true q138
                     go_wp2_with (first|(refine cE (some 110) Tryz.func52 #[.int .i64 0,.int .i64 1] ?_;(with_reducible refine (calxlaw04_frac.calls 0 1 t139 t140 _ A74.out).mono ?_);rintro e w75 ⟨rfl,hb⟩;refine ⟨_,rfl,?_⟩;replace HO_5:=am (Kd.V_below (by (with_reducible repeat (first|apply Kd.V_alloc|apply Kd.V_drewN|apply Kd.V_drew));exact HO_5.out) hb);replace HO_104:=am (Kd.V_below (by (with_reducible repeat (first|apply Kd.V_alloc|apply Kd.V_drewN|apply Kd.V_drew));exact HO_104.out) hb);replace BK101:=am (blk_below (vb BK101.out) hb);replace BK122:=am (blk_below (vb BK122.out) hb);replace BK123:=am (blk_below (vb BK123.out) hb);replace BK128:=am (blk_below (vb BK128.out) hb);replace HB:=am (below_step (by repeat (first|(with_reducible first|exact HB.out|apply below_alloc|apply pw_below_drewN|apply below_drew1|refine below_set ?_ GE101.out|refine below_set ?_ GE122.out|refine below_set ?_ GE123.out|refine below_set ?_ GE128.out)|exact HB.out)) hb);(try clear hb);(try clear hb2);(try clear hk);(try clear hi))|((with_reducible refine gate_dst (N:=20) rfl ?_);(try (refine gate_guard (by rfl) ?_;dsimp only));refine box_event ?hg (N:=20) ?hd (cs:=#[.int .i64 0,.int .i64 0]) (t:=43) ?hr ?_;(case hd => rfl);(case hg => rfl);(case hr => first|(go_simp;done)|(go_simp;rfl));intro gb141 hg w76 hbox hb;have BK141:=am (hbox);have GW141:=am (lg hg (below_size (by repeat (first|(with_reducible first|exact HB.out|apply below_alloc|apply pw_below_drewN|apply below_drew1|refine below_set ?_ GE101.out|refine below_set ?_ GE122.out|refine below_set ?_ GE123.out|refine below_set ?_ GE128.out)|exact HB.out))) : w.heap.size ≤ gb141);have GE141:=GW141;have NB101_141:=am (nl hg (vb BK101.out));have NB141_101:=am ((nl hg (vb BK101.out)).symm);have NB122_141:=am (nl hg (vb BK122.out));have NB141_122:=am ((nl hg (vb BK122.out)).symm);have NB123_141:=am (nl hg (vb BK123.out));have NB141_123:=am ((nl hg (vb BK123.out)).symm);have NB128_141:=am (nl hg (vb BK128.out));have NB141_128:=am ((nl hg (vb BK128.out)).symm);replace HO_5:=am (Kd.V_below (Kd.V_elderB (by (with_reducible repeat (first|apply Kd.V_alloc|apply Kd.V_drewN|apply Kd.V_drew));exact HO_5.out) gb141 (Nat.le_of_eq hg.symm)) hb);replace HO_104:=am (Kd.V_below (Kd.V_elderB (by (with_reducible repeat (first|apply Kd.V_alloc|apply Kd.V_drewN|apply Kd.V_drew));exact HO_104.out) gb141 (Nat.le_of_eq hg.symm)) hb);replace BK101:=am (blk_below (vb BK101.out) hb);replace BK122:=am (blk_below (vb BK122.out) hb);replace BK123:=am (blk_below (vb BK123.out) hb);replace BK128:=am (blk_below (vb BK128.out) hb);replace HB:=am (below_step (by repeat (first|(with_reducible first|exact HB.out|apply below_alloc|apply pw_below_drewN|apply below_drew1|refine below_set ?_ GE101.out|refine below_set ?_ GE122.out|refine below_set ?_ GE123.out|refine below_set ?_ GE128.out)|exact HB.out)) hb);clear hb hbox hg;have hnb77:=NB141_101.out;have hnc77:=NB101_141.out;have hnb78:=NB141_122.out;have hnc78:=NB122_141.out;have hnb79:=NB141_123.out;have hnc79:=NB123_141.out;have hnb80:=NB141_128.out;have hnc80:=NB128_141.out;have hcz81_0:=bd BK141.out 0;have hcz81_1:=bd BK141.out 1;have hfz81_0:=blk_frozen BK141.out 0;have hfz81_1:=blk_frozen BK141.out 1))
                     go_loopg [21,113] k4 (fun kq v21 v113 w' => ∃ (x21_5 : Bool) (x113_5 : Int) (x142000_5 : Int) (x142001_5 : Int),v21 = .bool x21_5 ∧ v113 = .int .i64 x113_5 ∧ Aside0 (calxlaw04_PitKeeps.l2 kq t104 (rd t108 x106_4) x21_5 t108 (t108.length : Int) x106_4 t104 (t104.length : Int) x113_5 l0_0 l0_1 x142000_5 x142001_5 = some r) ∧ Aside0 (kq ≤ k4) ∧ Aside0 (Kd.V (Kd.int .i64) 3 w' w.heap.size (fun k_ => k_ ≠ gb101 ∧ k_ ≠ gb122 ∧ k_ ≠ gb123 ∧ k_ ≠ gb128 ∧ k_ ≠ gb141) (.slice (some ad113) t104.length co28) t104) ∧ Aside0 (Kd.V (Kd.int .i64) 3 w' w.heap.size (fun k_ => k_ ≠ gb101 ∧ k_ ≠ gb122 ∧ k_ ≠ gb123 ∧ k_ ≠ gb128 ∧ k_ ≠ gb141) (.slice (some ad138) t108.length co70) t108) ∧ Aside0 (Kd.V (Kd.int .i64) 3 w' w.heap.size (fun k_ => k_ ≠ gb101 ∧ k_ ≠ gb122 ∧ k_ ≠ gb123 ∧ k_ ≠ gb128 ∧ k_ ≠ gb141) (.slice (some ad113) t104.length co28) t104) ∧ Aside0 (w'.heap[gb101]? = some (.cells #[(.slice A0_0 l0_0.length c0_0),(.slice A0_1 l0_1.length c0_1)] 32 (0,0))) ∧ Aside0 (w'.heap[gb122]? = some (.cells #[.int .i64 t117,.int .i64 t118] 43 (0,0))) ∧ Aside0 (w'.heap[gb123]? = some (.cells #[.int .i64 t119,.int .i64 t120] 43 (0,0))) ∧ Aside0 (w'.heap[gb128]? = some (.cells #[.int .i64 x129000_2,.int .i64 x129001_2] 43 (0,0))) ∧ Aside0 (w'.heap[gb141]? = some (.cells #[.int .i64 x142000_5,.int .i64 x142001_5] 43 (0,0))) ∧ Aside0 (Below w.heap.size w w'))
                     case atStart => exact ⟨(true),(0),(t139),(t140),ve,ve,H',⟨Nat.le_refl _⟩,⟨by (with_reducible repeat (first|apply Kd.V_alloc|apply Kd.V_drewN|apply Kd.V_drew));exact Kd.V_mono (Kd.V_far (p:=⟨gb141,1,none⟩) (Kd.V_far (p:=⟨gb141,0,none⟩) (Kd.V_mono HO_5.out (fun k_ hk => (⟨hk,hk.2⟩ : _ ∧ k_ ≠ gb141))) (fun _ hk => hk.2) (.int .i64 t139)) (fun _ hk => hk.2) (.int .i64 t140)) (fun _ hk => ⟨hk.1.1.1,⟨hk.1.1.2.1,⟨hk.1.1.2.2.1,⟨hk.1.1.2.2.2,hk.1.2⟩⟩⟩⟩)⟩,⟨by (with_reducible repeat (first|apply Kd.V_alloc|apply Kd.V_drewN|apply Kd.V_drew));exact Kd.V_mono (Kd.V_far (p:=⟨gb141,1,none⟩) (Kd.V_far (p:=⟨gb141,0,none⟩) (Kd.V_mono HO_104.out (fun k_ hk => (⟨hk,hk.2⟩ : _ ∧ k_ ≠ gb141))) (fun _ hk => hk.2) (.int .i64 t139)) (fun _ hk => hk.2) (.int .i64 t140)) (fun _ hk => ⟨hk.1.1.1,⟨hk.1.1.2.1,⟨hk.1.1.2.2.1,⟨hk.1.1.2.2.2,hk.1.2⟩⟩⟩⟩)⟩,⟨by (with_reducible repeat (first|apply Kd.V_alloc|apply Kd.V_drewN|apply Kd.V_drew));exact Kd.V_mono (Kd.V_far (p:=⟨gb141,1,none⟩) (Kd.V_far (p:=⟨gb141,0,none⟩) (Kd.V_mono HO_5.out (fun k_ hk => (⟨hk,hk.2⟩ : _ ∧ k_ ≠ gb141))) (fun _ hk => hk.2) (.int .i64 t139)) (fun _ hk => hk.2) (.int .i64 t140)) (fun _ hk => ⟨hk.1.1.1,⟨hk.1.1.2.1,⟨hk.1.1.2.2.1,⟨hk.1.1.2.2.2,hk.1.2⟩⟩⟩⟩)⟩,⟨by (with_reducible repeat (first|refine blk_drewN ?_ _|refine blk_drew ?_|refine blk_alloc ?_ _));refine blk_far ?_ NB101_141.out _;(with_reducible repeat (first|refine blk_drewN ?_ _|refine blk_drew ?_|refine blk_alloc ?_ _));refine blk_far ?_ NB101_141.out _;(with_reducible repeat (first|refine blk_drewN ?_ _|refine blk_drew ?_|refine blk_alloc ?_ _));exact BK101.out⟩,⟨by (with_reducible repeat (first|refine blk_drewN ?_ _|refine blk_drew ?_|refine blk_alloc ?_ _));refine blk_far ?_ NB122_141.out _;(with_reducible repeat (first|refine blk_drewN ?_ _|refine blk_drew ?_|refine blk_alloc ?_ _));refine blk_far ?_ NB122_141.out _;(with_reducible repeat (first|refine blk_drewN ?_ _|refine blk_drew ?_|refine blk_alloc ?_ _));exact BK122.out⟩,⟨by (with_reducible repeat (first|refine blk_drewN ?_ _|refine blk_drew ?_|refine blk_alloc ?_ _));refine blk_far ?_ NB123_141.out _;(with_reducible repeat (first|refine blk_drewN ?_ _|refine blk_drew ?_|refine blk_alloc ?_ _));refine blk_far ?_ NB123_141.out _;(with_reducible repeat (first|refine blk_drewN ?_ _|refine blk_drew ?_|refine blk_alloc ?_ _));exact BK123.out⟩,⟨by (with_reducible repeat (first|refine blk_drewN ?_ _|refine blk_drew ?_|refine blk_alloc ?_ _));refine blk_far ?_ NB128_141.out _;(with_reducible repeat (first|refine blk_drewN ?_ _|refine blk_drew ?_|refine blk_alloc ?_ _));refine blk_far ?_ NB128_141.out _;(with_reducible repeat (first|refine blk_drewN ?_ _|refine blk_drew ?_|refine blk_alloc ?_ _));exact BK128.out⟩,⟨by (with_reducible repeat (first|refine blk_drewN ?_ _|refine blk_drew ?_|refine blk_alloc ?_ _));refine blk_put (cs:=#[.int .i64 t139,.int .i64 0]) ?_ 1 _ rfl;(with_reducible repeat (first|refine blk_drewN ?_ _|refine blk_drew ?_|refine blk_alloc ?_ _));refine blk_put (cs:=#[.int .i64 0,.int .i64 0]) ?_ 0 _ rfl;(with_reducible repeat (first|refine blk_drewN ?_ _|refine blk_drew ?_|refine blk_alloc ?_ _));exact BK141.out⟩,⟨by repeat (first|(with_reducible first|exact HB.out|apply below_alloc|apply pw_below_drewN|apply below_drew1|refine below_set ?_ GE101.out|refine below_set ?_ GE122.out|refine below_set ?_ GE123.out|refine below_set ?_ GE128.out|refine below_set ?_ GE141.out)|exact HB.out)⟩⟩
                     case round =>
                      clear H'
                      try clear c1
                      try clear p1
                      try clear q1
                      try clear hx1
                      try clear c2
                      try clear p2
                      try clear c3
                      try clear c4
                      try clear c5
                      try clear c6
                      try clear p6
                      try clear c7
                      try clear c7b0
                      try clear c7b1
                      try clear c8
                      try clear c9
                      try clear p11
                      try clear q11
                      try clear hx11
                      try clear p12
                      try clear q12
                      try clear hx12
                      try clear p13
                      try clear q13
                      try clear hx13
                      try clear c16
                      try clear c16b0
                      try clear c16b1
                      try clear c18
                      try clear c19
                      try clear c21
                      try clear c21b0
                      try clear c21b1
                      try clear c21b2
                      try clear c23
                      try clear c23b0
                      try clear c24
                      try clear c24b0
                      try clear c26
                      try clear c26b0
                      try clear c26b1
                      try clear c27
                      try clear c33
                      try clear c34
                      try clear c36
                      try clear c40
                      try clear c41
                      try clear c42
                      try clear c45
                      try clear c45b0
                      try clear c46
                      try clear c46b0
                      try clear c47
                      try clear c47b0
                      try clear c50
                      try clear c51
                      try clear c52
                      try clear c53
                      try clear c55
                      try clear c56
                      try clear c57
                      try clear c62
                      try clear p64
                      try clear c69
                      try clear c71
                      try clear c71b0
                      try clear c72
                      try clear c72b0
                      try clear c73
                      try clear c73b0
                      try clear c77
                      try clear c78
                      try clear c79
                      try clear c80
                      try clear hcz10_0
                      try clear hcz10_1
                      try clear hcz12_0
                      try clear hcz12_1
                      try clear hcz14_0
                      try clear hcz14_1
                      try clear hcz29_0
                      try clear hcz29_1
                      try clear hcz35_0
                      try clear hcz35_1
                      try clear hcz37_0
                      try clear hcz37_1
                      try clear hcz43_0
                      try clear hcz43_1
                      try clear hcz54_0
                      try clear hcz54_1
                      try clear hcz54_2
                      try clear hcz58_0
                      try clear hcz58_1
                      try clear hcz60_0
                      try clear hcz60_1
                      try clear hcz81_0
                      try clear hcz81_1
                      try clear hfz10_0
                      try clear hfz10_1
                      try clear hfz12_0
                      try clear hfz12_1
                      try clear hfz14_0
                      try clear hfz14_1
                      try clear hfz29_0
                      try clear hfz29_1
                      try clear hfz35_0
                      try clear hfz35_1
                      try clear hfz37_0
                      try clear hfz37_1
                      try clear hfz43_0
                      try clear hfz43_1
                      try clear hfz54_0
                      try clear hfz54_1
                      try clear hfz54_2
                      try clear hfz58_0
                      try clear hfz58_1
                      try clear hfz60_0
                      try clear hfz60_1
                      try clear hfz81_0
                      try clear hfz81_1
                      try clear hx113_0
                      try clear hx129_0
                      try clear hx129_1
                      try clear hx129_2
                      try clear hx138_0
                      try clear p1
                      try clear p11
                      try clear p113
                      try clear p12
                      try clear p129
                      try clear p138
                      try clear p2
                      try clear p6
                      try clear p64
                      try clear q1
                      try clear q11
                      try clear q113
                      try clear q12
                      try clear q129
                      try clear q138
                      obtain ⟨x21_5,x113_5,x142000_5,x142001_5,rfl,rfl,HA,HK5,HO_5,HO_104,HO_111,BK101,BK122,BK123,BK128,BK141,HB⟩:=hrel
                      cases gk with
                     |zero => exact absurd HA.out (by simp [calxlaw04_PitKeeps.l2])
                     |succ k5 =>
                       have H:=HA.out
                       clear HA
                       simp only [calxlaw04_PitKeeps.l2] at H
                       by_cases c82 : x113_5 < (t104.length : Int)
                       ·rw [if_pos c82] at H
                        have c82b0 : decide (x113_5 < (t104.length : Int)) = true:=decide_eq_true c82
                        clear c82
                        by_cases c83 : 0 ≤ x113_5
                        ·rw [if_pos c83] at H
                         have c83b0 : decide (0 ≤ x113_5) = true:=decide_eq_true c83
                         clear c83
                         by_cases c84 : x113_5 < (t104.length : Int)
                         ·rw [if_pos c84] at H
                          have c84b0 : decide (x113_5 < (t104.length : Int)) = true:=decide_eq_true c84
                          clear c84
                          replace H:=Option.bind_eq_some_iff.mp H
                          obtain ⟨⟨t145,t146,t147⟩,A850,H⟩:=H
                          replace H : (if t147 = 0 then ((calxlaw04_sum.f k5 x142000_5 x142001_5 t145 t146 x21_5).bind fun bt149 => (calxlaw04_PitKeeps.l2 k5 t104 (rd t108 x106_4) bt149.2.2 t108 (t108.length : Int) x106_4 t104 (t104.length : Int) (wrap64 (x113_5 + 1)) l0_0 l0_1 bt149.1 bt149.2.1)) else (some false)) = some r:=H
                          have A85:=am A850
                          clear A850
                          by_cases c86 : t147 = 0
                          ·rw [if_pos c86] at H
                           have c86b0 : (t147 == 0) = true:=beq_iff_eq.mpr c86
                           have c86b1 : (t147 != 0) = false:=bne_eq_false_iff_eq.mpr c86
                           clear c86
                           replace H:=Option.bind_eq_some_iff.mp H
                           obtain ⟨⟨t149,t150,t151⟩,A870,H⟩:=H
                           replace H : (calxlaw04_PitKeeps.l2 k5 t104 (rd t108 x106_4) t151 t108 (t108.length : Int) x106_4 t104 (t104.length : Int) (wrap64 (x113_5 + 1)) l0_0 l0_1 t149 t150) = some r:=H
                           have A87:=am A870
                           clear A870
                           have H':=am H
                           clear H
                           have p144 : 0 ≤ (x113_5 : Int):=of_decide_eq_true va
                           have q144 : x113_5 < (t104.length : Int):=of_decide_eq_true va
                           obtain ⟨ad144,e144,hx144_0⟩:=Kd.at_int (Kd.V_reads' HO_111.out).2.2 x113_5 p144 q144
                           obtain rfl : ad113 = ad144:=(by injection e144)
                           replace p144:=eq_true p144
                           replace q144:=eq_true q144
                           have hnb88:=NB101_122.out
                           have hnc88:=NB122_101.out
                           have hnb89:=NB101_123.out
                           have hnc89:=NB123_101.out
                           have hnb90:=NB101_128.out
                           have hnc90:=NB128_101.out
                           have hnb91:=NB101_141.out
                           have hnc91:=NB141_101.out
                           have hcz92_0:=bd BK101.out 0
                           have hcz92_1:=bd BK101.out 1
                           have hfz92_0:=blk_frozen BK101.out 0
                           have hfz92_1:=blk_frozen BK101.out 1
                           go_wp2_with (first|(refine cE (some 121) Tryz.func30 #[.agg #[.slice A0_0 l0_0.length c0_0,.slice A0_1 l0_1.length c0_1],.int .i64 (rd t108 x106_4),.int .i64 (rd t104 x113_5)] ?_;(with_reducible refine (pit_Share.calls _ _ l0_0 _ _ l0_1 (rd t108 x106_4) (rd t104 x113_5) t145 t146 t147 _ ?side1 ?side2 ?side3 ?side4 A85.out).mono ?_);(case side1 => repeat (first|exact (Kd.C_below HR0_0.out HB.out)|(with_reducible refine Kd.C_alloc ?_ _)|(with_reducible refine Kd.C_drewN ?_ _)|(with_reducible refine Kd.C_drew ?_)));(case side2 => exact HC0_0.out);(case side3 => repeat (first|exact (Kd.C_below HR0_1.out HB.out)|(with_reducible refine Kd.C_alloc ?_ _)|(with_reducible refine Kd.C_drewN ?_ _)|(with_reducible refine Kd.C_drew ?_)));(case side4 => exact HC0_1.out);rintro e w93 ⟨rfl,hb⟩;refine ⟨_,rfl,?_⟩;replace HO_5:=am (Kd.V_below (by (with_reducible repeat (first|apply Kd.V_alloc|apply Kd.V_drewN|apply Kd.V_drew));exact HO_5.out) hb);replace HO_104:=am (Kd.V_below (by (with_reducible repeat (first|apply Kd.V_alloc|apply Kd.V_drewN|apply Kd.V_drew));exact HO_104.out) hb);replace HO_111:=am (Kd.V_below (by (with_reducible repeat (first|apply Kd.V_alloc|apply Kd.V_drewN|apply Kd.V_drew));exact HO_111.out) hb);replace BK101:=am (blk_below (vb BK101.out) hb);replace BK122:=am (blk_below (vb BK122.out) hb);replace BK123:=am (blk_below (vb BK123.out) hb);replace BK128:=am (blk_below (vb BK128.out) hb);replace BK141:=am (blk_below (vb BK141.out) hb);replace HB:=am (below_step (by repeat (first|(with_reducible first|exact HB.out|apply below_alloc|apply pw_below_drewN|apply below_drew1|refine below_set ?_ GE101.out|refine below_set ?_ GE122.out|refine below_set ?_ GE123.out|refine below_set ?_ GE128.out|refine below_set ?_ GE141.out)|exact HB.out)) hb);(try clear hb);(try clear hb2);(try clear hk);(try clear hi))|((with_reducible refine gate_dst (N:=24) rfl ?_);(try (refine gate_guard (by rfl) ?_;dsimp only));refine box_event ?hg (N:=24) ?hd (cs:=#[.int .i64 0,.int .i64 0]) (t:=43) ?hr ?_;(case hd => rfl);(case hg => rfl);(case hr => first|(go_simp;done)|(go_simp;rfl));intro gb148 hg w94 hbox hb;have BK148:=am (hbox);have GW148:=am (lg hg (below_size (by repeat (first|(with_reducible first|exact HB.out|apply below_alloc|apply pw_below_drewN|apply below_drew1|refine below_set ?_ GE101.out|refine below_set ?_ GE122.out|refine below_set ?_ GE123.out|refine below_set ?_ GE128.out|refine below_set ?_ GE141.out)|exact HB.out))) : w.heap.size ≤ gb148);have GE148:=GW148;have NB101_148:=am (nl hg (vb BK101.out));have NB148_101:=am ((nl hg (vb BK101.out)).symm);have NB122_148:=am (nl hg (vb BK122.out));have NB148_122:=am ((nl hg (vb BK122.out)).symm);have NB123_148:=am (nl hg (vb BK123.out));have NB148_123:=am ((nl hg (vb BK123.out)).symm);have NB128_148:=am (nl hg (vb BK128.out));have NB148_128:=am ((nl hg (vb BK128.out)).symm);have NB141_148:=am (nl hg (vb BK141.out));have NB148_141:=am ((nl hg (vb BK141.out)).symm);replace HO_5:=am (Kd.V_below (Kd.V_elderB (by (with_reducible repeat (first|apply Kd.V_alloc|apply Kd.V_drewN|apply Kd.V_drew));exact HO_5.out) gb148 (Nat.le_of_eq hg.symm)) hb);replace HO_104:=am (Kd.V_below (Kd.V_elderB (by (with_reducible repeat (first|apply Kd.V_alloc|apply Kd.V_drewN|apply Kd.V_drew));exact HO_104.out) gb148 (Nat.le_of_eq hg.symm)) hb);replace HO_111:=am (Kd.V_below (Kd.V_elderB (by (with_reducible repeat (first|apply Kd.V_alloc|apply Kd.V_drewN|apply Kd.V_drew));exact HO_111.out) gb148 (Nat.le_of_eq hg.symm)) hb);replace BK101:=am (blk_below (vb BK101.out) hb);replace BK122:=am (blk_below (vb BK122.out) hb);replace BK123:=am (blk_below (vb BK123.out) hb);replace BK128:=am (blk_below (vb BK128.out) hb);replace BK141:=am (blk_below (vb BK141.out) hb);replace HB:=am (below_step (by repeat (first|(with_reducible first|exact HB.out|apply below_alloc|apply pw_below_drewN|apply below_drew1|refine below_set ?_ GE101.out|refine below_set ?_ GE122.out|refine below_set ?_ GE123.out|refine below_set ?_ GE128.out|refine below_set ?_ GE141.out)|exact HB.out)) hb);clear hb hbox hg;have hnb95:=NB148_101.out;have hnc95:=NB101_148.out;have hnb96:=NB148_122.out;have hnc96:=NB122_148.out;have hnb97:=NB148_123.out;have hnc97:=NB123_148.out;have hnb98:=NB148_128.out;have hnc98:=NB128_148.out;have hnb99:=NB148_141.out;have hnc99:=NB141_148.out;have hcz100_0:=bd BK148.out 0;have hcz100_1:=bd BK148.out 1;have hfz100_0:=blk_frozen BK148.out 0;have hfz100_1:=blk_frozen BK148.out 1;have hnb101:=NB141_122.out;have hnc101:=NB122_141.out;have hnb102:=NB141_123.out;have hnc102:=NB123_141.out;have hnb103:=NB141_128.out;have hnc103:=NB128_141.out;have hcz104_0:=bd BK141.out 0;have hcz104_1:=bd BK141.out 1;have hfz104_0:=blk_frozen BK141.out 0;have hfz104_1:=blk_frozen BK141.out 1)|(refine cE (some 130) Tryz.func51 #[.agg #[.int .i64 x142000_5,.int .i64 x142001_5],.agg #[.int .i64 t145,.int .i64 t146],.bool x21_5] ?_;(with_reducible refine (calxlaw04_sum.calls k5 x142000_5 x142001_5 t145 t146 x21_5 t149 t150 t151 _ A87.out).mono ?_);rintro e w105 ⟨rfl,hb⟩;refine ⟨_,rfl,?_⟩;replace HO_5:=am (Kd.V_below (by (with_reducible repeat (first|apply Kd.V_alloc|apply Kd.V_drewN|apply Kd.V_drew));exact (Kd.V_mono (Kd.V_far (p:=⟨gb148,1,none⟩) (Kd.V_far (p:=⟨gb148,0,none⟩) (Kd.V_mono HO_5.out (fun k_ hk => (⟨hk,hk.2⟩ : _ ∧ k_ ≠ gb148))) (fun _ hk => hk.2) (.int .i64 t145)) (fun _ hk => hk.2) (.int .i64 t146)) (fun _ h_ => h_.1))) hb);replace HO_104:=am (Kd.V_below (by (with_reducible repeat (first|apply Kd.V_alloc|apply Kd.V_drewN|apply Kd.V_drew));exact (Kd.V_mono (Kd.V_far (p:=⟨gb148,1,none⟩) (Kd.V_far (p:=⟨gb148,0,none⟩) (Kd.V_mono HO_104.out (fun k_ hk => (⟨hk,hk.2⟩ : _ ∧ k_ ≠ gb148))) (fun _ hk => hk.2) (.int .i64 t145)) (fun _ hk => hk.2) (.int .i64 t146)) (fun _ h_ => h_.1))) hb);replace HO_111:=am (Kd.V_below (by (with_reducible repeat (first|apply Kd.V_alloc|apply Kd.V_drewN|apply Kd.V_drew));exact (Kd.V_mono (Kd.V_far (p:=⟨gb148,1,none⟩) (Kd.V_far (p:=⟨gb148,0,none⟩) (Kd.V_mono HO_111.out (fun k_ hk => (⟨hk,hk.2⟩ : _ ∧ k_ ≠ gb148))) (fun _ hk => hk.2) (.int .i64 t145)) (fun _ hk => hk.2) (.int .i64 t146)) (fun _ h_ => h_.1))) hb);replace BK101:=am (blk_below (g:=gb101) (o:=.cells #[.slice A0_0 l0_0.length c0_0,.slice A0_1 l0_1.length c0_1] 32 (0,0)) (vh BK101.out NB101_148.out) hb);replace BK122:=am (blk_below (g:=gb122) (o:=.cells #[.int .i64 t117,.int .i64 t118] 43 (0,0)) (vh BK122.out NB122_148.out) hb);replace BK123:=am (blk_below (g:=gb123) (o:=.cells #[.int .i64 t119,.int .i64 t120] 43 (0,0)) (vh BK123.out NB123_148.out) hb);replace BK128:=am (blk_below (g:=gb128) (o:=.cells #[.int .i64 x129000_2,.int .i64 x129001_2] 43 (0,0)) (vh BK128.out NB128_148.out) hb);replace BK141:=am (blk_below (g:=gb141) (o:=.cells #[.int .i64 x142000_5,.int .i64 x142001_5] 43 (0,0)) (vh BK141.out NB141_148.out) hb);replace BK148:=am (blk_below (g:=gb148) (o:=.cells #[.int .i64 t145,.int .i64 t146] 43 (0,0)) (by (with_reducible repeat (first|refine blk_drewN ?_ _|refine blk_drew ?_|refine blk_alloc ?_ _));refine blk_put (cs:=#[.int .i64 t145,.int .i64 0]) ?_ 1 _ rfl;(with_reducible repeat (first|refine blk_drewN ?_ _|refine blk_drew ?_|refine blk_alloc ?_ _));refine blk_put (cs:=#[.int .i64 0,.int .i64 0]) ?_ 0 _ rfl;(with_reducible repeat (first|refine blk_drewN ?_ _|refine blk_drew ?_|refine blk_alloc ?_ _));exact BK148.out) hb);replace HB:=am (below_step (by repeat (first|(with_reducible first|exact HB.out|apply below_alloc|apply pw_below_drewN|apply below_drew1|refine below_set ?_ GE101.out|refine below_set ?_ GE122.out|refine below_set ?_ GE123.out|refine below_set ?_ GE128.out|refine below_set ?_ GE141.out|refine below_set ?_ GE148.out)|exact HB.out)) hb);(try clear hb);(try clear hb2);(try clear hk);(try clear hi);have hcz106_0:=bd BK141.out 0;have hcz106_1:=bd BK141.out 1;have hfz106_0:=blk_frozen BK141.out 0;have hfz106_1:=blk_frozen BK141.out 1))
                           go_roundg k5
                           case measure => have:=HJ7.out;have:=HK2.out;have:=HJ60.out;have:=HK4.out;have:=HK5.out;omega
                           case rel => exact ⟨(t151),(wrap64 (x113_5 + 1)),(t149),(t150),ve,ve,H',⟨by have:=HJ7.out;have:=HK2.out;have:=HJ60.out;have:=HK4.out;have:=HK5.out;omega⟩,⟨by (with_reducible repeat (first|apply Kd.V_alloc|apply Kd.V_drewN|apply Kd.V_drew));exact Kd.V_mono (Kd.V_far (p:=⟨gb141,1,none⟩) (Kd.V_far (p:=⟨gb141,0,none⟩) (Kd.V_mono HO_5.out (fun k_ hk => (⟨hk,hk.1.2.2.2.2⟩ : _ ∧ k_ ≠ gb141))) (fun _ hk => hk.2) (.int .i64 t149)) (fun _ hk => hk.2) (.int .i64 t150)) (fun _ hk => ⟨hk.1.1.1,⟨hk.1.1.2.1,⟨hk.1.1.2.2.1,⟨hk.1.1.2.2.2.1,hk.1.1.2.2.2.2⟩⟩⟩⟩)⟩,⟨by (with_reducible repeat (first|apply Kd.V_alloc|apply Kd.V_drewN|apply Kd.V_drew));exact Kd.V_mono (Kd.V_far (p:=⟨gb141,1,none⟩) (Kd.V_far (p:=⟨gb141,0,none⟩) (Kd.V_mono HO_104.out (fun k_ hk => (⟨hk,hk.1.2.2.2.2⟩ : _ ∧ k_ ≠ gb141))) (fun _ hk => hk.2) (.int .i64 t149)) (fun _ hk => hk.2) (.int .i64 t150)) (fun _ hk => ⟨hk.1.1.1,⟨hk.1.1.2.1,⟨hk.1.1.2.2.1,⟨hk.1.1.2.2.2.1,hk.1.1.2.2.2.2⟩⟩⟩⟩)⟩,⟨by (with_reducible repeat (first|apply Kd.V_alloc|apply Kd.V_drewN|apply Kd.V_drew));exact Kd.V_mono (Kd.V_far (p:=⟨gb141,1,none⟩) (Kd.V_far (p:=⟨gb141,0,none⟩) (Kd.V_mono HO_111.out (fun k_ hk => (⟨hk,hk.1.2.2.2.2⟩ : _ ∧ k_ ≠ gb141))) (fun _ hk => hk.2) (.int .i64 t149)) (fun _ hk => hk.2) (.int .i64 t150)) (fun _ hk => ⟨hk.1.1.1,⟨hk.1.1.2.1,⟨hk.1.1.2.2.1,⟨hk.1.1.2.2.2.1,hk.1.1.2.2.2.2⟩⟩⟩⟩)⟩,⟨by (with_reducible repeat (first|refine blk_drewN ?_ _|refine blk_drew ?_|refine blk_alloc ?_ _));refine blk_far ?_ NB101_141.out _;(with_reducible repeat (first|refine blk_drewN ?_ _|refine blk_drew ?_|refine blk_alloc ?_ _));refine blk_far ?_ NB101_141.out _;(with_reducible repeat (first|refine blk_drewN ?_ _|refine blk_drew ?_|refine blk_alloc ?_ _));exact BK101.out⟩,⟨by (with_reducible repeat (first|refine blk_drewN ?_ _|refine blk_drew ?_|refine blk_alloc ?_ _));refine blk_far ?_ NB122_141.out _;(with_reducible repeat (first|refine blk_drewN ?_ _|refine blk_drew ?_|refine blk_alloc ?_ _));refine blk_far ?_ NB122_141.out _;(with_reducible repeat (first|refine blk_drewN ?_ _|refine blk_drew ?_|refine blk_alloc ?_ _));exact BK122.out⟩,⟨by (with_reducible repeat (first|refine blk_drewN ?_ _|refine blk_drew ?_|refine blk_alloc ?_ _));refine blk_far ?_ NB123_141.out _;(with_reducible repeat (first|refine blk_drewN ?_ _|refine blk_drew ?_|refine blk_alloc ?_ _));refine blk_far ?_ NB123_141.out _;(with_reducible repeat (first|refine blk_drewN ?_ _|refine blk_drew ?_|refine blk_alloc ?_ _));exact BK123.out⟩,⟨by (with_reducible repeat (first|refine blk_drewN ?_ _|refine blk_drew ?_|refine blk_alloc ?_ _));refine blk_far ?_ NB128_141.out _;(with_reducible repeat (first|refine blk_drewN ?_ _|refine blk_drew ?_|refine blk_alloc ?_ _));refine blk_far ?_ NB128_141.out _;(with_reducible repeat (first|refine blk_drewN ?_ _|refine blk_drew ?_|refine blk_alloc ?_ _));exact BK128.out⟩,⟨by (with_reducible repeat (first|refine blk_drewN ?_ _|refine blk_drew ?_|refine blk_alloc ?_ _));refine blk_put (cs:=#[.int .i64 t149,.int .i64 x142001_5]) ?_ 1 _ rfl;(with_reducible repeat (first|refine blk_drewN ?_ _|refine blk_drew ?_|refine blk_alloc ?_ _));refine blk_put (cs:=#[.int .i64 x142000_5,.int .i64 x142001_5]) ?_ 0 _ rfl;(with_reducible repeat (first|refine blk_drewN ?_ _|refine blk_drew ?_|refine blk_alloc ?_ _));exact BK141.out⟩,⟨by repeat (first|(with_reducible first|exact HB.out|apply below_alloc|apply pw_below_drewN|apply below_drew1|refine below_set ?_ GE101.out|refine below_set ?_ GE122.out|refine below_set ?_ GE123.out|refine below_set ?_ GE128.out|refine below_set ?_ GE141.out|refine below_set ?_ GE148.out)|exact HB.out)⟩⟩
                          ·rw [if_neg c86] at H
                           have c86b0 : (t147 == 0) = false:=beq_eq_false_iff_ne.mpr c86
                           have c86b1 : (t147 != 0) = true:=bne_iff_ne.mpr c86
                           obtain rfl:=Option.some.inj H
                           cases hr.out
                         ·rw [if_neg c84] at H
                          exact absurd H (by simp)
                        ·rw [if_neg c83] at H
                         exact absurd H (by simp)
                       ·rw [if_neg c82] at H
                        have c82b0 : decide (x113_5 < (t104.length : Int)) = false:=decide_eq_false c82
                        clear c82
                        by_cases c120 : x21_5 = true
                        ·subst c120
                         have H1 : ((calxlaw04_frac.f 1 1).bind fun bt142 => (if (!(x142000_5 == bt142.1) || (!(x142001_5 == bt142.2))) = true then (some false) else (calxlaw04_PitKeeps.l1 k5 t104 t108 (t108.length : Int) (wrap64 (x106_4 + 1)) l0_0 l0_1))) = some r:=by rw [if_pos rfl] at H;exact H
                         clear H
                         have H:=H1
                         clear H1
                         replace H:=Option.bind_eq_some_iff.mp H
                         obtain ⟨⟨t142,t143⟩,A1210,H⟩:=H
                         replace H : (if (!(x142000_5 == t142) || (!(x142001_5 == t143))) = true then (some false) else (calxlaw04_PitKeeps.l1 k5 t104 t108 (t108.length : Int) (wrap64 (x106_4 + 1)) l0_0 l0_1)) = some r:=H
                         have A121:=am A1210
                         clear A1210
                         by_cases c122 : (!(x142000_5 == t142) || (!(x142001_5 == t143))) = true
                         ·rw [if_pos c122] at H
                          have c122b0 : (!(x142000_5 == t142) || (!(x142001_5 == t143))) = true:=c122
                          clear c122
                          obtain rfl:=Option.some.inj H
                          cases hr.out
                         ·rw [if_neg c122] at H
                          have c122b0 : (!(x142000_5 == t142) || (!(x142001_5 == t143))) = false:=by simpa using c122
                          clear c122
                          have H':=am H
                          clear H
                          try go_wp2
                          replace HO_5:=am (Kd.V_drew HO_5.out)
                          replace HO_104:=am (Kd.V_drew HO_104.out)
                          replace HO_111:=am (Kd.V_drew HO_111.out)
                          replace BK101:=am (blk_drew BK101.out)
                          replace BK122:=am (blk_drew BK122.out)
                          replace BK123:=am (blk_drew BK123.out)
                          replace BK128:=am (blk_drew BK128.out)
                          replace BK141:=am (blk_drew BK141.out)
                          replace HB:=am (below_drew1 HB.out)
                          refine start_ (n:=6) (S:=fun w' => w'.cell? ⟨gb141,0,none⟩ = some (.int .i64 x142000_5) ∧ w'.cell? ⟨gb141,1,none⟩ = some (.int .i64 x142001_5)) (ds:=[]) (ab 6 0) kr rfl kr ⟨(blk_cell BK141.out 0).trans rfl,(blk_cell BK141.out 1).trans rfl⟩ (fun hHeld => ?_)
                          generalize wr.drew = w125 at HO_5 HO_104 HO_111 BK101 BK122 BK123 BK128 BK141 HB hHeld ⊢
                          refine qA 0 (some 134) ?_;refine qA 1 (some 135) ?_;refine qT 2 (some 136) ?_
                          refine qE 3 (some 137) fun K hK => ?_
                          refine gC Tryz.func52 #[.int .i64 1,.int .i64 1] ?_
                          with_reducible refine (calxlaw04_frac.calls 1 1 t142 t143 _ A121.out).mono ?_
                          rintro e w126 ⟨rfl,hb⟩
                          refine ⟨_,rfl,?_⟩
                          replace HO_5:=am (Kd.V_below (by (with_reducible repeat (first|apply Kd.V_alloc|apply Kd.V_drewN|apply Kd.V_drew));exact HO_5.out) hb)
                          replace HO_104:=am (Kd.V_below (by (with_reducible repeat (first|apply Kd.V_alloc|apply Kd.V_drewN|apply Kd.V_drew));exact HO_104.out) hb)
                          replace HO_111:=am (Kd.V_below (by (with_reducible repeat (first|apply Kd.V_alloc|apply Kd.V_drewN|apply Kd.V_drew));exact HO_111.out) hb)
                          replace BK101:=am (blk_below (vb BK101.out) hb)
                          replace BK122:=am (blk_below (vb BK122.out) hb)
                          replace BK123:=am (blk_below (vb BK123.out) hb)
                          replace BK128:=am (blk_below (vb BK128.out) hb)
                          replace BK141:=am (blk_below (vb BK141.out) hb)
                          replace HB:=am (below_step (by repeat (first|(with_reducible first|exact HB.out|apply below_alloc|apply pw_below_drewN|apply below_drew1|refine below_set ?_ GE101.out|refine below_set ?_ GE122.out|refine below_set ?_ GE123.out|refine below_set ?_ GE128.out|refine below_set ?_ GE141.out)|exact HB.out)) hb)
                          (try clear hb)
                          (try clear hb2)
                          (try clear hk)
                          (try clear hi)
                          refine hK.out _ _ ⟨(blk_cell BK141.out 0).trans rfl,(blk_cell BK141.out 1).trans rfl⟩ (fun hHeld => ?_)
                          clear hK K
                          refine qN (some 137) ?_
                          refine qA 4 (some 138) ?_;refine qA 5 (some 139) ?_
                          refine done_ kr ?_
                          try go_wp2
                          go_roundg k5
                          case measure => have:=HJ7.out;have:=HK2.out;have:=HJ60.out;have:=HK4.out;have:=HK5.out;omega
                          case rel => exact ⟨(wrap64 (x106_4 + 1)),ve,H',⟨by have:=HJ7.out;have:=HK2.out;have:=HJ60.out;have:=HK4.out;have:=HK5.out;omega⟩,⟨by (with_reducible repeat (first|apply Kd.V_alloc|apply Kd.V_drewN|apply Kd.V_drew));exact Kd.V_mono HO_5.out (fun _ hk => ⟨hk.1,⟨hk.2.1,⟨hk.2.2.1,hk.2.2.2.1⟩⟩⟩)⟩,⟨by (with_reducible repeat (first|apply Kd.V_alloc|apply Kd.V_drewN|apply Kd.V_drew));exact Kd.V_mono HO_104.out (fun _ hk => ⟨hk.1,⟨hk.2.1,⟨hk.2.2.1,hk.2.2.2.1⟩⟩⟩)⟩,⟨vb BK101.out⟩,⟨vb BK122.out⟩,⟨vb BK123.out⟩,⟨vb BK128.out⟩,⟨by repeat (first|(with_reducible first|exact HB.out|apply below_alloc|apply pw_below_drewN|apply below_drew1|refine below_set ?_ GE101.out|refine below_set ?_ GE122.out|refine below_set ?_ GE123.out|refine below_set ?_ GE128.out|refine below_set ?_ GE141.out)|exact HB.out)⟩⟩
                        ·replace c120:=Bool.eq_false_iff.mpr c120
                         subst c120
                         have H1 : (calxlaw04_PitKeeps.l1 k5 t104 t108 (t108.length : Int) (wrap64 (x106_4 + 1)) l0_0 l0_1) = some r:=by rw [if_neg (show ¬ (false = true) by decide)] at H;exact H
                         clear H
                         have H:=H1
                         clear H1
                         have H':=am H
                         clear H
                         try go_wp2
                         replace HO_5:=am (Kd.V_drew HO_5.out)
                         replace HO_104:=am (Kd.V_drew HO_104.out)
                         replace HO_111:=am (Kd.V_drew HO_111.out)
                         replace BK101:=am (blk_drew BK101.out)
                         replace BK122:=am (blk_drew BK122.out)
                         replace BK123:=am (blk_drew BK123.out)
                         replace BK128:=am (blk_drew BK128.out)
                         replace BK141:=am (blk_drew BK141.out)
                         replace HB:=am (below_drew1 HB.out)
                         refine start_ (n:=6) (S:=fun w' => True) (ds:=[]) (ab 6 0) kr rfl kr trivial (fun hHeld => ?_)
                         generalize wr.drew = w127 at HO_5 HO_104 HO_111 BK101 BK122 BK123 BK128 BK141 HB hHeld ⊢
                         refine qA 0 (some 134) ?_;refine qA 1 (some 135) ?_;refine qO 2 (some 136) ?_;refine qO 3 (some 137) ?_;refine qO 4 (some 138) ?_;refine qA 5 (some 139) ?_
                         refine done_ kr ?_
                         try go_wp2
                         go_roundg k5
                         case measure => have:=HJ7.out;have:=HK2.out;have:=HJ60.out;have:=HK4.out;have:=HK5.out;omega
                         case rel => exact ⟨(wrap64 (x106_4 + 1)),ve,H',⟨by have:=HJ7.out;have:=HK2.out;have:=HJ60.out;have:=HK4.out;have:=HK5.out;omega⟩,⟨by (with_reducible repeat (first|apply Kd.V_alloc|apply Kd.V_drewN|apply Kd.V_drew));exact Kd.V_mono HO_5.out (fun _ hk => ⟨hk.1,⟨hk.2.1,⟨hk.2.2.1,hk.2.2.2.1⟩⟩⟩)⟩,⟨by (with_reducible repeat (first|apply Kd.V_alloc|apply Kd.V_drewN|apply Kd.V_drew));exact Kd.V_mono HO_104.out (fun _ hk => ⟨hk.1,⟨hk.2.1,⟨hk.2.2.1,hk.2.2.2.1⟩⟩⟩)⟩,⟨vb BK101.out⟩,⟨vb BK122.out⟩,⟨vb BK123.out⟩,⟨vb BK128.out⟩,⟨by repeat (first|(with_reducible first|exact HB.out|apply below_alloc|apply pw_below_drewN|apply below_drew1|refine below_set ?_ GE101.out|refine below_set ?_ GE122.out|refine below_set ?_ GE123.out|refine below_set ?_ GE128.out|refine below_set ?_ GE141.out)|exact HB.out)⟩⟩
                    ·rw [if_neg c73] at H
                     exact absurd H (by simp)
                   ·rw [if_neg c72] at H
                    exact absurd H (by simp)
                  ·rw [if_neg c71] at H
                   have c71b0 : decide (x106_4 < (t108.length : Int)) = false:=decide_eq_false c71
                   clear c71
                   replace H:=Option.bind_eq_some_iff.mp H
                   obtain ⟨t137,A1280,H⟩:=H
                   replace H : (some t137) = some r:=H
                   have A128:=am A1280
                   clear A1280
                   obtain rfl:=Option.some.inj H
                   go_wp2_with (first|(refine cE (some 141) Tryz.func27 #[] ?_;(with_reducible refine (calxlaw04_sanity.calls  t137 _ A128.out).mono ?_);rintro e w129 ⟨rfl,hb⟩;refine ⟨_,rfl,?_⟩;replace HO_5:=am (Kd.V_below (by (with_reducible repeat (first|apply Kd.V_alloc|apply Kd.V_drewN|apply Kd.V_drew));exact HO_5.out) hb);replace HO_104:=am (Kd.V_below (by (with_reducible repeat (first|apply Kd.V_alloc|apply Kd.V_drewN|apply Kd.V_drew));exact HO_104.out) hb);replace BK101:=am (blk_below (vb BK101.out) hb);replace BK122:=am (blk_below (vb BK122.out) hb);replace BK123:=am (blk_below (vb BK123.out) hb);replace BK128:=am (blk_below (vb BK128.out) hb);replace HB:=am (below_step (by repeat (first|(with_reducible first|exact HB.out|apply below_alloc|apply pw_below_drewN|apply below_drew1|refine below_set ?_ GE101.out|refine below_set ?_ GE122.out|refine below_set ?_ GE123.out|refine below_set ?_ GE128.out)|exact HB.out)) hb);(try clear hb);(try clear hb2);(try clear hk);(try clear hi)))
                   go_ret
                   exact ⟨by first|rfl|(simp [errW_none,errW_some] <;> rfl)|(simp only [← hji22];first|rfl|(simp [errW_none,errW_some] <;> rfl))|(simp [*,errW_none,errW_some] <;> rfl),by repeat (first|(with_reducible first|exact HB.out|apply below_alloc|apply pw_below_drewN|apply below_drew1|refine below_set ?_ GE101.out|refine below_set ?_ GE122.out|refine below_set ?_ GE123.out|refine below_set ?_ GE128.out)|exact HB.out)⟩
         ·rw [if_neg c26] at H
          have c26b0 : (t121 == 0) = false:=beq_eq_false_iff_ne.mpr c26
          have c26b1 : (t121 != 0) = true:=bne_iff_ne.mpr c26
          replace H:=Option.bind_eq_some_iff.mp H
          obtain ⟨t124,A1300,H⟩:=H
          replace H : (if t124 = true then (some (t121 == 3)) else (some false)) = some r:=H
          have A130:=am A1300
          clear A1300
          by_cases c131 : t124 = true
          ·subst c131
           have H1 : (some (t121 == 3)) = some r:=by rw [if_pos rfl] at H;exact H
           clear H
           have H:=H1
           clear H1
           obtain rfl:=Option.some.inj H
           obtain ⟨Ao132,co132,eo132⟩:=Kd.V_slice HO_5.out
           subst eo132
           have p113 : 0 ≤ ((ji22) : Int):=of_decide_eq_true va
           have q113 : (ji22) < (t104.length : Int):=of_decide_eq_true va
           obtain ⟨ad113,e113,hx113_0⟩:=Kd.at_int (Kd.V_reads' HO_5.out).2.2 (ji22) p113 q113
           cases e113
           replace p113:=eq_true p113
           replace q113:=eq_true q113
           have hcz133_0:=bd BK101.out 0
           have hcz133_1:=bd BK101.out 1
           have hfz133_0:=blk_frozen BK101.out 0
           have hfz133_1:=blk_frozen BK101.out 1
           go_wp2_with (first|((with_reducible refine gate_callee (f:=36) rfl ?_);refine goesL_ (some 62) rfl rfl Tryz.func36 kr rfl #[.agg #[.slice A0_0 l0_0.length c0_0,.slice A0_1 l0_1.length c0_1],.int .i64 (rd t104 (ji22))] rfl (by (try simp only [List.map_toArray,List.map_cons,List.map_nil]);first|done|(simp only [hji22];rfl)|rfl|(simp only [List.length_drop,List.length_take];rfl)) ?_;(with_reducible refine (pit_Fate.calls _ _ l0_0 _ _ l0_1 (rd t104 (ji22)) t114 t117 t118 t119 t120 t121 _ ?side1 ?side2 ?side3 ?side4 A25.out).mono ?_);(case side1 => repeat (first|exact (Kd.C_below HR0_0.out HB.out)|(with_reducible refine Kd.C_alloc ?_ _)|(with_reducible refine Kd.C_drewN ?_ _)|(with_reducible refine Kd.C_drew ?_)));(case side2 => exact HC0_0.out);(case side3 => repeat (first|exact (Kd.C_below HR0_1.out HB.out)|(with_reducible refine Kd.C_alloc ?_ _)|(with_reducible refine Kd.C_drewN ?_ _)|(with_reducible refine Kd.C_drew ?_)));(case side4 => exact HC0_1.out);rintro e w134 ⟨v115,rfl,ho0,hb⟩;refine ⟨_,rfl,?_⟩;have HO116:=am (Kd.V_lower (Kd.V_mono (ok':=fun k_ => k_ ≠ gb101) ho0 (fun k_ hk_ => (Kd.freshB (g:=gb101) (o:=.cells #[.slice A0_0 l0_0.length c0_0,.slice A0_1 l0_1.length c0_1] 32 (0,0)) (vb BK101.out) k_ hk_))) (below_size (v1 HB.out GE101.out)));replace HO_5:=am (Kd.V_below (by (with_reducible repeat (first|apply Kd.V_alloc|apply Kd.V_drewN|apply Kd.V_drew));exact HO_5.out) hb);replace HO_7:=am (Kd.V_below (by (with_reducible repeat (first|apply Kd.V_alloc|apply Kd.V_drewN|apply Kd.V_drew));exact HO_7.out) hb);replace BK101:=am (blk_below (vb BK101.out) hb);replace HB:=am (below_step (v1 HB.out GE101.out) hb);(try clear hb);(try clear hb2);(try clear hk);(try clear hi);(try clear ho0))|((with_reducible refine gate_dst (N:=11) rfl ?_);(try (refine gate_guard (by rfl) ?_;dsimp only));refine box_event ?hg (N:=11) ?hd (cs:=#[.int .i64 0,.int .i64 0]) (t:=43) ?hr ?_;(case hd => rfl);(case hg => rfl);(case hr => first|(go_simp;done)|(go_simp;rfl));intro gb122 hg w135 hbox hb;have BK122:=am (hbox);have GW122:=am (lg hg (below_size (v1 HB.out GE101.out)) : w.heap.size ≤ gb122);have GE122:=GW122;have NB101_122:=am (nl hg (vb BK101.out));have NB122_101:=am ((nl hg (vb BK101.out)).symm);replace HO_5:=am (Kd.V_below (Kd.V_elderB (by (with_reducible repeat (first|apply Kd.V_alloc|apply Kd.V_drewN|apply Kd.V_drew));exact HO_5.out) gb122 (Nat.le_of_eq hg.symm)) hb);replace HO_7:=am (Kd.V_below (Kd.V_elderB (by (with_reducible repeat (first|apply Kd.V_alloc|apply Kd.V_drewN|apply Kd.V_drew));exact HO_7.out) gb122 (Nat.le_of_eq hg.symm)) hb);replace HO116:=am (Kd.V_below (Kd.V_elderB (by (with_reducible repeat (first|apply Kd.V_alloc|apply Kd.V_drewN|apply Kd.V_drew));exact HO116.out) gb122 (Nat.le_of_eq hg.symm)) hb);replace BK101:=am (blk_below (vb BK101.out) hb);replace HB:=am (below_step (v1 HB.out GE101.out) hb);clear hb hbox hg)|((with_reducible refine gate_dst (N:=12) rfl ?_);(try (refine gate_guard (by rfl) ?_;dsimp only));refine box_event ?hg (N:=12) ?hd (cs:=#[.int .i64 0,.int .i64 0]) (t:=43) ?hr ?_;(case hd => rfl);(case hg => rfl);(case hr => first|(go_simp;done)|(go_simp;rfl));intro gb123 hg w136 hbox hb;have BK123:=am (hbox);have GW123:=am (lg hg (below_size (v2 HB.out GE101.out GE122.out)) : w.heap.size ≤ gb123);have GE123:=GW123;have NB101_123:=am (nl hg (vb BK101.out));have NB123_101:=am ((nl hg (vb BK101.out)).symm);have NB122_123:=am (nl hg (vb BK122.out));have NB123_122:=am ((nl hg (vb BK122.out)).symm);replace HO_5:=am (Kd.V_below (Kd.V_elderB (by (with_reducible repeat (first|apply Kd.V_alloc|apply Kd.V_drewN|apply Kd.V_drew));exact HO_5.out) gb123 (Nat.le_of_eq hg.symm)) hb);replace HO_7:=am (Kd.V_below (Kd.V_elderB (by (with_reducible repeat (first|apply Kd.V_alloc|apply Kd.V_drewN|apply Kd.V_drew));exact HO_7.out) gb123 (Nat.le_of_eq hg.symm)) hb);replace HO116:=am (Kd.V_below (Kd.V_elderB (by (with_reducible repeat (first|apply Kd.V_alloc|apply Kd.V_drewN|apply Kd.V_drew));exact HO116.out) gb123 (Nat.le_of_eq hg.symm)) hb);replace BK101:=am (blk_below (vb BK101.out) hb);replace BK122:=am (blk_below (vb BK122.out) hb);replace HB:=am (below_step (v2 HB.out GE101.out GE122.out) hb);clear hb hbox hg;have hnb137:=NB122_101.out;have hnc137:=NB101_122.out;have hnb138:=NB122_123.out;have hnc138:=NB123_122.out;have hcz139_0:=bd BK122.out 0;have hcz139_1:=bd BK122.out 1;have hfz139_0:=blk_frozen BK122.out 0;have hfz139_1:=blk_frozen BK122.out 1;have hnb140:=NB123_101.out;have hnc140:=NB101_123.out;have hcz141_0:=bd BK123.out 0;have hcz141_1:=bd BK123.out 1;have hfz141_0:=blk_frozen BK123.out 0;have hfz141_1:=blk_frozen BK123.out 1)|(refine cE (some 69) Tryz.func27 #[] ?_;(with_reducible refine (calxlaw04_sanity.calls  true _ A130.out).mono ?_);rintro e w142 ⟨rfl,hb⟩;refine ⟨_,rfl,?_⟩;replace HO_5:=am (Kd.V_below (by (with_reducible repeat (first|apply Kd.V_alloc|apply Kd.V_drewN|apply Kd.V_drew));exact (Kd.V_mono (Kd.V_mono (Kd.V_far (p:=⟨gb123,1,none⟩) (Kd.V_far (p:=⟨gb123,0,none⟩) (Kd.V_far (p:=⟨gb122,1,none⟩) (Kd.V_far (p:=⟨gb122,0,none⟩) (Kd.V_mono (Kd.V_mono HO_5.out (fun k_ hk => (⟨hk,hk.1.2⟩ : _ ∧ k_ ≠ gb122))) (fun k_ hk => (⟨hk,hk.1.2⟩ : _ ∧ k_ ≠ gb123))) (fun _ hk => hk.1.2) (.int .i64 t117)) (fun _ hk => hk.1.2) (.int .i64 t118)) (fun _ hk => hk.2) (.int .i64 t119)) (fun _ hk => hk.2) (.int .i64 t120)) (fun _ h_ => h_.1)) (fun _ h_ => h_.1))) hb);replace HO_7:=am (Kd.V_below (by (with_reducible repeat (first|apply Kd.V_alloc|apply Kd.V_drewN|apply Kd.V_drew));exact (Kd.V_mono (Kd.V_mono (Kd.V_far (p:=⟨gb123,1,none⟩) (Kd.V_far (p:=⟨gb123,0,none⟩) (Kd.V_far (p:=⟨gb122,1,none⟩) (Kd.V_far (p:=⟨gb122,0,none⟩) (Kd.V_mono (Kd.V_mono HO_7.out (fun k_ hk => (⟨hk,hk.1.2⟩ : _ ∧ k_ ≠ gb122))) (fun k_ hk => (⟨hk,hk.1.2⟩ : _ ∧ k_ ≠ gb123))) (fun _ hk => hk.1.2) (.int .i64 t117)) (fun _ hk => hk.1.2) (.int .i64 t118)) (fun _ hk => hk.2) (.int .i64 t119)) (fun _ hk => hk.2) (.int .i64 t120)) (fun _ h_ => h_.1)) (fun _ h_ => h_.1))) hb);replace HO116:=am (Kd.V_below (by (with_reducible repeat (first|apply Kd.V_alloc|apply Kd.V_drewN|apply Kd.V_drew));exact (Kd.V_mono (Kd.V_mono (Kd.V_far (p:=⟨gb123,1,none⟩) (Kd.V_far (p:=⟨gb123,0,none⟩) (Kd.V_far (p:=⟨gb122,1,none⟩) (Kd.V_far (p:=⟨gb122,0,none⟩) (Kd.V_mono (Kd.V_mono HO116.out (fun k_ hk => (⟨hk,hk.1.2⟩ : _ ∧ k_ ≠ gb122))) (fun k_ hk => (⟨hk,hk.1.2⟩ : _ ∧ k_ ≠ gb123))) (fun _ hk => hk.1.2) (.int .i64 t117)) (fun _ hk => hk.1.2) (.int .i64 t118)) (fun _ hk => hk.2) (.int .i64 t119)) (fun _ hk => hk.2) (.int .i64 t120)) (fun _ h_ => h_.1)) (fun _ h_ => h_.1))) hb);replace BK101:=am (blk_below (g:=gb101) (o:=.cells #[.slice A0_0 l0_0.length c0_0,.slice A0_1 l0_1.length c0_1] 32 (0,0)) (by (with_reducible repeat (first|refine blk_drewN ?_ _|refine blk_drew ?_|refine blk_alloc ?_ _));refine blk_far ?_ NB101_123.out _;(with_reducible repeat (first|refine blk_drewN ?_ _|refine blk_drew ?_|refine blk_alloc ?_ _));refine blk_far ?_ NB101_123.out _;(with_reducible repeat (first|refine blk_drewN ?_ _|refine blk_drew ?_|refine blk_alloc ?_ _));refine blk_far ?_ NB101_122.out _;(with_reducible repeat (first|refine blk_drewN ?_ _|refine blk_drew ?_|refine blk_alloc ?_ _));refine blk_far ?_ NB101_122.out _;(with_reducible repeat (first|refine blk_drewN ?_ _|refine blk_drew ?_|refine blk_alloc ?_ _));exact BK101.out) hb);replace BK122:=am (blk_below (g:=gb122) (o:=.cells #[.int .i64 t117,.int .i64 t118] 43 (0,0)) (by (with_reducible repeat (first|refine blk_drewN ?_ _|refine blk_drew ?_|refine blk_alloc ?_ _));refine blk_far ?_ NB122_123.out _;(with_reducible repeat (first|refine blk_drewN ?_ _|refine blk_drew ?_|refine blk_alloc ?_ _));refine blk_far ?_ NB122_123.out _;(with_reducible repeat (first|refine blk_drewN ?_ _|refine blk_drew ?_|refine blk_alloc ?_ _));refine blk_put (cs:=#[.int .i64 t117,.int .i64 0]) ?_ 1 _ rfl;(with_reducible repeat (first|refine blk_drewN ?_ _|refine blk_drew ?_|refine blk_alloc ?_ _));refine blk_put (cs:=#[.int .i64 0,.int .i64 0]) ?_ 0 _ rfl;(with_reducible repeat (first|refine blk_drewN ?_ _|refine blk_drew ?_|refine blk_alloc ?_ _));exact BK122.out) hb);replace BK123:=am (blk_below (g:=gb123) (o:=.cells #[.int .i64 t119,.int .i64 t120] 43 (0,0)) (by (with_reducible repeat (first|refine blk_drewN ?_ _|refine blk_drew ?_|refine blk_alloc ?_ _));refine blk_put (cs:=#[.int .i64 t119,.int .i64 0]) ?_ 1 _ rfl;(with_reducible repeat (first|refine blk_drewN ?_ _|refine blk_drew ?_|refine blk_alloc ?_ _));refine blk_put (cs:=#[.int .i64 0,.int .i64 0]) ?_ 0 _ rfl;(with_reducible repeat (first|refine blk_drewN ?_ _|refine blk_drew ?_|refine blk_alloc ?_ _));refine blk_far ?_ NB123_122.out _;(with_reducible repeat (first|refine blk_drewN ?_ _|refine blk_drew ?_|refine blk_alloc ?_ _));refine blk_far ?_ NB123_122.out _;(with_reducible repeat (first|refine blk_drewN ?_ _|refine blk_drew ?_|refine blk_alloc ?_ _));exact BK123.out) hb);replace HB:=am (below_step (v3 HB.out GE101.out GE122.out GE123.out) hb);(try clear hb);(try clear hb2);(try clear hk);(try clear hi)))
           go_ret
           exact ⟨by first|rfl|(simp [errW_none,errW_some] <;> rfl)|(simp only [← hji22];first|rfl|(simp [errW_none,errW_some] <;> rfl))|(simp [*,errW_none,errW_some] <;> rfl),v3 HB.out GE101.out GE122.out GE123.out⟩
          ·replace c131:=Bool.eq_false_iff.mpr c131
           subst c131
           have H1 : (some false) = some r:=by rw [if_neg (show ¬ (false = true) by decide)] at H;exact H
           clear H
           have H:=H1
           clear H1
           obtain rfl:=Option.some.inj H
           cases hr.out
        ·rw [if_neg c24] at H
         exact absurd H (by simp)
       ·rw [if_neg c23] at H
        exact absurd H (by simp)
  ·rw [if_neg c7] at H
   have c7b0 : (t107 == t111) = false:=beq_eq_false_iff_ne.mpr c7
   have c7b1 : (t107 != t111) = true:=bne_iff_ne.mpr c7
   obtain rfl:=Option.some.inj H
   cases hr.out
 ·replace c4:=Bool.eq_false_iff.mpr c4
  subst c4
  have H1 : ((calxlaw04_sanity.f).bind fun t103 => (some t103)) = some r:=by rw [if_neg (show ¬ (false = true) by decide)] at H;exact H
  clear H
  have H:=H1
  clear H1
  replace H:=Option.bind_eq_some_iff.mp H
  obtain ⟨t103,A1610,H⟩:=H
  replace H : (some t103) = some r:=H
  have A161:=am A1610
  clear A1610
  obtain rfl:=Option.some.inj H
  go_enter Tryz.func9,Tryz.ntmps9
  go_wp2_with (first|((with_reducible refine gate_dst (N:=2) rfl ?_);(try (refine gate_guard (by rfl) ?_;dsimp only));refine box_event ?hg (N:=2) ?hd (cs:=#[.slice A0_0 l0_0.length c0_0,.slice A0_1 l0_1.length c0_1]) (t:=32) ?hr ?_;(case hd => rfl);(case hg => rfl);(case hr => first|(go_simp;done)|(go_simp;rfl));intro gb101 hg w162 hbox hb;have BK101:=am (hbox);have GW101:=am (lg hg (below_size (v0 HB.out)) : w.heap.size ≤ gb101);have GE101:=GW101;replace HB:=am (below_step (v0 HB.out) hb);clear hb hbox hg;have hcz163_0:=bd BK101.out 0;have hcz163_1:=bd BK101.out 1;have hfz163_0:=blk_frozen BK101.out 0;have hfz163_1:=blk_frozen BK101.out 1)|(refine cE (some 27) Tryz.func26 #[.agg #[.slice A0_0 l0_0.length c0_0,.slice A0_1 l0_1.length c0_1]] ?_;(with_reducible refine (calxlaw04_few.calls _ _ l0_0 _ _ l0_1 false _ ?side1 ?side2 ?side3 ?side4 A3.out).mono ?_);(case side1 => repeat (first|exact (Kd.C_below HR0_0.out HB.out)|(with_reducible refine Kd.C_alloc ?_ _)|(with_reducible refine Kd.C_drewN ?_ _)|(with_reducible refine Kd.C_drew ?_)));(case side2 => exact HC0_0.out);(case side3 => repeat (first|exact (Kd.C_below HR0_1.out HB.out)|(with_reducible refine Kd.C_alloc ?_ _)|(with_reducible refine Kd.C_drewN ?_ _)|(with_reducible refine Kd.C_drew ?_)));(case side4 => exact HC0_1.out);rintro e w164 ⟨rfl,hb⟩;refine ⟨_,rfl,?_⟩;replace BK101:=am (blk_below (vb BK101.out) hb);replace HB:=am (below_step (v1 HB.out GE101.out) hb);(try clear hb);(try clear hb2);(try clear hk);(try clear hi))|(refine cE (some 29) Tryz.func27 #[] ?_;(with_reducible refine (calxlaw04_sanity.calls  t103 _ A161.out).mono ?_);rintro e w165 ⟨rfl,hb⟩;refine ⟨_,rfl,?_⟩;replace BK101:=am (blk_below (vb BK101.out) hb);replace HB:=am (below_step (v1 HB.out GE101.out) hb);(try clear hb);(try clear hb2);(try clear hk);(try clear hi)))
  go_ret
  exact ⟨vf,v1 HB.out GE101.out⟩
end
theorem share_valid {n : Nat} {pours : List Int} {b : S167} (h : BarrowOk n pours b) (pour : Int) : validP (shareP b pour) = true:=by
 obtain ⟨h1,h2,h3⟩:=partP_ok h pour
 have h4:=h.lo
 have h5:=h.hi
 have q:=ratioP_le (mul_nonneg_ h1.1 (show (0 : Int) ≤ 1 by omega)) (mul_pos_ h1.2.1 h4)
 have q2:=mul_bound (show 0 ≤ (partP b pour).f1 by have:=h1.2.1;omega) (show 0 ≤ b.f2 by omega) h3 h5
 exact validP_of (timesP_ok h1 (by omega) h4) (by show (ratioP _ _).f0 ≤ _;omega) (by show (ratioP _ _).f1 ≤ _;omega)
theorem share_val {n : Nat} {pours : List Int} {b : S167} (h : BarrowOk n pours b) (hp : pours.Nodup) (pour : Int) : val (shareP b pour) = sumOf pour b.f3 / (b.f2 : Rat):=by
 have h4:=cast_ne h.lo
 rw [show shareP b pour = timesP (partP b pour) 1 b.f2 from rfl,val_timesP (partP_ok h pour).1 (by omega) h.lo,partP_val h hp]
 simp only [Rat.intCast_one]
 grind
theorem shareE_ok {rooms : List Int} {stirs : List S84} {Y : Yd} (hp : playedP rooms stirs stirs.length = .ok Y) {b : S167} (hf : Y.barrows.find? (isId b.f0) = some b) (hb : b ∈ Y.barrows) {q : Int} (hq : q ∈ Y.pours) :
  shareE (playedP rooms stirs stirs.length) b.f0 q = (shareP b q,0):=by
 rw [hp]
 unfold shareE
 simp only [hf]
 rw [if_pos hq]
 unfold resultP
 rw [if_pos (share_valid ((played_wf hp).barrows b hb) q)]
theorem find_self : ∀ {l : List S167},(l.map (·.f0)).Nodup → ∀ b ∈ l,l.find? (isId b.f0) = some b
|[],_,b,h => by simp at h
|x :: r,hn,b,h => by
  obtain ⟨h1,h2⟩:=List.nodup_cons.1 (by simpa using hn : (x.f0 :: r.map (·.f0)).Nodup)
  rw [List.find?_cons]
  rcases List.mem_cons.1 h with rfl|h
  ·simp [isId]
  ·have hne : x.f0 ≠ b.f0:=fun e => h1 (by rw [e];exact List.mem_map_of_mem h)
   rw [show isId b.f0 x = false from decide_eq_false hne]
   exact find_self h2 b h
theorem sumPours_append (f : Int → Rat) (a b : List Int) : sumPours f (a ++ b) = sumPours f a + sumPours f b:=by
 induction a with
|nil => simp only [List.nil_append,sumPours];grind
|cons x r ih => simp only [List.cons_append,sumPours,ih];grind
theorem rd_nat {l : List Int} {j : Nat} (h : j < l.length) : rd l (j : Int) = l[j]:=by
 unfold rd;rw [Int.toNat_natCast,List.getD_eq_getElem?_getD,List.getElem?_eq_getElem h];rfl
theorem sumPours_div (f : Int → Rat) (c : Rat) : ∀ l : List Int,sumPours (fun i => f i / c) l = sumPours f l / c
|[] => by simp only [sumPours,Rat.div_def];grind
|x :: r => by simp only [sumPours];rw [sumPours_div f c r];simp only [Rat.div_def];grind
theorem keeps_l2 {lA : List Int} {lB : List S84} {Y : Yd} (hp : playedP lA lB lB.length = .ok Y) {b : S167} (hb : b ∈ Y.barrows) (barrows : List Int) (i : Int) (D0 : Nat)
  (hk : ∀ d,D0 ≤ d → calxlaw04_PitKeeps.l1 (FU + 1 + d) Y.pours barrows (barrows.length : Int) (wrap64 (i + 1)) lA lB = some true) :
  ∀ (m d j : Nat) (acc : S43) (ok : Bool),j + m = Y.pours.length → (ok = true → Rok acc ∧ val acc = sumPours (fun q => val (shareP b q)) (Y.pours.take j)) → D0 + m + 1 ≤ d →
   calxlaw04_PitKeeps.l2 (FU + 1 + d) Y.pours b.f0 ok barrows (barrows.length : Int) i Y.pours (Y.pours.length : Int) (j : Int) lA lB acc.f0 acc.f1 = some true
|m,0,j,acc,ok,_,_,hd => by omega
|0,d + 1,j,acc,ok,hj,ha,hd => by
  have hw:=played_wf hp
  have hB:=hw.barrows b hb
  show calxlaw04_PitKeeps.l2 ((FU + 1 + d) + 1) _ _ _ _ _ _ _ _ _ _ _ _ _ = some true
  simp only [calxlaw04_PitKeeps.l2]
  rw [if_neg (by omega),hk d (by omega)]
  cases ok
  ·rfl
  ·obtain ⟨a1,a2⟩:=ha rfl
   rw [List.take_of_length_le (by omega)] at a2
   have e : val acc = 1:=by
    rw [a2,sumPours_congr (g:=fun q => sumOf q b.f3 / (b.f2 : Rat)) fun q _ => share_val hB hw.pours q,sumPours_div,sumPours_all hw.pours _ fun x hx => (hB.par.parts x hx).2.2,hB.par.all]
    have:=cast_ne hB.lo
    rw [Rat.div_def]
    exact Rat.mul_inv_cancel _ this
   have e1 : acc = wholeP 1:=val_inj a1 (wholeP_ok (by omega)) (by rw [e,val_wholeP];rfl)
   subst e1
   rfl
|m + 1,d + 1,j,acc,ok,hj,ha,hd => by
  have hw:=played_wf hp
  have hB:=hw.barrows b hb
  have hlen:=hw.npours
  have hl60:=(played_ok hp).2.1
  have hjl : j < Y.pours.length:=by omega
  show calxlaw04_PitKeeps.l2 ((FU + 1 + d) + 1) _ _ _ _ _ _ _ _ _ _ _ _ _ = some true
  simp only [calxlaw04_PitKeeps.l2]
  rw [if_pos (by omega),if_pos (by omega),if_pos (by omega)]
  unfold pit_Share.f
  rw [rd_nat hjl,shareE_ok hp (find_self hw.bnodup b hb) hb (List.getElem_mem hjl)]
  simp only [Option.bind_some,if_true]
  rw [sum_at]
  simp only [Option.bind_some]
  rw [wrap_in (by omega) (by omega),show ((j : Int) + 1) = ((j + 1 : Nat) : Int) by omega]
  refine keeps_l2 hp hb barrows i D0 hk m d (j + 1) _ _ (by omega) (fun h => ?_) (by omega)
  obtain ⟨h1,h2,h3,h4,h5⟩:=SumP_ok h
  refine ⟨h4,?_⟩
  rw [h5,(ha h1).2,List.take_succ_eq_append_getElem hjl,sumPours_append]
  simp only [sumPours]
  grind
theorem keeps_l1 {lA : List Int} {lB : List S84} {Y : Yd} (hp : playedP lA lB lB.length = .ok Y) (hs : calxlaw04_sanity.f = some true) :
  ∀ (m d j : Nat),j + m = Y.barrows.length → m * (Y.pours.length + 3) + 1 ≤ d →
   calxlaw04_PitKeeps.l1 (FU + 1 + d) Y.pours (Y.barrows.map (·.f0)) ((Y.barrows.map (·.f0)).length : Int) (j : Int) lA lB = some true
|m,0,j,_,hd => by omega
|0,d + 1,j,hj,hd => by
  show calxlaw04_PitKeeps.l1 ((FU + 1 + d) + 1) _ _ _ _ _ _ = some true
  simp only [calxlaw04_PitKeeps.l1]
  rw [if_neg (by rw [List.length_map];omega),hs]
  rfl
|m + 1,d + 1,j,hj,hd => by
  have hw:=played_wf hp
  have hn:=hw.nbarrows
  have hl60:=(played_ok hp).2.1
  have hjl : j < Y.barrows.length:=by omega
  have hjm : j < (Y.barrows.map (·.f0)).length:=by rw [List.length_map];exact hjl
  have hms : (m + 1) * (Y.pours.length + 3) = m * (Y.pours.length + 3) + (Y.pours.length + 3):=Nat.succ_mul _ _
  show calxlaw04_PitKeeps.l1 ((FU + 1 + d) + 1) _ _ _ _ _ _ = some true
  simp only [calxlaw04_PitKeeps.l1]
  rw [if_pos (by omega),if_pos (by omega),if_pos (by omega),rd_nat hjm,List.getElem_map]
  unfold calxlaw04_frac.f
  simp only [Option.bind_some]
  refine keeps_l2 hp (List.getElem_mem hjl) _ (j : Int) (m * (Y.pours.length + 3) + 1) (fun d' hd' => ?_) Y.pours.length d 0 (wholeP 0) true (by omega) (fun _ => ⟨wholeP_ok (Int.le_refl 0),by rw [val_wholeP];rfl⟩) (by omega)
  rw [wrap_in (by omega) (by omega),show ((j : Int) + 1) = ((j + 1 : Nat) : Int) by omega]
  exact keeps_l1 hp hs m d' (j + 1) (by omega) hd'
theorem keeps_l0 {lA : List Int} {lB : List S84} {Y : Yd} (hp : playedP lA lB lB.length = .ok Y) {id : Int} (barrows : List Int) (went : List S89) (A : Rat) (hA : A + sumV went = (firstP lB id : Rat)) (h0 : 0 ≤ firstP lB id) (hlw : went.length ≤ 60) (D0 : Nat)
  (hk : ∀ d,D0 ≤ d → calxlaw04_PitKeeps.j2 (FU + 1 + d) Y.pours barrows false lA lB = some true) :
  ∀ (m d j : Nat) (acc : S43) (ok : Bool),j + m = went.length → (ok = true → Rok acc ∧ val acc = A + sumV (went.take j)) → D0 + m + 1 + 60 ≤ d →
   calxlaw04_PitKeeps.l0 (FU + 1 + d) Y.pours barrows id ok went (went.length : Int) (j : Int) lA lB acc.f0 acc.f1 = some true
|m,0,j,acc,ok,_,_,hd => by omega
|0,d + 1,j,acc,ok,hj,ha,hd => by
  have hl60:=(played_ok hp).2.1
  show calxlaw04_PitKeeps.l0 ((FU + 1 + d) + 1) _ _ _ _ _ _ _ _ _ _ _ = some true
  simp only [calxlaw04_PitKeeps.l0]
  rw [if_neg (by omega),poured_at lA lB id (by omega) (by omega),hk d (by omega)]
  unfold calxlaw04_frac.f
  cases ok
  ·rfl
  ·obtain ⟨a1,a2⟩:=ha rfl
   rw [List.take_of_length_le (by omega),hA] at a2
   have e1 : acc = wholeP (firstP lB id):=val_inj a1 (wholeP_ok h0) (by rw [a2,val_wholeP])
   subst e1
   simp only [Option.bind_some,if_true,wholeP,beq_self_eq_true,Bool.not_true,Bool.or_self]
   exact hk d (by omega)
|m + 1,d + 1,j,acc,ok,hj,ha,hd => by
  have hjl : j < went.length:=by omega
  show calxlaw04_PitKeeps.l0 ((FU + 1 + d) + 1) _ _ _ _ _ _ _ _ _ _ _ = some true
  simp only [calxlaw04_PitKeeps.l0]
  have hrd : rd_T89 went (j : Int) = went[j]:=by unfold rd_T89;rw [Int.toNat_natCast,List.getD_eq_getElem?_getD,List.getElem?_eq_getElem hjl];rfl
  rw [if_pos (by omega),if_pos (by omega),if_pos (by omega),hrd,sum_at]
  simp only [Option.bind_some]
  rw [wrap_in (by omega) (by omega),show ((j : Int) + 1) = ((j + 1 : Nat) : Int) by omega]
  refine keeps_l0 hp barrows went A hA h0 hlw D0 hk m d (j + 1) _ _ (by omega) (fun h => ?_) (by omega)
  obtain ⟨h1,h2,h3,h4,h5⟩:=SumP_ok h
  refine ⟨h4,?_⟩
  rw [h5,(ha h1).2,List.take_succ_eq_append_getElem hjl,sumV_append,sumV_one]
  grind
theorem firstP_nonneg {l : List S84} {id : Int} : ∀ {n : Nat} {Y Y' : Yd} {day : Int},0 ≤ day → goP Y day n l = .ok Y' → 0 ≤ firstP l id:=by
 induction l with
|nil => intro n Y Y' day _ _;exact Int.le_refl 0
|cons s r ih =>
  intro n Y Y' day hd hg
  simp only [goP] at hg
  by_cases c : formedP Y.rooms.length s day = true
  ·rw [if_pos c] at hg
   obtain ⟨hf,_⟩:=formed_of hd c
   cases hs : stepP Y s n with
  |error e => rw [hs] at hg;cases hg
  |ok Y1 =>
    rw [hs] at hg
    simp only at hg
    have hg' : goP Y1 s.f2 ((n + 1 : Nat) : Int) r = .ok Y':=hg
    simp only [firstP]
    split
    ·rename_i q
     have:=(hf.amount (by omega)).1
     omega
    ·exact ih hf.day.1 hg'
  ·rw [if_neg c] at hg;cases hg
theorem purePitKeeps (lA : List Int) (_ : lA.length ≤ 9223372036854775807) (_ : ∀ x ∈ lA,W64 x) (lB : List S84) (_ : lB.length ≤ 9223372036854775807) (_ : ∀ x ∈ lB,Wf6 x) (a1 : Int) (w1 : (Lit.int .u8 a1).wf = true) : ∃ k,calxlaw04_PitKeeps.f k lA lB a1 = some true:=by
 have ha : 0 ≤ a1 ∧ a1 ≤ 255:=by
  have h1 : IntKind.u8.min = 0:=rfl
  have h2 : IntKind.u8.max = 255:=rfl
  simp only [Lit.wf,Bool.and_eq_true,decide_eq_true_eq] at w1
  omega
 have hs : calxlaw04_sanity.f = some true:=rfl
 have hf : ∃ t,calxlaw04_few.f lA lB = some t:=by unfold calxlaw04_few.f;split;(· split;exact ⟨_,rfl⟩;split <;> exact ⟨_,rfl⟩);exact ⟨_,rfl⟩
 obtain ⟨t,ht⟩:=hf
 obtain ⟨D,hD⟩ : ∃ D : Nat,D = 4999:=⟨_,rfl⟩
 refine ⟨(FU + 1 + D) + 1,?_⟩
 unfold calxlaw04_PitKeeps.f pit_Pours.f pit_Barrows.f
 rw [ht,hs]
 simp only [Option.bind_some]
 cases t
 ·rfl
 rw [if_pos rfl]
 have hj : ∀ (k : Nat) (pours barrows : List Int),calxlaw04_PitKeeps.j0 (k + 1) a1 pours barrows true lA lB = some true:=by
  intro k pours barrows
  simp only [calxlaw04_PitKeeps.j0,if_true,hs,Option.bind_some]
 cases hp : playedP lA lB lB.length with
|error x =>
  have hx:=playedP_code hp
  simp only [idsE,if_true]
  show (if x.1 = 0 then calxlaw04_PitKeeps.j0 _ a1 [] [] _ lA lB else calxlaw04_PitKeeps.j0 _ a1 [] [] true lA lB) = some true
  rw [if_neg hx]
  exact hj _ _ _
|ok Y =>
  simp only [idsE,if_true]
  have hw:=played_wf hp
  have hl60:=(played_ok hp).2.1
  by_cases hz : (Y.pours.length : Int) = 0
  ·rw [show ((Y.pours.length : Int) == 0) = true from beq_iff_eq.2 hz,hj]
  ·rw [show ((Y.pours.length : Int) == 0) = false from beq_eq_false_iff_ne.2 hz]
   simp only [calxlaw04_PitKeeps.j0]
   have hn:=hw.npours
   have hnb:=hw.nbarrows
   rw [wrap_in (by omega) (by omega),if_neg (by simp),if_neg hz,Int.tmod_eq_emod_of_nonneg ha.1]
   have g1:=Int.emod_nonneg a1 hz
   have g2:=Int.emod_lt_of_pos a1 (show 0 < (Y.pours.length : Int) by omega)
   rw [if_pos g1,if_pos g2]
   obtain ⟨j,hj2⟩ : ∃ j : Nat,a1 % (Y.pours.length : Int) = (j : Int):=⟨_,(Int.toNat_of_nonneg g1).symm⟩
   rw [hj2] at g2 ⊢
   have hjl : j < Y.pours.length:=by omega
   rw [rd_nat hjl]
   have hm : Y.pours[j] ∈ Y.pours:=List.getElem_mem hjl
   obtain ⟨id,hid⟩ : ∃ id,id = Y.pours[j]:=⟨_,rfl⟩
   rw [← hid] at hm ⊢
   unfold pit_Fate.f
   rw [hp]
   unfold fateE
   simp only [if_pos hm,Option.bind_some]
   cases hl : leftP Y id with
  |none => simp only [Option.isSome_none,Bool.false_eq_true,if_false,hs,Option.bind_some,if_true];rfl
  |some left =>
    cases ho : lostP Y id with
   |none => simp only [Option.isSome_none,Option.isSome_some,Bool.false_eq_true,if_false,if_true,hs,Option.bind_some];rfl
   |some lost =>
     simp only [Option.isSome_some,if_true,Option.getD_some]
     obtain ⟨v1,v2⟩:=leftP_val hl
     obtain ⟨o1,o2⟩:=lostP_val ho
     obtain ⟨u1,u2⟩:=wentP_val hw.pours id Y.barrows hw.barrows
     have hkeep:=played_keeps hp id
     have hlw:=wentP_len Y.barrows id
     rw [sum_at]
     simp only [Option.bind_some]
     have hnn : 0 ≤ firstP lB id:=by
      have h:=hp
      obtain ⟨c1,c2,_,_⟩:=played_ok hp
      unfold playedP at h
      rw [if_pos c1,if_pos c2,List.take_length] at h
      exact firstP_nonneg (n:=0) (Int.le_refl 0) h
     refine keeps_l0 hp (Y.barrows.map (·.f0)) (wentP Y.barrows id) (val left + val lost) ?_ hnn (by omega) 4000 (fun d hd => ?_) (wentP Y.barrows id).length D 0 _ _ (by omega) (fun h => ?_) (by omega)
     ·rw [← hkeep,u2,v2,o2];rfl
     ·obtain ⟨d,rfl⟩ : ∃ d',d = d' + 1:=⟨d - 1,by omega⟩
      show calxlaw04_PitKeeps.j2 ((FU + 1 + d) + 1) _ _ _ _ _ = some true
      simp only [calxlaw04_PitKeeps.j2,Bool.false_eq_true,if_false]
      refine keeps_l1 hp hs Y.barrows.length d 0 (by omega) ?_
      have : Y.barrows.length * (Y.pours.length + 3) ≤ 60 * 63:=Nat.mul_le_mul (by omega) (by omega)
      omega
     ·obtain ⟨h1,h2,h3,h4,h5⟩:=SumP_ok h
      refine ⟨h4,?_⟩
      rw [h5]
      simp only [List.take_zero,sumV]
      grind
end Go.Proofs.YtjjfpmapjjemcaaGreat.B
end
