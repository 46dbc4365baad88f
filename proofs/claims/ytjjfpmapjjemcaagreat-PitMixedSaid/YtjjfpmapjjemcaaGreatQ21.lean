import Derived.Test.YtjjfpmapjjemcaaGreatQ16
import Derived.Test.YtjjfpmapjjemcaaGreatQ20
import Derived.Test.YtjjfpmapjjemcaaGreatQ6
set_option linter.unusedVariables false
set_option linter.unusedSimpArgs false
section
namespace Go.Proofs.YtjjfpmapjjemcaaGreat.B
open Go.RowKit Go.Proofs.YtjjfpmapjjemcaaGreatW.PrintWords Go.Proofs.YtjjfpmapjjemcaaGreatW.PrintLast Go.Proofs.YtjjfpmapjjemcaaGreatW.PrintMore
attribute [local go_sem] max2_int min2_int max_two min_two max_three min_three max_four min_four
section
attribute [local go_sem high] eqA43
mutual
def calxlaw04_PitMixed.j0 : Nat → Int → Int → Int → Bool → List Int → List (S84) → Option (Bool)
|0,_,_,_,_,_,_ => none
|k + 1,x1,x2,x3,x44,x102000,x102001 => if x44 = true then ((calxlaw04_sanity.f).bind fun t103 => (some t103)) else (if (x102000.length : Int) = 0 then (none) else ((pit_Free.f x102000 x102001 (Int.tmod (wrap64 (x1)) (x102000.length : Int)) (x102001.length : Int)).bind fun bt104 => (if bt104.2 = 0 then (if 0 ≤ (Int.tmod (wrap64 (x1)) (x102000.length : Int)) then (if (Int.tmod (wrap64 (x1)) (x102000.length : Int)) < (x102000.length : Int) then (if (wrap64 ((rd x102000 (Int.tmod (wrap64 (x1)) (x102000.length : Int))) - bt104.1)) < 2 then ((calxlaw04_sanity.f).bind fun t108 => (some t108)) else (if (mn 1000 (wrap64 ((wrap64 ((rd x102000 (Int.tmod (wrap64 (x1)) (x102000.length : Int))) - bt104.1)) - 1))) = 0 then (none) else (if (mn 1000 (wrap64 ((wrap64 ((rd x102000 (Int.tmod (wrap64 (x1)) (x102000.length : Int))) - bt104.1)) - (wrap64 (1 + (Int.tmod (wrap64 (x2)) (mn 1000 (wrap64 ((wrap64 ((rd x102000 (Int.tmod (wrap64 (x1)) (x102000.length : Int))) - bt104.1)) - 1))))))))) = 0 then (none) else ((calxlaw04_fresh.f k x102000 x102001 0).bind fun t109 => ((calxlaw04_fresh.f k x102000 x102001 t109).bind fun t110 => (if (x102001.length : Int) > 0 then (if 0 ≤ (wrap64 ((x102001.length : Int) - 1)) then (if (wrap64 ((x102001.length : Int) - 1)) < (x102001.length : Int) then (calxlaw04_PitMixed.j1 k (Int.tmod (wrap64 (x1)) (x102000.length : Int)) (wrap64 (1 + (Int.tmod (wrap64 (x2)) (mn 1000 (wrap64 ((wrap64 ((rd x102000 (Int.tmod (wrap64 (x1)) (x102000.length : Int))) - bt104.1)) - 1)))))) (wrap64 (1 + (Int.tmod (wrap64 (x3)) (mn 1000 (wrap64 ((wrap64 ((rd x102000 (Int.tmod (wrap64 (x1)) (x102000.length : Int))) - bt104.1)) - (wrap64 (1 + (Int.tmod (wrap64 (x2)) (mn 1000 (wrap64 ((wrap64 ((rd x102000 (Int.tmod (wrap64 (x1)) (x102000.length : Int))) - bt104.1)) - 1)))))))))))) t109 t110 ((rd_T84 x102001 (wrap64 ((x102001.length : Int) - 1))).f2) x102000 x102001) else (none)) else (none)) else (calxlaw04_PitMixed.j1 k (Int.tmod (wrap64 (x1)) (x102000.length : Int)) (wrap64 (1 + (Int.tmod (wrap64 (x2)) (mn 1000 (wrap64 ((wrap64 ((rd x102000 (Int.tmod (wrap64 (x1)) (x102000.length : Int))) - bt104.1)) - 1)))))) (wrap64 (1 + (Int.tmod (wrap64 (x3)) (mn 1000 (wrap64 ((wrap64 ((rd x102000 (Int.tmod (wrap64 (x1)) (x102000.length : Int))) - bt104.1)) - (wrap64 (1 + (Int.tmod (wrap64 (x2)) (mn 1000 (wrap64 ((wrap64 ((rd x102000 (Int.tmod (wrap64 (x1)) (x102000.length : Int))) - bt104.1)) - 1)))))))))))) t109 t110 0 x102000 x102001))))))) else (none)) else (none)) else ((calxlaw04_sanity.f).bind fun t106 => (some t106)))))
def calxlaw04_PitMixed.j1 : Nat → Int → Int → Int → Int → Int → Int → List Int → List (S84) → Option (Bool)
|0,_,_,_,_,_,_,_,_ => none
|k + 1,x9,x13,x14,x15,x16,x17,x102000,x102001 => (some (([] : List (S84)) : List (S84))).bind fun y112 => (if y112.length + x102001.length < 2932031007402 then ((some (y112 ++ x102001 : List (S84))).bind fun y115 => ((some (([(⟨0,3,x17,x9,0,0⟩ : S84),(⟨x15,2,x17,x9,0,x13⟩ : S84),(⟨x16,2,x17,x9,0,x14⟩ : S84)] : List (S84)) : List (S84))).bind fun y118 => (if y115.length + y118.length < 2932031007402 then ((some (y115 ++ y118 : List (S84))).bind fun y121 => ((pit_Check.f x102000 y121).bind fun bt125 => (if bt125.1 = 0 then ((pit_Pours.f x102000 y121).bind fun bt128 => (if bt128.2 = 0 then (calxlaw04_PitMixed.l0 k x15 x16 bt128.1 (bt128.1.length : Int) 0 x102000 y121) else (some false))) else ((calxlaw04_sanity.f).bind fun t127 => (if t127 = true then (some (bt125.1 == 3)) else (some false)))))) else (none)))) else (none))
def calxlaw04_PitMixed.l0 : Nat → Int → Int → List Int → Int → Int → List Int → List (S84) → Option (Bool)
|0,_,_,_,_,_,_,_ => none
|k + 1,x15,x16,x147,x148,x149,x125000,x125001 => if x149 < x148 then (if 0 ≤ x149 then (if x149 < (x147.length : Int) then ((pit_Share.f x125000 x125001 x15 (rd x147 x149)).bind fun bt134 => ((pit_Share.f x125000 x125001 x16 (rd x147 x149)).bind fun bt138 => (if bt134.2.2 = 0 then (if bt138.2.2 = 0 then (if (!(bt134.1 == bt138.1) || (!(bt134.2.1 == bt138.2.1))) = true then (some false) else (calxlaw04_PitMixed.l0 k x15 x16 x147 x148 (wrap64 (x149 + 1)) x125000 x125001)) else (some false)) else (some false)))) else (none)) else (none)) else ((calxlaw04_sanity.f).bind fun t132 => (some t132))
end
def calxlaw04_PitMixed.f (k : Nat) (l0_0 : List Int) (l0_1 : List (S84)) (a1 : Int) (a2 : Int) (a3 : Int) : Option (Bool):=(calxlaw04_few.f l0_0 l0_1).bind fun t102 => (if t102 = true then (if (l0_0.length : Int) = 0 then (calxlaw04_PitMixed.j0 k a1 a2 a3 true l0_0 l0_1) else (calxlaw04_PitMixed.j0 k a1 a2 a3 (decide ((l0_1.length : Int) > 16)) l0_0 l0_1)) else (calxlaw04_PitMixed.j0 k a1 a2 a3 true l0_0 l0_1))
def calxlaw04_PitMixed.T18 : Bool × List (List Nat × List Nat):=(true,[([],[]),([0],[0]),([],[]),([],[]),([3],[3]),([2,4],[2,4]),([],[]),([],[]),([6,7],[6,7]),([],[]),([],[]),([],[]),([],[]),([9,10,11,12],[9,10,11,12]),([],[]),([],[]),([],[]),([],[]),([14,15,16,17],[14,15,16,17]),([8,13,18],[8,13,18]),([5,19,5],[5,19]),([1,20],[1,20]),([],[]),([22,21,20,0,1,2,3,4,5,6,7,8,9,10,11,12,13,14,15,16,17,18,19,20,21,22],[21,22])])
def calxlaw04_PitMixed.B18 : List Nat:=[0,1,0,0,8,28,0,0,192,0,0,0,0,7680,0,0,0,0,245760,524224,1048572,2097151,0,8388607]
theorem calxlaw04_PitMixed.tab18 : rtab .any (opsOf Tryz.f10 18) = calxlaw04_PitMixed.T18:=by kernel_rfl
theorem calxlaw04_PitMixed.bits18 : waitsOk calxlaw04_PitMixed.T18.2 calxlaw04_PitMixed.B18 = true:=by kernel_rfl
set_option maxHeartbeats 8000000 in
set_option maxRecDepth 100000 in
theorem calxlaw04_PitMixed.calls (k : Nat) (A0_0 : Option Addr) (c0_0 : Nat) (l0_0 : List Int) (A0_1 : Option Addr) (c0_1 : Nat) (l0_1 : List (S84)) (a1 : Int) (a2 : Int) (a3 : Int) (r : Bool) (w : World) (hr0_0 : Kd.C (Kd.int .i64) w A0_0 l0_0.length l0_0) (hc0_0 : l0_0.length ≤ c0_0) (hr0_1 : Kd.C k84 w A0_1 l0_1.length l0_1) (hc0_1 : l0_1.length ≤ c0_1) (h : calxlaw04_PitMixed.f k l0_0 l0_1 a1 a2 a3 = some r) (hr : Aside0 (r = true)) :
  Calls Tryz.prog 10 #[.agg #[.slice A0_0 l0_0.length c0_0,.slice A0_1 l0_1.length c0_1],.int .u8 a1,.int .u16 a2,.int .u16 a3] w fun e w' => e = .returned (.bool r) ∧ Below w.heap.size w w':=by
 have hu32:=Tryz.underlying32
 have hu84:=Tryz.underlying84
 have hu43:=Tryz.underlying43
 have HR0_0:=am hr0_0
 have HC0_0:=am hc0_0
 clear hr0_0 hc0_0
 have HR0_1:=am hr0_1
 have HC0_1:=am hc0_1
 clear hr0_1 hc0_1
 have HB:=am (Below.refl w.heap.size w)
 have H : ((calxlaw04_few.f l0_0 l0_1).bind fun t102 => (if t102 = true then (if (l0_0.length : Int) = 0 then (calxlaw04_PitMixed.j0 k a1 a2 a3 true l0_0 l0_1) else (calxlaw04_PitMixed.j0 k a1 a2 a3 (decide ((l0_1.length : Int) > 16)) l0_0 l0_1)) else (calxlaw04_PitMixed.j0 k a1 a2 a3 true l0_0 l0_1))) = some r:=h
 clear h
 have HC5:=am H
 clear H
 go_enter Tryz.func10,Tryz.ntmps10
 go_upto_region 1 with (first|((with_reducible refine gate_dst (N:=4) rfl ?_);(try (refine gate_guard (by rfl) ?_;dsimp only));refine bE 4 #[.slice A0_0 l0_0.length c0_0,.slice A0_1 l0_1.length c0_1] 32 ?_;intro gb101 hg w6 hbox hb;have BK101:=am (hbox);have GW101:=am (lg hg (below_size (v0 HB.out)) : w.heap.size ≤ gb101);have GE101:=GW101;replace HB:=am (below_step (v0 HB.out) hb);clear hb hbox hg))
 (try simp only [Act.put,List.setIfInBounds_toArray,List.set_cons_zero,List.set_cons_succ])
 go_cut [44] (fun v44 wc => ∃ (kq : Nat) (x44_4 : Bool),v44 = .bool x44_4 ∧ Aside0 (calxlaw04_PitMixed.j0 kq a1 a2 a3 x44_4 l0_0 l0_1 = some r) ∧ Aside0 (kq ≤ k) ∧ Aside0 (wc.heap[gb101]? = some (.cells #[(.slice A0_0 l0_0.length c0_0),(.slice A0_1 l0_1.length c0_1)] 32 (0,0))) ∧ Aside0 (Below w.heap.size w wc))
 case first =>
  have H:=HC5.out
  clear HC5
  replace H:=Option.bind_eq_some_iff.mp H
  obtain ⟨t102,A70,H⟩:=H
  replace H : (if t102 = true then (if (l0_0.length : Int) = 0 then (calxlaw04_PitMixed.j0 k a1 a2 a3 true l0_0 l0_1) else (calxlaw04_PitMixed.j0 k a1 a2 a3 (decide ((l0_1.length : Int) > 16)) l0_0 l0_1)) else (calxlaw04_PitMixed.j0 k a1 a2 a3 true l0_0 l0_1)) = some r:=H
  have A7:=am A70
  clear A70
  by_cases c8 : t102 = true
  ·subst c8
   have H1 : (if (l0_0.length : Int) = 0 then (calxlaw04_PitMixed.j0 k a1 a2 a3 true l0_0 l0_1) else (calxlaw04_PitMixed.j0 k a1 a2 a3 (decide ((l0_1.length : Int) > 16)) l0_0 l0_1)) = some r:=by rw [if_pos rfl] at H;exact H
   clear H
   have H:=H1
   clear H1
   by_cases c9 : (l0_0.length : Int) = 0
   ·rw [if_pos c9] at H
    have c9b0 : ((l0_0.length : Int) == 0) = true:=beq_iff_eq.mpr c9
    have c9b1 : ((l0_0.length : Int) != 0) = false:=bne_eq_false_iff_eq.mpr c9
    clear c9
    (first|rw [c9b0]|(simp only [i64_w,i32_w];rw [c9b0])|rw [c9b1]|skip)
    have H':=am H
    clear H
    have hcz10_0:=bd BK101.out 0
    have hcz10_1:=bd BK101.out 1
    have hfz10_0:=blk_frozen BK101.out 0
    have hfz10_1:=blk_frozen BK101.out 1
    go_wp2_with (first|((with_reducible refine g_ ?_);refine cE (some 31) Tryz.func26 #[.agg #[.slice A0_0 l0_0.length c0_0,.slice A0_1 l0_1.length c0_1]] ?_;(with_reducible refine (calxlaw04_few.calls _ _ l0_0 _ _ l0_1 true _ ?side1 ?side2 ?side3 ?side4 A7.out).mono ?_);(case side1 => repeat (first|exact (Kd.C_below HR0_0.out HB.out)|(with_reducible refine Kd.C_alloc ?_ _)|(with_reducible refine Kd.C_drewN ?_ _)|(with_reducible refine Kd.C_drew ?_)));(case side2 => exact HC0_0.out);(case side3 => repeat (first|exact (Kd.C_below HR0_1.out HB.out)|(with_reducible refine Kd.C_alloc ?_ _)|(with_reducible refine Kd.C_drewN ?_ _)|(with_reducible refine Kd.C_drew ?_)));(case side4 => exact HC0_1.out);rintro e w11 ⟨rfl,hb⟩;refine ⟨_,rfl,?_⟩;replace BK101:=am (blk_below (vb BK101.out) hb);replace HB:=am (below_step (v1 HB.out GE101.out) hb);(try clear hb);(try clear hb2);(try clear hk);(try clear hi);have hcz12_0:=bd BK101.out 0;have hcz12_1:=bd BK101.out 1;have hfz12_0:=blk_frozen BK101.out 0;have hfz12_1:=blk_frozen BK101.out 1))
    go_meet
    case rel => exact ⟨_,(true),ve,H',⟨by first|omega|exact Nat.le_refl _⟩,⟨vb BK101.out⟩,⟨v1 HB.out GE101.out⟩⟩
   ·rw [if_neg c9] at H
    have c9b0 : ((l0_0.length : Int) == 0) = false:=beq_eq_false_iff_ne.mpr c9
    have c9b1 : ((l0_0.length : Int) != 0) = true:=bne_iff_ne.mpr c9
    have c9b2 : ¬ (l0_0 = []):=fun h_ => c9 (by rw [h_];rfl)
    (first|rw [c9b0]|(simp only [i64_w,i32_w];rw [c9b0])|rw [c9b1]|skip)
    have H':=am H
    clear H
    have hcz13_0:=bd BK101.out 0
    have hcz13_1:=bd BK101.out 1
    have hfz13_0:=blk_frozen BK101.out 0
    have hfz13_1:=blk_frozen BK101.out 1
    go_wp2_with (first|((with_reducible refine g_ ?_);refine cE (some 31) Tryz.func26 #[.agg #[.slice A0_0 l0_0.length c0_0,.slice A0_1 l0_1.length c0_1]] ?_;(with_reducible refine (calxlaw04_few.calls _ _ l0_0 _ _ l0_1 true _ ?side1 ?side2 ?side3 ?side4 A7.out).mono ?_);(case side1 => repeat (first|exact (Kd.C_below HR0_0.out HB.out)|(with_reducible refine Kd.C_alloc ?_ _)|(with_reducible refine Kd.C_drewN ?_ _)|(with_reducible refine Kd.C_drew ?_)));(case side2 => exact HC0_0.out);(case side3 => repeat (first|exact (Kd.C_below HR0_1.out HB.out)|(with_reducible refine Kd.C_alloc ?_ _)|(with_reducible refine Kd.C_drewN ?_ _)|(with_reducible refine Kd.C_drew ?_)));(case side4 => exact HC0_1.out);rintro e w14 ⟨rfl,hb⟩;refine ⟨_,rfl,?_⟩;replace BK101:=am (blk_below (vb BK101.out) hb);replace HB:=am (below_step (v1 HB.out GE101.out) hb);(try clear hb);(try clear hb2);(try clear hk);(try clear hi);have hcz15_0:=bd BK101.out 0;have hcz15_1:=bd BK101.out 1;have hfz15_0:=blk_frozen BK101.out 0;have hfz15_1:=blk_frozen BK101.out 1))
    go_meet
    case rel => exact ⟨_,(decide ((l0_1.length : Int) > 16)),ve,H',⟨by first|omega|exact Nat.le_refl _⟩,⟨vb BK101.out⟩,⟨v1 HB.out GE101.out⟩⟩
  ·replace c8:=Bool.eq_false_iff.mpr c8
   subst c8
   have H1 : (calxlaw04_PitMixed.j0 k a1 a2 a3 true l0_0 l0_1) = some r:=by rw [if_neg (show ¬ (false = true) by decide)] at H;exact H
   clear H
   have H:=H1
   clear H1
   have H':=am H
   clear H
   have hcz16_0:=bd BK101.out 0
   have hcz16_1:=bd BK101.out 1
   have hfz16_0:=blk_frozen BK101.out 0
   have hfz16_1:=blk_frozen BK101.out 1
   go_wp2_with (first|((with_reducible refine g_ ?_);refine cE (some 31) Tryz.func26 #[.agg #[.slice A0_0 l0_0.length c0_0,.slice A0_1 l0_1.length c0_1]] ?_;(with_reducible refine (calxlaw04_few.calls _ _ l0_0 _ _ l0_1 false _ ?side1 ?side2 ?side3 ?side4 A7.out).mono ?_);(case side1 => repeat (first|exact (Kd.C_below HR0_0.out HB.out)|(with_reducible refine Kd.C_alloc ?_ _)|(with_reducible refine Kd.C_drewN ?_ _)|(with_reducible refine Kd.C_drew ?_)));(case side2 => exact HC0_0.out);(case side3 => repeat (first|exact (Kd.C_below HR0_1.out HB.out)|(with_reducible refine Kd.C_alloc ?_ _)|(with_reducible refine Kd.C_drewN ?_ _)|(with_reducible refine Kd.C_drew ?_)));(case side4 => exact HC0_1.out);rintro e w17 ⟨rfl,hb⟩;refine ⟨_,rfl,?_⟩;replace BK101:=am (blk_below (vb BK101.out) hb);replace HB:=am (below_step (v1 HB.out GE101.out) hb);(try clear hb);(try clear hb2);(try clear hk);(try clear hi)))
   go_meet
   case rel => exact ⟨_,(true),ve,H',⟨by first|omega|exact Nat.le_refl _⟩,⟨vb BK101.out⟩,⟨v1 HB.out GE101.out⟩⟩
 case rest =>
  clear HC5
  try clear c1;try clear c2;try clear p2;try clear c8;try clear c9;try clear c9b0;try clear c9b1;try clear c9b2;try clear c10;try clear hcz10_0;try clear hcz10_1;try clear hcz12_0;try clear hcz12_1;try clear hcz13_0;try clear hcz13_1;try clear hcz15_0;try clear hcz15_1;try clear hcz16_0;try clear hcz16_1;try clear hfz10_0;try clear hfz10_1;try clear hfz12_0;try clear hfz12_1;try clear hfz13_0;try clear hfz13_1;try clear hfz15_0;try clear hfz15_1;try clear hfz16_0;try clear hfz16_1
  obtain ⟨kq,x44_4,rfl,HA,HJ4,BK101,HB⟩:=hcut
  cases kq with
 |zero => exact absurd HA.out (by simp [calxlaw04_PitMixed.j0])
 |succ kj4 =>
   have H:=HA.out
   clear HA
   simp only [calxlaw04_PitMixed.j0] at H
   by_cases c18 : x44_4 = true
   ·subst c18
    have H1 : ((calxlaw04_sanity.f).bind fun t103 => (some t103)) = some r:=by rw [if_pos rfl] at H;exact H
    clear H
    have H:=H1
    clear H1
    replace H:=Option.bind_eq_some_iff.mp H
    obtain ⟨t103,A190,H⟩:=H
    replace H : (some t103) = some r:=H
    have A19:=am A190
    clear A190
    obtain rfl:=Option.some.inj H
    go_wp2_with (first|((with_reducible refine g_ ?_);refine cE (some 45) Tryz.func27 #[] ?_;(with_reducible refine (calxlaw04_sanity.calls  t103 _ A19.out).mono ?_);rintro e w20 ⟨rfl,hb⟩;refine ⟨_,rfl,?_⟩;replace BK101:=am (blk_below (vb BK101.out) hb);replace HB:=am (below_step (v1 HB.out GE101.out) hb);(try clear hb);(try clear hb2);(try clear hk);(try clear hi)))
    go_ret
    exact ⟨vf,v1 HB.out GE101.out⟩
   ·replace c18:=Bool.eq_false_iff.mpr c18
    subst c18
    have H1 : (if (l0_0.length : Int) = 0 then (none) else ((pit_Free.f l0_0 l0_1 (Int.tmod (wrap64 (a1)) (l0_0.length : Int)) (l0_1.length : Int)).bind fun bt104 => (if bt104.2 = 0 then (if 0 ≤ (Int.tmod (wrap64 (a1)) (l0_0.length : Int)) then (if (Int.tmod (wrap64 (a1)) (l0_0.length : Int)) < (l0_0.length : Int) then (if (wrap64 ((rd l0_0 (Int.tmod (wrap64 (a1)) (l0_0.length : Int))) - bt104.1)) < 2 then ((calxlaw04_sanity.f).bind fun t108 => (some t108)) else (if (mn 1000 (wrap64 ((wrap64 ((rd l0_0 (Int.tmod (wrap64 (a1)) (l0_0.length : Int))) - bt104.1)) - 1))) = 0 then (none) else (if (mn 1000 (wrap64 ((wrap64 ((rd l0_0 (Int.tmod (wrap64 (a1)) (l0_0.length : Int))) - bt104.1)) - (wrap64 (1 + (Int.tmod (wrap64 (a2)) (mn 1000 (wrap64 ((wrap64 ((rd l0_0 (Int.tmod (wrap64 (a1)) (l0_0.length : Int))) - bt104.1)) - 1))))))))) = 0 then (none) else ((calxlaw04_fresh.f kj4 l0_0 l0_1 0).bind fun t109 => ((calxlaw04_fresh.f kj4 l0_0 l0_1 t109).bind fun t110 => (if (l0_1.length : Int) > 0 then (if 0 ≤ (wrap64 ((l0_1.length : Int) - 1)) then (if (wrap64 ((l0_1.length : Int) - 1)) < (l0_1.length : Int) then (calxlaw04_PitMixed.j1 kj4 (Int.tmod (wrap64 (a1)) (l0_0.length : Int)) (wrap64 (1 + (Int.tmod (wrap64 (a2)) (mn 1000 (wrap64 ((wrap64 ((rd l0_0 (Int.tmod (wrap64 (a1)) (l0_0.length : Int))) - bt104.1)) - 1)))))) (wrap64 (1 + (Int.tmod (wrap64 (a3)) (mn 1000 (wrap64 ((wrap64 ((rd l0_0 (Int.tmod (wrap64 (a1)) (l0_0.length : Int))) - bt104.1)) - (wrap64 (1 + (Int.tmod (wrap64 (a2)) (mn 1000 (wrap64 ((wrap64 ((rd l0_0 (Int.tmod (wrap64 (a1)) (l0_0.length : Int))) - bt104.1)) - 1)))))))))))) t109 t110 ((rd_T84 l0_1 (wrap64 ((l0_1.length : Int) - 1))).f2) l0_0 l0_1) else (none)) else (none)) else (calxlaw04_PitMixed.j1 kj4 (Int.tmod (wrap64 (a1)) (l0_0.length : Int)) (wrap64 (1 + (Int.tmod (wrap64 (a2)) (mn 1000 (wrap64 ((wrap64 ((rd l0_0 (Int.tmod (wrap64 (a1)) (l0_0.length : Int))) - bt104.1)) - 1)))))) (wrap64 (1 + (Int.tmod (wrap64 (a3)) (mn 1000 (wrap64 ((wrap64 ((rd l0_0 (Int.tmod (wrap64 (a1)) (l0_0.length : Int))) - bt104.1)) - (wrap64 (1 + (Int.tmod (wrap64 (a2)) (mn 1000 (wrap64 ((wrap64 ((rd l0_0 (Int.tmod (wrap64 (a1)) (l0_0.length : Int))) - bt104.1)) - 1)))))))))))) t109 t110 0 l0_0 l0_1))))))) else (none)) else (none)) else ((calxlaw04_sanity.f).bind fun t106 => (some t106))))) = some r:=by rw [if_neg (show ¬ (false = true) by decide)] at H;exact H
    clear H
    have H:=H1
    clear H1
    by_cases c21 : (l0_0.length : Int) = 0
    ·rw [if_pos c21] at H
     exact absurd H (by simp)
    ·rw [if_neg c21] at H
     have c21b0 : ((l0_0.length : Int) == 0) = false:=beq_eq_false_iff_ne.mpr c21
     have c21b1 : ((l0_0.length : Int) != 0) = true:=bne_iff_ne.mpr c21
     have c21b2 : ¬ (l0_0 = []):=fun h_ => c21 (by rw [h_];rfl)
     replace H:=Option.bind_eq_some_iff.mp H
     obtain ⟨⟨t104,t105⟩,A220,H⟩:=H
     replace H : (if t105 = 0 then (if 0 ≤ (Int.tmod (wrap64 (a1)) (l0_0.length : Int)) then (if (Int.tmod (wrap64 (a1)) (l0_0.length : Int)) < (l0_0.length : Int) then (if (wrap64 ((rd l0_0 (Int.tmod (wrap64 (a1)) (l0_0.length : Int))) - t104)) < 2 then ((calxlaw04_sanity.f).bind fun t108 => (some t108)) else (if (mn 1000 (wrap64 ((wrap64 ((rd l0_0 (Int.tmod (wrap64 (a1)) (l0_0.length : Int))) - t104)) - 1))) = 0 then (none) else (if (mn 1000 (wrap64 ((wrap64 ((rd l0_0 (Int.tmod (wrap64 (a1)) (l0_0.length : Int))) - t104)) - (wrap64 (1 + (Int.tmod (wrap64 (a2)) (mn 1000 (wrap64 ((wrap64 ((rd l0_0 (Int.tmod (wrap64 (a1)) (l0_0.length : Int))) - t104)) - 1))))))))) = 0 then (none) else ((calxlaw04_fresh.f kj4 l0_0 l0_1 0).bind fun t109 => ((calxlaw04_fresh.f kj4 l0_0 l0_1 t109).bind fun t110 => (if (l0_1.length : Int) > 0 then (if 0 ≤ (wrap64 ((l0_1.length : Int) - 1)) then (if (wrap64 ((l0_1.length : Int) - 1)) < (l0_1.length : Int) then (calxlaw04_PitMixed.j1 kj4 (Int.tmod (wrap64 (a1)) (l0_0.length : Int)) (wrap64 (1 + (Int.tmod (wrap64 (a2)) (mn 1000 (wrap64 ((wrap64 ((rd l0_0 (Int.tmod (wrap64 (a1)) (l0_0.length : Int))) - t104)) - 1)))))) (wrap64 (1 + (Int.tmod (wrap64 (a3)) (mn 1000 (wrap64 ((wrap64 ((rd l0_0 (Int.tmod (wrap64 (a1)) (l0_0.length : Int))) - t104)) - (wrap64 (1 + (Int.tmod (wrap64 (a2)) (mn 1000 (wrap64 ((wrap64 ((rd l0_0 (Int.tmod (wrap64 (a1)) (l0_0.length : Int))) - t104)) - 1)))))))))))) t109 t110 ((rd_T84 l0_1 (wrap64 ((l0_1.length : Int) - 1))).f2) l0_0 l0_1) else (none)) else (none)) else (calxlaw04_PitMixed.j1 kj4 (Int.tmod (wrap64 (a1)) (l0_0.length : Int)) (wrap64 (1 + (Int.tmod (wrap64 (a2)) (mn 1000 (wrap64 ((wrap64 ((rd l0_0 (Int.tmod (wrap64 (a1)) (l0_0.length : Int))) - t104)) - 1)))))) (wrap64 (1 + (Int.tmod (wrap64 (a3)) (mn 1000 (wrap64 ((wrap64 ((rd l0_0 (Int.tmod (wrap64 (a1)) (l0_0.length : Int))) - t104)) - (wrap64 (1 + (Int.tmod (wrap64 (a2)) (mn 1000 (wrap64 ((wrap64 ((rd l0_0 (Int.tmod (wrap64 (a1)) (l0_0.length : Int))) - t104)) - 1)))))))))))) t109 t110 0 l0_0 l0_1))))))) else (none)) else (none)) else ((calxlaw04_sanity.f).bind fun t106 => (some t106))) = some r:=H
     have A22:=am A220
     clear A220
     by_cases c23 : t105 = 0
     ·rw [if_pos c23] at H
      have c23b0 : (t105 == 0) = true:=beq_iff_eq.mpr c23
      have c23b1 : (t105 != 0) = false:=bne_eq_false_iff_eq.mpr c23
      clear c23
      obtain ⟨ji24,hji24⟩ : ∃ j_ : Int,(Int.tmod (wrap64 (a1)) (l0_0.length : Int)) = j_:=⟨_,rfl⟩
      replace H : (if 0 ≤ (ji24) then (if (ji24) < (l0_0.length : Int) then (if (wrap64 ((rd l0_0 (ji24)) - t104)) < 2 then ((calxlaw04_sanity.f).bind fun t108 => (some t108)) else (if (mn 1000 (wrap64 ((wrap64 ((rd l0_0 (ji24)) - t104)) - 1))) = 0 then (none) else (if (mn 1000 (wrap64 ((wrap64 ((rd l0_0 (ji24)) - t104)) - (wrap64 (1 + (Int.tmod (wrap64 (a2)) (mn 1000 (wrap64 ((wrap64 ((rd l0_0 (ji24)) - t104)) - 1))))))))) = 0 then (none) else ((calxlaw04_fresh.f kj4 l0_0 l0_1 0).bind fun t109 => ((calxlaw04_fresh.f kj4 l0_0 l0_1 t109).bind fun t110 => (if (l0_1.length : Int) > 0 then (if 0 ≤ (wrap64 ((l0_1.length : Int) - 1)) then (if (wrap64 ((l0_1.length : Int) - 1)) < (l0_1.length : Int) then (calxlaw04_PitMixed.j1 kj4 ji24 (wrap64 (1 + (Int.tmod (wrap64 (a2)) (mn 1000 (wrap64 ((wrap64 ((rd l0_0 (ji24)) - t104)) - 1)))))) (wrap64 (1 + (Int.tmod (wrap64 (a3)) (mn 1000 (wrap64 ((wrap64 ((rd l0_0 (ji24)) - t104)) - (wrap64 (1 + (Int.tmod (wrap64 (a2)) (mn 1000 (wrap64 ((wrap64 ((rd l0_0 (ji24)) - t104)) - 1)))))))))))) t109 t110 ((rd_T84 l0_1 (wrap64 ((l0_1.length : Int) - 1))).f2) l0_0 l0_1) else (none)) else (none)) else (calxlaw04_PitMixed.j1 kj4 ji24 (wrap64 (1 + (Int.tmod (wrap64 (a2)) (mn 1000 (wrap64 ((wrap64 ((rd l0_0 (ji24)) - t104)) - 1)))))) (wrap64 (1 + (Int.tmod (wrap64 (a3)) (mn 1000 (wrap64 ((wrap64 ((rd l0_0 (ji24)) - t104)) - (wrap64 (1 + (Int.tmod (wrap64 (a2)) (mn 1000 (wrap64 ((wrap64 ((rd l0_0 (ji24)) - t104)) - 1)))))))))))) t109 t110 0 l0_0 l0_1))))))) else (none)) else (none)) = some r:=by first|(rw [hji24] at H;exact H)|(simp only [hji24] at H ⊢;exact H)
      (try rw [hji24] at A22)
      by_cases c25 : 0 ≤ (ji24)
      ·rw [if_pos c25] at H
       have c25b0 : decide (0 ≤ (ji24)) = true:=decide_eq_true c25
       clear c25
       by_cases c26 : (ji24) < (l0_0.length : Int)
       ·rw [if_pos c26] at H
        have c26b0 : decide ((ji24) < (l0_0.length : Int)) = true:=decide_eq_true c26
        clear c26
        by_cases c27 : (wrap64 ((rd l0_0 (ji24)) - t104)) < 2
        ·rw [if_pos c27] at H
         have c27b0 : decide ((wrap64 ((rd l0_0 (ji24)) - t104)) < 2) = true:=decide_eq_true c27
         clear c27
         replace H:=Option.bind_eq_some_iff.mp H
         obtain ⟨t108,A280,H⟩:=H
         replace H : (some t108) = some r:=H
         have A28:=am A280
         clear A280
         obtain rfl:=Option.some.inj H
         have hcz29_0:=bd BK101.out 0
         have hcz29_1:=bd BK101.out 1
         have hfz29_0:=blk_frozen BK101.out 0
         have hfz29_1:=blk_frozen BK101.out 1
         go_wp2_with (first|((with_reducible refine gate_callee (f:=54) rfl ?_);refine goesL_ (some 58) rfl rfl Tryz.func54 kr rfl #[.agg #[.slice A0_0 l0_0.length c0_0,.slice A0_1 l0_1.length c0_1],ii ji24,ii (l0_1.length : Int)] rfl (by (try simp only [List.map_toArray,List.map_cons,List.map_nil]);first|done|(simp only [hji24];rfl)|rfl|(simp only [List.length_drop,List.length_take];rfl)) ?_;(with_reducible refine (pit_Free.calls _ _ l0_0 _ _ l0_1 ji24 (l0_1.length : Int) t104 t105 _ ?side1 ?side2 ?side3 ?side4 A22.out).mono ?_);(case side1 => repeat (first|exact (Kd.C_below HR0_0.out HB.out)|(with_reducible refine Kd.C_alloc ?_ _)|(with_reducible refine Kd.C_drewN ?_ _)|(with_reducible refine Kd.C_drew ?_)));(case side2 => exact HC0_0.out);(case side3 => repeat (first|exact (Kd.C_below HR0_1.out HB.out)|(with_reducible refine Kd.C_alloc ?_ _)|(with_reducible refine Kd.C_drewN ?_ _)|(with_reducible refine Kd.C_drew ?_)));(case side4 => exact HC0_1.out);rintro e w30 ⟨rfl,hb⟩;refine ⟨_,rfl,?_⟩;replace BK101:=am (blk_below (vb BK101.out) hb);replace HB:=am (below_step (v1 HB.out GE101.out) hb);(try clear hb);(try clear hb2);(try clear hk);(try clear hi);have hcz31_0:=bd BK101.out 0;have hcz31_1:=bd BK101.out 1;have hfz31_0:=blk_frozen BK101.out 0;have hfz31_1:=blk_frozen BK101.out 1;have p107 : 0 ≤ ((ji24) : Int):=of_decide_eq_true va;have q107 : (ji24) < (l0_0.length : Int):=of_decide_eq_true va;obtain ⟨ad107,e107,hx107_0⟩:=Kd.at_int HR0_0.out (ji24) p107 q107;cases e107;replace hx107_0:=(HB.out.cell (wb w _ hx107_0)).trans hx107_0;replace p107:=eq_true p107;replace q107:=eq_true q107)|((with_reducible refine g_ ?_);refine cE (some 73) Tryz.func27 #[] ?_;(with_reducible refine (calxlaw04_sanity.calls  t108 _ A28.out).mono ?_);rintro e w32 ⟨rfl,hb⟩;refine ⟨_,rfl,?_⟩;replace BK101:=am (blk_below (vb BK101.out) hb);replace HB:=am (below_step (v1 HB.out GE101.out) hb);(try clear hb);(try clear hb2);(try clear hk);(try clear hi)))
         go_ret
         exact ⟨by first|rfl|(simp [errW_none,errW_some] <;> rfl)|(simp only [← hji24];first|rfl|(simp [errW_none,errW_some] <;> rfl))|(simp [*,errW_none,errW_some] <;> rfl),v1 HB.out GE101.out⟩
        ·rw [if_neg c27] at H
         have c27b0 : decide ((wrap64 ((rd l0_0 (ji24)) - t104)) < 2) = false:=decide_eq_false c27
         clear c27
         obtain ⟨ji33,hji33⟩ : ∃ j_ : Int,(mn 1000 (wrap64 ((wrap64 ((rd l0_0 (ji24)) - t104)) - 1))) = j_:=⟨_,rfl⟩
         replace H : (if (ji33) = 0 then (none) else (if (mn 1000 (wrap64 ((wrap64 ((rd l0_0 (ji24)) - t104)) - (wrap64 (1 + (Int.tmod (wrap64 (a2)) (ji33))))))) = 0 then (none) else ((calxlaw04_fresh.f kj4 l0_0 l0_1 0).bind fun t109 => ((calxlaw04_fresh.f kj4 l0_0 l0_1 t109).bind fun t110 => (if (l0_1.length : Int) > 0 then (if 0 ≤ (wrap64 ((l0_1.length : Int) - 1)) then (if (wrap64 ((l0_1.length : Int) - 1)) < (l0_1.length : Int) then (calxlaw04_PitMixed.j1 kj4 ji24 (wrap64 (1 + (Int.tmod (wrap64 (a2)) (ji33)))) (wrap64 (1 + (Int.tmod (wrap64 (a3)) (mn 1000 (wrap64 ((wrap64 ((rd l0_0 (ji24)) - t104)) - (wrap64 (1 + (Int.tmod (wrap64 (a2)) (ji33)))))))))) t109 t110 ((rd_T84 l0_1 (wrap64 ((l0_1.length : Int) - 1))).f2) l0_0 l0_1) else (none)) else (none)) else (calxlaw04_PitMixed.j1 kj4 ji24 (wrap64 (1 + (Int.tmod (wrap64 (a2)) (ji33)))) (wrap64 (1 + (Int.tmod (wrap64 (a3)) (mn 1000 (wrap64 ((wrap64 ((rd l0_0 (ji24)) - t104)) - (wrap64 (1 + (Int.tmod (wrap64 (a2)) (ji33)))))))))) t109 t110 0 l0_0 l0_1)))))) = some r:=by first|(rw [hji33] at H;exact H)|(simp only [hji33] at H ⊢;exact H)
         (try rw [hji33] at A22)
         have hji33_ : (if (wrap64 ((wrap64 ((rd l0_0 (ji24)) - t104)) - 1)) < 1000 then (wrap64 ((wrap64 ((rd l0_0 (ji24)) - t104)) - 1)) else 1000) = ji33:=hji33
         by_cases c34 : (ji33) = 0
         ·rw [if_pos c34] at H
          exact absurd H (by simp)
         ·rw [if_neg c34] at H
          have c34b0 : ((ji33) == 0) = false:=beq_eq_false_iff_ne.mpr c34
          have c34b1 : ((ji33) != 0) = true:=bne_iff_ne.mpr c34
          obtain ⟨ji35,hji35⟩ : ∃ j_ : Int,(mn 1000 (wrap64 ((wrap64 ((rd l0_0 (ji24)) - t104)) - (wrap64 (1 + (Int.tmod (wrap64 (a2)) (ji33))))))) = j_:=⟨_,rfl⟩
          replace H : (if (ji35) = 0 then (none) else ((calxlaw04_fresh.f kj4 l0_0 l0_1 0).bind fun t109 => ((calxlaw04_fresh.f kj4 l0_0 l0_1 t109).bind fun t110 => (if (l0_1.length : Int) > 0 then (if 0 ≤ (wrap64 ((l0_1.length : Int) - 1)) then (if (wrap64 ((l0_1.length : Int) - 1)) < (l0_1.length : Int) then (calxlaw04_PitMixed.j1 kj4 ji24 (wrap64 (1 + (Int.tmod (wrap64 (a2)) (ji33)))) (wrap64 (1 + (Int.tmod (wrap64 (a3)) (ji35)))) t109 t110 ((rd_T84 l0_1 (wrap64 ((l0_1.length : Int) - 1))).f2) l0_0 l0_1) else (none)) else (none)) else (calxlaw04_PitMixed.j1 kj4 ji24 (wrap64 (1 + (Int.tmod (wrap64 (a2)) (ji33)))) (wrap64 (1 + (Int.tmod (wrap64 (a3)) (ji35)))) t109 t110 0 l0_0 l0_1))))) = some r:=by first|(rw [hji35] at H;exact H)|(simp only [hji35] at H ⊢;exact H)
          (try rw [hji35] at A22)
          have hji35_ : (if (wrap64 ((wrap64 ((rd l0_0 (ji24)) - t104)) - (wrap64 (1 + (Int.tmod (wrap64 (a2)) (ji33)))))) < 1000 then (wrap64 ((wrap64 ((rd l0_0 (ji24)) - t104)) - (wrap64 (1 + (Int.tmod (wrap64 (a2)) (ji33)))))) else 1000) = ji35:=hji35
          by_cases c36 : (ji35) = 0
          ·rw [if_pos c36] at H
           exact absurd H (by simp)
          ·rw [if_neg c36] at H
           have c36b0 : ((ji35) == 0) = false:=beq_eq_false_iff_ne.mpr c36
           have c36b1 : ((ji35) != 0) = true:=bne_iff_ne.mpr c36
           replace H:=Option.bind_eq_some_iff.mp H
           obtain ⟨t109,A370,H⟩:=H
           replace H : ((calxlaw04_fresh.f kj4 l0_0 l0_1 t109).bind fun t110 => (if (l0_1.length : Int) > 0 then (if 0 ≤ (wrap64 ((l0_1.length : Int) - 1)) then (if (wrap64 ((l0_1.length : Int) - 1)) < (l0_1.length : Int) then (calxlaw04_PitMixed.j1 kj4 ji24 (wrap64 (1 + (Int.tmod (wrap64 (a2)) (ji33)))) (wrap64 (1 + (Int.tmod (wrap64 (a3)) (ji35)))) t109 t110 ((rd_T84 l0_1 (wrap64 ((l0_1.length : Int) - 1))).f2) l0_0 l0_1) else (none)) else (none)) else (calxlaw04_PitMixed.j1 kj4 ji24 (wrap64 (1 + (Int.tmod (wrap64 (a2)) (ji33)))) (wrap64 (1 + (Int.tmod (wrap64 (a3)) (ji35)))) t109 t110 0 l0_0 l0_1))) = some r:=H
           have A37:=am A370
           clear A370
           replace H:=Option.bind_eq_some_iff.mp H
           obtain ⟨t110,A380,H⟩:=H
           replace H : (if (l0_1.length : Int) > 0 then (if 0 ≤ (wrap64 ((l0_1.length : Int) - 1)) then (if (wrap64 ((l0_1.length : Int) - 1)) < (l0_1.length : Int) then (calxlaw04_PitMixed.j1 kj4 ji24 (wrap64 (1 + (Int.tmod (wrap64 (a2)) (ji33)))) (wrap64 (1 + (Int.tmod (wrap64 (a3)) (ji35)))) t109 t110 ((rd_T84 l0_1 (wrap64 ((l0_1.length : Int) - 1))).f2) l0_0 l0_1) else (none)) else (none)) else (calxlaw04_PitMixed.j1 kj4 ji24 (wrap64 (1 + (Int.tmod (wrap64 (a2)) (ji33)))) (wrap64 (1 + (Int.tmod (wrap64 (a3)) (ji35)))) t109 t110 0 l0_0 l0_1)) = some r:=H
           have A38:=am A380
           clear A380
           have HC39:=am H
           clear H
           have hcz40_0:=bd BK101.out 0
           have hcz40_1:=bd BK101.out 1
           have hfz40_0:=blk_frozen BK101.out 0
           have hfz40_1:=blk_frozen BK101.out 1
           go_upto_if 98 with (first|((with_reducible refine gate_callee (f:=54) rfl ?_);refine goesL_ (some 58) rfl rfl Tryz.func54 kr rfl #[.agg #[.slice A0_0 l0_0.length c0_0,.slice A0_1 l0_1.length c0_1],ii ji24,ii (l0_1.length : Int)] rfl (by (try simp only [List.map_toArray,List.map_cons,List.map_nil]);first|done|(simp only [hji24];rfl)|rfl|(simp only [List.length_drop,List.length_take];rfl)) ?_;(with_reducible refine (pit_Free.calls _ _ l0_0 _ _ l0_1 ji24 (l0_1.length : Int) t104 t105 _ ?side1 ?side2 ?side3 ?side4 A22.out).mono ?_);(case side1 => repeat (first|exact (Kd.C_below HR0_0.out HB.out)|(with_reducible refine Kd.C_alloc ?_ _)|(with_reducible refine Kd.C_drewN ?_ _)|(with_reducible refine Kd.C_drew ?_)));(case side2 => exact HC0_0.out);(case side3 => repeat (first|exact (Kd.C_below HR0_1.out HB.out)|(with_reducible refine Kd.C_alloc ?_ _)|(with_reducible refine Kd.C_drewN ?_ _)|(with_reducible refine Kd.C_drew ?_)));(case side4 => exact HC0_1.out);rintro e w41 ⟨rfl,hb⟩;refine ⟨_,rfl,?_⟩;replace BK101:=am (blk_below (vb BK101.out) hb);replace HB:=am (below_step (v1 HB.out GE101.out) hb);(try clear hb);(try clear hb2);(try clear hk);(try clear hi);have hcz42_0:=bd BK101.out 0;have hcz42_1:=bd BK101.out 1;have hfz42_0:=blk_frozen BK101.out 0;have hfz42_1:=blk_frozen BK101.out 1;have p107 : 0 ≤ ((ji24) : Int):=of_decide_eq_true va;have q107 : (ji24) < (l0_0.length : Int):=of_decide_eq_true va;obtain ⟨ad107,e107,hx107_0⟩:=Kd.at_int HR0_0.out (ji24) p107 q107;cases e107;replace hx107_0:=(HB.out.cell (wb w _ hx107_0)).trans hx107_0;replace p107:=eq_true p107;replace q107:=eq_true q107)|((with_reducible refine g_ ?_);refine cE (some 90) Tryz.func55 #[.agg #[.slice (some ad107) l0_0.length c0_0,.slice A0_1 l0_1.length c0_1],ii 0] ?_;(with_reducible refine (calxlaw04_fresh.calls kj4 _ _ l0_0 _ _ l0_1 0 t109 _ ?side1 ?side2 ?side3 ?side4 A37.out).mono ?_);(case side1 => repeat (first|exact (Kd.C_below HR0_0.out HB.out)|(with_reducible refine Kd.C_alloc ?_ _)|(with_reducible refine Kd.C_drewN ?_ _)|(with_reducible refine Kd.C_drew ?_)));(case side2 => exact HC0_0.out);(case side3 => repeat (first|exact (Kd.C_below HR0_1.out HB.out)|(with_reducible refine Kd.C_alloc ?_ _)|(with_reducible refine Kd.C_drewN ?_ _)|(with_reducible refine Kd.C_drew ?_)));(case side4 => exact HC0_1.out);rintro e w43 ⟨rfl,hb⟩;refine ⟨_,rfl,?_⟩;replace BK101:=am (blk_below (vb BK101.out) hb);replace HB:=am (below_step (v1 HB.out GE101.out) hb);(try clear hb);(try clear hb2);(try clear hk);(try clear hi);have hcz44_0:=bd BK101.out 0;have hcz44_1:=bd BK101.out 1;have hfz44_0:=blk_frozen BK101.out 0;have hfz44_1:=blk_frozen BK101.out 1)|((with_reducible refine g_ ?_);refine cE (some 93) Tryz.func55 #[.agg #[.slice (some ad107) l0_0.length c0_0,.slice A0_1 l0_1.length c0_1],ii t109] ?_;(with_reducible refine (calxlaw04_fresh.calls kj4 _ _ l0_0 _ _ l0_1 t109 t110 _ ?side1 ?side2 ?side3 ?side4 A38.out).mono ?_);(case side1 => repeat (first|exact (Kd.C_below HR0_0.out HB.out)|(with_reducible refine Kd.C_alloc ?_ _)|(with_reducible refine Kd.C_drewN ?_ _)|(with_reducible refine Kd.C_drew ?_)));(case side2 => exact HC0_0.out);(case side3 => repeat (first|exact (Kd.C_below HR0_1.out HB.out)|(with_reducible refine Kd.C_alloc ?_ _)|(with_reducible refine Kd.C_drewN ?_ _)|(with_reducible refine Kd.C_drew ?_)));(case side4 => exact HC0_1.out);rintro e w45 ⟨rfl,hb⟩;refine ⟨_,rfl,?_⟩;replace BK101:=am (blk_below (vb BK101.out) hb);replace HB:=am (below_step (v1 HB.out GE101.out) hb);(try clear hb);(try clear hb2);(try clear hk);(try clear hi);have hcz46_0:=bd BK101.out 0;have hcz46_1:=bd BK101.out 1;have hfz46_0:=blk_frozen BK101.out 0;have hfz46_1:=blk_frozen BK101.out 1))
           (try simp only [Act.put,List.setIfInBounds_toArray,List.set_cons_zero,List.set_cons_succ])
           go_cut [17] (fun v17 wc => ∃ (kq : Nat) (x17_38 : Int),v17 = ii x17_38 ∧ Aside0 (calxlaw04_PitMixed.j1 kq ji24 (wrap64 (1 + (Int.tmod (wrap64 (a2)) (ji33)))) (wrap64 (1 + (Int.tmod (wrap64 (a3)) (ji35)))) t109 t110 x17_38 l0_0 l0_1 = some r) ∧ Aside0 (kq ≤ kj4) ∧ Aside0 (wc.heap[gb101]? = some (.cells #[(.slice (some ad107) l0_0.length c0_0),(.slice A0_1 l0_1.length c0_1)] 32 (0,0))) ∧ Aside0 (Below w.heap.size w wc))
           case first =>
            have H:=HC39.out
            clear HC39
            by_cases c47 : (l0_1.length : Int) > 0
            ·rw [if_pos c47] at H
             have c47b0 : decide (0 < (l0_1.length : Int)) = true:=decide_eq_true c47
             have c47b1 : decide (0 < l0_1.length) = true:=decide_eq_true (by omega)
             clear c47
             (first|rw [c47b0]|(simp only [i64_w,i32_w];rw [c47b0])|rw [c47b1]|skip)
             obtain ⟨ji48,hji48⟩ : ∃ j_ : Int,(wrap64 ((l0_1.length : Int) - 1)) = j_:=⟨_,rfl⟩
             replace H : (if 0 ≤ (ji48) then (if (ji48) < (l0_1.length : Int) then (calxlaw04_PitMixed.j1 kj4 ji24 (wrap64 (1 + (Int.tmod (wrap64 (a2)) (ji33)))) (wrap64 (1 + (Int.tmod (wrap64 (a3)) (ji35)))) t109 t110 ((rd_T84 l0_1 (ji48)).f2) l0_0 l0_1) else (none)) else (none)) = some r:=by first|(rw [hji48] at H;exact H)|(simp only [hji48] at H ⊢;exact H)
             have hji48w : (IntKind.i64.wrap ((l0_1.length : Int) - 1)) = ji48:=(i64_w _).trans hji48
             by_cases c49 : 0 ≤ (ji48)
             ·rw [if_pos c49] at H
              have c49b0 : decide (0 ≤ (ji48)) = true:=decide_eq_true c49
              clear c49
              by_cases c50 : (ji48) < (l0_1.length : Int)
              ·rw [if_pos c50] at H
               have c50b0 : decide ((ji48) < (l0_1.length : Int)) = true:=decide_eq_true c50
               clear c50
               have H':=am H
               clear H
               have hcz51_0:=bd BK101.out 0
               have hcz51_1:=bd BK101.out 1
               have hfz51_0:=blk_frozen BK101.out 0
               have hfz51_1:=blk_frozen BK101.out 1
               have p111 : 0 ≤ ((ji48) : Int):=of_decide_eq_true va
               have q111 : (ji48) < (l0_1.length : Int):=of_decide_eq_true va
               obtain ⟨ad111,e111,hx111_0,hx111_1,hx111_2,hx111_3,hx111_4,hx111_5⟩:=at_T84 HR0_1.out (ji48) p111 q111
               cases e111
               replace hx111_0:=(HB.out.cell (wb w _ hx111_0)).trans hx111_0
               replace hx111_1:=(HB.out.cell (wb w _ hx111_1)).trans hx111_1
               replace hx111_2:=(HB.out.cell (wb w _ hx111_2)).trans hx111_2
               replace hx111_3:=(HB.out.cell (wb w _ hx111_3)).trans hx111_3
               replace hx111_4:=(HB.out.cell (wb w _ hx111_4)).trans hx111_4
               replace hx111_5:=(HB.out.cell (wb w _ hx111_5)).trans hx111_5
               replace p111:=eq_true p111
               replace q111:=eq_true q111
               go_wp2
               go_meet
               case rel => exact ⟨_,((rd_T84 l0_1 (ji48)).f2),(by first|rfl|(simp;done)|(simp only [← hji48] <;> (first|rfl|simp))|(simp [*];done)),H',⟨by have:=HJ4.out;first|omega|exact Nat.le_refl _⟩,⟨vb BK101.out⟩,⟨v1 HB.out GE101.out⟩⟩
              ·rw [if_neg c50] at H
               exact absurd H (by simp)
             ·rw [if_neg c49] at H
              exact absurd H (by simp)
            ·rw [if_neg c47] at H
             have c47b0 : decide (0 < (l0_1.length : Int)) = false:=decide_eq_false c47
             have c47b1 : decide (0 < l0_1.length) = false:=decide_eq_false (by omega)
             clear c47
             (first|rw [c47b0]|(simp only [i64_w,i32_w];rw [c47b0])|rw [c47b1]|skip)
             have H':=am H
             clear H
             go_wp2
             go_meet
             case rel => exact ⟨_,(0),ve,H',⟨by have:=HJ4.out;first|omega|exact Nat.le_refl _⟩,⟨vb BK101.out⟩,⟨v1 HB.out GE101.out⟩⟩
           case rest =>
            clear HC39
            try clear c1;try clear p1;try clear q1;try clear hx1;try clear c2;try clear p2;try clear c3;try clear c4;try clear c5;try clear p6;try clear c8;try clear c9;try clear c9b0;try clear c9b1;try clear c9b2;try clear c10;try clear p10;try clear q10;try clear hx10;try clear p11;try clear q11;try clear hx11;try clear c18;try clear c21;try clear c21b0;try clear c21b1;try clear c21b2;try clear c23;try clear c23b0;try clear c23b1;try clear c25;try clear c25b0;try clear c26;try clear c26b0;try clear c27;try clear c27b0;try clear c34;try clear c34b0;try clear c34b1;try clear c36;try clear c36b0;try clear c36b1;try clear c47;try clear c47b0;try clear c47b1;try clear c49;try clear c49b0;try clear c50;try clear c50b0;try clear hcz10_0;try clear hcz10_1;try clear hcz12_0;try clear hcz12_1;try clear hcz13_0;try clear hcz13_1;try clear hcz15_0;try clear hcz15_1;try clear hcz16_0;try clear hcz16_1;try clear hcz29_0;try clear hcz29_1;try clear hcz31_0;try clear hcz31_1;try clear hcz40_0;try clear hcz40_1;try clear hcz42_0;try clear hcz42_1;try clear hcz44_0;try clear hcz44_1;try clear hcz46_0;try clear hcz46_1;try clear hcz51_0;try clear hcz51_1;try clear hfz10_0;try clear hfz10_1;try clear hfz12_0;try clear hfz12_1;try clear hfz13_0;try clear hfz13_1;try clear hfz15_0;try clear hfz15_1;try clear hfz16_0;try clear hfz16_1;try clear hfz29_0;try clear hfz29_1;try clear hfz31_0;try clear hfz31_1;try clear hfz40_0;try clear hfz40_1;try clear hfz42_0;try clear hfz42_1;try clear hfz44_0;try clear hfz44_1;try clear hfz46_0;try clear hfz46_1;try clear hfz51_0;try clear hfz51_1;try clear hx107_0;try clear hx111_0;try clear hx111_1;try clear hx111_2;try clear hx111_3;try clear hx111_4;try clear hx111_5;try clear p107;try clear p111;try clear p2;try clear q107;try clear q111
            obtain ⟨kq,x17_38,rfl,HA,HJ38,BK101,HB⟩:=hcut
            cases kq with
           |zero => exact absurd HA.out (by simp [calxlaw04_PitMixed.j1])
           |succ kj38 =>
             have H:=HA.out
             clear HA
             simp only [calxlaw04_PitMixed.j1] at H
             obtain ⟨y112,hy112⟩ : ∃ y_ : List (S84),y_ = (([] : List (S84))):=⟨_,rfl⟩
             replace H : (if y112.length + l0_1.length < 2932031007402 then ((some (y112 ++ l0_1 : List (S84))).bind fun y115 => ((some (([(⟨0,3,x17_38,ji24,0,0⟩ : S84),(⟨t109,2,x17_38,ji24,0,(wrap64 (1 + (Int.tmod (wrap64 (a2)) (ji33))))⟩ : S84),(⟨t110,2,x17_38,ji24,0,(wrap64 (1 + (Int.tmod (wrap64 (a3)) (ji35))))⟩ : S84)] : List (S84)) : List (S84))).bind fun y118 => (if y115.length + y118.length < 2932031007402 then ((some (y115 ++ y118 : List (S84))).bind fun y121 => ((pit_Check.f l0_0 y121).bind fun bt125 => (if bt125.1 = 0 then ((pit_Pours.f l0_0 y121).bind fun bt128 => (if bt128.2 = 0 then (calxlaw04_PitMixed.l0 kj38 t109 t110 bt128.1 (bt128.1.length : Int) 0 l0_0 y121) else (some false))) else ((calxlaw04_sanity.f).bind fun t127 => (if t127 = true then (some (bt125.1 == 3)) else (some false)))))) else (none)))) else (none)) = some r:=by first|(rw [hy112];with_reducible exact H)|(have H2_:=(Option.bind_some _ _).symm.trans H;rw [hy112];with_reducible exact H2_)|(have H2_:=(Option.bind_some _ _).symm.trans H;with_reducible exact H2_)|with_reducible exact H|(rw [hy112];exact H)|exact H
             have Ny112:=am hy112
             clear hy112
             by_cases c52 : y112.length + l0_1.length < 2932031007402
             ·rw [if_pos c52] at H
              have LMc52:=am c52
              clear c52
              obtain ⟨y115,hy115⟩ : ∃ y_ : List (S84),y_ = (y112 ++ l0_1):=⟨_,rfl⟩
              replace H : ((some (([(⟨0,3,x17_38,ji24,0,0⟩ : S84),(⟨t109,2,x17_38,ji24,0,(wrap64 (1 + (Int.tmod (wrap64 (a2)) (ji33))))⟩ : S84),(⟨t110,2,x17_38,ji24,0,(wrap64 (1 + (Int.tmod (wrap64 (a3)) (ji35))))⟩ : S84)] : List (S84)) : List (S84))).bind fun y118 => (if y115.length + y118.length < 2932031007402 then ((some (y115 ++ y118 : List (S84))).bind fun y121 => ((pit_Check.f l0_0 y121).bind fun bt125 => (if bt125.1 = 0 then ((pit_Pours.f l0_0 y121).bind fun bt128 => (if bt128.2 = 0 then (calxlaw04_PitMixed.l0 kj38 t109 t110 bt128.1 (bt128.1.length : Int) 0 l0_0 y121) else (some false))) else ((calxlaw04_sanity.f).bind fun t127 => (if t127 = true then (some (bt125.1 == 3)) else (some false)))))) else (none))) = some r:=by first|(rw [hy115];with_reducible exact H)|(have H2_:=(Option.bind_some _ _).symm.trans H;rw [hy115];with_reducible exact H2_)|(have H2_:=(Option.bind_some _ _).symm.trans H;with_reducible exact H2_)|with_reducible exact H|(rw [hy115];exact H)|exact H
              have Ny115:=am hy115
              clear hy115
              obtain ⟨y118,hy118⟩ : ∃ y_ : List (S84),y_ = (([(⟨0,3,x17_38,ji24,0,0⟩ : S84),(⟨t109,2,x17_38,ji24,0,(wrap64 (1 + (Int.tmod (wrap64 (a2)) (ji33))))⟩ : S84),(⟨t110,2,x17_38,ji24,0,(wrap64 (1 + (Int.tmod (wrap64 (a3)) (ji35))))⟩ : S84)] : List (S84))):=⟨_,rfl⟩
              replace H : (if y115.length + y118.length < 2932031007402 then ((some (y115 ++ y118 : List (S84))).bind fun y121 => ((pit_Check.f l0_0 y121).bind fun bt125 => (if bt125.1 = 0 then ((pit_Pours.f l0_0 y121).bind fun bt128 => (if bt128.2 = 0 then (calxlaw04_PitMixed.l0 kj38 t109 t110 bt128.1 (bt128.1.length : Int) 0 l0_0 y121) else (some false))) else ((calxlaw04_sanity.f).bind fun t127 => (if t127 = true then (some (bt125.1 == 3)) else (some false)))))) else (none)) = some r:=by first|(rw [hy118];with_reducible exact H)|(have H2_:=(Option.bind_some _ _).symm.trans H;rw [hy118];with_reducible exact H2_)|(have H2_:=(Option.bind_some _ _).symm.trans H;with_reducible exact H2_)|with_reducible exact H|(rw [hy118];exact H)|exact H
              have Ny118:=am hy118
              clear hy118
              by_cases c53 : y115.length + y118.length < 2932031007402
              ·rw [if_pos c53] at H
               have LMc53:=am c53
               clear c53
               obtain ⟨y121,hy121⟩ : ∃ y_ : List (S84),y_ = (y115 ++ y118):=⟨_,rfl⟩
               replace H : ((pit_Check.f l0_0 y121).bind fun bt125 => (if bt125.1 = 0 then ((pit_Pours.f l0_0 y121).bind fun bt128 => (if bt128.2 = 0 then (calxlaw04_PitMixed.l0 kj38 t109 t110 bt128.1 (bt128.1.length : Int) 0 l0_0 y121) else (some false))) else ((calxlaw04_sanity.f).bind fun t127 => (if t127 = true then (some (bt125.1 == 3)) else (some false))))) = some r:=by first|(rw [hy121];with_reducible exact H)|(have H2_:=(Option.bind_some _ _).symm.trans H;rw [hy121];with_reducible exact H2_)|(have H2_:=(Option.bind_some _ _).symm.trans H;with_reducible exact H2_)|with_reducible exact H|(rw [hy121];exact H)|exact H
               have Ny121:=am hy121
               clear hy121
               replace H:=Option.bind_eq_some_iff.mp H
               obtain ⟨⟨t125,t126⟩,A540,H⟩:=H
               replace H : (if t125 = 0 then ((pit_Pours.f l0_0 y121).bind fun bt128 => (if bt128.2 = 0 then (calxlaw04_PitMixed.l0 kj38 t109 t110 bt128.1 (bt128.1.length : Int) 0 l0_0 y121) else (some false))) else ((calxlaw04_sanity.f).bind fun t127 => (if t127 = true then (some (t125 == 3)) else (some false)))) = some r:=H
               have A54:=am A540
               clear A540
               by_cases c55 : t125 = 0
               ·rw [if_pos c55] at H
                have c55b0 : (t125 == 0) = true:=beq_iff_eq.mpr c55
                have c55b1 : (t125 != 0) = false:=bne_eq_false_iff_eq.mpr c55
                clear c55
                replace H:=Option.bind_eq_some_iff.mp H
                obtain ⟨⟨t128,t131⟩,A560,H⟩:=H
                replace H : (if t131 = 0 then (calxlaw04_PitMixed.l0 kj38 t109 t110 t128 (t128.length : Int) 0 l0_0 y121) else (some false)) = some r:=H
                have A56:=am A560
                clear A560
                by_cases c57 : t131 = 0
                ·rw [if_pos c57] at H
                 have c57b0 : (t131 == 0) = true:=beq_iff_eq.mpr c57
                 have c57b1 : (t131 != 0) = false:=bne_eq_false_iff_eq.mpr c57
                 clear c57
                 have H':=am H
                 clear H
                 try go_wp2
                 replace BK101:=am (blk_drew BK101.out)
                 replace HB:=am (below_drew1 HB.out)
                 refine start_ (n:=24) (S:=fun w' => w'.cell? ⟨gb101,0,none⟩ = some (.slice (some ad107) l0_0.length c0_0) ∧ w'.cell? ⟨gb101,1,none⟩ = some (.slice A0_1 l0_1.length c0_1)) (ds:=[]) (ab 24 0) kr rfl kr ⟨(blk_cell BK101.out 0).trans rfl,(blk_cell BK101.out 1).trans rfl⟩ (fun hHeld => ?_);refine with_tabW calxlaw04_PitMixed.tab18 calxlaw04_PitMixed.bits18 (fun HT_ HW_ => ?_)
                 generalize wc.drew = w58 at BK101 HB hHeld ⊢
                 refine qA 0 (some 106) ?_;refine qA 3 (some 109) ?_;refine qA 6 (some 112) ?_;refine qA 7 (some 113) ?_;refine qA 8 (some 114) ?_;refine qA 9 (some 115) ?_;refine qA 10 (some 116) ?_;refine qA 11 (some 117) ?_;refine qA 12 (some 118) ?_;refine qA 13 (some 119) ?_;refine qA 14 (some 120) ?_;refine qA 15 (some 121) ?_;refine qA 16 (some 122) ?_;refine qA 17 (some 123) ?_;refine qA 18 (some 124) ?_;refine qT 1 (some 107) ?_;refine qT 4 (some 110) ?_
                 refine join_ (σ:=Value × Value × Value × Value × Nat) 1 (ab 24 8388607) (fun s_ => [(108,s_.1),(111,s_.2.1),(125,s_.2.2.1),(126,s_.2.2.2.1),(19,.pointer (some ⟨s_.2.2.2.2,0,none⟩)),(127,.agg #[.slice (some ad107) l0_0.length c0_0,s_.2.2.2.1])]) (fun s_ w' => (w'.cell? ⟨gb101,0,none⟩ = some (.slice (some ad107) l0_0.length c0_0) ∧ w'.cell? ⟨gb101,1,none⟩ = some (.slice A0_1 l0_1.length c0_1)) ∧ (Kd.R k84 84 w' w.heap.size (fun k_ => some k_ ≠ (s_.2.2.2.1 : Value).ownBlock) s_.2.2.1 y118) ∧ (Kd.R k84 84 w' w.heap.size (fun k_ => some k_ ≠ (s_.2.2.1 : Value).ownBlock) s_.2.2.2.1 y121) ∧ (w'.heap[gb101]? = some (.cells #[.slice (some ad107) l0_0.length c0_0,.slice A0_1 l0_1.length c0_1] 32 (0,0))) ∧ (w'.heap[s_.2.2.2.2]? = some (.cells #[.slice none 0 0,.slice none 0 0] 32 (0,0))) ∧ (w.heap.size ≤ s_.2.2.2.2) ∧ (w.heap.size ≤ s_.2.2.2.2) ∧ (gb101 ≠ s_.2.2.2.2) ∧ (s_.2.2.2.2 ≠ gb101) ∧ (Below w.heap.size w w')) ?_ ?_
                 rotate_left
                 ·intro hJ2_5_19_20_22
                  refine join_ (σ:=Value × Value × Value × Value) 2 (ab 24 4194303) (fun s_ => [(108,s_.1),(111,s_.2.1),(125,s_.2.2.1),(126,s_.2.2.2),(127,.agg #[.slice (some ad107) l0_0.length c0_0,s_.2.2.2])]) (fun s_ w' => (w'.cell? ⟨gb101,0,none⟩ = some (.slice (some ad107) l0_0.length c0_0) ∧ w'.cell? ⟨gb101,1,none⟩ = some (.slice A0_1 l0_1.length c0_1)) ∧ (Kd.R k84 84 w' w.heap.size (fun k_ => some k_ ≠ (s_.2.2.2 : Value).ownBlock) s_.2.2.1 y118) ∧ (Kd.R k84 84 w' w.heap.size (fun k_ => some k_ ≠ (s_.2.2.1 : Value).ownBlock) s_.2.2.2 y121) ∧ (w'.heap[gb101]? = some (.cells #[.slice (some ad107) l0_0.length c0_0,.slice A0_1 l0_1.length c0_1] 32 (0,0))) ∧ (Below w.heap.size w w')) ?_ ?_
                  rotate_left
                  ·intro hJ2_5_19_20
                   refine join_ (σ:=Value × Value × Value × Nat) 3 (ab 24 5242879) (fun s_ => [(108,s_.1),(111,s_.2.1),(125,s_.2.2.1),(19,.pointer (some ⟨s_.2.2.2,0,none⟩))]) (fun s_ w' => (w'.cell? ⟨gb101,0,none⟩ = some (.slice (some ad107) l0_0.length c0_0) ∧ w'.cell? ⟨gb101,1,none⟩ = some (.slice A0_1 l0_1.length c0_1)) ∧ (Kd.R k84 84 w' w.heap.size (fun k_ => some k_ ≠ (s_.2.2.1 : Value).ownBlock) s_.2.1 y115) ∧ (Kd.R k84 84 w' w.heap.size (fun k_ => some k_ ≠ (s_.2.1 : Value).ownBlock) s_.2.2.1 y118) ∧ (w'.heap[gb101]? = some (.cells #[.slice (some ad107) l0_0.length c0_0,.slice A0_1 l0_1.length c0_1] 32 (0,0))) ∧ (w'.heap[s_.2.2.2]? = some (.cells #[.slice none 0 0,.slice none 0 0] 32 (0,0))) ∧ (w.heap.size ≤ s_.2.2.2) ∧ (w.heap.size ≤ s_.2.2.2) ∧ (gb101 ≠ s_.2.2.2) ∧ (s_.2.2.2 ≠ gb101) ∧ (Below w.heap.size w w')) ?_ ?_
                   rotate_left
                   ·intro hJ2_5_19_22
                    refine join_ (σ:=Value × Value × Value) 4 (ab 24 1048575) (fun s_ => [(108,s_.1),(111,s_.2.1),(125,s_.2.2)]) (fun s_ w' => (w'.cell? ⟨gb101,0,none⟩ = some (.slice (some ad107) l0_0.length c0_0) ∧ w'.cell? ⟨gb101,1,none⟩ = some (.slice A0_1 l0_1.length c0_1)) ∧ (Kd.R k84 84 w' w.heap.size (fun k_ => some k_ ≠ (s_.2.2 : Value).ownBlock) s_.2.1 y115) ∧ (Kd.R k84 84 w' w.heap.size (fun k_ => some k_ ≠ (s_.2.1 : Value).ownBlock) s_.2.2 y118) ∧ (w'.heap[gb101]? = some (.cells #[.slice (some ad107) l0_0.length c0_0,.slice A0_1 l0_1.length c0_1] 32 (0,0))) ∧ (Below w.heap.size w w')) ?_ ?_
                    rotate_left
                    ·intro hJ2_5_19
                     refine join_ (σ:=Value × Value × Nat) 4 (ab 24 4718591) (fun s_ => [(108,s_.1),(111,s_.2.1),(19,.pointer (some ⟨s_.2.2,0,none⟩))]) (fun s_ w' => (w'.cell? ⟨gb101,0,none⟩ = some (.slice (some ad107) l0_0.length c0_0) ∧ w'.cell? ⟨gb101,1,none⟩ = some (.slice A0_1 l0_1.length c0_1)) ∧ (Kd.R k84 84 w' w.heap.size (fun _ => True) s_.2.1 y115) ∧ (w'.heap[gb101]? = some (.cells #[.slice (some ad107) l0_0.length c0_0,.slice A0_1 l0_1.length c0_1] 32 (0,0))) ∧ (w'.heap[s_.2.2]? = some (.cells #[.slice none 0 0,.slice none 0 0] 32 (0,0))) ∧ (w.heap.size ≤ s_.2.2) ∧ (w.heap.size ≤ s_.2.2) ∧ (gb101 ≠ s_.2.2) ∧ (s_.2.2 ≠ gb101) ∧ (Below w.heap.size w w')) ?_ ?_
                     rotate_left
                     ·intro hJ2_5_22
                      refine join_ (σ:=Value × Value × Nat) 4 (ab 24 5242847) (fun s_ => [(108,s_.1),(125,s_.2.1),(19,.pointer (some ⟨s_.2.2,0,none⟩))]) (fun s_ w' => (w'.cell? ⟨gb101,0,none⟩ = some (.slice (some ad107) l0_0.length c0_0) ∧ w'.cell? ⟨gb101,1,none⟩ = some (.slice A0_1 l0_1.length c0_1)) ∧ (Kd.R k84 84 w' w.heap.size (fun k_ => some k_ ≠ (s_.2.1 : Value).ownBlock) s_.1 y112) ∧ (Kd.R k84 84 w' w.heap.size (fun k_ => some k_ ≠ (s_.1 : Value).ownBlock) s_.2.1 y118) ∧ (w'.heap[gb101]? = some (.cells #[.slice (some ad107) l0_0.length c0_0,.slice A0_1 l0_1.length c0_1] 32 (0,0))) ∧ (w'.heap[s_.2.2]? = some (.cells #[.slice none 0 0,.slice none 0 0] 32 (0,0))) ∧ (w.heap.size ≤ s_.2.2) ∧ (w.heap.size ≤ s_.2.2) ∧ (gb101 ≠ s_.2.2) ∧ (s_.2.2 ≠ gb101) ∧ (Below w.heap.size w w')) ?_ ?_
                      rotate_left
                      ·intro hJ2_19_22
                       refine join_ (σ:=Value × Value) 5 (ab 24 524287) (fun s_ => [(108,s_.1),(111,s_.2)]) (fun s_ w' => (w'.cell? ⟨gb101,0,none⟩ = some (.slice (some ad107) l0_0.length c0_0) ∧ w'.cell? ⟨gb101,1,none⟩ = some (.slice A0_1 l0_1.length c0_1)) ∧ (Kd.R k84 84 w' w.heap.size (fun _ => True) s_.2 y115) ∧ (w'.heap[gb101]? = some (.cells #[.slice (some ad107) l0_0.length c0_0,.slice A0_1 l0_1.length c0_1] 32 (0,0))) ∧ (Below w.heap.size w w')) ?_ ?_
                       rotate_left
                       ·intro hJ2_5
                        refine join_ (σ:=Value × Value) 5 (ab 24 1048543) (fun s_ => [(108,s_.1),(125,s_.2)]) (fun s_ w' => (w'.cell? ⟨gb101,0,none⟩ = some (.slice (some ad107) l0_0.length c0_0) ∧ w'.cell? ⟨gb101,1,none⟩ = some (.slice A0_1 l0_1.length c0_1)) ∧ (Kd.R k84 84 w' w.heap.size (fun k_ => some k_ ≠ (s_.2 : Value).ownBlock) s_.1 y112) ∧ (Kd.R k84 84 w' w.heap.size (fun k_ => some k_ ≠ (s_.1 : Value).ownBlock) s_.2 y118) ∧ (w'.heap[gb101]? = some (.cells #[.slice (some ad107) l0_0.length c0_0,.slice A0_1 l0_1.length c0_1] 32 (0,0))) ∧ (Below w.heap.size w w')) ?_ ?_
                        rotate_left
                        ·intro hJ2_19
                         refine join_ (σ:=Value × Nat) 5 (ab 24 4718559) (fun s_ => [(108,s_.1),(19,.pointer (some ⟨s_.2,0,none⟩))]) (fun s_ w' => (w'.cell? ⟨gb101,0,none⟩ = some (.slice (some ad107) l0_0.length c0_0) ∧ w'.cell? ⟨gb101,1,none⟩ = some (.slice A0_1 l0_1.length c0_1)) ∧ (Kd.R k84 84 w' w.heap.size (fun _ => True) s_.1 y112) ∧ (w'.heap[gb101]? = some (.cells #[.slice (some ad107) l0_0.length c0_0,.slice A0_1 l0_1.length c0_1] 32 (0,0))) ∧ (w'.heap[s_.2]? = some (.cells #[.slice none 0 0,.slice none 0 0] 32 (0,0))) ∧ (w.heap.size ≤ s_.2) ∧ (w.heap.size ≤ s_.2) ∧ (gb101 ≠ s_.2) ∧ (s_.2 ≠ gb101) ∧ (Below w.heap.size w w')) ?_ ?_
                         rotate_left
                         ·intro hJ2_22
                          refine join_ (σ:=Value × Nat) 5 (ab 24 5242843) (fun s_ => [(125,s_.1),(19,.pointer (some ⟨s_.2,0,none⟩))]) (fun s_ w' => (w'.cell? ⟨gb101,0,none⟩ = some (.slice (some ad107) l0_0.length c0_0) ∧ w'.cell? ⟨gb101,1,none⟩ = some (.slice A0_1 l0_1.length c0_1)) ∧ (Kd.R k84 84 w' w.heap.size (fun _ => True) s_.1 y118) ∧ (w'.heap[gb101]? = some (.cells #[.slice (some ad107) l0_0.length c0_0,.slice A0_1 l0_1.length c0_1] 32 (0,0))) ∧ (w'.heap[s_.2]? = some (.cells #[.slice none 0 0,.slice none 0 0] 32 (0,0))) ∧ (w.heap.size ≤ s_.2) ∧ (w.heap.size ≤ s_.2) ∧ (gb101 ≠ s_.2) ∧ (s_.2 ≠ gb101) ∧ (Below w.heap.size w w')) ?_ ?_
                          rotate_left
                          ·intro hJ19_22
                           refine join_ (σ:=Value) 6 (ab 24 524255) (fun s_ => [(108,s_)]) (fun s_ w' => (w'.cell? ⟨gb101,0,none⟩ = some (.slice (some ad107) l0_0.length c0_0) ∧ w'.cell? ⟨gb101,1,none⟩ = some (.slice A0_1 l0_1.length c0_1)) ∧ (Kd.R k84 84 w' w.heap.size (fun _ => True) s_ y112) ∧ (w'.heap[gb101]? = some (.cells #[.slice (some ad107) l0_0.length c0_0,.slice A0_1 l0_1.length c0_1] 32 (0,0))) ∧ (Below w.heap.size w w')) ?_ ?_
                           rotate_left
                           ·intro hJ2
                            refine join_ (σ:=Value) 6 (ab 24 1048539) (fun s_ => [(125,s_)]) (fun s_ w' => (w'.cell? ⟨gb101,0,none⟩ = some (.slice (some ad107) l0_0.length c0_0) ∧ w'.cell? ⟨gb101,1,none⟩ = some (.slice A0_1 l0_1.length c0_1)) ∧ (Kd.R k84 84 w' w.heap.size (fun _ => True) s_ y118) ∧ (w'.heap[gb101]? = some (.cells #[.slice (some ad107) l0_0.length c0_0,.slice A0_1 l0_1.length c0_1] 32 (0,0))) ∧ (Below w.heap.size w w')) ?_ ?_
                            rotate_left
                            ·intro hJ19
                             refine join_ (σ:=Nat) 6 (ab 24 4718555) (fun s_ => [(19,.pointer (some ⟨s_,0,none⟩))]) (fun s_ w' => (w'.cell? ⟨gb101,0,none⟩ = some (.slice (some ad107) l0_0.length c0_0) ∧ w'.cell? ⟨gb101,1,none⟩ = some (.slice A0_1 l0_1.length c0_1)) ∧ (w'.heap[gb101]? = some (.cells #[.slice (some ad107) l0_0.length c0_0,.slice A0_1 l0_1.length c0_1] 32 (0,0))) ∧ (w'.heap[s_]? = some (.cells #[.slice none 0 0,.slice none 0 0] 32 (0,0))) ∧ (w.heap.size ≤ s_) ∧ (w.heap.size ≤ s_) ∧ (gb101 ≠ s_) ∧ (s_ ≠ gb101) ∧ (Below w.heap.size w w')) ?_ ?_
                             rotate_left
                             ·intro hJ22
                              refine three_ (i:=2) (j:=19) (k:=22) (Ni:=some 108) (Nj:=some 125) (Nk:=some 19) (ab 24 524255) (ab 24 1048539) (ab 24 4718555) rfl rfl rfl rfl rfl rfl (three_of HT_.out kr) (by decide) (by decide) (by decide) (fun K hK => ?_) (fun K hK => ?_) (fun K hK => ?_)
                              ·skip
                               refine Kd.R_lit_step k84 _ 84 ?hg (N:=108) ?hd (xs:=([] : List (S84))) (inner:=[]) (ok:=fun _ => True) (okp:=fun _ => True) ?hr ?hp (fun _ hk => hk) trivial (Below.refl _ _) (Nat.le_refl _) (by simp) ?_;(case hd => rfl);(case hg => rfl);(case hr => first|(go_simp;done)|(go_simp;rfl));(case hp => exact (Reps.none _ _))
                               intro v113 w59 ho60 hb hg_ hnew_
                               clear hg_ hnew_
                               (first|rw [← Ny112.out] at ho60|(simp only [Int.reduceToNat] at ho60;rw [← Ny112.out] at ho60))
                               have HO114:=am (Kd.R_lower ho60 (below_size (v1 HB.out GE101.out)))
                               replace BK101:=am (blk_below (vb BK101.out) hb)
                               replace HB:=am (below_step (v1 HB.out GE101.out) hb)
                               clear hb ho60
                               refine hK.out _ _ ⟨(blk_cell BK101.out 0).trans rfl,(blk_cell BK101.out 1).trans rfl⟩ (fun hHeld => ?_)
                               clear hK K
                               refine qN (some 108) ?_
                               exact nP (hJ2 (v113) _ ⟨hHeld,(wR HO114.out),(vb BK101.out),(v1 HB.out GE101.out)⟩)
                              ·skip
                               refine Kd.R_lit_step k84 _ 84 ?hg (N:=125) ?hd (xs:=([(⟨0,3,x17_38,ji24,0,0⟩ : S84),(⟨t109,2,x17_38,ji24,0,(wrap64 (1 + (Int.tmod (wrap64 (a2)) (ji33))))⟩ : S84),(⟨t110,2,x17_38,ji24,0,(wrap64 (1 + (Int.tmod (wrap64 (a3)) (ji35))))⟩ : S84)] : List (S84))) (inner:=[ii 0,ii 3,ii x17_38,ii ji24,ii 0,ii 0,ii t109,ii 2,ii x17_38,ii ji24,ii 0,ii (wrap64 (1 + (Int.tmod (wrap64 (a2)) (ji33)))),ii t110,ii 2,ii x17_38,ii ji24,ii 0,ii (wrap64 (1 + (Int.tmod (wrap64 (a3)) (ji35))))]) (ok:=fun _ => True) (okp:=fun _ => True) ?hr ?hp (fun _ hk => hk) trivial (Below.refl _ _) (Nat.le_refl _) (by simp) ?_;(case hd => rfl);(case hg => rfl);(case hr => first|(go_simp;done)|(go_simp;rfl));(case hp => exact (Reps.c6 (show Kd.M k84 _ _ _ (⟨0,3,x17_38,ji24,0,0⟩ : S84) [ii 0,ii 3,ii x17_38,ii ji24,ii 0,ii 0] from (k84_mkM _ _ _ (⟨0,3,x17_38,ji24,0,0⟩ : S84) )) (Reps.c6 (show Kd.M k84 _ _ _ (⟨t109,2,x17_38,ji24,0,(wrap64 (1 + (Int.tmod (wrap64 (a2)) (ji33))))⟩ : S84) [ii t109,ii 2,ii x17_38,ii ji24,ii 0,ii (wrap64 (1 + (Int.tmod (wrap64 (a2)) (ji33))))] from (k84_mkM _ _ _ (⟨t109,2,x17_38,ji24,0,(wrap64 (1 + (Int.tmod (wrap64 (a2)) (ji33))))⟩ : S84) )) (Reps.c6 (show Kd.M k84 _ _ _ (⟨t110,2,x17_38,ji24,0,(wrap64 (1 + (Int.tmod (wrap64 (a3)) (ji35))))⟩ : S84) [ii t110,ii 2,ii x17_38,ii ji24,ii 0,ii (wrap64 (1 + (Int.tmod (wrap64 (a3)) (ji35))))] from (k84_mkM _ _ _ (⟨t110,2,x17_38,ji24,0,(wrap64 (1 + (Int.tmod (wrap64 (a3)) (ji35))))⟩ : S84) )) (Reps.none _ _)))))
                               intro v119 w59 ho60 hb hg_ hnew_
                               clear hg_ hnew_
                               (first|rw [← Ny118.out] at ho60|(simp only [Int.reduceToNat] at ho60;rw [← Ny118.out] at ho60))
                               have HO120:=am (Kd.R_lower ho60 (below_size (v1 HB.out GE101.out)))
                               replace BK101:=am (blk_below (vb BK101.out) hb)
                               replace HB:=am (below_step (v1 HB.out GE101.out) hb)
                               clear hb ho60
                               refine hK.out _ _ ⟨(blk_cell BK101.out 0).trans rfl,(blk_cell BK101.out 1).trans rfl⟩ (fun hHeld => ?_)
                               clear hK K
                               refine qN (some 125) ?_
                               exact nP (hJ19 (v119) _ ⟨hHeld,(wR HO120.out),(vb BK101.out),(v1 HB.out GE101.out)⟩)
                              ·skip
                               refine box_step ?hg (N:=19) ?hd (cs:=#[.slice none 0 0,.slice none 0 0]) (t:=32) ?hr ?_;(case hd => rfl);(case hg => rfl);(case hr => first|(go_simp;done)|(go_simp;rfl))
                               intro gb124 hg w59 hbox hb
                               have BK124:=am (hbox)
                               have GW124:=am (lg hg (below_size (v1 HB.out GE101.out)) : w.heap.size ≤ gb124)
                               have GE124:=GW124
                               have NB101_124:=am (nl hg (vb BK101.out))
                               have NB124_101:=am ((nl hg (vb BK101.out)).symm)
                               replace BK101:=am (blk_below (vb BK101.out) hb)
                               replace HB:=am (below_step (v1 HB.out GE101.out) hb)
                               clear hb hbox hg
                               refine hK.out _ _ ⟨(blk_cell BK101.out 0).trans rfl,(blk_cell BK101.out 1).trans rfl⟩ (fun hHeld => ?_)
                               clear hK K
                               refine qN (some 19) ?_
                               exact nP (hJ22 (gb124) _ ⟨hHeld,(vb BK101.out),(vb BK124.out),GW124.out,GE124.out,NB101_124.out,NB124_101.out,(v2 HB.out GE101.out GE124.out)⟩)
                             ·skip
                              rintro gb124 w60 ⟨hS_,h0_,h1_,h2_,h3_,h4_,h5_,h6_⟩
                              have BK124 : Aside0 (w60.heap[gb124]? = some (.cells #[.slice none 0 0,.slice none 0 0] 32 (0,0))):=⟨h1_⟩
                              have GW124 : Aside0 (w.heap.size ≤ gb124):=⟨h2_⟩
                              have GE124 : Aside0 (w.heap.size ≤ gb124):=⟨h3_⟩
                              have NB101_124 : Aside0 (gb101 ≠ gb124):=⟨h4_⟩
                              have NB124_101 : Aside0 (gb124 ≠ gb101):=⟨h5_⟩
                              replace BK101 : Aside0 (w60.heap[gb101]? = some (.cells #[.slice (some ad107) l0_0.length c0_0,.slice A0_1 l0_1.length c0_1] 32 (0,0))):=⟨h0_⟩
                              replace HB : Aside0 (Below w.heap.size w w60):=⟨h6_⟩
                              clear h0_ h1_ h2_ h3_ h4_ h5_ h6_
                              have hHeld : w60.cell? ⟨gb101,0,none⟩ = some (.slice (some ad107) l0_0.length c0_0) ∧ w60.cell? ⟨gb101,1,none⟩ = some (.slice A0_1 l0_1.length c0_1):=hS_
                              refine norm_ (a':=?_) ?_ ?_
                              rotate_left
                              ·simp only [Go.Proofs.YtjjfpmapjjemcaaGreatW.PrintLast.putAll,Act.put,List.setIfInBounds_toArray,List.set_cons_zero,List.set_cons_succ]
                               rfl
                              refine two_ (i:=2) (j:=19) (Ni:=some 108) (Nj:=some 125) (ab 24 4718559) (ab 24 5242843) rfl rfl rfl rfl (two_of HT_.out kr) (by decide) (by decide) (fun K hK => ?_) (fun K hK => ?_)
                              ·skip
                               refine Kd.R_lit_step k84 _ 84 ?hg (N:=108) ?hd (xs:=([] : List (S84))) (inner:=[]) (ok:=fun _ => True) (okp:=fun _ => True) ?hr ?hp (fun _ hk => hk) trivial (Below.refl _ _) (Nat.le_refl _) (by simp) ?_;(case hd => rfl);(case hg => rfl);(case hr => first|(go_simp;done)|(go_simp;rfl));(case hp => exact (Reps.none _ _))
                               intro v113 w61 ho62 hb hg_ hnew_
                               clear hg_ hnew_
                               (first|rw [← Ny112.out] at ho62|(simp only [Int.reduceToNat] at ho62;rw [← Ny112.out] at ho62))
                               have HO114:=am (Kd.R_lower ho62 (below_size (v2 HB.out GE101.out GE124.out)))
                               replace BK101:=am (blk_below (vb BK101.out) hb)
                               replace BK124:=am (blk_below (vb BK124.out) hb)
                               replace HB:=am (below_step (v2 HB.out GE101.out GE124.out) hb)
                               clear hb ho62
                               refine hK.out _ _ ⟨(blk_cell BK101.out 0).trans rfl,(blk_cell BK101.out 1).trans rfl⟩ (fun hHeld => ?_)
                               clear hK K
                               refine qN (some 108) ?_
                               exact nP (hJ2_22 (v113,gb124) _ ⟨hHeld,(wR HO114.out),(vb BK101.out),(vb BK124.out),GW124.out,GE124.out,NB101_124.out,NB124_101.out,(v2 HB.out GE101.out GE124.out)⟩)
                              ·skip
                               refine Kd.R_lit_step k84 _ 84 ?hg (N:=125) ?hd (xs:=([(⟨0,3,x17_38,ji24,0,0⟩ : S84),(⟨t109,2,x17_38,ji24,0,(wrap64 (1 + (Int.tmod (wrap64 (a2)) (ji33))))⟩ : S84),(⟨t110,2,x17_38,ji24,0,(wrap64 (1 + (Int.tmod (wrap64 (a3)) (ji35))))⟩ : S84)] : List (S84))) (inner:=[ii 0,ii 3,ii x17_38,ii ji24,ii 0,ii 0,ii t109,ii 2,ii x17_38,ii ji24,ii 0,ii (wrap64 (1 + (Int.tmod (wrap64 (a2)) (ji33)))),ii t110,ii 2,ii x17_38,ii ji24,ii 0,ii (wrap64 (1 + (Int.tmod (wrap64 (a3)) (ji35))))]) (ok:=fun _ => True) (okp:=fun _ => True) ?hr ?hp (fun _ hk => hk) trivial (Below.refl _ _) (Nat.le_refl _) (by simp) ?_;(case hd => rfl);(case hg => rfl);(case hr => first|(go_simp;done)|(go_simp;rfl));(case hp => exact (Reps.c6 (show Kd.M k84 _ _ _ (⟨0,3,x17_38,ji24,0,0⟩ : S84) [ii 0,ii 3,ii x17_38,ii ji24,ii 0,ii 0] from (k84_mkM _ _ _ (⟨0,3,x17_38,ji24,0,0⟩ : S84) )) (Reps.c6 (show Kd.M k84 _ _ _ (⟨t109,2,x17_38,ji24,0,(wrap64 (1 + (Int.tmod (wrap64 (a2)) (ji33))))⟩ : S84) [ii t109,ii 2,ii x17_38,ii ji24,ii 0,ii (wrap64 (1 + (Int.tmod (wrap64 (a2)) (ji33))))] from (k84_mkM _ _ _ (⟨t109,2,x17_38,ji24,0,(wrap64 (1 + (Int.tmod (wrap64 (a2)) (ji33))))⟩ : S84) )) (Reps.c6 (show Kd.M k84 _ _ _ (⟨t110,2,x17_38,ji24,0,(wrap64 (1 + (Int.tmod (wrap64 (a3)) (ji35))))⟩ : S84) [ii t110,ii 2,ii x17_38,ii ji24,ii 0,ii (wrap64 (1 + (Int.tmod (wrap64 (a3)) (ji35))))] from (k84_mkM _ _ _ (⟨t110,2,x17_38,ji24,0,(wrap64 (1 + (Int.tmod (wrap64 (a3)) (ji35))))⟩ : S84) )) (Reps.none _ _)))))
                               intro v119 w61 ho62 hb hg_ hnew_
                               clear hg_ hnew_
                               (first|rw [← Ny118.out] at ho62|(simp only [Int.reduceToNat] at ho62;rw [← Ny118.out] at ho62))
                               have HO120:=am (Kd.R_lower ho62 (below_size (v2 HB.out GE101.out GE124.out)))
                               replace BK101:=am (blk_below (vb BK101.out) hb)
                               replace BK124:=am (blk_below (vb BK124.out) hb)
                               replace HB:=am (below_step (v2 HB.out GE101.out GE124.out) hb)
                               clear hb ho62
                               refine hK.out _ _ ⟨(blk_cell BK101.out 0).trans rfl,(blk_cell BK101.out 1).trans rfl⟩ (fun hHeld => ?_)
                               clear hK K
                               refine qN (some 125) ?_
                               exact nP (hJ19_22 (v119,gb124) _ ⟨hHeld,(wR HO120.out),(vb BK101.out),(vb BK124.out),GW124.out,GE124.out,NB101_124.out,NB124_101.out,(v2 HB.out GE101.out GE124.out)⟩)
                            ·skip
                             rintro v119 w61 ⟨hS_,h0_,h1_,h2_⟩
                             have HO120 : Aside0 (Kd.R k84 84 w61 w.heap.size (fun _ => True) v119 y118):=⟨h0_⟩
                             replace BK101 : Aside0 (w61.heap[gb101]? = some (.cells #[.slice (some ad107) l0_0.length c0_0,.slice A0_1 l0_1.length c0_1] 32 (0,0))):=⟨h1_⟩
                             replace HB : Aside0 (Below w.heap.size w w61):=⟨h2_⟩
                             clear h0_ h1_ h2_
                             have hHeld : w61.cell? ⟨gb101,0,none⟩ = some (.slice (some ad107) l0_0.length c0_0) ∧ w61.cell? ⟨gb101,1,none⟩ = some (.slice A0_1 l0_1.length c0_1):=hS_
                             refine norm_ (a':=?_) ?_ ?_
                             rotate_left
                             ·simp only [Go.Proofs.YtjjfpmapjjemcaaGreatW.PrintLast.putAll,Act.put,List.setIfInBounds_toArray,List.set_cons_zero,List.set_cons_succ]
                              rfl
                             refine two_ (i:=2) (j:=22) (Ni:=some 108) (Nj:=some 19) (ab 24 1048543) (ab 24 5242843) rfl rfl rfl rfl (two_of HT_.out kr) (by decide) (by decide) (fun K hK => ?_) (fun K hK => ?_)
                             ·skip
                              refine Kd.R_lit_step k84 _ 84 ?hg (N:=108) ?hd (xs:=([] : List (S84))) (inner:=[]) (ok:=fun _ => True) (okp:=fun _ => True) ?hr ?hp (fun _ hk => hk) trivial (Below.refl _ _) (Nat.le_refl _) (by simp) ?_;(case hd => rfl);(case hg => rfl);(case hr => first|(go_simp;done)|(go_simp;rfl));(case hp => exact (Reps.none _ _))
                              intro v113 w62 ho63 hb hg_ hnew_
                              clear hg_ hnew_
                              (first|rw [← Ny112.out] at ho63|(simp only [Int.reduceToNat] at ho63;rw [← Ny112.out] at ho63))
                              have HO114:=am (Kd.R_lower (Kd.R_new' ho63 (Kd.R_lt (wR HO120.out))) (below_size (v1 HB.out GE101.out)))
                              replace HO120:=am (Kd.R_elder' (wR HO120.out) (Kd.R_base ho63) hb)
                              replace BK101:=am (blk_below (vb BK101.out) hb)
                              replace HB:=am (below_step (v1 HB.out GE101.out) hb)
                              clear hb ho63
                              refine hK.out _ _ ⟨(blk_cell BK101.out 0).trans rfl,(blk_cell BK101.out 1).trans rfl⟩ (fun hHeld => ?_)
                              clear hK K
                              refine qN (some 108) ?_
                              exact nP (hJ2_19 (v113,v119) _ ⟨hHeld,(by (with_reducible repeat (first|apply Kd.R_alloc|apply Kd.R_drewN|apply Kd.R_drew));exact Kd.R_mono HO114.out (fun _ hk => hk.2)),(by (with_reducible repeat (first|apply Kd.R_alloc|apply Kd.R_drewN|apply Kd.R_drew));exact Kd.R_mono HO120.out (fun _ hk => hk.2)),(vb BK101.out),(v1 HB.out GE101.out)⟩)
                             ·skip
                              refine box_step ?hg (N:=19) ?hd (cs:=#[.slice none 0 0,.slice none 0 0]) (t:=32) ?hr ?_;(case hd => rfl);(case hg => rfl);(case hr => first|(go_simp;done)|(go_simp;rfl))
                              intro gb124 hg w62 hbox hb
                              have BK124:=am (hbox)
                              have GW124:=am (lg hg (below_size (v1 HB.out GE101.out)) : w.heap.size ≤ gb124)
                              have GE124:=GW124
                              have NB101_124:=am (nl hg (vb BK101.out))
                              have NB124_101:=am ((nl hg (vb BK101.out)).symm)
                              replace HO120:=am (Kd.R_below (wR HO120.out) hb)
                              replace BK101:=am (blk_below (vb BK101.out) hb)
                              replace HB:=am (below_step (v1 HB.out GE101.out) hb)
                              clear hb hbox hg
                              refine hK.out _ _ ⟨(blk_cell BK101.out 0).trans rfl,(blk_cell BK101.out 1).trans rfl⟩ (fun hHeld => ?_)
                              clear hK K
                              refine qN (some 19) ?_
                              exact nP (hJ19_22 (v119,gb124) _ ⟨hHeld,(wR HO120.out),(vb BK101.out),(vb BK124.out),GW124.out,GE124.out,NB101_124.out,NB124_101.out,(v2 HB.out GE101.out GE124.out)⟩)
                           ·skip
                            rintro v113 w61 ⟨hS_,h0_,h1_,h2_⟩
                            have HO114 : Aside0 (Kd.R k84 84 w61 w.heap.size (fun _ => True) v113 y112):=⟨h0_⟩
                            replace BK101 : Aside0 (w61.heap[gb101]? = some (.cells #[.slice (some ad107) l0_0.length c0_0,.slice A0_1 l0_1.length c0_1] 32 (0,0))):=⟨h1_⟩
                            replace HB : Aside0 (Below w.heap.size w w61):=⟨h2_⟩
                            clear h0_ h1_ h2_
                            have hHeld : w61.cell? ⟨gb101,0,none⟩ = some (.slice (some ad107) l0_0.length c0_0) ∧ w61.cell? ⟨gb101,1,none⟩ = some (.slice A0_1 l0_1.length c0_1):=hS_
                            refine norm_ (a':=?_) ?_ ?_
                            rotate_left
                            ·simp only [Go.Proofs.YtjjfpmapjjemcaaGreatW.PrintLast.putAll,Act.put,List.setIfInBounds_toArray,List.set_cons_zero,List.set_cons_succ]
                             rfl
                            refine three_ (i:=5) (j:=19) (k:=22) (Ni:=some 111) (Nj:=some 125) (Nk:=some 19) (ab 24 524287) (ab 24 1048543) (ab 24 4718559) rfl rfl rfl rfl rfl rfl (three_of HT_.out kr) (by decide) (by decide) (by decide) (fun K hK => ?_) (fun K hK => ?_) (fun K hK => ?_)
                            ·skip
                             refine Kd.R_append_rows_step k84 (w0:=w) w.heap.size (by rfl) (.tmp 108) (.tmp 110) 30 84 (.agg #[(ii 0),(ii 0),(ii 0),(ii 0),(ii 0),(ii 0)]) 48 rfl Tryz.underlying30 info84 rfl (by decide) (by omega) v113 y112 l0_1 _ _ _ (fun _ => True) (fun _ => False) rfl rfl ?aO ?aR (fun _ _ h => h) (fun _ h => h.elim) ?aF ?aB ?aS ?aL ?_
                             (case aR => repeat (first|exact (Kd.C_below HR0_1.out HB.out)|(with_reducible refine Kd.C_alloc ?_ _)|(with_reducible refine Kd.C_drewN ?_ _)|(with_reducible refine Kd.C_drew ?_)))
                             (case aB => exact (v1 HB.out GE101.out))
                             (case aF => exact (fun _ _ => trivial))
                             (case aO => exact (wR HO114.out))
                             (case aS => exact (below_size (v1 HB.out GE101.out)))
                             (case aL => have:=LMc52.out;omega)
                             intro v116 w62 ho hb hg hat
                             rw [← Ny115.out] at ho
                             have HO117:=am (ho)
                             replace BK101:=am (blk_grown (g:=gb101) (o:=.cells #[.slice (some ad107) l0_0.length c0_0,.slice A0_1 l0_1.length c0_1] 32 (0,0)) (vb BK101.out) hg (Kd.R_ne HO114.out BK101.out (by decide)))
                             replace HB:=am (hb)
                             clear HO114
                             clear ho hb hg hat
                             refine hK.out _ _ ⟨(blk_cell BK101.out 0).trans rfl,(blk_cell BK101.out 1).trans rfl⟩ (fun hHeld => ?_)
                             clear hK K
                             refine qN (some 111) ?_
                             exact nP (hJ2_5 (v113,v116) _ ⟨hHeld,(wR HO117.out),(vb BK101.out),(v1 HB.out GE101.out)⟩)
                            ·skip
                             refine Kd.R_lit_step k84 _ 84 ?hg (N:=125) ?hd (xs:=([(⟨0,3,x17_38,ji24,0,0⟩ : S84),(⟨t109,2,x17_38,ji24,0,(wrap64 (1 + (Int.tmod (wrap64 (a2)) (ji33))))⟩ : S84),(⟨t110,2,x17_38,ji24,0,(wrap64 (1 + (Int.tmod (wrap64 (a3)) (ji35))))⟩ : S84)] : List (S84))) (inner:=[ii 0,ii 3,ii x17_38,ii ji24,ii 0,ii 0,ii t109,ii 2,ii x17_38,ii ji24,ii 0,ii (wrap64 (1 + (Int.tmod (wrap64 (a2)) (ji33)))),ii t110,ii 2,ii x17_38,ii ji24,ii 0,ii (wrap64 (1 + (Int.tmod (wrap64 (a3)) (ji35))))]) (ok:=fun _ => True) (okp:=fun _ => True) ?hr ?hp (fun _ hk => hk) trivial (Below.refl _ _) (Nat.le_refl _) (by simp) ?_;(case hd => rfl);(case hg => rfl);(case hr => first|(go_simp;done)|(go_simp;rfl));(case hp => exact (Reps.c6 (show Kd.M k84 _ _ _ (⟨0,3,x17_38,ji24,0,0⟩ : S84) [ii 0,ii 3,ii x17_38,ii ji24,ii 0,ii 0] from (k84_mkM _ _ _ (⟨0,3,x17_38,ji24,0,0⟩ : S84) )) (Reps.c6 (show Kd.M k84 _ _ _ (⟨t109,2,x17_38,ji24,0,(wrap64 (1 + (Int.tmod (wrap64 (a2)) (ji33))))⟩ : S84) [ii t109,ii 2,ii x17_38,ii ji24,ii 0,ii (wrap64 (1 + (Int.tmod (wrap64 (a2)) (ji33))))] from (k84_mkM _ _ _ (⟨t109,2,x17_38,ji24,0,(wrap64 (1 + (Int.tmod (wrap64 (a2)) (ji33))))⟩ : S84) )) (Reps.c6 (show Kd.M k84 _ _ _ (⟨t110,2,x17_38,ji24,0,(wrap64 (1 + (Int.tmod (wrap64 (a3)) (ji35))))⟩ : S84) [ii t110,ii 2,ii x17_38,ii ji24,ii 0,ii (wrap64 (1 + (Int.tmod (wrap64 (a3)) (ji35))))] from (k84_mkM _ _ _ (⟨t110,2,x17_38,ji24,0,(wrap64 (1 + (Int.tmod (wrap64 (a3)) (ji35))))⟩ : S84) )) (Reps.none _ _)))))
                             intro v119 w62 ho63 hb hg_ hnew_
                             clear hg_ hnew_
                             (first|rw [← Ny118.out] at ho63|(simp only [Int.reduceToNat] at ho63;rw [← Ny118.out] at ho63))
                             have HO120:=am (Kd.R_lower (Kd.R_new' ho63 (Kd.R_lt (wR HO114.out))) (below_size (v1 HB.out GE101.out)))
                             replace HO114:=am (Kd.R_elder' (wR HO114.out) (Kd.R_base ho63) hb)
                             replace BK101:=am (blk_below (vb BK101.out) hb)
                             replace HB:=am (below_step (v1 HB.out GE101.out) hb)
                             clear hb ho63
                             refine hK.out _ _ ⟨(blk_cell BK101.out 0).trans rfl,(blk_cell BK101.out 1).trans rfl⟩ (fun hHeld => ?_)
                             clear hK K
                             refine qN (some 125) ?_
                             exact nP (hJ2_19 (v113,v119) _ ⟨hHeld,(by (with_reducible repeat (first|apply Kd.R_alloc|apply Kd.R_drewN|apply Kd.R_drew));exact Kd.R_mono HO114.out (fun _ hk => hk.2)),(by (with_reducible repeat (first|apply Kd.R_alloc|apply Kd.R_drewN|apply Kd.R_drew));exact Kd.R_mono HO120.out (fun _ hk => hk.2)),(vb BK101.out),(v1 HB.out GE101.out)⟩)
                            ·skip
                             refine box_step ?hg (N:=19) ?hd (cs:=#[.slice none 0 0,.slice none 0 0]) (t:=32) ?hr ?_;(case hd => rfl);(case hg => rfl);(case hr => first|(go_simp;done)|(go_simp;rfl))
                             intro gb124 hg w62 hbox hb
                             have BK124:=am (hbox)
                             have GW124:=am (lg hg (below_size (v1 HB.out GE101.out)) : w.heap.size ≤ gb124)
                             have GE124:=GW124
                             have NB101_124:=am (nl hg (vb BK101.out))
                             have NB124_101:=am ((nl hg (vb BK101.out)).symm)
                             replace HO114:=am (Kd.R_below (wR HO114.out) hb)
                             replace BK101:=am (blk_below (vb BK101.out) hb)
                             replace HB:=am (below_step (v1 HB.out GE101.out) hb)
                             clear hb hbox hg
                             refine hK.out _ _ ⟨(blk_cell BK101.out 0).trans rfl,(blk_cell BK101.out 1).trans rfl⟩ (fun hHeld => ?_)
                             clear hK K
                             refine qN (some 19) ?_
                             exact nP (hJ2_22 (v113,gb124) _ ⟨hHeld,(wR HO114.out),(vb BK101.out),(vb BK124.out),GW124.out,GE124.out,NB101_124.out,NB124_101.out,(v2 HB.out GE101.out GE124.out)⟩)
                          ·skip
                           rintro ⟨v119,gb124⟩ w62 ⟨hS_,h0_,h1_,h2_,h3_,h4_,h5_,h6_,h7_⟩
                           have HO120 : Aside0 (Kd.R k84 84 w62 w.heap.size (fun _ => True) v119 y118):=⟨h0_⟩
                           have BK124 : Aside0 (w62.heap[gb124]? = some (.cells #[.slice none 0 0,.slice none 0 0] 32 (0,0))):=⟨h2_⟩
                           have GW124 : Aside0 (w.heap.size ≤ gb124):=⟨h3_⟩
                           have GE124 : Aside0 (w.heap.size ≤ gb124):=⟨h4_⟩
                           have NB101_124 : Aside0 (gb101 ≠ gb124):=⟨h5_⟩
                           have NB124_101 : Aside0 (gb124 ≠ gb101):=⟨h6_⟩
                           replace BK101 : Aside0 (w62.heap[gb101]? = some (.cells #[.slice (some ad107) l0_0.length c0_0,.slice A0_1 l0_1.length c0_1] 32 (0,0))):=⟨h1_⟩
                           replace HB : Aside0 (Below w.heap.size w w62):=⟨h7_⟩
                           clear h0_ h1_ h2_ h3_ h4_ h5_ h6_ h7_
                           have hHeld : w62.cell? ⟨gb101,0,none⟩ = some (.slice (some ad107) l0_0.length c0_0) ∧ w62.cell? ⟨gb101,1,none⟩ = some (.slice A0_1 l0_1.length c0_1):=hS_
                           refine norm_ (a':=?_) ?_ ?_
                           rotate_left
                           ·simp only [Go.Proofs.YtjjfpmapjjemcaaGreatW.PrintLast.putAll,Act.put,List.setIfInBounds_toArray,List.set_cons_zero,List.set_cons_succ]
                            rfl
                           refine one_ (i:=2) (N:=some 108) (ab 24 5242847) rfl rfl (one_of HT_.out kr) (by decide) (fun K hK => ?_)
                           refine Kd.R_lit_step k84 _ 84 ?hg (N:=108) ?hd (xs:=([] : List (S84))) (inner:=[]) (ok:=fun _ => True) (okp:=fun _ => True) ?hr ?hp (fun _ hk => hk) trivial (Below.refl _ _) (Nat.le_refl _) (by simp) ?_;(case hd => rfl);(case hg => rfl);(case hr => first|(go_simp;done)|(go_simp;rfl));(case hp => exact (Reps.none _ _))
                           intro v113 w63 ho64 hb hg_ hnew_
                           clear hg_ hnew_
                           (first|rw [← Ny112.out] at ho64|(simp only [Int.reduceToNat] at ho64;rw [← Ny112.out] at ho64))
                           have HO114:=am (Kd.R_lower (Kd.R_new' ho64 (Kd.R_lt (wR HO120.out))) (below_size (v2 HB.out GE101.out GE124.out)))
                           replace HO120:=am (Kd.R_elder' (wR HO120.out) (Kd.R_base ho64) hb)
                           replace BK101:=am (blk_below (vb BK101.out) hb)
                           replace BK124:=am (blk_below (vb BK124.out) hb)
                           replace HB:=am (below_step (v2 HB.out GE101.out GE124.out) hb)
                           clear hb ho64
                           refine hK.out _ _ ⟨(blk_cell BK101.out 0).trans rfl,(blk_cell BK101.out 1).trans rfl⟩ (fun hHeld => ?_)
                           clear hK K
                           refine qN (some 108) ?_
                           exact nP (hJ2_19_22 (v113,v119,gb124) _ ⟨hHeld,(by (with_reducible repeat (first|apply Kd.R_alloc|apply Kd.R_drewN|apply Kd.R_drew));exact Kd.R_mono HO114.out (fun _ hk => hk.2)),(by (with_reducible repeat (first|apply Kd.R_alloc|apply Kd.R_drewN|apply Kd.R_drew));exact Kd.R_mono HO120.out (fun _ hk => hk.2)),(vb BK101.out),(vb BK124.out),GW124.out,GE124.out,NB101_124.out,NB124_101.out,(v2 HB.out GE101.out GE124.out)⟩)
                         ·skip
                          rintro ⟨v113,gb124⟩ w62 ⟨hS_,h0_,h1_,h2_,h3_,h4_,h5_,h6_,h7_⟩
                          have HO114 : Aside0 (Kd.R k84 84 w62 w.heap.size (fun _ => True) v113 y112):=⟨h0_⟩
                          have BK124 : Aside0 (w62.heap[gb124]? = some (.cells #[.slice none 0 0,.slice none 0 0] 32 (0,0))):=⟨h2_⟩
                          have GW124 : Aside0 (w.heap.size ≤ gb124):=⟨h3_⟩
                          have GE124 : Aside0 (w.heap.size ≤ gb124):=⟨h4_⟩
                          have NB101_124 : Aside0 (gb101 ≠ gb124):=⟨h5_⟩
                          have NB124_101 : Aside0 (gb124 ≠ gb101):=⟨h6_⟩
                          replace BK101 : Aside0 (w62.heap[gb101]? = some (.cells #[.slice (some ad107) l0_0.length c0_0,.slice A0_1 l0_1.length c0_1] 32 (0,0))):=⟨h1_⟩
                          replace HB : Aside0 (Below w.heap.size w w62):=⟨h7_⟩
                          clear h0_ h1_ h2_ h3_ h4_ h5_ h6_ h7_
                          have hHeld : w62.cell? ⟨gb101,0,none⟩ = some (.slice (some ad107) l0_0.length c0_0) ∧ w62.cell? ⟨gb101,1,none⟩ = some (.slice A0_1 l0_1.length c0_1):=hS_
                          refine norm_ (a':=?_) ?_ ?_
                          rotate_left
                          ·simp only [Go.Proofs.YtjjfpmapjjemcaaGreatW.PrintLast.putAll,Act.put,List.setIfInBounds_toArray,List.set_cons_zero,List.set_cons_succ]
                           rfl
                          refine two_ (i:=5) (j:=19) (Ni:=some 111) (Nj:=some 125) (ab 24 4718591) (ab 24 5242847) rfl rfl rfl rfl (two_of HT_.out kr) (by decide) (by decide) (fun K hK => ?_) (fun K hK => ?_)
                          ·skip
                           refine Kd.R_append_rows_step k84 (w0:=w) w.heap.size (by rfl) (.tmp 108) (.tmp 110) 30 84 (.agg #[(ii 0),(ii 0),(ii 0),(ii 0),(ii 0),(ii 0)]) 48 rfl Tryz.underlying30 info84 rfl (by decide) (by omega) v113 y112 l0_1 _ _ _ (fun _ => True) (fun _ => False) rfl rfl ?aO ?aR (fun _ _ h => h) (fun _ h => h.elim) ?aF ?aB ?aS ?aL ?_
                           (case aR => repeat (first|exact (Kd.C_below HR0_1.out HB.out)|(with_reducible refine Kd.C_alloc ?_ _)|(with_reducible refine Kd.C_drewN ?_ _)|(with_reducible refine Kd.C_drew ?_)))
                           (case aB => exact (v2 HB.out GE101.out GE124.out))
                           (case aF => exact (fun _ _ => trivial))
                           (case aO => exact (wR HO114.out))
                           (case aS => exact (below_size (v2 HB.out GE101.out GE124.out)))
                           (case aL => have:=LMc52.out;omega)
                           intro v116 w63 ho hb hg hat
                           rw [← Ny115.out] at ho
                           have HO117:=am (ho)
                           replace BK101:=am (blk_grown (g:=gb101) (o:=.cells #[.slice (some ad107) l0_0.length c0_0,.slice A0_1 l0_1.length c0_1] 32 (0,0)) (vb BK101.out) hg (Kd.R_ne HO114.out BK101.out (by decide)))
                           replace BK124:=am (blk_grown (g:=gb124) (o:=.cells #[.slice none 0 0,.slice none 0 0] 32 (0,0)) (vb BK124.out) hg (Kd.R_ne HO114.out BK124.out (by decide)))
                           replace HB:=am (hb)
                           clear HO114
                           clear ho hb hg hat
                           refine hK.out _ _ ⟨(blk_cell BK101.out 0).trans rfl,(blk_cell BK101.out 1).trans rfl⟩ (fun hHeld => ?_)
                           clear hK K
                           refine qN (some 111) ?_
                           exact nP (hJ2_5_22 (v113,v116,gb124) _ ⟨hHeld,(wR HO117.out),(vb BK101.out),(vb BK124.out),GW124.out,GE124.out,NB101_124.out,NB124_101.out,(v2 HB.out GE101.out GE124.out)⟩)
                          ·skip
                           refine Kd.R_lit_step k84 _ 84 ?hg (N:=125) ?hd (xs:=([(⟨0,3,x17_38,ji24,0,0⟩ : S84),(⟨t109,2,x17_38,ji24,0,(wrap64 (1 + (Int.tmod (wrap64 (a2)) (ji33))))⟩ : S84),(⟨t110,2,x17_38,ji24,0,(wrap64 (1 + (Int.tmod (wrap64 (a3)) (ji35))))⟩ : S84)] : List (S84))) (inner:=[ii 0,ii 3,ii x17_38,ii ji24,ii 0,ii 0,ii t109,ii 2,ii x17_38,ii ji24,ii 0,ii (wrap64 (1 + (Int.tmod (wrap64 (a2)) (ji33)))),ii t110,ii 2,ii x17_38,ii ji24,ii 0,ii (wrap64 (1 + (Int.tmod (wrap64 (a3)) (ji35))))]) (ok:=fun _ => True) (okp:=fun _ => True) ?hr ?hp (fun _ hk => hk) trivial (Below.refl _ _) (Nat.le_refl _) (by simp) ?_;(case hd => rfl);(case hg => rfl);(case hr => first|(go_simp;done)|(go_simp;rfl));(case hp => exact (Reps.c6 (show Kd.M k84 _ _ _ (⟨0,3,x17_38,ji24,0,0⟩ : S84) [ii 0,ii 3,ii x17_38,ii ji24,ii 0,ii 0] from (k84_mkM _ _ _ (⟨0,3,x17_38,ji24,0,0⟩ : S84) )) (Reps.c6 (show Kd.M k84 _ _ _ (⟨t109,2,x17_38,ji24,0,(wrap64 (1 + (Int.tmod (wrap64 (a2)) (ji33))))⟩ : S84) [ii t109,ii 2,ii x17_38,ii ji24,ii 0,ii (wrap64 (1 + (Int.tmod (wrap64 (a2)) (ji33))))] from (k84_mkM _ _ _ (⟨t109,2,x17_38,ji24,0,(wrap64 (1 + (Int.tmod (wrap64 (a2)) (ji33))))⟩ : S84) )) (Reps.c6 (show Kd.M k84 _ _ _ (⟨t110,2,x17_38,ji24,0,(wrap64 (1 + (Int.tmod (wrap64 (a3)) (ji35))))⟩ : S84) [ii t110,ii 2,ii x17_38,ii ji24,ii 0,ii (wrap64 (1 + (Int.tmod (wrap64 (a3)) (ji35))))] from (k84_mkM _ _ _ (⟨t110,2,x17_38,ji24,0,(wrap64 (1 + (Int.tmod (wrap64 (a3)) (ji35))))⟩ : S84) )) (Reps.none _ _)))))
                           intro v119 w63 ho64 hb hg_ hnew_
                           clear hg_ hnew_
                           (first|rw [← Ny118.out] at ho64|(simp only [Int.reduceToNat] at ho64;rw [← Ny118.out] at ho64))
                           have HO120:=am (Kd.R_lower (Kd.R_new' ho64 (Kd.R_lt (wR HO114.out))) (below_size (v2 HB.out GE101.out GE124.out)))
                           replace HO114:=am (Kd.R_elder' (wR HO114.out) (Kd.R_base ho64) hb)
                           replace BK101:=am (blk_below (vb BK101.out) hb)
                           replace BK124:=am (blk_below (vb BK124.out) hb)
                           replace HB:=am (below_step (v2 HB.out GE101.out GE124.out) hb)
                           clear hb ho64
                           refine hK.out _ _ ⟨(blk_cell BK101.out 0).trans rfl,(blk_cell BK101.out 1).trans rfl⟩ (fun hHeld => ?_)
                           clear hK K
                           refine qN (some 125) ?_
                           exact nP (hJ2_19_22 (v113,v119,gb124) _ ⟨hHeld,(by (with_reducible repeat (first|apply Kd.R_alloc|apply Kd.R_drewN|apply Kd.R_drew));exact Kd.R_mono HO114.out (fun _ hk => hk.2)),(by (with_reducible repeat (first|apply Kd.R_alloc|apply Kd.R_drewN|apply Kd.R_drew));exact Kd.R_mono HO120.out (fun _ hk => hk.2)),(vb BK101.out),(vb BK124.out),GW124.out,GE124.out,NB101_124.out,NB124_101.out,(v2 HB.out GE101.out GE124.out)⟩)
                        ·skip
                         rintro ⟨v113,v119⟩ w63 ⟨hS_,h0_,h1_,h2_,h3_⟩
                         have HO114 : Aside0 (Kd.R k84 84 w63 w.heap.size (fun k_ => some k_ ≠ (v119 : Value).ownBlock) v113 y112):=⟨h0_⟩
                         have HO120 : Aside0 (Kd.R k84 84 w63 w.heap.size (fun k_ => some k_ ≠ (v113 : Value).ownBlock) v119 y118):=⟨h1_⟩
                         replace BK101 : Aside0 (w63.heap[gb101]? = some (.cells #[.slice (some ad107) l0_0.length c0_0,.slice A0_1 l0_1.length c0_1] 32 (0,0))):=⟨h2_⟩
                         replace HB : Aside0 (Below w.heap.size w w63):=⟨h3_⟩
                         clear h0_ h1_ h2_ h3_
                         have hHeld : w63.cell? ⟨gb101,0,none⟩ = some (.slice (some ad107) l0_0.length c0_0) ∧ w63.cell? ⟨gb101,1,none⟩ = some (.slice A0_1 l0_1.length c0_1):=hS_
                         refine norm_ (a':=?_) ?_ ?_
                         rotate_left
                         ·simp only [Go.Proofs.YtjjfpmapjjemcaaGreatW.PrintLast.putAll,Act.put,List.setIfInBounds_toArray,List.set_cons_zero,List.set_cons_succ]
                          rfl
                         refine two_ (i:=5) (j:=22) (Ni:=some 111) (Nj:=some 19) (ab 24 1048575) (ab 24 5242847) rfl rfl rfl rfl (two_of HT_.out kr) (by decide) (by decide) (fun K hK => ?_) (fun K hK => ?_)
                         ·skip
                          refine Kd.R_append_rows_step k84 (w0:=w) w.heap.size (by rfl) (.tmp 108) (.tmp 110) 30 84 (.agg #[(ii 0),(ii 0),(ii 0),(ii 0),(ii 0),(ii 0)]) 48 rfl Tryz.underlying30 info84 rfl (by decide) (by omega) v113 y112 l0_1 _ _ _ (fun k_ => some k_ ≠ (v119 : Value).ownBlock) (fun _ => False) rfl rfl ?aO ?aR (fun _ _ h => h) (fun _ h => h.elim) ?aF ?aB ?aS ?aL ?_
                          (case aR => repeat (first|exact (Kd.C_below HR0_1.out HB.out)|(with_reducible refine Kd.C_alloc ?_ _)|(with_reducible refine Kd.C_drewN ?_ _)|(with_reducible refine Kd.C_drew ?_)))
                          (case aB => exact (v1 HB.out GE101.out))
                          (case aF => exact (fun k_ hk => Kd.fresh' (Kd.R_lt (wR HO120.out)) k_ hk))
                          (case aO => exact (wR HO114.out))
                          (case aS => exact (below_size (v1 HB.out GE101.out)))
                          (case aL => have:=LMc52.out;omega)
                          intro v116 w64 ho hb hg hat
                          rw [← Ny115.out] at ho
                          have HO117:=am (ho)
                          replace BK101:=am (blk_grown (g:=gb101) (o:=.cells #[.slice (some ad107) l0_0.length c0_0,.slice A0_1 l0_1.length c0_1] 32 (0,0)) (vb BK101.out) hg (Kd.R_ne HO114.out BK101.out (by decide)))
                          replace HO120:=am (Kd.R_after (ok:=(fun _ => True)) (by (with_reducible repeat (first|apply Kd.R_alloc|apply Kd.R_drewN|apply Kd.R_drew));exact Kd.R_mono HO120.out (fun _ hk => ⟨trivial,hk⟩)) hg hat)
                          replace HB:=am (hb)
                          clear HO114
                          clear ho hb hg hat
                          refine hK.out _ _ ⟨(blk_cell BK101.out 0).trans rfl,(blk_cell BK101.out 1).trans rfl⟩ (fun hHeld => ?_)
                          clear hK K
                          refine qN (some 111) ?_
                          exact nP (hJ2_5_19 (v113,v116,v119) _ ⟨hHeld,(wR HO117.out),(by (with_reducible repeat (first|apply Kd.R_alloc|apply Kd.R_drewN|apply Kd.R_drew));exact Kd.R_mono HO120.out (fun _ hk => hk.2)),(vb BK101.out),(v1 HB.out GE101.out)⟩)
                         ·skip
                          refine box_step ?hg (N:=19) ?hd (cs:=#[.slice none 0 0,.slice none 0 0]) (t:=32) ?hr ?_;(case hd => rfl);(case hg => rfl);(case hr => first|(go_simp;done)|(go_simp;rfl))
                          intro gb124 hg w64 hbox hb
                          have BK124:=am (hbox)
                          have GW124:=am (lg hg (below_size (v1 HB.out GE101.out)) : w.heap.size ≤ gb124)
                          have GE124:=GW124
                          have NB101_124:=am (nl hg (vb BK101.out))
                          have NB124_101:=am ((nl hg (vb BK101.out)).symm)
                          replace HO114:=am (Kd.R_below (wR HO114.out) hb)
                          replace HO120:=am (Kd.R_below (wR HO120.out) hb)
                          replace BK101:=am (blk_below (vb BK101.out) hb)
                          replace HB:=am (below_step (v1 HB.out GE101.out) hb)
                          clear hb hbox hg
                          refine hK.out _ _ ⟨(blk_cell BK101.out 0).trans rfl,(blk_cell BK101.out 1).trans rfl⟩ (fun hHeld => ?_)
                          clear hK K
                          refine qN (some 19) ?_
                          exact nP (hJ2_19_22 (v113,v119,gb124) _ ⟨hHeld,(wR HO114.out),(wR HO120.out),(vb BK101.out),(vb BK124.out),GW124.out,GE124.out,NB101_124.out,NB124_101.out,(v2 HB.out GE101.out GE124.out)⟩)
                       ·skip
                        rintro ⟨v113,v116⟩ w62 ⟨hS_,h0_,h1_,h2_⟩
                        have HO117 : Aside0 (Kd.R k84 84 w62 w.heap.size (fun _ => True) v116 y115):=⟨h0_⟩
                        replace BK101 : Aside0 (w62.heap[gb101]? = some (.cells #[.slice (some ad107) l0_0.length c0_0,.slice A0_1 l0_1.length c0_1] 32 (0,0))):=⟨h1_⟩
                        replace HB : Aside0 (Below w.heap.size w w62):=⟨h2_⟩
                        clear h0_ h1_ h2_
                        have hHeld : w62.cell? ⟨gb101,0,none⟩ = some (.slice (some ad107) l0_0.length c0_0) ∧ w62.cell? ⟨gb101,1,none⟩ = some (.slice A0_1 l0_1.length c0_1):=hS_
                        refine norm_ (a':=?_) ?_ ?_
                        rotate_left
                        ·simp only [Go.Proofs.YtjjfpmapjjemcaaGreatW.PrintLast.putAll,Act.put,List.setIfInBounds_toArray,List.set_cons_zero,List.set_cons_succ]
                         rfl
                        refine two_ (i:=19) (j:=22) (Ni:=some 125) (Nj:=some 19) (ab 24 1048575) (ab 24 4718591) rfl rfl rfl rfl (two_of HT_.out kr) (by decide) (by decide) (fun K hK => ?_) (fun K hK => ?_)
                        ·skip
                         refine Kd.R_lit_step k84 _ 84 ?hg (N:=125) ?hd (xs:=([(⟨0,3,x17_38,ji24,0,0⟩ : S84),(⟨t109,2,x17_38,ji24,0,(wrap64 (1 + (Int.tmod (wrap64 (a2)) (ji33))))⟩ : S84),(⟨t110,2,x17_38,ji24,0,(wrap64 (1 + (Int.tmod (wrap64 (a3)) (ji35))))⟩ : S84)] : List (S84))) (inner:=[ii 0,ii 3,ii x17_38,ii ji24,ii 0,ii 0,ii t109,ii 2,ii x17_38,ii ji24,ii 0,ii (wrap64 (1 + (Int.tmod (wrap64 (a2)) (ji33)))),ii t110,ii 2,ii x17_38,ii ji24,ii 0,ii (wrap64 (1 + (Int.tmod (wrap64 (a3)) (ji35))))]) (ok:=fun _ => True) (okp:=fun _ => True) ?hr ?hp (fun _ hk => hk) trivial (Below.refl _ _) (Nat.le_refl _) (by simp) ?_;(case hd => rfl);(case hg => rfl);(case hr => first|(go_simp;done)|(go_simp;rfl));(case hp => exact (Reps.c6 (show Kd.M k84 _ _ _ (⟨0,3,x17_38,ji24,0,0⟩ : S84) [ii 0,ii 3,ii x17_38,ii ji24,ii 0,ii 0] from (k84_mkM _ _ _ (⟨0,3,x17_38,ji24,0,0⟩ : S84) )) (Reps.c6 (show Kd.M k84 _ _ _ (⟨t109,2,x17_38,ji24,0,(wrap64 (1 + (Int.tmod (wrap64 (a2)) (ji33))))⟩ : S84) [ii t109,ii 2,ii x17_38,ii ji24,ii 0,ii (wrap64 (1 + (Int.tmod (wrap64 (a2)) (ji33))))] from (k84_mkM _ _ _ (⟨t109,2,x17_38,ji24,0,(wrap64 (1 + (Int.tmod (wrap64 (a2)) (ji33))))⟩ : S84) )) (Reps.c6 (show Kd.M k84 _ _ _ (⟨t110,2,x17_38,ji24,0,(wrap64 (1 + (Int.tmod (wrap64 (a3)) (ji35))))⟩ : S84) [ii t110,ii 2,ii x17_38,ii ji24,ii 0,ii (wrap64 (1 + (Int.tmod (wrap64 (a3)) (ji35))))] from (k84_mkM _ _ _ (⟨t110,2,x17_38,ji24,0,(wrap64 (1 + (Int.tmod (wrap64 (a3)) (ji35))))⟩ : S84) )) (Reps.none _ _)))))
                         intro v119 w63 ho64 hb hg_ hnew_
                         clear hg_ hnew_
                         (first|rw [← Ny118.out] at ho64|(simp only [Int.reduceToNat] at ho64;rw [← Ny118.out] at ho64))
                         have HO120:=am (Kd.R_lower (Kd.R_new' ho64 (Kd.R_lt (wR HO117.out))) (below_size (v1 HB.out GE101.out)))
                         replace HO117:=am (Kd.R_elder' (wR HO117.out) (Kd.R_base ho64) hb)
                         replace BK101:=am (blk_below (vb BK101.out) hb)
                         replace HB:=am (below_step (v1 HB.out GE101.out) hb)
                         clear hb ho64
                         refine hK.out _ _ ⟨(blk_cell BK101.out 0).trans rfl,(blk_cell BK101.out 1).trans rfl⟩ (fun hHeld => ?_)
                         clear hK K
                         refine qN (some 125) ?_
                         exact nP (hJ2_5_19 (v113,v116,v119) _ ⟨hHeld,(by (with_reducible repeat (first|apply Kd.R_alloc|apply Kd.R_drewN|apply Kd.R_drew));exact Kd.R_mono HO117.out (fun _ hk => hk.2)),(by (with_reducible repeat (first|apply Kd.R_alloc|apply Kd.R_drewN|apply Kd.R_drew));exact Kd.R_mono HO120.out (fun _ hk => hk.2)),(vb BK101.out),(v1 HB.out GE101.out)⟩)
                        ·skip
                         refine box_step ?hg (N:=19) ?hd (cs:=#[.slice none 0 0,.slice none 0 0]) (t:=32) ?hr ?_;(case hd => rfl);(case hg => rfl);(case hr => first|(go_simp;done)|(go_simp;rfl))
                         intro gb124 hg w63 hbox hb
                         have BK124:=am (hbox)
                         have GW124:=am (lg hg (below_size (v1 HB.out GE101.out)) : w.heap.size ≤ gb124)
                         have GE124:=GW124
                         have NB101_124:=am (nl hg (vb BK101.out))
                         have NB124_101:=am ((nl hg (vb BK101.out)).symm)
                         replace HO117:=am (Kd.R_below (wR HO117.out) hb)
                         replace BK101:=am (blk_below (vb BK101.out) hb)
                         replace HB:=am (below_step (v1 HB.out GE101.out) hb)
                         clear hb hbox hg
                         refine hK.out _ _ ⟨(blk_cell BK101.out 0).trans rfl,(blk_cell BK101.out 1).trans rfl⟩ (fun hHeld => ?_)
                         clear hK K
                         refine qN (some 19) ?_
                         exact nP (hJ2_5_22 (v113,v116,gb124) _ ⟨hHeld,(wR HO117.out),(vb BK101.out),(vb BK124.out),GW124.out,GE124.out,NB101_124.out,NB124_101.out,(v2 HB.out GE101.out GE124.out)⟩)
                      ·skip
                       rintro ⟨v113,v119,gb124⟩ w64 ⟨hS_,h0_,h1_,h2_,h3_,h4_,h5_,h6_,h7_,h8_⟩
                       have HO114 : Aside0 (Kd.R k84 84 w64 w.heap.size (fun k_ => some k_ ≠ (v119 : Value).ownBlock) v113 y112):=⟨h0_⟩
                       have HO120 : Aside0 (Kd.R k84 84 w64 w.heap.size (fun k_ => some k_ ≠ (v113 : Value).ownBlock) v119 y118):=⟨h1_⟩
                       have BK124 : Aside0 (w64.heap[gb124]? = some (.cells #[.slice none 0 0,.slice none 0 0] 32 (0,0))):=⟨h3_⟩
                       have GW124 : Aside0 (w.heap.size ≤ gb124):=⟨h4_⟩
                       have GE124 : Aside0 (w.heap.size ≤ gb124):=⟨h5_⟩
                       have NB101_124 : Aside0 (gb101 ≠ gb124):=⟨h6_⟩
                       have NB124_101 : Aside0 (gb124 ≠ gb101):=⟨h7_⟩
                       replace BK101 : Aside0 (w64.heap[gb101]? = some (.cells #[.slice (some ad107) l0_0.length c0_0,.slice A0_1 l0_1.length c0_1] 32 (0,0))):=⟨h2_⟩
                       replace HB : Aside0 (Below w.heap.size w w64):=⟨h8_⟩
                       clear h0_ h1_ h2_ h3_ h4_ h5_ h6_ h7_ h8_
                       have hHeld : w64.cell? ⟨gb101,0,none⟩ = some (.slice (some ad107) l0_0.length c0_0) ∧ w64.cell? ⟨gb101,1,none⟩ = some (.slice A0_1 l0_1.length c0_1):=hS_
                       refine norm_ (a':=?_) ?_ ?_
                       rotate_left
                       ·simp only [Go.Proofs.YtjjfpmapjjemcaaGreatW.PrintLast.putAll,Act.put,List.setIfInBounds_toArray,List.set_cons_zero,List.set_cons_succ]
                        rfl
                       refine one_ (i:=5) (N:=some 111) (ab 24 5242879) rfl rfl (one_of HT_.out kr) (by decide) (fun K hK => ?_)
                       refine Kd.R_append_rows_step k84 (w0:=w) w.heap.size (by rfl) (.tmp 108) (.tmp 110) 30 84 (.agg #[(ii 0),(ii 0),(ii 0),(ii 0),(ii 0),(ii 0)]) 48 rfl Tryz.underlying30 info84 rfl (by decide) (by omega) v113 y112 l0_1 _ _ _ (fun k_ => some k_ ≠ (v119 : Value).ownBlock) (fun _ => False) rfl rfl ?aO ?aR (fun _ _ h => h) (fun _ h => h.elim) ?aF ?aB ?aS ?aL ?_
                       (case aR => repeat (first|exact (Kd.C_below HR0_1.out HB.out)|(with_reducible refine Kd.C_alloc ?_ _)|(with_reducible refine Kd.C_drewN ?_ _)|(with_reducible refine Kd.C_drew ?_)))
                       (case aB => exact (v2 HB.out GE101.out GE124.out))
                       (case aF => exact (fun k_ hk => Kd.fresh' (Kd.R_lt (wR HO120.out)) k_ hk))
                       (case aO => exact (wR HO114.out))
                       (case aS => exact (below_size (v2 HB.out GE101.out GE124.out)))
                       (case aL => have:=LMc52.out;omega)
                       intro v116 w65 ho hb hg hat
                       rw [← Ny115.out] at ho
                       have HO117:=am (ho)
                       replace BK101:=am (blk_grown (g:=gb101) (o:=.cells #[.slice (some ad107) l0_0.length c0_0,.slice A0_1 l0_1.length c0_1] 32 (0,0)) (vb BK101.out) hg (Kd.R_ne HO114.out BK101.out (by decide)))
                       replace HO120:=am (Kd.R_after (ok:=(fun _ => True)) (by (with_reducible repeat (first|apply Kd.R_alloc|apply Kd.R_drewN|apply Kd.R_drew));exact Kd.R_mono HO120.out (fun _ hk => ⟨trivial,hk⟩)) hg hat)
                       replace BK124:=am (blk_grown (g:=gb124) (o:=.cells #[.slice none 0 0,.slice none 0 0] 32 (0,0)) (vb BK124.out) hg (Kd.R_ne HO114.out BK124.out (by decide)))
                       replace HB:=am (hb)
                       clear HO114
                       clear ho hb hg hat
                       refine hK.out _ _ ⟨(blk_cell BK101.out 0).trans rfl,(blk_cell BK101.out 1).trans rfl⟩ (fun hHeld => ?_)
                       clear hK K
                       refine qN (some 111) ?_
                       exact nP (hJ2_5_19_22 (v113,v116,v119,gb124) _ ⟨hHeld,(wR HO117.out),(by (with_reducible repeat (first|apply Kd.R_alloc|apply Kd.R_drewN|apply Kd.R_drew));exact Kd.R_mono HO120.out (fun _ hk => hk.2)),(vb BK101.out),(vb BK124.out),GW124.out,GE124.out,NB101_124.out,NB124_101.out,(v2 HB.out GE101.out GE124.out)⟩)
                     ·skip
                      rintro ⟨v113,v116,gb124⟩ w63 ⟨hS_,h0_,h1_,h2_,h3_,h4_,h5_,h6_,h7_⟩
                      have HO117 : Aside0 (Kd.R k84 84 w63 w.heap.size (fun _ => True) v116 y115):=⟨h0_⟩
                      have BK124 : Aside0 (w63.heap[gb124]? = some (.cells #[.slice none 0 0,.slice none 0 0] 32 (0,0))):=⟨h2_⟩
                      have GW124 : Aside0 (w.heap.size ≤ gb124):=⟨h3_⟩
                      have GE124 : Aside0 (w.heap.size ≤ gb124):=⟨h4_⟩
                      have NB101_124 : Aside0 (gb101 ≠ gb124):=⟨h5_⟩
                      have NB124_101 : Aside0 (gb124 ≠ gb101):=⟨h6_⟩
                      replace BK101 : Aside0 (w63.heap[gb101]? = some (.cells #[.slice (some ad107) l0_0.length c0_0,.slice A0_1 l0_1.length c0_1] 32 (0,0))):=⟨h1_⟩
                      replace HB : Aside0 (Below w.heap.size w w63):=⟨h7_⟩
                      clear h0_ h1_ h2_ h3_ h4_ h5_ h6_ h7_
                      have hHeld : w63.cell? ⟨gb101,0,none⟩ = some (.slice (some ad107) l0_0.length c0_0) ∧ w63.cell? ⟨gb101,1,none⟩ = some (.slice A0_1 l0_1.length c0_1):=hS_
                      refine norm_ (a':=?_) ?_ ?_
                      rotate_left
                      ·simp only [Go.Proofs.YtjjfpmapjjemcaaGreatW.PrintLast.putAll,Act.put,List.setIfInBounds_toArray,List.set_cons_zero,List.set_cons_succ]
                       rfl
                      refine one_ (i:=19) (N:=some 125) (ab 24 5242879) rfl rfl (one_of HT_.out kr) (by decide) (fun K hK => ?_)
                      refine Kd.R_lit_step k84 _ 84 ?hg (N:=125) ?hd (xs:=([(⟨0,3,x17_38,ji24,0,0⟩ : S84),(⟨t109,2,x17_38,ji24,0,(wrap64 (1 + (Int.tmod (wrap64 (a2)) (ji33))))⟩ : S84),(⟨t110,2,x17_38,ji24,0,(wrap64 (1 + (Int.tmod (wrap64 (a3)) (ji35))))⟩ : S84)] : List (S84))) (inner:=[ii 0,ii 3,ii x17_38,ii ji24,ii 0,ii 0,ii t109,ii 2,ii x17_38,ii ji24,ii 0,ii (wrap64 (1 + (Int.tmod (wrap64 (a2)) (ji33)))),ii t110,ii 2,ii x17_38,ii ji24,ii 0,ii (wrap64 (1 + (Int.tmod (wrap64 (a3)) (ji35))))]) (ok:=fun _ => True) (okp:=fun _ => True) ?hr ?hp (fun _ hk => hk) trivial (Below.refl _ _) (Nat.le_refl _) (by simp) ?_;(case hd => rfl);(case hg => rfl);(case hr => first|(go_simp;done)|(go_simp;rfl));(case hp => exact (Reps.c6 (show Kd.M k84 _ _ _ (⟨0,3,x17_38,ji24,0,0⟩ : S84) [ii 0,ii 3,ii x17_38,ii ji24,ii 0,ii 0] from (k84_mkM _ _ _ (⟨0,3,x17_38,ji24,0,0⟩ : S84) )) (Reps.c6 (show Kd.M k84 _ _ _ (⟨t109,2,x17_38,ji24,0,(wrap64 (1 + (Int.tmod (wrap64 (a2)) (ji33))))⟩ : S84) [ii t109,ii 2,ii x17_38,ii ji24,ii 0,ii (wrap64 (1 + (Int.tmod (wrap64 (a2)) (ji33))))] from (k84_mkM _ _ _ (⟨t109,2,x17_38,ji24,0,(wrap64 (1 + (Int.tmod (wrap64 (a2)) (ji33))))⟩ : S84) )) (Reps.c6 (show Kd.M k84 _ _ _ (⟨t110,2,x17_38,ji24,0,(wrap64 (1 + (Int.tmod (wrap64 (a3)) (ji35))))⟩ : S84) [ii t110,ii 2,ii x17_38,ii ji24,ii 0,ii (wrap64 (1 + (Int.tmod (wrap64 (a3)) (ji35))))] from (k84_mkM _ _ _ (⟨t110,2,x17_38,ji24,0,(wrap64 (1 + (Int.tmod (wrap64 (a3)) (ji35))))⟩ : S84) )) (Reps.none _ _)))))
                      intro v119 w64 ho65 hb hg_ hnew_
                      clear hg_ hnew_
                      (first|rw [← Ny118.out] at ho65|(simp only [Int.reduceToNat] at ho65;rw [← Ny118.out] at ho65))
                      have HO120:=am (Kd.R_lower (Kd.R_new' ho65 (Kd.R_lt (wR HO117.out))) (below_size (v2 HB.out GE101.out GE124.out)))
                      replace HO117:=am (Kd.R_elder' (wR HO117.out) (Kd.R_base ho65) hb)
                      replace BK101:=am (blk_below (vb BK101.out) hb)
                      replace BK124:=am (blk_below (vb BK124.out) hb)
                      replace HB:=am (below_step (v2 HB.out GE101.out GE124.out) hb)
                      clear hb ho65
                      refine hK.out _ _ ⟨(blk_cell BK101.out 0).trans rfl,(blk_cell BK101.out 1).trans rfl⟩ (fun hHeld => ?_)
                      clear hK K
                      refine qN (some 125) ?_
                      exact nP (hJ2_5_19_22 (v113,v116,v119,gb124) _ ⟨hHeld,(by (with_reducible repeat (first|apply Kd.R_alloc|apply Kd.R_drewN|apply Kd.R_drew));exact Kd.R_mono HO117.out (fun _ hk => hk.2)),(by (with_reducible repeat (first|apply Kd.R_alloc|apply Kd.R_drewN|apply Kd.R_drew));exact Kd.R_mono HO120.out (fun _ hk => hk.2)),(vb BK101.out),(vb BK124.out),GW124.out,GE124.out,NB101_124.out,NB124_101.out,(v2 HB.out GE101.out GE124.out)⟩)
                    ·skip
                     rintro ⟨v113,v116,v119⟩ w64 ⟨hS_,h0_,h1_,h2_,h3_⟩
                     have HO117 : Aside0 (Kd.R k84 84 w64 w.heap.size (fun k_ => some k_ ≠ (v119 : Value).ownBlock) v116 y115):=⟨h0_⟩
                     have HO120 : Aside0 (Kd.R k84 84 w64 w.heap.size (fun k_ => some k_ ≠ (v116 : Value).ownBlock) v119 y118):=⟨h1_⟩
                     replace BK101 : Aside0 (w64.heap[gb101]? = some (.cells #[.slice (some ad107) l0_0.length c0_0,.slice A0_1 l0_1.length c0_1] 32 (0,0))):=⟨h2_⟩
                     replace HB : Aside0 (Below w.heap.size w w64):=⟨h3_⟩
                     clear h0_ h1_ h2_ h3_
                     have hHeld : w64.cell? ⟨gb101,0,none⟩ = some (.slice (some ad107) l0_0.length c0_0) ∧ w64.cell? ⟨gb101,1,none⟩ = some (.slice A0_1 l0_1.length c0_1):=hS_
                     obtain ⟨Ao66,co66,eo66⟩:=Kd.R_slice HO120.out
                     (first|subst eo66|(injection eo66 with f1_ f2_ f3_;have f4_:=f1_.symm;have f5_:=f3_.symm;clear f1_ f2_ f3_;subst f4_;subst f5_))
                     refine norm_ (a':=?_) ?_ ?_
                     rotate_left
                     ·simp only [Go.Proofs.YtjjfpmapjjemcaaGreatW.PrintLast.putAll,Act.put,List.setIfInBounds_toArray,List.set_cons_zero,List.set_cons_succ]
                      rfl
                     refine two_ (i:=20) (j:=22) (Ni:=some 126) (Nj:=some 19) (ab 24 2097151) (ab 24 5242879) rfl rfl rfl rfl (two_of HT_.out kr) (by decide) (by decide) (fun K hK => ?_) (fun K hK => ?_)
                     ·skip
                      refine Kd.R_append_rows_step k84 (w0:=w) w.heap.size (by rfl) (.tmp 111) (.tmp 125) 30 84 (.agg #[(ii 0),(ii 0),(ii 0),(ii 0),(ii 0),(ii 0)]) 48 rfl Tryz.underlying30 info84 rfl (by decide) (by omega) v116 y115 y118 _ _ _ (fun k_ => some k_ ≠ (.slice Ao66 y118.length co66 : Value).ownBlock) (fun _ => False) rfl rfl ?aO ?aR (fun _ _ h => h) (fun _ h => h.elim) ?aF ?aB ?aS ?aL ?_
                      (case aR => repeat (first|exact (Kd.R_reads' HO120.out).2.2|(with_reducible refine Kd.C_alloc ?_ _)|(with_reducible refine Kd.C_drewN ?_ _)|(with_reducible refine Kd.C_drew ?_)))
                      (case aB => exact (v1 HB.out GE101.out))
                      (case aF => exact (fun k_ hk => Kd.fresh' (Kd.R_lt (wR HO120.out)) k_ hk))
                      (case aO => exact (wR HO117.out))
                      (case aS => exact (below_size (v1 HB.out GE101.out)))
                      (case aL => have:=LMc53.out;omega)
                      intro v122 w65 ho hb hg hat
                      rw [← Ny121.out] at ho
                      have HO123:=am (ho)
                      replace BK101:=am (blk_grown (g:=gb101) (o:=.cells #[.slice (some ad107) l0_0.length c0_0,.slice A0_1 l0_1.length c0_1] 32 (0,0)) (vb BK101.out) hg (Kd.R_ne HO117.out BK101.out (by decide)))
                      replace HO120:=am (Kd.R_after (ok:=(fun _ => True)) (by (with_reducible repeat (first|apply Kd.R_alloc|apply Kd.R_drewN|apply Kd.R_drew));exact Kd.R_mono HO120.out (fun _ hk => ⟨trivial,hk⟩)) hg hat)
                      replace HB:=am (hb)
                      clear HO117
                      clear ho hb hg hat
                      obtain ⟨Ao67,co67,eo67⟩:=Kd.R_slice HO123.out
                      (first|subst eo67|(injection eo67 with f1_ f2_ f3_;have f4_:=f1_.symm;have f5_:=f3_.symm;clear f1_ f2_ f3_;subst f4_;subst f5_))
                      refine hK.out _ _ ⟨(blk_cell BK101.out 0).trans rfl,(blk_cell BK101.out 1).trans rfl⟩ (fun hHeld => ?_)
                      clear hK K
                      refine qN (some 126) ?_
                      refine qA 21 (some 127) ?_
                      exact nP (hJ2_5_19_20 (v113,v116,.slice Ao66 y118.length co66,.slice Ao67 y121.length co67) _ ⟨hHeld,(by (with_reducible repeat (first|apply Kd.R_alloc|apply Kd.R_drewN|apply Kd.R_drew));exact Kd.R_mono HO120.out (fun _ hk => hk.2)),(wR HO123.out),(vb BK101.out),(v1 HB.out GE101.out)⟩)
                     ·skip
                      refine box_step ?hg (N:=19) ?hd (cs:=#[.slice none 0 0,.slice none 0 0]) (t:=32) ?hr ?_;(case hd => rfl);(case hg => rfl);(case hr => first|(go_simp;done)|(go_simp;rfl))
                      intro gb124 hg w65 hbox hb
                      have BK124:=am (hbox)
                      have GW124:=am (lg hg (below_size (v1 HB.out GE101.out)) : w.heap.size ≤ gb124)
                      have GE124:=GW124
                      have NB101_124:=am (nl hg (vb BK101.out))
                      have NB124_101:=am ((nl hg (vb BK101.out)).symm)
                      replace HO117:=am (Kd.R_below (wR HO117.out) hb)
                      replace HO120:=am (Kd.R_below (wR HO120.out) hb)
                      replace BK101:=am (blk_below (vb BK101.out) hb)
                      replace HB:=am (below_step (v1 HB.out GE101.out) hb)
                      clear hb hbox hg
                      refine hK.out _ _ ⟨(blk_cell BK101.out 0).trans rfl,(blk_cell BK101.out 1).trans rfl⟩ (fun hHeld => ?_)
                      clear hK K
                      refine qN (some 19) ?_
                      exact nP (hJ2_5_19_22 (v113,v116,.slice Ao66 y118.length co66,gb124) _ ⟨hHeld,(wR HO117.out),(wR HO120.out),(vb BK101.out),(vb BK124.out),GW124.out,GE124.out,NB101_124.out,NB124_101.out,(v2 HB.out GE101.out GE124.out)⟩)
                   ·skip
                    rintro ⟨v113,v116,v119,gb124⟩ w65 ⟨hS_,h0_,h1_,h2_,h3_,h4_,h5_,h6_,h7_,h8_⟩
                    have HO117 : Aside0 (Kd.R k84 84 w65 w.heap.size (fun k_ => some k_ ≠ (v119 : Value).ownBlock) v116 y115):=⟨h0_⟩
                    have HO120 : Aside0 (Kd.R k84 84 w65 w.heap.size (fun k_ => some k_ ≠ (v116 : Value).ownBlock) v119 y118):=⟨h1_⟩
                    have BK124 : Aside0 (w65.heap[gb124]? = some (.cells #[.slice none 0 0,.slice none 0 0] 32 (0,0))):=⟨h3_⟩
                    have GW124 : Aside0 (w.heap.size ≤ gb124):=⟨h4_⟩
                    have GE124 : Aside0 (w.heap.size ≤ gb124):=⟨h5_⟩
                    have NB101_124 : Aside0 (gb101 ≠ gb124):=⟨h6_⟩
                    have NB124_101 : Aside0 (gb124 ≠ gb101):=⟨h7_⟩
                    replace BK101 : Aside0 (w65.heap[gb101]? = some (.cells #[.slice (some ad107) l0_0.length c0_0,.slice A0_1 l0_1.length c0_1] 32 (0,0))):=⟨h2_⟩
                    replace HB : Aside0 (Below w.heap.size w w65):=⟨h8_⟩
                    clear h0_ h1_ h2_ h3_ h4_ h5_ h6_ h7_ h8_
                    have hHeld : w65.cell? ⟨gb101,0,none⟩ = some (.slice (some ad107) l0_0.length c0_0) ∧ w65.cell? ⟨gb101,1,none⟩ = some (.slice A0_1 l0_1.length c0_1):=hS_
                    obtain ⟨Ao67,co67,eo67⟩:=Kd.R_slice HO120.out
                    (first|subst eo67|(injection eo67 with f1_ f2_ f3_;have f4_:=f1_.symm;have f5_:=f3_.symm;clear f1_ f2_ f3_;subst f4_;subst f5_))
                    refine norm_ (a':=?_) ?_ ?_
                    rotate_left
                    ·simp only [Go.Proofs.YtjjfpmapjjemcaaGreatW.PrintLast.putAll,Act.put,List.setIfInBounds_toArray,List.set_cons_zero,List.set_cons_succ]
                     rfl
                    refine one_ (i:=20) (N:=some 126) (ab 24 6291455) rfl rfl (one_of HT_.out kr) (by decide) (fun K hK => ?_)
                    refine Kd.R_append_rows_step k84 (w0:=w) w.heap.size (by rfl) (.tmp 111) (.tmp 125) 30 84 (.agg #[(ii 0),(ii 0),(ii 0),(ii 0),(ii 0),(ii 0)]) 48 rfl Tryz.underlying30 info84 rfl (by decide) (by omega) v116 y115 y118 _ _ _ (fun k_ => some k_ ≠ (.slice Ao67 y118.length co67 : Value).ownBlock) (fun _ => False) rfl rfl ?aO ?aR (fun _ _ h => h) (fun _ h => h.elim) ?aF ?aB ?aS ?aL ?_
                    (case aR => repeat (first|exact (Kd.R_reads' HO120.out).2.2|(with_reducible refine Kd.C_alloc ?_ _)|(with_reducible refine Kd.C_drewN ?_ _)|(with_reducible refine Kd.C_drew ?_)))
                    (case aB => exact (v2 HB.out GE101.out GE124.out))
                    (case aF => exact (fun k_ hk => Kd.fresh' (Kd.R_lt (wR HO120.out)) k_ hk))
                    (case aO => exact (wR HO117.out))
                    (case aS => exact (below_size (v2 HB.out GE101.out GE124.out)))
                    (case aL => have:=LMc53.out;omega)
                    intro v122 w66 ho hb hg hat
                    rw [← Ny121.out] at ho
                    have HO123:=am (ho)
                    replace BK101:=am (blk_grown (g:=gb101) (o:=.cells #[.slice (some ad107) l0_0.length c0_0,.slice A0_1 l0_1.length c0_1] 32 (0,0)) (vb BK101.out) hg (Kd.R_ne HO117.out BK101.out (by decide)))
                    replace HO120:=am (Kd.R_after (ok:=(fun _ => True)) (by (with_reducible repeat (first|apply Kd.R_alloc|apply Kd.R_drewN|apply Kd.R_drew));exact Kd.R_mono HO120.out (fun _ hk => ⟨trivial,hk⟩)) hg hat)
                    replace BK124:=am (blk_grown (g:=gb124) (o:=.cells #[.slice none 0 0,.slice none 0 0] 32 (0,0)) (vb BK124.out) hg (Kd.R_ne HO117.out BK124.out (by decide)))
                    replace HB:=am (hb)
                    clear HO117
                    clear ho hb hg hat
                    obtain ⟨Ao68,co68,eo68⟩:=Kd.R_slice HO123.out
                    (first|subst eo68|(injection eo68 with f1_ f2_ f3_;have f4_:=f1_.symm;have f5_:=f3_.symm;clear f1_ f2_ f3_;subst f4_;subst f5_))
                    refine hK.out _ _ ⟨(blk_cell BK101.out 0).trans rfl,(blk_cell BK101.out 1).trans rfl⟩ (fun hHeld => ?_)
                    clear hK K
                    refine qN (some 126) ?_
                    refine qA 21 (some 127) ?_
                    exact nP (hJ2_5_19_20_22 (v113,v116,.slice Ao67 y118.length co67,.slice Ao68 y121.length co68,gb124) _ ⟨hHeld,(by (with_reducible repeat (first|apply Kd.R_alloc|apply Kd.R_drewN|apply Kd.R_drew));exact Kd.R_mono HO120.out (fun _ hk => hk.2)),(wR HO123.out),(vb BK101.out),(vb BK124.out),GW124.out,GE124.out,NB101_124.out,NB124_101.out,(v2 HB.out GE101.out GE124.out)⟩)
                  ·skip
                   rintro ⟨v113,v116,v119,v122⟩ w67 ⟨hS_,h0_,h1_,h2_,h3_⟩
                   have HO120 : Aside0 (Kd.R k84 84 w67 w.heap.size (fun k_ => some k_ ≠ (v122 : Value).ownBlock) v119 y118):=⟨h0_⟩
                   have HO123 : Aside0 (Kd.R k84 84 w67 w.heap.size (fun k_ => some k_ ≠ (v119 : Value).ownBlock) v122 y121):=⟨h1_⟩
                   replace BK101 : Aside0 (w67.heap[gb101]? = some (.cells #[.slice (some ad107) l0_0.length c0_0,.slice A0_1 l0_1.length c0_1] 32 (0,0))):=⟨h2_⟩
                   replace HB : Aside0 (Below w.heap.size w w67):=⟨h3_⟩
                   clear h0_ h1_ h2_ h3_
                   have hHeld : w67.cell? ⟨gb101,0,none⟩ = some (.slice (some ad107) l0_0.length c0_0) ∧ w67.cell? ⟨gb101,1,none⟩ = some (.slice A0_1 l0_1.length c0_1):=hS_
                   obtain ⟨Ao68,co68,eo68⟩:=Kd.R_slice HO123.out
                   (first|subst eo68|(injection eo68 with f1_ f2_ f3_;have f4_:=f1_.symm;have f5_:=f3_.symm;clear f1_ f2_ f3_;subst f4_;subst f5_))
                   refine norm_ (a':=?_) ?_ ?_
                   rotate_left
                   ·simp only [Go.Proofs.YtjjfpmapjjemcaaGreatW.PrintLast.putAll,Act.put,List.setIfInBounds_toArray,List.set_cons_zero,List.set_cons_succ]
                    rfl
                   refine one_ (i:=22) (N:=some 19) (ab 24 8388607) rfl rfl (one_of HT_.out kr) (by decide) (fun K hK => ?_)
                   refine box_step ?hg (N:=19) ?hd (cs:=#[.slice none 0 0,.slice none 0 0]) (t:=32) ?hr ?_;(case hd => rfl);(case hg => rfl);(case hr => first|(go_simp;done)|(go_simp;rfl))
                   intro gb124 hg w69 hbox hb
                   have BK124:=am (hbox)
                   have GW124:=am (lg hg (below_size (v1 HB.out GE101.out)) : w.heap.size ≤ gb124)
                   have GE124:=GW124
                   have NB101_124:=am (nl hg (vb BK101.out))
                   have NB124_101:=am ((nl hg (vb BK101.out)).symm)
                   replace HO120:=am (Kd.R_below (wR HO120.out) hb)
                   replace HO123:=am (Kd.R_below (wR HO123.out) hb)
                   replace BK101:=am (blk_below (vb BK101.out) hb)
                   replace HB:=am (below_step (v1 HB.out GE101.out) hb)
                   clear hb hbox hg
                   refine hK.out _ _ ⟨(blk_cell BK101.out 0).trans rfl,(blk_cell BK101.out 1).trans rfl⟩ (fun hHeld => ?_)
                   clear hK K
                   refine qN (some 19) ?_
                   exact nP (hJ2_5_19_20_22 (v113,v116,v119,.slice Ao68 y121.length co68,gb124) _ ⟨hHeld,(wR HO120.out),(wR HO123.out),(vb BK101.out),(vb BK124.out),GW124.out,GE124.out,NB101_124.out,NB124_101.out,(v2 HB.out GE101.out GE124.out)⟩)
                 rintro ⟨v113,v116,v119,v122,gb124⟩ w68 ⟨hS_,h0_,h1_,h2_,h3_,h4_,h5_,h6_,h7_,h8_⟩
                 have HO120 : Aside0 (Kd.R k84 84 w68 w.heap.size (fun k_ => some k_ ≠ (v122 : Value).ownBlock) v119 y118):=⟨h0_⟩
                 have HO123 : Aside0 (Kd.R k84 84 w68 w.heap.size (fun k_ => some k_ ≠ (v119 : Value).ownBlock) v122 y121):=⟨h1_⟩
                 have BK124 : Aside0 (w68.heap[gb124]? = some (.cells #[.slice none 0 0,.slice none 0 0] 32 (0,0))):=⟨h3_⟩
                 have GW124 : Aside0 (w.heap.size ≤ gb124):=⟨h4_⟩
                 have GE124 : Aside0 (w.heap.size ≤ gb124):=⟨h5_⟩
                 have NB101_124 : Aside0 (gb101 ≠ gb124):=⟨h6_⟩
                 have NB124_101 : Aside0 (gb124 ≠ gb101):=⟨h7_⟩
                 replace BK101 : Aside0 (w68.heap[gb101]? = some (.cells #[.slice (some ad107) l0_0.length c0_0,.slice A0_1 l0_1.length c0_1] 32 (0,0))):=⟨h2_⟩
                 replace HB : Aside0 (Below w.heap.size w w68):=⟨h8_⟩
                 clear h0_ h1_ h2_ h3_ h4_ h5_ h6_ h7_ h8_
                 have hHeld : w68.cell? ⟨gb101,0,none⟩ = some (.slice (some ad107) l0_0.length c0_0) ∧ w68.cell? ⟨gb101,1,none⟩ = some (.slice A0_1 l0_1.length c0_1):=hS_
                 obtain ⟨Ao69,co69,eo69⟩:=Kd.R_slice HO123.out
                 (first|subst eo69|(injection eo69 with f1_ f2_ f3_;have f4_:=f1_.symm;have f5_:=f3_.symm;clear f1_ f2_ f3_;subst f4_;subst f5_))
                 refine norm_ (a':=?_) ?_ ?_
                 rotate_left
                 ·simp only [Go.Proofs.YtjjfpmapjjemcaaGreatW.PrintLast.putAll,Act.put,List.setIfInBounds_toArray,List.set_cons_zero,List.set_cons_succ]
                  rfl
                 refine one_ (i:=23) (N:=none) (ab 24 16777215) rfl rfl (one_of HT_.out kr) (by decide) (fun K hK => ?_)
                 have hs70:=bd BK124.out 0
                 have hfs70:=blk_frozen BK124.out 0
                 have hns70_0:=NB101_124.out
                 have hms70_0:=NB124_101.out
                 have hs71:=bd BK124.out 1
                 have hfs71:=blk_frozen BK124.out 1
                 have hns71_0:=NB101_124.out
                 have hms71_0:=NB124_101.out
                 refine skip_ (w1:=?_) (by rfl) rfl ?_ ?_
                 rotate_left
                 ·go_simp
                  rfl
                 refine hK.out _ _ ⟨((cell_far (p:=⟨gb124,_,none⟩) NB101_124.out _).trans (((cell_far (p:=⟨gb124,_,none⟩) NB101_124.out _).trans (hHeld.1)))),((cell_far (p:=⟨gb124,_,none⟩) NB101_124.out _).trans (((cell_far (p:=⟨gb124,_,none⟩) NB101_124.out _).trans (hHeld.2))))⟩ (fun hHeld => ?_)
                 clear hK K
                 refine done_ (done_of HT_.out kr) ?_
                 have hnb72:=NB124_101.out
                 have hnc72:=NB101_124.out
                 have hcz73_0:=bd BK124.out 0
                 have hcz73_1:=bd BK124.out 1
                 have hfz73_0:=blk_frozen BK124.out 0
                 have hfz73_1:=blk_frozen BK124.out 1
                 try go_wp2_with (first|((with_reducible refine g_ ?_);refine cE (some 130) Tryz.func40 #[.agg #[.slice (some ad107) l0_0.length c0_0,.slice Ao69 y121.length co69]] ?_;(with_reducible refine (pit_Check.calls _ _ l0_0 _ _ y121 t125 t126 _ ?side1 ?side2 ?side3 ?side4 A54.out).mono ?_);(case side1 => exact Kd.C_below HR0_0.out (v2 HB.out GE101.out GE124.out));(case side2 => exact HC0_0.out);(case side3 => refine (Kd.R_reads' (e:=84) (base:=w.heap.size) (ok:=fun k_ => some k_ ≠ (v119 : Value).ownBlock) (n:=y121.length) (c:=co69) ?_).2.2;exact (by (with_reducible repeat (first|apply Kd.R_alloc|apply Kd.R_drewN|apply Kd.R_drew));exact (Kd.R_mono (Kd.R_far (p:=⟨gb124,1,none⟩) (Kd.R_far (p:=⟨gb124,0,none⟩) (Kd.R_types HO123.out BK124.out (by decide)) (fun _ hk => hk.2) (.slice (some ad107) l0_0.length c0_0)) (fun _ hk => hk.2) (.slice Ao69 y121.length co69)) (fun _ h_ => h_.1))));(case side4 => exact (Kd.R_reads' HO123.out).2.1);rintro e w74 ⟨rfl,hb⟩;refine ⟨_,rfl,?_⟩;replace HO120:=am (Kd.R_below (by (with_reducible repeat (first|apply Kd.R_alloc|apply Kd.R_drewN|apply Kd.R_drew));exact (Kd.R_mono (Kd.R_far (p:=⟨gb124,1,none⟩) (Kd.R_far (p:=⟨gb124,0,none⟩) (Kd.R_types HO120.out BK124.out (by decide)) (fun _ hk => hk.2) (.slice (some ad107) l0_0.length c0_0)) (fun _ hk => hk.2) (.slice Ao69 y121.length co69)) (fun _ h_ => h_.1))) hb);replace HO123:=am (Kd.R_below (by (with_reducible repeat (first|apply Kd.R_alloc|apply Kd.R_drewN|apply Kd.R_drew));exact (Kd.R_mono (Kd.R_far (p:=⟨gb124,1,none⟩) (Kd.R_far (p:=⟨gb124,0,none⟩) (Kd.R_types HO123.out BK124.out (by decide)) (fun _ hk => hk.2) (.slice (some ad107) l0_0.length c0_0)) (fun _ hk => hk.2) (.slice Ao69 y121.length co69)) (fun _ h_ => h_.1))) hb);replace BK101:=am (blk_below (g:=gb101) (o:=.cells #[.slice (some ad107) l0_0.length c0_0,.slice A0_1 l0_1.length c0_1] 32 (0,0)) (vh BK101.out NB101_124.out) hb);replace BK124:=am (blk_below (g:=gb124) (o:=.cells #[.slice (some ad107) l0_0.length c0_0,.slice Ao69 y121.length co69] 32 (0,0)) (by (with_reducible repeat (first|refine blk_drewN ?_ _|refine blk_drew ?_|refine blk_alloc ?_ _));refine blk_put (cs:=#[.slice (some ad107) l0_0.length c0_0,.slice none 0 0]) ?_ 1 _ rfl;(with_reducible repeat (first|refine blk_drewN ?_ _|refine blk_drew ?_|refine blk_alloc ?_ _));refine blk_put (cs:=#[.slice none 0 0,.slice none 0 0]) ?_ 0 _ rfl;(with_reducible repeat (first|refine blk_drewN ?_ _|refine blk_drew ?_|refine blk_alloc ?_ _));exact BK124.out) hb);replace HB:=am (below_step (v2 HB.out GE101.out GE124.out) hb);(try clear hb);(try clear hb2);(try clear hk);(try clear hi);have hcz75_0:=bd BK124.out 0;have hcz75_1:=bd BK124.out 1;have hfz75_0:=blk_frozen BK124.out 0;have hfz75_1:=blk_frozen BK124.out 1)|((with_reducible refine g_ ?_);refine cE (some 142) Tryz.func19 #[.agg #[.slice (some ad107) l0_0.length c0_0,.slice Ao69 y121.length co69]] ?_;(with_reducible refine (pit_Pours.calls _ _ l0_0 _ _ y121 t128 t131 _ ?side1 ?side2 ?side3 ?side4 A56.out).mono ?_);(case side1 => repeat (first|exact (Kd.C_below HR0_0.out HB.out)|(with_reducible refine Kd.C_alloc ?_ _)|(with_reducible refine Kd.C_drewN ?_ _)|(with_reducible refine Kd.C_drew ?_)));(case side2 => exact HC0_0.out);(case side3 => repeat (first|exact (Kd.R_reads' HO123.out).2.2|(with_reducible refine Kd.C_alloc ?_ _)|(with_reducible refine Kd.C_drewN ?_ _)|(with_reducible refine Kd.C_drew ?_)));(case side4 => exact (Kd.R_reads' HO123.out).2.1);rintro e w76 ⟨v129,rfl,ho0,hb⟩;refine ⟨_,rfl,?_⟩;have HO130:=am (Kd.V_lower (Kd.V_mono (ok':=fun k_ => some k_ ≠ (v119 : Value).ownBlock ∧ some k_ ≠ (.slice Ao69 y121.length co69 : Value).ownBlock ∧ k_ ≠ gb101 ∧ k_ ≠ gb124) ho0 (fun k_ hk_ => ⟨(Kd.fresh' (Kd.R_lt (wR HO120.out)) k_ hk_),(Kd.fresh' (Kd.R_lt (wR HO123.out)) k_ hk_),(Kd.freshB (g:=gb101) (o:=.cells #[.slice (some ad107) l0_0.length c0_0,.slice A0_1 l0_1.length c0_1] 32 (0,0)) (vb BK101.out) k_ hk_),(Kd.freshB (g:=gb124) (o:=.cells #[.slice (some ad107) l0_0.length c0_0,.slice Ao69 y121.length co69] 32 (0,0)) (vb BK124.out) k_ hk_)⟩)) (below_size (v2 HB.out GE101.out GE124.out)));replace HO120:=am (Kd.R_below (wR HO120.out) hb);replace HO123:=am (Kd.R_below (wR HO123.out) hb);replace BK101:=am (blk_below (vb BK101.out) hb);replace BK124:=am (blk_below (vb BK124.out) hb);replace HB:=am (below_step (v2 HB.out GE101.out GE124.out) hb);(try clear hb);(try clear hb2);(try clear hk);(try clear hi);(try clear ho0);obtain ⟨Ao77,co77,eo77⟩:=Kd.V_slice HO130.out;subst eo77))
                 go_loopg [149] kj38 (fun kq v149 w' => ∃ (x149_3 : Int),v149 = ii x149_3 ∧ Aside0 (calxlaw04_PitMixed.l0 kq t109 t110 t128 (t128.length : Int) x149_3 l0_0 y121 = some r) ∧ Aside0 (kq ≤ kj38) ∧ Aside0 (Kd.V (Kd.int .i64) 3 w' w.heap.size (fun k_ => some k_ ≠ ((.slice Ao69 y121.length co69) : Value).ownBlock ∧ k_ ≠ gb101 ∧ k_ ≠ gb124) (.slice Ao77 t128.length co77) t128) ∧ Aside0 (Kd.R k84 84 w' w.heap.size (fun _ => True) (.slice Ao69 y121.length co69) y121) ∧ Aside0 (w'.heap[gb101]? = some (.cells #[(.slice (some ad107) l0_0.length c0_0),(.slice A0_1 l0_1.length c0_1)] 32 (0,0))) ∧ Aside0 (w'.heap[gb124]? = some (.cells #[(.slice (some ad107) l0_0.length c0_0),(.slice Ao69 y121.length co69)] 32 (0,0))) ∧ Aside0 (Below w.heap.size w w'))
                 case atStart => exact ⟨(0),ve,H',⟨Nat.le_refl _⟩,⟨by (with_reducible repeat (first|apply Kd.V_alloc|apply Kd.V_drewN|apply Kd.V_drew));exact Kd.V_mono HO130.out (fun _ hk => ⟨hk.2.1,⟨hk.2.2.1,hk.2.2.2⟩⟩)⟩,⟨by (with_reducible repeat (first|apply Kd.R_alloc|apply Kd.R_drewN|apply Kd.R_drew));exact Kd.R_mono HO123.out (fun _ hk => trivial)⟩,⟨vb BK101.out⟩,⟨vb BK124.out⟩,⟨v2 HB.out GE101.out GE124.out⟩⟩
                 case round =>
                  clear H'
                  try clear c1;try clear p2;try clear c4;try clear c5;try clear c6;try clear p6;try clear c7;try clear c19;try clear c40;try clear c52;try clear c53;try clear p64;try clear c72;try clear hcz73_0;try clear hcz73_1;try clear hcz75_0;try clear hcz75_1;try clear hfz73_0;try clear hfz73_1;try clear hfz75_0;try clear hfz75_1
                  obtain ⟨x149_3,rfl,HA,HK3,HO_147,HO_125001,BK101,BK124,HB⟩:=hrel
                  cases gk with
                 |zero => exact absurd HA.out (by simp [calxlaw04_PitMixed.l0])
                 |succ k3 =>
                   have H:=HA.out
                   clear HA
                   simp only [calxlaw04_PitMixed.l0] at H
                   by_cases c78 : x149_3 < (t128.length : Int)
                   ·rw [if_pos c78] at H
                    have c78b0 : decide (x149_3 < (t128.length : Int)) = true:=decide_eq_true c78
                    clear c78
                    by_cases c79 : 0 ≤ x149_3
                    ·rw [if_pos c79] at H
                     have c79b0 : decide (0 ≤ x149_3) = true:=decide_eq_true c79
                     clear c79
                     by_cases c80 : x149_3 < (t128.length : Int)
                     ·rw [if_pos c80] at H
                      have c80b0 : decide (x149_3 < (t128.length : Int)) = true:=decide_eq_true c80
                      clear c80
                      replace H:=Option.bind_eq_some_iff.mp H
                      obtain ⟨⟨t134,t135,t136⟩,A810,H⟩:=H
                      replace H : ((pit_Share.f l0_0 y121 t110 (rd t128 x149_3)).bind fun bt138 => (if t136 = 0 then (if bt138.2.2 = 0 then (if (!(t134 == bt138.1) || (!(t135 == bt138.2.1))) = true then (some false) else (calxlaw04_PitMixed.l0 k3 t109 t110 t128 (t128.length : Int) (wrap64 (x149_3 + 1)) l0_0 y121)) else (some false)) else (some false))) = some r:=H
                      have A81:=am A810
                      clear A810
                      replace H:=Option.bind_eq_some_iff.mp H
                      obtain ⟨⟨t138,t139,t140⟩,A820,H⟩:=H
                      replace H : (if t136 = 0 then (if t140 = 0 then (if (!(t134 == t138) || (!(t135 == t139))) = true then (some false) else (calxlaw04_PitMixed.l0 k3 t109 t110 t128 (t128.length : Int) (wrap64 (x149_3 + 1)) l0_0 y121)) else (some false)) else (some false)) = some r:=H
                      have A82:=am A820
                      clear A820
                      by_cases c83 : t136 = 0
                      ·rw [if_pos c83] at H
                       have c83b0 : (t136 == 0) = true:=beq_iff_eq.mpr c83
                       have c83b1 : (t136 != 0) = false:=bne_eq_false_iff_eq.mpr c83
                       clear c83
                       by_cases c84 : t140 = 0
                       ·rw [if_pos c84] at H
                        have c84b0 : (t140 == 0) = true:=beq_iff_eq.mpr c84
                        have c84b1 : (t140 != 0) = false:=bne_eq_false_iff_eq.mpr c84
                        clear c84
                        by_cases c85 : (!(t134 == t138) || (!(t135 == t139))) = true
                        ·rw [if_pos c85] at H
                         have c85b0 : (!(t134 == t138) || (!(t135 == t139))) = true:=c85
                         clear c85
                         obtain rfl:=Option.some.inj H
                         cases hr.out
                        ·rw [if_neg c85] at H
                         have c85b0 : (!(t134 == t138) || (!(t135 == t139))) = false:=by simpa using c85
                         clear c85
                         have H':=am H
                         clear H
                         have p133 : 0 ≤ (x149_3 : Int):=of_decide_eq_true va
                         have q133 : x149_3 < (t128.length : Int):=of_decide_eq_true va
                         obtain ⟨ad133,e133,hx133_0⟩:=Kd.at_int (Kd.V_reads' HO_147.out).2.2 x149_3 p133 q133
                         cases e133
                         replace p133:=eq_true p133
                         replace q133:=eq_true q133
                         have hnb101:=NB124_101.out
                         have hnc101:=NB101_124.out
                         have hcz102_0:=bd BK124.out 0
                         have hcz102_1:=bd BK124.out 1
                         have hfz102_0:=blk_frozen BK124.out 0
                         have hfz102_1:=blk_frozen BK124.out 1
                         go_wp2_with (first|((with_reducible refine g_ ?_);refine cE (some 157) Tryz.func30 #[.agg #[.slice (some ad107) l0_0.length c0_0,.slice Ao69 y121.length co69],ii t109,ii (rd t128 x149_3)] ?_;(with_reducible refine (pit_Share.calls _ _ l0_0 _ _ y121 t109 (rd t128 x149_3) t134 t135 t136 _ ?side1 ?side2 ?side3 ?side4 A81.out).mono ?_);(case side1 => repeat (first|exact (Kd.C_below HR0_0.out HB.out)|(with_reducible refine Kd.C_alloc ?_ _)|(with_reducible refine Kd.C_drewN ?_ _)|(with_reducible refine Kd.C_drew ?_)));(case side2 => exact HC0_0.out);(case side3 => repeat (first|exact (Kd.R_reads' HO_125001.out).2.2|(with_reducible refine Kd.C_alloc ?_ _)|(with_reducible refine Kd.C_drewN ?_ _)|(with_reducible refine Kd.C_drew ?_)));(case side4 => exact (Kd.R_reads' HO_125001.out).2.1);rintro e w103 ⟨rfl,hb⟩;refine ⟨_,rfl,?_⟩;replace HO_147:=am (Kd.V_below (wV HO_147.out) hb);replace HO_125001:=am (Kd.R_below (wR HO_125001.out) hb);replace BK101:=am (blk_below (vb BK101.out) hb);replace BK124:=am (blk_below (vb BK124.out) hb);replace HB:=am (below_step (v2 HB.out GE101.out GE124.out) hb);(try clear hb);(try clear hb2);(try clear hk);(try clear hi))|((with_reducible refine gate_dst (N:=26) rfl ?_);(try (refine gate_guard (by rfl) ?_;dsimp only));refine bE 26 #[ii 0,ii 0] 43 ?_;intro gb137 hg w104 hbox hb;have BK137:=am (hbox);have GW137:=am (lg hg (below_size (v2 HB.out GE101.out GE124.out)) : w.heap.size ≤ gb137);have GE137:=GW137;have NB101_137:=am (nl hg (vb BK101.out));have NB137_101:=am ((nl hg (vb BK101.out)).symm);have NB124_137:=am (nl hg (vb BK124.out));have NB137_124:=am ((nl hg (vb BK124.out)).symm);replace HO_147:=am (Kd.V_below (Kd.V_elderB (wV HO_147.out) gb137 (Nat.le_of_eq hg.symm)) hb);replace HO_125001:=am (Kd.R_below (wR HO_125001.out) hb);replace BK101:=am (blk_below (vb BK101.out) hb);replace BK124:=am (blk_below (vb BK124.out) hb);replace HB:=am (below_step (v2 HB.out GE101.out GE124.out) hb);clear hb hbox hg;have hnb105:=NB137_101.out;have hnc105:=NB101_137.out;have hnb106:=NB137_124.out;have hnc106:=NB124_137.out;have hcz107_0:=bd BK137.out 0;have hcz107_1:=bd BK137.out 1;have hfz107_0:=blk_frozen BK137.out 0;have hfz107_1:=blk_frozen BK137.out 1;have hcz108_0:=bd BK124.out 0;have hcz108_1:=bd BK124.out 1;have hfz108_0:=blk_frozen BK124.out 0;have hfz108_1:=blk_frozen BK124.out 1)|((with_reducible refine g_ ?_);refine cE (some 164) Tryz.func30 #[.agg #[.slice (some ad107) l0_0.length c0_0,.slice Ao69 y121.length co69],ii t110,ii (rd t128 x149_3)] ?_;(with_reducible refine (pit_Share.calls _ _ l0_0 _ _ y121 t110 (rd t128 x149_3) t138 t139 t140 _ ?side1 ?side2 ?side3 ?side4 A82.out).mono ?_);(case side1 => exact Kd.C_below HR0_0.out (v3 HB.out GE101.out GE124.out GE137.out));(case side2 => exact HC0_0.out);(case side3 => refine (Kd.R_reads' (e:=84) (base:=w.heap.size) (ok:=fun k_ => True) (n:=y121.length) (c:=co69) ?_).2.2;exact (by (with_reducible repeat (first|apply Kd.R_alloc|apply Kd.R_drewN|apply Kd.R_drew));exact (Kd.R_mono (Kd.R_far (p:=⟨gb137,1,none⟩) (Kd.R_far (p:=⟨gb137,0,none⟩) (Kd.R_types HO_125001.out BK137.out (by decide)) (fun _ hk => hk.2) (ii t134)) (fun _ hk => hk.2) (ii t135)) (fun _ h_ => h_.1))));(case side4 => exact (Kd.R_reads' HO_125001.out).2.1);rintro e w109 ⟨rfl,hb⟩;refine ⟨_,rfl,?_⟩;replace HO_147:=am (Kd.V_below (by (with_reducible repeat (first|apply Kd.V_alloc|apply Kd.V_drewN|apply Kd.V_drew));exact (Kd.V_mono (Kd.V_far (p:=⟨gb137,1,none⟩) (Kd.V_far (p:=⟨gb137,0,none⟩) (Kd.V_mono HO_147.out (fun k_ hk => (⟨hk,hk.2⟩ : _ ∧ k_ ≠ gb137))) (fun _ hk => hk.2) (ii t134)) (fun _ hk => hk.2) (ii t135)) (fun _ h_ => h_.1))) hb);replace HO_125001:=am (Kd.R_below (by (with_reducible repeat (first|apply Kd.R_alloc|apply Kd.R_drewN|apply Kd.R_drew));exact (Kd.R_mono (Kd.R_far (p:=⟨gb137,1,none⟩) (Kd.R_far (p:=⟨gb137,0,none⟩) (Kd.R_types HO_125001.out BK137.out (by decide)) (fun _ hk => hk.2) (ii t134)) (fun _ hk => hk.2) (ii t135)) (fun _ h_ => h_.1))) hb);replace BK101:=am (blk_below (g:=gb101) (o:=.cells #[.slice (some ad107) l0_0.length c0_0,.slice A0_1 l0_1.length c0_1] 32 (0,0)) (vh BK101.out NB101_137.out) hb);replace BK124:=am (blk_below (g:=gb124) (o:=.cells #[.slice (some ad107) l0_0.length c0_0,.slice Ao69 y121.length co69] 32 (0,0)) (vh BK124.out NB124_137.out) hb);replace BK137:=am (blk_below (g:=gb137) (o:=.cells #[ii t134,ii t135] 43 (0,0)) (by (with_reducible repeat (first|refine blk_drewN ?_ _|refine blk_drew ?_|refine blk_alloc ?_ _));refine blk_put (cs:=#[ii t134,ii 0]) ?_ 1 _ rfl;(with_reducible repeat (first|refine blk_drewN ?_ _|refine blk_drew ?_|refine blk_alloc ?_ _));refine blk_put (cs:=#[ii 0,ii 0]) ?_ 0 _ rfl;(with_reducible repeat (first|refine blk_drewN ?_ _|refine blk_drew ?_|refine blk_alloc ?_ _));exact BK137.out) hb);replace HB:=am (below_step (v3 HB.out GE101.out GE124.out GE137.out) hb);(try clear hb);(try clear hb2);(try clear hk);(try clear hi))|((with_reducible refine gate_dst (N:=28) rfl ?_);(try (refine gate_guard (by rfl) ?_;dsimp only));refine bE 28 #[ii 0,ii 0] 43 ?_;intro gb141 hg w110 hbox hb;have BK141:=am (hbox);have GW141:=am (lg hg (below_size (v3 HB.out GE101.out GE124.out GE137.out)) : w.heap.size ≤ gb141);have GE141:=GW141;have NB101_141:=am (nl hg (vb BK101.out));have NB141_101:=am ((nl hg (vb BK101.out)).symm);have NB124_141:=am (nl hg (vb BK124.out));have NB141_124:=am ((nl hg (vb BK124.out)).symm);have NB137_141:=am (nl hg (vb BK137.out));have NB141_137:=am ((nl hg (vb BK137.out)).symm);replace HO_147:=am (Kd.V_below (Kd.V_elderB (wV HO_147.out) gb141 (Nat.le_of_eq hg.symm)) hb);replace HO_125001:=am (Kd.R_below (wR HO_125001.out) hb);replace BK101:=am (blk_below (vb BK101.out) hb);replace BK124:=am (blk_below (vb BK124.out) hb);replace BK137:=am (blk_below (vb BK137.out) hb);replace HB:=am (below_step (v3 HB.out GE101.out GE124.out GE137.out) hb);clear hb hbox hg;have hnb111:=NB141_101.out;have hnc111:=NB101_141.out;have hnb112:=NB141_124.out;have hnc112:=NB124_141.out;have hnb113:=NB141_137.out;have hnc113:=NB137_141.out;have hcz114_0:=bd BK141.out 0;have hcz114_1:=bd BK141.out 1;have hfz114_0:=blk_frozen BK141.out 0;have hfz114_1:=blk_frozen BK141.out 1;have hcz115_0:=bd BK137.out 0;have hcz115_1:=bd BK137.out 1;have hfz115_0:=blk_frozen BK137.out 0;have hfz115_1:=blk_frozen BK137.out 1))
                         go_roundg k3
                         case measure => have:=HJ4.out;have:=HJ38.out;have:=HK3.out;omega
                         case rel => exact ⟨(wrap64 (x149_3 + 1)),ve,H',⟨by have:=HJ4.out;have:=HJ38.out;have:=HK3.out;omega⟩,⟨by (with_reducible repeat (first|apply Kd.V_alloc|apply Kd.V_drewN|apply Kd.V_drew));exact Kd.V_mono (Kd.V_far (p:=⟨gb141,1,none⟩) (Kd.V_far (p:=⟨gb141,0,none⟩) (Kd.V_mono HO_147.out (fun k_ hk => (⟨hk,hk.2⟩ : _ ∧ k_ ≠ gb141))) (fun _ hk => hk.2) (ii t138)) (fun _ hk => hk.2) (ii t139)) (fun _ hk => ⟨hk.1.1.1.1,⟨hk.1.1.1.2.1,hk.1.1.1.2.2⟩⟩)⟩,⟨by (with_reducible repeat (first|apply Kd.R_alloc|apply Kd.R_drewN|apply Kd.R_drew));exact Kd.R_mono (Kd.R_far (p:=⟨gb141,1,none⟩) (Kd.R_far (p:=⟨gb141,0,none⟩) (Kd.R_types HO_125001.out BK141.out (by decide)) (fun _ hk => hk.2) (ii t138)) (fun _ hk => hk.2) (ii t139)) (fun _ hk => trivial)⟩,⟨by (with_reducible repeat (first|refine blk_drewN ?_ _|refine blk_drew ?_|refine blk_alloc ?_ _));refine blk_far ?_ NB101_141.out _;(with_reducible repeat (first|refine blk_drewN ?_ _|refine blk_drew ?_|refine blk_alloc ?_ _));refine blk_far ?_ NB101_141.out _;(with_reducible repeat (first|refine blk_drewN ?_ _|refine blk_drew ?_|refine blk_alloc ?_ _));exact BK101.out⟩,⟨by (with_reducible repeat (first|refine blk_drewN ?_ _|refine blk_drew ?_|refine blk_alloc ?_ _));refine blk_far ?_ NB124_141.out _;(with_reducible repeat (first|refine blk_drewN ?_ _|refine blk_drew ?_|refine blk_alloc ?_ _));refine blk_far ?_ NB124_141.out _;(with_reducible repeat (first|refine blk_drewN ?_ _|refine blk_drew ?_|refine blk_alloc ?_ _));exact BK124.out⟩,⟨v4 HB.out GE101.out GE124.out GE137.out GE141.out⟩⟩
                       ·rw [if_neg c84] at H
                        have c84b0 : (t140 == 0) = false:=beq_eq_false_iff_ne.mpr c84
                        have c84b1 : (t140 != 0) = true:=bne_iff_ne.mpr c84
                        obtain rfl:=Option.some.inj H
                        cases hr.out
                      ·rw [if_neg c83] at H
                       have c83b0 : (t136 == 0) = false:=beq_eq_false_iff_ne.mpr c83
                       have c83b1 : (t136 != 0) = true:=bne_iff_ne.mpr c83
                       obtain rfl:=Option.some.inj H
                       cases hr.out
                     ·rw [if_neg c80] at H
                      exact absurd H (by simp)
                    ·rw [if_neg c79] at H
                     exact absurd H (by simp)
                   ·rw [if_neg c78] at H
                    have c78b0 : decide (x149_3 < (t128.length : Int)) = false:=decide_eq_false c78
                    clear c78
                    replace H:=Option.bind_eq_some_iff.mp H
                    obtain ⟨t132,A1440,H⟩:=H
                    replace H : (some t132) = some r:=H
                    have A144:=am A1440
                    clear A1440
                    obtain rfl:=Option.some.inj H
                    go_wp2_with (first|((with_reducible refine g_ ?_);refine cE (some 179) Tryz.func27 #[] ?_;(with_reducible refine (calxlaw04_sanity.calls  t132 _ A144.out).mono ?_);rintro e w145 ⟨rfl,hb⟩;refine ⟨_,rfl,?_⟩;replace HO_147:=am (Kd.V_below (wV HO_147.out) hb);replace HO_125001:=am (Kd.R_below (wR HO_125001.out) hb);replace BK101:=am (blk_below (vb BK101.out) hb);replace BK124:=am (blk_below (vb BK124.out) hb);replace HB:=am (below_step (v2 HB.out GE101.out GE124.out) hb);(try clear hb);(try clear hb2);(try clear hk);(try clear hi)))
                    go_ret
                    exact ⟨by first|rfl|(simp [errW_none,errW_some] <;> rfl)|(simp only [← hji24,← hji33,← hji35];first|rfl|(simp [errW_none,errW_some] <;> rfl))|(simp [*,errW_none,errW_some] <;> rfl),v2 HB.out GE101.out GE124.out⟩
                ·rw [if_neg c57] at H
                 have c57b0 : (t131 == 0) = false:=beq_eq_false_iff_ne.mpr c57
                 have c57b1 : (t131 != 0) = true:=bne_iff_ne.mpr c57
                 obtain rfl:=Option.some.inj H
                 cases hr.out
               ·rw [if_neg c55] at H
                have c55b0 : (t125 == 0) = false:=beq_eq_false_iff_ne.mpr c55
                have c55b1 : (t125 != 0) = true:=bne_iff_ne.mpr c55
                replace H:=Option.bind_eq_some_iff.mp H
                obtain ⟨t127,A1650,H⟩:=H
                replace H : (if t127 = true then (some (t125 == 3)) else (some false)) = some r:=H
                have A165:=am A1650
                clear A1650
                by_cases c166 : t127 = true
                ·subst c166
                 have H1 : (some (t125 == 3)) = some r:=by rw [if_pos rfl] at H;exact H
                 clear H
                 have H:=H1
                 clear H1
                 obtain rfl:=Option.some.inj H
                 try go_wp2
                 replace BK101:=am (blk_drew BK101.out)
                 replace HB:=am (below_drew1 HB.out)
                 refine start_ (n:=24) (S:=fun w' => w'.cell? ⟨gb101,0,none⟩ = some (.slice (some ad107) l0_0.length c0_0) ∧ w'.cell? ⟨gb101,1,none⟩ = some (.slice A0_1 l0_1.length c0_1)) (ds:=[]) (ab 24 0) kr rfl kr ⟨(blk_cell BK101.out 0).trans rfl,(blk_cell BK101.out 1).trans rfl⟩ (fun hHeld => ?_);refine with_tabW calxlaw04_PitMixed.tab18 calxlaw04_PitMixed.bits18 (fun HT_ HW_ => ?_)
                 generalize wc.drew = w167 at BK101 HB hHeld ⊢
                 refine qA 0 (some 106) ?_;refine qA 3 (some 109) ?_;refine qA 6 (some 112) ?_;refine qA 7 (some 113) ?_;refine qA 8 (some 114) ?_;refine qA 9 (some 115) ?_;refine qA 10 (some 116) ?_;refine qA 11 (some 117) ?_;refine qA 12 (some 118) ?_;refine qA 13 (some 119) ?_;refine qA 14 (some 120) ?_;refine qA 15 (some 121) ?_;refine qA 16 (some 122) ?_;refine qA 17 (some 123) ?_;refine qA 18 (some 124) ?_;refine qT 1 (some 107) ?_;refine qT 4 (some 110) ?_
                 refine join_ (σ:=Value × Value × Value × Value × Nat) 1 (ab 24 8388607) (fun s_ => [(108,s_.1),(111,s_.2.1),(125,s_.2.2.1),(126,s_.2.2.2.1),(19,.pointer (some ⟨s_.2.2.2.2,0,none⟩)),(127,.agg #[.slice (some ad107) l0_0.length c0_0,s_.2.2.2.1])]) (fun s_ w' => (w'.cell? ⟨gb101,0,none⟩ = some (.slice (some ad107) l0_0.length c0_0) ∧ w'.cell? ⟨gb101,1,none⟩ = some (.slice A0_1 l0_1.length c0_1)) ∧ (Kd.R k84 84 w' w.heap.size (fun k_ => some k_ ≠ (s_.2.2.2.1 : Value).ownBlock) s_.2.2.1 y118) ∧ (Kd.R k84 84 w' w.heap.size (fun k_ => some k_ ≠ (s_.2.2.1 : Value).ownBlock) s_.2.2.2.1 y121) ∧ (w'.heap[gb101]? = some (.cells #[.slice (some ad107) l0_0.length c0_0,.slice A0_1 l0_1.length c0_1] 32 (0,0))) ∧ (w'.heap[s_.2.2.2.2]? = some (.cells #[.slice none 0 0,.slice none 0 0] 32 (0,0))) ∧ (w.heap.size ≤ s_.2.2.2.2) ∧ (w.heap.size ≤ s_.2.2.2.2) ∧ (gb101 ≠ s_.2.2.2.2) ∧ (s_.2.2.2.2 ≠ gb101) ∧ (Below w.heap.size w w')) ?_ ?_
                 rotate_left
                 ·intro hJ2_5_19_20_22
                  refine join_ (σ:=Value × Value × Value × Value) 2 (ab 24 4194303) (fun s_ => [(108,s_.1),(111,s_.2.1),(125,s_.2.2.1),(126,s_.2.2.2),(127,.agg #[.slice (some ad107) l0_0.length c0_0,s_.2.2.2])]) (fun s_ w' => (w'.cell? ⟨gb101,0,none⟩ = some (.slice (some ad107) l0_0.length c0_0) ∧ w'.cell? ⟨gb101,1,none⟩ = some (.slice A0_1 l0_1.length c0_1)) ∧ (Kd.R k84 84 w' w.heap.size (fun k_ => some k_ ≠ (s_.2.2.2 : Value).ownBlock) s_.2.2.1 y118) ∧ (Kd.R k84 84 w' w.heap.size (fun k_ => some k_ ≠ (s_.2.2.1 : Value).ownBlock) s_.2.2.2 y121) ∧ (w'.heap[gb101]? = some (.cells #[.slice (some ad107) l0_0.length c0_0,.slice A0_1 l0_1.length c0_1] 32 (0,0))) ∧ (Below w.heap.size w w')) ?_ ?_
                  rotate_left
                  ·intro hJ2_5_19_20
                   refine join_ (σ:=Value × Value × Value × Nat) 3 (ab 24 5242879) (fun s_ => [(108,s_.1),(111,s_.2.1),(125,s_.2.2.1),(19,.pointer (some ⟨s_.2.2.2,0,none⟩))]) (fun s_ w' => (w'.cell? ⟨gb101,0,none⟩ = some (.slice (some ad107) l0_0.length c0_0) ∧ w'.cell? ⟨gb101,1,none⟩ = some (.slice A0_1 l0_1.length c0_1)) ∧ (Kd.R k84 84 w' w.heap.size (fun k_ => some k_ ≠ (s_.2.2.1 : Value).ownBlock) s_.2.1 y115) ∧ (Kd.R k84 84 w' w.heap.size (fun k_ => some k_ ≠ (s_.2.1 : Value).ownBlock) s_.2.2.1 y118) ∧ (w'.heap[gb101]? = some (.cells #[.slice (some ad107) l0_0.length c0_0,.slice A0_1 l0_1.length c0_1] 32 (0,0))) ∧ (w'.heap[s_.2.2.2]? = some (.cells #[.slice none 0 0,.slice none 0 0] 32 (0,0))) ∧ (w.heap.size ≤ s_.2.2.2) ∧ (w.heap.size ≤ s_.2.2.2) ∧ (gb101 ≠ s_.2.2.2) ∧ (s_.2.2.2 ≠ gb101) ∧ (Below w.heap.size w w')) ?_ ?_
                   rotate_left
                   ·intro hJ2_5_19_22
                    refine join_ (σ:=Value × Value × Value) 4 (ab 24 1048575) (fun s_ => [(108,s_.1),(111,s_.2.1),(125,s_.2.2)]) (fun s_ w' => (w'.cell? ⟨gb101,0,none⟩ = some (.slice (some ad107) l0_0.length c0_0) ∧ w'.cell? ⟨gb101,1,none⟩ = some (.slice A0_1 l0_1.length c0_1)) ∧ (Kd.R k84 84 w' w.heap.size (fun k_ => some k_ ≠ (s_.2.2 : Value).ownBlock) s_.2.1 y115) ∧ (Kd.R k84 84 w' w.heap.size (fun k_ => some k_ ≠ (s_.2.1 : Value).ownBlock) s_.2.2 y118) ∧ (w'.heap[gb101]? = some (.cells #[.slice (some ad107) l0_0.length c0_0,.slice A0_1 l0_1.length c0_1] 32 (0,0))) ∧ (Below w.heap.size w w')) ?_ ?_
                    rotate_left
                    ·intro hJ2_5_19
                     refine join_ (σ:=Value × Value × Nat) 4 (ab 24 4718591) (fun s_ => [(108,s_.1),(111,s_.2.1),(19,.pointer (some ⟨s_.2.2,0,none⟩))]) (fun s_ w' => (w'.cell? ⟨gb101,0,none⟩ = some (.slice (some ad107) l0_0.length c0_0) ∧ w'.cell? ⟨gb101,1,none⟩ = some (.slice A0_1 l0_1.length c0_1)) ∧ (Kd.R k84 84 w' w.heap.size (fun _ => True) s_.2.1 y115) ∧ (w'.heap[gb101]? = some (.cells #[.slice (some ad107) l0_0.length c0_0,.slice A0_1 l0_1.length c0_1] 32 (0,0))) ∧ (w'.heap[s_.2.2]? = some (.cells #[.slice none 0 0,.slice none 0 0] 32 (0,0))) ∧ (w.heap.size ≤ s_.2.2) ∧ (w.heap.size ≤ s_.2.2) ∧ (gb101 ≠ s_.2.2) ∧ (s_.2.2 ≠ gb101) ∧ (Below w.heap.size w w')) ?_ ?_
                     rotate_left
                     ·intro hJ2_5_22
                      refine join_ (σ:=Value × Value × Nat) 4 (ab 24 5242847) (fun s_ => [(108,s_.1),(125,s_.2.1),(19,.pointer (some ⟨s_.2.2,0,none⟩))]) (fun s_ w' => (w'.cell? ⟨gb101,0,none⟩ = some (.slice (some ad107) l0_0.length c0_0) ∧ w'.cell? ⟨gb101,1,none⟩ = some (.slice A0_1 l0_1.length c0_1)) ∧ (Kd.R k84 84 w' w.heap.size (fun k_ => some k_ ≠ (s_.2.1 : Value).ownBlock) s_.1 y112) ∧ (Kd.R k84 84 w' w.heap.size (fun k_ => some k_ ≠ (s_.1 : Value).ownBlock) s_.2.1 y118) ∧ (w'.heap[gb101]? = some (.cells #[.slice (some ad107) l0_0.length c0_0,.slice A0_1 l0_1.length c0_1] 32 (0,0))) ∧ (w'.heap[s_.2.2]? = some (.cells #[.slice none 0 0,.slice none 0 0] 32 (0,0))) ∧ (w.heap.size ≤ s_.2.2) ∧ (w.heap.size ≤ s_.2.2) ∧ (gb101 ≠ s_.2.2) ∧ (s_.2.2 ≠ gb101) ∧ (Below w.heap.size w w')) ?_ ?_
                      rotate_left
                      ·intro hJ2_19_22
                       refine join_ (σ:=Value × Value) 5 (ab 24 524287) (fun s_ => [(108,s_.1),(111,s_.2)]) (fun s_ w' => (w'.cell? ⟨gb101,0,none⟩ = some (.slice (some ad107) l0_0.length c0_0) ∧ w'.cell? ⟨gb101,1,none⟩ = some (.slice A0_1 l0_1.length c0_1)) ∧ (Kd.R k84 84 w' w.heap.size (fun _ => True) s_.2 y115) ∧ (w'.heap[gb101]? = some (.cells #[.slice (some ad107) l0_0.length c0_0,.slice A0_1 l0_1.length c0_1] 32 (0,0))) ∧ (Below w.heap.size w w')) ?_ ?_
                       rotate_left
                       ·intro hJ2_5
                        refine join_ (σ:=Value × Value) 5 (ab 24 1048543) (fun s_ => [(108,s_.1),(125,s_.2)]) (fun s_ w' => (w'.cell? ⟨gb101,0,none⟩ = some (.slice (some ad107) l0_0.length c0_0) ∧ w'.cell? ⟨gb101,1,none⟩ = some (.slice A0_1 l0_1.length c0_1)) ∧ (Kd.R k84 84 w' w.heap.size (fun k_ => some k_ ≠ (s_.2 : Value).ownBlock) s_.1 y112) ∧ (Kd.R k84 84 w' w.heap.size (fun k_ => some k_ ≠ (s_.1 : Value).ownBlock) s_.2 y118) ∧ (w'.heap[gb101]? = some (.cells #[.slice (some ad107) l0_0.length c0_0,.slice A0_1 l0_1.length c0_1] 32 (0,0))) ∧ (Below w.heap.size w w')) ?_ ?_
                        rotate_left
                        ·intro hJ2_19
                         refine join_ (σ:=Value × Nat) 5 (ab 24 4718559) (fun s_ => [(108,s_.1),(19,.pointer (some ⟨s_.2,0,none⟩))]) (fun s_ w' => (w'.cell? ⟨gb101,0,none⟩ = some (.slice (some ad107) l0_0.length c0_0) ∧ w'.cell? ⟨gb101,1,none⟩ = some (.slice A0_1 l0_1.length c0_1)) ∧ (Kd.R k84 84 w' w.heap.size (fun _ => True) s_.1 y112) ∧ (w'.heap[gb101]? = some (.cells #[.slice (some ad107) l0_0.length c0_0,.slice A0_1 l0_1.length c0_1] 32 (0,0))) ∧ (w'.heap[s_.2]? = some (.cells #[.slice none 0 0,.slice none 0 0] 32 (0,0))) ∧ (w.heap.size ≤ s_.2) ∧ (w.heap.size ≤ s_.2) ∧ (gb101 ≠ s_.2) ∧ (s_.2 ≠ gb101) ∧ (Below w.heap.size w w')) ?_ ?_
                         rotate_left
                         ·intro hJ2_22
                          refine join_ (σ:=Value × Nat) 5 (ab 24 5242843) (fun s_ => [(125,s_.1),(19,.pointer (some ⟨s_.2,0,none⟩))]) (fun s_ w' => (w'.cell? ⟨gb101,0,none⟩ = some (.slice (some ad107) l0_0.length c0_0) ∧ w'.cell? ⟨gb101,1,none⟩ = some (.slice A0_1 l0_1.length c0_1)) ∧ (Kd.R k84 84 w' w.heap.size (fun _ => True) s_.1 y118) ∧ (w'.heap[gb101]? = some (.cells #[.slice (some ad107) l0_0.length c0_0,.slice A0_1 l0_1.length c0_1] 32 (0,0))) ∧ (w'.heap[s_.2]? = some (.cells #[.slice none 0 0,.slice none 0 0] 32 (0,0))) ∧ (w.heap.size ≤ s_.2) ∧ (w.heap.size ≤ s_.2) ∧ (gb101 ≠ s_.2) ∧ (s_.2 ≠ gb101) ∧ (Below w.heap.size w w')) ?_ ?_
                          rotate_left
                          ·intro hJ19_22
                           refine join_ (σ:=Value) 6 (ab 24 524255) (fun s_ => [(108,s_)]) (fun s_ w' => (w'.cell? ⟨gb101,0,none⟩ = some (.slice (some ad107) l0_0.length c0_0) ∧ w'.cell? ⟨gb101,1,none⟩ = some (.slice A0_1 l0_1.length c0_1)) ∧ (Kd.R k84 84 w' w.heap.size (fun _ => True) s_ y112) ∧ (w'.heap[gb101]? = some (.cells #[.slice (some ad107) l0_0.length c0_0,.slice A0_1 l0_1.length c0_1] 32 (0,0))) ∧ (Below w.heap.size w w')) ?_ ?_
                           rotate_left
                           ·intro hJ2
                            refine join_ (σ:=Value) 6 (ab 24 1048539) (fun s_ => [(125,s_)]) (fun s_ w' => (w'.cell? ⟨gb101,0,none⟩ = some (.slice (some ad107) l0_0.length c0_0) ∧ w'.cell? ⟨gb101,1,none⟩ = some (.slice A0_1 l0_1.length c0_1)) ∧ (Kd.R k84 84 w' w.heap.size (fun _ => True) s_ y118) ∧ (w'.heap[gb101]? = some (.cells #[.slice (some ad107) l0_0.length c0_0,.slice A0_1 l0_1.length c0_1] 32 (0,0))) ∧ (Below w.heap.size w w')) ?_ ?_
                            rotate_left
                            ·intro hJ19
                             refine join_ (σ:=Nat) 6 (ab 24 4718555) (fun s_ => [(19,.pointer (some ⟨s_,0,none⟩))]) (fun s_ w' => (w'.cell? ⟨gb101,0,none⟩ = some (.slice (some ad107) l0_0.length c0_0) ∧ w'.cell? ⟨gb101,1,none⟩ = some (.slice A0_1 l0_1.length c0_1)) ∧ (w'.heap[gb101]? = some (.cells #[.slice (some ad107) l0_0.length c0_0,.slice A0_1 l0_1.length c0_1] 32 (0,0))) ∧ (w'.heap[s_]? = some (.cells #[.slice none 0 0,.slice none 0 0] 32 (0,0))) ∧ (w.heap.size ≤ s_) ∧ (w.heap.size ≤ s_) ∧ (gb101 ≠ s_) ∧ (s_ ≠ gb101) ∧ (Below w.heap.size w w')) ?_ ?_
                             rotate_left
                             ·intro hJ22
                              refine three_ (i:=2) (j:=19) (k:=22) (Ni:=some 108) (Nj:=some 125) (Nk:=some 19) (ab 24 524255) (ab 24 1048539) (ab 24 4718555) rfl rfl rfl rfl rfl rfl (three_of HT_.out kr) (by decide) (by decide) (by decide) (fun K hK => ?_) (fun K hK => ?_) (fun K hK => ?_)
                              ·skip
                               refine Kd.R_lit_step k84 _ 84 ?hg (N:=108) ?hd (xs:=([] : List (S84))) (inner:=[]) (ok:=fun _ => True) (okp:=fun _ => True) ?hr ?hp (fun _ hk => hk) trivial (Below.refl _ _) (Nat.le_refl _) (by simp) ?_;(case hd => rfl);(case hg => rfl);(case hr => first|(go_simp;done)|(go_simp;rfl));(case hp => exact (Reps.none _ _))
                               intro v113 w168 ho169 hb hg_ hnew_
                               clear hg_ hnew_
                               (first|rw [← Ny112.out] at ho169|(simp only [Int.reduceToNat] at ho169;rw [← Ny112.out] at ho169))
                               have HO114:=am (Kd.R_lower ho169 (below_size (v1 HB.out GE101.out)))
                               replace BK101:=am (blk_below (vb BK101.out) hb)
                               replace HB:=am (below_step (v1 HB.out GE101.out) hb)
                               clear hb ho169
                               refine hK.out _ _ ⟨(blk_cell BK101.out 0).trans rfl,(blk_cell BK101.out 1).trans rfl⟩ (fun hHeld => ?_)
                               clear hK K
                               refine qN (some 108) ?_
                               exact nP (hJ2 (v113) _ ⟨hHeld,(wR HO114.out),(vb BK101.out),(v1 HB.out GE101.out)⟩)
                              ·skip
                               refine Kd.R_lit_step k84 _ 84 ?hg (N:=125) ?hd (xs:=([(⟨0,3,x17_38,ji24,0,0⟩ : S84),(⟨t109,2,x17_38,ji24,0,(wrap64 (1 + (Int.tmod (wrap64 (a2)) (ji33))))⟩ : S84),(⟨t110,2,x17_38,ji24,0,(wrap64 (1 + (Int.tmod (wrap64 (a3)) (ji35))))⟩ : S84)] : List (S84))) (inner:=[ii 0,ii 3,ii x17_38,ii ji24,ii 0,ii 0,ii t109,ii 2,ii x17_38,ii ji24,ii 0,ii (wrap64 (1 + (Int.tmod (wrap64 (a2)) (ji33)))),ii t110,ii 2,ii x17_38,ii ji24,ii 0,ii (wrap64 (1 + (Int.tmod (wrap64 (a3)) (ji35))))]) (ok:=fun _ => True) (okp:=fun _ => True) ?hr ?hp (fun _ hk => hk) trivial (Below.refl _ _) (Nat.le_refl _) (by simp) ?_;(case hd => rfl);(case hg => rfl);(case hr => first|(go_simp;done)|(go_simp;rfl));(case hp => exact (Reps.c6 (show Kd.M k84 _ _ _ (⟨0,3,x17_38,ji24,0,0⟩ : S84) [ii 0,ii 3,ii x17_38,ii ji24,ii 0,ii 0] from (k84_mkM _ _ _ (⟨0,3,x17_38,ji24,0,0⟩ : S84) )) (Reps.c6 (show Kd.M k84 _ _ _ (⟨t109,2,x17_38,ji24,0,(wrap64 (1 + (Int.tmod (wrap64 (a2)) (ji33))))⟩ : S84) [ii t109,ii 2,ii x17_38,ii ji24,ii 0,ii (wrap64 (1 + (Int.tmod (wrap64 (a2)) (ji33))))] from (k84_mkM _ _ _ (⟨t109,2,x17_38,ji24,0,(wrap64 (1 + (Int.tmod (wrap64 (a2)) (ji33))))⟩ : S84) )) (Reps.c6 (show Kd.M k84 _ _ _ (⟨t110,2,x17_38,ji24,0,(wrap64 (1 + (Int.tmod (wrap64 (a3)) (ji35))))⟩ : S84) [ii t110,ii 2,ii x17_38,ii ji24,ii 0,ii (wrap64 (1 + (Int.tmod (wrap64 (a3)) (ji35))))] from (k84_mkM _ _ _ (⟨t110,2,x17_38,ji24,0,(wrap64 (1 + (Int.tmod (wrap64 (a3)) (ji35))))⟩ : S84) )) (Reps.none _ _)))))
                               intro v119 w168 ho169 hb hg_ hnew_
                               clear hg_ hnew_
                               (first|rw [← Ny118.out] at ho169|(simp only [Int.reduceToNat] at ho169;rw [← Ny118.out] at ho169))
                               have HO120:=am (Kd.R_lower ho169 (below_size (v1 HB.out GE101.out)))
                               replace BK101:=am (blk_below (vb BK101.out) hb)
                               replace HB:=am (below_step (v1 HB.out GE101.out) hb)
                               clear hb ho169
                               refine hK.out _ _ ⟨(blk_cell BK101.out 0).trans rfl,(blk_cell BK101.out 1).trans rfl⟩ (fun hHeld => ?_)
                               clear hK K
                               refine qN (some 125) ?_
                               exact nP (hJ19 (v119) _ ⟨hHeld,(wR HO120.out),(vb BK101.out),(v1 HB.out GE101.out)⟩)
                              ·skip
                               refine box_step ?hg (N:=19) ?hd (cs:=#[.slice none 0 0,.slice none 0 0]) (t:=32) ?hr ?_;(case hd => rfl);(case hg => rfl);(case hr => first|(go_simp;done)|(go_simp;rfl))
                               intro gb124 hg w168 hbox hb
                               have BK124:=am (hbox)
                               have GW124:=am (lg hg (below_size (v1 HB.out GE101.out)) : w.heap.size ≤ gb124)
                               have GE124:=GW124
                               have NB101_124:=am (nl hg (vb BK101.out))
                               have NB124_101:=am ((nl hg (vb BK101.out)).symm)
                               replace BK101:=am (blk_below (vb BK101.out) hb)
                               replace HB:=am (below_step (v1 HB.out GE101.out) hb)
                               clear hb hbox hg
                               refine hK.out _ _ ⟨(blk_cell BK101.out 0).trans rfl,(blk_cell BK101.out 1).trans rfl⟩ (fun hHeld => ?_)
                               clear hK K
                               refine qN (some 19) ?_
                               exact nP (hJ22 (gb124) _ ⟨hHeld,(vb BK101.out),(vb BK124.out),GW124.out,GE124.out,NB101_124.out,NB124_101.out,(v2 HB.out GE101.out GE124.out)⟩)
                             ·skip
                              rintro gb124 w169 ⟨hS_,h0_,h1_,h2_,h3_,h4_,h5_,h6_⟩
                              have BK124 : Aside0 (w169.heap[gb124]? = some (.cells #[.slice none 0 0,.slice none 0 0] 32 (0,0))):=⟨h1_⟩
                              have GW124 : Aside0 (w.heap.size ≤ gb124):=⟨h2_⟩
                              have GE124 : Aside0 (w.heap.size ≤ gb124):=⟨h3_⟩
                              have NB101_124 : Aside0 (gb101 ≠ gb124):=⟨h4_⟩
                              have NB124_101 : Aside0 (gb124 ≠ gb101):=⟨h5_⟩
                              replace BK101 : Aside0 (w169.heap[gb101]? = some (.cells #[.slice (some ad107) l0_0.length c0_0,.slice A0_1 l0_1.length c0_1] 32 (0,0))):=⟨h0_⟩
                              replace HB : Aside0 (Below w.heap.size w w169):=⟨h6_⟩
                              clear h0_ h1_ h2_ h3_ h4_ h5_ h6_
                              have hHeld : w169.cell? ⟨gb101,0,none⟩ = some (.slice (some ad107) l0_0.length c0_0) ∧ w169.cell? ⟨gb101,1,none⟩ = some (.slice A0_1 l0_1.length c0_1):=hS_
                              refine norm_ (a':=?_) ?_ ?_
                              rotate_left
                              ·simp only [Go.Proofs.YtjjfpmapjjemcaaGreatW.PrintLast.putAll,Act.put,List.setIfInBounds_toArray,List.set_cons_zero,List.set_cons_succ]
                               rfl
                              refine two_ (i:=2) (j:=19) (Ni:=some 108) (Nj:=some 125) (ab 24 4718559) (ab 24 5242843) rfl rfl rfl rfl (two_of HT_.out kr) (by decide) (by decide) (fun K hK => ?_) (fun K hK => ?_)
                              ·skip
                               refine Kd.R_lit_step k84 _ 84 ?hg (N:=108) ?hd (xs:=([] : List (S84))) (inner:=[]) (ok:=fun _ => True) (okp:=fun _ => True) ?hr ?hp (fun _ hk => hk) trivial (Below.refl _ _) (Nat.le_refl _) (by simp) ?_;(case hd => rfl);(case hg => rfl);(case hr => first|(go_simp;done)|(go_simp;rfl));(case hp => exact (Reps.none _ _))
                               intro v113 w170 ho171 hb hg_ hnew_
                               clear hg_ hnew_
                               (first|rw [← Ny112.out] at ho171|(simp only [Int.reduceToNat] at ho171;rw [← Ny112.out] at ho171))
                               have HO114:=am (Kd.R_lower ho171 (below_size (v2 HB.out GE101.out GE124.out)))
                               replace BK101:=am (blk_below (vb BK101.out) hb)
                               replace BK124:=am (blk_below (vb BK124.out) hb)
                               replace HB:=am (below_step (v2 HB.out GE101.out GE124.out) hb)
                               clear hb ho171
                               refine hK.out _ _ ⟨(blk_cell BK101.out 0).trans rfl,(blk_cell BK101.out 1).trans rfl⟩ (fun hHeld => ?_)
                               clear hK K
                               refine qN (some 108) ?_
                               exact nP (hJ2_22 (v113,gb124) _ ⟨hHeld,(wR HO114.out),(vb BK101.out),(vb BK124.out),GW124.out,GE124.out,NB101_124.out,NB124_101.out,(v2 HB.out GE101.out GE124.out)⟩)
                              ·skip
                               refine Kd.R_lit_step k84 _ 84 ?hg (N:=125) ?hd (xs:=([(⟨0,3,x17_38,ji24,0,0⟩ : S84),(⟨t109,2,x17_38,ji24,0,(wrap64 (1 + (Int.tmod (wrap64 (a2)) (ji33))))⟩ : S84),(⟨t110,2,x17_38,ji24,0,(wrap64 (1 + (Int.tmod (wrap64 (a3)) (ji35))))⟩ : S84)] : List (S84))) (inner:=[ii 0,ii 3,ii x17_38,ii ji24,ii 0,ii 0,ii t109,ii 2,ii x17_38,ii ji24,ii 0,ii (wrap64 (1 + (Int.tmod (wrap64 (a2)) (ji33)))),ii t110,ii 2,ii x17_38,ii ji24,ii 0,ii (wrap64 (1 + (Int.tmod (wrap64 (a3)) (ji35))))]) (ok:=fun _ => True) (okp:=fun _ => True) ?hr ?hp (fun _ hk => hk) trivial (Below.refl _ _) (Nat.le_refl _) (by simp) ?_;(case hd => rfl);(case hg => rfl);(case hr => first|(go_simp;done)|(go_simp;rfl));(case hp => exact (Reps.c6 (show Kd.M k84 _ _ _ (⟨0,3,x17_38,ji24,0,0⟩ : S84) [ii 0,ii 3,ii x17_38,ii ji24,ii 0,ii 0] from (k84_mkM _ _ _ (⟨0,3,x17_38,ji24,0,0⟩ : S84) )) (Reps.c6 (show Kd.M k84 _ _ _ (⟨t109,2,x17_38,ji24,0,(wrap64 (1 + (Int.tmod (wrap64 (a2)) (ji33))))⟩ : S84) [ii t109,ii 2,ii x17_38,ii ji24,ii 0,ii (wrap64 (1 + (Int.tmod (wrap64 (a2)) (ji33))))] from (k84_mkM _ _ _ (⟨t109,2,x17_38,ji24,0,(wrap64 (1 + (Int.tmod (wrap64 (a2)) (ji33))))⟩ : S84) )) (Reps.c6 (show Kd.M k84 _ _ _ (⟨t110,2,x17_38,ji24,0,(wrap64 (1 + (Int.tmod (wrap64 (a3)) (ji35))))⟩ : S84) [ii t110,ii 2,ii x17_38,ii ji24,ii 0,ii (wrap64 (1 + (Int.tmod (wrap64 (a3)) (ji35))))] from (k84_mkM _ _ _ (⟨t110,2,x17_38,ji24,0,(wrap64 (1 + (Int.tmod (wrap64 (a3)) (ji35))))⟩ : S84) )) (Reps.none _ _)))))
                               intro v119 w170 ho171 hb hg_ hnew_
                               clear hg_ hnew_
                               (first|rw [← Ny118.out] at ho171|(simp only [Int.reduceToNat] at ho171;rw [← Ny118.out] at ho171))
                               have HO120:=am (Kd.R_lower ho171 (below_size (v2 HB.out GE101.out GE124.out)))
                               replace BK101:=am (blk_below (vb BK101.out) hb)
                               replace BK124:=am (blk_below (vb BK124.out) hb)
                               replace HB:=am (below_step (v2 HB.out GE101.out GE124.out) hb)
                               clear hb ho171
                               refine hK.out _ _ ⟨(blk_cell BK101.out 0).trans rfl,(blk_cell BK101.out 1).trans rfl⟩ (fun hHeld => ?_)
                               clear hK K
                               refine qN (some 125) ?_
                               exact nP (hJ19_22 (v119,gb124) _ ⟨hHeld,(wR HO120.out),(vb BK101.out),(vb BK124.out),GW124.out,GE124.out,NB101_124.out,NB124_101.out,(v2 HB.out GE101.out GE124.out)⟩)
                            ·skip
                             rintro v119 w170 ⟨hS_,h0_,h1_,h2_⟩
                             have HO120 : Aside0 (Kd.R k84 84 w170 w.heap.size (fun _ => True) v119 y118):=⟨h0_⟩
                             replace BK101 : Aside0 (w170.heap[gb101]? = some (.cells #[.slice (some ad107) l0_0.length c0_0,.slice A0_1 l0_1.length c0_1] 32 (0,0))):=⟨h1_⟩
                             replace HB : Aside0 (Below w.heap.size w w170):=⟨h2_⟩
                             clear h0_ h1_ h2_
                             have hHeld : w170.cell? ⟨gb101,0,none⟩ = some (.slice (some ad107) l0_0.length c0_0) ∧ w170.cell? ⟨gb101,1,none⟩ = some (.slice A0_1 l0_1.length c0_1):=hS_
                             refine norm_ (a':=?_) ?_ ?_
                             rotate_left
                             ·simp only [Go.Proofs.YtjjfpmapjjemcaaGreatW.PrintLast.putAll,Act.put,List.setIfInBounds_toArray,List.set_cons_zero,List.set_cons_succ]
                              rfl
                             refine two_ (i:=2) (j:=22) (Ni:=some 108) (Nj:=some 19) (ab 24 1048543) (ab 24 5242843) rfl rfl rfl rfl (two_of HT_.out kr) (by decide) (by decide) (fun K hK => ?_) (fun K hK => ?_)
                             ·skip
                              refine Kd.R_lit_step k84 _ 84 ?hg (N:=108) ?hd (xs:=([] : List (S84))) (inner:=[]) (ok:=fun _ => True) (okp:=fun _ => True) ?hr ?hp (fun _ hk => hk) trivial (Below.refl _ _) (Nat.le_refl _) (by simp) ?_;(case hd => rfl);(case hg => rfl);(case hr => first|(go_simp;done)|(go_simp;rfl));(case hp => exact (Reps.none _ _))
                              intro v113 w171 ho172 hb hg_ hnew_
                              clear hg_ hnew_
                              (first|rw [← Ny112.out] at ho172|(simp only [Int.reduceToNat] at ho172;rw [← Ny112.out] at ho172))
                              have HO114:=am (Kd.R_lower (Kd.R_new' ho172 (Kd.R_lt (wR HO120.out))) (below_size (v1 HB.out GE101.out)))
                              replace HO120:=am (Kd.R_elder' (wR HO120.out) (Kd.R_base ho172) hb)
                              replace BK101:=am (blk_below (vb BK101.out) hb)
                              replace HB:=am (below_step (v1 HB.out GE101.out) hb)
                              clear hb ho172
                              refine hK.out _ _ ⟨(blk_cell BK101.out 0).trans rfl,(blk_cell BK101.out 1).trans rfl⟩ (fun hHeld => ?_)
                              clear hK K
                              refine qN (some 108) ?_
                              exact nP (hJ2_19 (v113,v119) _ ⟨hHeld,(by (with_reducible repeat (first|apply Kd.R_alloc|apply Kd.R_drewN|apply Kd.R_drew));exact Kd.R_mono HO114.out (fun _ hk => hk.2)),(by (with_reducible repeat (first|apply Kd.R_alloc|apply Kd.R_drewN|apply Kd.R_drew));exact Kd.R_mono HO120.out (fun _ hk => hk.2)),(vb BK101.out),(v1 HB.out GE101.out)⟩)
                             ·skip
                              refine box_step ?hg (N:=19) ?hd (cs:=#[.slice none 0 0,.slice none 0 0]) (t:=32) ?hr ?_;(case hd => rfl);(case hg => rfl);(case hr => first|(go_simp;done)|(go_simp;rfl))
                              intro gb124 hg w171 hbox hb
                              have BK124:=am (hbox)
                              have GW124:=am (lg hg (below_size (v1 HB.out GE101.out)) : w.heap.size ≤ gb124)
                              have GE124:=GW124
                              have NB101_124:=am (nl hg (vb BK101.out))
                              have NB124_101:=am ((nl hg (vb BK101.out)).symm)
                              replace HO120:=am (Kd.R_below (wR HO120.out) hb)
                              replace BK101:=am (blk_below (vb BK101.out) hb)
                              replace HB:=am (below_step (v1 HB.out GE101.out) hb)
                              clear hb hbox hg
                              refine hK.out _ _ ⟨(blk_cell BK101.out 0).trans rfl,(blk_cell BK101.out 1).trans rfl⟩ (fun hHeld => ?_)
                              clear hK K
                              refine qN (some 19) ?_
                              exact nP (hJ19_22 (v119,gb124) _ ⟨hHeld,(wR HO120.out),(vb BK101.out),(vb BK124.out),GW124.out,GE124.out,NB101_124.out,NB124_101.out,(v2 HB.out GE101.out GE124.out)⟩)
                           ·skip
                            rintro v113 w170 ⟨hS_,h0_,h1_,h2_⟩
                            have HO114 : Aside0 (Kd.R k84 84 w170 w.heap.size (fun _ => True) v113 y112):=⟨h0_⟩
                            replace BK101 : Aside0 (w170.heap[gb101]? = some (.cells #[.slice (some ad107) l0_0.length c0_0,.slice A0_1 l0_1.length c0_1] 32 (0,0))):=⟨h1_⟩
                            replace HB : Aside0 (Below w.heap.size w w170):=⟨h2_⟩
                            clear h0_ h1_ h2_
                            have hHeld : w170.cell? ⟨gb101,0,none⟩ = some (.slice (some ad107) l0_0.length c0_0) ∧ w170.cell? ⟨gb101,1,none⟩ = some (.slice A0_1 l0_1.length c0_1):=hS_
                            refine norm_ (a':=?_) ?_ ?_
                            rotate_left
                            ·simp only [Go.Proofs.YtjjfpmapjjemcaaGreatW.PrintLast.putAll,Act.put,List.setIfInBounds_toArray,List.set_cons_zero,List.set_cons_succ]
                             rfl
                            refine three_ (i:=5) (j:=19) (k:=22) (Ni:=some 111) (Nj:=some 125) (Nk:=some 19) (ab 24 524287) (ab 24 1048543) (ab 24 4718559) rfl rfl rfl rfl rfl rfl (three_of HT_.out kr) (by decide) (by decide) (by decide) (fun K hK => ?_) (fun K hK => ?_) (fun K hK => ?_)
                            ·skip
                             refine Kd.R_append_rows_step k84 (w0:=w) w.heap.size (by rfl) (.tmp 108) (.tmp 110) 30 84 (.agg #[(ii 0),(ii 0),(ii 0),(ii 0),(ii 0),(ii 0)]) 48 rfl Tryz.underlying30 info84 rfl (by decide) (by omega) v113 y112 l0_1 _ _ _ (fun _ => True) (fun _ => False) rfl rfl ?aO ?aR (fun _ _ h => h) (fun _ h => h.elim) ?aF ?aB ?aS ?aL ?_
                             (case aR => repeat (first|exact (Kd.C_below HR0_1.out HB.out)|(with_reducible refine Kd.C_alloc ?_ _)|(with_reducible refine Kd.C_drewN ?_ _)|(with_reducible refine Kd.C_drew ?_)))
                             (case aB => exact (v1 HB.out GE101.out))
                             (case aF => exact (fun _ _ => trivial))
                             (case aO => exact (wR HO114.out))
                             (case aS => exact (below_size (v1 HB.out GE101.out)))
                             (case aL => have:=LMc52.out;omega)
                             intro v116 w171 ho hb hg hat
                             rw [← Ny115.out] at ho
                             have HO117:=am (ho)
                             replace BK101:=am (blk_grown (g:=gb101) (o:=.cells #[.slice (some ad107) l0_0.length c0_0,.slice A0_1 l0_1.length c0_1] 32 (0,0)) (vb BK101.out) hg (Kd.R_ne HO114.out BK101.out (by decide)))
                             replace HB:=am (hb)
                             clear HO114
                             clear ho hb hg hat
                             refine hK.out _ _ ⟨(blk_cell BK101.out 0).trans rfl,(blk_cell BK101.out 1).trans rfl⟩ (fun hHeld => ?_)
                             clear hK K
                             refine qN (some 111) ?_
                             exact nP (hJ2_5 (v113,v116) _ ⟨hHeld,(wR HO117.out),(vb BK101.out),(v1 HB.out GE101.out)⟩)
                            ·skip
                             refine Kd.R_lit_step k84 _ 84 ?hg (N:=125) ?hd (xs:=([(⟨0,3,x17_38,ji24,0,0⟩ : S84),(⟨t109,2,x17_38,ji24,0,(wrap64 (1 + (Int.tmod (wrap64 (a2)) (ji33))))⟩ : S84),(⟨t110,2,x17_38,ji24,0,(wrap64 (1 + (Int.tmod (wrap64 (a3)) (ji35))))⟩ : S84)] : List (S84))) (inner:=[ii 0,ii 3,ii x17_38,ii ji24,ii 0,ii 0,ii t109,ii 2,ii x17_38,ii ji24,ii 0,ii (wrap64 (1 + (Int.tmod (wrap64 (a2)) (ji33)))),ii t110,ii 2,ii x17_38,ii ji24,ii 0,ii (wrap64 (1 + (Int.tmod (wrap64 (a3)) (ji35))))]) (ok:=fun _ => True) (okp:=fun _ => True) ?hr ?hp (fun _ hk => hk) trivial (Below.refl _ _) (Nat.le_refl _) (by simp) ?_;(case hd => rfl);(case hg => rfl);(case hr => first|(go_simp;done)|(go_simp;rfl));(case hp => exact (Reps.c6 (show Kd.M k84 _ _ _ (⟨0,3,x17_38,ji24,0,0⟩ : S84) [ii 0,ii 3,ii x17_38,ii ji24,ii 0,ii 0] from (k84_mkM _ _ _ (⟨0,3,x17_38,ji24,0,0⟩ : S84) )) (Reps.c6 (show Kd.M k84 _ _ _ (⟨t109,2,x17_38,ji24,0,(wrap64 (1 + (Int.tmod (wrap64 (a2)) (ji33))))⟩ : S84) [ii t109,ii 2,ii x17_38,ii ji24,ii 0,ii (wrap64 (1 + (Int.tmod (wrap64 (a2)) (ji33))))] from (k84_mkM _ _ _ (⟨t109,2,x17_38,ji24,0,(wrap64 (1 + (Int.tmod (wrap64 (a2)) (ji33))))⟩ : S84) )) (Reps.c6 (show Kd.M k84 _ _ _ (⟨t110,2,x17_38,ji24,0,(wrap64 (1 + (Int.tmod (wrap64 (a3)) (ji35))))⟩ : S84) [ii t110,ii 2,ii x17_38,ii ji24,ii 0,ii (wrap64 (1 + (Int.tmod (wrap64 (a3)) (ji35))))] from (k84_mkM _ _ _ (⟨t110,2,x17_38,ji24,0,(wrap64 (1 + (Int.tmod (wrap64 (a3)) (ji35))))⟩ : S84) )) (Reps.none _ _)))))
                             intro v119 w171 ho172 hb hg_ hnew_
                             clear hg_ hnew_
                             (first|rw [← Ny118.out] at ho172|(simp only [Int.reduceToNat] at ho172;rw [← Ny118.out] at ho172))
                             have HO120:=am (Kd.R_lower (Kd.R_new' ho172 (Kd.R_lt (wR HO114.out))) (below_size (v1 HB.out GE101.out)))
                             replace HO114:=am (Kd.R_elder' (wR HO114.out) (Kd.R_base ho172) hb)
                             replace BK101:=am (blk_below (vb BK101.out) hb)
                             replace HB:=am (below_step (v1 HB.out GE101.out) hb)
                             clear hb ho172
                             refine hK.out _ _ ⟨(blk_cell BK101.out 0).trans rfl,(blk_cell BK101.out 1).trans rfl⟩ (fun hHeld => ?_)
                             clear hK K
                             refine qN (some 125) ?_
                             exact nP (hJ2_19 (v113,v119) _ ⟨hHeld,(by (with_reducible repeat (first|apply Kd.R_alloc|apply Kd.R_drewN|apply Kd.R_drew));exact Kd.R_mono HO114.out (fun _ hk => hk.2)),(by (with_reducible repeat (first|apply Kd.R_alloc|apply Kd.R_drewN|apply Kd.R_drew));exact Kd.R_mono HO120.out (fun _ hk => hk.2)),(vb BK101.out),(v1 HB.out GE101.out)⟩)
                            ·skip
                             refine box_step ?hg (N:=19) ?hd (cs:=#[.slice none 0 0,.slice none 0 0]) (t:=32) ?hr ?_;(case hd => rfl);(case hg => rfl);(case hr => first|(go_simp;done)|(go_simp;rfl))
                             intro gb124 hg w171 hbox hb
                             have BK124:=am (hbox)
                             have GW124:=am (lg hg (below_size (v1 HB.out GE101.out)) : w.heap.size ≤ gb124)
                             have GE124:=GW124
                             have NB101_124:=am (nl hg (vb BK101.out))
                             have NB124_101:=am ((nl hg (vb BK101.out)).symm)
                             replace HO114:=am (Kd.R_below (wR HO114.out) hb)
                             replace BK101:=am (blk_below (vb BK101.out) hb)
                             replace HB:=am (below_step (v1 HB.out GE101.out) hb)
                             clear hb hbox hg
                             refine hK.out _ _ ⟨(blk_cell BK101.out 0).trans rfl,(blk_cell BK101.out 1).trans rfl⟩ (fun hHeld => ?_)
                             clear hK K
                             refine qN (some 19) ?_
                             exact nP (hJ2_22 (v113,gb124) _ ⟨hHeld,(wR HO114.out),(vb BK101.out),(vb BK124.out),GW124.out,GE124.out,NB101_124.out,NB124_101.out,(v2 HB.out GE101.out GE124.out)⟩)
                          ·skip
                           rintro ⟨v119,gb124⟩ w171 ⟨hS_,h0_,h1_,h2_,h3_,h4_,h5_,h6_,h7_⟩
                           have HO120 : Aside0 (Kd.R k84 84 w171 w.heap.size (fun _ => True) v119 y118):=⟨h0_⟩
                           have BK124 : Aside0 (w171.heap[gb124]? = some (.cells #[.slice none 0 0,.slice none 0 0] 32 (0,0))):=⟨h2_⟩
                           have GW124 : Aside0 (w.heap.size ≤ gb124):=⟨h3_⟩
                           have GE124 : Aside0 (w.heap.size ≤ gb124):=⟨h4_⟩
                           have NB101_124 : Aside0 (gb101 ≠ gb124):=⟨h5_⟩
                           have NB124_101 : Aside0 (gb124 ≠ gb101):=⟨h6_⟩
                           replace BK101 : Aside0 (w171.heap[gb101]? = some (.cells #[.slice (some ad107) l0_0.length c0_0,.slice A0_1 l0_1.length c0_1] 32 (0,0))):=⟨h1_⟩
                           replace HB : Aside0 (Below w.heap.size w w171):=⟨h7_⟩
                           clear h0_ h1_ h2_ h3_ h4_ h5_ h6_ h7_
                           have hHeld : w171.cell? ⟨gb101,0,none⟩ = some (.slice (some ad107) l0_0.length c0_0) ∧ w171.cell? ⟨gb101,1,none⟩ = some (.slice A0_1 l0_1.length c0_1):=hS_
                           refine norm_ (a':=?_) ?_ ?_
                           rotate_left
                           ·simp only [Go.Proofs.YtjjfpmapjjemcaaGreatW.PrintLast.putAll,Act.put,List.setIfInBounds_toArray,List.set_cons_zero,List.set_cons_succ]
                            rfl
                           refine one_ (i:=2) (N:=some 108) (ab 24 5242847) rfl rfl (one_of HT_.out kr) (by decide) (fun K hK => ?_)
                           refine Kd.R_lit_step k84 _ 84 ?hg (N:=108) ?hd (xs:=([] : List (S84))) (inner:=[]) (ok:=fun _ => True) (okp:=fun _ => True) ?hr ?hp (fun _ hk => hk) trivial (Below.refl _ _) (Nat.le_refl _) (by simp) ?_;(case hd => rfl);(case hg => rfl);(case hr => first|(go_simp;done)|(go_simp;rfl));(case hp => exact (Reps.none _ _))
                           intro v113 w172 ho173 hb hg_ hnew_
                           clear hg_ hnew_
                           (first|rw [← Ny112.out] at ho173|(simp only [Int.reduceToNat] at ho173;rw [← Ny112.out] at ho173))
                           have HO114:=am (Kd.R_lower (Kd.R_new' ho173 (Kd.R_lt (wR HO120.out))) (below_size (v2 HB.out GE101.out GE124.out)))
                           replace HO120:=am (Kd.R_elder' (wR HO120.out) (Kd.R_base ho173) hb)
                           replace BK101:=am (blk_below (vb BK101.out) hb)
                           replace BK124:=am (blk_below (vb BK124.out) hb)
                           replace HB:=am (below_step (v2 HB.out GE101.out GE124.out) hb)
                           clear hb ho173
                           refine hK.out _ _ ⟨(blk_cell BK101.out 0).trans rfl,(blk_cell BK101.out 1).trans rfl⟩ (fun hHeld => ?_)
                           clear hK K
                           refine qN (some 108) ?_
                           exact nP (hJ2_19_22 (v113,v119,gb124) _ ⟨hHeld,(by (with_reducible repeat (first|apply Kd.R_alloc|apply Kd.R_drewN|apply Kd.R_drew));exact Kd.R_mono HO114.out (fun _ hk => hk.2)),(by (with_reducible repeat (first|apply Kd.R_alloc|apply Kd.R_drewN|apply Kd.R_drew));exact Kd.R_mono HO120.out (fun _ hk => hk.2)),(vb BK101.out),(vb BK124.out),GW124.out,GE124.out,NB101_124.out,NB124_101.out,(v2 HB.out GE101.out GE124.out)⟩)
                         ·skip
                          rintro ⟨v113,gb124⟩ w171 ⟨hS_,h0_,h1_,h2_,h3_,h4_,h5_,h6_,h7_⟩
                          have HO114 : Aside0 (Kd.R k84 84 w171 w.heap.size (fun _ => True) v113 y112):=⟨h0_⟩
                          have BK124 : Aside0 (w171.heap[gb124]? = some (.cells #[.slice none 0 0,.slice none 0 0] 32 (0,0))):=⟨h2_⟩
                          have GW124 : Aside0 (w.heap.size ≤ gb124):=⟨h3_⟩
                          have GE124 : Aside0 (w.heap.size ≤ gb124):=⟨h4_⟩
                          have NB101_124 : Aside0 (gb101 ≠ gb124):=⟨h5_⟩
                          have NB124_101 : Aside0 (gb124 ≠ gb101):=⟨h6_⟩
                          replace BK101 : Aside0 (w171.heap[gb101]? = some (.cells #[.slice (some ad107) l0_0.length c0_0,.slice A0_1 l0_1.length c0_1] 32 (0,0))):=⟨h1_⟩
                          replace HB : Aside0 (Below w.heap.size w w171):=⟨h7_⟩
                          clear h0_ h1_ h2_ h3_ h4_ h5_ h6_ h7_
                          have hHeld : w171.cell? ⟨gb101,0,none⟩ = some (.slice (some ad107) l0_0.length c0_0) ∧ w171.cell? ⟨gb101,1,none⟩ = some (.slice A0_1 l0_1.length c0_1):=hS_
                          refine norm_ (a':=?_) ?_ ?_
                          rotate_left
                          ·simp only [Go.Proofs.YtjjfpmapjjemcaaGreatW.PrintLast.putAll,Act.put,List.setIfInBounds_toArray,List.set_cons_zero,List.set_cons_succ]
                           rfl
                          refine two_ (i:=5) (j:=19) (Ni:=some 111) (Nj:=some 125) (ab 24 4718591) (ab 24 5242847) rfl rfl rfl rfl (two_of HT_.out kr) (by decide) (by decide) (fun K hK => ?_) (fun K hK => ?_)
                          ·skip
                           refine Kd.R_append_rows_step k84 (w0:=w) w.heap.size (by rfl) (.tmp 108) (.tmp 110) 30 84 (.agg #[(ii 0),(ii 0),(ii 0),(ii 0),(ii 0),(ii 0)]) 48 rfl Tryz.underlying30 info84 rfl (by decide) (by omega) v113 y112 l0_1 _ _ _ (fun _ => True) (fun _ => False) rfl rfl ?aO ?aR (fun _ _ h => h) (fun _ h => h.elim) ?aF ?aB ?aS ?aL ?_
                           (case aR => repeat (first|exact (Kd.C_below HR0_1.out HB.out)|(with_reducible refine Kd.C_alloc ?_ _)|(with_reducible refine Kd.C_drewN ?_ _)|(with_reducible refine Kd.C_drew ?_)))
                           (case aB => exact (v2 HB.out GE101.out GE124.out))
                           (case aF => exact (fun _ _ => trivial))
                           (case aO => exact (wR HO114.out))
                           (case aS => exact (below_size (v2 HB.out GE101.out GE124.out)))
                           (case aL => have:=LMc52.out;omega)
                           intro v116 w172 ho hb hg hat
                           rw [← Ny115.out] at ho
                           have HO117:=am (ho)
                           replace BK101:=am (blk_grown (g:=gb101) (o:=.cells #[.slice (some ad107) l0_0.length c0_0,.slice A0_1 l0_1.length c0_1] 32 (0,0)) (vb BK101.out) hg (Kd.R_ne HO114.out BK101.out (by decide)))
                           replace BK124:=am (blk_grown (g:=gb124) (o:=.cells #[.slice none 0 0,.slice none 0 0] 32 (0,0)) (vb BK124.out) hg (Kd.R_ne HO114.out BK124.out (by decide)))
                           replace HB:=am (hb)
                           clear HO114
                           clear ho hb hg hat
                           refine hK.out _ _ ⟨(blk_cell BK101.out 0).trans rfl,(blk_cell BK101.out 1).trans rfl⟩ (fun hHeld => ?_)
                           clear hK K
                           refine qN (some 111) ?_
                           exact nP (hJ2_5_22 (v113,v116,gb124) _ ⟨hHeld,(wR HO117.out),(vb BK101.out),(vb BK124.out),GW124.out,GE124.out,NB101_124.out,NB124_101.out,(v2 HB.out GE101.out GE124.out)⟩)
                          ·skip
                           refine Kd.R_lit_step k84 _ 84 ?hg (N:=125) ?hd (xs:=([(⟨0,3,x17_38,ji24,0,0⟩ : S84),(⟨t109,2,x17_38,ji24,0,(wrap64 (1 + (Int.tmod (wrap64 (a2)) (ji33))))⟩ : S84),(⟨t110,2,x17_38,ji24,0,(wrap64 (1 + (Int.tmod (wrap64 (a3)) (ji35))))⟩ : S84)] : List (S84))) (inner:=[ii 0,ii 3,ii x17_38,ii ji24,ii 0,ii 0,ii t109,ii 2,ii x17_38,ii ji24,ii 0,ii (wrap64 (1 + (Int.tmod (wrap64 (a2)) (ji33)))),ii t110,ii 2,ii x17_38,ii ji24,ii 0,ii (wrap64 (1 + (Int.tmod (wrap64 (a3)) (ji35))))]) (ok:=fun _ => True) (okp:=fun _ => True) ?hr ?hp (fun _ hk => hk) trivial (Below.refl _ _) (Nat.le_refl _) (by simp) ?_;(case hd => rfl);(case hg => rfl);(case hr => first|(go_simp;done)|(go_simp;rfl));(case hp => exact (Reps.c6 (show Kd.M k84 _ _ _ (⟨0,3,x17_38,ji24,0,0⟩ : S84) [ii 0,ii 3,ii x17_38,ii ji24,ii 0,ii 0] from (k84_mkM _ _ _ (⟨0,3,x17_38,ji24,0,0⟩ : S84) )) (Reps.c6 (show Kd.M k84 _ _ _ (⟨t109,2,x17_38,ji24,0,(wrap64 (1 + (Int.tmod (wrap64 (a2)) (ji33))))⟩ : S84) [ii t109,ii 2,ii x17_38,ii ji24,ii 0,ii (wrap64 (1 + (Int.tmod (wrap64 (a2)) (ji33))))] from (k84_mkM _ _ _ (⟨t109,2,x17_38,ji24,0,(wrap64 (1 + (Int.tmod (wrap64 (a2)) (ji33))))⟩ : S84) )) (Reps.c6 (show Kd.M k84 _ _ _ (⟨t110,2,x17_38,ji24,0,(wrap64 (1 + (Int.tmod (wrap64 (a3)) (ji35))))⟩ : S84) [ii t110,ii 2,ii x17_38,ii ji24,ii 0,ii (wrap64 (1 + (Int.tmod (wrap64 (a3)) (ji35))))] from (k84_mkM _ _ _ (⟨t110,2,x17_38,ji24,0,(wrap64 (1 + (Int.tmod (wrap64 (a3)) (ji35))))⟩ : S84) )) (Reps.none _ _)))))
                           intro v119 w172 ho173 hb hg_ hnew_
                           clear hg_ hnew_
                           (first|rw [← Ny118.out] at ho173|(simp only [Int.reduceToNat] at ho173;rw [← Ny118.out] at ho173))
                           have HO120:=am (Kd.R_lower (Kd.R_new' ho173 (Kd.R_lt (wR HO114.out))) (below_size (v2 HB.out GE101.out GE124.out)))
                           replace HO114:=am (Kd.R_elder' (wR HO114.out) (Kd.R_base ho173) hb)
                           replace BK101:=am (blk_below (vb BK101.out) hb)
                           replace BK124:=am (blk_below (vb BK124.out) hb)
                           replace HB:=am (below_step (v2 HB.out GE101.out GE124.out) hb)
                           clear hb ho173
                           refine hK.out _ _ ⟨(blk_cell BK101.out 0).trans rfl,(blk_cell BK101.out 1).trans rfl⟩ (fun hHeld => ?_)
                           clear hK K
                           refine qN (some 125) ?_
                           exact nP (hJ2_19_22 (v113,v119,gb124) _ ⟨hHeld,(by (with_reducible repeat (first|apply Kd.R_alloc|apply Kd.R_drewN|apply Kd.R_drew));exact Kd.R_mono HO114.out (fun _ hk => hk.2)),(by (with_reducible repeat (first|apply Kd.R_alloc|apply Kd.R_drewN|apply Kd.R_drew));exact Kd.R_mono HO120.out (fun _ hk => hk.2)),(vb BK101.out),(vb BK124.out),GW124.out,GE124.out,NB101_124.out,NB124_101.out,(v2 HB.out GE101.out GE124.out)⟩)
                        ·skip
                         rintro ⟨v113,v119⟩ w172 ⟨hS_,h0_,h1_,h2_,h3_⟩
                         have HO114 : Aside0 (Kd.R k84 84 w172 w.heap.size (fun k_ => some k_ ≠ (v119 : Value).ownBlock) v113 y112):=⟨h0_⟩
                         have HO120 : Aside0 (Kd.R k84 84 w172 w.heap.size (fun k_ => some k_ ≠ (v113 : Value).ownBlock) v119 y118):=⟨h1_⟩
                         replace BK101 : Aside0 (w172.heap[gb101]? = some (.cells #[.slice (some ad107) l0_0.length c0_0,.slice A0_1 l0_1.length c0_1] 32 (0,0))):=⟨h2_⟩
                         replace HB : Aside0 (Below w.heap.size w w172):=⟨h3_⟩
                         clear h0_ h1_ h2_ h3_
                         have hHeld : w172.cell? ⟨gb101,0,none⟩ = some (.slice (some ad107) l0_0.length c0_0) ∧ w172.cell? ⟨gb101,1,none⟩ = some (.slice A0_1 l0_1.length c0_1):=hS_
                         refine norm_ (a':=?_) ?_ ?_
                         rotate_left
                         ·simp only [Go.Proofs.YtjjfpmapjjemcaaGreatW.PrintLast.putAll,Act.put,List.setIfInBounds_toArray,List.set_cons_zero,List.set_cons_succ]
                          rfl
                         refine two_ (i:=5) (j:=22) (Ni:=some 111) (Nj:=some 19) (ab 24 1048575) (ab 24 5242847) rfl rfl rfl rfl (two_of HT_.out kr) (by decide) (by decide) (fun K hK => ?_) (fun K hK => ?_)
                         ·skip
                          refine Kd.R_append_rows_step k84 (w0:=w) w.heap.size (by rfl) (.tmp 108) (.tmp 110) 30 84 (.agg #[(ii 0),(ii 0),(ii 0),(ii 0),(ii 0),(ii 0)]) 48 rfl Tryz.underlying30 info84 rfl (by decide) (by omega) v113 y112 l0_1 _ _ _ (fun k_ => some k_ ≠ (v119 : Value).ownBlock) (fun _ => False) rfl rfl ?aO ?aR (fun _ _ h => h) (fun _ h => h.elim) ?aF ?aB ?aS ?aL ?_
                          (case aR => repeat (first|exact (Kd.C_below HR0_1.out HB.out)|(with_reducible refine Kd.C_alloc ?_ _)|(with_reducible refine Kd.C_drewN ?_ _)|(with_reducible refine Kd.C_drew ?_)))
                          (case aB => exact (v1 HB.out GE101.out))
                          (case aF => exact (fun k_ hk => Kd.fresh' (Kd.R_lt (wR HO120.out)) k_ hk))
                          (case aO => exact (wR HO114.out))
                          (case aS => exact (below_size (v1 HB.out GE101.out)))
                          (case aL => have:=LMc52.out;omega)
                          intro v116 w173 ho hb hg hat
                          rw [← Ny115.out] at ho
                          have HO117:=am (ho)
                          replace BK101:=am (blk_grown (g:=gb101) (o:=.cells #[.slice (some ad107) l0_0.length c0_0,.slice A0_1 l0_1.length c0_1] 32 (0,0)) (vb BK101.out) hg (Kd.R_ne HO114.out BK101.out (by decide)))
                          replace HO120:=am (Kd.R_after (ok:=(fun _ => True)) (by (with_reducible repeat (first|apply Kd.R_alloc|apply Kd.R_drewN|apply Kd.R_drew));exact Kd.R_mono HO120.out (fun _ hk => ⟨trivial,hk⟩)) hg hat)
                          replace HB:=am (hb)
                          clear HO114
                          clear ho hb hg hat
                          refine hK.out _ _ ⟨(blk_cell BK101.out 0).trans rfl,(blk_cell BK101.out 1).trans rfl⟩ (fun hHeld => ?_)
                          clear hK K
                          refine qN (some 111) ?_
                          exact nP (hJ2_5_19 (v113,v116,v119) _ ⟨hHeld,(wR HO117.out),(by (with_reducible repeat (first|apply Kd.R_alloc|apply Kd.R_drewN|apply Kd.R_drew));exact Kd.R_mono HO120.out (fun _ hk => hk.2)),(vb BK101.out),(v1 HB.out GE101.out)⟩)
                         ·skip
                          refine box_step ?hg (N:=19) ?hd (cs:=#[.slice none 0 0,.slice none 0 0]) (t:=32) ?hr ?_;(case hd => rfl);(case hg => rfl);(case hr => first|(go_simp;done)|(go_simp;rfl))
                          intro gb124 hg w173 hbox hb
                          have BK124:=am (hbox)
                          have GW124:=am (lg hg (below_size (v1 HB.out GE101.out)) : w.heap.size ≤ gb124)
                          have GE124:=GW124
                          have NB101_124:=am (nl hg (vb BK101.out))
                          have NB124_101:=am ((nl hg (vb BK101.out)).symm)
                          replace HO114:=am (Kd.R_below (wR HO114.out) hb)
                          replace HO120:=am (Kd.R_below (wR HO120.out) hb)
                          replace BK101:=am (blk_below (vb BK101.out) hb)
                          replace HB:=am (below_step (v1 HB.out GE101.out) hb)
                          clear hb hbox hg
                          refine hK.out _ _ ⟨(blk_cell BK101.out 0).trans rfl,(blk_cell BK101.out 1).trans rfl⟩ (fun hHeld => ?_)
                          clear hK K
                          refine qN (some 19) ?_
                          exact nP (hJ2_19_22 (v113,v119,gb124) _ ⟨hHeld,(wR HO114.out),(wR HO120.out),(vb BK101.out),(vb BK124.out),GW124.out,GE124.out,NB101_124.out,NB124_101.out,(v2 HB.out GE101.out GE124.out)⟩)
                       ·skip
                        rintro ⟨v113,v116⟩ w171 ⟨hS_,h0_,h1_,h2_⟩
                        have HO117 : Aside0 (Kd.R k84 84 w171 w.heap.size (fun _ => True) v116 y115):=⟨h0_⟩
                        replace BK101 : Aside0 (w171.heap[gb101]? = some (.cells #[.slice (some ad107) l0_0.length c0_0,.slice A0_1 l0_1.length c0_1] 32 (0,0))):=⟨h1_⟩
                        replace HB : Aside0 (Below w.heap.size w w171):=⟨h2_⟩
                        clear h0_ h1_ h2_
                        have hHeld : w171.cell? ⟨gb101,0,none⟩ = some (.slice (some ad107) l0_0.length c0_0) ∧ w171.cell? ⟨gb101,1,none⟩ = some (.slice A0_1 l0_1.length c0_1):=hS_
                        refine norm_ (a':=?_) ?_ ?_
                        rotate_left
                        ·simp only [Go.Proofs.YtjjfpmapjjemcaaGreatW.PrintLast.putAll,Act.put,List.setIfInBounds_toArray,List.set_cons_zero,List.set_cons_succ]
                         rfl
                        refine two_ (i:=19) (j:=22) (Ni:=some 125) (Nj:=some 19) (ab 24 1048575) (ab 24 4718591) rfl rfl rfl rfl (two_of HT_.out kr) (by decide) (by decide) (fun K hK => ?_) (fun K hK => ?_)
                        ·skip
                         refine Kd.R_lit_step k84 _ 84 ?hg (N:=125) ?hd (xs:=([(⟨0,3,x17_38,ji24,0,0⟩ : S84),(⟨t109,2,x17_38,ji24,0,(wrap64 (1 + (Int.tmod (wrap64 (a2)) (ji33))))⟩ : S84),(⟨t110,2,x17_38,ji24,0,(wrap64 (1 + (Int.tmod (wrap64 (a3)) (ji35))))⟩ : S84)] : List (S84))) (inner:=[ii 0,ii 3,ii x17_38,ii ji24,ii 0,ii 0,ii t109,ii 2,ii x17_38,ii ji24,ii 0,ii (wrap64 (1 + (Int.tmod (wrap64 (a2)) (ji33)))),ii t110,ii 2,ii x17_38,ii ji24,ii 0,ii (wrap64 (1 + (Int.tmod (wrap64 (a3)) (ji35))))]) (ok:=fun _ => True) (okp:=fun _ => True) ?hr ?hp (fun _ hk => hk) trivial (Below.refl _ _) (Nat.le_refl _) (by simp) ?_;(case hd => rfl);(case hg => rfl);(case hr => first|(go_simp;done)|(go_simp;rfl));(case hp => exact (Reps.c6 (show Kd.M k84 _ _ _ (⟨0,3,x17_38,ji24,0,0⟩ : S84) [ii 0,ii 3,ii x17_38,ii ji24,ii 0,ii 0] from (k84_mkM _ _ _ (⟨0,3,x17_38,ji24,0,0⟩ : S84) )) (Reps.c6 (show Kd.M k84 _ _ _ (⟨t109,2,x17_38,ji24,0,(wrap64 (1 + (Int.tmod (wrap64 (a2)) (ji33))))⟩ : S84) [ii t109,ii 2,ii x17_38,ii ji24,ii 0,ii (wrap64 (1 + (Int.tmod (wrap64 (a2)) (ji33))))] from (k84_mkM _ _ _ (⟨t109,2,x17_38,ji24,0,(wrap64 (1 + (Int.tmod (wrap64 (a2)) (ji33))))⟩ : S84) )) (Reps.c6 (show Kd.M k84 _ _ _ (⟨t110,2,x17_38,ji24,0,(wrap64 (1 + (Int.tmod (wrap64 (a3)) (ji35))))⟩ : S84) [ii t110,ii 2,ii x17_38,ii ji24,ii 0,ii (wrap64 (1 + (Int.tmod (wrap64 (a3)) (ji35))))] from (k84_mkM _ _ _ (⟨t110,2,x17_38,ji24,0,(wrap64 (1 + (Int.tmod (wrap64 (a3)) (ji35))))⟩ : S84) )) (Reps.none _ _)))))
                         intro v119 w172 ho173 hb hg_ hnew_
                         clear hg_ hnew_
                         (first|rw [← Ny118.out] at ho173|(simp only [Int.reduceToNat] at ho173;rw [← Ny118.out] at ho173))
                         have HO120:=am (Kd.R_lower (Kd.R_new' ho173 (Kd.R_lt (wR HO117.out))) (below_size (v1 HB.out GE101.out)))
                         replace HO117:=am (Kd.R_elder' (wR HO117.out) (Kd.R_base ho173) hb)
                         replace BK101:=am (blk_below (vb BK101.out) hb)
                         replace HB:=am (below_step (v1 HB.out GE101.out) hb)
                         clear hb ho173
                         refine hK.out _ _ ⟨(blk_cell BK101.out 0).trans rfl,(blk_cell BK101.out 1).trans rfl⟩ (fun hHeld => ?_)
                         clear hK K
                         refine qN (some 125) ?_
                         exact nP (hJ2_5_19 (v113,v116,v119) _ ⟨hHeld,(by (with_reducible repeat (first|apply Kd.R_alloc|apply Kd.R_drewN|apply Kd.R_drew));exact Kd.R_mono HO117.out (fun _ hk => hk.2)),(by (with_reducible repeat (first|apply Kd.R_alloc|apply Kd.R_drewN|apply Kd.R_drew));exact Kd.R_mono HO120.out (fun _ hk => hk.2)),(vb BK101.out),(v1 HB.out GE101.out)⟩)
                        ·skip
                         refine box_step ?hg (N:=19) ?hd (cs:=#[.slice none 0 0,.slice none 0 0]) (t:=32) ?hr ?_;(case hd => rfl);(case hg => rfl);(case hr => first|(go_simp;done)|(go_simp;rfl))
                         intro gb124 hg w172 hbox hb
                         have BK124:=am (hbox)
                         have GW124:=am (lg hg (below_size (v1 HB.out GE101.out)) : w.heap.size ≤ gb124)
                         have GE124:=GW124
                         have NB101_124:=am (nl hg (vb BK101.out))
                         have NB124_101:=am ((nl hg (vb BK101.out)).symm)
                         replace HO117:=am (Kd.R_below (wR HO117.out) hb)
                         replace BK101:=am (blk_below (vb BK101.out) hb)
                         replace HB:=am (below_step (v1 HB.out GE101.out) hb)
                         clear hb hbox hg
                         refine hK.out _ _ ⟨(blk_cell BK101.out 0).trans rfl,(blk_cell BK101.out 1).trans rfl⟩ (fun hHeld => ?_)
                         clear hK K
                         refine qN (some 19) ?_
                         exact nP (hJ2_5_22 (v113,v116,gb124) _ ⟨hHeld,(wR HO117.out),(vb BK101.out),(vb BK124.out),GW124.out,GE124.out,NB101_124.out,NB124_101.out,(v2 HB.out GE101.out GE124.out)⟩)
                      ·skip
                       rintro ⟨v113,v119,gb124⟩ w173 ⟨hS_,h0_,h1_,h2_,h3_,h4_,h5_,h6_,h7_,h8_⟩
                       have HO114 : Aside0 (Kd.R k84 84 w173 w.heap.size (fun k_ => some k_ ≠ (v119 : Value).ownBlock) v113 y112):=⟨h0_⟩
                       have HO120 : Aside0 (Kd.R k84 84 w173 w.heap.size (fun k_ => some k_ ≠ (v113 : Value).ownBlock) v119 y118):=⟨h1_⟩
                       have BK124 : Aside0 (w173.heap[gb124]? = some (.cells #[.slice none 0 0,.slice none 0 0] 32 (0,0))):=⟨h3_⟩
                       have GW124 : Aside0 (w.heap.size ≤ gb124):=⟨h4_⟩
                       have GE124 : Aside0 (w.heap.size ≤ gb124):=⟨h5_⟩
                       have NB101_124 : Aside0 (gb101 ≠ gb124):=⟨h6_⟩
                       have NB124_101 : Aside0 (gb124 ≠ gb101):=⟨h7_⟩
                       replace BK101 : Aside0 (w173.heap[gb101]? = some (.cells #[.slice (some ad107) l0_0.length c0_0,.slice A0_1 l0_1.length c0_1] 32 (0,0))):=⟨h2_⟩
                       replace HB : Aside0 (Below w.heap.size w w173):=⟨h8_⟩
                       clear h0_ h1_ h2_ h3_ h4_ h5_ h6_ h7_ h8_
                       have hHeld : w173.cell? ⟨gb101,0,none⟩ = some (.slice (some ad107) l0_0.length c0_0) ∧ w173.cell? ⟨gb101,1,none⟩ = some (.slice A0_1 l0_1.length c0_1):=hS_
                       refine norm_ (a':=?_) ?_ ?_
                       rotate_left
                       ·simp only [Go.Proofs.YtjjfpmapjjemcaaGreatW.PrintLast.putAll,Act.put,List.setIfInBounds_toArray,List.set_cons_zero,List.set_cons_succ]
                        rfl
                       refine one_ (i:=5) (N:=some 111) (ab 24 5242879) rfl rfl (one_of HT_.out kr) (by decide) (fun K hK => ?_)
                       refine Kd.R_append_rows_step k84 (w0:=w) w.heap.size (by rfl) (.tmp 108) (.tmp 110) 30 84 (.agg #[(ii 0),(ii 0),(ii 0),(ii 0),(ii 0),(ii 0)]) 48 rfl Tryz.underlying30 info84 rfl (by decide) (by omega) v113 y112 l0_1 _ _ _ (fun k_ => some k_ ≠ (v119 : Value).ownBlock) (fun _ => False) rfl rfl ?aO ?aR (fun _ _ h => h) (fun _ h => h.elim) ?aF ?aB ?aS ?aL ?_
                       (case aR => repeat (first|exact (Kd.C_below HR0_1.out HB.out)|(with_reducible refine Kd.C_alloc ?_ _)|(with_reducible refine Kd.C_drewN ?_ _)|(with_reducible refine Kd.C_drew ?_)))
                       (case aB => exact (v2 HB.out GE101.out GE124.out))
                       (case aF => exact (fun k_ hk => Kd.fresh' (Kd.R_lt (wR HO120.out)) k_ hk))
                       (case aO => exact (wR HO114.out))
                       (case aS => exact (below_size (v2 HB.out GE101.out GE124.out)))
                       (case aL => have:=LMc52.out;omega)
                       intro v116 w174 ho hb hg hat
                       rw [← Ny115.out] at ho
                       have HO117:=am (ho)
                       replace BK101:=am (blk_grown (g:=gb101) (o:=.cells #[.slice (some ad107) l0_0.length c0_0,.slice A0_1 l0_1.length c0_1] 32 (0,0)) (vb BK101.out) hg (Kd.R_ne HO114.out BK101.out (by decide)))
                       replace HO120:=am (Kd.R_after (ok:=(fun _ => True)) (by (with_reducible repeat (first|apply Kd.R_alloc|apply Kd.R_drewN|apply Kd.R_drew));exact Kd.R_mono HO120.out (fun _ hk => ⟨trivial,hk⟩)) hg hat)
                       replace BK124:=am (blk_grown (g:=gb124) (o:=.cells #[.slice none 0 0,.slice none 0 0] 32 (0,0)) (vb BK124.out) hg (Kd.R_ne HO114.out BK124.out (by decide)))
                       replace HB:=am (hb)
                       clear HO114
                       clear ho hb hg hat
                       refine hK.out _ _ ⟨(blk_cell BK101.out 0).trans rfl,(blk_cell BK101.out 1).trans rfl⟩ (fun hHeld => ?_)
                       clear hK K
                       refine qN (some 111) ?_
                       exact nP (hJ2_5_19_22 (v113,v116,v119,gb124) _ ⟨hHeld,(wR HO117.out),(by (with_reducible repeat (first|apply Kd.R_alloc|apply Kd.R_drewN|apply Kd.R_drew));exact Kd.R_mono HO120.out (fun _ hk => hk.2)),(vb BK101.out),(vb BK124.out),GW124.out,GE124.out,NB101_124.out,NB124_101.out,(v2 HB.out GE101.out GE124.out)⟩)
                     ·skip
                      rintro ⟨v113,v116,gb124⟩ w172 ⟨hS_,h0_,h1_,h2_,h3_,h4_,h5_,h6_,h7_⟩
                      have HO117 : Aside0 (Kd.R k84 84 w172 w.heap.size (fun _ => True) v116 y115):=⟨h0_⟩
                      have BK124 : Aside0 (w172.heap[gb124]? = some (.cells #[.slice none 0 0,.slice none 0 0] 32 (0,0))):=⟨h2_⟩
                      have GW124 : Aside0 (w.heap.size ≤ gb124):=⟨h3_⟩
                      have GE124 : Aside0 (w.heap.size ≤ gb124):=⟨h4_⟩
                      have NB101_124 : Aside0 (gb101 ≠ gb124):=⟨h5_⟩
                      have NB124_101 : Aside0 (gb124 ≠ gb101):=⟨h6_⟩
                      replace BK101 : Aside0 (w172.heap[gb101]? = some (.cells #[.slice (some ad107) l0_0.length c0_0,.slice A0_1 l0_1.length c0_1] 32 (0,0))):=⟨h1_⟩
                      replace HB : Aside0 (Below w.heap.size w w172):=⟨h7_⟩
                      clear h0_ h1_ h2_ h3_ h4_ h5_ h6_ h7_
                      have hHeld : w172.cell? ⟨gb101,0,none⟩ = some (.slice (some ad107) l0_0.length c0_0) ∧ w172.cell? ⟨gb101,1,none⟩ = some (.slice A0_1 l0_1.length c0_1):=hS_
                      refine norm_ (a':=?_) ?_ ?_
                      rotate_left
                      ·simp only [Go.Proofs.YtjjfpmapjjemcaaGreatW.PrintLast.putAll,Act.put,List.setIfInBounds_toArray,List.set_cons_zero,List.set_cons_succ]
                       rfl
                      refine one_ (i:=19) (N:=some 125) (ab 24 5242879) rfl rfl (one_of HT_.out kr) (by decide) (fun K hK => ?_)
                      refine Kd.R_lit_step k84 _ 84 ?hg (N:=125) ?hd (xs:=([(⟨0,3,x17_38,ji24,0,0⟩ : S84),(⟨t109,2,x17_38,ji24,0,(wrap64 (1 + (Int.tmod (wrap64 (a2)) (ji33))))⟩ : S84),(⟨t110,2,x17_38,ji24,0,(wrap64 (1 + (Int.tmod (wrap64 (a3)) (ji35))))⟩ : S84)] : List (S84))) (inner:=[ii 0,ii 3,ii x17_38,ii ji24,ii 0,ii 0,ii t109,ii 2,ii x17_38,ii ji24,ii 0,ii (wrap64 (1 + (Int.tmod (wrap64 (a2)) (ji33)))),ii t110,ii 2,ii x17_38,ii ji24,ii 0,ii (wrap64 (1 + (Int.tmod (wrap64 (a3)) (ji35))))]) (ok:=fun _ => True) (okp:=fun _ => True) ?hr ?hp (fun _ hk => hk) trivial (Below.refl _ _) (Nat.le_refl _) (by simp) ?_;(case hd => rfl);(case hg => rfl);(case hr => first|(go_simp;done)|(go_simp;rfl));(case hp => exact (Reps.c6 (show Kd.M k84 _ _ _ (⟨0,3,x17_38,ji24,0,0⟩ : S84) [ii 0,ii 3,ii x17_38,ii ji24,ii 0,ii 0] from (k84_mkM _ _ _ (⟨0,3,x17_38,ji24,0,0⟩ : S84) )) (Reps.c6 (show Kd.M k84 _ _ _ (⟨t109,2,x17_38,ji24,0,(wrap64 (1 + (Int.tmod (wrap64 (a2)) (ji33))))⟩ : S84) [ii t109,ii 2,ii x17_38,ii ji24,ii 0,ii (wrap64 (1 + (Int.tmod (wrap64 (a2)) (ji33))))] from (k84_mkM _ _ _ (⟨t109,2,x17_38,ji24,0,(wrap64 (1 + (Int.tmod (wrap64 (a2)) (ji33))))⟩ : S84) )) (Reps.c6 (show Kd.M k84 _ _ _ (⟨t110,2,x17_38,ji24,0,(wrap64 (1 + (Int.tmod (wrap64 (a3)) (ji35))))⟩ : S84) [ii t110,ii 2,ii x17_38,ii ji24,ii 0,ii (wrap64 (1 + (Int.tmod (wrap64 (a3)) (ji35))))] from (k84_mkM _ _ _ (⟨t110,2,x17_38,ji24,0,(wrap64 (1 + (Int.tmod (wrap64 (a3)) (ji35))))⟩ : S84) )) (Reps.none _ _)))))
                      intro v119 w173 ho174 hb hg_ hnew_
                      clear hg_ hnew_
                      (first|rw [← Ny118.out] at ho174|(simp only [Int.reduceToNat] at ho174;rw [← Ny118.out] at ho174))
                      have HO120:=am (Kd.R_lower (Kd.R_new' ho174 (Kd.R_lt (wR HO117.out))) (below_size (v2 HB.out GE101.out GE124.out)))
                      replace HO117:=am (Kd.R_elder' (wR HO117.out) (Kd.R_base ho174) hb)
                      replace BK101:=am (blk_below (vb BK101.out) hb)
                      replace BK124:=am (blk_below (vb BK124.out) hb)
                      replace HB:=am (below_step (v2 HB.out GE101.out GE124.out) hb)
                      clear hb ho174
                      refine hK.out _ _ ⟨(blk_cell BK101.out 0).trans rfl,(blk_cell BK101.out 1).trans rfl⟩ (fun hHeld => ?_)
                      clear hK K
                      refine qN (some 125) ?_
                      exact nP (hJ2_5_19_22 (v113,v116,v119,gb124) _ ⟨hHeld,(by (with_reducible repeat (first|apply Kd.R_alloc|apply Kd.R_drewN|apply Kd.R_drew));exact Kd.R_mono HO117.out (fun _ hk => hk.2)),(by (with_reducible repeat (first|apply Kd.R_alloc|apply Kd.R_drewN|apply Kd.R_drew));exact Kd.R_mono HO120.out (fun _ hk => hk.2)),(vb BK101.out),(vb BK124.out),GW124.out,GE124.out,NB101_124.out,NB124_101.out,(v2 HB.out GE101.out GE124.out)⟩)
                    ·skip
                     rintro ⟨v113,v116,v119⟩ w173 ⟨hS_,h0_,h1_,h2_,h3_⟩
                     have HO117 : Aside0 (Kd.R k84 84 w173 w.heap.size (fun k_ => some k_ ≠ (v119 : Value).ownBlock) v116 y115):=⟨h0_⟩
                     have HO120 : Aside0 (Kd.R k84 84 w173 w.heap.size (fun k_ => some k_ ≠ (v116 : Value).ownBlock) v119 y118):=⟨h1_⟩
                     replace BK101 : Aside0 (w173.heap[gb101]? = some (.cells #[.slice (some ad107) l0_0.length c0_0,.slice A0_1 l0_1.length c0_1] 32 (0,0))):=⟨h2_⟩
                     replace HB : Aside0 (Below w.heap.size w w173):=⟨h3_⟩
                     clear h0_ h1_ h2_ h3_
                     have hHeld : w173.cell? ⟨gb101,0,none⟩ = some (.slice (some ad107) l0_0.length c0_0) ∧ w173.cell? ⟨gb101,1,none⟩ = some (.slice A0_1 l0_1.length c0_1):=hS_
                     obtain ⟨Ao175,co175,eo175⟩:=Kd.R_slice HO120.out
                     (first|subst eo175|(injection eo175 with f1_ f2_ f3_;have f4_:=f1_.symm;have f5_:=f3_.symm;clear f1_ f2_ f3_;subst f4_;subst f5_))
                     refine norm_ (a':=?_) ?_ ?_
                     rotate_left
                     ·simp only [Go.Proofs.YtjjfpmapjjemcaaGreatW.PrintLast.putAll,Act.put,List.setIfInBounds_toArray,List.set_cons_zero,List.set_cons_succ]
                      rfl
                     refine two_ (i:=20) (j:=22) (Ni:=some 126) (Nj:=some 19) (ab 24 2097151) (ab 24 5242879) rfl rfl rfl rfl (two_of HT_.out kr) (by decide) (by decide) (fun K hK => ?_) (fun K hK => ?_)
                     ·skip
                      refine Kd.R_append_rows_step k84 (w0:=w) w.heap.size (by rfl) (.tmp 111) (.tmp 125) 30 84 (.agg #[(ii 0),(ii 0),(ii 0),(ii 0),(ii 0),(ii 0)]) 48 rfl Tryz.underlying30 info84 rfl (by decide) (by omega) v116 y115 y118 _ _ _ (fun k_ => some k_ ≠ (.slice Ao175 y118.length co175 : Value).ownBlock) (fun _ => False) rfl rfl ?aO ?aR (fun _ _ h => h) (fun _ h => h.elim) ?aF ?aB ?aS ?aL ?_
                      (case aR => repeat (first|exact (Kd.R_reads' HO120.out).2.2|(with_reducible refine Kd.C_alloc ?_ _)|(with_reducible refine Kd.C_drewN ?_ _)|(with_reducible refine Kd.C_drew ?_)))
                      (case aB => exact (v1 HB.out GE101.out))
                      (case aF => exact (fun k_ hk => Kd.fresh' (Kd.R_lt (wR HO120.out)) k_ hk))
                      (case aO => exact (wR HO117.out))
                      (case aS => exact (below_size (v1 HB.out GE101.out)))
                      (case aL => have:=LMc53.out;omega)
                      intro v122 w174 ho hb hg hat
                      rw [← Ny121.out] at ho
                      have HO123:=am (ho)
                      replace BK101:=am (blk_grown (g:=gb101) (o:=.cells #[.slice (some ad107) l0_0.length c0_0,.slice A0_1 l0_1.length c0_1] 32 (0,0)) (vb BK101.out) hg (Kd.R_ne HO117.out BK101.out (by decide)))
                      replace HO120:=am (Kd.R_after (ok:=(fun _ => True)) (by (with_reducible repeat (first|apply Kd.R_alloc|apply Kd.R_drewN|apply Kd.R_drew));exact Kd.R_mono HO120.out (fun _ hk => ⟨trivial,hk⟩)) hg hat)
                      replace HB:=am (hb)
                      clear HO117
                      clear ho hb hg hat
                      obtain ⟨Ao176,co176,eo176⟩:=Kd.R_slice HO123.out
                      (first|subst eo176|(injection eo176 with f1_ f2_ f3_;have f4_:=f1_.symm;have f5_:=f3_.symm;clear f1_ f2_ f3_;subst f4_;subst f5_))
                      refine hK.out _ _ ⟨(blk_cell BK101.out 0).trans rfl,(blk_cell BK101.out 1).trans rfl⟩ (fun hHeld => ?_)
                      clear hK K
                      refine qN (some 126) ?_
                      refine qA 21 (some 127) ?_
                      exact nP (hJ2_5_19_20 (v113,v116,.slice Ao175 y118.length co175,.slice Ao176 y121.length co176) _ ⟨hHeld,(by (with_reducible repeat (first|apply Kd.R_alloc|apply Kd.R_drewN|apply Kd.R_drew));exact Kd.R_mono HO120.out (fun _ hk => hk.2)),(wR HO123.out),(vb BK101.out),(v1 HB.out GE101.out)⟩)
                     ·skip
                      refine box_step ?hg (N:=19) ?hd (cs:=#[.slice none 0 0,.slice none 0 0]) (t:=32) ?hr ?_;(case hd => rfl);(case hg => rfl);(case hr => first|(go_simp;done)|(go_simp;rfl))
                      intro gb124 hg w174 hbox hb
                      have BK124:=am (hbox)
                      have GW124:=am (lg hg (below_size (v1 HB.out GE101.out)) : w.heap.size ≤ gb124)
                      have GE124:=GW124
                      have NB101_124:=am (nl hg (vb BK101.out))
                      have NB124_101:=am ((nl hg (vb BK101.out)).symm)
                      replace HO117:=am (Kd.R_below (wR HO117.out) hb)
                      replace HO120:=am (Kd.R_below (wR HO120.out) hb)
                      replace BK101:=am (blk_below (vb BK101.out) hb)
                      replace HB:=am (below_step (v1 HB.out GE101.out) hb)
                      clear hb hbox hg
                      refine hK.out _ _ ⟨(blk_cell BK101.out 0).trans rfl,(blk_cell BK101.out 1).trans rfl⟩ (fun hHeld => ?_)
                      clear hK K
                      refine qN (some 19) ?_
                      exact nP (hJ2_5_19_22 (v113,v116,.slice Ao175 y118.length co175,gb124) _ ⟨hHeld,(wR HO117.out),(wR HO120.out),(vb BK101.out),(vb BK124.out),GW124.out,GE124.out,NB101_124.out,NB124_101.out,(v2 HB.out GE101.out GE124.out)⟩)
                   ·skip
                    rintro ⟨v113,v116,v119,gb124⟩ w174 ⟨hS_,h0_,h1_,h2_,h3_,h4_,h5_,h6_,h7_,h8_⟩
                    have HO117 : Aside0 (Kd.R k84 84 w174 w.heap.size (fun k_ => some k_ ≠ (v119 : Value).ownBlock) v116 y115):=⟨h0_⟩
                    have HO120 : Aside0 (Kd.R k84 84 w174 w.heap.size (fun k_ => some k_ ≠ (v116 : Value).ownBlock) v119 y118):=⟨h1_⟩
                    have BK124 : Aside0 (w174.heap[gb124]? = some (.cells #[.slice none 0 0,.slice none 0 0] 32 (0,0))):=⟨h3_⟩
                    have GW124 : Aside0 (w.heap.size ≤ gb124):=⟨h4_⟩
                    have GE124 : Aside0 (w.heap.size ≤ gb124):=⟨h5_⟩
                    have NB101_124 : Aside0 (gb101 ≠ gb124):=⟨h6_⟩
                    have NB124_101 : Aside0 (gb124 ≠ gb101):=⟨h7_⟩
                    replace BK101 : Aside0 (w174.heap[gb101]? = some (.cells #[.slice (some ad107) l0_0.length c0_0,.slice A0_1 l0_1.length c0_1] 32 (0,0))):=⟨h2_⟩
                    replace HB : Aside0 (Below w.heap.size w w174):=⟨h8_⟩
                    clear h0_ h1_ h2_ h3_ h4_ h5_ h6_ h7_ h8_
                    have hHeld : w174.cell? ⟨gb101,0,none⟩ = some (.slice (some ad107) l0_0.length c0_0) ∧ w174.cell? ⟨gb101,1,none⟩ = some (.slice A0_1 l0_1.length c0_1):=hS_
                    obtain ⟨Ao176,co176,eo176⟩:=Kd.R_slice HO120.out
                    (first|subst eo176|(injection eo176 with f1_ f2_ f3_;have f4_:=f1_.symm;have f5_:=f3_.symm;clear f1_ f2_ f3_;subst f4_;subst f5_))
                    refine norm_ (a':=?_) ?_ ?_
                    rotate_left
                    ·simp only [Go.Proofs.YtjjfpmapjjemcaaGreatW.PrintLast.putAll,Act.put,List.setIfInBounds_toArray,List.set_cons_zero,List.set_cons_succ]
                     rfl
                    refine one_ (i:=20) (N:=some 126) (ab 24 6291455) rfl rfl (one_of HT_.out kr) (by decide) (fun K hK => ?_)
                    refine Kd.R_append_rows_step k84 (w0:=w) w.heap.size (by rfl) (.tmp 111) (.tmp 125) 30 84 (.agg #[(ii 0),(ii 0),(ii 0),(ii 0),(ii 0),(ii 0)]) 48 rfl Tryz.underlying30 info84 rfl (by decide) (by omega) v116 y115 y118 _ _ _ (fun k_ => some k_ ≠ (.slice Ao176 y118.length co176 : Value).ownBlock) (fun _ => False) rfl rfl ?aO ?aR (fun _ _ h => h) (fun _ h => h.elim) ?aF ?aB ?aS ?aL ?_
                    (case aR => repeat (first|exact (Kd.R_reads' HO120.out).2.2|(with_reducible refine Kd.C_alloc ?_ _)|(with_reducible refine Kd.C_drewN ?_ _)|(with_reducible refine Kd.C_drew ?_)))
                    (case aB => exact (v2 HB.out GE101.out GE124.out))
                    (case aF => exact (fun k_ hk => Kd.fresh' (Kd.R_lt (wR HO120.out)) k_ hk))
                    (case aO => exact (wR HO117.out))
                    (case aS => exact (below_size (v2 HB.out GE101.out GE124.out)))
                    (case aL => have:=LMc53.out;omega)
                    intro v122 w175 ho hb hg hat
                    rw [← Ny121.out] at ho
                    have HO123:=am (ho)
                    replace BK101:=am (blk_grown (g:=gb101) (o:=.cells #[.slice (some ad107) l0_0.length c0_0,.slice A0_1 l0_1.length c0_1] 32 (0,0)) (vb BK101.out) hg (Kd.R_ne HO117.out BK101.out (by decide)))
                    replace HO120:=am (Kd.R_after (ok:=(fun _ => True)) (by (with_reducible repeat (first|apply Kd.R_alloc|apply Kd.R_drewN|apply Kd.R_drew));exact Kd.R_mono HO120.out (fun _ hk => ⟨trivial,hk⟩)) hg hat)
                    replace BK124:=am (blk_grown (g:=gb124) (o:=.cells #[.slice none 0 0,.slice none 0 0] 32 (0,0)) (vb BK124.out) hg (Kd.R_ne HO117.out BK124.out (by decide)))
                    replace HB:=am (hb)
                    clear HO117
                    clear ho hb hg hat
                    obtain ⟨Ao177,co177,eo177⟩:=Kd.R_slice HO123.out
                    (first|subst eo177|(injection eo177 with f1_ f2_ f3_;have f4_:=f1_.symm;have f5_:=f3_.symm;clear f1_ f2_ f3_;subst f4_;subst f5_))
                    refine hK.out _ _ ⟨(blk_cell BK101.out 0).trans rfl,(blk_cell BK101.out 1).trans rfl⟩ (fun hHeld => ?_)
                    clear hK K
                    refine qN (some 126) ?_
                    refine qA 21 (some 127) ?_
                    exact nP (hJ2_5_19_20_22 (v113,v116,.slice Ao176 y118.length co176,.slice Ao177 y121.length co177,gb124) _ ⟨hHeld,(by (with_reducible repeat (first|apply Kd.R_alloc|apply Kd.R_drewN|apply Kd.R_drew));exact Kd.R_mono HO120.out (fun _ hk => hk.2)),(wR HO123.out),(vb BK101.out),(vb BK124.out),GW124.out,GE124.out,NB101_124.out,NB124_101.out,(v2 HB.out GE101.out GE124.out)⟩)
                  ·skip
                   rintro ⟨v113,v116,v119,v122⟩ w176 ⟨hS_,h0_,h1_,h2_,h3_⟩
                   have HO120 : Aside0 (Kd.R k84 84 w176 w.heap.size (fun k_ => some k_ ≠ (v122 : Value).ownBlock) v119 y118):=⟨h0_⟩
                   have HO123 : Aside0 (Kd.R k84 84 w176 w.heap.size (fun k_ => some k_ ≠ (v119 : Value).ownBlock) v122 y121):=⟨h1_⟩
                   replace BK101 : Aside0 (w176.heap[gb101]? = some (.cells #[.slice (some ad107) l0_0.length c0_0,.slice A0_1 l0_1.length c0_1] 32 (0,0))):=⟨h2_⟩
                   replace HB : Aside0 (Below w.heap.size w w176):=⟨h3_⟩
                   clear h0_ h1_ h2_ h3_
                   have hHeld : w176.cell? ⟨gb101,0,none⟩ = some (.slice (some ad107) l0_0.length c0_0) ∧ w176.cell? ⟨gb101,1,none⟩ = some (.slice A0_1 l0_1.length c0_1):=hS_
                   obtain ⟨Ao177,co177,eo177⟩:=Kd.R_slice HO123.out
                   (first|subst eo177|(injection eo177 with f1_ f2_ f3_;have f4_:=f1_.symm;have f5_:=f3_.symm;clear f1_ f2_ f3_;subst f4_;subst f5_))
                   refine norm_ (a':=?_) ?_ ?_
                   rotate_left
                   ·simp only [Go.Proofs.YtjjfpmapjjemcaaGreatW.PrintLast.putAll,Act.put,List.setIfInBounds_toArray,List.set_cons_zero,List.set_cons_succ]
                    rfl
                   refine one_ (i:=22) (N:=some 19) (ab 24 8388607) rfl rfl (one_of HT_.out kr) (by decide) (fun K hK => ?_)
                   refine box_step ?hg (N:=19) ?hd (cs:=#[.slice none 0 0,.slice none 0 0]) (t:=32) ?hr ?_;(case hd => rfl);(case hg => rfl);(case hr => first|(go_simp;done)|(go_simp;rfl))
                   intro gb124 hg w178 hbox hb
                   have BK124:=am (hbox)
                   have GW124:=am (lg hg (below_size (v1 HB.out GE101.out)) : w.heap.size ≤ gb124)
                   have GE124:=GW124
                   have NB101_124:=am (nl hg (vb BK101.out))
                   have NB124_101:=am ((nl hg (vb BK101.out)).symm)
                   replace HO120:=am (Kd.R_below (wR HO120.out) hb)
                   replace HO123:=am (Kd.R_below (wR HO123.out) hb)
                   replace BK101:=am (blk_below (vb BK101.out) hb)
                   replace HB:=am (below_step (v1 HB.out GE101.out) hb)
                   clear hb hbox hg
                   refine hK.out _ _ ⟨(blk_cell BK101.out 0).trans rfl,(blk_cell BK101.out 1).trans rfl⟩ (fun hHeld => ?_)
                   clear hK K
                   refine qN (some 19) ?_
                   exact nP (hJ2_5_19_20_22 (v113,v116,v119,.slice Ao177 y121.length co177,gb124) _ ⟨hHeld,(wR HO120.out),(wR HO123.out),(vb BK101.out),(vb BK124.out),GW124.out,GE124.out,NB101_124.out,NB124_101.out,(v2 HB.out GE101.out GE124.out)⟩)
                 rintro ⟨v113,v116,v119,v122,gb124⟩ w177 ⟨hS_,h0_,h1_,h2_,h3_,h4_,h5_,h6_,h7_,h8_⟩
                 have HO120 : Aside0 (Kd.R k84 84 w177 w.heap.size (fun k_ => some k_ ≠ (v122 : Value).ownBlock) v119 y118):=⟨h0_⟩
                 have HO123 : Aside0 (Kd.R k84 84 w177 w.heap.size (fun k_ => some k_ ≠ (v119 : Value).ownBlock) v122 y121):=⟨h1_⟩
                 have BK124 : Aside0 (w177.heap[gb124]? = some (.cells #[.slice none 0 0,.slice none 0 0] 32 (0,0))):=⟨h3_⟩
                 have GW124 : Aside0 (w.heap.size ≤ gb124):=⟨h4_⟩
                 have GE124 : Aside0 (w.heap.size ≤ gb124):=⟨h5_⟩
                 have NB101_124 : Aside0 (gb101 ≠ gb124):=⟨h6_⟩
                 have NB124_101 : Aside0 (gb124 ≠ gb101):=⟨h7_⟩
                 replace BK101 : Aside0 (w177.heap[gb101]? = some (.cells #[.slice (some ad107) l0_0.length c0_0,.slice A0_1 l0_1.length c0_1] 32 (0,0))):=⟨h2_⟩
                 replace HB : Aside0 (Below w.heap.size w w177):=⟨h8_⟩
                 clear h0_ h1_ h2_ h3_ h4_ h5_ h6_ h7_ h8_
                 have hHeld : w177.cell? ⟨gb101,0,none⟩ = some (.slice (some ad107) l0_0.length c0_0) ∧ w177.cell? ⟨gb101,1,none⟩ = some (.slice A0_1 l0_1.length c0_1):=hS_
                 obtain ⟨Ao178,co178,eo178⟩:=Kd.R_slice HO123.out
                 (first|subst eo178|(injection eo178 with f1_ f2_ f3_;have f4_:=f1_.symm;have f5_:=f3_.symm;clear f1_ f2_ f3_;subst f4_;subst f5_))
                 refine norm_ (a':=?_) ?_ ?_
                 rotate_left
                 ·simp only [Go.Proofs.YtjjfpmapjjemcaaGreatW.PrintLast.putAll,Act.put,List.setIfInBounds_toArray,List.set_cons_zero,List.set_cons_succ]
                  rfl
                 refine one_ (i:=23) (N:=none) (ab 24 16777215) rfl rfl (one_of HT_.out kr) (by decide) (fun K hK => ?_)
                 have hs179:=bd BK124.out 0
                 have hfs179:=blk_frozen BK124.out 0
                 have hns179_0:=NB101_124.out
                 have hms179_0:=NB124_101.out
                 have hs180:=bd BK124.out 1
                 have hfs180:=blk_frozen BK124.out 1
                 have hns180_0:=NB101_124.out
                 have hms180_0:=NB124_101.out
                 refine skip_ (w1:=?_) (by rfl) rfl ?_ ?_
                 rotate_left
                 ·go_simp
                  rfl
                 refine hK.out _ _ ⟨((cell_far (p:=⟨gb124,_,none⟩) NB101_124.out _).trans (((cell_far (p:=⟨gb124,_,none⟩) NB101_124.out _).trans (hHeld.1)))),((cell_far (p:=⟨gb124,_,none⟩) NB101_124.out _).trans (((cell_far (p:=⟨gb124,_,none⟩) NB101_124.out _).trans (hHeld.2))))⟩ (fun hHeld => ?_)
                 clear hK K
                 refine done_ (done_of HT_.out kr) ?_
                 have hnb181:=NB124_101.out
                 have hnc181:=NB101_124.out
                 have hcz182_0:=bd BK124.out 0
                 have hcz182_1:=bd BK124.out 1
                 have hfz182_0:=blk_frozen BK124.out 0
                 have hfz182_1:=blk_frozen BK124.out 1
                 try go_wp2_with (first|((with_reducible refine g_ ?_);refine cE (some 130) Tryz.func40 #[.agg #[.slice (some ad107) l0_0.length c0_0,.slice Ao178 y121.length co178]] ?_;(with_reducible refine (pit_Check.calls _ _ l0_0 _ _ y121 t125 t126 _ ?side1 ?side2 ?side3 ?side4 A54.out).mono ?_);(case side1 => exact Kd.C_below HR0_0.out (v2 HB.out GE101.out GE124.out));(case side2 => exact HC0_0.out);(case side3 => refine (Kd.R_reads' (e:=84) (base:=w.heap.size) (ok:=fun k_ => some k_ ≠ (v119 : Value).ownBlock) (n:=y121.length) (c:=co178) ?_).2.2;exact (by (with_reducible repeat (first|apply Kd.R_alloc|apply Kd.R_drewN|apply Kd.R_drew));exact (Kd.R_mono (Kd.R_far (p:=⟨gb124,1,none⟩) (Kd.R_far (p:=⟨gb124,0,none⟩) (Kd.R_types HO123.out BK124.out (by decide)) (fun _ hk => hk.2) (.slice (some ad107) l0_0.length c0_0)) (fun _ hk => hk.2) (.slice Ao178 y121.length co178)) (fun _ h_ => h_.1))));(case side4 => exact (Kd.R_reads' HO123.out).2.1);rintro e w183 ⟨rfl,hb⟩;refine ⟨_,rfl,?_⟩;replace HO120:=am (Kd.R_below (by (with_reducible repeat (first|apply Kd.R_alloc|apply Kd.R_drewN|apply Kd.R_drew));exact (Kd.R_mono (Kd.R_far (p:=⟨gb124,1,none⟩) (Kd.R_far (p:=⟨gb124,0,none⟩) (Kd.R_types HO120.out BK124.out (by decide)) (fun _ hk => hk.2) (.slice (some ad107) l0_0.length c0_0)) (fun _ hk => hk.2) (.slice Ao178 y121.length co178)) (fun _ h_ => h_.1))) hb);replace HO123:=am (Kd.R_below (by (with_reducible repeat (first|apply Kd.R_alloc|apply Kd.R_drewN|apply Kd.R_drew));exact (Kd.R_mono (Kd.R_far (p:=⟨gb124,1,none⟩) (Kd.R_far (p:=⟨gb124,0,none⟩) (Kd.R_types HO123.out BK124.out (by decide)) (fun _ hk => hk.2) (.slice (some ad107) l0_0.length c0_0)) (fun _ hk => hk.2) (.slice Ao178 y121.length co178)) (fun _ h_ => h_.1))) hb);replace BK101:=am (blk_below (g:=gb101) (o:=.cells #[.slice (some ad107) l0_0.length c0_0,.slice A0_1 l0_1.length c0_1] 32 (0,0)) (vh BK101.out NB101_124.out) hb);replace BK124:=am (blk_below (g:=gb124) (o:=.cells #[.slice (some ad107) l0_0.length c0_0,.slice Ao178 y121.length co178] 32 (0,0)) (by (with_reducible repeat (first|refine blk_drewN ?_ _|refine blk_drew ?_|refine blk_alloc ?_ _));refine blk_put (cs:=#[.slice (some ad107) l0_0.length c0_0,.slice none 0 0]) ?_ 1 _ rfl;(with_reducible repeat (first|refine blk_drewN ?_ _|refine blk_drew ?_|refine blk_alloc ?_ _));refine blk_put (cs:=#[.slice none 0 0,.slice none 0 0]) ?_ 0 _ rfl;(with_reducible repeat (first|refine blk_drewN ?_ _|refine blk_drew ?_|refine blk_alloc ?_ _));exact BK124.out) hb);replace HB:=am (below_step (v2 HB.out GE101.out GE124.out) hb);(try clear hb);(try clear hb2);(try clear hk);(try clear hi))|((with_reducible refine g_ ?_);refine cE (some 135) Tryz.func27 #[] ?_;(with_reducible refine (calxlaw04_sanity.calls  true _ A165.out).mono ?_);rintro e w184 ⟨rfl,hb⟩;refine ⟨_,rfl,?_⟩;replace HO120:=am (Kd.R_below (wR HO120.out) hb);replace HO123:=am (Kd.R_below (wR HO123.out) hb);replace BK101:=am (blk_below (vb BK101.out) hb);replace BK124:=am (blk_below (vb BK124.out) hb);replace HB:=am (below_step (v2 HB.out GE101.out GE124.out) hb);(try clear hb);(try clear hb2);(try clear hk);(try clear hi)))
                 go_ret
                 exact ⟨by first|rfl|(simp [errW_none,errW_some] <;> rfl)|(simp only [← hji24,← hji33,← hji35];first|rfl|(simp [errW_none,errW_some] <;> rfl))|(simp [*,errW_none,errW_some] <;> rfl),v2 HB.out GE101.out GE124.out⟩
                ·replace c166:=Bool.eq_false_iff.mpr c166
                 subst c166
                 have H1 : (some false) = some r:=by rw [if_neg (show ¬ (false = true) by decide)] at H;exact H
                 clear H
                 have H:=H1
                 clear H1
                 obtain rfl:=Option.some.inj H
                 cases hr.out
              ·rw [if_neg c53] at H
               exact absurd H (by simp)
             ·rw [if_neg c52] at H
              exact absurd H (by simp)
       ·rw [if_neg c26] at H
        exact absurd H (by simp)
      ·rw [if_neg c25] at H
       exact absurd H (by simp)
     ·rw [if_neg c23] at H
      have c23b0 : (t105 == 0) = false:=beq_eq_false_iff_ne.mpr c23
      have c23b1 : (t105 != 0) = true:=bne_iff_ne.mpr c23
      replace H:=Option.bind_eq_some_iff.mp H
      obtain ⟨t106,A2030,H⟩:=H
      replace H : (some t106) = some r:=H
      have A203:=am A2030
      clear A2030
      obtain rfl:=Option.some.inj H
      have hcz204_0:=bd BK101.out 0
      have hcz204_1:=bd BK101.out 1
      have hfz204_0:=blk_frozen BK101.out 0
      have hfz204_1:=blk_frozen BK101.out 1
      go_wp2_with (first|((with_reducible refine g_ ?_);refine cE (some 58) Tryz.func54 #[.agg #[.slice A0_0 l0_0.length c0_0,.slice A0_1 l0_1.length c0_1],ii (Int.tmod (wrap64 (a1)) (l0_0.length : Int)),ii (l0_1.length : Int)] ?_;(with_reducible refine (pit_Free.calls _ _ l0_0 _ _ l0_1 (Int.tmod (wrap64 (a1)) (l0_0.length : Int)) (l0_1.length : Int) t104 t105 _ ?side1 ?side2 ?side3 ?side4 A22.out).mono ?_);(case side1 => repeat (first|exact (Kd.C_below HR0_0.out HB.out)|(with_reducible refine Kd.C_alloc ?_ _)|(with_reducible refine Kd.C_drewN ?_ _)|(with_reducible refine Kd.C_drew ?_)));(case side2 => exact HC0_0.out);(case side3 => repeat (first|exact (Kd.C_below HR0_1.out HB.out)|(with_reducible refine Kd.C_alloc ?_ _)|(with_reducible refine Kd.C_drewN ?_ _)|(with_reducible refine Kd.C_drew ?_)));(case side4 => exact HC0_1.out);rintro e w205 ⟨rfl,hb⟩;refine ⟨_,rfl,?_⟩;replace BK101:=am (blk_below (vb BK101.out) hb);replace HB:=am (below_step (v1 HB.out GE101.out) hb);(try clear hb);(try clear hb2);(try clear hk);(try clear hi))|((with_reducible refine g_ ?_);refine cE (some 63) Tryz.func27 #[] ?_;(with_reducible refine (calxlaw04_sanity.calls  t106 _ A203.out).mono ?_);rintro e w206 ⟨rfl,hb⟩;refine ⟨_,rfl,?_⟩;replace BK101:=am (blk_below (vb BK101.out) hb);replace HB:=am (below_step (v1 HB.out GE101.out) hb);(try clear hb);(try clear hb2);(try clear hk);(try clear hi)))
      go_ret
      exact ⟨vf,v1 HB.out GE101.out⟩
end
end Go.Proofs.YtjjfpmapjjemcaaGreat.B
end
