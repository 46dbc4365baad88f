import Derived.Test.YtjjfpmapjjemcaaGreatQ10
import Derived.Test.YtjjfpmapjjemcaaGreatQ11
import Derived.Test.YtjjfpmapjjemcaaGreatQ7
set_option linter.unusedVariables false
set_option linter.unusedSimpArgs false
section
namespace Go.Proofs.YtjjfpmapjjemcaaGreat.B
open Go.RowKit Go.Proofs.YtjjfpmapjjemcaaGreatW.PrintWords Go.Proofs.YtjjfpmapjjemcaaGreatW.PrintLast Go.Proofs.YtjjfpmapjjemcaaGreatW.PrintMore
attribute [local go_sem] max2_int min2_int max_two min_two max_three min_three max_four min_four
section
attribute [local go_sem high] eqA84
mutual
def calxref04_SamePits.j0 : Nat → Bool → List Int → List (S84) → List Int → List (S84) → Option (Bool)
|0,_,_,_,_,_ => none
|k + 1,x22,x102000,x102001,x103000,x103001 => if x22 = true then (some false) else (calxref04_SamePits.l0 k 0 x102000 x102001 x103000 x103001)
def calxref04_SamePits.l0 : Nat → Int → List Int → List (S84) → List Int → List (S84) → Option (Bool)
|0,_,_,_,_,_ => none
|k + 1,x6,x102000,x102001,x103000,x103001 => if x6 < (x102001.length : Int) then (if 0 ≤ x6 then (if x6 < (x103001.length : Int) then (if (!(((rd_T84 x102001 x6).f0) == ((rd_T84 x103001 x6).f0)) || (!(((rd_T84 x102001 x6).f1) == ((rd_T84 x103001 x6).f1)) || (!(((rd_T84 x102001 x6).f2) == ((rd_T84 x103001 x6).f2)) || (!(((rd_T84 x102001 x6).f3) == ((rd_T84 x103001 x6).f3)) || (!(((rd_T84 x102001 x6).f4) == ((rd_T84 x103001 x6).f4)) || (!(((rd_T84 x102001 x6).f5) == ((rd_T84 x103001 x6).f5)))))))) = true then (some false) else (calxref04_SamePits.l0 k (wrap64 (x6 + 1)) x102000 x102001 x103000 x103001)) else (none)) else (none)) else (some true)
end
def calxref04_SamePits.f (k : Nat) (l0_0 : List Int) (l0_1 : List (S84)) (l1_0 : List Int) (l1_1 : List (S84)) : Option (Bool):=(calxref04_SameInts.f k l0_0 l1_0).bind fun t103 => (if t103 = true then (calxref04_SamePits.j0 k ((l0_1.length : Int) != (l1_1.length : Int)) l0_0 l0_1 l1_0 l1_1) else (calxref04_SamePits.j0 k true l0_0 l0_1 l1_0 l1_1))
set_option maxHeartbeats 8000000 in
set_option maxRecDepth 100000 in
theorem calxref04_SamePits.calls (k : Nat) (A0_0 : Option Addr) (c0_0 : Nat) (l0_0 : List Int) (A0_1 : Option Addr) (c0_1 : Nat) (l0_1 : List (S84)) (A1_0 : Option Addr) (c1_0 : Nat) (l1_0 : List Int) (A1_1 : Option Addr) (c1_1 : Nat) (l1_1 : List (S84)) (r : Bool) (w : World) (hr0_0 : Kd.C (Kd.int .i64) w A0_0 l0_0.length l0_0) (hc0_0 : l0_0.length ≤ c0_0) (hr0_1 : Kd.C k84 w A0_1 l0_1.length l0_1) (hc0_1 : l0_1.length ≤ c0_1) (hr1_0 : Kd.C (Kd.int .i64) w A1_0 l1_0.length l1_0) (hc1_0 : l1_0.length ≤ c1_0) (hr1_1 : Kd.C k84 w A1_1 l1_1.length l1_1) (hc1_1 : l1_1.length ≤ c1_1) (h : calxref04_SamePits.f k l0_0 l0_1 l1_0 l1_1 = some r) :
  Calls Tryz.prog 46 #[.agg #[.slice A0_0 l0_0.length c0_0,.slice A0_1 l0_1.length c0_1],.agg #[.slice A1_0 l1_0.length c1_0,.slice A1_1 l1_1.length c1_1]] w fun e w' => e = .returned (.bool r) ∧ Below w.heap.size w w':=by
 have hu32:=Tryz.underlying32
 have hu84:=Tryz.underlying84
 have HR0_0:=am hr0_0
 have HC0_0:=am hc0_0
 clear hr0_0 hc0_0
 have HR0_1:=am hr0_1
 have HC0_1:=am hc0_1
 clear hr0_1 hc0_1
 have HR1_0:=am hr1_0
 have HC1_0:=am hc1_0
 clear hr1_0 hc1_0
 have HR1_1:=am hr1_1
 have HC1_1:=am hc1_1
 clear hr1_1 hc1_1
 have HB:=am (Below.refl w.heap.size w)
 have H : ((calxref04_SameInts.f k l0_0 l1_0).bind fun t103 => (if t103 = true then (calxref04_SamePits.j0 k ((l0_1.length : Int) != (l1_1.length : Int)) l0_0 l0_1 l1_0 l1_1) else (calxref04_SamePits.j0 k true l0_0 l0_1 l1_0 l1_1))) = some r:=h
 clear h
 replace H:=Option.bind_eq_some_iff.mp H
 obtain ⟨t103,A30,H⟩:=H
 replace H : (if t103 = true then (calxref04_SamePits.j0 k ((l0_1.length : Int) != (l1_1.length : Int)) l0_0 l0_1 l1_0 l1_1) else (calxref04_SamePits.j0 k true l0_0 l0_1 l1_0 l1_1)) = some r:=H
 have A3:=am A30
 clear A30
 have HC4:=am H
 clear H
 go_enter Tryz.func46,Tryz.ntmps46
 go_upto_region 2 with (first|((with_reducible refine gate_dst (N:=2) rfl ?_);(try (refine gate_guard (by rfl) ?_;dsimp only));refine bE 2 #[.slice A0_0 l0_0.length c0_0,.slice A0_1 l0_1.length c0_1] 32 ?_;intro gb101 hg w5 hbox hb;have BK101:=am (hbox);have GW101:=am (lg hg (below_size (v0 HB.out)) : w.heap.size ≤ gb101);have GE101:=GW101;replace HB:=am (below_step (v0 HB.out) hb);clear hb hbox hg)|((with_reducible refine gate_dst (N:=3) rfl ?_);(try (refine gate_guard (by rfl) ?_;dsimp only));refine bE 3 #[.slice A1_0 l1_0.length c1_0,.slice A1_1 l1_1.length c1_1] 32 ?_;intro gb102 hg w6 hbox hb;have BK102:=am (hbox);have GW102:=am (lg hg (below_size (v1 HB.out GE101.out)) : w.heap.size ≤ gb102);have GE102:=GW102;have NB101_102:=am (nl hg (vb BK101.out));have NB102_101:=am ((nl hg (vb BK101.out)).symm);replace BK101:=am (blk_below (vb BK101.out) hb);replace HB:=am (below_step (v1 HB.out GE101.out) hb);clear hb hbox hg;have hnb7:=NB101_102.out;have hnc7:=NB102_101.out;have hcz8_0:=bd BK101.out 0;have hcz8_1:=bd BK101.out 1;have hfz8_0:=blk_frozen BK101.out 0;have hfz8_1:=blk_frozen BK101.out 1;have hcz9_0:=bd BK102.out 0;have hcz9_1:=bd BK102.out 1;have hfz9_0:=blk_frozen BK102.out 0;have hfz9_1:=blk_frozen BK102.out 1)|(go_at_call 72;(with_reducible refine (calxref04_SameInts.calls k _ _ l0_0 _ _ l1_0 t103 _ ?side1 ?side2 ?side3 ?side4 A3.out).mono ?_);(case side1 => repeat (first|exact (Kd.C_below HR0_0.out HB.out)|(with_reducible refine Kd.C_alloc ?_ _)|(with_reducible refine Kd.C_drewN ?_ _)|(with_reducible refine Kd.C_drew ?_)));(case side2 => exact HC0_0.out);(case side3 => repeat (first|exact (Kd.C_below HR1_0.out HB.out)|(with_reducible refine Kd.C_alloc ?_ _)|(with_reducible refine Kd.C_drewN ?_ _)|(with_reducible refine Kd.C_drew ?_)));(case side4 => exact HC1_0.out);rintro e w' ⟨rfl,⟨nd,rfl⟩⟩;(try first|exact ⟨rfl,_,World.drewN_drewN _ _ _⟩|exact ⟨rfl,_,Eq.trans (World.drewN_drewN _ _ _) (congrArg (World.drewN _) (Nat.add_assoc _ _ _))⟩)))
 repeat (go_quiet (first|((with_reducible refine gate_dst (N:=2) rfl ?_);(try (refine gate_guard (by rfl) ?_;dsimp only));refine bE 2 #[.slice A0_0 l0_0.length c0_0,.slice A0_1 l0_1.length c0_1] 32 ?_;intro gb101 hg w5 hbox hb;have BK101:=am (hbox);have GW101:=am (lg hg (below_size (v0 HB.out)) : w.heap.size ≤ gb101);have GE101:=GW101;replace HB:=am (below_step (v0 HB.out) hb);clear hb hbox hg)|((with_reducible refine gate_dst (N:=3) rfl ?_);(try (refine gate_guard (by rfl) ?_;dsimp only));refine bE 3 #[.slice A1_0 l1_0.length c1_0,.slice A1_1 l1_1.length c1_1] 32 ?_;intro gb102 hg w6 hbox hb;have BK102:=am (hbox);have GW102:=am (lg hg (below_size (v1 HB.out GE101.out)) : w.heap.size ≤ gb102);have GE102:=GW102;have NB101_102:=am (nl hg (vb BK101.out));have NB102_101:=am ((nl hg (vb BK101.out)).symm);replace BK101:=am (blk_below (vb BK101.out) hb);replace HB:=am (below_step (v1 HB.out GE101.out) hb);clear hb hbox hg;have hnb7:=NB101_102.out;have hnc7:=NB102_101.out;have hcz8_0:=bd BK101.out 0;have hcz8_1:=bd BK101.out 1;have hfz8_0:=blk_frozen BK101.out 0;have hfz8_1:=blk_frozen BK101.out 1;have hcz9_0:=bd BK102.out 0;have hcz9_1:=bd BK102.out 1;have hfz9_0:=blk_frozen BK102.out 0;have hfz9_1:=blk_frozen BK102.out 1)|(go_at_call 72;(with_reducible refine (calxref04_SameInts.calls k _ _ l0_0 _ _ l1_0 t103 _ ?side1 ?side2 ?side3 ?side4 A3.out).mono ?_);(case side1 => repeat (first|exact (Kd.C_below HR0_0.out HB.out)|(with_reducible refine Kd.C_alloc ?_ _)|(with_reducible refine Kd.C_drewN ?_ _)|(with_reducible refine Kd.C_drew ?_)));(case side2 => exact HC0_0.out);(case side3 => repeat (first|exact (Kd.C_below HR1_0.out HB.out)|(with_reducible refine Kd.C_alloc ?_ _)|(with_reducible refine Kd.C_drewN ?_ _)|(with_reducible refine Kd.C_drew ?_)));(case side4 => exact HC1_0.out);rintro e w' ⟨rfl,⟨nd,rfl⟩⟩;(try first|exact ⟨rfl,_,World.drewN_drewN _ _ _⟩|exact ⟨rfl,_,Eq.trans (World.drewN_drewN _ _ _) (congrArg (World.drewN _) (Nat.add_assoc _ _ _))⟩)));go_upto_region 2 with (first|((with_reducible refine gate_dst (N:=2) rfl ?_);(try (refine gate_guard (by rfl) ?_;dsimp only));refine bE 2 #[.slice A0_0 l0_0.length c0_0,.slice A0_1 l0_1.length c0_1] 32 ?_;intro gb101 hg w5 hbox hb;have BK101:=am (hbox);have GW101:=am (lg hg (below_size (v0 HB.out)) : w.heap.size ≤ gb101);have GE101:=GW101;replace HB:=am (below_step (v0 HB.out) hb);clear hb hbox hg)|((with_reducible refine gate_dst (N:=3) rfl ?_);(try (refine gate_guard (by rfl) ?_;dsimp only));refine bE 3 #[.slice A1_0 l1_0.length c1_0,.slice A1_1 l1_1.length c1_1] 32 ?_;intro gb102 hg w6 hbox hb;have BK102:=am (hbox);have GW102:=am (lg hg (below_size (v1 HB.out GE101.out)) : w.heap.size ≤ gb102);have GE102:=GW102;have NB101_102:=am (nl hg (vb BK101.out));have NB102_101:=am ((nl hg (vb BK101.out)).symm);replace BK101:=am (blk_below (vb BK101.out) hb);replace HB:=am (below_step (v1 HB.out GE101.out) hb);clear hb hbox hg;have hnb7:=NB101_102.out;have hnc7:=NB102_101.out;have hcz8_0:=bd BK101.out 0;have hcz8_1:=bd BK101.out 1;have hfz8_0:=blk_frozen BK101.out 0;have hfz8_1:=blk_frozen BK101.out 1;have hcz9_0:=bd BK102.out 0;have hcz9_1:=bd BK102.out 1;have hfz9_0:=blk_frozen BK102.out 0;have hfz9_1:=blk_frozen BK102.out 1)|(go_at_call 72;(with_reducible refine (calxref04_SameInts.calls k _ _ l0_0 _ _ l1_0 t103 _ ?side1 ?side2 ?side3 ?side4 A3.out).mono ?_);(case side1 => repeat (first|exact (Kd.C_below HR0_0.out HB.out)|(with_reducible refine Kd.C_alloc ?_ _)|(with_reducible refine Kd.C_drewN ?_ _)|(with_reducible refine Kd.C_drew ?_)));(case side2 => exact HC0_0.out);(case side3 => repeat (first|exact (Kd.C_below HR1_0.out HB.out)|(with_reducible refine Kd.C_alloc ?_ _)|(with_reducible refine Kd.C_drewN ?_ _)|(with_reducible refine Kd.C_drew ?_)));(case side4 => exact HC1_0.out);rintro e w' ⟨rfl,⟨nd,rfl⟩⟩;(try first|exact ⟨rfl,_,World.drewN_drewN _ _ _⟩|exact ⟨rfl,_,Eq.trans (World.drewN_drewN _ _ _) (congrArg (World.drewN _) (Nat.add_assoc _ _ _))⟩))))
 (try simp only [Act.put,List.setIfInBounds_toArray,List.set_cons_zero,List.set_cons_succ])
 go_cut [22] (fun v22 wc => ∃ (kq : Nat) (x22_3 : Bool),v22 = .bool x22_3 ∧ Aside0 (calxref04_SamePits.j0 kq x22_3 l0_0 l0_1 l1_0 l1_1 = some r) ∧ Aside0 (kq ≤ k) ∧ Aside0 (wc.heap[gb101]? = some (.cells #[(.slice A0_0 l0_0.length c0_0),(.slice A0_1 l0_1.length c0_1)] 32 (0,0))) ∧ Aside0 (wc.heap[gb102]? = some (.cells #[(.slice A1_0 l1_0.length c1_0),(.slice A1_1 l1_1.length c1_1)] 32 (0,0))) ∧ Aside0 (Below w.heap.size w wc))
 case first =>
  have H:=HC4.out
  clear HC4
  by_cases c10 : t103 = true
  ·subst c10
   have H1 : (calxref04_SamePits.j0 k ((l0_1.length : Int) != (l1_1.length : Int)) l0_0 l0_1 l1_0 l1_1) = some r:=by rw [if_pos rfl] at H;exact H
   clear H
   have H:=H1
   clear H1
   have H':=am H
   clear H
   have hnb11:=NB101_102.out
   have hnc11:=NB102_101.out
   have hcz12_0:=bd BK101.out 0
   have hcz12_1:=bd BK101.out 1
   have hfz12_0:=blk_frozen BK101.out 0
   have hfz12_1:=blk_frozen BK101.out 1
   have hcz13_0:=bd BK102.out 0
   have hcz13_1:=bd BK102.out 1
   have hfz13_0:=blk_frozen BK102.out 0
   have hfz13_1:=blk_frozen BK102.out 1
   go_wp2
   repeat (go_quiet (fail);try go_wp2)
   go_meet
   case rel => exact ⟨_,(((l0_1.length : Int) != (l1_1.length : Int))),ve,H',⟨by first|omega|exact Nat.le_refl _⟩,⟨vb BK101.out⟩,⟨vb BK102.out⟩,⟨v2 HB.out GE101.out GE102.out⟩⟩
  ·replace c10:=Bool.eq_false_iff.mpr c10
   subst c10
   have H1 : (calxref04_SamePits.j0 k true l0_0 l0_1 l1_0 l1_1) = some r:=by rw [if_neg (show ¬ (false = true) by decide)] at H;exact H
   clear H
   have H:=H1
   clear H1
   have H':=am H
   clear H
   go_wp2
   repeat (go_quiet (fail);try go_wp2)
   go_meet
   case rel => exact ⟨_,(true),ve,H',⟨by first|omega|exact Nat.le_refl _⟩,⟨vb BK101.out⟩,⟨vb BK102.out⟩,⟨v2 HB.out GE101.out GE102.out⟩⟩
 case rest =>
  clear HC4
  try clear c1;try clear p2;try clear c4;try clear c7;try clear c10;try clear c11;try clear hcz12_0;try clear hcz12_1;try clear hcz13_0;try clear hcz13_1;try clear hcz8_0;try clear hcz8_1;try clear hcz9_0;try clear hcz9_1;try clear hfz12_0;try clear hfz12_1;try clear hfz13_0;try clear hfz13_1;try clear hfz8_0;try clear hfz8_1;try clear hfz9_0;try clear hfz9_1
  obtain ⟨kq,x22_3,rfl,HA,HJ3,BK101,BK102,HB⟩:=hcut
  cases kq with
 |zero => exact absurd HA.out (by simp [calxref04_SamePits.j0])
 |succ kj3 =>
   have H:=HA.out
   clear HA
   simp only [calxref04_SamePits.j0] at H
   by_cases c14 : x22_3 = true
   ·subst c14
    have H1 : (some false) = some r:=by rw [if_pos rfl] at H;exact H
    clear H
    have H:=H1
    clear H1
    obtain rfl:=Option.some.inj H
    go_wp2
    repeat (go_quiet (fail);try go_wp2)
    go_ret
    exact ⟨vf,v2 HB.out GE101.out GE102.out⟩
   ·replace c14:=Bool.eq_false_iff.mpr c14
    subst c14
    have H1 : (calxref04_SamePits.l0 kj3 0 l0_0 l0_1 l1_0 l1_1) = some r:=by rw [if_neg (show ¬ (false = true) by decide)] at H;exact H
    clear H
    have H:=H1
    clear H1
    have H':=am H
    clear H
    go_wp2
    repeat (go_quiet (fail);try go_wp2)
    go_loopg [6] kj3 (fun kq v6 w' => ∃ (x6_2 : Int),v6 = ii x6_2 ∧ Aside0 (calxref04_SamePits.l0 kq x6_2 l0_0 l0_1 l1_0 l1_1 = some r) ∧ Aside0 (kq ≤ kj3) ∧ Aside0 (w'.heap[gb101]? = some (.cells #[(.slice A0_0 l0_0.length c0_0),(.slice A0_1 l0_1.length c0_1)] 32 (0,0))) ∧ Aside0 (w'.heap[gb102]? = some (.cells #[(.slice A1_0 l1_0.length c1_0),(.slice A1_1 l1_1.length c1_1)] 32 (0,0))) ∧ Aside0 (Below w.heap.size w w'))
    case atStart => exact ⟨(0),ve,H',⟨Nat.le_refl _⟩,⟨vb BK101.out⟩,⟨vb BK102.out⟩,⟨v2 HB.out GE101.out GE102.out⟩⟩
    case round =>
     clear H'
     try clear c1;try clear p2;try clear c4;try clear c7;try clear c10;try clear c11;try clear c14;try clear hcz12_0;try clear hcz12_1;try clear hcz13_0;try clear hcz13_1;try clear hcz8_0;try clear hcz8_1;try clear hcz9_0;try clear hcz9_1;try clear hfz12_0;try clear hfz12_1;try clear hfz13_0;try clear hfz13_1;try clear hfz8_0;try clear hfz8_1;try clear hfz9_0;try clear hfz9_1;try clear p2
     obtain ⟨x6_2,rfl,HA,HK2,BK101,BK102,HB⟩:=hrel
     cases gk with
    |zero => exact absurd HA.out (by simp [calxref04_SamePits.l0])
    |succ k2 =>
      have H:=HA.out
      clear HA
      simp only [calxref04_SamePits.l0] at H
      by_cases c15 : x6_2 < (l0_1.length : Int)
      ·rw [if_pos c15] at H
       have c15b0 : decide (x6_2 < (l0_1.length : Int)) = true:=decide_eq_true c15
       clear c15
       by_cases c16 : 0 ≤ x6_2
       ·rw [if_pos c16] at H
        have c16b0 : decide (0 ≤ x6_2) = true:=decide_eq_true c16
        clear c16
        by_cases c17 : x6_2 < (l1_1.length : Int)
        ·rw [if_pos c17] at H
         have c17b0 : decide (x6_2 < (l1_1.length : Int)) = true:=decide_eq_true c17
         clear c17
         by_cases c18 : (!(((rd_T84 l0_1 x6_2).f0) == ((rd_T84 l1_1 x6_2).f0)) || (!(((rd_T84 l0_1 x6_2).f1) == ((rd_T84 l1_1 x6_2).f1)) || (!(((rd_T84 l0_1 x6_2).f2) == ((rd_T84 l1_1 x6_2).f2)) || (!(((rd_T84 l0_1 x6_2).f3) == ((rd_T84 l1_1 x6_2).f3)) || (!(((rd_T84 l0_1 x6_2).f4) == ((rd_T84 l1_1 x6_2).f4)) || (!(((rd_T84 l0_1 x6_2).f5) == ((rd_T84 l1_1 x6_2).f5)))))))) = true
         ·rw [if_pos c18] at H
          have c18b0 : (!(((rd_T84 l0_1 x6_2).f0) == ((rd_T84 l1_1 x6_2).f0)) || (!(((rd_T84 l0_1 x6_2).f1) == ((rd_T84 l1_1 x6_2).f1)) || (!(((rd_T84 l0_1 x6_2).f2) == ((rd_T84 l1_1 x6_2).f2)) || (!(((rd_T84 l0_1 x6_2).f3) == ((rd_T84 l1_1 x6_2).f3)) || (!(((rd_T84 l0_1 x6_2).f4) == ((rd_T84 l1_1 x6_2).f4)) || (!(((rd_T84 l0_1 x6_2).f5) == ((rd_T84 l1_1 x6_2).f5)))))))) = true:=c18
          clear c18
          obtain rfl:=Option.some.inj H
          have hnb19:=NB101_102.out
          have hnc19:=NB102_101.out
          have hcz20_0:=bd BK101.out 0
          have hcz20_1:=bd BK101.out 1
          have hfz20_0:=blk_frozen BK101.out 0
          have hfz20_1:=blk_frozen BK101.out 1
          have p104 : 0 ≤ (x6_2 : Int):=of_decide_eq_true va
          have q104 : x6_2 < (l0_1.length : Int):=of_decide_eq_true va
          obtain ⟨ad104,e104,hx104_0,hx104_1,hx104_2,hx104_3,hx104_4,hx104_5⟩:=at_T84 HR0_1.out x6_2 p104 q104
          cases e104
          replace hx104_0:=(HB.out.cell (wb w _ hx104_0)).trans hx104_0
          replace hx104_1:=(HB.out.cell (wb w _ hx104_1)).trans hx104_1
          replace hx104_2:=(HB.out.cell (wb w _ hx104_2)).trans hx104_2
          replace hx104_3:=(HB.out.cell (wb w _ hx104_3)).trans hx104_3
          replace hx104_4:=(HB.out.cell (wb w _ hx104_4)).trans hx104_4
          replace hx104_5:=(HB.out.cell (wb w _ hx104_5)).trans hx104_5
          replace p104:=eq_true p104
          replace q104:=eq_true q104
          have hcz21_0:=bd BK102.out 0
          have hcz21_1:=bd BK102.out 1
          have hfz21_0:=blk_frozen BK102.out 0
          have hfz21_1:=blk_frozen BK102.out 1
          have p105 : 0 ≤ (x6_2 : Int):=of_decide_eq_true va
          have q105 : x6_2 < (l1_1.length : Int):=of_decide_eq_true va
          obtain ⟨ad105,e105,hx105_0,hx105_1,hx105_2,hx105_3,hx105_4,hx105_5⟩:=at_T84 HR1_1.out x6_2 p105 q105
          cases e105
          replace hx105_0:=(HB.out.cell (wb w _ hx105_0)).trans hx105_0
          replace hx105_1:=(HB.out.cell (wb w _ hx105_1)).trans hx105_1
          replace hx105_2:=(HB.out.cell (wb w _ hx105_2)).trans hx105_2
          replace hx105_3:=(HB.out.cell (wb w _ hx105_3)).trans hx105_3
          replace hx105_4:=(HB.out.cell (wb w _ hx105_4)).trans hx105_4
          replace hx105_5:=(HB.out.cell (wb w _ hx105_5)).trans hx105_5
          replace p105:=eq_true p105
          replace q105:=eq_true q105
          go_wp2
          repeat (go_quiet (fail);try go_wp2)
          go_ret
          exact ⟨vf,v2 HB.out GE101.out GE102.out⟩
         ·rw [if_neg c18] at H
          have c18b0 : (!(((rd_T84 l0_1 x6_2).f0) == ((rd_T84 l1_1 x6_2).f0)) || (!(((rd_T84 l0_1 x6_2).f1) == ((rd_T84 l1_1 x6_2).f1)) || (!(((rd_T84 l0_1 x6_2).f2) == ((rd_T84 l1_1 x6_2).f2)) || (!(((rd_T84 l0_1 x6_2).f3) == ((rd_T84 l1_1 x6_2).f3)) || (!(((rd_T84 l0_1 x6_2).f4) == ((rd_T84 l1_1 x6_2).f4)) || (!(((rd_T84 l0_1 x6_2).f5) == ((rd_T84 l1_1 x6_2).f5)))))))) = false:=by simpa using c18
          clear c18
          have H':=am H
          clear H
          have hnb22:=NB101_102.out
          have hnc22:=NB102_101.out
          have hcz23_0:=bd BK101.out 0
          have hcz23_1:=bd BK101.out 1
          have hfz23_0:=blk_frozen BK101.out 0
          have hfz23_1:=blk_frozen BK101.out 1
          have p104 : 0 ≤ (x6_2 : Int):=of_decide_eq_true va
          have q104 : x6_2 < (l0_1.length : Int):=of_decide_eq_true va
          obtain ⟨ad104,e104,hx104_0,hx104_1,hx104_2,hx104_3,hx104_4,hx104_5⟩:=at_T84 HR0_1.out x6_2 p104 q104
          cases e104
          replace hx104_0:=(HB.out.cell (wb w _ hx104_0)).trans hx104_0
          replace hx104_1:=(HB.out.cell (wb w _ hx104_1)).trans hx104_1
          replace hx104_2:=(HB.out.cell (wb w _ hx104_2)).trans hx104_2
          replace hx104_3:=(HB.out.cell (wb w _ hx104_3)).trans hx104_3
          replace hx104_4:=(HB.out.cell (wb w _ hx104_4)).trans hx104_4
          replace hx104_5:=(HB.out.cell (wb w _ hx104_5)).trans hx104_5
          replace p104:=eq_true p104
          replace q104:=eq_true q104
          have hcz24_0:=bd BK102.out 0
          have hcz24_1:=bd BK102.out 1
          have hfz24_0:=blk_frozen BK102.out 0
          have hfz24_1:=blk_frozen BK102.out 1
          have p105 : 0 ≤ (x6_2 : Int):=of_decide_eq_true va
          have q105 : x6_2 < (l1_1.length : Int):=of_decide_eq_true va
          obtain ⟨ad105,e105,hx105_0,hx105_1,hx105_2,hx105_3,hx105_4,hx105_5⟩:=at_T84 HR1_1.out x6_2 p105 q105
          cases e105
          replace hx105_0:=(HB.out.cell (wb w _ hx105_0)).trans hx105_0
          replace hx105_1:=(HB.out.cell (wb w _ hx105_1)).trans hx105_1
          replace hx105_2:=(HB.out.cell (wb w _ hx105_2)).trans hx105_2
          replace hx105_3:=(HB.out.cell (wb w _ hx105_3)).trans hx105_3
          replace hx105_4:=(HB.out.cell (wb w _ hx105_4)).trans hx105_4
          replace hx105_5:=(HB.out.cell (wb w _ hx105_5)).trans hx105_5
          replace p105:=eq_true p105
          replace q105:=eq_true q105
          go_wp2
          repeat (go_quiet (fail);try go_wp2)
          go_roundg k2
          case measure => have:=HJ3.out;have:=HK2.out;omega
          case rel => exact ⟨(wrap64 (x6_2 + 1)),ve,H',⟨by have:=HJ3.out;have:=HK2.out;omega⟩,⟨vb BK101.out⟩,⟨vb BK102.out⟩,⟨v2 HB.out GE101.out GE102.out⟩⟩
        ·rw [if_neg c17] at H
         exact absurd H (by simp)
       ·rw [if_neg c16] at H
        exact absurd H (by simp)
      ·rw [if_neg c15] at H
       have c15b0 : decide (x6_2 < (l0_1.length : Int)) = false:=decide_eq_false c15
       clear c15
       obtain rfl:=Option.some.inj H
       have hnb25:=NB101_102.out
       have hnc25:=NB102_101.out
       have hcz26_0:=bd BK101.out 0
       have hcz26_1:=bd BK101.out 1
       have hfz26_0:=blk_frozen BK101.out 0
       have hfz26_1:=blk_frozen BK101.out 1
       go_wp2
       repeat (go_quiet (fail);try go_wp2)
       go_ret
       exact ⟨vf,v2 HB.out GE101.out GE102.out⟩
end
end Go.Proofs.YtjjfpmapjjemcaaGreat.B
end
