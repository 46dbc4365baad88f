import Derived.Test.YtjjfpmapjjemcaaGreatQ1
import Derived.Test.YtjjfpmapjjemcaaGreatQ2
import Derived.Test.YtjjfpmapjjemcaaGreatQ3
import Derived.Test.YtjjfpmapjjemcaaGreatQ4
import Derived.Test.YtjjfpmapjjemcaaGreatQ5
set_option linter.unusedVariables false
set_option linter.unusedSimpArgs false
section
namespace Go.Proofs.YtjjfpmapjjemcaaGreat.B
open Go.RowKit Go.Proofs.YtjjfpmapjjemcaaGreatW.PrintWords Go.Proofs.YtjjfpmapjjemcaaGreatW.PrintLast Go.Proofs.YtjjfpmapjjemcaaGreatW.PrintMore
attribute [local go_sem] max2_int min2_int max_two min_two max_three min_three max_four min_four
def calxlaw04_Example.f  : Option (List Int × (List (S84))):=some ((([100,50] : List Int)),(([(⟨1,1,0,0,0,30⟩ : S84),(⟨2,1,2,0,0,20⟩ : S84),(⟨11,2,3,0,0,10⟩ : S84),(⟨0,3,4,0,0,0⟩ : S84),(⟨12,2,9,0,0,10⟩ : S84),(⟨0,4,9,0,1,15⟩ : S84),(⟨3,1,10,1,0,5⟩ : S84),(⟨13,2,12,1,0,18⟩ : S84)] : List (S84))))
set_option maxHeartbeats 8000000 in
set_option maxRecDepth 100000 in
theorem calxlaw04_Example.calls  (r1 : List Int) (r2 : List (S84)) (w : World) (h : calxlaw04_Example.f  = some (r1,r2)) :
  Calls Tryz.prog 96 #[] w fun e w' => ∃ v0_ v1_ : Value,e = .returned (.agg #[v0_,v1_]) ∧ Kd.R (Kd.int .i64) 3 w' w.heap.size (fun _ => True) v0_ r1 ∧ Kd.R k84 84 w' w.heap.size (fun _ => True) v1_ r2 ∧ Below w.heap.size w w':=by
 have hu32:=Tryz.underlying32
 have hu84:=Tryz.underlying84
 have HB:=am (Below.refl w.heap.size w)
 have H : (some ((([100,50] : List Int)),(([(⟨1,1,0,0,0,30⟩ : S84),(⟨2,1,2,0,0,20⟩ : S84),(⟨11,2,3,0,0,10⟩ : S84),(⟨0,3,4,0,0,0⟩ : S84),(⟨12,2,9,0,0,10⟩ : S84),(⟨0,4,9,0,1,15⟩ : S84),(⟨3,1,10,1,0,5⟩ : S84),(⟨13,2,12,1,0,18⟩ : S84)] : List (S84))))) = some (r1,r2):=h
 clear h
 obtain ⟨y102,hy102⟩ : ∃ y_ : List Int,y_ = (([100,50] : List Int)):=⟨_,rfl⟩
 replace H : (some (y102,(([(⟨1,1,0,0,0,30⟩ : S84),(⟨2,1,2,0,0,20⟩ : S84),(⟨11,2,3,0,0,10⟩ : S84),(⟨0,3,4,0,0,0⟩ : S84),(⟨12,2,9,0,0,10⟩ : S84),(⟨0,4,9,0,1,15⟩ : S84),(⟨3,1,10,1,0,5⟩ : S84),(⟨13,2,12,1,0,18⟩ : S84)] : List (S84))))) = some (r1,r2):=by first|(rw [hy102];with_reducible exact H)|(have H2_:=(Option.bind_some _ _).symm.trans H;rw [hy102];with_reducible exact H2_)|(have H2_:=(Option.bind_some _ _).symm.trans H;with_reducible exact H2_)|with_reducible exact H|(rw [hy102];exact H)|exact H
 have Ny102:=am hy102
 clear hy102
 obtain ⟨y105,hy105⟩ : ∃ y_ : List (S84),y_ = (([(⟨1,1,0,0,0,30⟩ : S84),(⟨2,1,2,0,0,20⟩ : S84),(⟨11,2,3,0,0,10⟩ : S84),(⟨0,3,4,0,0,0⟩ : S84),(⟨12,2,9,0,0,10⟩ : S84),(⟨0,4,9,0,1,15⟩ : S84),(⟨3,1,10,1,0,5⟩ : S84),(⟨13,2,12,1,0,18⟩ : S84)] : List (S84))):=⟨_,rfl⟩
 replace H : (some (y102,y105)) = some (r1,r2):=by first|(rw [hy105];with_reducible exact H)|(have H2_:=(Option.bind_some _ _).symm.trans H;rw [hy105];with_reducible exact H2_)|(have H2_:=(Option.bind_some _ _).symm.trans H;with_reducible exact H2_)|with_reducible exact H|(rw [hy105];exact H)|exact H
 have Ny105:=am hy105
 clear hy105
 simp only [Option.some.injEq,Prod.mk.injEq] at H
 obtain ⟨rfl,rfl⟩:=H
 go_enter Tryz.func96,Tryz.ntmps96
 go_wp2_with (first|(refine bE 0 #[.slice none 0 0,.slice none 0 0] 32 ?_;intro gb101 hg w1 hbox hb;have BK101:=am (hbox);have GW101:=am (lg hg (below_size (v0 HB.out)) : w.heap.size ≤ gb101);have GE101:=GW101;replace HB:=am (below_step (v0 HB.out) hb);clear hb hbox hg)|((with_reducible refine gate_dst (N:=1) rfl ?_);refine Kd.R_lit (Kd.int .i64) _ 3 ?hg (N:=1) ?hd (xs:=([100,50] : List Int)) (inner:=[.int .i64 100,.int .i64 50]) (ok:=fun _ => True) (okp:=fun _ => True) ?hr ?hp (fun _ hk => hk) trivial (Below.refl _ _) (Nat.le_refl _) (by simp) ?_;(case hd => rfl);(case hg => rfl);(case hr => first|(go_simp;done)|(go_simp;rfl));(case hp => exact (Reps.one (show Kd.M (Kd.int .i64) _ _ _ 100 [.int .i64 100] from rfl) (Reps.one (show Kd.M (Kd.int .i64) _ _ _ 50 [.int .i64 50] from rfl) (Reps.none _ _))));intro v103 w2 ho3 hb hg_ hnew_;clear hg_ hnew_;(first|rw [← Ny102.out] at ho3|(simp only [Int.reduceToNat] at ho3;rw [← Ny102.out] at ho3));have HO104:=am (Kd.R_lower ho3 (below_size (v1 HB.out GE101.out)));replace BK101:=am (blk_below (vb BK101.out) hb);replace HB:=am (below_step (v1 HB.out GE101.out) hb);clear hb ho3)|((with_reducible refine gate_dst (N:=10) rfl ?_);refine Kd.R_lit k84 _ 84 ?hg (N:=10) ?hd (xs:=([(⟨1,1,0,0,0,30⟩ : S84),(⟨2,1,2,0,0,20⟩ : S84),(⟨11,2,3,0,0,10⟩ : S84),(⟨0,3,4,0,0,0⟩ : S84),(⟨12,2,9,0,0,10⟩ : S84),(⟨0,4,9,0,1,15⟩ : S84),(⟨3,1,10,1,0,5⟩ : S84),(⟨13,2,12,1,0,18⟩ : S84)] : List (S84))) (inner:=[.int .i64 1,.int .i64 1,.int .i64 0,.int .i64 0,.int .i64 0,.int .i64 30,.int .i64 2,.int .i64 1,.int .i64 2,.int .i64 0,.int .i64 0,.int .i64 20,.int .i64 11,.int .i64 2,.int .i64 3,.int .i64 0,.int .i64 0,.int .i64 10,.int .i64 0,.int .i64 3,.int .i64 4,.int .i64 0,.int .i64 0,.int .i64 0,.int .i64 12,.int .i64 2,.int .i64 9,.int .i64 0,.int .i64 0,.int .i64 10,.int .i64 0,.int .i64 4,.int .i64 9,.int .i64 0,.int .i64 1,.int .i64 15,.int .i64 3,.int .i64 1,.int .i64 10,.int .i64 1,.int .i64 0,.int .i64 5,.int .i64 13,.int .i64 2,.int .i64 12,.int .i64 1,.int .i64 0,.int .i64 18]) (ok:=fun _ => True) (okp:=fun _ => True) ?hr ?hp (fun _ hk => hk) trivial (Below.refl _ _) (Nat.le_refl _) (by simp) ?_;(case hd => rfl);(case hg => rfl);(case hr => first|(go_simp;done)|(go_simp;rfl));(case hp => exact (Reps.c6 (show Kd.M k84 _ _ _ (⟨1,1,0,0,0,30⟩ : S84) [.int .i64 1,.int .i64 1,.int .i64 0,.int .i64 0,.int .i64 0,.int .i64 30] from (k84_mkM _ _ _ (⟨1,1,0,0,0,30⟩ : S84) )) (Reps.c6 (show Kd.M k84 _ _ _ (⟨2,1,2,0,0,20⟩ : S84) [.int .i64 2,.int .i64 1,.int .i64 2,.int .i64 0,.int .i64 0,.int .i64 20] from (k84_mkM _ _ _ (⟨2,1,2,0,0,20⟩ : S84) )) (Reps.c6 (show Kd.M k84 _ _ _ (⟨11,2,3,0,0,10⟩ : S84) [.int .i64 11,.int .i64 2,.int .i64 3,.int .i64 0,.int .i64 0,.int .i64 10] from (k84_mkM _ _ _ (⟨11,2,3,0,0,10⟩ : S84) )) (Reps.c6 (show Kd.M k84 _ _ _ (⟨0,3,4,0,0,0⟩ : S84) [.int .i64 0,.int .i64 3,.int .i64 4,.int .i64 0,.int .i64 0,.int .i64 0] from (k84_mkM _ _ _ (⟨0,3,4,0,0,0⟩ : S84) )) (Reps.c6 (show Kd.M k84 _ _ _ (⟨12,2,9,0,0,10⟩ : S84) [.int .i64 12,.int .i64 2,.int .i64 9,.int .i64 0,.int .i64 0,.int .i64 10] from (k84_mkM _ _ _ (⟨12,2,9,0,0,10⟩ : S84) )) (Reps.c6 (show Kd.M k84 _ _ _ (⟨0,4,9,0,1,15⟩ : S84) [.int .i64 0,.int .i64 4,.int .i64 9,.int .i64 0,.int .i64 1,.int .i64 15] from (k84_mkM _ _ _ (⟨0,4,9,0,1,15⟩ : S84) )) (Reps.c6 (show Kd.M k84 _ _ _ (⟨3,1,10,1,0,5⟩ : S84) [.int .i64 3,.int .i64 1,.int .i64 10,.int .i64 1,.int .i64 0,.int .i64 5] from (k84_mkM _ _ _ (⟨3,1,10,1,0,5⟩ : S84) )) (Reps.c6 (show Kd.M k84 _ _ _ (⟨13,2,12,1,0,18⟩ : S84) [.int .i64 13,.int .i64 2,.int .i64 12,.int .i64 1,.int .i64 0,.int .i64 18] from (k84_mkM _ _ _ (⟨13,2,12,1,0,18⟩ : S84) )) (Reps.none _ _))))))))));intro v106 w4 ho5 hb hg_ hnew_;clear hg_ hnew_;(first|rw [← Ny105.out] at ho5|(simp only [Int.reduceToNat] at ho5;rw [← Ny105.out] at ho5));have HO107:=am (Kd.R_lower ho5 (below_size (v1 HB.out GE101.out)));replace HO104:=am (Kd.R_below (by (with_reducible repeat (first|apply Kd.R_alloc|apply Kd.R_drewN|apply Kd.R_drew));exact HO104.out) hb);replace BK101:=am (blk_below (vb BK101.out) hb);replace HB:=am (below_step (v1 HB.out GE101.out) hb);clear hb ho5;obtain ⟨Ao6,co6,eo6⟩:=Kd.R_slice HO107.out;subst eo6;obtain ⟨Ao7,co7,eo7⟩:=Kd.R_slice HO104.out;subst eo7;have hcz8_0:=bd BK101.out 0;have hcz8_1:=bd BK101.out 1;have hfz8_0:=blk_frozen BK101.out 0;have hfz8_1:=blk_frozen BK101.out 1))
 refine bodyPost_ret (results_cell_row rfl _ _ gb101 32 #[.slice Ao7 y102.length co7,.slice Ao6 y105.length co6] (0,0) _ rfl (by (with_reducible repeat (first|refine blk_drewN ?_ _|refine blk_drew ?_|refine blk_alloc ?_ _));refine blk_put (cs:=#[.slice Ao7 y102.length co7,.slice none 0 0]) ?_ 1 _ rfl;(with_reducible repeat (first|refine blk_drewN ?_ _|refine blk_drew ?_|refine blk_alloc ?_ _));refine blk_put (cs:=#[.slice none 0 0,.slice none 0 0]) ?_ 0 _ rfl;(with_reducible repeat (first|refine blk_drewN ?_ _|refine blk_drew ?_|refine blk_alloc ?_ _));exact BK101.out) Tryz.underlying32 rfl kr) rfl ?_
 exact ⟨_,_,vf,by (with_reducible repeat (first|apply Kd.R_alloc|apply Kd.R_drewN|apply Kd.R_drew));exact Kd.R_mono (Kd.R_far (p:=⟨gb101,1,none⟩) (Kd.R_far (p:=⟨gb101,0,none⟩) (Kd.R_types HO104.out BK101.out (by decide)) (fun _ hk => hk.2) (.slice Ao7 y102.length co7)) (fun _ hk => hk.2) (.slice Ao6 y105.length co6)) (fun _ hk => trivial),by (with_reducible repeat (first|apply Kd.R_alloc|apply Kd.R_drewN|apply Kd.R_drew));exact Kd.R_mono (Kd.R_far (p:=⟨gb101,1,none⟩) (Kd.R_far (p:=⟨gb101,0,none⟩) (Kd.R_types HO107.out BK101.out (by decide)) (fun _ hk => hk.2) (.slice Ao7 y102.length co7)) (fun _ hk => hk.2) (.slice Ao6 y105.length co6)) (fun _ hk => trivial),v1 HB.out GE101.out⟩
def calxlaw04_frac.f (a0 : Int) (a1 : Int) : Option (Int × Int):=some (a0,a1)
set_option maxHeartbeats 8000000 in
set_option maxRecDepth 100000 in
theorem calxlaw04_frac.calls (a0 : Int) (a1 : Int) (r1 : Int) (r2 : Int) (w : World) (h : calxlaw04_frac.f a0 a1 = some (r1,r2)) :
  Calls Tryz.prog 52 #[.int .i64 a0,.int .i64 a1] w fun e w' => e = .returned (.agg #[.int .i64 r1,.int .i64 r2]) ∧ Below w.heap.size w w':=by
 have hu43:=Tryz.underlying43
 have HB:=am (Below.refl w.heap.size w)
 have H : (some (a0,a1)) = some (r1,r2):=h
 clear h
 simp only [Option.some.injEq,Prod.mk.injEq] at H
 obtain ⟨rfl,rfl⟩:=H
 go_enter Tryz.func52,Tryz.ntmps52
 go_wp2_with (first|(refine bE 4 #[.int .i64 0,.int .i64 0] 43 ?_;intro gb101 hg w3 hbox hb;have BK101:=am (hbox);have GW101:=am (lg hg (below_size (v0 HB.out)) : w.heap.size ≤ gb101);have GE101:=GW101;replace HB:=am (below_step (v0 HB.out) hb);clear hb hbox hg;have hcz4_0:=bd BK101.out 0;have hcz4_1:=bd BK101.out 1;have hfz4_0:=blk_frozen BK101.out 0;have hfz4_1:=blk_frozen BK101.out 1))
 refine bodyPost_ret (results_cell_row rfl _ _ gb101 43 #[.int .i64 a0,.int .i64 a1] (0,0) _ rfl (by (with_reducible repeat (first|refine blk_drewN ?_ _|refine blk_drew ?_|refine blk_alloc ?_ _));refine blk_put (cs:=#[.int .i64 a0,.int .i64 0]) ?_ 1 _ rfl;(with_reducible repeat (first|refine blk_drewN ?_ _|refine blk_drew ?_|refine blk_alloc ?_ _));refine blk_put (cs:=#[.int .i64 0,.int .i64 0]) ?_ 0 _ rfl;(with_reducible repeat (first|refine blk_drewN ?_ _|refine blk_drew ?_|refine blk_alloc ?_ _));exact BK101.out) Tryz.underlying43 rfl kr) rfl ?_
 exact ⟨vf,v1 HB.out GE101.out⟩
section
attribute [local go_sem high] eqA89
def calxref04_SameParts.l0 : Nat → List (S89) → List (S89) → Int → Option (Bool)
|0,_,_,_ => none
|k + 1,x0,x1,x5 => if x5 < (x0.length : Int) then (if 0 ≤ x5 then (if x5 < (x1.length : Int) then (if (!(((rd_T89 x0 x5).f0) == ((rd_T89 x1 x5).f0)) || ((!(((rd_T89 x0 x5).f1.f0) == ((rd_T89 x1 x5).f1.f0)) || (!(((rd_T89 x0 x5).f1.f1) == ((rd_T89 x1 x5).f1.f1)))))) = true then (some false) else (calxref04_SameParts.l0 k x0 x1 (wrap64 (x5 + 1)))) else (none)) else (none)) else (some true)
def calxref04_SameParts.f (k : Nat) (l0 : List (S89)) (l1 : List (S89)) : Option (Bool):=if (l0.length : Int) = (l1.length : Int) then (calxref04_SameParts.l0 k l0 l1 0) else (some false)
set_option maxHeartbeats 8000000 in
set_option maxRecDepth 100000 in
theorem calxref04_SameParts.calls (k : Nat) (A0 : Option Addr) (c0 : Nat) (l0 : List (S89)) (A1 : Option Addr) (c1 : Nat) (l1 : List (S89)) (r : Bool) (w : World) (hr0 : Kd.C k89 w A0 l0.length l0) (hc0 : l0.length ≤ c0) (hr1 : Kd.C k89 w A1 l1.length l1) (hc1 : l1.length ≤ c1) (h : calxref04_SameParts.f k l0 l1 = some r) :
  Calls Tryz.prog 38 #[.slice A0 l0.length c0,.slice A1 l1.length c1] w fun e w' => e = .returned (.bool r) ∧ Drawn0 w w':=by
 have hu89:=Tryz.underlying89
 have HR0:=am hr0
 have HC0:=am hc0
 clear hr0 hc0
 have HR1:=am hr1
 have HC1:=am hc1
 clear hr1 hc1
 have H : (if (l0.length : Int) = (l1.length : Int) then (calxref04_SameParts.l0 k l0 l1 0) else (some false)) = some r:=h
 clear h
 by_cases c3 : (l0.length : Int) = (l1.length : Int)
 ·rw [if_pos c3] at H
  have c3b0 : ((l0.length : Int) == (l1.length : Int)) = true:=beq_iff_eq.mpr c3
  have c3b1 : ((l0.length : Int) != (l1.length : Int)) = false:=bne_eq_false_iff_eq.mpr c3
  have c3b2 : (l0.length == l1.length) = true:=by first|simpa using c3|(simp at c3 ⊢;omega)
  clear c3
  have H':=am H
  clear H
  go_enter Tryz.func38,Tryz.ntmps38
  go_wp2
  repeat (go_quiet (fail);try go_wp2)
  go_loopg [5] k (fun kq v5 w' => ∃ (x5_1 : Int),v5 = .int .i64 x5_1 ∧ Aside0 (calxref04_SameParts.l0 kq l0 l1 x5_1 = some r) ∧ Aside0 (kq ≤ k) ∧ Drawn0 w w')
  case atStart => exact ⟨(0),ve,H',⟨Nat.le_refl _⟩,by repeat (first|exact Drawn0.refl _|apply Drawn0.step)⟩
  case round =>
   clear H'
   try clear c1
   try clear p2
   try clear c3
   try clear c3b0
   try clear c3b1
   try clear c3b2
   obtain ⟨x5_1,rfl,HA,HK1,⟨m1,rfl⟩⟩:=hrel
   cases gk with
  |zero => exact absurd HA.out (by simp [calxref04_SameParts.l0])
  |succ k1 =>
    have H:=HA.out
    clear HA
    simp only [calxref04_SameParts.l0] at H
    by_cases c4 : x5_1 < (l0.length : Int)
    ·rw [if_pos c4] at H
     have c4b0 : decide (x5_1 < (l0.length : Int)) = true:=decide_eq_true c4
     clear c4
     by_cases c5 : 0 ≤ x5_1
     ·rw [if_pos c5] at H
      have c5b0 : decide (0 ≤ x5_1) = true:=decide_eq_true c5
      clear c5
      by_cases c6 : x5_1 < (l1.length : Int)
      ·rw [if_pos c6] at H
       have c6b0 : decide (x5_1 < (l1.length : Int)) = true:=decide_eq_true c6
       clear c6
       by_cases c7 : (!(((rd_T89 l0 x5_1).f0) == ((rd_T89 l1 x5_1).f0)) || ((!(((rd_T89 l0 x5_1).f1.f0) == ((rd_T89 l1 x5_1).f1.f0)) || (!(((rd_T89 l0 x5_1).f1.f1) == ((rd_T89 l1 x5_1).f1.f1)))))) = true
       ·rw [if_pos c7] at H
        have c7b0 : (!(((rd_T89 l0 x5_1).f0) == ((rd_T89 l1 x5_1).f0)) || ((!(((rd_T89 l0 x5_1).f1.f0) == ((rd_T89 l1 x5_1).f1.f0)) || (!(((rd_T89 l0 x5_1).f1.f1) == ((rd_T89 l1 x5_1).f1.f1)))))) = true:=c7
        clear c7
        obtain rfl:=Option.some.inj H
        have p101 : 0 ≤ (x5_1 : Int):=of_decide_eq_true va
        have q101 : x5_1 < (l0.length : Int):=of_decide_eq_true va
        obtain ⟨ad101,e101,hx101_0,hx101_1,hx101_2⟩:=at_T89 HR0.out x5_1 p101 q101
        cases e101
        replace p101:=eq_true p101
        replace q101:=eq_true q101
        have p102 : 0 ≤ (x5_1 : Int):=of_decide_eq_true va
        have q102 : x5_1 < (l1.length : Int):=of_decide_eq_true va
        obtain ⟨ad102,e102,hx102_0,hx102_1,hx102_2⟩:=at_T89 HR1.out x5_1 p102 q102
        cases e102
        replace p102:=eq_true p102
        replace q102:=eq_true q102
        go_wp2
        repeat (go_quiet (fail);try go_wp2)
        go_ret
        exact ⟨ve,by repeat (first|exact Drawn0.refl _|apply Drawn0.step)⟩
       ·rw [if_neg c7] at H
        have c7b0 : (!(((rd_T89 l0 x5_1).f0) == ((rd_T89 l1 x5_1).f0)) || ((!(((rd_T89 l0 x5_1).f1.f0) == ((rd_T89 l1 x5_1).f1.f0)) || (!(((rd_T89 l0 x5_1).f1.f1) == ((rd_T89 l1 x5_1).f1.f1)))))) = false:=by simpa using c7
        clear c7
        have H':=am H
        clear H
        have p101 : 0 ≤ (x5_1 : Int):=of_decide_eq_true va
        have q101 : x5_1 < (l0.length : Int):=of_decide_eq_true va
        obtain ⟨ad101,e101,hx101_0,hx101_1,hx101_2⟩:=at_T89 HR0.out x5_1 p101 q101
        cases e101
        replace p101:=eq_true p101
        replace q101:=eq_true q101
        have p102 : 0 ≤ (x5_1 : Int):=of_decide_eq_true va
        have q102 : x5_1 < (l1.length : Int):=of_decide_eq_true va
        obtain ⟨ad102,e102,hx102_0,hx102_1,hx102_2⟩:=at_T89 HR1.out x5_1 p102 q102
        cases e102
        replace p102:=eq_true p102
        replace q102:=eq_true q102
        go_wp2
        repeat (go_quiet (fail);try go_wp2)
        go_roundg k1
        case measure => have:=HK1.out;omega
        case rel => exact ⟨(wrap64 (x5_1 + 1)),ve,H',⟨by have:=HK1.out;omega⟩,by repeat (first|exact Drawn0.refl _|apply Drawn0.step)⟩
      ·rw [if_neg c6] at H
       exact absurd H (by simp)
     ·rw [if_neg c5] at H
      exact absurd H (by simp)
    ·rw [if_neg c4] at H
     have c4b0 : decide (x5_1 < (l0.length : Int)) = false:=decide_eq_false c4
     clear c4
     obtain rfl:=Option.some.inj H
     go_wp2
     repeat (go_quiet (fail);try go_wp2)
     go_ret
     exact ⟨ve,by repeat (first|exact Drawn0.refl _|apply Drawn0.step)⟩
 ·rw [if_neg c3] at H
  have c3b0 : ((l0.length : Int) == (l1.length : Int)) = false:=beq_eq_false_iff_ne.mpr c3
  have c3b1 : ((l0.length : Int) != (l1.length : Int)) = true:=bne_iff_ne.mpr c3
  have c3b2 : (l0.length == l1.length) = false:=by first|simpa using c3|(simp at c3 ⊢;omega)
  obtain rfl:=Option.some.inj H
  go_enter Tryz.func38,Tryz.ntmps38
  go_wp2
  repeat (go_quiet (fail);try go_wp2)
  go_ret
  exact ⟨ve,by repeat (first|exact Drawn0.refl _|apply Drawn0.step)⟩
end
theorem eqA139 (d : Nat) (w : World) (x0 y0 : Int) (x1 y1 : Int) (x2 y2 : Int) (x3 y3 : Int) (x4 y4 : Int) :
  (Op.equalIn (d + 3) 139 (.agg #[.int .i64 x0,.int .i64 x1,.int .i64 x2,.int .i64 x3,.int .i64 x4]) (.agg #[.int .i64 y0,.int .i64 y1,.int .i64 y2,.int .i64 y3,.int .i64 y4])).run Tryz.prog w = .ok (x0 == y0 && ((x1 == y1 && (x2 == y2)) && ((x3 == y3 && (x4 == y4))))) w:=by
 refine eqA_of Tryz.underlying139 kr ?_
 refine eqf_cons (by rfl) (by go_simp;rfl) (by go_simp;rfl) (by go_simp) ?_
 refine eqf_cons (by rfl) (by go_simp) (by go_simp) (eqA43 (d + 0) w _ _ _ _) ?_
 exact eqf_last (by rfl) (by go_simp) (by go_simp) (eqA43 (d + 0) w _ _ _ _)
section
attribute [local go_sem high] eqA139
def calxref04_SameBlames.l0 : Nat → List (S139) → List (S139) → Int → Option (Bool)
|0,_,_,_ => none
|k + 1,x0,x1,x5 => if x5 < (x0.length : Int) then (if 0 ≤ x5 then (if x5 < (x1.length : Int) then (if (!(((rd_T139 x0 x5).f0) == ((rd_T139 x1 x5).f0)) || ((!(((rd_T139 x0 x5).f1.f0) == ((rd_T139 x1 x5).f1.f0)) || (!(((rd_T139 x0 x5).f1.f1) == ((rd_T139 x1 x5).f1.f1)))) || ((!(((rd_T139 x0 x5).f2.f0) == ((rd_T139 x1 x5).f2.f0)) || (!(((rd_T139 x0 x5).f2.f1) == ((rd_T139 x1 x5).f2.f1))))))) = true then (some false) else (calxref04_SameBlames.l0 k x0 x1 (wrap64 (x5 + 1)))) else (none)) else (none)) else (some true)
def calxref04_SameBlames.f (k : Nat) (l0 : List (S139)) (l1 : List (S139)) : Option (Bool):=if (l0.length : Int) = (l1.length : Int) then (calxref04_SameBlames.l0 k l0 l1 0) else (some false)
set_option maxHeartbeats 8000000 in
set_option maxRecDepth 100000 in
theorem calxref04_SameBlames.calls (k : Nat) (A0 : Option Addr) (c0 : Nat) (l0 : List (S139)) (A1 : Option Addr) (c1 : Nat) (l1 : List (S139)) (r : Bool) (w : World) (hr0 : Kd.C k139 w A0 l0.length l0) (hc0 : l0.length ≤ c0) (hr1 : Kd.C k139 w A1 l1.length l1) (hc1 : l1.length ≤ c1) (h : calxref04_SameBlames.f k l0 l1 = some r) :
  Calls Tryz.prog 60 #[.slice A0 l0.length c0,.slice A1 l1.length c1] w fun e w' => e = .returned (.bool r) ∧ Drawn0 w w':=by
 have hu139:=Tryz.underlying139
 have HR0:=am hr0
 have HC0:=am hc0
 clear hr0 hc0
 have HR1:=am hr1
 have HC1:=am hc1
 clear hr1 hc1
 have H : (if (l0.length : Int) = (l1.length : Int) then (calxref04_SameBlames.l0 k l0 l1 0) else (some false)) = some r:=h
 clear h
 by_cases c3 : (l0.length : Int) = (l1.length : Int)
 ·rw [if_pos c3] at H
  have c3b0 : ((l0.length : Int) == (l1.length : Int)) = true:=beq_iff_eq.mpr c3
  have c3b1 : ((l0.length : Int) != (l1.length : Int)) = false:=bne_eq_false_iff_eq.mpr c3
  have c3b2 : (l0.length == l1.length) = true:=by first|simpa using c3|(simp at c3 ⊢;omega)
  clear c3
  have H':=am H
  clear H
  go_enter Tryz.func60,Tryz.ntmps60
  go_wp2
  repeat (go_quiet (fail);try go_wp2)
  go_loopg [5] k (fun kq v5 w' => ∃ (x5_1 : Int),v5 = .int .i64 x5_1 ∧ Aside0 (calxref04_SameBlames.l0 kq l0 l1 x5_1 = some r) ∧ Aside0 (kq ≤ k) ∧ Drawn0 w w')
  case atStart => exact ⟨(0),ve,H',⟨Nat.le_refl _⟩,by repeat (first|exact Drawn0.refl _|apply Drawn0.step)⟩
  case round =>
   clear H'
   try clear c1
   try clear p2
   try clear c3
   try clear c3b0
   try clear c3b1
   try clear c3b2
   obtain ⟨x5_1,rfl,HA,HK1,⟨m1,rfl⟩⟩:=hrel
   cases gk with
  |zero => exact absurd HA.out (by simp [calxref04_SameBlames.l0])
  |succ k1 =>
    have H:=HA.out
    clear HA
    simp only [calxref04_SameBlames.l0] at H
    by_cases c4 : x5_1 < (l0.length : Int)
    ·rw [if_pos c4] at H
     have c4b0 : decide (x5_1 < (l0.length : Int)) = true:=decide_eq_true c4
     clear c4
     by_cases c5 : 0 ≤ x5_1
     ·rw [if_pos c5] at H
      have c5b0 : decide (0 ≤ x5_1) = true:=decide_eq_true c5
      clear c5
      by_cases c6 : x5_1 < (l1.length : Int)
      ·rw [if_pos c6] at H
       have c6b0 : decide (x5_1 < (l1.length : Int)) = true:=decide_eq_true c6
       clear c6
       by_cases c7 : (!(((rd_T139 l0 x5_1).f0) == ((rd_T139 l1 x5_1).f0)) || ((!(((rd_T139 l0 x5_1).f1.f0) == ((rd_T139 l1 x5_1).f1.f0)) || (!(((rd_T139 l0 x5_1).f1.f1) == ((rd_T139 l1 x5_1).f1.f1)))) || ((!(((rd_T139 l0 x5_1).f2.f0) == ((rd_T139 l1 x5_1).f2.f0)) || (!(((rd_T139 l0 x5_1).f2.f1) == ((rd_T139 l1 x5_1).f2.f1))))))) = true
       ·rw [if_pos c7] at H
        have c7b0 : (!(((rd_T139 l0 x5_1).f0) == ((rd_T139 l1 x5_1).f0)) || ((!(((rd_T139 l0 x5_1).f1.f0) == ((rd_T139 l1 x5_1).f1.f0)) || (!(((rd_T139 l0 x5_1).f1.f1) == ((rd_T139 l1 x5_1).f1.f1)))) || ((!(((rd_T139 l0 x5_1).f2.f0) == ((rd_T139 l1 x5_1).f2.f0)) || (!(((rd_T139 l0 x5_1).f2.f1) == ((rd_T139 l1 x5_1).f2.f1))))))) = true:=c7
        clear c7
        obtain rfl:=Option.some.inj H
        have p101 : 0 ≤ (x5_1 : Int):=of_decide_eq_true va
        have q101 : x5_1 < (l0.length : Int):=of_decide_eq_true va
        obtain ⟨ad101,e101,hx101_0,hx101_1,hx101_2,hx101_3,hx101_4⟩:=at_T139 HR0.out x5_1 p101 q101
        cases e101
        replace p101:=eq_true p101
        replace q101:=eq_true q101
        have p102 : 0 ≤ (x5_1 : Int):=of_decide_eq_true va
        have q102 : x5_1 < (l1.length : Int):=of_decide_eq_true va
        obtain ⟨ad102,e102,hx102_0,hx102_1,hx102_2,hx102_3,hx102_4⟩:=at_T139 HR1.out x5_1 p102 q102
        cases e102
        replace p102:=eq_true p102
        replace q102:=eq_true q102
        go_wp2
        repeat (go_quiet (fail);try go_wp2)
        go_ret
        exact ⟨ve,by repeat (first|exact Drawn0.refl _|apply Drawn0.step)⟩
       ·rw [if_neg c7] at H
        have c7b0 : (!(((rd_T139 l0 x5_1).f0) == ((rd_T139 l1 x5_1).f0)) || ((!(((rd_T139 l0 x5_1).f1.f0) == ((rd_T139 l1 x5_1).f1.f0)) || (!(((rd_T139 l0 x5_1).f1.f1) == ((rd_T139 l1 x5_1).f1.f1)))) || ((!(((rd_T139 l0 x5_1).f2.f0) == ((rd_T139 l1 x5_1).f2.f0)) || (!(((rd_T139 l0 x5_1).f2.f1) == ((rd_T139 l1 x5_1).f2.f1))))))) = false:=by simpa using c7
        clear c7
        have H':=am H
        clear H
        have p101 : 0 ≤ (x5_1 : Int):=of_decide_eq_true va
        have q101 : x5_1 < (l0.length : Int):=of_decide_eq_true va
        obtain ⟨ad101,e101,hx101_0,hx101_1,hx101_2,hx101_3,hx101_4⟩:=at_T139 HR0.out x5_1 p101 q101
        cases e101
        replace p101:=eq_true p101
        replace q101:=eq_true q101
        have p102 : 0 ≤ (x5_1 : Int):=of_decide_eq_true va
        have q102 : x5_1 < (l1.length : Int):=of_decide_eq_true va
        obtain ⟨ad102,e102,hx102_0,hx102_1,hx102_2,hx102_3,hx102_4⟩:=at_T139 HR1.out x5_1 p102 q102
        cases e102
        replace p102:=eq_true p102
        replace q102:=eq_true q102
        go_wp2
        repeat (go_quiet (fail);try go_wp2)
        go_roundg k1
        case measure => have:=HK1.out;omega
        case rel => exact ⟨(wrap64 (x5_1 + 1)),ve,H',⟨by have:=HK1.out;omega⟩,by repeat (first|exact Drawn0.refl _|apply Drawn0.step)⟩
      ·rw [if_neg c6] at H
       exact absurd H (by simp)
     ·rw [if_neg c5] at H
      exact absurd H (by simp)
    ·rw [if_neg c4] at H
     have c4b0 : decide (x5_1 < (l0.length : Int)) = false:=decide_eq_false c4
     clear c4
     obtain rfl:=Option.some.inj H
     go_wp2
     repeat (go_quiet (fail);try go_wp2)
     go_ret
     exact ⟨ve,by repeat (first|exact Drawn0.refl _|apply Drawn0.step)⟩
 ·rw [if_neg c3] at H
  have c3b0 : ((l0.length : Int) == (l1.length : Int)) = false:=beq_eq_false_iff_ne.mpr c3
  have c3b1 : ((l0.length : Int) != (l1.length : Int)) = true:=bne_iff_ne.mpr c3
  have c3b2 : (l0.length == l1.length) = false:=by first|simpa using c3|(simp at c3 ⊢;omega)
  obtain rfl:=Option.some.inj H
  go_enter Tryz.func60,Tryz.ntmps60
  go_wp2
  repeat (go_quiet (fail);try go_wp2)
  go_ret
  exact ⟨ve,by repeat (first|exact Drawn0.refl _|apply Drawn0.step)⟩
end
def exR : List Int:=[100,50]
def exS : List S84:=[⟨1,1,0,0,0,30⟩,⟨2,1,2,0,0,20⟩,⟨11,2,3,0,0,10⟩,⟨0,3,4,0,0,0⟩,⟨12,2,9,0,0,10⟩,⟨0,4,9,0,1,15⟩,⟨3,1,10,1,0,5⟩,⟨13,2,12,1,0,18⟩]
def exY : Yd:=match playedP exR exS exS.length with
|.ok Y => Y
|.error _ => emptyP []
def exB : S167:=⟨13,7,18,[⟨1,⟨15,2⟩⟩,⟨2,⟨15,2⟩⟩,⟨3,⟨3,1⟩⟩]⟩
def exG : List S113:=[⟨1,⟨0,100⟩⟩,⟨2,⟨60,60⟩⟩]
def exP : List S137:=[⟨12,⟨100,120⟩⟩,⟨13,⟨50,90⟩⟩]
theorem ex_ok : playedP exR exS exS.length = .ok exY:=by kernel_rfl
theorem ex_barrow : exY.barrows.find? (isId 13) = some exB:=by kernel_rfl
theorem ex_share : shareE (playedP exR exS exS.length) 13 3 = (⟨1,6⟩,0):=by kernel_rfl
theorem ex_ages : agesE exS (playedP exR exS exS.length) 13 = ((2,12),0):=by kernel_rfl
theorem ex_ripe : ripeE exS (playedP exR exS exS.length) 12 8 = (⟨1,2⟩,0):=by kernel_rfl
theorem ex_fate : fateE (playedP exR exS exS.length) 2 = ([⟨12,⟨5,1⟩⟩,⟨13,⟨15,2⟩⟩],⟨15,2⟩,⟨0,1⟩,0):=by kernel_rfl
theorem ex_worth : worthE (playedP exR exS exS.length) 13 exG = (⟨25,1⟩,⟨700,3⟩,0):=by kernel_rfl
theorem ex_probes : probesE exY exP = 0:=by kernel_rfl
theorem ex_culp : culpP exY exP exY.pours = [⟨1,⟨200,1⟩,⟨216,1⟩⟩,⟨2,⟨200,1⟩,⟨216,1⟩⟩]:=by kernel_rfl
def exZ (step : Int) : Yd:=match swapR exR exS step with
|.ok Y => Y
|.error _ => emptyP []
theorem ex_in5 : inP 5 1 ((exS.length : Int) - 1) = true:=by kernel_rfl
theorem ex_in1 : inP 1 1 ((exS.length : Int) - 1) = true:=by kernel_rfl
theorem ex_swap5 : swapR exR exS 5 = .ok (exZ 5):=by kernel_rfl
theorem ex_swap1 : swapR exR exS 1 = .ok (exZ 1):=by kernel_rfl
theorem ex_alike5 : alikeP exY (exZ 5) = true:=by kernel_rfl
theorem ex_alike1 : alikeP exY (exZ 1) = false:=by kernel_rfl
theorem ex_frac (n d : Int) (w : World) : Calls Tryz.prog 52 #[.int .i64 n,.int .i64 d] w fun e w' => e = .returned (.agg #[.int .i64 n,.int .i64 d]) ∧ Below w.heap.size w w':=calxlaw04_frac.calls n d n d w rfl
section
def R27_13.T : Bool × List (List Nat × List Nat):=(true,[([],[]),([],[]),([1],[1]),([1],[]),([3],[3]),([3],[]),([5],[5]),([2,4,6],[2,4,6]),([0,7,5],[0,7]),([8,8],[8]),([9],[9]),([9,9],[9]),([10,11,9],[9,10,11]),([9,12],[9,12]),([13,11],[13]),([14],[14]),([14],[14]),([15,16,14],[14,15,16]),([14,17],[14,17]),([18,14],[18]),([19],[19]),([19,19],[19]),([20,21,19],[19,20,21]),([19,22],[19,22]),([23,21,0,1,2,3,4,5,6,7,8,9,10,11,12,13,14,15,16,17,18,19,20,21,22,23],[23])])
def R27_13.B : List Nat:=[0,0,2,2,10,10,42,126,255,511,1023,1023,4095,8191,16383,32767,32767,131071,262143,524287,1048575,1048575,4194303,8388607,16777215]
theorem R27_13.tab : rtab .any (opsOf Tryz.f27 13) = R27_13.T:=by kernel_rfl
theorem R27_13.bits : waitsOk R27_13.T.2 R27_13.B = true:=by kernel_rfl
def R27_14.T : Bool × List (List Nat × List Nat):=(true,[([],[]),([],[]),([1],[1]),([1],[]),([3],[3]),([2,4],[2,4]),([0,5,3],[0,5]),([6,6],[6]),([7],[7]),([7,7],[7]),([8,9,7],[7,8,9]),([7,10],[7,10]),([11,9],[11]),([12],[12]),([12,12],[12]),([13,14,12],[12,13,14]),([12,15],[12,15]),([16,14],[16]),([17],[17]),([17,17],[17]),([18,19,17],[17,18,19]),([17,20],[17,20]),([21,19],[21]),([22],[22]),([22,22],[22]),([23,24,22],[22,23,24]),([22,25],[22,25]),([26,24,0,1,2,3,4,5,6,7,8,9,10,11,12,13,14,15,16,17,18,19,20,21,22,23,24,25,26],[26])])
def R27_14.B : List Nat:=[0,0,2,2,10,30,63,127,255,255,1023,2047,4095,8191,8191,32767,65535,131071,262143,262143,1048575,2097151,4194303,8388607,8388607,33554431,67108863,134217727]
theorem R27_14.tab : rtab .any (opsOf Tryz.f27 14) = R27_14.T:=by kernel_rfl
theorem R27_14.bits : waitsOk R27_14.T.2 R27_14.B = true:=by kernel_rfl
theorem eqA66 (d : Nat) (w : World) (x0 y0 : Int) (x1 y1 : Int) :
  (Op.equalIn (d + 2) 66 (.agg #[.int .i64 x0,.int .i64 x1]) (.agg #[.int .i64 y0,.int .i64 y1])).run Tryz.prog w = .ok (x0 == y0 && (x1 == y1)) w:=by
 refine eqA_of Tryz.underlying66 kr ?_
 refine eqf_cons (by rfl) (by go_simp;rfl) (by go_simp;rfl) (by go_simp) ?_
 exact eqf_last (by rfl) (by go_simp;rfl) (by go_simp;rfl) (by go_simp)
attribute [local go_sem high] eqA43 eqA66 eqA89
theorem row89_3 (W : World) (x y z : S89) : Kd.R k89 89 (W.alloc (.cells #[.int .i64 x.f0,.int .i64 x.f1.f0,.int .i64 x.f1.f1,.int .i64 y.f0,.int .i64 y.f1.f0,.int .i64 y.f1.f1,.int .i64 z.f0,.int .i64 z.f1.f0,.int .i64 z.f1.f1] 89)) W.heap.size (fun _ => True) (.slice (some ⟨W.heap.size,0,none⟩) 3 3) [x,y,z] :=
 ⟨fun _ _ => trivial,OwnRow.lit (ps:=[x,y,z]) W W.heap.size (inner:=[.int .i64 x.f0,.int .i64 x.f1.f0,.int .i64 x.f1.f1,.int .i64 y.f0,.int .i64 y.f1.f0,.int .i64 y.f1.f1,.int .i64 z.f0,.int .i64 z.f1.f0,.int .i64 z.f1.f1]) (Reps.snoc (Reps.snoc (Reps.snoc (Reps.none _ _) (k89_mkM _ _ _ x) rfl) (k89_mkM _ _ _ y) rfl) (k89_mkM _ _ _ z) rfl) (Nat.le_refl _) (by simp)⟩
theorem row89_2 (W : World) (x y : S89) : Kd.R k89 89 (W.alloc (.cells #[.int .i64 x.f0,.int .i64 x.f1.f0,.int .i64 x.f1.f1,.int .i64 y.f0,.int .i64 y.f1.f0,.int .i64 y.f1.f1] 89)) W.heap.size (fun _ => True) (.slice (some ⟨W.heap.size,0,none⟩) 2 2) [x,y] :=
 ⟨fun _ _ => trivial,OwnRow.lit (ps:=[x,y]) W W.heap.size (inner:=[.int .i64 x.f0,.int .i64 x.f1.f0,.int .i64 x.f1.f1,.int .i64 y.f0,.int .i64 y.f1.f0,.int .i64 y.f1.f1]) (Reps.snoc (Reps.snoc (Reps.none _ _) (k89_mkM _ _ _ x) rfl) (k89_mkM _ _ _ y) rfl) (Nat.le_refl _) (by simp)⟩
theorem row113_2 (W : World) (x y : S113) : Kd.R k113 113 (W.alloc (.cells #[.int .i64 x.f0,.int .i64 x.f1.f0,.int .i64 x.f1.f1,.int .i64 y.f0,.int .i64 y.f1.f0,.int .i64 y.f1.f1] 113)) W.heap.size (fun _ => True) (.slice (some ⟨W.heap.size,0,none⟩) 2 2) [x,y] :=
 ⟨fun _ _ => trivial,OwnRow.lit (ps:=[x,y]) W W.heap.size (inner:=[.int .i64 x.f0,.int .i64 x.f1.f0,.int .i64 x.f1.f1,.int .i64 y.f0,.int .i64 y.f1.f0,.int .i64 y.f1.f1]) (Reps.snoc (Reps.snoc (Reps.none _ _) (k113_mkM _ _ _ x) rfl) (k113_mkM _ _ _ y) rfl) (Nat.le_refl _) (by simp)⟩
theorem row137_2 (W : World) (x y : S137) : Kd.R k137 137 (W.alloc (.cells #[.int .i64 x.f0,.int .i64 x.f1.f0,.int .i64 x.f1.f1,.int .i64 y.f0,.int .i64 y.f1.f0,.int .i64 y.f1.f1] 137)) W.heap.size (fun _ => True) (.slice (some ⟨W.heap.size,0,none⟩) 2 2) [x,y] :=
 ⟨fun _ _ => trivial,OwnRow.lit (ps:=[x,y]) W W.heap.size (inner:=[.int .i64 x.f0,.int .i64 x.f1.f0,.int .i64 x.f1.f1,.int .i64 y.f0,.int .i64 y.f1.f0,.int .i64 y.f1.f1]) (Reps.snoc (Reps.snoc (Reps.none _ _) (k137_mkM _ _ _ x) rfl) (k137_mkM _ _ _ y) rfl) (Nat.le_refl _) (by simp)⟩
theorem row139_2 (W : World) (x y : S139) : Kd.R k139 139 (W.alloc (.cells #[.int .i64 x.f0,.int .i64 x.f1.f0,.int .i64 x.f1.f1,.int .i64 x.f2.f0,.int .i64 x.f2.f1,.int .i64 y.f0,.int .i64 y.f1.f0,.int .i64 y.f1.f1,.int .i64 y.f2.f0,.int .i64 y.f2.f1] 139)) W.heap.size (fun _ => True) (.slice (some ⟨W.heap.size,0,none⟩) 2 2) [x,y] :=
 ⟨fun _ _ => trivial,OwnRow.lit (ps:=[x,y]) W W.heap.size (inner:=[.int .i64 x.f0,.int .i64 x.f1.f0,.int .i64 x.f1.f1,.int .i64 x.f2.f0,.int .i64 x.f2.f1,.int .i64 y.f0,.int .i64 y.f1.f0,.int .i64 y.f1.f1,.int .i64 y.f2.f0,.int .i64 y.f2.f1]) (Reps.snoc (Reps.snoc (Reps.none _ _) (k139_mkM _ _ _ x) rfl) (k139_mkM _ _ _ y) rfl) (Nat.le_refl _) (by simp)⟩
set_option maxRecDepth 100000 in
set_option maxHeartbeats 4000000 in
theorem sanity_calls (w : World) : Calls Tryz.prog 27 #[] w fun e w' => e = .returned (.bool true) ∧ Below w.heap.size w w':=by
 have hu32:=Tryz.underlying32
 have hu43:=Tryz.underlying43
 have hu66:=Tryz.underlying66
 have hu89:=Tryz.underlying89
 have hu113:=Tryz.underlying113
 have hu137:=Tryz.underlying137
 have hu139:=Tryz.underlying139
 obtain ⟨rooms,hrm⟩ : ∃ rooms,rooms = exR:=⟨_,rfl⟩
 obtain ⟨stirs,hst⟩ : ∃ stirs,stirs = exS:=⟨_,rfl⟩
 have HRM:=am hrm
 have HST:=am hst
 have HEX:=am (show calxlaw04_Example.f = some (rooms,stirs) by rw [hrm,hst];rfl)
 have HOK:=am (show playedP rooms stirs stirs.length = .ok exY by rw [hrm,hst];exact ex_ok)
 clear hrm hst
 go_enter Tryz.func27,Tryz.ntmps27
 go_wp2_with fail
 refine (calxlaw04_Example.calls rooms stirs w HEX.out).mono ?_
 rintro e w1 ⟨v0,v1,rfl,hR0,hR1,hb⟩
 obtain ⟨A,c,rfl⟩:=Kd.R_slice hR0
 obtain ⟨A2,c2,rfl⟩:=Kd.R_slice hR1
 have HCC:=am (Kd.R_reads' hR0).2.1
 have HCC2:=am (Kd.R_reads' hR1).2.1
 have HB:=am (hb)
 have HF:=am (show Kd.F (Kd.int .i64) w1 (fun k => k < w1.heap.size) A rooms.length rooms from Kd.F_mono (Kd.R_F (Kd.R_bound hR0)) (fun k hk => hk.2.2.1))
 have HS:=am ((Kd.R_reads' hR1).2.2)
 clear hR0 hR1 hb
 have HB1:=am (below_alloc HB.out (.cells #[.slice A rooms.length c,.slice A2 stirs.length c2] 32))
 have HF1:=am (Kd.F_alloc HF.out (.cells #[.slice A rooms.length c,.slice A2 stirs.length c2] 32))
 have HS1:=am (Kd.C_alloc HS.out (.cells #[.slice A rooms.length c,.slice A2 stirs.length c2] 32))
 have Hp_:=am (blk_new w1 (.cells #[.slice A rooms.length c,.slice A2 stirs.length c2] 32))
 go_wp2_with fail
 refine (barrow_calls A A2 c c2 rooms stirs _ w1.heap.size (Nat.le_of_lt (blk_lt Hp_.out)) HF1.out HCC.out HS1.out HCC2.out 13).mono ?_
 rintro e w2 ⟨hb,h⟩
 rw [HOK.out] at h
 simp only [ex_barrow] at h
 obtain ⟨A3,c3,rfl,hl3,hC3⟩:=h
 obtain ⟨pa,hpa⟩ : ∃ pa,pa = exB.f3:=⟨_,rfl⟩
 rw [← hpa] at hl3 hC3 ⊢
 have HPA:=am hpa
 have HL3:=am hl3
 clear hpa
 have HB2:=am (below_then HB1.out (below_size HB1.out) hb)
 have HF2:=am (Kd.F_below HF1.out hb)
 have HS2:=am (Kd.C_below HS1.out hb)
 have Hp_1:=am (blk_below Hp_.out hb)
 have Hb_:=am (hC3)
 clear hb hl3 hC3
 have g0:=bd Hp_1.out 0
 have g1:=bd Hp_1.out 1
 have hh:=share_calls A A2 c c2 rooms stirs w2 w1.heap.size (Nat.le_of_lt (blk_lt Hp_1.out)) HF2.out HCC.out HS2.out HCC2.out 13 3
 rw [show shareE (playedP rooms stirs stirs.length) 13 3 = (⟨1,6⟩,0) from by rw [HRM.out,HST.out];exact ex_share] at hh
 have HH:=am hh
 clear hh
 go_wp2_with fail
 refine HH.out.mono ?_
 rintro e w3 ⟨rfl,hb⟩
 have HB3:=am (below_then HB2.out (below_size HB2.out) hb)
 have HF3:=am (Kd.F_below HF2.out hb)
 have HS3:=am (Kd.C_below HS2.out hb)
 have Hp_2:=am (blk_below Hp_1.out hb)
 have Hb_1:=am (Kd.C_below Hb_.out hb)
 clear hb g0 g1
 clear HH
 have HB4:=am (below_alloc HB3.out (.cells #[.int .i64 1,.int .i64 6] 43))
 have HF4:=am (Kd.F_alloc HF3.out (.cells #[.int .i64 1,.int .i64 6] 43))
 have HS4:=am (Kd.C_alloc HS3.out (.cells #[.int .i64 1,.int .i64 6] 43))
 have Hp_3:=am (blk_alloc Hp_2.out (.cells #[.int .i64 1,.int .i64 6] 43))
 have Hb_2:=am (Kd.C_alloc Hb_1.out (.cells #[.int .i64 1,.int .i64 6] 43))
 have Hs_:=am (blk_new' w3 (.cells #[.int .i64 1,.int .i64 6] 43) (w3.heap.size) (by simp))
 have g0:=bd Hp_3.out 0
 have g1:=bd Hp_3.out 1
 have hh:=ages_calls A A2 c c2 rooms stirs (w3.alloc (.cells #[.int .i64 1,.int .i64 6] 43)) w1.heap.size (Nat.le_of_lt (blk_lt Hp_3.out)) HF4.out HCC.out HS4.out HCC2.out 13
 rw [show agesE stirs (playedP rooms stirs stirs.length) 13 = ((2,12),0) from by rw [HRM.out,HST.out];exact ex_ages] at hh
 have HH:=am hh
 clear hh
 go_wp2_with fail
 refine HH.out.mono ?_
 rintro e w4 ⟨rfl,hb⟩
 have HB5:=am (below_then HB4.out (below_size HB4.out) hb)
 have HF5:=am (Kd.F_below HF4.out hb)
 have HS5:=am (Kd.C_below HS4.out hb)
 have Hp_4:=am (blk_below Hp_3.out hb)
 have Hb_3:=am (Kd.C_below Hb_2.out hb)
 have Hs_1:=am (blk_below Hs_.out hb)
 clear hb g0 g1
 clear HH
 have HB6:=am (below_alloc HB5.out (.cells #[.int .i64 2,.int .i64 12] 66))
 have HF6:=am (Kd.F_alloc HF5.out (.cells #[.int .i64 2,.int .i64 12] 66))
 have HS6:=am (Kd.C_alloc HS5.out (.cells #[.int .i64 2,.int .i64 12] 66))
 have Hp_5:=am (blk_alloc Hp_4.out (.cells #[.int .i64 2,.int .i64 12] 66))
 have Hb_4:=am (Kd.C_alloc Hb_3.out (.cells #[.int .i64 2,.int .i64 12] 66))
 have Hs_2:=am (blk_alloc Hs_1.out (.cells #[.int .i64 2,.int .i64 12] 66))
 have Ha_:=am (blk_new' w4 (.cells #[.int .i64 2,.int .i64 12] 66) (w4.heap.size) (by simp))
 have g0:=bd Hp_5.out 0
 have g1:=bd Hp_5.out 1
 have hh:=ripe_calls A A2 c c2 rooms stirs (w4.alloc (.cells #[.int .i64 2,.int .i64 12] 66)) w1.heap.size (Nat.le_of_lt (blk_lt Hp_5.out)) HF6.out HCC.out HS6.out HCC2.out 12 8
 rw [show ripeE stirs (playedP rooms stirs stirs.length) 12 8 = (⟨1,2⟩,0) from by rw [HRM.out,HST.out];exact ex_ripe] at hh
 have HH:=am hh
 clear hh
 go_wp2_with fail
 refine HH.out.mono ?_
 rintro e w5 ⟨rfl,hb⟩
 have HB7:=am (below_then HB6.out (below_size HB6.out) hb)
 have HF7:=am (Kd.F_below HF6.out hb)
 have HS7:=am (Kd.C_below HS6.out hb)
 have Hp_6:=am (blk_below Hp_5.out hb)
 have Hb_5:=am (Kd.C_below Hb_4.out hb)
 have Hs_3:=am (blk_below Hs_2.out hb)
 have Ha_1:=am (blk_below Ha_.out hb)
 clear hb g0 g1
 clear HH
 have HB8:=am (below_alloc HB7.out (.cells #[.int .i64 1,.int .i64 2] 43))
 have HF8:=am (Kd.F_alloc HF7.out (.cells #[.int .i64 1,.int .i64 2] 43))
 have HS8:=am (Kd.C_alloc HS7.out (.cells #[.int .i64 1,.int .i64 2] 43))
 have Hp_7:=am (blk_alloc Hp_6.out (.cells #[.int .i64 1,.int .i64 2] 43))
 have Hb_6:=am (Kd.C_alloc Hb_5.out (.cells #[.int .i64 1,.int .i64 2] 43))
 have Hs_4:=am (blk_alloc Hs_3.out (.cells #[.int .i64 1,.int .i64 2] 43))
 have Ha_2:=am (blk_alloc Ha_1.out (.cells #[.int .i64 1,.int .i64 2] 43))
 have Hr_:=am (blk_new' w5 (.cells #[.int .i64 1,.int .i64 2] 43) (w5.heap.size) (by simp))
 have g0:=bd Hp_7.out 0
 have g1:=bd Hp_7.out 1
 have hh:=fate_calls A A2 c c2 rooms stirs (w5.alloc (.cells #[.int .i64 1,.int .i64 2] 43)) w1.heap.size (Nat.le_of_lt (blk_lt Hp_7.out)) HF8.out HCC.out HS8.out HCC2.out 2
 rw [show fateE (playedP rooms stirs stirs.length) 2 = ([⟨12,⟨5,1⟩⟩,⟨13,⟨15,2⟩⟩],⟨15,2⟩,⟨0,1⟩,0) from by rw [HRM.out,HST.out];exact ex_fate] at hh
 have HH:=am hh
 clear hh
 go_wp2_with fail
 refine HH.out.mono ?_
 rintro e w6 ⟨hb,A7,c7,rfl,hl7,hC7⟩
 replace hC7:=Kd.F_now hC7
 obtain ⟨pl,hpl⟩ : ∃ pl : List S89,pl = [⟨12,⟨5,1⟩⟩,⟨13,⟨15,2⟩⟩]:=⟨_,rfl⟩
 rw [show ((([⟨12,⟨5,1⟩⟩,⟨13,⟨15,2⟩⟩],⟨15,2⟩,⟨0,1⟩,0) : List S89 × S43 × S43 × Int)).1 = pl from hpl.symm] at hl7 hC7 ⊢
 have HPL:=am hpl
 have HL7:=am hl7
 clear hpl
 have HB9:=am (below_then HB8.out (below_size HB8.out) hb)
 have HF9:=am (Kd.F_below HF8.out hb)
 have HS9:=am (Kd.C_below HS8.out hb)
 have Hp_8:=am (blk_below Hp_7.out hb)
 have Hb_7:=am (Kd.C_below Hb_6.out hb)
 have Hs_5:=am (blk_below Hs_4.out hb)
 have Ha_3:=am (blk_below Ha_2.out hb)
 have Hr_1:=am (blk_below Hr_.out hb)
 have Hq_:=am (hC7)
 clear hb g0 g1 hl7 hC7
 clear HH
 have HB10:=am (below_alloc HB9.out (.cells #[.int .i64 15,.int .i64 2] 43))
 have HF10:=am (Kd.F_alloc HF9.out (.cells #[.int .i64 15,.int .i64 2] 43))
 have HS10:=am (Kd.C_alloc HS9.out (.cells #[.int .i64 15,.int .i64 2] 43))
 have Hp_9:=am (blk_alloc Hp_8.out (.cells #[.int .i64 15,.int .i64 2] 43))
 have Hb_8:=am (Kd.C_alloc Hb_7.out (.cells #[.int .i64 15,.int .i64 2] 43))
 have Hs_6:=am (blk_alloc Hs_5.out (.cells #[.int .i64 15,.int .i64 2] 43))
 have Ha_4:=am (blk_alloc Ha_3.out (.cells #[.int .i64 15,.int .i64 2] 43))
 have Hr_2:=am (blk_alloc Hr_1.out (.cells #[.int .i64 15,.int .i64 2] 43))
 have Hq_1:=am (Kd.C_alloc Hq_.out (.cells #[.int .i64 15,.int .i64 2] 43))
 have Hf_:=am (blk_new' w6 (.cells #[.int .i64 15,.int .i64 2] 43) (w6.heap.size) (by simp))
 have HB11:=am (below_alloc HB10.out (.cells #[.int .i64 0,.int .i64 1] 43))
 have HF11:=am (Kd.F_alloc HF10.out (.cells #[.int .i64 0,.int .i64 1] 43))
 have HS11:=am (Kd.C_alloc HS10.out (.cells #[.int .i64 0,.int .i64 1] 43))
 have Hp_10:=am (blk_alloc Hp_9.out (.cells #[.int .i64 0,.int .i64 1] 43))
 have Hb_9:=am (Kd.C_alloc Hb_8.out (.cells #[.int .i64 0,.int .i64 1] 43))
 have Hs_7:=am (blk_alloc Hs_6.out (.cells #[.int .i64 0,.int .i64 1] 43))
 have Ha_5:=am (blk_alloc Ha_4.out (.cells #[.int .i64 0,.int .i64 1] 43))
 have Hr_3:=am (blk_alloc Hr_2.out (.cells #[.int .i64 0,.int .i64 1] 43))
 have Hq_2:=am (Kd.C_alloc Hq_1.out (.cells #[.int .i64 0,.int .i64 1] 43))
 have Hf_1:=am (blk_alloc Hf_.out (.cells #[.int .i64 0,.int .i64 1] 43))
 have Ho_:=am (blk_new' (w6.alloc (.cells #[.int .i64 15,.int .i64 2] 43)) (.cells #[.int .i64 0,.int .i64 1] 43) (w6.heap.size + 1) (by simp))
 have hgr:=(Kd.R_reads' (row113_2 ((w6.alloc (.cells #[.int .i64 15,.int .i64 2] 43)).alloc (.cells #[.int .i64 0,.int .i64 1] 43)) ⟨1,⟨0,100⟩⟩ ⟨2,⟨60,60⟩⟩)).2.2
 rw [show ((w6.alloc (.cells #[.int .i64 15,.int .i64 2] 43)).alloc (.cells #[.int .i64 0,.int .i64 1] 43)).heap.size = w6.heap.size + 1 + 1 by simp] at hgr
 have HGR:=am hgr
 clear hgr
 have HB12:=am (below_alloc HB11.out (.cells #[.int .i64 1,.int .i64 0,.int .i64 100,.int .i64 2,.int .i64 60,.int .i64 60] 113))
 have HF12:=am (Kd.F_alloc HF11.out (.cells #[.int .i64 1,.int .i64 0,.int .i64 100,.int .i64 2,.int .i64 60,.int .i64 60] 113))
 have HS12:=am (Kd.C_alloc HS11.out (.cells #[.int .i64 1,.int .i64 0,.int .i64 100,.int .i64 2,.int .i64 60,.int .i64 60] 113))
 have Hp_11:=am (blk_alloc Hp_10.out (.cells #[.int .i64 1,.int .i64 0,.int .i64 100,.int .i64 2,.int .i64 60,.int .i64 60] 113))
 have Hb_10:=am (Kd.C_alloc Hb_9.out (.cells #[.int .i64 1,.int .i64 0,.int .i64 100,.int .i64 2,.int .i64 60,.int .i64 60] 113))
 have Hs_8:=am (blk_alloc Hs_7.out (.cells #[.int .i64 1,.int .i64 0,.int .i64 100,.int .i64 2,.int .i64 60,.int .i64 60] 113))
 have Ha_6:=am (blk_alloc Ha_5.out (.cells #[.int .i64 1,.int .i64 0,.int .i64 100,.int .i64 2,.int .i64 60,.int .i64 60] 113))
 have Hr_4:=am (blk_alloc Hr_3.out (.cells #[.int .i64 1,.int .i64 0,.int .i64 100,.int .i64 2,.int .i64 60,.int .i64 60] 113))
 have Hq_3:=am (Kd.C_alloc Hq_2.out (.cells #[.int .i64 1,.int .i64 0,.int .i64 100,.int .i64 2,.int .i64 60,.int .i64 60] 113))
 have Hf_2:=am (blk_alloc Hf_1.out (.cells #[.int .i64 1,.int .i64 0,.int .i64 100,.int .i64 2,.int .i64 60,.int .i64 60] 113))
 have Ho_1:=am (blk_alloc Ho_.out (.cells #[.int .i64 1,.int .i64 0,.int .i64 100,.int .i64 2,.int .i64 60,.int .i64 60] 113))
 have g0:=bd Hp_10.out 0
 have g1:=bd Hp_10.out 1
 have hh:=worth_calls A A2 c c2 rooms stirs (((w6.alloc (.cells #[.int .i64 15,.int .i64 2] 43)).alloc (.cells #[.int .i64 0,.int .i64 1] 43)).alloc (.cells #[.int .i64 1,.int .i64 0,.int .i64 100,.int .i64 2,.int .i64 60,.int .i64 60] 113)) w1.heap.size (Nat.le_of_lt (blk_lt Hp_11.out)) HF12.out HCC.out HS12.out HCC2.out 13 (some ⟨w6.heap.size + 1 + 1,0,none⟩) 2 exG HGR.out (by decide)
 rw [show worthE (playedP rooms stirs stirs.length) 13 exG = (⟨25,1⟩,⟨700,3⟩,0) from by rw [HRM.out,HST.out];exact ex_worth] at hh
 have HH:=am hh
 clear hh
 go_wp2_with fail
 refine HH.out.mono ?_
 rintro e w8 ⟨rfl,hb⟩
 have HB13:=am (below_then HB12.out (below_size HB12.out) hb)
 have HF13:=am (Kd.F_below HF12.out hb)
 have HS13:=am (Kd.C_below HS12.out hb)
 have Hp_12:=am (blk_below Hp_11.out hb)
 have Hb_11:=am (Kd.C_below Hb_10.out hb)
 have Hs_9:=am (blk_below Hs_8.out hb)
 have Ha_7:=am (blk_below Ha_6.out hb)
 have Hr_5:=am (blk_below Hr_4.out hb)
 have Hq_4:=am (Kd.C_below Hq_3.out hb)
 have Hf_3:=am (blk_below Hf_2.out hb)
 have Ho_2:=am (blk_below Ho_1.out hb)
 clear hb g0 g1 HH HGR
 have HB14:=am (below_alloc HB13.out (.cells #[.int .i64 25,.int .i64 1] 43))
 have HF14:=am (Kd.F_alloc HF13.out (.cells #[.int .i64 25,.int .i64 1] 43))
 have HS14:=am (Kd.C_alloc HS13.out (.cells #[.int .i64 25,.int .i64 1] 43))
 have Hp_13:=am (blk_alloc Hp_12.out (.cells #[.int .i64 25,.int .i64 1] 43))
 have Hb_12:=am (Kd.C_alloc Hb_11.out (.cells #[.int .i64 25,.int .i64 1] 43))
 have Hs_10:=am (blk_alloc Hs_9.out (.cells #[.int .i64 25,.int .i64 1] 43))
 have Ha_8:=am (blk_alloc Ha_7.out (.cells #[.int .i64 25,.int .i64 1] 43))
 have Hr_6:=am (blk_alloc Hr_5.out (.cells #[.int .i64 25,.int .i64 1] 43))
 have Hq_5:=am (Kd.C_alloc Hq_4.out (.cells #[.int .i64 25,.int .i64 1] 43))
 have Hf_4:=am (blk_alloc Hf_3.out (.cells #[.int .i64 25,.int .i64 1] 43))
 have Ho_3:=am (blk_alloc Ho_2.out (.cells #[.int .i64 25,.int .i64 1] 43))
 have Hl_:=am (blk_new' w8 (.cells #[.int .i64 25,.int .i64 1] 43) (w8.heap.size) (by simp))
 have HB15:=am (below_alloc HB14.out (.cells #[.int .i64 700,.int .i64 3] 43))
 have HF15:=am (Kd.F_alloc HF14.out (.cells #[.int .i64 700,.int .i64 3] 43))
 have HS15:=am (Kd.C_alloc HS14.out (.cells #[.int .i64 700,.int .i64 3] 43))
 have Hp_14:=am (blk_alloc Hp_13.out (.cells #[.int .i64 700,.int .i64 3] 43))
 have Hb_13:=am (Kd.C_alloc Hb_12.out (.cells #[.int .i64 700,.int .i64 3] 43))
 have Hs_11:=am (blk_alloc Hs_10.out (.cells #[.int .i64 700,.int .i64 3] 43))
 have Ha_9:=am (blk_alloc Ha_8.out (.cells #[.int .i64 700,.int .i64 3] 43))
 have Hr_7:=am (blk_alloc Hr_6.out (.cells #[.int .i64 700,.int .i64 3] 43))
 have Hq_6:=am (Kd.C_alloc Hq_5.out (.cells #[.int .i64 700,.int .i64 3] 43))
 have Hf_5:=am (blk_alloc Hf_4.out (.cells #[.int .i64 700,.int .i64 3] 43))
 have Ho_4:=am (blk_alloc Ho_3.out (.cells #[.int .i64 700,.int .i64 3] 43))
 have Hl_1:=am (blk_alloc Hl_.out (.cells #[.int .i64 700,.int .i64 3] 43))
 have Hh_:=am (blk_new' (w8.alloc (.cells #[.int .i64 25,.int .i64 1] 43)) (.cells #[.int .i64 700,.int .i64 3] 43) (w8.heap.size + 1) (by simp))
 have hgr:=(Kd.R_reads' (row137_2 ((w8.alloc (.cells #[.int .i64 25,.int .i64 1] 43)).alloc (.cells #[.int .i64 700,.int .i64 3] 43)) ⟨12,⟨100,120⟩⟩ ⟨13,⟨50,90⟩⟩)).2.2
 rw [show ((w8.alloc (.cells #[.int .i64 25,.int .i64 1] 43)).alloc (.cells #[.int .i64 700,.int .i64 3] 43)).heap.size = w8.heap.size + 1 + 1 by simp] at hgr
 have HGR:=am hgr
 clear hgr
 have g0:=bd Hp_14.out 0
 have g1:=bd Hp_14.out 1
 have HB16:=am (below_alloc HB15.out (.cells #[.int .i64 12,.int .i64 100,.int .i64 120,.int .i64 13,.int .i64 50,.int .i64 90] 137))
 have HF16:=am (Kd.F_alloc HF15.out (.cells #[.int .i64 12,.int .i64 100,.int .i64 120,.int .i64 13,.int .i64 50,.int .i64 90] 137))
 have HS16:=am (Kd.C_alloc HS15.out (.cells #[.int .i64 12,.int .i64 100,.int .i64 120,.int .i64 13,.int .i64 50,.int .i64 90] 137))
 have Hp_15:=am (blk_alloc Hp_14.out (.cells #[.int .i64 12,.int .i64 100,.int .i64 120,.int .i64 13,.int .i64 50,.int .i64 90] 137))
 have Hb_14:=am (Kd.C_alloc Hb_13.out (.cells #[.int .i64 12,.int .i64 100,.int .i64 120,.int .i64 13,.int .i64 50,.int .i64 90] 137))
 have Hs_12:=am (blk_alloc Hs_11.out (.cells #[.int .i64 12,.int .i64 100,.int .i64 120,.int .i64 13,.int .i64 50,.int .i64 90] 137))
 have Ha_10:=am (blk_alloc Ha_9.out (.cells #[.int .i64 12,.int .i64 100,.int .i64 120,.int .i64 13,.int .i64 50,.int .i64 90] 137))
 have Hr_8:=am (blk_alloc Hr_7.out (.cells #[.int .i64 12,.int .i64 100,.int .i64 120,.int .i64 13,.int .i64 50,.int .i64 90] 137))
 have Hq_7:=am (Kd.C_alloc Hq_6.out (.cells #[.int .i64 12,.int .i64 100,.int .i64 120,.int .i64 13,.int .i64 50,.int .i64 90] 137))
 have Hf_6:=am (blk_alloc Hf_5.out (.cells #[.int .i64 12,.int .i64 100,.int .i64 120,.int .i64 13,.int .i64 50,.int .i64 90] 137))
 have Ho_5:=am (blk_alloc Ho_4.out (.cells #[.int .i64 12,.int .i64 100,.int .i64 120,.int .i64 13,.int .i64 50,.int .i64 90] 137))
 have Hl_2:=am (blk_alloc Hl_1.out (.cells #[.int .i64 12,.int .i64 100,.int .i64 120,.int .i64 13,.int .i64 50,.int .i64 90] 137))
 have Hh_1:=am (blk_alloc Hh_.out (.cells #[.int .i64 12,.int .i64 100,.int .i64 120,.int .i64 13,.int .i64 50,.int .i64 90] 137))
 have hh:=culprits_calls A A2 c c2 rooms stirs (((w8.alloc (.cells #[.int .i64 25,.int .i64 1] 43)).alloc (.cells #[.int .i64 700,.int .i64 3] 43)).alloc (.cells #[.int .i64 12,.int .i64 100,.int .i64 120,.int .i64 13,.int .i64 50,.int .i64 90] 137)) w1.heap.size (Nat.le_of_lt (blk_lt Hp_15.out)) HF16.out HCC.out HS16.out HCC2.out (some ⟨w8.heap.size + 1 + 1,0,none⟩) 2 exP HGR.out (by decide)
 have HH:=am hh
 clear hh
 go_wp2_with fail
 refine HH.out.mono ?_
 rintro e w10 ⟨hb,h⟩
 rw [HOK.out] at h
 dsimp only at h
 rw [if_pos ex_probes] at h
 obtain ⟨A9,c9,rfl,hl9,hC9⟩:=h
 obtain ⟨pk,hpk⟩ : ∃ pk,pk = culpP exY exP exY.pours:=⟨_,rfl⟩
 rw [← hpk] at hl9 hC9 ⊢
 have HPK:=am (hpk.trans ex_culp)
 have HL9:=am hl9
 clear hpk
 have HB17:=am (below_then HB16.out (below_size HB16.out) hb)
 have HF17:=am (Kd.F_below HF16.out hb)
 have HS17:=am (Kd.C_below HS16.out hb)
 have Hp_16:=am (blk_below Hp_15.out hb)
 have Hb_15:=am (Kd.C_below Hb_14.out hb)
 have Hs_13:=am (blk_below Hs_12.out hb)
 have Ha_11:=am (blk_below Ha_10.out hb)
 have Hr_9:=am (blk_below Hr_8.out hb)
 have Hq_8:=am (Kd.C_below Hq_7.out hb)
 have Hf_7:=am (blk_below Hf_6.out hb)
 have Ho_6:=am (blk_below Ho_5.out hb)
 have Hl_3:=am (blk_below Hl_2.out hb)
 have Hh_2:=am (blk_below Hh_1.out hb)
 have Hk_:=am (hC9)
 clear hb g0 g1 HH HGR hl9 hC9
 have g0:=bd Hp_16.out 0
 have g1:=bd Hp_16.out 1
 have hh:=swap_calls A A2 c c2 rooms stirs w10 w1.heap.size (Nat.le_of_lt (blk_lt Hp_16.out)) HF17.out HCC.out HS17.out HCC2.out 5
 have HH:=am hh
 clear hh
 go_wp2_with fail
 refine HH.out.mono ?_
 rintro e w11 ⟨hb,h⟩
 rw [HOK.out] at h
 dsimp only at h
 rw [show inP 5 1 ((stirs.length : Int) - 1) = true from by rw [HST.out];exact ex_in5,if_pos rfl,show swapR rooms stirs 5 = .ok (exZ 5) from by rw [HRM.out,HST.out];exact ex_swap5] at h
 dsimp only at h
 rw [ex_alike5] at h
 obtain ⟨A5,A6,c5,c6,rfl,_,_,_,_⟩:=h
 have HB18:=am (below_then HB17.out (below_size HB17.out) hb)
 have HF18:=am (Kd.F_below HF17.out hb)
 have HS18:=am (Kd.C_below HS17.out hb)
 have Hp_17:=am (blk_below Hp_16.out hb)
 have Hb_16:=am (Kd.C_below Hb_15.out hb)
 have Hs_14:=am (blk_below Hs_13.out hb)
 have Ha_12:=am (blk_below Ha_11.out hb)
 have Hr_10:=am (blk_below Hr_9.out hb)
 have Hq_9:=am (Kd.C_below Hq_8.out hb)
 have Hf_8:=am (blk_below Hf_7.out hb)
 have Ho_7:=am (blk_below Ho_6.out hb)
 have Hl_4:=am (blk_below Hl_3.out hb)
 have Hh_3:=am (blk_below Hh_2.out hb)
 have Hk_1:=am (Kd.C_below Hk_.out hb)
 clear hb g0 g1 HH
 have HB19:=am (below_alloc HB18.out (.cells #[.slice A5 rooms.length c5,.slice A6 stirs.length c6] 32))
 have HF19:=am (Kd.F_alloc HF18.out (.cells #[.slice A5 rooms.length c5,.slice A6 stirs.length c6] 32))
 have HS19:=am (Kd.C_alloc HS18.out (.cells #[.slice A5 rooms.length c5,.slice A6 stirs.length c6] 32))
 have Hp_18:=am (blk_alloc Hp_17.out (.cells #[.slice A5 rooms.length c5,.slice A6 stirs.length c6] 32))
 have Hb_17:=am (Kd.C_alloc Hb_16.out (.cells #[.slice A5 rooms.length c5,.slice A6 stirs.length c6] 32))
 have Hs_15:=am (blk_alloc Hs_14.out (.cells #[.slice A5 rooms.length c5,.slice A6 stirs.length c6] 32))
 have Ha_13:=am (blk_alloc Ha_12.out (.cells #[.slice A5 rooms.length c5,.slice A6 stirs.length c6] 32))
 have Hr_11:=am (blk_alloc Hr_10.out (.cells #[.slice A5 rooms.length c5,.slice A6 stirs.length c6] 32))
 have Hq_10:=am (Kd.C_alloc Hq_9.out (.cells #[.slice A5 rooms.length c5,.slice A6 stirs.length c6] 32))
 have Hf_9:=am (blk_alloc Hf_8.out (.cells #[.slice A5 rooms.length c5,.slice A6 stirs.length c6] 32))
 have Ho_8:=am (blk_alloc Ho_7.out (.cells #[.slice A5 rooms.length c5,.slice A6 stirs.length c6] 32))
 have Hl_5:=am (blk_alloc Hl_4.out (.cells #[.slice A5 rooms.length c5,.slice A6 stirs.length c6] 32))
 have Hh_4:=am (blk_alloc Hh_3.out (.cells #[.slice A5 rooms.length c5,.slice A6 stirs.length c6] 32))
 have Hk_2:=am (Kd.C_alloc Hk_1.out (.cells #[.slice A5 rooms.length c5,.slice A6 stirs.length c6] 32))
 have g0:=bd Hp_18.out 0
 have g1:=bd Hp_18.out 1
 have hh:=swap_calls A A2 c c2 rooms stirs (w11.alloc (.cells #[.slice A5 rooms.length c5,.slice A6 stirs.length c6] 32)) w1.heap.size (Nat.le_of_lt (blk_lt Hp_18.out)) HF19.out HCC.out HS19.out HCC2.out 1
 have HH:=am hh
 clear hh
 go_wp2_with fail
 refine HH.out.mono ?_
 rintro e w12 ⟨hb,h⟩
 rw [HOK.out] at h
 dsimp only at h
 rw [show inP 1 1 ((stirs.length : Int) - 1) = true from by rw [HST.out];exact ex_in1,if_pos rfl,show swapR rooms stirs 1 = .ok (exZ 1) from by rw [HRM.out,HST.out];exact ex_swap1] at h
 dsimp only at h
 rw [ex_alike1] at h
 obtain ⟨A5,A6,c5,c6,rfl,_,_,_,_⟩:=h
 have HB20:=am (below_then HB19.out (below_size HB19.out) hb)
 have Hb_18:=am (Kd.C_below Hb_17.out hb)
 have Hs_16:=am (blk_below Hs_15.out hb)
 have Ha_14:=am (blk_below Ha_13.out hb)
 have Hr_12:=am (blk_below Hr_11.out hb)
 have Hq_11:=am (Kd.C_below Hq_10.out hb)
 have Hf_10:=am (blk_below Hf_9.out hb)
 have Ho_9:=am (blk_below Ho_8.out hb)
 have Hl_6:=am (blk_below Hl_5.out hb)
 have Hh_5:=am (blk_below Hh_4.out hb)
 have Hk_3:=am (Kd.C_below Hk_2.out hb)
 clear hb g0 g1 HH
 have HB21:=am (below_alloc HB20.out (.cells #[.slice A5 rooms.length c5,.slice A6 stirs.length c6] 32))
 have Hb_19:=am (Kd.C_alloc Hb_18.out (.cells #[.slice A5 rooms.length c5,.slice A6 stirs.length c6] 32))
 have Hs_17:=am (blk_alloc Hs_16.out (.cells #[.slice A5 rooms.length c5,.slice A6 stirs.length c6] 32))
 have Ha_15:=am (blk_alloc Ha_14.out (.cells #[.slice A5 rooms.length c5,.slice A6 stirs.length c6] 32))
 have Hr_13:=am (blk_alloc Hr_12.out (.cells #[.slice A5 rooms.length c5,.slice A6 stirs.length c6] 32))
 have Hq_12:=am (Kd.C_alloc Hq_11.out (.cells #[.slice A5 rooms.length c5,.slice A6 stirs.length c6] 32))
 have Hf_11:=am (blk_alloc Hf_10.out (.cells #[.slice A5 rooms.length c5,.slice A6 stirs.length c6] 32))
 have Ho_10:=am (blk_alloc Ho_9.out (.cells #[.slice A5 rooms.length c5,.slice A6 stirs.length c6] 32))
 have Hl_7:=am (blk_alloc Hl_6.out (.cells #[.slice A5 rooms.length c5,.slice A6 stirs.length c6] 32))
 have Hh_6:=am (blk_alloc Hh_5.out (.cells #[.slice A5 rooms.length c5,.slice A6 stirs.length c6] 32))
 have Hk_4:=am (Kd.C_alloc Hk_3.out (.cells #[.slice A5 rooms.length c5,.slice A6 stirs.length c6] 32))
 have HB22:=am (below_drew HB21.out)
 have Hb_20:=am (Kd.C_drew Hb_19.out)
 have Hs_18:=am (blk_drew Hs_17.out)
 have Ha_16:=am (blk_drew Ha_15.out)
 have Hr_14:=am (blk_drew Hr_13.out)
 have Hq_13:=am (Kd.C_drew Hq_12.out)
 have Hf_12:=am (blk_drew Hf_11.out)
 have Ho_11:=am (blk_drew Ho_10.out)
 have Hl_8:=am (blk_drew Hl_7.out)
 have Hh_7:=am (blk_drew Hh_6.out)
 have Hk_5:=am (Kd.C_drew Hk_4.out)
 go_wp2
 refine start_ (n:=25) (S:=fun w' => w'.cell? ⟨w3.heap.size,0,none⟩ = some (.int .i64 1) ∧ w'.cell? ⟨w3.heap.size,1,none⟩ = some (.int .i64 6) ∧ w'.cell? ⟨w4.heap.size,0,none⟩ = some (.int .i64 2) ∧ w'.cell? ⟨w4.heap.size,1,none⟩ = some (.int .i64 12) ∧ w'.cell? ⟨w5.heap.size,0,none⟩ = some (.int .i64 1) ∧ w'.cell? ⟨w5.heap.size,1,none⟩ = some (.int .i64 2)) (ds:=[]) (ab 25 0) kr rfl kr ⟨(blk_cell Hs_18.out 0).trans rfl,(blk_cell Hs_18.out 1).trans rfl,(blk_cell Ha_16.out 0).trans rfl,(blk_cell Ha_16.out 1).trans rfl,(blk_cell Hr_14.out 0).trans rfl,(blk_cell Hr_14.out 1).trans rfl⟩ (fun hHeld => ?_);refine with_tabW R27_13.tab R27_13.bits (fun HT_ HW_ => ?_)
 generalize ((w12.alloc (.cells #[.slice A5 rooms.length c5,.slice A6 stirs.length c6] 32))).drew = wd at HB22 Hb_20 Hs_18 Ha_16 Hr_14 Hq_13 Hf_12 Ho_11 Hl_8 Hh_7 Hk_5 hHeld ⊢
 refine qA 0 (some 122) ?_
 refine qE 1 (some 123) fun K hK => ?_
 refine gC Tryz.func52 #[.int .i64 15,.int .i64 2] ?_
 refine (ex_frac _ _ _).mono ?_
 rintro e wd0 ⟨rfl,hb⟩
 have HB23:=am (below_then HB22.out (below_size HB22.out) hb)
 have Hb_21:=am (Kd.C_below Hb_20.out hb)
 have Hs_19:=am (blk_below Hs_18.out hb)
 have Ha_17:=am (blk_below Ha_16.out hb)
 have Hr_15:=am (blk_below Hr_14.out hb)
 have Hq_14:=am (Kd.C_below Hq_13.out hb)
 have Hf_13:=am (blk_below Hf_12.out hb)
 have Ho_12:=am (blk_below Ho_11.out hb)
 have Hl_9:=am (blk_below Hl_8.out hb)
 have Hh_8:=am (blk_below Hh_7.out hb)
 have Hk_6:=am (Kd.C_below Hk_5.out hb)
 clear hb
 refine ⟨_,rfl,?_⟩
 refine hK.out _ _ ⟨(blk_cell Hs_19.out 0).trans rfl,(blk_cell Hs_19.out 1).trans rfl,(blk_cell Ha_17.out 0).trans rfl,(blk_cell Ha_17.out 1).trans rfl,(blk_cell Hr_15.out 0).trans rfl,(blk_cell Hr_15.out 1).trans rfl⟩ (fun hHeld => ?_)
 clear hK K
 refine qN (some 123) ?_
 refine qA 2 (some 124) ?_
 refine qE 3 (some 125) fun K hK => ?_
 refine gC Tryz.func52 #[.int .i64 15,.int .i64 2] ?_
 refine (ex_frac _ _ _).mono ?_
 rintro e wd1 ⟨rfl,hb⟩
 have HB24:=am (below_then HB23.out (below_size HB23.out) hb)
 have Hb_22:=am (Kd.C_below Hb_21.out hb)
 have Hs_20:=am (blk_below Hs_19.out hb)
 have Ha_18:=am (blk_below Ha_17.out hb)
 have Hr_16:=am (blk_below Hr_15.out hb)
 have Hq_15:=am (Kd.C_below Hq_14.out hb)
 have Hf_14:=am (blk_below Hf_13.out hb)
 have Ho_13:=am (blk_below Ho_12.out hb)
 have Hl_10:=am (blk_below Hl_9.out hb)
 have Hh_9:=am (blk_below Hh_8.out hb)
 have Hk_7:=am (Kd.C_below Hk_6.out hb)
 clear hb
 refine ⟨_,rfl,?_⟩
 refine hK.out _ _ ⟨(blk_cell Hs_20.out 0).trans rfl,(blk_cell Hs_20.out 1).trans rfl,(blk_cell Ha_18.out 0).trans rfl,(blk_cell Ha_18.out 1).trans rfl,(blk_cell Hr_16.out 0).trans rfl,(blk_cell Hr_16.out 1).trans rfl⟩ (fun hHeld => ?_)
 clear hK K
 refine qN (some 125) ?_
 refine qA 4 (some 126) ?_
 refine qE 5 (some 127) fun K hK => ?_
 refine gC Tryz.func52 #[.int .i64 3,.int .i64 1] ?_
 refine (ex_frac _ _ _).mono ?_
 rintro e wd2 ⟨rfl,hb⟩
 have HB25:=am (below_then HB24.out (below_size HB24.out) hb)
 have Hb_23:=am (Kd.C_below Hb_22.out hb)
 have Hs_21:=am (blk_below Hs_20.out hb)
 have Ha_19:=am (blk_below Ha_18.out hb)
 have Hr_17:=am (blk_below Hr_16.out hb)
 have Hq_16:=am (Kd.C_below Hq_15.out hb)
 have Hf_15:=am (blk_below Hf_14.out hb)
 have Ho_14:=am (blk_below Ho_13.out hb)
 have Hl_11:=am (blk_below Hl_10.out hb)
 have Hh_10:=am (blk_below Hh_9.out hb)
 have Hk_8:=am (Kd.C_below Hk_7.out hb)
 clear hb
 refine ⟨_,rfl,?_⟩
 refine hK.out _ _ ⟨(blk_cell Hs_21.out 0).trans rfl,(blk_cell Hs_21.out 1).trans rfl,(blk_cell Ha_19.out 0).trans rfl,(blk_cell Ha_19.out 1).trans rfl,(blk_cell Hr_17.out 0).trans rfl,(blk_cell Hr_17.out 1).trans rfl⟩ (fun hHeld => ?_)
 clear hK K
 refine qN (some 127) ?_
 refine qA 6 (some 128) ?_
 refine qE 7 (some 129) fun K hK => ?_
 refine value_ (w1:=?_) (v:=?_) (by rfl) rfl ?_ ?_
 rotate_left 2
 ·go_simp
  constructor
  ·rfl
  ·rfl
 have HB26:=am (below_alloc HB25.out (.cells #[.int .i64 1,.int .i64 15,.int .i64 2,.int .i64 2,.int .i64 15,.int .i64 2,.int .i64 3,.int .i64 3,.int .i64 1] 89))
 have Hb_24:=am (Kd.C_alloc Hb_23.out (.cells #[.int .i64 1,.int .i64 15,.int .i64 2,.int .i64 2,.int .i64 15,.int .i64 2,.int .i64 3,.int .i64 3,.int .i64 1] 89))
 have Hs_22:=am (blk_alloc Hs_21.out (.cells #[.int .i64 1,.int .i64 15,.int .i64 2,.int .i64 2,.int .i64 15,.int .i64 2,.int .i64 3,.int .i64 3,.int .i64 1] 89))
 have Ha_20:=am (blk_alloc Ha_19.out (.cells #[.int .i64 1,.int .i64 15,.int .i64 2,.int .i64 2,.int .i64 15,.int .i64 2,.int .i64 3,.int .i64 3,.int .i64 1] 89))
 have Hr_18:=am (blk_alloc Hr_17.out (.cells #[.int .i64 1,.int .i64 15,.int .i64 2,.int .i64 2,.int .i64 15,.int .i64 2,.int .i64 3,.int .i64 3,.int .i64 1] 89))
 have Hq_17:=am (Kd.C_alloc Hq_16.out (.cells #[.int .i64 1,.int .i64 15,.int .i64 2,.int .i64 2,.int .i64 15,.int .i64 2,.int .i64 3,.int .i64 3,.int .i64 1] 89))
 have Hf_16:=am (blk_alloc Hf_15.out (.cells #[.int .i64 1,.int .i64 15,.int .i64 2,.int .i64 2,.int .i64 15,.int .i64 2,.int .i64 3,.int .i64 3,.int .i64 1] 89))
 have Ho_15:=am (blk_alloc Ho_14.out (.cells #[.int .i64 1,.int .i64 15,.int .i64 2,.int .i64 2,.int .i64 15,.int .i64 2,.int .i64 3,.int .i64 3,.int .i64 1] 89))
 have Hl_12:=am (blk_alloc Hl_11.out (.cells #[.int .i64 1,.int .i64 15,.int .i64 2,.int .i64 2,.int .i64 15,.int .i64 2,.int .i64 3,.int .i64 3,.int .i64 1] 89))
 have Hh_11:=am (blk_alloc Hh_10.out (.cells #[.int .i64 1,.int .i64 15,.int .i64 2,.int .i64 2,.int .i64 15,.int .i64 2,.int .i64 3,.int .i64 3,.int .i64 1] 89))
 have Hk_9:=am (Kd.C_alloc Hk_8.out (.cells #[.int .i64 1,.int .i64 15,.int .i64 2,.int .i64 2,.int .i64 15,.int .i64 2,.int .i64 3,.int .i64 3,.int .i64 1] 89))
 have Hx_:=am ((Kd.R_reads' (row89_3 wd2 ⟨1,⟨15,2⟩⟩ ⟨2,⟨15,2⟩⟩ ⟨3,⟨3,1⟩⟩)).2.2)
 refine hK.out _ _ ⟨(blk_cell Hs_22.out 0).trans rfl,(blk_cell Hs_22.out 1).trans rfl,(blk_cell Ha_20.out 0).trans rfl,(blk_cell Ha_20.out 1).trans rfl,(blk_cell Hr_18.out 0).trans rfl,(blk_cell Hr_18.out 1).trans rfl⟩ (fun hHeld => ?_)
 clear hK K
 refine qN (some 129) ?_
 refine qE 8 (some 130) fun K hK => ?_
 refine gC Tryz.func38 #[.slice A3 pa.length c3,.slice (some ⟨wd2.heap.size,0,none⟩) 3 3] ?_
 refine (calxref04_SameParts.calls 100 A3 c3 pa (some ⟨wd2.heap.size,0,none⟩) 3 [(⟨1,⟨15,2⟩⟩ : S89),⟨2,⟨15,2⟩⟩,⟨3,⟨3,1⟩⟩] true _ Hb_24.out HL3.out Hx_.out (by decide) (by rw [HPA.out];kernel_rfl)).mono ?_
 rintro e w' ⟨rfl,m,rfl⟩
 have HB27:=am (pw_below_drewN HB26.out m)
 have Hs_23:=am (blk_drewN Hs_22.out m)
 have Ha_21:=am (blk_drewN Ha_20.out m)
 have Hr_19:=am (blk_drewN Hr_18.out m)
 have Hq_18:=am (Kd.C_drewN Hq_17.out m)
 have Hf_17:=am (blk_drewN Hf_16.out m)
 have Ho_16:=am (blk_drewN Ho_15.out m)
 have Hl_13:=am (blk_drewN Hl_12.out m)
 have Hh_12:=am (blk_drewN Hh_11.out m)
 have Hk_10:=am (Kd.C_drewN Hk_9.out m)
 refine ⟨_,rfl,?_⟩
 refine hK.out _ _ ⟨(blk_cell Hs_23.out 0).trans rfl,(blk_cell Hs_23.out 1).trans rfl,(blk_cell Ha_21.out 0).trans rfl,(blk_cell Ha_21.out 1).trans rfl,(blk_cell Hr_19.out 0).trans rfl,(blk_cell Hr_19.out 1).trans rfl⟩ (fun hHeld => ?_)
 clear hK K
 refine qN (some 130) ?_
 refine qA 9 (some 131) ?_;refine qT 10 (some 132) ?_
 refine qE 11 (some 133) fun K hK => ?_
 refine gC Tryz.func52 #[.int .i64 1,.int .i64 6] ?_
 refine (ex_frac _ _ _).mono ?_
 rintro e wd5 ⟨rfl,hb⟩
 have HB28:=am (below_then HB27.out (below_size HB27.out) hb)
 have Hs_24:=am (blk_below Hs_23.out hb)
 have Ha_22:=am (blk_below Ha_21.out hb)
 have Hr_20:=am (blk_below Hr_19.out hb)
 have Hq_19:=am (Kd.C_below Hq_18.out hb)
 have Hf_18:=am (blk_below Hf_17.out hb)
 have Ho_17:=am (blk_below Ho_16.out hb)
 have Hl_14:=am (blk_below Hl_13.out hb)
 have Hh_13:=am (blk_below Hh_12.out hb)
 have Hk_11:=am (Kd.C_below Hk_10.out hb)
 clear hb
 refine ⟨_,rfl,?_⟩
 refine hK.out _ _ ⟨(blk_cell Hs_24.out 0).trans rfl,(blk_cell Hs_24.out 1).trans rfl,(blk_cell Ha_22.out 0).trans rfl,(blk_cell Ha_22.out 1).trans rfl,(blk_cell Hr_20.out 0).trans rfl,(blk_cell Hr_20.out 1).trans rfl⟩ (fun hHeld => ?_)
 clear hK K
 refine qN (some 133) ?_
 refine qA 12 (some 134) ?_;refine qA 13 (some 135) ?_;refine qA 14 (some 136) ?_;refine qT 15 (some 137) ?_;refine qA 16 (some 138) ?_;refine qA 17 (some 139) ?_;refine qA 18 (some 140) ?_;refine qA 19 (some 141) ?_;refine qT 20 (some 142) ?_
 refine qE 21 (some 143) fun K hK => ?_
 refine gC Tryz.func52 #[.int .i64 1,.int .i64 2] ?_
 refine (ex_frac _ _ _).mono ?_
 rintro e wd6 ⟨rfl,hb⟩
 have HB29:=am (below_then HB28.out (below_size HB28.out) hb)
 have Hs_25:=am (blk_below Hs_24.out hb)
 have Ha_23:=am (blk_below Ha_22.out hb)
 have Hr_21:=am (blk_below Hr_20.out hb)
 have Hq_20:=am (Kd.C_below Hq_19.out hb)
 have Hf_19:=am (blk_below Hf_18.out hb)
 have Ho_18:=am (blk_below Ho_17.out hb)
 have Hl_15:=am (blk_below Hl_14.out hb)
 have Hh_14:=am (blk_below Hh_13.out hb)
 have Hk_12:=am (Kd.C_below Hk_11.out hb)
 clear hb
 refine ⟨_,rfl,?_⟩
 refine hK.out _ _ ⟨(blk_cell Hs_25.out 0).trans rfl,(blk_cell Hs_25.out 1).trans rfl,(blk_cell Ha_23.out 0).trans rfl,(blk_cell Ha_23.out 1).trans rfl,(blk_cell Hr_21.out 0).trans rfl,(blk_cell Hr_21.out 1).trans rfl⟩ (fun hHeld => ?_)
 clear hK K
 refine qN (some 143) ?_
 refine qA 22 (some 144) ?_;refine qA 23 (some 145) ?_;refine qA 24 (some 25) ?_
 refine done_ (done_of HT_.out kr) ?_
 have HB30:=am (below_drew HB29.out)
 have Hq_21:=am (Kd.C_drew Hq_20.out)
 have Hf_20:=am (blk_drew Hf_19.out)
 have Ho_19:=am (blk_drew Ho_18.out)
 have Hl_16:=am (blk_drew Hl_15.out)
 have Hh_15:=am (blk_drew Hh_14.out)
 have Hk_13:=am (Kd.C_drew Hk_12.out)
 go_wp2
 refine start_ (n:=28) (S:=fun w' => w'.cell? ⟨w6.heap.size,0,none⟩ = some (.int .i64 15) ∧ w'.cell? ⟨w6.heap.size,1,none⟩ = some (.int .i64 2) ∧ w'.cell? ⟨w6.heap.size + 1,0,none⟩ = some (.int .i64 0) ∧ w'.cell? ⟨w6.heap.size + 1,1,none⟩ = some (.int .i64 1) ∧ w'.cell? ⟨w8.heap.size,0,none⟩ = some (.int .i64 25) ∧ w'.cell? ⟨w8.heap.size,1,none⟩ = some (.int .i64 1) ∧ w'.cell? ⟨w8.heap.size + 1,0,none⟩ = some (.int .i64 700) ∧ w'.cell? ⟨w8.heap.size + 1,1,none⟩ = some (.int .i64 3)) (ds:=[]) (ab 28 0) kr rfl kr ⟨(blk_cell Hf_20.out 0).trans rfl,(blk_cell Hf_20.out 1).trans rfl,(blk_cell Ho_19.out 0).trans rfl,(blk_cell Ho_19.out 1).trans rfl,(blk_cell Hl_16.out 0).trans rfl,(blk_cell Hl_16.out 1).trans rfl,(blk_cell Hh_15.out 0).trans rfl,(blk_cell Hh_15.out 1).trans rfl⟩ (fun hHeld => ?_);refine with_tabW R27_14.tab R27_14.bits (fun HT_ HW_ => ?_)
 generalize (wd6).drew = we at HB30 Hq_21 Hf_20 Ho_19 Hl_16 Hh_15 Hk_13 hHeld ⊢
 refine qA 0 (some 146) ?_
 refine qE 1 (some 147) fun K hK => ?_
 refine gC Tryz.func52 #[.int .i64 5,.int .i64 1] ?_
 refine (ex_frac _ _ _).mono ?_
 rintro e we0 ⟨rfl,hb⟩
 have HB31:=am (below_then HB30.out (below_size HB30.out) hb)
 have Hq_22:=am (Kd.C_below Hq_21.out hb)
 have Hf_21:=am (blk_below Hf_20.out hb)
 have Ho_20:=am (blk_below Ho_19.out hb)
 have Hl_17:=am (blk_below Hl_16.out hb)
 have Hh_16:=am (blk_below Hh_15.out hb)
 have Hk_14:=am (Kd.C_below Hk_13.out hb)
 clear hb
 refine ⟨_,rfl,?_⟩
 refine hK.out _ _ ⟨(blk_cell Hf_21.out 0).trans rfl,(blk_cell Hf_21.out 1).trans rfl,(blk_cell Ho_20.out 0).trans rfl,(blk_cell Ho_20.out 1).trans rfl,(blk_cell Hl_17.out 0).trans rfl,(blk_cell Hl_17.out 1).trans rfl,(blk_cell Hh_16.out 0).trans rfl,(blk_cell Hh_16.out 1).trans rfl⟩ (fun hHeld => ?_)
 clear hK K
 refine qN (some 147) ?_
 refine qA 2 (some 148) ?_
 refine qE 3 (some 149) fun K hK => ?_
 refine gC Tryz.func52 #[.int .i64 15,.int .i64 2] ?_
 refine (ex_frac _ _ _).mono ?_
 rintro e we1 ⟨rfl,hb⟩
 have HB32:=am (below_then HB31.out (below_size HB31.out) hb)
 have Hq_23:=am (Kd.C_below Hq_22.out hb)
 have Hf_22:=am (blk_below Hf_21.out hb)
 have Ho_21:=am (blk_below Ho_20.out hb)
 have Hl_18:=am (blk_below Hl_17.out hb)
 have Hh_17:=am (blk_below Hh_16.out hb)
 have Hk_15:=am (Kd.C_below Hk_14.out hb)
 clear hb
 refine ⟨_,rfl,?_⟩
 refine hK.out _ _ ⟨(blk_cell Hf_22.out 0).trans rfl,(blk_cell Hf_22.out 1).trans rfl,(blk_cell Ho_21.out 0).trans rfl,(blk_cell Ho_21.out 1).trans rfl,(blk_cell Hl_18.out 0).trans rfl,(blk_cell Hl_18.out 1).trans rfl,(blk_cell Hh_17.out 0).trans rfl,(blk_cell Hh_17.out 1).trans rfl⟩ (fun hHeld => ?_)
 clear hK K
 refine qN (some 149) ?_
 refine qA 4 (some 150) ?_
 refine qE 5 (some 151) fun K hK => ?_
 refine value_ (w1:=?_) (v:=?_) (by rfl) rfl ?_ ?_
 rotate_left 2
 ·go_simp
  constructor
  ·rfl
  ·rfl
 have HB33:=am (below_alloc HB32.out (.cells #[.int .i64 12,.int .i64 5,.int .i64 1,.int .i64 13,.int .i64 15,.int .i64 2] 89))
 have Hq_24:=am (Kd.C_alloc Hq_23.out (.cells #[.int .i64 12,.int .i64 5,.int .i64 1,.int .i64 13,.int .i64 15,.int .i64 2] 89))
 have Hf_23:=am (blk_alloc Hf_22.out (.cells #[.int .i64 12,.int .i64 5,.int .i64 1,.int .i64 13,.int .i64 15,.int .i64 2] 89))
 have Ho_22:=am (blk_alloc Ho_21.out (.cells #[.int .i64 12,.int .i64 5,.int .i64 1,.int .i64 13,.int .i64 15,.int .i64 2] 89))
 have Hl_19:=am (blk_alloc Hl_18.out (.cells #[.int .i64 12,.int .i64 5,.int .i64 1,.int .i64 13,.int .i64 15,.int .i64 2] 89))
 have Hh_18:=am (blk_alloc Hh_17.out (.cells #[.int .i64 12,.int .i64 5,.int .i64 1,.int .i64 13,.int .i64 15,.int .i64 2] 89))
 have Hk_16:=am (Kd.C_alloc Hk_15.out (.cells #[.int .i64 12,.int .i64 5,.int .i64 1,.int .i64 13,.int .i64 15,.int .i64 2] 89))
 have Hx_:=am ((Kd.R_reads' (row89_2 we1 ⟨12,⟨5,1⟩⟩ ⟨13,⟨15,2⟩⟩)).2.2)
 refine hK.out _ _ ⟨(blk_cell Hf_23.out 0).trans rfl,(blk_cell Hf_23.out 1).trans rfl,(blk_cell Ho_22.out 0).trans rfl,(blk_cell Ho_22.out 1).trans rfl,(blk_cell Hl_19.out 0).trans rfl,(blk_cell Hl_19.out 1).trans rfl,(blk_cell Hh_18.out 0).trans rfl,(blk_cell Hh_18.out 1).trans rfl⟩ (fun hHeld => ?_)
 clear hK K
 refine qN (some 151) ?_
 refine qE 6 (some 152) fun K hK => ?_
 refine gC Tryz.func38 #[.slice A7 pl.length c7,.slice (some ⟨we1.heap.size,0,none⟩) 2 2] ?_
 refine (calxref04_SameParts.calls 100 A7 c7 pl (some ⟨we1.heap.size,0,none⟩) 2 [(⟨12,⟨5,1⟩⟩ : S89),⟨13,⟨15,2⟩⟩] true _ Hq_24.out HL7.out Hx_.out (by decide) (by rw [HPL.out];kernel_rfl)).mono ?_
 rintro e w' ⟨rfl,m,rfl⟩
 have HB34:=am (pw_below_drewN HB33.out m)
 have Hf_24:=am (blk_drewN Hf_23.out m)
 have Ho_23:=am (blk_drewN Ho_22.out m)
 have Hl_20:=am (blk_drewN Hl_19.out m)
 have Hh_19:=am (blk_drewN Hh_18.out m)
 have Hk_17:=am (Kd.C_drewN Hk_16.out m)
 refine ⟨_,rfl,?_⟩
 refine hK.out _ _ ⟨(blk_cell Hf_24.out 0).trans rfl,(blk_cell Hf_24.out 1).trans rfl,(blk_cell Ho_23.out 0).trans rfl,(blk_cell Ho_23.out 1).trans rfl,(blk_cell Hl_20.out 0).trans rfl,(blk_cell Hl_20.out 1).trans rfl,(blk_cell Hh_19.out 0).trans rfl,(blk_cell Hh_19.out 1).trans rfl⟩ (fun hHeld => ?_)
 clear hK K
 refine qN (some 152) ?_
 refine qA 7 (some 153) ?_;refine qT 8 (some 154) ?_
 refine qE 9 (some 155) fun K hK => ?_
 refine gC Tryz.func52 #[.int .i64 15,.int .i64 2] ?_
 refine (ex_frac _ _ _).mono ?_
 rintro e we4 ⟨rfl,hb⟩
 have HB35:=am (below_then HB34.out (below_size HB34.out) hb)
 have Hf_25:=am (blk_below Hf_24.out hb)
 have Ho_24:=am (blk_below Ho_23.out hb)
 have Hl_21:=am (blk_below Hl_20.out hb)
 have Hh_20:=am (blk_below Hh_19.out hb)
 have Hk_18:=am (Kd.C_below Hk_17.out hb)
 clear hb
 refine ⟨_,rfl,?_⟩
 refine hK.out _ _ ⟨(blk_cell Hf_25.out 0).trans rfl,(blk_cell Hf_25.out 1).trans rfl,(blk_cell Ho_24.out 0).trans rfl,(blk_cell Ho_24.out 1).trans rfl,(blk_cell Hl_21.out 0).trans rfl,(blk_cell Hl_21.out 1).trans rfl,(blk_cell Hh_20.out 0).trans rfl,(blk_cell Hh_20.out 1).trans rfl⟩ (fun hHeld => ?_)
 clear hK K
 refine qN (some 155) ?_
 refine qA 10 (some 156) ?_;refine qA 11 (some 157) ?_;refine qA 12 (some 158) ?_;refine qT 13 (some 159) ?_
 refine qE 14 (some 160) fun K hK => ?_
 refine gC Tryz.func52 #[.int .i64 0,.int .i64 1] ?_
 refine (ex_frac _ _ _).mono ?_
 rintro e we5 ⟨rfl,hb⟩
 have HB36:=am (below_then HB35.out (below_size HB35.out) hb)
 have Hf_26:=am (blk_below Hf_25.out hb)
 have Ho_25:=am (blk_below Ho_24.out hb)
 have Hl_22:=am (blk_below Hl_21.out hb)
 have Hh_21:=am (blk_below Hh_20.out hb)
 have Hk_19:=am (Kd.C_below Hk_18.out hb)
 clear hb
 refine ⟨_,rfl,?_⟩
 refine hK.out _ _ ⟨(blk_cell Hf_26.out 0).trans rfl,(blk_cell Hf_26.out 1).trans rfl,(blk_cell Ho_25.out 0).trans rfl,(blk_cell Ho_25.out 1).trans rfl,(blk_cell Hl_22.out 0).trans rfl,(blk_cell Hl_22.out 1).trans rfl,(blk_cell Hh_21.out 0).trans rfl,(blk_cell Hh_21.out 1).trans rfl⟩ (fun hHeld => ?_)
 clear hK K
 refine qN (some 160) ?_
 refine qA 15 (some 161) ?_;refine qA 16 (some 162) ?_;refine qA 17 (some 163) ?_;refine qT 18 (some 164) ?_
 refine qE 19 (some 165) fun K hK => ?_
 refine gC Tryz.func52 #[.int .i64 25,.int .i64 1] ?_
 refine (ex_frac _ _ _).mono ?_
 rintro e we6 ⟨rfl,hb⟩
 have HB37:=am (below_then HB36.out (below_size HB36.out) hb)
 have Hf_27:=am (blk_below Hf_26.out hb)
 have Ho_26:=am (blk_below Ho_25.out hb)
 have Hl_23:=am (blk_below Hl_22.out hb)
 have Hh_22:=am (blk_below Hh_21.out hb)
 have Hk_20:=am (Kd.C_below Hk_19.out hb)
 clear hb
 refine ⟨_,rfl,?_⟩
 refine hK.out _ _ ⟨(blk_cell Hf_27.out 0).trans rfl,(blk_cell Hf_27.out 1).trans rfl,(blk_cell Ho_26.out 0).trans rfl,(blk_cell Ho_26.out 1).trans rfl,(blk_cell Hl_23.out 0).trans rfl,(blk_cell Hl_23.out 1).trans rfl,(blk_cell Hh_22.out 0).trans rfl,(blk_cell Hh_22.out 1).trans rfl⟩ (fun hHeld => ?_)
 clear hK K
 refine qN (some 165) ?_
 refine qA 20 (some 166) ?_;refine qA 21 (some 167) ?_;refine qA 22 (some 168) ?_;refine qT 23 (some 169) ?_
 refine qE 24 (some 170) fun K hK => ?_
 refine gC Tryz.func52 #[.int .i64 700,.int .i64 3] ?_
 refine (ex_frac _ _ _).mono ?_
 rintro e we7 ⟨rfl,hb⟩
 have HB38:=am (below_then HB37.out (below_size HB37.out) hb)
 have Hf_28:=am (blk_below Hf_27.out hb)
 have Ho_27:=am (blk_below Ho_26.out hb)
 have Hl_24:=am (blk_below Hl_23.out hb)
 have Hh_23:=am (blk_below Hh_22.out hb)
 have Hk_21:=am (Kd.C_below Hk_20.out hb)
 clear hb
 refine ⟨_,rfl,?_⟩
 refine hK.out _ _ ⟨(blk_cell Hf_28.out 0).trans rfl,(blk_cell Hf_28.out 1).trans rfl,(blk_cell Ho_27.out 0).trans rfl,(blk_cell Ho_27.out 1).trans rfl,(blk_cell Hl_24.out 0).trans rfl,(blk_cell Hl_24.out 1).trans rfl,(blk_cell Hh_23.out 0).trans rfl,(blk_cell Hh_23.out 1).trans rfl⟩ (fun hHeld => ?_)
 clear hK K
 refine qN (some 170) ?_
 refine qA 25 (some 171) ?_;refine qA 26 (some 172) ?_;refine qA 27 (some 26) ?_
 refine done_ (done_of HT_.out kr) ?_
 go_wp2_with fail
 refine (ex_frac _ _ _).mono ?_
 rintro e wf0 ⟨rfl,hb⟩
 have HB39:=am (below_then HB38.out (below_size HB38.out) hb)
 have Hk_22:=am (Kd.C_below Hk_21.out hb)
 clear hb
 go_wp2_with fail
 refine (ex_frac _ _ _).mono ?_
 rintro e wf1 ⟨rfl,hb⟩
 have HB40:=am (below_then HB39.out (below_size HB39.out) hb)
 have Hk_23:=am (Kd.C_below Hk_22.out hb)
 clear hb
 go_wp2_with fail
 refine (ex_frac _ _ _).mono ?_
 rintro e wf2 ⟨rfl,hb⟩
 have HB41:=am (below_then HB40.out (below_size HB40.out) hb)
 have Hk_24:=am (Kd.C_below Hk_23.out hb)
 clear hb
 go_wp2_with fail
 refine (ex_frac _ _ _).mono ?_
 rintro e wf3 ⟨rfl,hb⟩
 have HB42:=am (below_then HB41.out (below_size HB41.out) hb)
 have Hk_25:=am (Kd.C_below Hk_24.out hb)
 clear hb
 have HB43:=am (below_alloc HB42.out (.cells #[.int .i64 1,.int .i64 200,.int .i64 1,.int .i64 216,.int .i64 1,.int .i64 2,.int .i64 200,.int .i64 1,.int .i64 216,.int .i64 1] 139))
 have Hk_26:=am (Kd.C_alloc Hk_25.out (.cells #[.int .i64 1,.int .i64 200,.int .i64 1,.int .i64 216,.int .i64 1,.int .i64 2,.int .i64 200,.int .i64 1,.int .i64 216,.int .i64 1] 139))
 have HXK:=am (Kd.R_reads' (row139_2 wf3 ⟨1,⟨200,1⟩,⟨216,1⟩⟩ ⟨2,⟨200,1⟩,⟨216,1⟩⟩)).2.2
 go_wp2_with fail
 refine (calxref04_SameBlames.calls 100 A9 c9 pk (some ⟨wf3.heap.size,0,none⟩) 2 [(⟨1,⟨200,1⟩,⟨216,1⟩⟩ : S139),⟨2,⟨200,1⟩,⟨216,1⟩⟩] true _ Hk_26.out HL9.out HXK.out (by decide) (by rw [HPK.out];kernel_rfl)).mono ?_
 rintro e w' ⟨rfl,m,rfl⟩
 have HB44:=am (pw_below_drewN HB43.out m)
 go_wp2
 go_ret
 exact ⟨rfl,HB44.out⟩
end
def pit_Add.j0 : Nat → Bool → Int → Int → Int → Int → Option (Int × Int × Int)
|0,_,_,_,_,_ => none
|k + 1,x13,x102000,x102001,x103000,x103001 => if x13 = true then (some (0,0,1)) else ((pit_add.f k x102000 x102001 x103000 x103001).bind fun bt106 => ((pit_result.f k bt106.1 bt106.2).bind fun bt108 => (some (bt108.1,bt108.2.1,bt108.2.2))))
def pit_Add.f (k : Nat) (a0_0 : Int) (a0_1 : Int) (a1_0 : Int) (a1_1 : Int) : Option (Int × Int × Int):=(pit_valid.f k a0_0 a0_1).bind fun t104 => (if t104 = true then ((pit_valid.f k a1_0 a1_1).bind fun t105 => (pit_Add.j0 k (!t105) a0_0 a0_1 a1_0 a1_1)) else (pit_Add.j0 k true a0_0 a0_1 a1_0 a1_1))
theorem pit_Add.mono_l : ∀ k,(∀ y0 y1 y2 y3 y4,LeO (pit_Add.j0 k y0 y1 y2 y3 y4) (pit_Add.j0 (k + 1) y0 y1 y2 y3 y4))
|0 => fun _ _ _ _ _ r h => by simp [pit_Add.j0] at h
|k + 1 => by
  have ih0:=pit_Add.mono_l k
  ·intro y0 y1 y2 y3 y4
   unfold pit_Add.j0
   repeat' first
  |(with_reducible exact ih0 _ _ _ _ _)
  |(with_reducible exact pit_add.mono _ _ _ _ _)
  |(with_reducible exact pit_result.mono _ _ _)
  |(with_reducible exact pit_valid.mono _ _ _)
  |(with_reducible exact LeO.refl _)
  |(with_reducible exact LeO.none _)
  |(with_reducible refine LeO.ite ?_ ?_)
  |(with_reducible refine LeO.bind ?_ (fun _ => ?_))
  |exact ih0 _ _ _ _ _
  |exact pit_add.mono _ _ _ _ _
  |exact pit_result.mono _ _ _
  |exact pit_valid.mono _ _ _
  |exact LeO.none _
  |refine LeO.ite ?_ ?_
  |refine LeO.bind ?_ (fun _ => ?_)
theorem pit_Add.mono : ∀ a0 a1 a2 a3 k,LeO (pit_Add.f k a0 a1 a2 a3) (pit_Add.f (k + 1) a0 a1 a2 a3):=by
 intro a0 a1 a2 a3 k
 have ih0:=pit_Add.mono_l k
 unfold pit_Add.f
 repeat' first
  |(with_reducible exact ih0 _ _ _ _ _)
  |(with_reducible exact pit_add.mono _ _ _ _ _)
  |(with_reducible exact pit_result.mono _ _ _)
  |(with_reducible exact pit_valid.mono _ _ _)
  |(with_reducible exact LeO.refl _)
  |(with_reducible exact LeO.none _)
  |(with_reducible refine LeO.ite ?_ ?_)
  |(with_reducible refine LeO.bind ?_ (fun _ => ?_))
  |exact ih0 _ _ _ _ _
  |exact pit_add.mono _ _ _ _ _
  |exact pit_result.mono _ _ _
  |exact pit_valid.mono _ _ _
  |exact LeO.none _
  |refine LeO.ite ?_ ?_
  |refine LeO.bind ?_ (fun _ => ?_)
set_option maxHeartbeats 8000000 in
set_option maxRecDepth 100000 in
theorem pit_Add.calls (k : Nat) (a0_0 : Int) (a0_1 : Int) (a1_0 : Int) (a1_1 : Int) (r1 : Int) (r2 : Int) (r3 : Int) (w : World) (h : pit_Add.f k a0_0 a0_1 a1_0 a1_1 = some (r1,r2,r3)) :
  Calls Tryz.prog 24 #[.agg #[.int .i64 a0_0,.int .i64 a0_1],.agg #[.int .i64 a1_0,.int .i64 a1_1]] w fun e w' => e = .returned (.tuple #[.agg #[.int .i64 r1,.int .i64 r2],.int .i64 r3]) ∧ Below w.heap.size w w':=by
 have hu43:=Tryz.underlying43
 have HB:=am (Below.refl w.heap.size w)
 have H : ((pit_valid.f k a0_0 a0_1).bind fun t104 => (if t104 = true then ((pit_valid.f k a1_0 a1_1).bind fun t105 => (pit_Add.j0 k (!t105) a0_0 a0_1 a1_0 a1_1)) else (pit_Add.j0 k true a0_0 a0_1 a1_0 a1_1))) = some (r1,r2,r3):=h
 clear h
 have HC3:=am H
 clear H
 go_enter Tryz.func24,Tryz.ntmps24
 go_upto_region 1 with (first|(refine bE 2 #[.int .i64 a0_0,.int .i64 a0_1] 43 ?_;intro gb101 hg w4 hbox hb;have BK101:=am (hbox);have GW101:=am (lg hg (below_size (v0 HB.out)) : w.heap.size ≤ gb101);have GE101:=GW101;replace HB:=am (below_step (v0 HB.out) hb);clear hb hbox hg)|(refine bE 3 #[.int .i64 a1_0,.int .i64 a1_1] 43 ?_;intro gb102 hg w5 hbox hb;have BK102:=am (hbox);have GW102:=am (lg hg (below_size (v1 HB.out GE101.out)) : w.heap.size ≤ gb102);have GE102:=GW102;have NB101_102:=am (nl hg (vb BK101.out));have NB102_101:=am ((nl hg (vb BK101.out)).symm);replace BK101:=am (blk_below (vb BK101.out) hb);replace HB:=am (below_step (v1 HB.out GE101.out) hb);clear hb hbox hg)|(refine bE 4 #[.int .i64 0,.int .i64 0] 43 ?_;intro gb103 hg w6 hbox hb;have BK103:=am (hbox);have GW103:=am (lg hg (below_size (v2 HB.out GE101.out GE102.out)) : w.heap.size ≤ gb103);have GE103:=GW103;have NB101_103:=am (nl hg (vb BK101.out));have NB103_101:=am ((nl hg (vb BK101.out)).symm);have NB102_103:=am (nl hg (vb BK102.out));have NB103_102:=am ((nl hg (vb BK102.out)).symm);replace BK101:=am (blk_below (vb BK101.out) hb);replace BK102:=am (blk_below (vb BK102.out) hb);replace HB:=am (below_step (v2 HB.out GE101.out GE102.out) hb);clear hb hbox hg))
 (try simp only [Act.put,List.setIfInBounds_toArray,List.set_cons_zero,List.set_cons_succ])
 go_cut [13] (fun v13 wc => ∃ (kq : Nat) (x13_2 : Bool),v13 = .bool x13_2 ∧ Aside0 (pit_Add.j0 kq x13_2 a0_0 a0_1 a1_0 a1_1 = some (r1,r2,r3)) ∧ Aside0 (kq ≤ k) ∧ Aside0 (wc.heap[gb101]? = some (.cells #[.int .i64 a0_0,.int .i64 a0_1] 43 (0,0))) ∧ Aside0 (wc.heap[gb102]? = some (.cells #[.int .i64 a1_0,.int .i64 a1_1] 43 (0,0))) ∧ Aside0 (wc.heap[gb103]? = some (.cells #[.int .i64 0,.int .i64 0] 43 (0,0))) ∧ Aside0 (Below w.heap.size w wc))
 case first =>
  have H:=HC3.out
  clear HC3
  replace H:=Option.bind_eq_some_iff.mp H
  obtain ⟨t104,A70,H⟩:=H
  replace H : (if t104 = true then ((pit_valid.f k a1_0 a1_1).bind fun t105 => (pit_Add.j0 k (!t105) a0_0 a0_1 a1_0 a1_1)) else (pit_Add.j0 k true a0_0 a0_1 a1_0 a1_1)) = some (r1,r2,r3):=H
  have A7:=am A70
  clear A70
  by_cases c8 : t104 = true
  ·subst c8
   have H1 : ((pit_valid.f k a1_0 a1_1).bind fun t105 => (pit_Add.j0 k (!t105) a0_0 a0_1 a1_0 a1_1)) = some (r1,r2,r3):=by rw [if_pos rfl] at H;exact H
   clear H
   have H:=H1
   clear H1
   replace H:=Option.bind_eq_some_iff.mp H
   obtain ⟨t105,A90,H⟩:=H
   replace H : (pit_Add.j0 k (!t105) a0_0 a0_1 a1_0 a1_1) = some (r1,r2,r3):=H
   have A9:=am A90
   clear A90
   have H':=am H
   clear H
   have hnb10:=NB101_102.out
   have hnc10:=NB102_101.out
   have hnb11:=NB101_103.out
   have hnc11:=NB103_101.out
   have hcz12_0:=bd BK101.out 0
   have hcz12_1:=bd BK101.out 1
   have hfz12_0:=blk_frozen BK101.out 0
   have hfz12_1:=blk_frozen BK101.out 1
   go_wp2_with (first|(refine cE (some 7) Tryz.func89 #[.agg #[.int .i64 a0_0,.int .i64 a0_1]] ?_;(with_reducible refine (pit_valid.calls k a0_0 a0_1 true _ A7.out).mono ?_);rintro e w13 ⟨rfl,hb⟩;refine ⟨_,rfl,?_⟩;replace BK101:=am (blk_below (vb BK101.out) hb);replace BK102:=am (blk_below (vb BK102.out) hb);replace BK103:=am (blk_below (vb BK103.out) hb);replace HB:=am (below_step (v3 HB.out GE101.out GE102.out GE103.out) hb);(try clear hb);(try clear hb2);(try clear hk);(try clear hi);have hnb14:=NB102_103.out;have hnc14:=NB103_102.out;have hcz15_0:=bd BK102.out 0;have hcz15_1:=bd BK102.out 1;have hfz15_0:=blk_frozen BK102.out 0;have hfz15_1:=blk_frozen BK102.out 1)|(go_at_call 89;(with_reducible refine (pit_valid.calls k a1_0 a1_1 t105 _ A9.out).mono ?_);rintro e w16 ⟨rfl,hb⟩;replace BK101:=am (blk_below (vb BK101.out) hb);replace BK102:=am (blk_below (vb BK102.out) hb);replace BK103:=am (blk_below (vb BK103.out) hb);replace HB:=am (below_step (v3 HB.out GE101.out GE102.out GE103.out) hb);(try clear hb);(try clear hb2);(try clear hk);(try clear hi)))
   go_meet
   case rel => exact ⟨_,(!t105),ve,H',⟨by first|omega|exact Nat.le_refl _⟩,⟨vb BK101.out⟩,⟨vb BK102.out⟩,⟨vb BK103.out⟩,⟨v3 HB.out GE101.out GE102.out GE103.out⟩⟩
  ·replace c8:=Bool.eq_false_iff.mpr c8
   subst c8
   have H1 : (pit_Add.j0 k true a0_0 a0_1 a1_0 a1_1) = some (r1,r2,r3):=by rw [if_neg (show ¬ (false = true) by decide)] at H;exact H
   clear H
   have H:=H1
   clear H1
   have H':=am H
   clear H
   have hnb17:=NB101_102.out
   have hnc17:=NB102_101.out
   have hnb18:=NB101_103.out
   have hnc18:=NB103_101.out
   have hcz19_0:=bd BK101.out 0
   have hcz19_1:=bd BK101.out 1
   have hfz19_0:=blk_frozen BK101.out 0
   have hfz19_1:=blk_frozen BK101.out 1
   go_wp2_with (first|(refine cE (some 7) Tryz.func89 #[.agg #[.int .i64 a0_0,.int .i64 a0_1]] ?_;(with_reducible refine (pit_valid.calls k a0_0 a0_1 false _ A7.out).mono ?_);rintro e w20 ⟨rfl,hb⟩;refine ⟨_,rfl,?_⟩;replace BK101:=am (blk_below (vb BK101.out) hb);replace BK102:=am (blk_below (vb BK102.out) hb);replace BK103:=am (blk_below (vb BK103.out) hb);replace HB:=am (below_step (v3 HB.out GE101.out GE102.out GE103.out) hb);(try clear hb);(try clear hb2);(try clear hk);(try clear hi)))
   go_meet
   case rel => exact ⟨_,(true),ve,H',⟨by first|omega|exact Nat.le_refl _⟩,⟨vb BK101.out⟩,⟨vb BK102.out⟩,⟨vb BK103.out⟩,⟨v3 HB.out GE101.out GE102.out GE103.out⟩⟩
 case rest =>
  clear HC3
  try clear c1
  try clear c2
  try clear p2
  try clear c8
  try clear c10
  try clear c11
  try clear c14
  try clear c17
  try clear c18
  try clear hcz12_0
  try clear hcz12_1
  try clear hcz15_0
  try clear hcz15_1
  try clear hcz19_0
  try clear hcz19_1
  try clear hfz12_0
  try clear hfz12_1
  try clear hfz15_0
  try clear hfz15_1
  try clear hfz19_0
  try clear hfz19_1
  obtain ⟨kq,x13_2,rfl,HA,HJ2,BK101,BK102,BK103,HB⟩:=hcut
  cases kq with
 |zero => exact absurd HA.out (by simp [pit_Add.j0])
 |succ kj2 =>
   have H:=HA.out
   clear HA
   simp only [pit_Add.j0] at H
   by_cases c21 : x13_2 = true
   ·subst c21
    have H1 : (some (0,0,1)) = some (r1,r2,r3):=by rw [if_pos rfl] at H;exact H
    clear H
    have H:=H1
    clear H1
    simp only [Option.some.injEq,Prod.mk.injEq] at H
    obtain ⟨rfl,rfl,rfl⟩:=H
    have hnb22:=NB103_101.out
    have hnc22:=NB101_103.out
    have hnb23:=NB103_102.out
    have hnc23:=NB102_103.out
    have hcz24_0:=bd BK103.out 0
    have hcz24_1:=bd BK103.out 1
    have hfz24_0:=blk_frozen BK103.out 0
    have hfz24_1:=blk_frozen BK103.out 1
    go_wp2
    refine bodyPost_ret (results_ct rfl _ _ gb103 43 #[.int .i64 0,.int .i64 0] (0,0) _ rfl (by (with_reducible repeat (first|refine blk_drewN ?_ _|refine blk_drew ?_|refine blk_alloc ?_ _));refine blk_put (cs:=#[.int .i64 0,.int .i64 0]) ?_ 1 _ rfl;(with_reducible repeat (first|refine blk_drewN ?_ _|refine blk_drew ?_|refine blk_alloc ?_ _));refine blk_put (cs:=#[.int .i64 0,.int .i64 0]) ?_ 0 _ rfl;(with_reducible repeat (first|refine blk_drewN ?_ _|refine blk_drew ?_|refine blk_alloc ?_ _));exact BK103.out) Tryz.underlying43 rfl kr) rfl ?_
    exact ⟨vf,v3 HB.out GE101.out GE102.out GE103.out⟩
   ·replace c21:=Bool.eq_false_iff.mpr c21
    subst c21
    have H1 : ((pit_add.f kj2 a0_0 a0_1 a1_0 a1_1).bind fun bt106 => ((pit_result.f kj2 bt106.1 bt106.2).bind fun bt108 => (some (bt108.1,bt108.2.1,bt108.2.2)))) = some (r1,r2,r3):=by rw [if_neg (show ¬ (false = true) by decide)] at H;exact H
    clear H
    have H:=H1
    clear H1
    replace H:=Option.bind_eq_some_iff.mp H
    obtain ⟨⟨t106,t107⟩,A250,H⟩:=H
    replace H : ((pit_result.f kj2 t106 t107).bind fun bt108 => (some (bt108.1,bt108.2.1,bt108.2.2))) = some (r1,r2,r3):=H
    have A25:=am A250
    clear A250
    replace H:=Option.bind_eq_some_iff.mp H
    obtain ⟨⟨t108,t109,t110⟩,A260,H⟩:=H
    replace H : (some (t108,t109,t110)) = some (r1,r2,r3):=H
    have A26:=am A260
    clear A260
    simp only [Option.some.injEq,Prod.mk.injEq] at H
    obtain ⟨rfl,rfl,rfl⟩:=H
    have hnb27:=NB101_102.out
    have hnc27:=NB102_101.out
    have hnb28:=NB101_103.out
    have hnc28:=NB103_101.out
    have hcz29_0:=bd BK101.out 0
    have hcz29_1:=bd BK101.out 1
    have hfz29_0:=blk_frozen BK101.out 0
    have hfz29_1:=blk_frozen BK101.out 1
    have hnb30:=NB102_103.out
    have hnc30:=NB103_102.out
    have hcz31_0:=bd BK102.out 0
    have hcz31_1:=bd BK102.out 1
    have hfz31_0:=blk_frozen BK102.out 0
    have hfz31_1:=blk_frozen BK102.out 1
    go_wp2_with (first|(refine cE (some 17) Tryz.func93 #[.agg #[.int .i64 a0_0,.int .i64 a0_1],.agg #[.int .i64 a1_0,.int .i64 a1_1]] ?_;(with_reducible refine (pit_add.calls kj2 a0_0 a0_1 a1_0 a1_1 t106 t107 _ A25.out).mono ?_);rintro e w32 ⟨rfl,hb⟩;refine ⟨_,rfl,?_⟩;replace BK101:=am (blk_below (vb BK101.out) hb);replace BK102:=am (blk_below (vb BK102.out) hb);replace BK103:=am (blk_below (vb BK103.out) hb);replace HB:=am (below_step (v3 HB.out GE101.out GE102.out GE103.out) hb);(try clear hb);(try clear hb2);(try clear hk);(try clear hi))|(refine cE (some 18) Tryz.func92 #[.agg #[.int .i64 t106,.int .i64 t107]] ?_;(with_reducible refine (pit_result.calls kj2 t106 t107 t108 t109 t110 _ A26.out).mono ?_);rintro e w33 ⟨rfl,hb⟩;refine ⟨_,rfl,?_⟩;replace BK101:=am (blk_below (vb BK101.out) hb);replace BK102:=am (blk_below (vb BK102.out) hb);replace BK103:=am (blk_below (vb BK103.out) hb);replace HB:=am (below_step (v3 HB.out GE101.out GE102.out GE103.out) hb);(try clear hb);(try clear hb2);(try clear hk);(try clear hi);have hcz34_0:=bd BK103.out 0;have hcz34_1:=bd BK103.out 1;have hfz34_0:=blk_frozen BK103.out 0;have hfz34_1:=blk_frozen BK103.out 1))
    refine bodyPost_ret (results_ct rfl _ _ gb103 43 #[.int .i64 t108,.int .i64 t109] (0,0) _ rfl (by (with_reducible repeat (first|refine blk_drewN ?_ _|refine blk_drew ?_|refine blk_alloc ?_ _));refine blk_put (cs:=#[.int .i64 t108,.int .i64 0]) ?_ 1 _ rfl;(with_reducible repeat (first|refine blk_drewN ?_ _|refine blk_drew ?_|refine blk_alloc ?_ _));refine blk_put (cs:=#[.int .i64 0,.int .i64 0]) ?_ 0 _ rfl;(with_reducible repeat (first|refine blk_drewN ?_ _|refine blk_drew ?_|refine blk_alloc ?_ _));exact BK103.out) Tryz.underlying43 rfl kr) rfl ?_
    exact ⟨vf,v3 HB.out GE101.out GE102.out GE103.out⟩
def calxlaw04_sanity.f : Option Bool:=some true
theorem calxlaw04_sanity.calls (r : Bool) (w : World) (h : calxlaw04_sanity.f = some r) : Calls Tryz.prog 27 #[] w fun e w' => e = .returned (.bool r) ∧ Below w.heap.size w w':=by
 obtain rfl:=Option.some.inj h
 exact sanity_calls w
def AddP (a b : S43) : S43 × Int:=if (validP a && validP b) = true then resultP (addP a b) else (⟨0,0⟩,1)
theorem AddP_prog (a b : S43) : pit_Add.f (FU + 1) a.f0 a.f1 b.f0 b.f1 = some ((AddP a b).1.f0,(AddP a b).1.f1,(AddP a b).2):=by
 unfold pit_Add.f AddP
 rw [pit_valid.mono _ _ _ _ (valid_some a),pit_valid.mono _ _ _ _ (valid_some b)]
 simp only [Option.bind_some,pit_Add.j0]
 cases ha : validP a
 ·rfl
 cases hb : validP b
 ·rfl
 simp only [Bool.not_true,Bool.false_eq_true,if_true,if_false,Bool.and_true,add_valid ha hb,Option.bind_some,result_some]
def calxlaw04_sum.f (k : Nat) (a0_0 : Int) (a0_1 : Int) (a1_0 : Int) (a1_1 : Int) (a2 : Bool) : Option (Int × Int × Bool):=if a2 = true then ((pit_Add.f k a0_0 a0_1 a1_0 a1_1).bind fun bt104 => (some (bt104.1,bt104.2.1,(bt104.2.2 == 0)))) else (some (0,0,false))
set_option maxHeartbeats 8000000 in
set_option maxRecDepth 100000 in
theorem calxlaw04_sum.calls (k : Nat) (a0_0 : Int) (a0_1 : Int) (a1_0 : Int) (a1_1 : Int) (a2 : Bool) (r1 : Int) (r2 : Int) (r3 : Bool) (w : World) (h : calxlaw04_sum.f k a0_0 a0_1 a1_0 a1_1 a2 = some (r1,r2,r3)) :
  Calls Tryz.prog 51 #[.agg #[.int .i64 a0_0,.int .i64 a0_1],.agg #[.int .i64 a1_0,.int .i64 a1_1],.bool a2] w fun e w' => e = .returned (.tuple #[.agg #[.int .i64 r1,.int .i64 r2],.bool r3]) ∧ Below w.heap.size w w':=by
 have hu43:=Tryz.underlying43
 have HB:=am (Below.refl w.heap.size w)
 have H : (if a2 = true then ((pit_Add.f k a0_0 a0_1 a1_0 a1_1).bind fun bt104 => (some (bt104.1,bt104.2.1,(bt104.2.2 == 0)))) else (some (0,0,false))) = some (r1,r2,r3):=h
 clear h
 by_cases c4 : a2 = true
 ·subst c4
  have H1 : ((pit_Add.f k a0_0 a0_1 a1_0 a1_1).bind fun bt104 => (some (bt104.1,bt104.2.1,(bt104.2.2 == 0)))) = some (r1,r2,r3):=by rw [if_pos rfl] at H;exact H
  clear H
  have H:=H1
  clear H1
  replace H:=Option.bind_eq_some_iff.mp H
  obtain ⟨⟨t104,t105,t106⟩,A50,H⟩:=H
  replace H : (some (t104,t105,(t106 == 0))) = some (r1,r2,r3):=H
  have A5:=am A50
  clear A50
  simp only [Option.some.injEq,Prod.mk.injEq] at H
  obtain ⟨rfl,rfl,rfl⟩:=H
  go_enter Tryz.func51,Tryz.ntmps51
  go_wp2_with (first|(refine bE 3 #[.int .i64 a0_0,.int .i64 a0_1] 43 ?_;intro gb101 hg w6 hbox hb;have BK101:=am (hbox);have GW101:=am (lg hg (below_size (v0 HB.out)) : w.heap.size ≤ gb101);have GE101:=GW101;replace HB:=am (below_step (v0 HB.out) hb);clear hb hbox hg)|(refine bE 4 #[.int .i64 a1_0,.int .i64 a1_1] 43 ?_;intro gb102 hg w7 hbox hb;have BK102:=am (hbox);have GW102:=am (lg hg (below_size (v1 HB.out GE101.out)) : w.heap.size ≤ gb102);have GE102:=GW102;have NB101_102:=am (nl hg (vb BK101.out));have NB102_101:=am ((nl hg (vb BK101.out)).symm);replace BK101:=am (blk_below (vb BK101.out) hb);replace HB:=am (below_step (v1 HB.out GE101.out) hb);clear hb hbox hg)|(refine bE 6 #[.int .i64 0,.int .i64 0] 43 ?_;intro gb103 hg w8 hbox hb;have BK103:=am (hbox);have GW103:=am (lg hg (below_size (v2 HB.out GE101.out GE102.out)) : w.heap.size ≤ gb103);have GE103:=GW103;have NB101_103:=am (nl hg (vb BK101.out));have NB103_101:=am ((nl hg (vb BK101.out)).symm);have NB102_103:=am (nl hg (vb BK102.out));have NB103_102:=am ((nl hg (vb BK102.out)).symm);replace BK101:=am (blk_below (vb BK101.out) hb);replace BK102:=am (blk_below (vb BK102.out) hb);replace HB:=am (below_step (v2 HB.out GE101.out GE102.out) hb);clear hb hbox hg;have hnb9:=NB101_102.out;have hnc9:=NB102_101.out;have hnb10:=NB101_103.out;have hnc10:=NB103_101.out;have hcz11_0:=bd BK101.out 0;have hcz11_1:=bd BK101.out 1;have hfz11_0:=blk_frozen BK101.out 0;have hfz11_1:=blk_frozen BK101.out 1;have hnb12:=NB102_103.out;have hnc12:=NB103_102.out;have hcz13_0:=bd BK102.out 0;have hcz13_1:=bd BK102.out 1;have hfz13_0:=blk_frozen BK102.out 0;have hfz13_1:=blk_frozen BK102.out 1)|(refine cE (some 16) Tryz.func24 #[.agg #[.int .i64 a0_0,.int .i64 a0_1],.agg #[.int .i64 a1_0,.int .i64 a1_1]] ?_;(with_reducible refine (pit_Add.calls k a0_0 a0_1 a1_0 a1_1 t104 t105 t106 _ A5.out).mono ?_);rintro e w14 ⟨rfl,hb⟩;refine ⟨_,rfl,?_⟩;replace BK101:=am (blk_below (vb BK101.out) hb);replace BK102:=am (blk_below (vb BK102.out) hb);replace BK103:=am (blk_below (vb BK103.out) hb);replace HB:=am (below_step (v3 HB.out GE101.out GE102.out GE103.out) hb);(try clear hb);(try clear hb2);(try clear hk);(try clear hi))|(refine bE 8 #[.int .i64 0,.int .i64 0] 43 ?_;intro gb107 hg w15 hbox hb;have BK107:=am (hbox);have GW107:=am (lg hg (below_size (v3 HB.out GE101.out GE102.out GE103.out)) : w.heap.size ≤ gb107);have GE107:=GW107;have NB101_107:=am (nl hg (vb BK101.out));have NB107_101:=am ((nl hg (vb BK101.out)).symm);have NB102_107:=am (nl hg (vb BK102.out));have NB107_102:=am ((nl hg (vb BK102.out)).symm);have NB103_107:=am (nl hg (vb BK103.out));have NB107_103:=am ((nl hg (vb BK103.out)).symm);replace BK101:=am (blk_below (vb BK101.out) hb);replace BK102:=am (blk_below (vb BK102.out) hb);replace BK103:=am (blk_below (vb BK103.out) hb);replace HB:=am (below_step (v3 HB.out GE101.out GE102.out GE103.out) hb);clear hb hbox hg;have hnb16:=NB107_101.out;have hnc16:=NB101_107.out;have hnb17:=NB107_102.out;have hnc17:=NB102_107.out;have hnb18:=NB107_103.out;have hnc18:=NB103_107.out;have hcz19_0:=bd BK107.out 0;have hcz19_1:=bd BK107.out 1;have hfz19_0:=blk_frozen BK107.out 0;have hfz19_1:=blk_frozen BK107.out 1;have hcz20_0:=bd BK103.out 0;have hcz20_1:=bd BK103.out 1;have hfz20_0:=blk_frozen BK103.out 0;have hfz20_1:=blk_frozen BK103.out 1))
  refine bodyPost_ret (results_ct rfl _ _ gb103 43 #[.int .i64 t104,.int .i64 t105] (0,0) _ rfl (by (with_reducible repeat (first|refine blk_drewN ?_ _|refine blk_drew ?_|refine blk_alloc ?_ _));refine blk_put (cs:=#[.int .i64 t104,.int .i64 0]) ?_ 1 _ rfl;(with_reducible repeat (first|refine blk_drewN ?_ _|refine blk_drew ?_|refine blk_alloc ?_ _));refine blk_put (cs:=#[.int .i64 0,.int .i64 0]) ?_ 0 _ rfl;(with_reducible repeat (first|refine blk_drewN ?_ _|refine blk_drew ?_|refine blk_alloc ?_ _));refine blk_far ?_ NB103_107.out _;(with_reducible repeat (first|refine blk_drewN ?_ _|refine blk_drew ?_|refine blk_alloc ?_ _));refine blk_far ?_ NB103_107.out _;(with_reducible repeat (first|refine blk_drewN ?_ _|refine blk_drew ?_|refine blk_alloc ?_ _));exact BK103.out) Tryz.underlying43 rfl kr) rfl ?_
  exact ⟨vf,by repeat (first|(with_reducible first|exact HB.out|apply below_alloc|apply pw_below_drewN|apply below_drew1|refine below_set ?_ GE101.out|refine below_set ?_ GE102.out|refine below_set ?_ GE103.out|refine below_set ?_ GE107.out)|exact HB.out)⟩
 ·replace c4:=Bool.eq_false_iff.mpr c4
  subst c4
  have H1 : (some (0,0,false)) = some (r1,r2,r3):=by rw [if_neg (show ¬ (false = true) by decide)] at H;exact H
  clear H
  have H:=H1
  clear H1
  simp only [Option.some.injEq,Prod.mk.injEq] at H
  obtain ⟨rfl,rfl,rfl⟩:=H
  go_enter Tryz.func51,Tryz.ntmps51
  go_wp2_with (first|(refine bE 3 #[.int .i64 a0_0,.int .i64 a0_1] 43 ?_;intro gb101 hg w21 hbox hb;have BK101:=am (hbox);have GW101:=am (lg hg (below_size (v0 HB.out)) : w.heap.size ≤ gb101);have GE101:=GW101;replace HB:=am (below_step (v0 HB.out) hb);clear hb hbox hg)|(refine bE 4 #[.int .i64 a1_0,.int .i64 a1_1] 43 ?_;intro gb102 hg w22 hbox hb;have BK102:=am (hbox);have GW102:=am (lg hg (below_size (v1 HB.out GE101.out)) : w.heap.size ≤ gb102);have GE102:=GW102;have NB101_102:=am (nl hg (vb BK101.out));have NB102_101:=am ((nl hg (vb BK101.out)).symm);replace BK101:=am (blk_below (vb BK101.out) hb);replace HB:=am (below_step (v1 HB.out GE101.out) hb);clear hb hbox hg)|(refine bE 6 #[.int .i64 0,.int .i64 0] 43 ?_;intro gb103 hg w23 hbox hb;have BK103:=am (hbox);have GW103:=am (lg hg (below_size (v2 HB.out GE101.out GE102.out)) : w.heap.size ≤ gb103);have GE103:=GW103;have NB101_103:=am (nl hg (vb BK101.out));have NB103_101:=am ((nl hg (vb BK101.out)).symm);have NB102_103:=am (nl hg (vb BK102.out));have NB103_102:=am ((nl hg (vb BK102.out)).symm);replace BK101:=am (blk_below (vb BK101.out) hb);replace BK102:=am (blk_below (vb BK102.out) hb);replace HB:=am (below_step (v2 HB.out GE101.out GE102.out) hb);clear hb hbox hg;have hnb24:=NB103_101.out;have hnc24:=NB101_103.out;have hnb25:=NB103_102.out;have hnc25:=NB102_103.out;have hcz26_0:=bd BK103.out 0;have hcz26_1:=bd BK103.out 1;have hfz26_0:=blk_frozen BK103.out 0;have hfz26_1:=blk_frozen BK103.out 1))
  refine bodyPost_ret (results_ct rfl _ _ gb103 43 #[.int .i64 0,.int .i64 0] (0,0) _ rfl (by (with_reducible repeat (first|refine blk_drewN ?_ _|refine blk_drew ?_|refine blk_alloc ?_ _));refine blk_put (cs:=#[.int .i64 0,.int .i64 0]) ?_ 1 _ rfl;(with_reducible repeat (first|refine blk_drewN ?_ _|refine blk_drew ?_|refine blk_alloc ?_ _));refine blk_put (cs:=#[.int .i64 0,.int .i64 0]) ?_ 0 _ rfl;(with_reducible repeat (first|refine blk_drewN ?_ _|refine blk_drew ?_|refine blk_alloc ?_ _));exact BK103.out) Tryz.underlying43 rfl kr) rfl ?_
  exact ⟨vf,v3 HB.out GE101.out GE102.out GE103.out⟩
def calxlaw04_poured.l0 : Nat → Int → List (S84) → Int → Int → Option (Int)
|0,_,_,_,_ => none
|k + 1,x1,x8,x9,x10 => if x10 < x9 then (if 0 ≤ x10 then (if x10 < (x8.length : Int) then (if ((rd_T84 x8 x10).f1) = 1 then (if ((rd_T84 x8 x10).f0) = x1 then (some ((rd_T84 x8 x10).f5)) else (calxlaw04_poured.l0 k x1 x8 x9 (wrap64 (x10 + 1)))) else (calxlaw04_poured.l0 k x1 x8 x9 (wrap64 (x10 + 1)))) else (none)) else (none)) else (some 0)
def calxlaw04_poured.f (k : Nat) (l0_0 : List Int) (l0_1 : List (S84)) (a1 : Int) : Option (Int):=calxlaw04_poured.l0 k a1 l0_1 (l0_1.length : Int) 0
set_option maxHeartbeats 8000000 in
set_option maxRecDepth 100000 in
theorem calxlaw04_poured.calls (k : Nat) (A0_0 : Option Addr) (c0_0 : Nat) (l0_0 : List Int) (A0_1 : Option Addr) (c0_1 : Nat) (l0_1 : List (S84)) (a1 : Int) (r : Int) (w : World) (hr0_0 : Kd.C (Kd.int .i64) w A0_0 l0_0.length l0_0) (hc0_0 : l0_0.length ≤ c0_0) (hr0_1 : Kd.C k84 w A0_1 l0_1.length l0_1) (hc0_1 : l0_1.length ≤ c0_1) (h : calxlaw04_poured.f k l0_0 l0_1 a1 = some r) :
  Calls Tryz.prog 53 #[.agg #[.slice A0_0 l0_0.length c0_0,.slice A0_1 l0_1.length c0_1],.int .i64 a1] w fun e w' => e = .returned (.int .i64 r) ∧ Below w.heap.size w w':=by
 have hu32:=Tryz.underlying32
 have hu84:=Tryz.underlying84
 have HR0_0:=am hr0_0
 have HC0_0:=am hc0_0
 clear hr0_0 hc0_0
 have HR0_1:=am hr0_1
 have HC0_1:=am hc0_1
 clear hr0_1 hc0_1
 have HB:=am (Below.refl w.heap.size w)
 have H : (calxlaw04_poured.l0 k a1 l0_1 (l0_1.length : Int) 0) = some r:=h
 clear h
 have H':=am H
 clear H
 go_enter Tryz.func53,Tryz.ntmps53
 go_wp2_with (first|(refine bE 2 #[.slice A0_0 l0_0.length c0_0,.slice A0_1 l0_1.length c0_1] 32 ?_;intro gb101 hg w3 hbox hb;have BK101:=am (hbox);have GW101:=am (lg hg (below_size (v0 HB.out)) : w.heap.size ≤ gb101);have GE101:=GW101;replace HB:=am (below_step (v0 HB.out) hb);clear hb hbox hg;have hcz4_0:=bd BK101.out 0;have hcz4_1:=bd BK101.out 1;have hfz4_0:=blk_frozen BK101.out 0;have hfz4_1:=blk_frozen BK101.out 1))
 go_loopg [10] k (fun kq v10 w' => ∃ (x10_1 : Int),v10 = .int .i64 x10_1 ∧ Aside0 (calxlaw04_poured.l0 kq a1 l0_1 (l0_1.length : Int) x10_1 = some r) ∧ Aside0 (kq ≤ k) ∧ Aside0 (w'.heap[gb101]? = some (.cells #[(.slice A0_0 l0_0.length c0_0),(.slice A0_1 l0_1.length c0_1)] 32 (0,0))) ∧ Aside0 (Below w.heap.size w w'))
 case atStart => exact ⟨(0),ve,H',⟨Nat.le_refl _⟩,⟨vb BK101.out⟩,⟨v1 HB.out GE101.out⟩⟩
 case round =>
  clear H'
  try clear p2
  try clear hcz4_0
  try clear hcz4_1
  try clear hfz4_0
  try clear hfz4_1
  obtain ⟨x10_1,rfl,HA,HK1,BK101,HB⟩:=hrel
  cases gk with
 |zero => exact absurd HA.out (by simp [calxlaw04_poured.l0])
 |succ k1 =>
   have H:=HA.out
   clear HA
   simp only [calxlaw04_poured.l0] at H
   by_cases c5 : x10_1 < (l0_1.length : Int)
   ·rw [if_pos c5] at H
    have c5b0 : decide (x10_1 < (l0_1.length : Int)) = true:=decide_eq_true c5
    clear c5
    by_cases c6 : 0 ≤ x10_1
    ·rw [if_pos c6] at H
     have c6b0 : decide (0 ≤ x10_1) = true:=decide_eq_true c6
     clear c6
     by_cases c7 : x10_1 < (l0_1.length : Int)
     ·rw [if_pos c7] at H
      have c7b0 : decide (x10_1 < (l0_1.length : Int)) = true:=decide_eq_true c7
      clear c7
      by_cases c8 : ((rd_T84 l0_1 x10_1).f1) = 1
      ·rw [if_pos c8] at H
       have c8b0 : (((rd_T84 l0_1 x10_1).f1) == 1) = true:=beq_iff_eq.mpr c8
       have c8b1 : (((rd_T84 l0_1 x10_1).f1) != 1) = false:=bne_eq_false_iff_eq.mpr c8
       clear c8
       by_cases c9 : ((rd_T84 l0_1 x10_1).f0) = a1
       ·rw [if_pos c9] at H
        have c9b0 : (((rd_T84 l0_1 x10_1).f0) == a1) = true:=beq_iff_eq.mpr c9
        have c9b1 : (((rd_T84 l0_1 x10_1).f0) != a1) = false:=bne_eq_false_iff_eq.mpr c9
        clear c9
        obtain rfl:=Option.some.inj H
        have p102 : 0 ≤ (x10_1 : Int):=of_decide_eq_true va
        have q102 : x10_1 < (l0_1.length : Int):=of_decide_eq_true va
        obtain ⟨ad102,e102,hx102_0,hx102_1,hx102_2,hx102_3,hx102_4,hx102_5⟩:=at_T84 HR0_1.out x10_1 p102 q102
        cases e102
        replace hx102_0:=(HB.out.cell (wb w _ hx102_0)).trans hx102_0
        replace hx102_1:=(HB.out.cell (wb w _ hx102_1)).trans hx102_1
        replace hx102_2:=(HB.out.cell (wb w _ hx102_2)).trans hx102_2
        replace hx102_3:=(HB.out.cell (wb w _ hx102_3)).trans hx102_3
        replace hx102_4:=(HB.out.cell (wb w _ hx102_4)).trans hx102_4
        replace hx102_5:=(HB.out.cell (wb w _ hx102_5)).trans hx102_5
        replace p102:=eq_true p102
        replace q102:=eq_true q102
        go_wp2_with (first|(refine bE 6 #[.int .i64 0,.int .i64 0,.int .i64 0,.int .i64 0,.int .i64 0,.int .i64 0] 84 ?_;intro gb103 hg w10 hbox hb;have BK103:=am (hbox);have GW103:=am (lg hg (below_size (v1 HB.out GE101.out)) : w.heap.size ≤ gb103);have GE103:=GW103;have NB101_103:=am (nl hg (vb BK101.out));have NB103_101:=am ((nl hg (vb BK101.out)).symm);replace BK101:=am (blk_below (vb BK101.out) hb);replace HB:=am (below_step (v1 HB.out GE101.out) hb);clear hb hbox hg;have hnb11:=NB103_101.out;have hnc11:=NB101_103.out;have hcz12_0:=bd BK103.out 0;have hcz12_1:=bd BK103.out 1;have hcz12_2:=bd BK103.out 2;have hcz12_3:=bd BK103.out 3;have hcz12_4:=bd BK103.out 4;have hcz12_5:=bd BK103.out 5;have hfz12_0:=blk_frozen BK103.out 0;have hfz12_1:=blk_frozen BK103.out 1;have hfz12_2:=blk_frozen BK103.out 2;have hfz12_3:=blk_frozen BK103.out 3;have hfz12_4:=blk_frozen BK103.out 4;have hfz12_5:=blk_frozen BK103.out 5))
        go_ret
        exact ⟨vf,v2 HB.out GE101.out GE103.out⟩
       ·rw [if_neg c9] at H
        have c9b0 : (((rd_T84 l0_1 x10_1).f0) == a1) = false:=beq_eq_false_iff_ne.mpr c9
        have c9b1 : (((rd_T84 l0_1 x10_1).f0) != a1) = true:=bne_iff_ne.mpr c9
        have H':=am H
        clear H
        have p102 : 0 ≤ (x10_1 : Int):=of_decide_eq_true va
        have q102 : x10_1 < (l0_1.length : Int):=of_decide_eq_true va
        obtain ⟨ad102,e102,hx102_0,hx102_1,hx102_2,hx102_3,hx102_4,hx102_5⟩:=at_T84 HR0_1.out x10_1 p102 q102
        cases e102
        replace hx102_0:=(HB.out.cell (wb w _ hx102_0)).trans hx102_0
        replace hx102_1:=(HB.out.cell (wb w _ hx102_1)).trans hx102_1
        replace hx102_2:=(HB.out.cell (wb w _ hx102_2)).trans hx102_2
        replace hx102_3:=(HB.out.cell (wb w _ hx102_3)).trans hx102_3
        replace hx102_4:=(HB.out.cell (wb w _ hx102_4)).trans hx102_4
        replace hx102_5:=(HB.out.cell (wb w _ hx102_5)).trans hx102_5
        replace p102:=eq_true p102
        replace q102:=eq_true q102
        go_wp2_with (first|(refine bE 6 #[.int .i64 0,.int .i64 0,.int .i64 0,.int .i64 0,.int .i64 0,.int .i64 0] 84 ?_;intro gb103 hg w13 hbox hb;have BK103:=am (hbox);have GW103:=am (lg hg (below_size (v1 HB.out GE101.out)) : w.heap.size ≤ gb103);have GE103:=GW103;have NB101_103:=am (nl hg (vb BK101.out));have NB103_101:=am ((nl hg (vb BK101.out)).symm);replace BK101:=am (blk_below (vb BK101.out) hb);replace HB:=am (below_step (v1 HB.out GE101.out) hb);clear hb hbox hg;have hnb14:=NB103_101.out;have hnc14:=NB101_103.out;have hcz15_0:=bd BK103.out 0;have hcz15_1:=bd BK103.out 1;have hcz15_2:=bd BK103.out 2;have hcz15_3:=bd BK103.out 3;have hcz15_4:=bd BK103.out 4;have hcz15_5:=bd BK103.out 5;have hfz15_0:=blk_frozen BK103.out 0;have hfz15_1:=blk_frozen BK103.out 1;have hfz15_2:=blk_frozen BK103.out 2;have hfz15_3:=blk_frozen BK103.out 3;have hfz15_4:=blk_frozen BK103.out 4;have hfz15_5:=blk_frozen BK103.out 5))
        go_roundg k1
        case measure => have:=HK1.out;omega
        case rel => exact ⟨(wrap64 (x10_1 + 1)),ve,H',⟨by have:=HK1.out;omega⟩,⟨by (with_reducible repeat (first|refine blk_drewN ?_ _|refine blk_drew ?_|refine blk_alloc ?_ _));refine blk_far ?_ NB101_103.out _;(with_reducible repeat (first|refine blk_drewN ?_ _|refine blk_drew ?_|refine blk_alloc ?_ _));refine blk_far ?_ NB101_103.out _;(with_reducible repeat (first|refine blk_drewN ?_ _|refine blk_drew ?_|refine blk_alloc ?_ _));refine blk_far ?_ NB101_103.out _;(with_reducible repeat (first|refine blk_drewN ?_ _|refine blk_drew ?_|refine blk_alloc ?_ _));refine blk_far ?_ NB101_103.out _;(with_reducible repeat (first|refine blk_drewN ?_ _|refine blk_drew ?_|refine blk_alloc ?_ _));refine blk_far ?_ NB101_103.out _;(with_reducible repeat (first|refine blk_drewN ?_ _|refine blk_drew ?_|refine blk_alloc ?_ _));refine blk_far ?_ NB101_103.out _;(with_reducible repeat (first|refine blk_drewN ?_ _|refine blk_drew ?_|refine blk_alloc ?_ _));exact BK101.out⟩,⟨v2 HB.out GE101.out GE103.out⟩⟩
      ·rw [if_neg c8] at H
       have c8b0 : (((rd_T84 l0_1 x10_1).f1) == 1) = false:=beq_eq_false_iff_ne.mpr c8
       have c8b1 : (((rd_T84 l0_1 x10_1).f1) != 1) = true:=bne_iff_ne.mpr c8
       have H':=am H
       clear H
       have p102 : 0 ≤ (x10_1 : Int):=of_decide_eq_true va
       have q102 : x10_1 < (l0_1.length : Int):=of_decide_eq_true va
       obtain ⟨ad102,e102,hx102_0,hx102_1,hx102_2,hx102_3,hx102_4,hx102_5⟩:=at_T84 HR0_1.out x10_1 p102 q102
       cases e102
       replace hx102_0:=(HB.out.cell (wb w _ hx102_0)).trans hx102_0
       replace hx102_1:=(HB.out.cell (wb w _ hx102_1)).trans hx102_1
       replace hx102_2:=(HB.out.cell (wb w _ hx102_2)).trans hx102_2
       replace hx102_3:=(HB.out.cell (wb w _ hx102_3)).trans hx102_3
       replace hx102_4:=(HB.out.cell (wb w _ hx102_4)).trans hx102_4
       replace hx102_5:=(HB.out.cell (wb w _ hx102_5)).trans hx102_5
       replace p102:=eq_true p102
       replace q102:=eq_true q102
       go_wp2_with (first|(refine bE 6 #[.int .i64 0,.int .i64 0,.int .i64 0,.int .i64 0,.int .i64 0,.int .i64 0] 84 ?_;intro gb103 hg w16 hbox hb;have BK103:=am (hbox);have GW103:=am (lg hg (below_size (v1 HB.out GE101.out)) : w.heap.size ≤ gb103);have GE103:=GW103;have NB101_103:=am (nl hg (vb BK101.out));have NB103_101:=am ((nl hg (vb BK101.out)).symm);replace BK101:=am (blk_below (vb BK101.out) hb);replace HB:=am (below_step (v1 HB.out GE101.out) hb);clear hb hbox hg;have hnb17:=NB103_101.out;have hnc17:=NB101_103.out;have hcz18_0:=bd BK103.out 0;have hcz18_1:=bd BK103.out 1;have hcz18_2:=bd BK103.out 2;have hcz18_3:=bd BK103.out 3;have hcz18_4:=bd BK103.out 4;have hcz18_5:=bd BK103.out 5;have hfz18_0:=blk_frozen BK103.out 0;have hfz18_1:=blk_frozen BK103.out 1;have hfz18_2:=blk_frozen BK103.out 2;have hfz18_3:=blk_frozen BK103.out 3;have hfz18_4:=blk_frozen BK103.out 4;have hfz18_5:=blk_frozen BK103.out 5))
       go_roundg k1
       case measure => have:=HK1.out;omega
       case rel => exact ⟨(wrap64 (x10_1 + 1)),ve,H',⟨by have:=HK1.out;omega⟩,⟨by (with_reducible repeat (first|refine blk_drewN ?_ _|refine blk_drew ?_|refine blk_alloc ?_ _));refine blk_far ?_ NB101_103.out _;(with_reducible repeat (first|refine blk_drewN ?_ _|refine blk_drew ?_|refine blk_alloc ?_ _));refine blk_far ?_ NB101_103.out _;(with_reducible repeat (first|refine blk_drewN ?_ _|refine blk_drew ?_|refine blk_alloc ?_ _));refine blk_far ?_ NB101_103.out _;(with_reducible repeat (first|refine blk_drewN ?_ _|refine blk_drew ?_|refine blk_alloc ?_ _));refine blk_far ?_ NB101_103.out _;(with_reducible repeat (first|refine blk_drewN ?_ _|refine blk_drew ?_|refine blk_alloc ?_ _));refine blk_far ?_ NB101_103.out _;(with_reducible repeat (first|refine blk_drewN ?_ _|refine blk_drew ?_|refine blk_alloc ?_ _));refine blk_far ?_ NB101_103.out _;(with_reducible repeat (first|refine blk_drewN ?_ _|refine blk_drew ?_|refine blk_alloc ?_ _));exact BK101.out⟩,⟨v2 HB.out GE101.out GE103.out⟩⟩
     ·rw [if_neg c7] at H
      exact absurd H (by simp)
    ·rw [if_neg c6] at H
     exact absurd H (by simp)
   ·rw [if_neg c5] at H
    have c5b0 : decide (x10_1 < (l0_1.length : Int)) = false:=decide_eq_false c5
    clear c5
    obtain rfl:=Option.some.inj H
    go_wp2
    go_ret
    exact ⟨vf,v1 HB.out GE101.out⟩
def SumP (a b : S43) (ok : Bool) : S43 × Bool:=if ok = true then ((AddP a b).1,(AddP a b).2 == 0) else (⟨0,0⟩,false)
theorem Add_at (a b : S43) : ∀ d,pit_Add.f (FU + 1 + d) a.f0 a.f1 b.f0 b.f1 = some ((AddP a b).1.f0,(AddP a b).1.f1,(AddP a b).2)
|0 => AddP_prog a b
|d + 1 => pit_Add.mono _ _ _ _ _ _ (Add_at a b d)
theorem sum_at (a b : S43) (ok : Bool) (d : Nat) : calxlaw04_sum.f (FU + 1 + d) a.f0 a.f1 b.f0 b.f1 ok = some ((SumP a b ok).1.f0,(SumP a b ok).1.f1,(SumP a b ok).2):=by
 unfold calxlaw04_sum.f SumP
 cases ok
 ·rfl
 ·rw [Add_at];rfl
theorem SumP_ok {a b : S43} {ok : Bool} (h : (SumP a b ok).2 = true) : ok = true ∧ Rok a ∧ Rok b ∧ Rok (SumP a b ok).1 ∧ val (SumP a b ok).1 = val a + val b:=by
 unfold SumP at h ⊢
 cases ok
 ·exact absurd h (by simp)
 ·rw [if_pos rfl] at h ⊢
  unfold AddP at h ⊢
  by_cases c : (validP a && validP b) = true
  ·rw [if_pos c] at h ⊢
   obtain ⟨c1,c2⟩:=Bool.and_eq_true_iff.1 c
   have ha:=(validP_ok c1).1
   have hb:=(validP_ok c2).1
   unfold resultP at h ⊢
   by_cases c3 : validP (addP a b) = true
   ·rw [if_pos c3]
    exact ⟨rfl,ha,hb,(validP_ok c3).1,val_addP ha hb⟩
   ·rw [if_neg c3] at h
    exact absurd h (by simp)
  ·rw [if_neg c] at h
   exact absurd h (by simp)
theorem poured_l0 : ∀ (d k : Nat) (l : List S84) (id : Int) (i : Nat),i + d = l.length → d < k → l.length < 9223372036854775807 → calxlaw04_poured.l0 k id l (l.length : Int) (i : Int) = some (firstP (l.drop i) id)
|d,0,l,id,i,_,hk,_ => by omega
|0,k + 1,l,id,i,hd,hk,hl => by
  simp only [calxlaw04_poured.l0]
  rw [if_neg (by omega),List.drop_eq_nil_of_le (by omega)]
  rfl
|d + 1,k + 1,l,id,i,hd,hk,hl => by
  have hi : i < l.length:=by omega
  simp only [calxlaw04_poured.l0]
  rw [if_pos (by omega),if_pos (by omega),if_pos (by omega)]
  have hrd : rd_T84 l (i : Int) = l[i]:=by unfold rd_T84;rw [Int.toNat_natCast,List.getD_eq_getElem?_getD,List.getElem?_eq_getElem hi];rfl
  have ih:=poured_l0 d k l id (i + 1) (by omega) (by omega) hl
  rw [hrd,List.drop_eq_getElem_cons hi,wrap_in (by omega) (by omega),show ((i : Int) + 1) = ((i + 1 : Nat) : Int) by omega,ih]
  simp only [firstP]
  by_cases h1 : l[i].f1 = 1
  ·by_cases h2 : l[i].f0 = id
   ·rw [if_pos h1,if_pos h2,if_pos ⟨h1,h2⟩]
   ·rw [if_pos h1,if_neg h2,if_neg fun c => h2 c.2]
  ·rw [if_neg h1,if_neg fun c => h1 c.1]
theorem poured_at (rooms : List Int) (l : List S84) (id : Int) {k : Nat} (hk : l.length < k) (hl : l.length < 9223372036854775807) : calxlaw04_poured.f k rooms l id = some (firstP l id):=by
 unfold calxlaw04_poured.f
 have:=poured_l0 l.length k l id 0 (by omega) hk hl
 simpa using this
theorem partL_val : ∀ {l : List S89} (pour : Int),(l.map (·.f0)).Nodup → val (partL l pour) = sumOf pour l
|[],pour,_ => by show val (wholeP 0) = 0;rw [val_wholeP];rfl
|x :: r,pour,h => by
  obtain ⟨h1,h2⟩:=List.nodup_cons.1 (by simpa using h : (x.f0 :: r.map (·.f0)).Nodup)
  rw [partL_cons]
  simp only [sumOf]
  by_cases e : x.f0 = pour
  ·rw [if_pos e,if_pos e]
   have hz : ∀ l : List S89,pour ∉ l.map (·.f0) → sumOf pour l = 0:=by
    intro l
    induction l with
   |nil => intro _;rfl
   |cons y q ih =>
     intro hn
     simp only [List.map_cons,List.mem_cons,not_or] at hn
     simp only [sumOf]
     rw [if_neg (fun c => hn.1 c.symm),ih hn.2]
     grind
   rw [hz r (e ▸ h1)]
   grind
  ·rw [if_neg e,if_neg e,partL_val pour h2]
   grind
theorem BarrowOk.nodup {n : Nat} {pours : List Int} {b : S167} (h : BarrowOk n pours b) (hp : pours.Nodup) : (b.f3.map (·.f0)).Nodup:=hp.sublist h.ids
theorem partP_val {n : Nat} {pours : List Int} {b : S167} (h : BarrowOk n pours b) (hp : pours.Nodup) (pour : Int) : val (partP b pour) = sumOf pour b.f3:=partL_val pour (h.nodup hp)
def valS : List S43 → Rat
|[] => 0
|x :: r => val x + valS r
theorem valS_ofL (pour : Int) : ∀ l : List S89,valS (ofL pour l) = sumOf pour l
|[] => rfl
|x :: r => by
  have ih:=valS_ofL pour r
  unfold ofL at ih ⊢
  rw [List.filter_cons]
  simp only [sumOf]
  by_cases e : x.f0 = pour
  ·rw [if_pos (by simpa using e),if_pos e,List.map_cons];simp only [valS,ih]
  ·rw [if_neg (by simpa using e),if_neg e,ih];grind
theorem totalL_val : ∀ (l : List S43) (a r : S43),Rok a → totalL idR a l = some r → Rok r ∧ val r = val a + valS l
|[],a,r,ha,h => by
  simp only [totalL,Option.some.injEq] at h
  subst h
  exact ⟨ha,by simp only [valS];grind⟩
|x :: l,a,r,ha,h => by
  simp only [totalL] at h
  split at h
  ·rename_i c1
   split at h
   ·rename_i c2
    have hx : Rok x:=(validP_ok c1).1
    obtain ⟨k1,k2⟩:=totalL_val l _ r (validP_ok c2).1 h
    refine ⟨k1,?_⟩
    rw [k2,show idR x = x from rfl,val_addP ha hx]
    simp only [valS]
    grind
   ·cases h
  ·cases h
theorem totalP_val {l : List S43} {r : S43} (h : totalP idR l = some r) : Rok r ∧ val r = valS l:=by
 obtain ⟨k1,k2⟩:=totalL_val l _ r (wholeP_ok (Int.le_refl 0)) h
 refine ⟨k1,?_⟩
 rw [k2,val_wholeP]
 grind
theorem ofP_flatten (id : Int) : ∀ ps : List (List S212),ofP id ps.flatten = pitsP id ps
|[] => rfl
|l :: r => by rw [List.flatten_cons,ofP_append,ofP_flatten id r];rfl
theorem leftP_val {Y : Yd} {id : Int} {r : S43} (h : leftP Y id = some r) : Rok r ∧ val r = pitsP id Y.pits:=by
 obtain ⟨k1,k2⟩:=totalP_val h
 exact ⟨k1,by rw [k2,valS_ofL];exact ofP_flatten id Y.pits⟩
theorem lostP_val {Y : Yd} {id : Int} {r : S43} (h : lostP Y id = some r) : Rok r ∧ val r = ofP id Y.lost:=by
 obtain ⟨k1,k2⟩:=totalP_val h
 exact ⟨k1,by rw [k2,valS_ofL];rfl⟩
theorem wentP_val {n : Nat} {pours : List Int} (hp : pours.Nodup) (id : Int) : ∀ bs : List S167,(∀ b ∈ bs,BarrowOk n pours b) → (∀ x ∈ wentP bs id,Rok x.f1) ∧ sumV (wentP bs id) = barP id bs
|[],_ => ⟨by simp [wentP],rfl⟩
|b :: r,h => by
  obtain ⟨i1,i2⟩:=wentP_val hp id r fun x hx => h x (List.mem_cons_of_mem _ hx)
  have hb:=h b List.mem_cons_self
  have hv:=partP_val hb hp id
  have hok:=(partP_ok hb id).1
  unfold wentP at i1 i2 ⊢
  rw [List.filter_cons]
  simp only [barP]
  by_cases c : (partP b id).f0 > 0
  ·rw [if_pos (by simpa using c),List.map_cons]
   refine ⟨fun x hx => ?_,?_⟩
   ·rcases List.mem_cons.1 hx with rfl|hx
    ·exact hok
    ·exact i1 x hx
   ·simp only [sumV,i2,hv]
  ·rw [if_neg (by simpa using c)]
   refine ⟨i1,?_⟩
   have h0 : (partP b id).f0 = 0:=by have:=hok.1;omega
   have : val (partP b id) = 0:=by unfold val;rw [h0,Rat.div_def];grind
   rw [i2,← hv,this]
   grind
def IntsPost (W : World) (r : Except (Int × Int) Yd) (f : Yd → List Int) (e : Ending) (W' : World) : Prop :=
 Below W.heap.size W W' ∧ (match r with
 |.error x => e = .returned (.tuple #[.slice none 0 0,.int .i64 x.1])
 |.ok Y => ∃ (A3 : Option Addr) (c3 : Nat),e = .returned (.tuple #[.slice A3 (f Y).length c3,.int .i64 0]) ∧ (f Y).length ≤ c3 ∧ Kd.F (Kd.int .i64) W' (fun k => W.heap.size ≤ k) A3 (f Y).length (f Y))
theorem ft_int {W0 w : World} {e base n c : Nat} {ok ok' ok3 : Nat → Prop} {A : Option Addr} {xs : List Int} (h : (ft (Kd.int .i64) W0 ok).R e w base ok' (.slice A n c) xs) (ho : ∀ k,(Value.slice A n c).ownBlock = some k → ok3 k) : Kd.F (Kd.int .i64) w ok3 A n xs:=fun W' hW =>
 ReadsRow.imp_ (Kd.R_F (Kd.R_tight rfl h) W' (fun k hk hlt => hW k (ho k hk.symm) hlt)) (Below.refl W'.heap.size W') (fun x cs (hp : Kd.FK (Kd.int .i64) W0 ok x cs) => hp W0 (fun _ _ _ => rfl))
set_option maxRecDepth 100000 in
set_option maxHeartbeats 2000000 in
theorem pours_calls (A A2 : Option Addr) (c c2 : Nat) (rooms : List Int) (stirs : List S84) (W : World) (lo : Nat) (hlo : lo ≤ W.heap.size) (hC : Kd.F (Kd.int .i64) W (fun k => k < lo) A rooms.length rooms) (hc : rooms.length ≤ c) (hS : Kd.C k84 W A2 stirs.length stirs) (hc2 : stirs.length ≤ c2) :
  Calls Tryz.prog 19 #[.agg #[.slice A rooms.length c,.slice A2 stirs.length c2]] W fun e W' => IntsPost W (playedP rooms stirs stirs.length) (fun Y => Y.pours) e W':=by
 have hu:=Tryz.underlying32
 have HC1:=am (Kd.F_alloc hC (.cells #[.slice A rooms.length c,.slice A2 stirs.length c2] 32))
 have HS1:=am (Kd.C_alloc hS (.cells #[.slice A rooms.length c,.slice A2 stirs.length c2] 32))
 have HB1:=am (below_alloc (Below.refl W.heap.size W) (.cells #[.slice A rooms.length c,.slice A2 stirs.length c2] 32))
 clear hC hS
 obtain ⟨r,hr⟩ : ∃ r,r = playedP rooms stirs stirs.length:=⟨_,rfl⟩
 rw [← hr]
 have HP:=am hr.symm
 clear hr
 go_enter Tryz.func19,Tryz.ntmps19
 go_wp2_with fail
 refine (all_calls A A2 c c2 rooms stirs _ lo (Nat.le_trans hlo (by simp)) HC1.out hc HS1.out hc2).mono ?_
 rintro e w1 ⟨hb,h⟩
 rw [HP.out] at h
 have HB2:=am (below_then HB1.out (below_size HB1.out) hb)
 clear hb
 cases r with
|error x =>
  subst h
  have hx : ¬ x.1 = 0:=playedP_code HP.out
  go_wp2
  go_ret2
  exact ⟨HB2.out,rfl⟩
|ok Y =>
  obtain ⟨L,base,hbase,hbad,rfl,hY⟩:=h
  have HWF:=am (played_ok HP.out).2.2.1
  obtain ⟨A3,c3,e3⟩:=Kd.R_slice hY.pours
  have hR:=hY.pours
  rw [e3] at hR
  have HL3:=am (Kd.R_reads' hR).2.1
  have HF3:=am (Kd.R_F hR)
  have g2 : w1.cell? ⟨L.g,2,none⟩ = some (.slice A3 Y.pours.length c3):=(blk_cell hY.blk 2).trans (by rw [← e3];rfl)
  clear hbase hbad hY hR e3
  go_wp2_with fail
  refine (clone78_calls A3 c3 Y.pours _ _ HF3.out HL3.out (by have:=HWF.out.npours;omega)).mono ?_
  rintro e w2 ⟨v,rfl,hb,hR⟩
  obtain ⟨A5,c5,rfl⟩:=Kd.R_slice hR
  have HB4:=am (below_then HB2.out (below_size HB2.out) hb)
  have HC5:=am (show Kd.F (Kd.int .i64) w2 (fun k => W.heap.size ≤ k) A5 Y.pours.length Y.pours from ft_int hR fun k hk => by have h1:=Kd.R_base hR k hk;have h2:=below_size HB2.out;omega)
  have HL5:=am (Kd.R_reads' hR).2.1
  clear hb hR
  go_wp2
  go_ret2
  exact ⟨HB4.out,A5,c5,rfl,HL5.out,HC5.out⟩
def idsE (f : Yd → List Int) (r : Except (Int × Int) Yd) : List Int × Int:=match r with
|.error x => ([],x.1)
|.ok Y => (f Y,0)
theorem C_lo {w : World} {A : Option Addr} {rooms : List Int} (h : Kd.C (Kd.int .i64) w A rooms.length rooms) : Kd.F (Kd.int .i64) w (fun k => k < w.heap.size) A rooms.length rooms:=Kd.C_F (Kd.heap_int .i64) h
def pit_Pours.f (l0_0 : List Int) (l0_1 : List S84) : Option (List Int × Int):=some (idsE (fun Y => Y.pours) (playedP l0_0 l0_1 l0_1.length))
theorem pit_Pours.calls (A0_0 : Option Addr) (c0_0 : Nat) (l0_0 : List Int) (A0_1 : Option Addr) (c0_1 : Nat) (l0_1 : List S84) (r1 : List Int) (r2 : Int) (w : World) (hr0_0 : Kd.C (Kd.int .i64) w A0_0 l0_0.length l0_0) (hc0_0 : l0_0.length ≤ c0_0) (hr0_1 : Kd.C k84 w A0_1 l0_1.length l0_1) (hc0_1 : l0_1.length ≤ c0_1) (h : pit_Pours.f l0_0 l0_1 = some (r1,r2)) :
  Calls Tryz.prog 19 #[.agg #[.slice A0_0 l0_0.length c0_0,.slice A0_1 l0_1.length c0_1]] w fun e w' => ∃ v_ : Value,e = .returned (.tuple #[v_,.int .i64 r2]) ∧ Kd.V (Kd.int .i64) 3 w' w.heap.size (fun k_ => w.heap.size ≤ k_) v_ r1 ∧ Below w.heap.size w w':=by
 have h':=Option.some.inj h
 refine (pours_calls A0_0 A0_1 c0_0 c0_1 l0_0 l0_1 w w.heap.size (Nat.le_refl _) (C_lo hr0_0) hc0_0 hr0_1 hc0_1).mono ?_
 rintro e w' ⟨hb,hm⟩
 cases hp : playedP l0_0 l0_1 l0_1.length with
|error x =>
  rw [hp] at h' hm
  obtain ⟨rfl,rfl⟩:=Prod.mk.inj h'
  exact ⟨_,hm,Kd.V_nil _ _ _ _ _,hb⟩
|ok Y =>
  rw [hp] at h' hm
  obtain ⟨rfl,rfl⟩:=Prod.mk.inj h'
  obtain ⟨A3,c3,he,hl,hF⟩:=hm
  exact ⟨_,he,Kd.V_mk hl hF,hb⟩
set_option maxRecDepth 100000 in
set_option maxHeartbeats 2000000 in
theorem barrows_calls (A A2 : Option Addr) (c c2 : Nat) (rooms : List Int) (stirs : List S84) (W : World) (lo : Nat) (hlo : lo ≤ W.heap.size) (hC : Kd.F (Kd.int .i64) W (fun k => k < lo) A rooms.length rooms) (hc : rooms.length ≤ c) (hS : Kd.C k84 W A2 stirs.length stirs) (hc2 : stirs.length ≤ c2) :
  Calls Tryz.prog 18 #[.agg #[.slice A rooms.length c,.slice A2 stirs.length c2]] W fun e W' => IntsPost W (playedP rooms stirs stirs.length) (fun Y => Y.barrows.map (·.f0)) e W':=by
 have hu:=Tryz.underlying32
 have HC1:=am (Kd.F_alloc hC (.cells #[.slice A rooms.length c,.slice A2 stirs.length c2] 32))
 have HS1:=am (Kd.C_alloc hS (.cells #[.slice A rooms.length c,.slice A2 stirs.length c2] 32))
 have HB1:=am (below_alloc (Below.refl W.heap.size W) (.cells #[.slice A rooms.length c,.slice A2 stirs.length c2] 32))
 clear hC hS
 obtain ⟨r,hr⟩ : ∃ r,r = playedP rooms stirs stirs.length:=⟨_,rfl⟩
 rw [← hr]
 have HP:=am hr.symm
 clear hr
 go_enter Tryz.func18,Tryz.ntmps18
 go_wp2_with fail
 refine (all_calls A A2 c c2 rooms stirs _ lo (Nat.le_trans hlo (by simp)) HC1.out hc HS1.out hc2).mono ?_
 rintro e w1 ⟨hb,h⟩
 rw [HP.out] at h
 have HB2:=am (below_then HB1.out (below_size HB1.out) hb)
 clear hb
 cases r with
|error x =>
  subst h
  have hx : ¬ x.1 = 0:=playedP_code HP.out
  go_wp2
  go_ret2
  exact ⟨HB2.out,rfl⟩
|ok Y =>
  obtain ⟨L,base,hbase,hbad,rfl,hY⟩:=h
  have HWF:=am (played_ok HP.out).2.2.1
  obtain ⟨A3,c3,e3,hl3,hC3⟩:=Kd.R_reads hY.barrows
  have HC3:=am (show Kd.C k167 w1 A3 Y.barrows.length Y.barrows from hC3.imp_ (Below.refl _ _) fun _ _ hp => Foot.now hp)
  have hm:=hC3.2.1
  have g4 : w1.cell? ⟨L.g,4,none⟩ = some (.slice A3 Y.barrows.length c3):=(blk_cell hY.blk 4).trans (by rw [← e3];rfl)
  have hn:=HWF.out.nbarrows
  clear hbase hbad hY e3 hC3
  go_wp2
  go_loopw [6,22] (fun v6 v22 wr => ∃ (j : Nat),j ≤ Y.barrows.length ∧ v22 = .int .i64 (j : Int) ∧ Aside0 (Below w1.heap.size w1 wr) ∧ Aside0 ((Kd.int .i64).R 3 wr w1.heap.size (fun _ => True) v6 ((Y.barrows.take j).map (·.f0)))) (fun _ v22 _ => Y.barrows.length - (intOf v22).toNat)
  case atStart => exact ⟨0,Nat.zero_le _,rfl,⟨Below.refl _ _⟩,⟨Kd.R_nil _ _ _ _ _⟩⟩
  case round =>
   clear g4
   obtain ⟨j,hj,rfl,HB,HV⟩:=hrel
   have hql : ((Y.barrows.take j).map (·.f0)).length = j:=by simp;omega
   obtain ⟨Av,cv,rfl⟩:=Kd.R_slice HV.out
   rw [hql] at HV ⊢
   by_cases hlt : j < Y.barrows.length
   ·obtain ⟨ad,A4,c4,e,hx0,hx1,hx2,hx3,hl4,hC4⟩:=at_T167 (Kd.C_below HC3.out HB.out) (j : Int) (by omega) (by omega)
    cases e
    rw [Int.toNat_natCast] at hx0 hx1 hx2 hx3
    have HT:=am (show (Y.barrows.take (j + 1)).map (·.f0) = (Y.barrows.take j).map (·.f0) ++ [(rd_T167 Y.barrows (j : Int)).f0] by
     rw [List.take_succ_eq_append_getElem hlt,List.map_append]
     unfold rd_T167
     rw [Int.toNat_natCast,List.getD_eq_getElem?_getD,List.getElem?_eq_getElem hlt]
     rfl)
    obtain ⟨b,hb⟩ : ∃ b,b = rd_T167 Y.barrows (j : Int):=⟨_,rfl⟩
    rw [← hb] at hx0 hx1 hx2 hx3 HT
    clear hb hl4 hC4
    obtain ⟨q,hq⟩ : ∃ q,q = (Y.barrows.take j).map (·.f0):=⟨_,rfl⟩
    rw [← hq] at HV HT hql
    clear hq
    have HQ:=am hql
    clear hql
    have HV1:=am (show (Kd.int .i64).R 3 (wr.alloc (.cells #[.int .i64 b.f0,.int .i64 b.f1,.int .i64 b.f2,.slice A4 b.f3.length c4] 167)) w1.heap.size (fun _ => True) (.slice Av j cv) q from Kd.R_alloc HV.out _)
    have HB1:=am (below_alloc HB.out (.cells #[.int .i64 b.f0,.int .i64 b.f1,.int .i64 b.f2,.slice A4 b.f3.length c4] 167))
    have g0 : (wr.alloc (.cells #[.int .i64 b.f0,.int .i64 b.f1,.int .i64 b.f2,.slice A4 b.f3.length c4] 167)).cell? ⟨wr.heap.size,0,none⟩ = some (.int .i64 b.f0):=(blk_cell (blk_new wr _) 0).trans rfl
    go_wp2_with (at_builtin;refine Kd.R_append (Kd.int .i64) (w0:=w1) w1.heap.size rfl _ _ 27 3 (.int .i64 0) 8 rfl Tryz.underlying27 info3 rfl (by decide) (by decide) (.slice Av j cv) q b.f0 [.int .i64 b.f0] (fun _ => True) (fun _ => False) rfl (by rw [show (wr.alloc (.cells #[.int .i64 b.f0,.int .i64 b.f1,.int .i64 b.f2,.slice A4 b.f3.length c4] 167)).heap.size = wr.heap.size + 1 by simp];rfl) rfl (fun _ h => h.elim) (fun _ _ => trivial) HV1.out HB1.out HB1.out.size (by have:=HQ.out;omega) ?_;intro v3 w3 hr3 hb3 hg3 hat3;have HR3:=am hr3;have HB3:=am hb3;clear hr3 hb3 hg3 hat3)
    go_roundw
    case rel => exact ⟨j + 1,by omega,by go_num,HB3,⟨by rw [HT.out];exact HR3.out⟩⟩
    case measure => simp [intOf];omega
   ·have hje : j = Y.barrows.length:=by omega
    have HE:=am (show Y.barrows.take j = Y.barrows by rw [hje];exact List.take_length)
    subst hje
    have HV2:=am (show (Kd.int .i64).R 3 wr w1.heap.size (fun _ => True) (.slice Av (Y.barrows.map (·.f0)).length cv) (Y.barrows.map (·.f0)) by
     have h:=HV.out
     rw [HE.out] at h
     rw [List.length_map]
     exact h)
    have HB4:=am (below_then HB2.out (below_size HB2.out) HB.out)
    go_wp2
    go_ret2
    exact ⟨HB4.out,Av,cv,by rw [List.length_map];rfl,(Kd.R_reads' HV2.out).2.1,Kd.R_F (Kd.R_reok rfl HV2.out fun k hk => by have h1:=Kd.R_base HV2.out k hk;have h2:=below_size HB2.out;omega)⟩
def pit_Barrows.f (l0_0 : List Int) (l0_1 : List S84) : Option (List Int × Int):=some (idsE (fun Y => Y.barrows.map (·.f0)) (playedP l0_0 l0_1 l0_1.length))
theorem pit_Barrows.calls (A0_0 : Option Addr) (c0_0 : Nat) (l0_0 : List Int) (A0_1 : Option Addr) (c0_1 : Nat) (l0_1 : List S84) (r1 : List Int) (r2 : Int) (w : World) (hr0_0 : Kd.C (Kd.int .i64) w A0_0 l0_0.length l0_0) (hc0_0 : l0_0.length ≤ c0_0) (hr0_1 : Kd.C k84 w A0_1 l0_1.length l0_1) (hc0_1 : l0_1.length ≤ c0_1) (h : pit_Barrows.f l0_0 l0_1 = some (r1,r2)) :
  Calls Tryz.prog 18 #[.agg #[.slice A0_0 l0_0.length c0_0,.slice A0_1 l0_1.length c0_1]] w fun e w' => ∃ v_ : Value,e = .returned (.tuple #[v_,.int .i64 r2]) ∧ Kd.V (Kd.int .i64) 3 w' w.heap.size (fun k_ => w.heap.size ≤ k_) v_ r1 ∧ Below w.heap.size w w':=by
 have h':=Option.some.inj h
 refine (barrows_calls A0_0 A0_1 c0_0 c0_1 l0_0 l0_1 w w.heap.size (Nat.le_refl _) (C_lo hr0_0) hc0_0 hr0_1 hc0_1).mono ?_
 rintro e w' ⟨hb,hm⟩
 cases hp : playedP l0_0 l0_1 l0_1.length with
|error x =>
  rw [hp] at h' hm
  obtain ⟨rfl,rfl⟩:=Prod.mk.inj h'
  exact ⟨_,hm,Kd.V_nil _ _ _ _ _,hb⟩
|ok Y =>
  rw [hp] at h' hm
  obtain ⟨rfl,rfl⟩:=Prod.mk.inj h'
  obtain ⟨A3,c3,he,hl,hF⟩:=hm
  exact ⟨_,he,Kd.V_mk hl hF,hb⟩
def calxlaw04_few.f (l0_0 : List Int) (l0_1 : List (S84)) : Option (Bool):=if (l0_0.length : Int) ≤ 8 then (if (l0_1.length : Int) ≤ 16 then (some true) else (if (l0_1.length : Int) > 60 then (some (decide ((l0_1.length : Int) ≤ 70))) else (some false))) else (some false)
set_option maxHeartbeats 8000000 in
set_option maxRecDepth 100000 in
theorem calxlaw04_few.calls (A0_0 : Option Addr) (c0_0 : Nat) (l0_0 : List Int) (A0_1 : Option Addr) (c0_1 : Nat) (l0_1 : List (S84)) (r : Bool) (w : World) (hr0_0 : Kd.C (Kd.int .i64) w A0_0 l0_0.length l0_0) (hc0_0 : l0_0.length ≤ c0_0) (hr0_1 : Kd.C k84 w A0_1 l0_1.length l0_1) (hc0_1 : l0_1.length ≤ c0_1) (h : calxlaw04_few.f l0_0 l0_1 = some r) :
  Calls Tryz.prog 26 #[.agg #[.slice A0_0 l0_0.length c0_0,.slice A0_1 l0_1.length c0_1]] w fun e w' => e = .returned (.bool r) ∧ Below w.heap.size w w':=by
 have hu32:=Tryz.underlying32
 have HR0_0:=am hr0_0
 have HC0_0:=am hc0_0
 clear hr0_0 hc0_0
 have HR0_1:=am hr0_1
 have HC0_1:=am hc0_1
 clear hr0_1 hc0_1
 have HB:=am (Below.refl w.heap.size w)
 have H : (if (l0_0.length : Int) ≤ 8 then (if (l0_1.length : Int) ≤ 16 then (some true) else (if (l0_1.length : Int) > 60 then (some (decide ((l0_1.length : Int) ≤ 70))) else (some false))) else (some false)) = some r:=h
 clear h
 by_cases c2 : (l0_0.length : Int) ≤ 8
 ·rw [if_pos c2] at H
  have c2b0 : decide ((l0_0.length : Int) ≤ 8) = true:=decide_eq_true c2
  have c2b1 : decide (l0_0.length ≤ 8) = true:=decide_eq_true (by omega)
  clear c2
  by_cases c3 : (l0_1.length : Int) ≤ 16
  ·rw [if_pos c3] at H
   have c3b0 : decide ((l0_1.length : Int) ≤ 16) = true:=decide_eq_true c3
   have c3b1 : decide (l0_1.length ≤ 16) = true:=decide_eq_true (by omega)
   clear c3
   obtain rfl:=Option.some.inj H
   go_enter Tryz.func26,Tryz.ntmps26
   go_wp2_with (first|((with_reducible refine gate_dst (N:=1) rfl ?_);(try (refine gate_guard (by rfl) ?_;dsimp only));refine box_event ?hg (N:=1) ?hd (cs:=#[.slice A0_0 l0_0.length c0_0,.slice A0_1 l0_1.length c0_1]) (t:=32) ?hr ?_;(case hd => rfl);(case hg => rfl);(case hr => first|(go_simp;done)|(go_simp;rfl));intro gb101 hg w4 hbox hb;have BK101:=am (hbox);have GW101:=am (lg hg (below_size (v0 HB.out)) : w.heap.size ≤ gb101);have GE101:=GW101;replace HB:=am (below_step (v0 HB.out) hb);clear hb hbox hg;have hcz5_0:=bd BK101.out 0;have hcz5_1:=bd BK101.out 1;have hfz5_0:=blk_frozen BK101.out 0;have hfz5_1:=blk_frozen BK101.out 1))
   go_ret
   exact ⟨vf,v1 HB.out GE101.out⟩
  ·rw [if_neg c3] at H
   have c3b0 : decide ((l0_1.length : Int) ≤ 16) = false:=decide_eq_false c3
   have c3b1 : decide (l0_1.length ≤ 16) = false:=decide_eq_false (by omega)
   clear c3
   by_cases c6 : (l0_1.length : Int) > 60
   ·rw [if_pos c6] at H
    have c6b0 : decide (60 < (l0_1.length : Int)) = true:=decide_eq_true c6
    have c6b1 : decide (60 < l0_1.length) = true:=decide_eq_true (by omega)
    clear c6
    obtain rfl:=Option.some.inj H
    go_enter Tryz.func26,Tryz.ntmps26
    go_wp2_with (first|((with_reducible refine gate_dst (N:=1) rfl ?_);(try (refine gate_guard (by rfl) ?_;dsimp only));refine box_event ?hg (N:=1) ?hd (cs:=#[.slice A0_0 l0_0.length c0_0,.slice A0_1 l0_1.length c0_1]) (t:=32) ?hr ?_;(case hd => rfl);(case hg => rfl);(case hr => first|(go_simp;done)|(go_simp;rfl));intro gb101 hg w7 hbox hb;have BK101:=am (hbox);have GW101:=am (lg hg (below_size (v0 HB.out)) : w.heap.size ≤ gb101);have GE101:=GW101;replace HB:=am (below_step (v0 HB.out) hb);clear hb hbox hg;have hcz8_0:=bd BK101.out 0;have hcz8_1:=bd BK101.out 1;have hfz8_0:=blk_frozen BK101.out 0;have hfz8_1:=blk_frozen BK101.out 1))
    go_ret
    exact ⟨vf,v1 HB.out GE101.out⟩
   ·rw [if_neg c6] at H
    have c6b0 : decide (60 < (l0_1.length : Int)) = false:=decide_eq_false c6
    have c6b1 : decide (60 < l0_1.length) = false:=decide_eq_false (by omega)
    clear c6
    obtain rfl:=Option.some.inj H
    go_enter Tryz.func26,Tryz.ntmps26
    go_wp2_with (first|((with_reducible refine gate_dst (N:=1) rfl ?_);(try (refine gate_guard (by rfl) ?_;dsimp only));refine box_event ?hg (N:=1) ?hd (cs:=#[.slice A0_0 l0_0.length c0_0,.slice A0_1 l0_1.length c0_1]) (t:=32) ?hr ?_;(case hd => rfl);(case hg => rfl);(case hr => first|(go_simp;done)|(go_simp;rfl));intro gb101 hg w9 hbox hb;have BK101:=am (hbox);have GW101:=am (lg hg (below_size (v0 HB.out)) : w.heap.size ≤ gb101);have GE101:=GW101;replace HB:=am (below_step (v0 HB.out) hb);clear hb hbox hg;have hcz10_0:=bd BK101.out 0;have hcz10_1:=bd BK101.out 1;have hfz10_0:=blk_frozen BK101.out 0;have hfz10_1:=blk_frozen BK101.out 1))
    go_ret
    exact ⟨vf,v1 HB.out GE101.out⟩
 ·rw [if_neg c2] at H
  have c2b0 : decide ((l0_0.length : Int) ≤ 8) = false:=decide_eq_false c2
  have c2b1 : decide (l0_0.length ≤ 8) = false:=decide_eq_false (by omega)
  clear c2
  obtain rfl:=Option.some.inj H
  go_enter Tryz.func26,Tryz.ntmps26
  go_wp2_with (first|((with_reducible refine gate_dst (N:=1) rfl ?_);(try (refine gate_guard (by rfl) ?_;dsimp only));refine box_event ?hg (N:=1) ?hd (cs:=#[.slice A0_0 l0_0.length c0_0,.slice A0_1 l0_1.length c0_1]) (t:=32) ?hr ?_;(case hd => rfl);(case hg => rfl);(case hr => first|(go_simp;done)|(go_simp;rfl));intro gb101 hg w11 hbox hb;have BK101:=am (hbox);have GW101:=am (lg hg (below_size (v0 HB.out)) : w.heap.size ≤ gb101);have GE101:=GW101;replace HB:=am (below_step (v0 HB.out) hb);clear hb hbox hg;have hcz12_0:=bd BK101.out 0;have hcz12_1:=bd BK101.out 1;have hfz12_0:=blk_frozen BK101.out 0;have hfz12_1:=blk_frozen BK101.out 1))
  go_ret
  exact ⟨vf,v1 HB.out GE101.out⟩
def pit_Share.f (l0_0 : List Int) (l0_1 : List S84) (a1 a2 : Int) : Option (Int × Int × Int):=some ((shareE (playedP l0_0 l0_1 l0_1.length) a1 a2).1.f0,(shareE (playedP l0_0 l0_1 l0_1.length) a1 a2).1.f1,(shareE (playedP l0_0 l0_1 l0_1.length) a1 a2).2)
theorem pit_Share.calls (A0_0 : Option Addr) (c0_0 : Nat) (l0_0 : List Int) (A0_1 : Option Addr) (c0_1 : Nat) (l0_1 : List S84) (a1 a2 : Int) (r1 r2 r3 : Int) (w : World) (hr0_0 : Kd.C (Kd.int .i64) w A0_0 l0_0.length l0_0) (hc0_0 : l0_0.length ≤ c0_0) (hr0_1 : Kd.C k84 w A0_1 l0_1.length l0_1) (hc0_1 : l0_1.length ≤ c0_1) (h : pit_Share.f l0_0 l0_1 a1 a2 = some (r1,r2,r3)) :
  Calls Tryz.prog 30 #[.agg #[.slice A0_0 l0_0.length c0_0,.slice A0_1 l0_1.length c0_1],.int .i64 a1,.int .i64 a2] w fun e w' => e = .returned (.tuple #[.agg #[.int .i64 r1,.int .i64 r2],.int .i64 r3]) ∧ Below w.heap.size w w':=by
 have h':=Option.some.inj h
 simp only [Prod.mk.injEq] at h'
 obtain ⟨rfl,rfl,rfl⟩:=h'
 exact share_calls A0_0 A0_1 c0_0 c0_1 l0_0 l0_1 w w.heap.size (Nat.le_refl _) (C_lo hr0_0) hc0_0 hr0_1 hc0_1 a1 a2
def pit_Fate.f (l0_0 : List Int) (l0_1 : List S84) (a1 : Int) : Option (List S89 × Int × Int × Int × Int × Int):=some ((fateE (playedP l0_0 l0_1 l0_1.length) a1).1,(fateE (playedP l0_0 l0_1 l0_1.length) a1).2.1.f0,(fateE (playedP l0_0 l0_1 l0_1.length) a1).2.1.f1,(fateE (playedP l0_0 l0_1 l0_1.length) a1).2.2.1.f0,(fateE (playedP l0_0 l0_1 l0_1.length) a1).2.2.1.f1,(fateE (playedP l0_0 l0_1 l0_1.length) a1).2.2.2)
theorem pit_Fate.calls (A0_0 : Option Addr) (c0_0 : Nat) (l0_0 : List Int) (A0_1 : Option Addr) (c0_1 : Nat) (l0_1 : List S84) (a1 : Int) (r1 : List S89) (r2 r3 r4 r5 r6 : Int) (w : World) (hr0_0 : Kd.C (Kd.int .i64) w A0_0 l0_0.length l0_0) (hc0_0 : l0_0.length ≤ c0_0) (hr0_1 : Kd.C k84 w A0_1 l0_1.length l0_1) (hc0_1 : l0_1.length ≤ c0_1) (h : pit_Fate.f l0_0 l0_1 a1 = some (r1,r2,r3,r4,r5,r6)) :
  Calls Tryz.prog 36 #[.agg #[.slice A0_0 l0_0.length c0_0,.slice A0_1 l0_1.length c0_1],.int .i64 a1] w fun e w' => ∃ v_ : Value,e = .returned (.tuple #[v_,.agg #[.int .i64 r2,.int .i64 r3],.agg #[.int .i64 r4,.int .i64 r5],.int .i64 r6]) ∧ Kd.V k89 89 w' w.heap.size (fun k_ => w.heap.size ≤ k_) v_ r1 ∧ Below w.heap.size w w':=by
 have h':=Option.some.inj h
 simp only [Prod.mk.injEq] at h'
 obtain ⟨rfl,rfl,rfl,rfl,rfl,rfl⟩:=h'
 refine (fate_calls A0_0 A0_1 c0_0 c0_1 l0_0 l0_1 w w.heap.size (Nat.le_refl _) (C_lo hr0_0) hc0_0 hr0_1 hc0_1 a1).mono ?_
 rintro e w' ⟨hb,A3,c3,he,hl,hF⟩
 exact ⟨_,he,Kd.V_mk hl hF,hb⟩
end Go.Proofs.YtjjfpmapjjemcaaGreat.B
end
