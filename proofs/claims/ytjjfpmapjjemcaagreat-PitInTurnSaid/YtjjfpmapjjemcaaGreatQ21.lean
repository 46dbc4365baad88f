import Derived.Test.YtjjfpmapjjemcaaGreatQ10
import Derived.Test.YtjjfpmapjjemcaaGreatQ11
import Derived.Test.YtjjfpmapjjemcaaGreatQ14
import Derived.Test.YtjjfpmapjjemcaaGreatQ15
import Derived.Test.YtjjfpmapjjemcaaGreatQ16
import Derived.Test.YtjjfpmapjjemcaaGreatQ20
import Derived.Test.YtjjfpmapjjemcaaGreatQ6
import Derived.Test.YtjjfpmapjjemcaaGreatQ7
set_option linter.unusedVariables false
set_option linter.unusedSimpArgs false
section
namespace Go.Proofs.YtjjfpmapjjemcaaGreat.B
open Go.RowKit Go.Proofs.YtjjfpmapjjemcaaGreatW.PrintWords Go.Proofs.YtjjfpmapjjemcaaGreatW.PrintLast Go.Proofs.YtjjfpmapjjemcaaGreatW.PrintMore
attribute [local go_sem] max2_int min2_int max_two min_two max_three min_three max_four min_four
section
def R27_13.T : Bool × List (List Nat × List Nat):=(true,[([],[]),([],[]),([1],[1]),([1],[]),([3],[3]),([3],[]),([5],[5]),([2,4,6],[2,4,6]),([0,7,5],[0,7]),([8,8],[8]),([9],[9]),([9,9],[9]),([10,11,9],[9,10,11]),([9,12],[9,12]),([13,11],[13]),([14],[14]),([14],[14]),([15,16,14],[14,15,16]),([14,17],[14,17]),([18,14],[18]),([19],[19]),([19,19],[19]),([20,21,19],[19,20,21]),([19,22],[19,22]),([23,21,0,1,2,3,4,5,6,7,8,9,10,11,12,13,14,15,16,17,18,19,20,21,22,23],[23])])
def R27_13.B : List Nat:=[0,0,2,2,10,10,42,126,255,511,1023,1023,4095,8191,16383,32767,32767,131071,262143,524287,1048575,1048575,4194303,8388607,16777215]
theorem R27_13.tab : rtab .any (opsOf Tryz.f27 13) = R27_13.T:=by kernel_rfl
theorem R27_13.bits : waitsOk R27_13.T.2 R27_13.B = true:=by kernel_rfl
def R27_14.T : Bool × List (List Nat × List Nat):=(true,[([],[]),([],[]),([1],[1]),([1],[]),([3],[3]),([2,4],[2,4]),([0,5,3],[0,5]),([6,6],[6]),([7],[7]),([7,7],[7]),([8,9,7],[7,8,9]),([7,10],[7,10]),([11,9],[11]),([12],[12]),([12,12],[12]),([13,14,12],[12,13,14]),([12,15],[12,15]),([16,14],[16]),([17],[17]),([17,17],[17]),([18,19,17],[17,18,19]),([17,20],[17,20]),([21,19],[21]),([22],[22]),([22,22],[22]),([23,24,22],[22,23,24]),([22,25],[22,25]),([26,24,0,1,2,3,4,5,6,7,8,9,10,11,12,13,14,15,16,17,18,19,20,21,22,23,24,25,26],[26])])
def R27_14.B : List Nat:=[0,0,2,2,10,30,63,127,255,255,1023,2047,4095,8191,8191,32767,65535,131071,262143,262143,1048575,2097151,4194303,8388607,8388607,33554431,67108863,134217727]
theorem R27_14.tab : rtab .any (opsOf Tryz.f27 14) = R27_14.T:=by kernel_rfl
theorem R27_14.bits : waitsOk R27_14.T.2 R27_14.B = true:=by kernel_rfl
theorem eqA66 (d : Nat) (w : World) (x0 y0 : Int) (x1 y1 : Int) :
  (Op.equalIn (d + 2) 66 (.agg #[ii x0,ii x1]) (.agg #[ii y0,ii y1])).run Tryz.prog w = .ok (x0 == y0 && (x1 == y1)) w:=by
 refine eqA_of Tryz.underlying66 kr ?_
 refine eqf_cons (by rfl) (by go_simp;rfl) (by go_simp;rfl) (by go_simp) ?_
 exact eqf_last (by rfl) (by go_simp;rfl) (by go_simp;rfl) (by go_simp)
attribute [local go_sem high] eqA43 eqA66 eqA89
theorem row89_3 (W : World) (x y z : S89) : Kd.R k89 89 (W.alloc (.cells #[ii x.f0,ii x.f1.f0,ii x.f1.f1,ii y.f0,ii y.f1.f0,ii y.f1.f1,ii z.f0,ii z.f1.f0,ii z.f1.f1] 89)) W.heap.size (fun _ => True) (.slice (some ⟨W.heap.size,0,none⟩) 3 3) [x,y,z] :=
 ⟨fun _ _ => trivial,OwnRow.lit (ps:=[x,y,z]) W W.heap.size (inner:=[ii x.f0,ii x.f1.f0,ii x.f1.f1,ii y.f0,ii y.f1.f0,ii y.f1.f1,ii z.f0,ii z.f1.f0,ii z.f1.f1]) (Reps.snoc (Reps.snoc (Reps.snoc (Reps.none _ _) (k89_mkM _ _ _ x) rfl) (k89_mkM _ _ _ y) rfl) (k89_mkM _ _ _ z) rfl) (Nat.le_refl _) (by simp)⟩
theorem row89_2 (W : World) (x y : S89) : Kd.R k89 89 (W.alloc (.cells #[ii x.f0,ii x.f1.f0,ii x.f1.f1,ii y.f0,ii y.f1.f0,ii y.f1.f1] 89)) W.heap.size (fun _ => True) (.slice (some ⟨W.heap.size,0,none⟩) 2 2) [x,y] :=
 ⟨fun _ _ => trivial,OwnRow.lit (ps:=[x,y]) W W.heap.size (inner:=[ii x.f0,ii x.f1.f0,ii x.f1.f1,ii y.f0,ii y.f1.f0,ii y.f1.f1]) (Reps.snoc (Reps.snoc (Reps.none _ _) (k89_mkM _ _ _ x) rfl) (k89_mkM _ _ _ y) rfl) (Nat.le_refl _) (by simp)⟩
theorem row113_2 (W : World) (x y : S113) : Kd.R k113 113 (W.alloc (.cells #[ii x.f0,ii x.f1.f0,ii x.f1.f1,ii y.f0,ii y.f1.f0,ii y.f1.f1] 113)) W.heap.size (fun _ => True) (.slice (some ⟨W.heap.size,0,none⟩) 2 2) [x,y] :=
 ⟨fun _ _ => trivial,OwnRow.lit (ps:=[x,y]) W W.heap.size (inner:=[ii x.f0,ii x.f1.f0,ii x.f1.f1,ii y.f0,ii y.f1.f0,ii y.f1.f1]) (Reps.snoc (Reps.snoc (Reps.none _ _) (k113_mkM _ _ _ x) rfl) (k113_mkM _ _ _ y) rfl) (Nat.le_refl _) (by simp)⟩
theorem row137_2 (W : World) (x y : S137) : Kd.R k137 137 (W.alloc (.cells #[ii x.f0,ii x.f1.f0,ii x.f1.f1,ii y.f0,ii y.f1.f0,ii y.f1.f1] 137)) W.heap.size (fun _ => True) (.slice (some ⟨W.heap.size,0,none⟩) 2 2) [x,y] :=
 ⟨fun _ _ => trivial,OwnRow.lit (ps:=[x,y]) W W.heap.size (inner:=[ii x.f0,ii x.f1.f0,ii x.f1.f1,ii y.f0,ii y.f1.f0,ii y.f1.f1]) (Reps.snoc (Reps.snoc (Reps.none _ _) (k137_mkM _ _ _ x) rfl) (k137_mkM _ _ _ y) rfl) (Nat.le_refl _) (by simp)⟩
theorem row139_2 (W : World) (x y : S139) : Kd.R k139 139 (W.alloc (.cells #[ii x.f0,ii x.f1.f0,ii x.f1.f1,ii x.f2.f0,ii x.f2.f1,ii y.f0,ii y.f1.f0,ii y.f1.f1,ii y.f2.f0,ii y.f2.f1] 139)) W.heap.size (fun _ => True) (.slice (some ⟨W.heap.size,0,none⟩) 2 2) [x,y] :=
 ⟨fun _ _ => trivial,OwnRow.lit (ps:=[x,y]) W W.heap.size (inner:=[ii x.f0,ii x.f1.f0,ii x.f1.f1,ii x.f2.f0,ii x.f2.f1,ii y.f0,ii y.f1.f0,ii y.f1.f1,ii y.f2.f0,ii y.f2.f1]) (Reps.snoc (Reps.snoc (Reps.none _ _) (k139_mkM _ _ _ x) rfl) (k139_mkM _ _ _ y) rfl) (Nat.le_refl _) (by simp)⟩
set_option maxRecDepth 100000 in
set_option maxHeartbeats 4000000 in
theorem sanity_calls (w : World) : Calls Tryz.prog 27 #[] w fun e w' => e = .returned (.bool true) ∧ Below w.heap.size w w':=by
 have hu32:=Tryz.underlying32
 have hu43:=Tryz.underlying43
 have hu66:=Tryz.underlying66
 have hu89:=Tryz.underlying89
 have hu113:=Tryz.underlying113
 have hu137:=Tryz.underlying137
 have hu139:=Tryz.underlying139
 obtain ⟨rooms,hrm⟩ : ∃ rooms,rooms = exR:=⟨_,rfl⟩
 obtain ⟨stirs,hst⟩ : ∃ stirs,stirs = exS:=⟨_,rfl⟩
 have HRM:=am hrm
 have HST:=am hst
 have HEX:=am (show calxlaw04_Example.f = some (rooms,stirs) by rw [hrm,hst];rfl)
 have HOK:=am (show playedP rooms stirs stirs.length = .ok exY by rw [hrm,hst];exact ex_ok)
 clear hrm hst
 go_enter Tryz.func27,Tryz.ntmps27
 go_wp2_with fail
 refine (calxlaw04_Example.calls rooms stirs w HEX.out).mono ?_
 rintro e w1 ⟨v0,v1,rfl,hR0,hR1,hb⟩
 obtain ⟨A,c,rfl⟩:=Kd.R_slice hR0
 obtain ⟨A2,c2,rfl⟩:=Kd.R_slice hR1
 have HCC:=am (Kd.R_reads' hR0).2.1
 have HCC2:=am (Kd.R_reads' hR1).2.1
 have HB:=am (hb)
 have HF:=am (show Kd.F (Kd.int .i64) w1 (fun k => k < w1.heap.size) A rooms.length rooms from Kd.F_mono (Kd.R_F (Kd.R_bound hR0)) (fun k hk => hk.2.2.1))
 have HS:=am ((Kd.R_reads' hR1).2.2)
 clear hR0 hR1 hb
 have HB1:=am (below_alloc HB.out (.cells #[.slice A rooms.length c,.slice A2 stirs.length c2] 32))
 have HF1:=am (Kd.F_alloc HF.out (.cells #[.slice A rooms.length c,.slice A2 stirs.length c2] 32))
 have HS1:=am (Kd.C_alloc HS.out (.cells #[.slice A rooms.length c,.slice A2 stirs.length c2] 32))
 have Hp_:=am (blk_new w1 (.cells #[.slice A rooms.length c,.slice A2 stirs.length c2] 32))
 go_wp2_with fail
 refine (barrow_calls A A2 c c2 rooms stirs _ w1.heap.size (Nat.le_of_lt (blk_lt Hp_.out)) HF1.out HCC.out HS1.out HCC2.out 13).mono ?_
 rintro e w2 ⟨hb,h⟩
 rw [HOK.out] at h
 simp only [ex_barrow] at h
 obtain ⟨A3,c3,rfl,hl3,hC3⟩:=h
 obtain ⟨pa,hpa⟩ : ∃ pa,pa = exB.f3:=⟨_,rfl⟩
 rw [← hpa] at hl3 hC3 ⊢
 have HPA:=am hpa
 have HL3:=am hl3
 clear hpa
 have HB2:=am (below_then HB1.out (below_size HB1.out) hb)
 have HF2:=am (Kd.F_below HF1.out hb)
 have HS2:=am (Kd.C_below HS1.out hb)
 have Hp_1:=am (blk_below Hp_.out hb)
 have Hb_:=am (hC3)
 clear hb hl3 hC3
 have g0:=bd Hp_1.out 0
 have g1:=bd Hp_1.out 1
 have hh:=share_calls A A2 c c2 rooms stirs w2 w1.heap.size (Nat.le_of_lt (blk_lt Hp_1.out)) HF2.out HCC.out HS2.out HCC2.out 13 3
 rw [show shareE (playedP rooms stirs stirs.length) 13 3 = (⟨1,6⟩,0) from by rw [HRM.out,HST.out];exact ex_share] at hh
 have HH:=am hh
 clear hh
 go_wp2_with fail
 refine HH.out.mono ?_
 rintro e w3 ⟨rfl,hb⟩
 have HB3:=am (below_then HB2.out (below_size HB2.out) hb)
 have HF3:=am (Kd.F_below HF2.out hb)
 have HS3:=am (Kd.C_below HS2.out hb)
 have Hp_2:=am (blk_below Hp_1.out hb)
 have Hb_1:=am (Kd.C_below Hb_.out hb)
 clear hb g0 g1
 clear HH
 have HB4:=am (below_alloc HB3.out (.cells #[ii 1,ii 6] 43))
 have HF4:=am (Kd.F_alloc HF3.out (.cells #[ii 1,ii 6] 43))
 have HS4:=am (Kd.C_alloc HS3.out (.cells #[ii 1,ii 6] 43))
 have Hp_3:=am (blk_alloc Hp_2.out (.cells #[ii 1,ii 6] 43))
 have Hb_2:=am (Kd.C_alloc Hb_1.out (.cells #[ii 1,ii 6] 43))
 have Hs_:=am (blk_new' w3 (.cells #[ii 1,ii 6] 43) (w3.heap.size) (by simp))
 have g0:=bd Hp_3.out 0
 have g1:=bd Hp_3.out 1
 have hh:=ages_calls A A2 c c2 rooms stirs (w3.alloc (.cells #[ii 1,ii 6] 43)) w1.heap.size (Nat.le_of_lt (blk_lt Hp_3.out)) HF4.out HCC.out HS4.out HCC2.out 13
 rw [show agesE stirs (playedP rooms stirs stirs.length) 13 = ((2,12),0) from by rw [HRM.out,HST.out];exact ex_ages] at hh
 have HH:=am hh
 clear hh
 go_wp2_with fail
 refine HH.out.mono ?_
 rintro e w4 ⟨rfl,hb⟩
 have HB5:=am (below_then HB4.out (below_size HB4.out) hb)
 have HF5:=am (Kd.F_below HF4.out hb)
 have HS5:=am (Kd.C_below HS4.out hb)
 have Hp_4:=am (blk_below Hp_3.out hb)
 have Hb_3:=am (Kd.C_below Hb_2.out hb)
 have Hs_1:=am (blk_below Hs_.out hb)
 clear hb g0 g1
 clear HH
 have HB6:=am (below_alloc HB5.out (.cells #[ii 2,ii 12] 66))
 have HF6:=am (Kd.F_alloc HF5.out (.cells #[ii 2,ii 12] 66))
 have HS6:=am (Kd.C_alloc HS5.out (.cells #[ii 2,ii 12] 66))
 have Hp_5:=am (blk_alloc Hp_4.out (.cells #[ii 2,ii 12] 66))
 have Hb_4:=am (Kd.C_alloc Hb_3.out (.cells #[ii 2,ii 12] 66))
 have Hs_2:=am (blk_alloc Hs_1.out (.cells #[ii 2,ii 12] 66))
 have Ha_:=am (blk_new' w4 (.cells #[ii 2,ii 12] 66) (w4.heap.size) (by simp))
 have g0:=bd Hp_5.out 0
 have g1:=bd Hp_5.out 1
 have hh:=ripe_calls A A2 c c2 rooms stirs (w4.alloc (.cells #[ii 2,ii 12] 66)) w1.heap.size (Nat.le_of_lt (blk_lt Hp_5.out)) HF6.out HCC.out HS6.out HCC2.out 12 8
 rw [show ripeE stirs (playedP rooms stirs stirs.length) 12 8 = (⟨1,2⟩,0) from by rw [HRM.out,HST.out];exact ex_ripe] at hh
 have HH:=am hh
 clear hh
 go_wp2_with fail
 refine HH.out.mono ?_
 rintro e w5 ⟨rfl,hb⟩
 have HB7:=am (below_then HB6.out (below_size HB6.out) hb)
 have HF7:=am (Kd.F_below HF6.out hb)
 have HS7:=am (Kd.C_below HS6.out hb)
 have Hp_6:=am (blk_below Hp_5.out hb)
 have Hb_5:=am (Kd.C_below Hb_4.out hb)
 have Hs_3:=am (blk_below Hs_2.out hb)
 have Ha_1:=am (blk_below Ha_.out hb)
 clear hb g0 g1
 clear HH
 have HB8:=am (below_alloc HB7.out (.cells #[ii 1,ii 2] 43))
 have HF8:=am (Kd.F_alloc HF7.out (.cells #[ii 1,ii 2] 43))
 have HS8:=am (Kd.C_alloc HS7.out (.cells #[ii 1,ii 2] 43))
 have Hp_7:=am (blk_alloc Hp_6.out (.cells #[ii 1,ii 2] 43))
 have Hb_6:=am (Kd.C_alloc Hb_5.out (.cells #[ii 1,ii 2] 43))
 have Hs_4:=am (blk_alloc Hs_3.out (.cells #[ii 1,ii 2] 43))
 have Ha_2:=am (blk_alloc Ha_1.out (.cells #[ii 1,ii 2] 43))
 have Hr_:=am (blk_new' w5 (.cells #[ii 1,ii 2] 43) (w5.heap.size) (by simp))
 have g0:=bd Hp_7.out 0
 have g1:=bd Hp_7.out 1
 have hh:=fate_calls A A2 c c2 rooms stirs (w5.alloc (.cells #[ii 1,ii 2] 43)) w1.heap.size (Nat.le_of_lt (blk_lt Hp_7.out)) HF8.out HCC.out HS8.out HCC2.out 2
 rw [show fateE (playedP rooms stirs stirs.length) 2 = ([⟨12,⟨5,1⟩⟩,⟨13,⟨15,2⟩⟩],⟨15,2⟩,⟨0,1⟩,0) from by rw [HRM.out,HST.out];exact ex_fate] at hh
 have HH:=am hh
 clear hh
 go_wp2_with fail
 refine HH.out.mono ?_
 rintro e w6 ⟨hb,A7,c7,rfl,hl7,hC7⟩
 replace hC7:=Kd.F_now hC7
 obtain ⟨pl,hpl⟩ : ∃ pl : List S89,pl = [⟨12,⟨5,1⟩⟩,⟨13,⟨15,2⟩⟩]:=⟨_,rfl⟩
 rw [show ((([⟨12,⟨5,1⟩⟩,⟨13,⟨15,2⟩⟩],⟨15,2⟩,⟨0,1⟩,0) : List S89 × S43 × S43 × Int)).1 = pl from hpl.symm] at hl7 hC7 ⊢
 have HPL:=am hpl
 have HL7:=am hl7
 clear hpl
 have HB9:=am (below_then HB8.out (below_size HB8.out) hb)
 have HF9:=am (Kd.F_below HF8.out hb)
 have HS9:=am (Kd.C_below HS8.out hb)
 have Hp_8:=am (blk_below Hp_7.out hb)
 have Hb_7:=am (Kd.C_below Hb_6.out hb)
 have Hs_5:=am (blk_below Hs_4.out hb)
 have Ha_3:=am (blk_below Ha_2.out hb)
 have Hr_1:=am (blk_below Hr_.out hb)
 have Hq_:=am (hC7)
 clear hb g0 g1 hl7 hC7
 clear HH
 have HB10:=am (below_alloc HB9.out (.cells #[ii 15,ii 2] 43))
 have HF10:=am (Kd.F_alloc HF9.out (.cells #[ii 15,ii 2] 43))
 have HS10:=am (Kd.C_alloc HS9.out (.cells #[ii 15,ii 2] 43))
 have Hp_9:=am (blk_alloc Hp_8.out (.cells #[ii 15,ii 2] 43))
 have Hb_8:=am (Kd.C_alloc Hb_7.out (.cells #[ii 15,ii 2] 43))
 have Hs_6:=am (blk_alloc Hs_5.out (.cells #[ii 15,ii 2] 43))
 have Ha_4:=am (blk_alloc Ha_3.out (.cells #[ii 15,ii 2] 43))
 have Hr_2:=am (blk_alloc Hr_1.out (.cells #[ii 15,ii 2] 43))
 have Hq_1:=am (Kd.C_alloc Hq_.out (.cells #[ii 15,ii 2] 43))
 have Hf_:=am (blk_new' w6 (.cells #[ii 15,ii 2] 43) (w6.heap.size) (by simp))
 have HB11:=am (below_alloc HB10.out (.cells #[ii 0,ii 1] 43))
 have HF11:=am (Kd.F_alloc HF10.out (.cells #[ii 0,ii 1] 43))
 have HS11:=am (Kd.C_alloc HS10.out (.cells #[ii 0,ii 1] 43))
 have Hp_10:=am (blk_alloc Hp_9.out (.cells #[ii 0,ii 1] 43))
 have Hb_9:=am (Kd.C_alloc Hb_8.out (.cells #[ii 0,ii 1] 43))
 have Hs_7:=am (blk_alloc Hs_6.out (.cells #[ii 0,ii 1] 43))
 have Ha_5:=am (blk_alloc Ha_4.out (.cells #[ii 0,ii 1] 43))
 have Hr_3:=am (blk_alloc Hr_2.out (.cells #[ii 0,ii 1] 43))
 have Hq_2:=am (Kd.C_alloc Hq_1.out (.cells #[ii 0,ii 1] 43))
 have Hf_1:=am (blk_alloc Hf_.out (.cells #[ii 0,ii 1] 43))
 have Ho_:=am (blk_new' (w6.alloc (.cells #[ii 15,ii 2] 43)) (.cells #[ii 0,ii 1] 43) (w6.heap.size + 1) (by simp))
 have hgr:=(Kd.R_reads' (row113_2 ((w6.alloc (.cells #[ii 15,ii 2] 43)).alloc (.cells #[ii 0,ii 1] 43)) ⟨1,⟨0,100⟩⟩ ⟨2,⟨60,60⟩⟩)).2.2
 rw [show ((w6.alloc (.cells #[ii 15,ii 2] 43)).alloc (.cells #[ii 0,ii 1] 43)).heap.size = w6.heap.size + 1 + 1 by simp] at hgr
 have HGR:=am hgr
 clear hgr
 have HB12:=am (below_alloc HB11.out (.cells #[ii 1,ii 0,ii 100,ii 2,ii 60,ii 60] 113))
 have HF12:=am (Kd.F_alloc HF11.out (.cells #[ii 1,ii 0,ii 100,ii 2,ii 60,ii 60] 113))
 have HS12:=am (Kd.C_alloc HS11.out (.cells #[ii 1,ii 0,ii 100,ii 2,ii 60,ii 60] 113))
 have Hp_11:=am (blk_alloc Hp_10.out (.cells #[ii 1,ii 0,ii 100,ii 2,ii 60,ii 60] 113))
 have Hb_10:=am (Kd.C_alloc Hb_9.out (.cells #[ii 1,ii 0,ii 100,ii 2,ii 60,ii 60] 113))
 have Hs_8:=am (blk_alloc Hs_7.out (.cells #[ii 1,ii 0,ii 100,ii 2,ii 60,ii 60] 113))
 have Ha_6:=am (blk_alloc Ha_5.out (.cells #[ii 1,ii 0,ii 100,ii 2,ii 60,ii 60] 113))
 have Hr_4:=am (blk_alloc Hr_3.out (.cells #[ii 1,ii 0,ii 100,ii 2,ii 60,ii 60] 113))
 have Hq_3:=am (Kd.C_alloc Hq_2.out (.cells #[ii 1,ii 0,ii 100,ii 2,ii 60,ii 60] 113))
 have Hf_2:=am (blk_alloc Hf_1.out (.cells #[ii 1,ii 0,ii 100,ii 2,ii 60,ii 60] 113))
 have Ho_1:=am (blk_alloc Ho_.out (.cells #[ii 1,ii 0,ii 100,ii 2,ii 60,ii 60] 113))
 have g0:=bd Hp_10.out 0
 have g1:=bd Hp_10.out 1
 have hh:=worth_calls A A2 c c2 rooms stirs (((w6.alloc (.cells #[ii 15,ii 2] 43)).alloc (.cells #[ii 0,ii 1] 43)).alloc (.cells #[ii 1,ii 0,ii 100,ii 2,ii 60,ii 60] 113)) w1.heap.size (Nat.le_of_lt (blk_lt Hp_11.out)) HF12.out HCC.out HS12.out HCC2.out 13 (some ⟨w6.heap.size + 1 + 1,0,none⟩) 2 exG HGR.out (by decide)
 rw [show worthE (playedP rooms stirs stirs.length) 13 exG = (⟨25,1⟩,⟨700,3⟩,0) from by rw [HRM.out,HST.out];exact ex_worth] at hh
 have HH:=am hh
 clear hh
 go_wp2_with fail
 refine HH.out.mono ?_
 rintro e w8 ⟨rfl,hb⟩
 have HB13:=am (below_then HB12.out (below_size HB12.out) hb)
 have HF13:=am (Kd.F_below HF12.out hb)
 have HS13:=am (Kd.C_below HS12.out hb)
 have Hp_12:=am (blk_below Hp_11.out hb)
 have Hb_11:=am (Kd.C_below Hb_10.out hb)
 have Hs_9:=am (blk_below Hs_8.out hb)
 have Ha_7:=am (blk_below Ha_6.out hb)
 have Hr_5:=am (blk_below Hr_4.out hb)
 have Hq_4:=am (Kd.C_below Hq_3.out hb)
 have Hf_3:=am (blk_below Hf_2.out hb)
 have Ho_2:=am (blk_below Ho_1.out hb)
 clear hb g0 g1 HH HGR
 have HB14:=am (below_alloc HB13.out (.cells #[ii 25,ii 1] 43))
 have HF14:=am (Kd.F_alloc HF13.out (.cells #[ii 25,ii 1] 43))
 have HS14:=am (Kd.C_alloc HS13.out (.cells #[ii 25,ii 1] 43))
 have Hp_13:=am (blk_alloc Hp_12.out (.cells #[ii 25,ii 1] 43))
 have Hb_12:=am (Kd.C_alloc Hb_11.out (.cells #[ii 25,ii 1] 43))
 have Hs_10:=am (blk_alloc Hs_9.out (.cells #[ii 25,ii 1] 43))
 have Ha_8:=am (blk_alloc Ha_7.out (.cells #[ii 25,ii 1] 43))
 have Hr_6:=am (blk_alloc Hr_5.out (.cells #[ii 25,ii 1] 43))
 have Hq_5:=am (Kd.C_alloc Hq_4.out (.cells #[ii 25,ii 1] 43))
 have Hf_4:=am (blk_alloc Hf_3.out (.cells #[ii 25,ii 1] 43))
 have Ho_3:=am (blk_alloc Ho_2.out (.cells #[ii 25,ii 1] 43))
 have Hl_:=am (blk_new' w8 (.cells #[ii 25,ii 1] 43) (w8.heap.size) (by simp))
 have HB15:=am (below_alloc HB14.out (.cells #[ii 700,ii 3] 43))
 have HF15:=am (Kd.F_alloc HF14.out (.cells #[ii 700,ii 3] 43))
 have HS15:=am (Kd.C_alloc HS14.out (.cells #[ii 700,ii 3] 43))
 have Hp_14:=am (blk_alloc Hp_13.out (.cells #[ii 700,ii 3] 43))
 have Hb_13:=am (Kd.C_alloc Hb_12.out (.cells #[ii 700,ii 3] 43))
 have Hs_11:=am (blk_alloc Hs_10.out (.cells #[ii 700,ii 3] 43))
 have Ha_9:=am (blk_alloc Ha_8.out (.cells #[ii 700,ii 3] 43))
 have Hr_7:=am (blk_alloc Hr_6.out (.cells #[ii 700,ii 3] 43))
 have Hq_6:=am (Kd.C_alloc Hq_5.out (.cells #[ii 700,ii 3] 43))
 have Hf_5:=am (blk_alloc Hf_4.out (.cells #[ii 700,ii 3] 43))
 have Ho_4:=am (blk_alloc Ho_3.out (.cells #[ii 700,ii 3] 43))
 have Hl_1:=am (blk_alloc Hl_.out (.cells #[ii 700,ii 3] 43))
 have Hh_:=am (blk_new' (w8.alloc (.cells #[ii 25,ii 1] 43)) (.cells #[ii 700,ii 3] 43) (w8.heap.size + 1) (by simp))
 have hgr:=(Kd.R_reads' (row137_2 ((w8.alloc (.cells #[ii 25,ii 1] 43)).alloc (.cells #[ii 700,ii 3] 43)) ⟨12,⟨100,120⟩⟩ ⟨13,⟨50,90⟩⟩)).2.2
 rw [show ((w8.alloc (.cells #[ii 25,ii 1] 43)).alloc (.cells #[ii 700,ii 3] 43)).heap.size = w8.heap.size + 1 + 1 by simp] at hgr
 have HGR:=am hgr
 clear hgr
 have g0:=bd Hp_14.out 0
 have g1:=bd Hp_14.out 1
 have HB16:=am (below_alloc HB15.out (.cells #[ii 12,ii 100,ii 120,ii 13,ii 50,ii 90] 137))
 have HF16:=am (Kd.F_alloc HF15.out (.cells #[ii 12,ii 100,ii 120,ii 13,ii 50,ii 90] 137))
 have HS16:=am (Kd.C_alloc HS15.out (.cells #[ii 12,ii 100,ii 120,ii 13,ii 50,ii 90] 137))
 have Hp_15:=am (blk_alloc Hp_14.out (.cells #[ii 12,ii 100,ii 120,ii 13,ii 50,ii 90] 137))
 have Hb_14:=am (Kd.C_alloc Hb_13.out (.cells #[ii 12,ii 100,ii 120,ii 13,ii 50,ii 90] 137))
 have Hs_12:=am (blk_alloc Hs_11.out (.cells #[ii 12,ii 100,ii 120,ii 13,ii 50,ii 90] 137))
 have Ha_10:=am (blk_alloc Ha_9.out (.cells #[ii 12,ii 100,ii 120,ii 13,ii 50,ii 90] 137))
 have Hr_8:=am (blk_alloc Hr_7.out (.cells #[ii 12,ii 100,ii 120,ii 13,ii 50,ii 90] 137))
 have Hq_7:=am (Kd.C_alloc Hq_6.out (.cells #[ii 12,ii 100,ii 120,ii 13,ii 50,ii 90] 137))
 have Hf_6:=am (blk_alloc Hf_5.out (.cells #[ii 12,ii 100,ii 120,ii 13,ii 50,ii 90] 137))
 have Ho_5:=am (blk_alloc Ho_4.out (.cells #[ii 12,ii 100,ii 120,ii 13,ii 50,ii 90] 137))
 have Hl_2:=am (blk_alloc Hl_1.out (.cells #[ii 12,ii 100,ii 120,ii 13,ii 50,ii 90] 137))
 have Hh_1:=am (blk_alloc Hh_.out (.cells #[ii 12,ii 100,ii 120,ii 13,ii 50,ii 90] 137))
 have hh:=culprits_calls A A2 c c2 rooms stirs (((w8.alloc (.cells #[ii 25,ii 1] 43)).alloc (.cells #[ii 700,ii 3] 43)).alloc (.cells #[ii 12,ii 100,ii 120,ii 13,ii 50,ii 90] 137)) w1.heap.size (Nat.le_of_lt (blk_lt Hp_15.out)) HF16.out HCC.out HS16.out HCC2.out (some ⟨w8.heap.size + 1 + 1,0,none⟩) 2 exP HGR.out (by decide)
 have HH:=am hh
 clear hh
 go_wp2_with fail
 refine HH.out.mono ?_
 rintro e w10 ⟨hb,h⟩
 rw [HOK.out] at h
 dsimp only at h
 rw [if_pos ex_probes] at h
 obtain ⟨A9,c9,rfl,hl9,hC9⟩:=h
 replace hC9:=Kd.F_now hC9
 obtain ⟨pk,hpk⟩ : ∃ pk,pk = culpP exY exP exY.pours:=⟨_,rfl⟩
 rw [← hpk] at hl9 hC9 ⊢
 have HPK:=am (hpk.trans ex_culp)
 have HL9:=am hl9
 clear hpk
 have HB17:=am (below_then HB16.out (below_size HB16.out) hb)
 have HF17:=am (Kd.F_below HF16.out hb)
 have HS17:=am (Kd.C_below HS16.out hb)
 have Hp_16:=am (blk_below Hp_15.out hb)
 have Hb_15:=am (Kd.C_below Hb_14.out hb)
 have Hs_13:=am (blk_below Hs_12.out hb)
 have Ha_11:=am (blk_below Ha_10.out hb)
 have Hr_9:=am (blk_below Hr_8.out hb)
 have Hq_8:=am (Kd.C_below Hq_7.out hb)
 have Hf_7:=am (blk_below Hf_6.out hb)
 have Ho_6:=am (blk_below Ho_5.out hb)
 have Hl_3:=am (blk_below Hl_2.out hb)
 have Hh_2:=am (blk_below Hh_1.out hb)
 have Hk_:=am (hC9)
 clear hb g0 g1 HH HGR hl9 hC9
 have g0:=bd Hp_16.out 0
 have g1:=bd Hp_16.out 1
 have hh:=swap_calls A A2 c c2 rooms stirs w10 w1.heap.size (Nat.le_of_lt (blk_lt Hp_16.out)) HF17.out HCC.out HS17.out HCC2.out 5
 have HH:=am hh
 clear hh
 go_wp2_with fail
 refine HH.out.mono ?_
 rintro e w11 ⟨hb,h⟩
 rw [HOK.out] at h
 dsimp only at h
 rw [show inP 5 1 ((stirs.length : Int) - 1) = true from by rw [HST.out];exact ex_in5,if_pos rfl,show swapR rooms stirs 5 = .ok (exZ 5) from by rw [HRM.out,HST.out];exact ex_swap5] at h
 dsimp only at h
 rw [ex_alike5] at h
 obtain ⟨A5,A6,c5,c6,rfl,_,_,_,_⟩:=h
 have HB18:=am (below_then HB17.out (below_size HB17.out) hb)
 have HF18:=am (Kd.F_below HF17.out hb)
 have HS18:=am (Kd.C_below HS17.out hb)
 have Hp_17:=am (blk_below Hp_16.out hb)
 have Hb_16:=am (Kd.C_below Hb_15.out hb)
 have Hs_14:=am (blk_below Hs_13.out hb)
 have Ha_12:=am (blk_below Ha_11.out hb)
 have Hr_10:=am (blk_below Hr_9.out hb)
 have Hq_9:=am (Kd.C_below Hq_8.out hb)
 have Hf_8:=am (blk_below Hf_7.out hb)
 have Ho_7:=am (blk_below Ho_6.out hb)
 have Hl_4:=am (blk_below Hl_3.out hb)
 have Hh_3:=am (blk_below Hh_2.out hb)
 have Hk_1:=am (Kd.C_below Hk_.out hb)
 clear hb g0 g1 HH
 have HB19:=am (below_alloc HB18.out (.cells #[.slice A5 rooms.length c5,.slice A6 stirs.length c6] 32))
 have HF19:=am (Kd.F_alloc HF18.out (.cells #[.slice A5 rooms.length c5,.slice A6 stirs.length c6] 32))
 have HS19:=am (Kd.C_alloc HS18.out (.cells #[.slice A5 rooms.length c5,.slice A6 stirs.length c6] 32))
 have Hp_18:=am (blk_alloc Hp_17.out (.cells #[.slice A5 rooms.length c5,.slice A6 stirs.length c6] 32))
 have Hb_17:=am (Kd.C_alloc Hb_16.out (.cells #[.slice A5 rooms.length c5,.slice A6 stirs.length c6] 32))
 have Hs_15:=am (blk_alloc Hs_14.out (.cells #[.slice A5 rooms.length c5,.slice A6 stirs.length c6] 32))
 have Ha_13:=am (blk_alloc Ha_12.out (.cells #[.slice A5 rooms.length c5,.slice A6 stirs.length c6] 32))
 have Hr_11:=am (blk_alloc Hr_10.out (.cells #[.slice A5 rooms.length c5,.slice A6 stirs.length c6] 32))
 have Hq_10:=am (Kd.C_alloc Hq_9.out (.cells #[.slice A5 rooms.length c5,.slice A6 stirs.length c6] 32))
 have Hf_9:=am (blk_alloc Hf_8.out (.cells #[.slice A5 rooms.length c5,.slice A6 stirs.length c6] 32))
 have Ho_8:=am (blk_alloc Ho_7.out (.cells #[.slice A5 rooms.length c5,.slice A6 stirs.length c6] 32))
 have Hl_5:=am (blk_alloc Hl_4.out (.cells #[.slice A5 rooms.length c5,.slice A6 stirs.length c6] 32))
 have Hh_4:=am (blk_alloc Hh_3.out (.cells #[.slice A5 rooms.length c5,.slice A6 stirs.length c6] 32))
 have Hk_2:=am (Kd.C_alloc Hk_1.out (.cells #[.slice A5 rooms.length c5,.slice A6 stirs.length c6] 32))
 have g0:=bd Hp_18.out 0
 have g1:=bd Hp_18.out 1
 have hh:=swap_calls A A2 c c2 rooms stirs (w11.alloc (.cells #[.slice A5 rooms.length c5,.slice A6 stirs.length c6] 32)) w1.heap.size (Nat.le_of_lt (blk_lt Hp_18.out)) HF19.out HCC.out HS19.out HCC2.out 1
 have HH:=am hh
 clear hh
 go_wp2_with fail
 refine HH.out.mono ?_
 rintro e w12 ⟨hb,h⟩
 rw [HOK.out] at h
 dsimp only at h
 rw [show inP 1 1 ((stirs.length : Int) - 1) = true from by rw [HST.out];exact ex_in1,if_pos rfl,show swapR rooms stirs 1 = .ok (exZ 1) from by rw [HRM.out,HST.out];exact ex_swap1] at h
 dsimp only at h
 rw [ex_alike1] at h
 obtain ⟨A5,A6,c5,c6,rfl,_,_,_,_⟩:=h
 have HB20:=am (below_then HB19.out (below_size HB19.out) hb)
 have Hb_18:=am (Kd.C_below Hb_17.out hb)
 have Hs_16:=am (blk_below Hs_15.out hb)
 have Ha_14:=am (blk_below Ha_13.out hb)
 have Hr_12:=am (blk_below Hr_11.out hb)
 have Hq_11:=am (Kd.C_below Hq_10.out hb)
 have Hf_10:=am (blk_below Hf_9.out hb)
 have Ho_9:=am (blk_below Ho_8.out hb)
 have Hl_6:=am (blk_below Hl_5.out hb)
 have Hh_5:=am (blk_below Hh_4.out hb)
 have Hk_3:=am (Kd.C_below Hk_2.out hb)
 clear hb g0 g1 HH
 have HB21:=am (below_alloc HB20.out (.cells #[.slice A5 rooms.length c5,.slice A6 stirs.length c6] 32))
 have Hb_19:=am (Kd.C_alloc Hb_18.out (.cells #[.slice A5 rooms.length c5,.slice A6 stirs.length c6] 32))
 have Hs_17:=am (blk_alloc Hs_16.out (.cells #[.slice A5 rooms.length c5,.slice A6 stirs.length c6] 32))
 have Ha_15:=am (blk_alloc Ha_14.out (.cells #[.slice A5 rooms.length c5,.slice A6 stirs.length c6] 32))
 have Hr_13:=am (blk_alloc Hr_12.out (.cells #[.slice A5 rooms.length c5,.slice A6 stirs.length c6] 32))
 have Hq_12:=am (Kd.C_alloc Hq_11.out (.cells #[.slice A5 rooms.length c5,.slice A6 stirs.length c6] 32))
 have Hf_11:=am (blk_alloc Hf_10.out (.cells #[.slice A5 rooms.length c5,.slice A6 stirs.length c6] 32))
 have Ho_10:=am (blk_alloc Ho_9.out (.cells #[.slice A5 rooms.length c5,.slice A6 stirs.length c6] 32))
 have Hl_7:=am (blk_alloc Hl_6.out (.cells #[.slice A5 rooms.length c5,.slice A6 stirs.length c6] 32))
 have Hh_6:=am (blk_alloc Hh_5.out (.cells #[.slice A5 rooms.length c5,.slice A6 stirs.length c6] 32))
 have Hk_4:=am (Kd.C_alloc Hk_3.out (.cells #[.slice A5 rooms.length c5,.slice A6 stirs.length c6] 32))
 have HB22:=am (below_drew HB21.out)
 have Hb_20:=am (Kd.C_drew Hb_19.out)
 have Hs_18:=am (blk_drew Hs_17.out)
 have Ha_16:=am (blk_drew Ha_15.out)
 have Hr_14:=am (blk_drew Hr_13.out)
 have Hq_13:=am (Kd.C_drew Hq_12.out)
 have Hf_12:=am (blk_drew Hf_11.out)
 have Ho_11:=am (blk_drew Ho_10.out)
 have Hl_8:=am (blk_drew Hl_7.out)
 have Hh_7:=am (blk_drew Hh_6.out)
 have Hk_5:=am (Kd.C_drew Hk_4.out)
 go_wp2
 refine start_ (n:=25) (S:=fun w' => w'.cell? ⟨w3.heap.size,0,none⟩ = some (ii 1) ∧ w'.cell? ⟨w3.heap.size,1,none⟩ = some (ii 6) ∧ w'.cell? ⟨w4.heap.size,0,none⟩ = some (ii 2) ∧ w'.cell? ⟨w4.heap.size,1,none⟩ = some (ii 12) ∧ w'.cell? ⟨w5.heap.size,0,none⟩ = some (ii 1) ∧ w'.cell? ⟨w5.heap.size,1,none⟩ = some (ii 2)) (ds:=[]) (ab 25 0) kr rfl kr ⟨(blk_cell Hs_18.out 0).trans rfl,(blk_cell Hs_18.out 1).trans rfl,(blk_cell Ha_16.out 0).trans rfl,(blk_cell Ha_16.out 1).trans rfl,(blk_cell Hr_14.out 0).trans rfl,(blk_cell Hr_14.out 1).trans rfl⟩ (fun hHeld => ?_);refine with_tabW R27_13.tab R27_13.bits (fun HT_ HW_ => ?_)
 generalize ((w12.alloc (.cells #[.slice A5 rooms.length c5,.slice A6 stirs.length c6] 32))).drew = wd at HB22 Hb_20 Hs_18 Ha_16 Hr_14 Hq_13 Hf_12 Ho_11 Hl_8 Hh_7 Hk_5 hHeld ⊢
 refine qA 0 (some 122) ?_
 refine qE 1 (some 123) fun K hK => ?_
 refine gC Tryz.func52 #[ii 15,ii 2] ?_
 refine (ex_frac _ _ _).mono ?_
 rintro e wd0 ⟨rfl,hb⟩
 have HB23:=am (below_then HB22.out (below_size HB22.out) hb)
 have Hb_21:=am (Kd.C_below Hb_20.out hb)
 have Hs_19:=am (blk_below Hs_18.out hb)
 have Ha_17:=am (blk_below Ha_16.out hb)
 have Hr_15:=am (blk_below Hr_14.out hb)
 have Hq_14:=am (Kd.C_below Hq_13.out hb)
 have Hf_13:=am (blk_below Hf_12.out hb)
 have Ho_12:=am (blk_below Ho_11.out hb)
 have Hl_9:=am (blk_below Hl_8.out hb)
 have Hh_8:=am (blk_below Hh_7.out hb)
 have Hk_6:=am (Kd.C_below Hk_5.out hb)
 clear hb
 refine ⟨_,rfl,?_⟩
 refine hK.out _ _ ⟨(blk_cell Hs_19.out 0).trans rfl,(blk_cell Hs_19.out 1).trans rfl,(blk_cell Ha_17.out 0).trans rfl,(blk_cell Ha_17.out 1).trans rfl,(blk_cell Hr_15.out 0).trans rfl,(blk_cell Hr_15.out 1).trans rfl⟩ (fun hHeld => ?_)
 clear hK K
 refine qN (some 123) ?_
 refine qA 2 (some 124) ?_
 refine qE 3 (some 125) fun K hK => ?_
 refine gC Tryz.func52 #[ii 15,ii 2] ?_
 refine (ex_frac _ _ _).mono ?_
 rintro e wd1 ⟨rfl,hb⟩
 have HB24:=am (below_then HB23.out (below_size HB23.out) hb)
 have Hb_22:=am (Kd.C_below Hb_21.out hb)
 have Hs_20:=am (blk_below Hs_19.out hb)
 have Ha_18:=am (blk_below Ha_17.out hb)
 have Hr_16:=am (blk_below Hr_15.out hb)
 have Hq_15:=am (Kd.C_below Hq_14.out hb)
 have Hf_14:=am (blk_below Hf_13.out hb)
 have Ho_13:=am (blk_below Ho_12.out hb)
 have Hl_10:=am (blk_below Hl_9.out hb)
 have Hh_9:=am (blk_below Hh_8.out hb)
 have Hk_7:=am (Kd.C_below Hk_6.out hb)
 clear hb
 refine ⟨_,rfl,?_⟩
 refine hK.out _ _ ⟨(blk_cell Hs_20.out 0).trans rfl,(blk_cell Hs_20.out 1).trans rfl,(blk_cell Ha_18.out 0).trans rfl,(blk_cell Ha_18.out 1).trans rfl,(blk_cell Hr_16.out 0).trans rfl,(blk_cell Hr_16.out 1).trans rfl⟩ (fun hHeld => ?_)
 clear hK K
 refine qN (some 125) ?_
 refine qA 4 (some 126) ?_
 refine qE 5 (some 127) fun K hK => ?_
 refine gC Tryz.func52 #[ii 3,ii 1] ?_
 refine (ex_frac _ _ _).mono ?_
 rintro e wd2 ⟨rfl,hb⟩
 have HB25:=am (below_then HB24.out (below_size HB24.out) hb)
 have Hb_23:=am (Kd.C_below Hb_22.out hb)
 have Hs_21:=am (blk_below Hs_20.out hb)
 have Ha_19:=am (blk_below Ha_18.out hb)
 have Hr_17:=am (blk_below Hr_16.out hb)
 have Hq_16:=am (Kd.C_below Hq_15.out hb)
 have Hf_15:=am (blk_below Hf_14.out hb)
 have Ho_14:=am (blk_below Ho_13.out hb)
 have Hl_11:=am (blk_below Hl_10.out hb)
 have Hh_10:=am (blk_below Hh_9.out hb)
 have Hk_8:=am (Kd.C_below Hk_7.out hb)
 clear hb
 refine ⟨_,rfl,?_⟩
 refine hK.out _ _ ⟨(blk_cell Hs_21.out 0).trans rfl,(blk_cell Hs_21.out 1).trans rfl,(blk_cell Ha_19.out 0).trans rfl,(blk_cell Ha_19.out 1).trans rfl,(blk_cell Hr_17.out 0).trans rfl,(blk_cell Hr_17.out 1).trans rfl⟩ (fun hHeld => ?_)
 clear hK K
 refine qN (some 127) ?_
 refine qA 6 (some 128) ?_
 refine qE 7 (some 129) fun K hK => ?_
 refine value_ (w1:=?_) (v:=?_) (by rfl) rfl ?_ ?_
 rotate_left 2
 ·go_simp
  constructor
  ·rfl
  ·rfl
 have HB26:=am (below_alloc HB25.out (.cells #[ii 1,ii 15,ii 2,ii 2,ii 15,ii 2,ii 3,ii 3,ii 1] 89))
 have Hb_24:=am (Kd.C_alloc Hb_23.out (.cells #[ii 1,ii 15,ii 2,ii 2,ii 15,ii 2,ii 3,ii 3,ii 1] 89))
 have Hs_22:=am (blk_alloc Hs_21.out (.cells #[ii 1,ii 15,ii 2,ii 2,ii 15,ii 2,ii 3,ii 3,ii 1] 89))
 have Ha_20:=am (blk_alloc Ha_19.out (.cells #[ii 1,ii 15,ii 2,ii 2,ii 15,ii 2,ii 3,ii 3,ii 1] 89))
 have Hr_18:=am (blk_alloc Hr_17.out (.cells #[ii 1,ii 15,ii 2,ii 2,ii 15,ii 2,ii 3,ii 3,ii 1] 89))
 have Hq_17:=am (Kd.C_alloc Hq_16.out (.cells #[ii 1,ii 15,ii 2,ii 2,ii 15,ii 2,ii 3,ii 3,ii 1] 89))
 have Hf_16:=am (blk_alloc Hf_15.out (.cells #[ii 1,ii 15,ii 2,ii 2,ii 15,ii 2,ii 3,ii 3,ii 1] 89))
 have Ho_15:=am (blk_alloc Ho_14.out (.cells #[ii 1,ii 15,ii 2,ii 2,ii 15,ii 2,ii 3,ii 3,ii 1] 89))
 have Hl_12:=am (blk_alloc Hl_11.out (.cells #[ii 1,ii 15,ii 2,ii 2,ii 15,ii 2,ii 3,ii 3,ii 1] 89))
 have Hh_11:=am (blk_alloc Hh_10.out (.cells #[ii 1,ii 15,ii 2,ii 2,ii 15,ii 2,ii 3,ii 3,ii 1] 89))
 have Hk_9:=am (Kd.C_alloc Hk_8.out (.cells #[ii 1,ii 15,ii 2,ii 2,ii 15,ii 2,ii 3,ii 3,ii 1] 89))
 have Hx_:=am ((Kd.R_reads' (row89_3 wd2 ⟨1,⟨15,2⟩⟩ ⟨2,⟨15,2⟩⟩ ⟨3,⟨3,1⟩⟩)).2.2)
 refine hK.out _ _ ⟨(blk_cell Hs_22.out 0).trans rfl,(blk_cell Hs_22.out 1).trans rfl,(blk_cell Ha_20.out 0).trans rfl,(blk_cell Ha_20.out 1).trans rfl,(blk_cell Hr_18.out 0).trans rfl,(blk_cell Hr_18.out 1).trans rfl⟩ (fun hHeld => ?_)
 clear hK K
 refine qN (some 129) ?_
 refine qE 8 (some 130) fun K hK => ?_
 refine gC Tryz.func38 #[.slice A3 pa.length c3,.slice (some ⟨wd2.heap.size,0,none⟩) 3 3] ?_
 refine (calxref04_SameParts.calls 100 A3 c3 pa (some ⟨wd2.heap.size,0,none⟩) 3 [(⟨1,⟨15,2⟩⟩ : S89),⟨2,⟨15,2⟩⟩,⟨3,⟨3,1⟩⟩] true _ Hb_24.out HL3.out Hx_.out (by decide) (by rw [HPA.out];kernel_rfl)).mono ?_
 rintro e w' ⟨rfl,m,rfl⟩
 have HB27:=am (pw_below_drewN HB26.out m)
 have Hs_23:=am (blk_drewN Hs_22.out m)
 have Ha_21:=am (blk_drewN Ha_20.out m)
 have Hr_19:=am (blk_drewN Hr_18.out m)
 have Hq_18:=am (Kd.C_drewN Hq_17.out m)
 have Hf_17:=am (blk_drewN Hf_16.out m)
 have Ho_16:=am (blk_drewN Ho_15.out m)
 have Hl_13:=am (blk_drewN Hl_12.out m)
 have Hh_12:=am (blk_drewN Hh_11.out m)
 have Hk_10:=am (Kd.C_drewN Hk_9.out m)
 refine ⟨_,rfl,?_⟩
 refine hK.out _ _ ⟨(blk_cell Hs_23.out 0).trans rfl,(blk_cell Hs_23.out 1).trans rfl,(blk_cell Ha_21.out 0).trans rfl,(blk_cell Ha_21.out 1).trans rfl,(blk_cell Hr_19.out 0).trans rfl,(blk_cell Hr_19.out 1).trans rfl⟩ (fun hHeld => ?_)
 clear hK K
 refine qN (some 130) ?_
 refine qA 9 (some 131) ?_;refine qT 10 (some 132) ?_
 refine qE 11 (some 133) fun K hK => ?_
 refine gC Tryz.func52 #[ii 1,ii 6] ?_
 refine (ex_frac _ _ _).mono ?_
 rintro e wd5 ⟨rfl,hb⟩
 have HB28:=am (below_then HB27.out (below_size HB27.out) hb)
 have Hs_24:=am (blk_below Hs_23.out hb)
 have Ha_22:=am (blk_below Ha_21.out hb)
 have Hr_20:=am (blk_below Hr_19.out hb)
 have Hq_19:=am (Kd.C_below Hq_18.out hb)
 have Hf_18:=am (blk_below Hf_17.out hb)
 have Ho_17:=am (blk_below Ho_16.out hb)
 have Hl_14:=am (blk_below Hl_13.out hb)
 have Hh_13:=am (blk_below Hh_12.out hb)
 have Hk_11:=am (Kd.C_below Hk_10.out hb)
 clear hb
 refine ⟨_,rfl,?_⟩
 refine hK.out _ _ ⟨(blk_cell Hs_24.out 0).trans rfl,(blk_cell Hs_24.out 1).trans rfl,(blk_cell Ha_22.out 0).trans rfl,(blk_cell Ha_22.out 1).trans rfl,(blk_cell Hr_20.out 0).trans rfl,(blk_cell Hr_20.out 1).trans rfl⟩ (fun hHeld => ?_)
 clear hK K
 refine qN (some 133) ?_
 refine qA 12 (some 134) ?_;refine qA 13 (some 135) ?_;refine qA 14 (some 136) ?_;refine qT 15 (some 137) ?_;refine qA 16 (some 138) ?_;refine qA 17 (some 139) ?_;refine qA 18 (some 140) ?_;refine qA 19 (some 141) ?_;refine qT 20 (some 142) ?_
 refine qE 21 (some 143) fun K hK => ?_
 refine gC Tryz.func52 #[ii 1,ii 2] ?_
 refine (ex_frac _ _ _).mono ?_
 rintro e wd6 ⟨rfl,hb⟩
 have HB29:=am (below_then HB28.out (below_size HB28.out) hb)
 have Hs_25:=am (blk_below Hs_24.out hb)
 have Ha_23:=am (blk_below Ha_22.out hb)
 have Hr_21:=am (blk_below Hr_20.out hb)
 have Hq_20:=am (Kd.C_below Hq_19.out hb)
 have Hf_19:=am (blk_below Hf_18.out hb)
 have Ho_18:=am (blk_below Ho_17.out hb)
 have Hl_15:=am (blk_below Hl_14.out hb)
 have Hh_14:=am (blk_below Hh_13.out hb)
 have Hk_12:=am (Kd.C_below Hk_11.out hb)
 clear hb
 refine ⟨_,rfl,?_⟩
 refine hK.out _ _ ⟨(blk_cell Hs_25.out 0).trans rfl,(blk_cell Hs_25.out 1).trans rfl,(blk_cell Ha_23.out 0).trans rfl,(blk_cell Ha_23.out 1).trans rfl,(blk_cell Hr_21.out 0).trans rfl,(blk_cell Hr_21.out 1).trans rfl⟩ (fun hHeld => ?_)
 clear hK K
 refine qN (some 143) ?_
 refine qA 22 (some 144) ?_;refine qA 23 (some 145) ?_;refine qA 24 (some 25) ?_
 refine done_ (done_of HT_.out kr) ?_
 have HB30:=am (below_drew HB29.out)
 have Hq_21:=am (Kd.C_drew Hq_20.out)
 have Hf_20:=am (blk_drew Hf_19.out)
 have Ho_19:=am (blk_drew Ho_18.out)
 have Hl_16:=am (blk_drew Hl_15.out)
 have Hh_15:=am (blk_drew Hh_14.out)
 have Hk_13:=am (Kd.C_drew Hk_12.out)
 go_wp2
 refine start_ (n:=28) (S:=fun w' => w'.cell? ⟨w6.heap.size,0,none⟩ = some (ii 15) ∧ w'.cell? ⟨w6.heap.size,1,none⟩ = some (ii 2) ∧ w'.cell? ⟨w6.heap.size + 1,0,none⟩ = some (ii 0) ∧ w'.cell? ⟨w6.heap.size + 1,1,none⟩ = some (ii 1) ∧ w'.cell? ⟨w8.heap.size,0,none⟩ = some (ii 25) ∧ w'.cell? ⟨w8.heap.size,1,none⟩ = some (ii 1) ∧ w'.cell? ⟨w8.heap.size + 1,0,none⟩ = some (ii 700) ∧ w'.cell? ⟨w8.heap.size + 1,1,none⟩ = some (ii 3)) (ds:=[]) (ab 28 0) kr rfl kr ⟨(blk_cell Hf_20.out 0).trans rfl,(blk_cell Hf_20.out 1).trans rfl,(blk_cell Ho_19.out 0).trans rfl,(blk_cell Ho_19.out 1).trans rfl,(blk_cell Hl_16.out 0).trans rfl,(blk_cell Hl_16.out 1).trans rfl,(blk_cell Hh_15.out 0).trans rfl,(blk_cell Hh_15.out 1).trans rfl⟩ (fun hHeld => ?_);refine with_tabW R27_14.tab R27_14.bits (fun HT_ HW_ => ?_)
 generalize (wd6).drew = we at HB30 Hq_21 Hf_20 Ho_19 Hl_16 Hh_15 Hk_13 hHeld ⊢
 refine qA 0 (some 146) ?_
 refine qE 1 (some 147) fun K hK => ?_
 refine gC Tryz.func52 #[ii 5,ii 1] ?_
 refine (ex_frac _ _ _).mono ?_
 rintro e we0 ⟨rfl,hb⟩
 have HB31:=am (below_then HB30.out (below_size HB30.out) hb)
 have Hq_22:=am (Kd.C_below Hq_21.out hb)
 have Hf_21:=am (blk_below Hf_20.out hb)
 have Ho_20:=am (blk_below Ho_19.out hb)
 have Hl_17:=am (blk_below Hl_16.out hb)
 have Hh_16:=am (blk_below Hh_15.out hb)
 have Hk_14:=am (Kd.C_below Hk_13.out hb)
 clear hb
 refine ⟨_,rfl,?_⟩
 refine hK.out _ _ ⟨(blk_cell Hf_21.out 0).trans rfl,(blk_cell Hf_21.out 1).trans rfl,(blk_cell Ho_20.out 0).trans rfl,(blk_cell Ho_20.out 1).trans rfl,(blk_cell Hl_17.out 0).trans rfl,(blk_cell Hl_17.out 1).trans rfl,(blk_cell Hh_16.out 0).trans rfl,(blk_cell Hh_16.out 1).trans rfl⟩ (fun hHeld => ?_)
 clear hK K
 refine qN (some 147) ?_
 refine qA 2 (some 148) ?_
 refine qE 3 (some 149) fun K hK => ?_
 refine gC Tryz.func52 #[ii 15,ii 2] ?_
 refine (ex_frac _ _ _).mono ?_
 rintro e we1 ⟨rfl,hb⟩
 have HB32:=am (below_then HB31.out (below_size HB31.out) hb)
 have Hq_23:=am (Kd.C_below Hq_22.out hb)
 have Hf_22:=am (blk_below Hf_21.out hb)
 have Ho_21:=am (blk_below Ho_20.out hb)
 have Hl_18:=am (blk_below Hl_17.out hb)
 have Hh_17:=am (blk_below Hh_16.out hb)
 have Hk_15:=am (Kd.C_below Hk_14.out hb)
 clear hb
 refine ⟨_,rfl,?_⟩
 refine hK.out _ _ ⟨(blk_cell Hf_22.out 0).trans rfl,(blk_cell Hf_22.out 1).trans rfl,(blk_cell Ho_21.out 0).trans rfl,(blk_cell Ho_21.out 1).trans rfl,(blk_cell Hl_18.out 0).trans rfl,(blk_cell Hl_18.out 1).trans rfl,(blk_cell Hh_17.out 0).trans rfl,(blk_cell Hh_17.out 1).trans rfl⟩ (fun hHeld => ?_)
 clear hK K
 refine qN (some 149) ?_
 refine qA 4 (some 150) ?_
 refine qE 5 (some 151) fun K hK => ?_
 refine value_ (w1:=?_) (v:=?_) (by rfl) rfl ?_ ?_
 rotate_left 2
 ·go_simp
  constructor
  ·rfl
  ·rfl
 have HB33:=am (below_alloc HB32.out (.cells #[ii 12,ii 5,ii 1,ii 13,ii 15,ii 2] 89))
 have Hq_24:=am (Kd.C_alloc Hq_23.out (.cells #[ii 12,ii 5,ii 1,ii 13,ii 15,ii 2] 89))
 have Hf_23:=am (blk_alloc Hf_22.out (.cells #[ii 12,ii 5,ii 1,ii 13,ii 15,ii 2] 89))
 have Ho_22:=am (blk_alloc Ho_21.out (.cells #[ii 12,ii 5,ii 1,ii 13,ii 15,ii 2] 89))
 have Hl_19:=am (blk_alloc Hl_18.out (.cells #[ii 12,ii 5,ii 1,ii 13,ii 15,ii 2] 89))
 have Hh_18:=am (blk_alloc Hh_17.out (.cells #[ii 12,ii 5,ii 1,ii 13,ii 15,ii 2] 89))
 have Hk_16:=am (Kd.C_alloc Hk_15.out (.cells #[ii 12,ii 5,ii 1,ii 13,ii 15,ii 2] 89))
 have Hx_:=am ((Kd.R_reads' (row89_2 we1 ⟨12,⟨5,1⟩⟩ ⟨13,⟨15,2⟩⟩)).2.2)
 refine hK.out _ _ ⟨(blk_cell Hf_23.out 0).trans rfl,(blk_cell Hf_23.out 1).trans rfl,(blk_cell Ho_22.out 0).trans rfl,(blk_cell Ho_22.out 1).trans rfl,(blk_cell Hl_19.out 0).trans rfl,(blk_cell Hl_19.out 1).trans rfl,(blk_cell Hh_18.out 0).trans rfl,(blk_cell Hh_18.out 1).trans rfl⟩ (fun hHeld => ?_)
 clear hK K
 refine qN (some 151) ?_
 refine qE 6 (some 152) fun K hK => ?_
 refine gC Tryz.func38 #[.slice A7 pl.length c7,.slice (some ⟨we1.heap.size,0,none⟩) 2 2] ?_
 refine (calxref04_SameParts.calls 100 A7 c7 pl (some ⟨we1.heap.size,0,none⟩) 2 [(⟨12,⟨5,1⟩⟩ : S89),⟨13,⟨15,2⟩⟩] true _ Hq_24.out HL7.out Hx_.out (by decide) (by rw [HPL.out];kernel_rfl)).mono ?_
 rintro e w' ⟨rfl,m,rfl⟩
 have HB34:=am (pw_below_drewN HB33.out m)
 have Hf_24:=am (blk_drewN Hf_23.out m)
 have Ho_23:=am (blk_drewN Ho_22.out m)
 have Hl_20:=am (blk_drewN Hl_19.out m)
 have Hh_19:=am (blk_drewN Hh_18.out m)
 have Hk_17:=am (Kd.C_drewN Hk_16.out m)
 refine ⟨_,rfl,?_⟩
 refine hK.out _ _ ⟨(blk_cell Hf_24.out 0).trans rfl,(blk_cell Hf_24.out 1).trans rfl,(blk_cell Ho_23.out 0).trans rfl,(blk_cell Ho_23.out 1).trans rfl,(blk_cell Hl_20.out 0).trans rfl,(blk_cell Hl_20.out 1).trans rfl,(blk_cell Hh_19.out 0).trans rfl,(blk_cell Hh_19.out 1).trans rfl⟩ (fun hHeld => ?_)
 clear hK K
 refine qN (some 152) ?_
 refine qA 7 (some 153) ?_;refine qT 8 (some 154) ?_
 refine qE 9 (some 155) fun K hK => ?_
 refine gC Tryz.func52 #[ii 15,ii 2] ?_
 refine (ex_frac _ _ _).mono ?_
 rintro e we4 ⟨rfl,hb⟩
 have HB35:=am (below_then HB34.out (below_size HB34.out) hb)
 have Hf_25:=am (blk_below Hf_24.out hb)
 have Ho_24:=am (blk_below Ho_23.out hb)
 have Hl_21:=am (blk_below Hl_20.out hb)
 have Hh_20:=am (blk_below Hh_19.out hb)
 have Hk_18:=am (Kd.C_below Hk_17.out hb)
 clear hb
 refine ⟨_,rfl,?_⟩
 refine hK.out _ _ ⟨(blk_cell Hf_25.out 0).trans rfl,(blk_cell Hf_25.out 1).trans rfl,(blk_cell Ho_24.out 0).trans rfl,(blk_cell Ho_24.out 1).trans rfl,(blk_cell Hl_21.out 0).trans rfl,(blk_cell Hl_21.out 1).trans rfl,(blk_cell Hh_20.out 0).trans rfl,(blk_cell Hh_20.out 1).trans rfl⟩ (fun hHeld => ?_)
 clear hK K
 refine qN (some 155) ?_
 refine qA 10 (some 156) ?_;refine qA 11 (some 157) ?_;refine qA 12 (some 158) ?_;refine qT 13 (some 159) ?_
 refine qE 14 (some 160) fun K hK => ?_
 refine gC Tryz.func52 #[ii 0,ii 1] ?_
 refine (ex_frac _ _ _).mono ?_
 rintro e we5 ⟨rfl,hb⟩
 have HB36:=am (below_then HB35.out (below_size HB35.out) hb)
 have Hf_26:=am (blk_below Hf_25.out hb)
 have Ho_25:=am (blk_below Ho_24.out hb)
 have Hl_22:=am (blk_below Hl_21.out hb)
 have Hh_21:=am (blk_below Hh_20.out hb)
 have Hk_19:=am (Kd.C_below Hk_18.out hb)
 clear hb
 refine ⟨_,rfl,?_⟩
 refine hK.out _ _ ⟨(blk_cell Hf_26.out 0).trans rfl,(blk_cell Hf_26.out 1).trans rfl,(blk_cell Ho_25.out 0).trans rfl,(blk_cell Ho_25.out 1).trans rfl,(blk_cell Hl_22.out 0).trans rfl,(blk_cell Hl_22.out 1).trans rfl,(blk_cell Hh_21.out 0).trans rfl,(blk_cell Hh_21.out 1).trans rfl⟩ (fun hHeld => ?_)
 clear hK K
 refine qN (some 160) ?_
 refine qA 15 (some 161) ?_;refine qA 16 (some 162) ?_;refine qA 17 (some 163) ?_;refine qT 18 (some 164) ?_
 refine qE 19 (some 165) fun K hK => ?_
 refine gC Tryz.func52 #[ii 25,ii 1] ?_
 refine (ex_frac _ _ _).mono ?_
 rintro e we6 ⟨rfl,hb⟩
 have HB37:=am (below_then HB36.out (below_size HB36.out) hb)
 have Hf_27:=am (blk_below Hf_26.out hb)
 have Ho_26:=am (blk_below Ho_25.out hb)
 have Hl_23:=am (blk_below Hl_22.out hb)
 have Hh_22:=am (blk_below Hh_21.out hb)
 have Hk_20:=am (Kd.C_below Hk_19.out hb)
 clear hb
 refine ⟨_,rfl,?_⟩
 refine hK.out _ _ ⟨(blk_cell Hf_27.out 0).trans rfl,(blk_cell Hf_27.out 1).trans rfl,(blk_cell Ho_26.out 0).trans rfl,(blk_cell Ho_26.out 1).trans rfl,(blk_cell Hl_23.out 0).trans rfl,(blk_cell Hl_23.out 1).trans rfl,(blk_cell Hh_22.out 0).trans rfl,(blk_cell Hh_22.out 1).trans rfl⟩ (fun hHeld => ?_)
 clear hK K
 refine qN (some 165) ?_
 refine qA 20 (some 166) ?_;refine qA 21 (some 167) ?_;refine qA 22 (some 168) ?_;refine qT 23 (some 169) ?_
 refine qE 24 (some 170) fun K hK => ?_
 refine gC Tryz.func52 #[ii 700,ii 3] ?_
 refine (ex_frac _ _ _).mono ?_
 rintro e we7 ⟨rfl,hb⟩
 have HB38:=am (below_then HB37.out (below_size HB37.out) hb)
 have Hf_28:=am (blk_below Hf_27.out hb)
 have Ho_27:=am (blk_below Ho_26.out hb)
 have Hl_24:=am (blk_below Hl_23.out hb)
 have Hh_23:=am (blk_below Hh_22.out hb)
 have Hk_21:=am (Kd.C_below Hk_20.out hb)
 clear hb
 refine ⟨_,rfl,?_⟩
 refine hK.out _ _ ⟨(blk_cell Hf_28.out 0).trans rfl,(blk_cell Hf_28.out 1).trans rfl,(blk_cell Ho_27.out 0).trans rfl,(blk_cell Ho_27.out 1).trans rfl,(blk_cell Hl_24.out 0).trans rfl,(blk_cell Hl_24.out 1).trans rfl,(blk_cell Hh_23.out 0).trans rfl,(blk_cell Hh_23.out 1).trans rfl⟩ (fun hHeld => ?_)
 clear hK K
 refine qN (some 170) ?_
 refine qA 25 (some 171) ?_;refine qA 26 (some 172) ?_;refine qA 27 (some 26) ?_
 refine done_ (done_of HT_.out kr) ?_
 go_wp2_with fail
 refine (ex_frac _ _ _).mono ?_
 rintro e wf0 ⟨rfl,hb⟩
 have HB39:=am (below_then HB38.out (below_size HB38.out) hb)
 have Hk_22:=am (Kd.C_below Hk_21.out hb)
 clear hb
 go_wp2_with fail
 refine (ex_frac _ _ _).mono ?_
 rintro e wf1 ⟨rfl,hb⟩
 have HB40:=am (below_then HB39.out (below_size HB39.out) hb)
 have Hk_23:=am (Kd.C_below Hk_22.out hb)
 clear hb
 go_wp2_with fail
 refine (ex_frac _ _ _).mono ?_
 rintro e wf2 ⟨rfl,hb⟩
 have HB41:=am (below_then HB40.out (below_size HB40.out) hb)
 have Hk_24:=am (Kd.C_below Hk_23.out hb)
 clear hb
 go_wp2_with fail
 refine (ex_frac _ _ _).mono ?_
 rintro e wf3 ⟨rfl,hb⟩
 have HB42:=am (below_then HB41.out (below_size HB41.out) hb)
 have Hk_25:=am (Kd.C_below Hk_24.out hb)
 clear hb
 have HB43:=am (below_alloc HB42.out (.cells #[ii 1,ii 200,ii 1,ii 216,ii 1,ii 2,ii 200,ii 1,ii 216,ii 1] 139))
 have Hk_26:=am (Kd.C_alloc Hk_25.out (.cells #[ii 1,ii 200,ii 1,ii 216,ii 1,ii 2,ii 200,ii 1,ii 216,ii 1] 139))
 have HXK:=am (Kd.R_reads' (row139_2 wf3 ⟨1,⟨200,1⟩,⟨216,1⟩⟩ ⟨2,⟨200,1⟩,⟨216,1⟩⟩)).2.2
 go_wp2_with fail
 refine (calxref04_SameBlames.calls 100 A9 c9 pk (some ⟨wf3.heap.size,0,none⟩) 2 [(⟨1,⟨200,1⟩,⟨216,1⟩⟩ : S139),⟨2,⟨200,1⟩,⟨216,1⟩⟩] true _ Hk_26.out HL9.out HXK.out (by decide) (by rw [HPK.out];kernel_rfl)).mono ?_
 rintro e w' ⟨rfl,m,rfl⟩
 have HB44:=am (pw_below_drewN HB43.out m)
 go_wp2
 go_ret
 exact ⟨rfl,HB44.out⟩
end
def calxlaw04_sanity.f : Option Bool:=some true
theorem calxlaw04_sanity.calls (r : Bool) (w : World) (h : calxlaw04_sanity.f = some r) : Calls Tryz.prog 27 #[] w fun e w' => e = .returned (.bool r) ∧ Below w.heap.size w w':=by
 obtain rfl:=Option.some.inj h
 exact sanity_calls w
theorem partL_val : ∀ {l : List S89} (pour : Int),(l.map (·.f0)).Nodup → val (partL l pour) = sumOf pour l
|[],pour,_ => by show val (wholeP 0) = 0;rw [val_wholeP];rfl
|x :: r,pour,h => by
  obtain ⟨h1,h2⟩:=List.nodup_cons.1 (by simpa using h : (x.f0 :: r.map (·.f0)).Nodup)
  rw [partL_cons]
  simp only [sumOf]
  by_cases e : x.f0 = pour
  ·rw [if_pos e,if_pos e]
   have hz : ∀ l : List S89,pour ∉ l.map (·.f0) → sumOf pour l = 0:=by
    intro l
    induction l with
   |nil => intro _;rfl
   |cons y q ih =>
     intro hn
     simp only [List.map_cons,List.mem_cons,not_or] at hn
     simp only [sumOf]
     rw [if_neg (fun c => hn.1 c.symm),ih hn.2]
     grind
   rw [hz r (e ▸ h1)]
   grind
  ·rw [if_neg e,if_neg e,partL_val pour h2]
   grind
theorem find_self : ∀ {l : List S167},(l.map (·.f0)).Nodup → ∀ b ∈ l,l.find? (isId b.f0) = some b
|[],_,b,h => by simp at h
|x :: r,hn,b,h => by
  obtain ⟨h1,h2⟩:=List.nodup_cons.1 (by simpa using hn : (x.f0 :: r.map (·.f0)).Nodup)
  rw [List.find?_cons]
  rcases List.mem_cons.1 h with rfl|h
  ·simp [isId]
  ·have hne : x.f0 ≠ b.f0:=fun e => h1 (by rw [e];exact List.mem_map_of_mem h)
   rw [show isId b.f0 x = false from decide_eq_false hne]
   exact find_self h2 b h
def placeL : List S84 → Int → Int → Int
|[],_,_ => 0
|s :: r,i,id => if s.f1 = 1 ∧ s.f0 = id then i + 1 else placeL r (i + 1) id
def placeP (l : List S84) (id : Int) : Int:=placeL l 0 id
theorem placeL_append (id : Int) (r : List S84) : ∀ (l : List S84) (i : Int),(∀ s ∈ l,¬ (s.f1 = 1 ∧ s.f0 = id)) → placeL (l ++ r) i id = placeL r (i + l.length) id
|[],i,_ => by simp
|s :: l,i,h => by
  simp only [List.cons_append,placeL]
  rw [if_neg (h s List.mem_cons_self),placeL_append id r l (i + 1) fun t ht => h t (List.mem_cons_of_mem _ ht),show i + 1 + (l.length : Int) = i + ((s :: l).length : Int) by simp only [List.length_cons];omega]
theorem times_whole {m n : Int} (hm : 1 ≤ m) (hn : 0 ≤ n) : timesP (wholeP m) n m = wholeP n:=by
 refine val_inj (timesP_ok (wholeP_ok (by omega)) hn hm) (wholeP_ok hn) ?_
 rw [val_timesP (wholeP_ok (by omega)) hn hm,val_wholeP,val_wholeP]
 have:=cast_ne hm
 grind
def Lone (p : S212) (id : Int) : Prop:=p.f1 = [⟨id,wholeP p.f0⟩]
theorem divided_lone {p q : S212} {id n : Int} (h : Lone p id) (hp : 1 ≤ p.f0) (hn : 0 ≤ n) (hd : dividedP p n = some q) : q.f0 = n ∧ Lone q id:=by
 unfold dividedP at hd
 rw [h] at hd
 simp only [divParts] at hd
 split at hd
 ·simp only [Option.map_some,Option.some.injEq] at hd
  subst hd
  refine ⟨rfl,?_⟩
  show [_] = _
  rw [times_whole hp hn]
 ·cases hd
theorem ahead_lone (P : Int → Int → Prop) (hP : ∀ a,P a a) : ∀ (l : List S212) (n : Int) (a b : List S212),(∀ p ∈ l,1 ≤ p.f0 ∧ ∃ id,Lone p id) → l.Pairwise (fun p q => ∀ i j,Lone p i → Lone q j → P i j) → aheadP l n = some (a,b) →
  (∀ p ∈ a,∃ id,Lone p id ∧ ∃ q ∈ l,Lone q id) ∧ (∀ p ∈ b,∃ id,Lone p id ∧ ∃ q ∈ l,Lone q id) ∧ b.Pairwise (fun p q => ∀ i j,Lone p i → Lone q j → P i j) ∧ (∀ p ∈ a,∀ q ∈ b,∀ i j,Lone p i → Lone q j → P i j)
|[],n,a,b,_,_,h => by
  simp only [aheadP,Option.some.injEq,Prod.mk.injEq] at h
  obtain ⟨rfl,rfl⟩:=h
  exact ⟨by simp,by simp,List.Pairwise.nil,by simp⟩
|p :: l,n,a,b,hl,hs,h => by
  obtain ⟨hp1,id,hid⟩:=hl p List.mem_cons_self
  obtain ⟨s1,s2⟩:=List.pairwise_cons.1 hs
  have hl':=fun q (hq : q ∈ l) => hl q (List.mem_cons_of_mem _ hq)
  have uniq : ∀ {x : S212} {i j : Int},Lone x i → Lone x j → i = j:=by
   intro x i j h1 h2
   unfold Lone at h1 h2
   rw [h1] at h2
   injection h2 with h2 _
   exact congrArg S89.f0 h2
  simp only [aheadP] at h
  by_cases c : 0 < n
  ·rw [if_pos c] at h
   by_cases c2 : p.f0 ≤ n
   ·rw [if_pos c2] at h
    obtain ⟨⟨a',b'⟩,hx,he⟩:=Option.map_eq_some_iff.1 h
    simp only [Prod.mk.injEq] at he
    obtain ⟨rfl,rfl⟩:=he
    obtain ⟨k1,k2,k3,k4⟩:=ahead_lone P hP l _ a' b' hl' s2 hx
    refine ⟨fun q hq => ?_,fun q hq => ?_,k3,fun q hq r hr i j hi hj => ?_⟩
    ·rcases List.mem_cons.1 hq with rfl|hq
     ·exact ⟨id,hid,_,List.mem_cons_self,hid⟩
     ·obtain ⟨i,h1,t,ht,h2⟩:=k1 q hq
      exact ⟨i,h1,t,List.mem_cons_of_mem _ ht,h2⟩
    ·obtain ⟨i,h1,t,ht,h2⟩:=k2 q hq
     exact ⟨i,h1,t,List.mem_cons_of_mem _ ht,h2⟩
    ·rcases List.mem_cons.1 hq with rfl|hq
     ·obtain ⟨i',h1,t,ht,h2⟩:=k2 r hr
      rw [uniq hj h1]
      exact s1 t ht i i' hi h2
     ·exact k4 q hq r hr i j hi hj
   ·rw [if_neg c2] at h
    cases ha : dividedP p n with
   |none => rw [ha] at h;cases h
   |some x =>
     rw [ha] at h
     cases hb : dividedP p (p.f0 - n) with
    |none => rw [hb] at h;cases h
    |some y =>
      rw [hb] at h
      simp only [Option.bind_some,Option.map_some,Option.some.injEq,Prod.mk.injEq] at h
      obtain ⟨rfl,rfl⟩:=h
      have hx:=(divided_lone hid hp1 (by omega) ha).2
      have hy:=(divided_lone hid hp1 (by omega) hb).2
      refine ⟨fun q hq => ?_,fun q hq => ?_,List.pairwise_cons.2 ⟨fun r hr i j hi hj => ?_,s2⟩,fun q hq r hr i j hi hj => ?_⟩
      ·rw [List.mem_singleton.1 hq];exact ⟨id,hx,p,List.mem_cons_self,hid⟩
      ·rcases List.mem_cons.1 hq with rfl|hq
       ·exact ⟨id,hy,p,List.mem_cons_self,hid⟩
       ·obtain ⟨_,i,hi⟩:=hl' q hq
        exact ⟨i,hi,q,List.mem_cons_of_mem _ hq,hi⟩
      ·rw [uniq hi hy];exact s1 r hr id j hid hj
      ·rw [List.mem_singleton.1 hq] at hi
       rw [uniq hi hx]
       rcases List.mem_cons.1 hr with rfl|hr
       ·rw [uniq hj hy];exact hP id
       ·exact s1 r hr id j hid hj
  ·rw [if_neg c] at h
   simp only [Option.some.injEq,Prod.mk.injEq] at h
   obtain ⟨rfl,rfl⟩:=h
   exact ⟨by simp,fun q hq => by obtain ⟨_,i,hi⟩:=hl q hq;exact ⟨i,hi,q,hq,hi⟩,hs,by simp⟩
theorem ofP_lone (id : Int) : ∀ l : List S212,(∀ p ∈ l,∃ i,Lone p i) → ∃ z : Int,ofP id l = (z : Rat)
|[],_ => ⟨0,by show (0 : Rat) = _;simp⟩
|p :: l,h => by
  obtain ⟨i,hi⟩:=h p List.mem_cons_self
  obtain ⟨z,hz⟩:=ofP_lone id l fun q hq => h q (List.mem_cons_of_mem _ hq)
  rw [ofP_cons,hz,hi]
  simp only [sumOf,val_wholeP]
  by_cases e : i = id
  ·rw [if_pos e];exact ⟨p.f0 + z,by rw [Rat.intCast_add];grind⟩
  ·rw [if_neg e];exact ⟨z,by grind⟩
theorem ofP_none (id : Int) : ∀ l : List S212,(∀ p ∈ l,∃ i,Lone p i ∧ i ≠ id) → ofP id l = 0
|[],_ => rfl
|p :: l,h => by
  obtain ⟨i,hi,hne⟩:=h p List.mem_cons_self
  rw [ofP_cons,ofP_none id l fun q hq => h q (List.mem_cons_of_mem _ hq),hi]
  simp only [sumOf]
  rw [if_neg hne]
  grind
theorem sumOf_mem : ∀ {l : List S89},(l.map (·.f0)).Nodup → ∀ x ∈ l,sumOf x.f0 l = val x.f1
|[],_,x,h => by simp at h
|y :: r,hn,x,h => by
  have e:=partL_val x.f0 hn
  rw [← e,partL_cons]
  obtain ⟨h1,h2⟩:=List.nodup_cons.1 (by simpa using hn : (y.f0 :: r.map (·.f0)).Nodup)
  rcases List.mem_cons.1 h with rfl|h
  ·rw [if_pos rfl]
  ·rw [if_neg (fun e2 => h1 (by rw [e2];exact List.mem_map_of_mem h)),partL_val x.f0 h2]
   exact sumOf_mem h2 x h
theorem summed_lone {pours : List Int} (hn : pours.Nodup) {a : List S212} (ha : ∀ p ∈ a,ParcelOk pours p) (hl : ∀ p ∈ a,∃ i,Lone p i) {ps : List S89} (h : summedP pours a = some ps) :
  ∀ x ∈ ps,x.f1.f1 = 1 ∧ ∃ p ∈ a,Lone p x.f0:=by
 obtain ⟨s1,s2,s3,s4,s5⟩:=summedP_ok hn ha h
 have hnd : (ps.map (·.f0)).Nodup:=hn.sublist s4
 intro x hx
 have hv:=sumOf_mem hnd x hx
 rw [s5] at hv
 have hok:=(s1 x hx).ok
 have hpos:=(val_pos hok).2 (s1 x hx).2.1
 constructor
 ·obtain ⟨z,hz⟩:=ofP_lone x.f0 a hl
  rw [hz] at hv
  have hz0 : 0 ≤ z:=by
   have:=val_nonneg hok
   rw [← hv] at this
   exact_mod_cast this
  rw [val_inj hok (wholeP_ok hz0) (by rw [← hv,val_wholeP])]
  rfl
 ·refine Classical.byContradiction fun hno => ?_
  have:=ofP_none x.f0 a fun p hp => by
   obtain ⟨i,hi⟩:=hl p hp
   exact ⟨i,hi,fun e => hno ⟨p,hp,e ▸ hi⟩⟩
  rw [this] at hv
  rw [← hv] at hpos
  exact absurd hpos (by grind)
theorem step_keepsb {Y Y' : Yd} {s : S84} {step : Int} (hs : stepP Y s step = .ok Y') : ∀ b ∈ Y.barrows,b ∈ Y'.barrows:=by
 intro b hb
 unfold stepP at hs
 split at hs
 ·unfold pourP at hs
  split at hs
  ·split at hs
   ·injection hs with hs;subst hs;exact hb
   ·cases hs
  ·cases hs
 split at hs
 ·unfold takeP at hs
  split at hs
  ·split at hs
   ·split at hs
    ·split at hs
     ·injection hs with hs;subst hs;exact List.mem_append_left _ hb
     ·cases hs
    ·cases hs
   ·cases hs
  ·cases hs
 split at hs
 ·unfold turnP at hs
  split at hs
  ·split at hs
   ·injection hs with hs;subst hs;exact hb
   ·cases hs
  ·injection hs with hs;subst hs;exact hb
 split at hs
 ·unfold moveP at hs
  split at hs
  ·split at hs
   ·split at hs
    ·injection hs with hs;subst hs;exact hb
    ·cases hs
   ·cases hs
  ·cases hs
 ·unfold spillP at hs
  split at hs
  ·split at hs
   ·injection hs with hs;subst hs;exact hb
   ·cases hs
  ·cases hs
theorem go_keepsb : ∀ (l : List S84) (Y Y' : Yd) (day i : Int),goP Y day i l = .ok Y' → ∀ b ∈ Y.barrows,b ∈ Y'.barrows
|[],Y,Y',day,i,h => by
  simp only [goP] at h
  injection h with h
  subst h
  exact fun b hb => hb
|s :: r,Y,Y',day,i,h => by
  simp only [goP] at h
  split at h
  ·cases hs : stepP Y s i with
  |error e => rw [hs] at h;cases h
  |ok Y1 =>
    rw [hs] at h
    exact fun b hb => go_keepsb r Y1 Y' s.f2 (i + 1) h b (step_keepsb hs b hb)
  ·cases h
theorem lone_uniq {x : S212} {i j : Int} (h1 : Lone x i) (h2 : Lone x j) : i = j:=by
 unfold Lone at h1 h2
 rw [h1] at h2
 injection h2 with h2 _
 exact congrArg S89.f0 h2
abbrev Seq (all : List S84) (l : List S212) : Prop:=l.Pairwise (fun p q => ∀ a b,Lone p a → Lone q b → placeP all a ≤ placeP all b)
structure Calm (all : List S84) (i : Nat) (moved : Bool) (Y : Yd) (last : Int → Int) : Prop where
 lone : ∀ l ∈ Y.pits,∀ p ∈ l,∃ id,Lone p id ∧ id ∈ Y.pours
 seen : ∀ id ∈ Y.pours,placeP all id ≤ i
 sorted : moved = false → ∀ l ∈ Y.pits,Seq all l
 low : moved = false → ∀ k : Nat,∀ p ∈ Y.pits.getD k [],∀ id,Lone p id → last k ≤ placeP all id
 lasti : moved = false → ∀ k,last k ≤ i
def Turns (all : List S84) (bs : List S167) (moved : Bool) : (Int → Int) → List S84 → Prop
|_,[] => True
|last,s :: r => if s.f1 = 2 then ∃ b,bs.find? (isId s.f0) = some b ∧ b.f3 ≠ [] ∧ (∀ y ∈ b.f3,y.f1.f1 = 1 ∧ (moved = true ∨ last s.f3 ≤ placeP all y.f0)) ∧
   Turns all bs moved (fun k => if k = s.f3 then placeP all (rd_T89 b.f3 ((b.f3.length : Int) - 1)).f0 else last k) r
  else Turns all bs moved last r
theorem rd_last {l : List S89} (h : l ≠ []) : rd_T89 l ((l.length : Int) - 1) ∈ l:=by
 have hp : 0 < l.length:=List.length_pos_iff.2 h
 unfold rd_T89
 rw [show ((l.length : Int) - 1).toNat = l.length - 1 by omega,List.getD_eq_getElem?_getD,List.getElem?_eq_getElem (by omega)]
 exact List.getElem_mem _
theorem Calm.pit {all : List S84} {i : Nat} {moved : Bool} {Y : Yd} {last : Int → Int} {n : Nat} (h : Calm all i moved Y last) (hw : Wf n Y) {k : Int} (h0 : 0 ≤ k) (h1 : k < Y.rooms.length) :
  (∀ p ∈ pitP Y k,1 ≤ p.f0 ∧ ∃ id,Lone p id) ∧ (∀ p ∈ pitP Y k,∃ id,Lone p id ∧ id ∈ Y.pours) ∧ (moved = false → Seq all (pitP Y k)) ∧ (moved = false → ∀ p ∈ pitP Y k,∀ id,Lone p id → last k ≤ placeP all id):=by
 obtain ⟨p1,p2,p3,p4⟩:=hw.pitOk h0 h1
 refine ⟨fun p hp => ⟨(p1 p hp).lo,?_⟩,h.lone _ p4,fun hm => h.sorted hm _ p4,fun hm p hp id hid => ?_⟩
 ·obtain ⟨id,hid,_⟩:=h.lone _ p4 p hp;exact ⟨id,hid⟩
 ·have:=h.low hm k.toNat p hp id hid
  rwa [Int.toNat_of_nonneg h0] at this
theorem go_turns (all : List S84) (moved : Bool) : ∀ (l pre : List S84) (Y Y' : Yd) (day : Int) (last : Int → Int),all = pre ++ l → (∀ s ∈ pre,s.f1 = 1 → s.f0 ∈ Y.pours) → Wf pre.length Y → 0 ≤ day → pre.length + l.length ≤ 60 →
  (∀ s ∈ l,s.f1 ≠ 3) → (moved = false → ∀ s ∈ l,s.f1 ≠ 4) → Calm all pre.length moved Y last → goP Y day pre.length l = .ok Y' → (Y'.barrows.map (·.f0)).Nodup → Turns all Y'.barrows moved last l
|[],_,_,_,_,_,_,_,_,_,_,_,_,_,_,_ => trivial
|s :: r,pre,Y,Y',day,last,hall,hpre,hw,hd,hl,h3,h4,hc,hg,hnd => by
  simp only [goP] at hg
  simp only [List.length_cons] at hl
  by_cases c : formedP Y.rooms.length s day = true
  ·rw [if_pos c] at hg
   obtain ⟨hf,_⟩:=formed_of hd c
   cases hs : stepP Y s pre.length with
  |error e => rw [hs] at hg;cases hg
  |ok Y1 =>
    rw [hs] at hg
    simp only at hg
    obtain ⟨w1,e1⟩:=step_ok hw (by omega) hf hs
    have hlen : (pre ++ [s]).length = pre.length + 1:=by simp
    have hall' : all = (pre ++ [s]) ++ r:=by rw [hall,List.append_assoc];rfl
    have hg' : goP Y1 s.f2 ((pre ++ [s]).length : Nat) r = .ok Y':=by rw [hlen];exact hg
    have w1' : Wf (pre ++ [s]).length Y1:=by rw [hlen];exact w1
    have h3' : ∀ t ∈ r,t.f1 ≠ 3:=fun t ht => h3 t (List.mem_cons_of_mem _ ht)
    have h4' : moved = false → ∀ t ∈ r,t.f1 ≠ 4:=fun hm t ht => h4 hm t (List.mem_cons_of_mem _ ht)
    obtain ⟨k1,k2,k3⟩:=step_keeps hw hf hs 0
    have hpre' : ∀ t ∈ pre ++ [s],t.f1 = 1 → t.f0 ∈ Y1.pours:=by
     intro t ht h1
     rw [k2]
     rcases List.mem_append.1 ht with ht|ht
     ·have:=hpre t ht h1
      split
      ·exact List.mem_append_left _ this
      ·exact this
     ·rw [List.mem_singleton.1 ht] at h1 ⊢
      rw [if_pos h1]
      simp
    have go:=fun last' (hc' : Calm all (pre ++ [s]).length moved Y1 last') => go_turns all moved r (pre ++ [s]) Y1 Y' s.f2 last' hall' hpre' w1' hf.day.1 (by omega) h3' h4' hc' hg' hnd
    obtain ⟨q1,q2,q3,q4⟩:=hc.pit hw hf.pit.1 hf.pit.2
    obtain ⟨p1,p2,p3,p4⟩:=hw.pitOk hf.pit.1 hf.pit.2
    have hpl : s.f3.toNat < Y.pits.length:=by rw [hw.plen];have:=hf.pit;omega
    have hk:=hf.kind
    have hk3:=h3 s List.mem_cons_self
    -- what a pit holds once some was taken ahead
    have rest : ∀ (a b : List S212),aheadP (pitP Y s.f3) s.f5 = some (a,b) → (∀ p ∈ a,∃ id,Lone p id ∧ id ∈ Y.pours) ∧ (∀ p ∈ b,∃ id,Lone p id ∧ id ∈ Y.pours) ∧ (moved = false → Seq all b ∧ (∀ p ∈ a,∀ q ∈ b,∀ i j,Lone p i → Lone q j → placeP all i ≤ placeP all j)) ∧ (moved = false → ∀ p ∈ a,∀ id,Lone p id → last s.f3 ≤ placeP all id) ∧ (moved = false → ∀ p ∈ b,∀ id,Lone p id → last s.f3 ≤ placeP all id):=by
     intro a b hA
     obtain ⟨m1,m2,_,_⟩:=ahead_lone (fun _ _ => True) (fun _ => trivial) _ _ a b q1 (List.pairwise_of_forall fun _ _ _ _ _ _ => trivial) hA
     have get : ∀ p,(∃ id,Lone p id ∧ ∃ q ∈ pitP Y s.f3,Lone q id) → ∃ id,Lone p id ∧ id ∈ Y.pours:=by
      rintro p ⟨id,h1,q,hq,h2⟩
      obtain ⟨id',h5,h6⟩:=q2 q hq
      rw [lone_uniq h5 h2] at h6
      exact ⟨id,h1,h6⟩
     have low : moved = false → ∀ p,(∃ id,Lone p id ∧ ∃ q ∈ pitP Y s.f3,Lone q id) → ∀ id,Lone p id → last s.f3 ≤ placeP all id:=by
      rintro hm p ⟨id,h1,q,hq,h2⟩ id' h5
      rw [lone_uniq h5 h1]
      exact q4 hm q hq id h2
     refine ⟨fun p hp => get p (m1 p hp),fun p hp => get p (m2 p hp),fun hm => ?_,fun hm p hp => low hm p (m1 p hp),fun hm p hp => low hm p (m2 p hp)⟩
     obtain ⟨_,_,n3,n4⟩:=ahead_lone (fun x y => placeP all x ≤ placeP all y) (fun _ => Int.le_refl _) _ _ a b q1 (q3 hm) hA
     exact ⟨n3,n4⟩
    by_cases c2 : s.f1 = 2
    ·-- a take
     have hs':=hs
     unfold stepP at hs'
     rw [if_neg (by omega),if_pos c2] at hs'
     unfold takeP at hs'
     split at hs'
     ·split at hs'
      ·rename_i hle
       cases hA : aheadP (pitP Y s.f3) s.f5 with
      |none => rw [hA] at hs';cases hs'
      |some ab =>
        obtain ⟨a,b⟩:=ab
        rw [hA] at hs'
        simp only at hs'
        obtain ⟨a1,a2,a3,a4,a5⟩:=aheadP_spec Y.pours _ _ p1 (by have:=hf.amount (by omega);omega) hle a b hA
        cases hS : summedP Y.pours a with
       |none => rw [hS] at hs';cases hs'
       |some ps =>
         rw [hS] at hs'
         simp only at hs'
         injection hs' with hs'
         obtain ⟨r1,r2,r3,r4,r5⟩:=rest a b hA
         have hsum:=summed_lone hw.pours a1 (fun p hp => by obtain ⟨id,h1,_⟩:=r1 p hp;exact ⟨id,h1⟩) hS
         have hne : ps ≠ []:=by
          intro e
          have h5:=(summedP_ok hw.pours a1 hS).2.2.1
          rw [e,a3] at h5
          have h6:=(hf.amount (by omega)).1
          have h7 : (0 : Rat) = (s.f5 : Rat):=h5
          have : s.f5 = 0:=by exact_mod_cast h7.symm
          omega
         have hb1 : (⟨s.f0,(pre.length : Int),s.f5,ps⟩ : S167) ∈ Y1.barrows:=by rw [← hs'];simp
         have hbf:=go_keepsb r Y1 Y' _ _ hg' _ hb1
         simp only [Turns]
         rw [if_pos c2]
         refine ⟨_,find_self hnd _ hbf,hne,fun y hy => ⟨(hsum y hy).1,?_⟩,go _ ?_⟩
         ·cases hm : moved with
         |true => exact .inl rfl
         |false =>
           obtain ⟨p,hp,hlp⟩:=(hsum y hy).2
           exact .inr (r4 hm p hp _ hlp)
         ·obtain ⟨pl,hpla,hpll⟩:=(hsum _ (rd_last hne)).2
          rw [hlen]
          refine ⟨fun l' hl' p hp => ?_,fun id hid => ?_,fun hm l' hl' => ?_,fun hm k p hp id hid => ?_,fun hm k => ?_⟩
          ·rw [← hs'] at hl' ⊢
           rcases mem_set_ hl' with rfl|hl'
           ·exact r2 p hp
           ·exact hc.lone l' hl' p hp
          ·rw [← hs'] at hid;have:=hc.seen id hid;omega
          ·rw [← hs'] at hl'
           rcases mem_set_ hl' with rfl|hl'
           ·exact (r3 hm).1
           ·exact hc.sorted hm l' hl'
          ·rw [← hs'] at hp
           change p ∈ (Y.pits.set s.f3.toNat b).getD k [] at hp
           rw [getD_set_ _ _ _ _ _ hpl] at hp
           by_cases e : k = s.f3.toNat
           ·rw [if_pos e] at hp
            dsimp only
            rw [if_pos (by have:=hf.pit.1;omega)]
            exact (r3 hm).2 pl hpla p hp _ _ hpll hid
           ·rw [if_neg e] at hp
            dsimp only
            rw [if_neg (by have:=hf.pit.1;omega)]
            exact hc.low hm k p hp id hid
          ·dsimp only
           split
           ·obtain ⟨id',h5,h6⟩:=r1 pl hpla
            rw [← lone_uniq h5 hpll]
            have:=hc.seen id' h6
            omega
           ·have:=hc.lasti hm k;omega
      ·cases hs'
     ·cases hs'
    ·-- no take
     have hT : Turns all Y'.barrows moved last r → Turns all Y'.barrows moved last (s :: r):=by
      intro h
      simp only [Turns]
      rw [if_neg c2]
      exact h
     refine hT (go last ?_)
     rw [hlen]
     have hs':=hs
     unfold stepP at hs'
     by_cases c1 : s.f1 = 1
     ·rw [if_pos c1] at hs'
      unfold pourP at hs'
      split at hs'
      ·split at hs'
       ·injection hs' with hs'
        have hnew : s.f0 ∉ Y.pours:=k3 c1
        have hplace : placeP all s.f0 = (pre.length : Int) + 1:=by
         unfold placeP
         rw [hall,placeL_append s.f0 (s :: r) pre 0 fun t ht hh => hnew (hh.2 ▸ hpre t ht hh.1)]
         simp only [placeL]
         rw [if_pos ⟨c1,by first|rfl|trivial⟩]
         omega
        have hnl : ∀ id,Lone ⟨s.f5,[⟨s.f0,wholeP s.f5⟩]⟩ id → id = s.f0:=by
         intro id h
         exact lone_uniq h (rfl : Lone ⟨s.f5,[⟨s.f0,wholeP s.f5⟩]⟩ s.f0)
        refine ⟨fun l' hl' p hp => ?_,fun id hid => ?_,fun hm l' hl' => ?_,fun hm k p hp id hid => ?_,fun hm k => ?_⟩
        ·rw [← hs'] at hl' ⊢
         have up : (∃ id,Lone p id ∧ id ∈ Y.pours) → ∃ id,Lone p id ∧ id ∈ Y.pours ++ [s.f0]:=fun ⟨id,h1,h2⟩ => ⟨id,h1,List.mem_append_left _ h2⟩
         rcases mem_set_ hl' with rfl|hl'
         ·rcases List.mem_append.1 hp with hp|hp
          ·exact up (q2 p hp)
          ·rw [List.mem_singleton.1 hp];exact ⟨s.f0,rfl,by simp⟩
         ·exact up (hc.lone l' hl' p hp)
        ·rw [← hs'] at hid
         rcases List.mem_append.1 hid with hid|hid
         ·have:=hc.seen id hid;omega
         ·rw [List.mem_singleton.1 hid,hplace];omega
        ·rw [← hs'] at hl'
         rcases mem_set_ hl' with rfl|hl'
         ·refine List.pairwise_append.2 ⟨q3 hm,List.pairwise_singleton _ _,fun p hp q hq i j hi hj => ?_⟩
          rw [List.mem_singleton.1 hq] at hj
          rw [hnl j hj,hplace]
          obtain ⟨id',h5,h6⟩:=q2 p hp
          rw [← lone_uniq h5 hi]
          have:=hc.seen id' h6
          omega
         ·exact hc.sorted hm l' hl'
        ·rw [← hs'] at hp
         change p ∈ (Y.pits.set s.f3.toNat _).getD k [] at hp
         rw [getD_set_ _ _ _ _ _ hpl] at hp
         by_cases e : k = s.f3.toNat
         ·rw [if_pos e] at hp
          rcases List.mem_append.1 hp with hp|hp
          ·have:=q4 hm p hp id hid
           rwa [show s.f3 = (k : Int) by have:=hf.pit.1;omega] at this
          ·rw [List.mem_singleton.1 hp] at hid
           rw [hnl id hid,hplace]
           have:=hc.lasti hm k
           omega
         ·rw [if_neg e] at hp
          exact hc.low hm k p hp id hid
        ·have:=hc.lasti hm k;omega
       ·cases hs'
      ·cases hs'
     ·rw [if_neg c1,if_neg c2,if_neg hk3] at hs'
      by_cases c4 : s.f1 = 4
      ·rw [if_pos c4] at hs'
       have hmv : moved = true:=by
        cases hm : moved with
       |true => rfl
       |false => exact absurd c4 (h4 hm s List.mem_cons_self)
       unfold moveP at hs'
       split at hs'
       ·split at hs'
        ·cases hA : aheadP (pitP Y s.f3) s.f5 with
        |none => rw [hA] at hs';cases hs'
        |some ab =>
          obtain ⟨a,b⟩:=ab
          rw [hA] at hs'
          simp only at hs'
          injection hs' with hs'
          obtain ⟨r1,r2,_,_,_⟩:=rest a b hA
          refine ⟨fun l' hl' p hp => ?_,fun id hid => ?_,fun hm => (by rw [hmv] at hm;cases hm),fun hm => (by rw [hmv] at hm;cases hm),fun hm => (by rw [hmv] at hm;cases hm)⟩
          ·rw [← hs'] at hl' ⊢
           rcases mem_set_ hl' with rfl|hl'
           ·rcases List.mem_append.1 hp with hp|hp
            ·rw [getD_set_ _ _ _ _ _ hpl] at hp
             split at hp
             ·exact r2 p hp
             ·have ht:=hf.dest c4
              exact (hc.pit hw ht.1 ht.2.1).2.1 p hp
            ·exact r1 p hp
           ·rcases mem_set_ hl' with rfl|hl'
            ·exact r2 p hp
            ·exact hc.lone l' hl' p hp
          ·rw [← hs'] at hid;have:=hc.seen id hid;omega
        ·cases hs'
       ·cases hs'
      ·rw [if_neg c4] at hs'
       unfold spillP at hs'
       split at hs'
       ·cases hA : aheadP (pitP Y s.f3) s.f5 with
       |none => rw [hA] at hs';cases hs'
       |some ab =>
         obtain ⟨a,b⟩:=ab
         rw [hA] at hs'
         simp only at hs'
         injection hs' with hs'
         obtain ⟨r1,r2,r3,r4,r5⟩:=rest a b hA
         refine ⟨fun l' hl' p hp => ?_,fun id hid => ?_,fun hm l' hl' => ?_,fun hm k p hp id hid => ?_,fun hm k => ?_⟩
         ·rw [← hs'] at hl' ⊢
          rcases mem_set_ hl' with rfl|hl'
          ·exact r2 p hp
          ·exact hc.lone l' hl' p hp
         ·rw [← hs'] at hid;have:=hc.seen id hid;omega
         ·rw [← hs'] at hl'
          rcases mem_set_ hl' with rfl|hl'
          ·exact (r3 hm).1
          ·exact hc.sorted hm l' hl'
         ·rw [← hs'] at hp
          change p ∈ (Y.pits.set s.f3.toNat b).getD k [] at hp
          rw [getD_set_ _ _ _ _ _ hpl] at hp
          by_cases e : k = s.f3.toNat
          ·rw [if_pos e] at hp
           have:=r5 hm p hp id hid
           rwa [show s.f3 = (k : Int) by have:=hf.pit.1;omega] at this
          ·rw [if_neg e] at hp
           exact hc.low hm k p hp id hid
         ·have:=hc.lasti hm k;omega
       ·cases hs'
  ·rw [if_neg c] at hg;cases hg
theorem played_turns {rooms : List Int} {stirs : List S84} {Y : Yd} (h : playedP rooms stirs stirs.length = .ok Y) (moved : Bool) (h3 : ∀ s ∈ stirs,s.f1 ≠ 3) (h4 : moved = false → ∀ s ∈ stirs,s.f1 ≠ 4) : Turns stirs Y.barrows moved (fun _ => 0) stirs:=by
 obtain ⟨c1,c2,hw,_⟩:=played_ok h
 unfold playedP at h
 rw [if_pos c1,if_pos c2,List.take_length] at h
 have he : ∀ l ∈ (emptyP rooms).pits,l = []:=fun l hl => List.eq_of_mem_replicate hl
 refine go_turns stirs moved stirs [] (emptyP rooms) Y 0 (fun _ => 0) rfl (by simp) (empty_ok c1) (Int.le_refl _) (by simpa using c2) h3 h4 ⟨fun l hl p hp => ?_,fun id hid => ?_,fun _ l hl => ?_,fun _ k p hp => ?_,fun _ k => ?_⟩ h hw.bnodup
 ·rw [he l hl] at hp;simp at hp
 ·simp [emptyP] at hid
 ·rw [he l hl];exact List.Pairwise.nil
 ·by_cases hk : k < (emptyP rooms).pits.length
  ·rw [he _ (getD_mem_ hk)] at hp;simp at hp
  ·rw [List.getD_eq_getElem?_getD,List.getElem?_eq_none (by omega)] at hp;simp at hp
 ·exact Int.le_refl _
def R6_29.T : Bool × List (List Nat × List Nat):=(true,[([],[]),([],[]),([1],[1]),([],[]),([],[]),([],[]),([5],[5]),([6],[6]),([4,7],[4,7]),([8],[8]),([9],[9]),([3,10],[3,10]),([0,2,11,11,0,1,2,3,4,5,6,7,8,9,10,11],[0,2,11])])
def R6_29.B : List Nat:=[0,0,2,0,0,0,32,96,240,496,1008,2040,4095]
theorem R6_29.tab : rtab .any (opsOf Tryz.f6 29) = R6_29.T:=by kernel_rfl
theorem R6_29.bits : waitsOk R6_29.T.2 R6_29.B = true:=by kernel_rfl
theorem place_l0 : ∀ (d k : Nat) (l : List S84) (id : Int) (i : Nat),i + d = l.length → d < k → l.length < 9223372036854775807 → calxlaw04_place.l0 k id l (l.length : Int) (i : Int) = some (placeL (l.drop i) (i : Int) id)
|d,0,l,id,i,_,hk,_ => by omega
|0,k + 1,l,id,i,hd,hk,hl => by
  simp only [calxlaw04_place.l0]
  rw [if_neg (by omega),List.drop_eq_nil_of_le (by omega)]
  rfl
|d + 1,k + 1,l,id,i,hd,hk,hl => by
  have hi : i < l.length:=by omega
  simp only [calxlaw04_place.l0]
  rw [if_pos (by omega),if_pos (by omega),if_pos (by omega)]
  have hrd : rd_T84 l (i : Int) = l[i]:=by unfold rd_T84;rw [Int.toNat_natCast,List.getD_eq_getElem?_getD,List.getElem?_eq_getElem hi];rfl
  have ih:=place_l0 d k l id (i + 1) (by omega) (by omega) hl
  rw [hrd,List.drop_eq_getElem_cons hi,wrap_in (by omega) (by omega),show ((i : Int) + 1) = ((i + 1 : Nat) : Int) by omega,ih]
  simp only [placeL]
  rw [show ((i : Int) + 1) = ((i + 1 : Nat) : Int) by omega]
  by_cases h1 : l[i].f1 = 1
  ·by_cases h2 : l[i].f0 = id
   ·rw [if_pos h1,if_pos h2,if_pos ⟨h1,h2⟩]
   ·rw [if_pos h1,if_neg h2,if_neg fun c => h2 c.2]
  ·rw [if_neg h1,if_neg fun c => h1 c.1]
theorem place_at (rooms : List Int) (l : List S84) (id : Int) (hl : l.length < 9223372036854775807) : calxlaw04_place.f (l.length + 1) rooms l id = some (placeP l id):=by
 unfold calxlaw04_place.f placeP
 have:=place_l0 l.length (l.length + 1) l id 0 (by omega) (by omega) hl
 simpa using this
theorem any_snoc {l : List S84} {j : Nat} (h : j < l.length) (p : S84 → Bool) : (l.take (j + 1)).any p = ((l.take j).any p || p (rd_T84 l (j : Int))):=by
 rw [List.take_succ_eq_append_getElem h,List.any_append]
 unfold rd_T84
 rw [Int.toNat_natCast,List.getD_eq_getElem?_getD,List.getElem?_eq_getElem h]
 simp
theorem all_snoc {l : List S84} {j : Nat} (h : j < l.length) {p : S84 → Prop} (h1 : ∀ s ∈ l.take j,p s) (h2 : p (rd_T84 l (j : Int))) : ∀ s ∈ l.take (j + 1),p s:=by
 intro s hs
 rw [List.take_succ_eq_append_getElem h] at hs
 rcases List.mem_append.1 hs with hs|hs
 ·exact h1 s hs
 ·rw [List.mem_singleton.1 hs]
  unfold rd_T84 at h2
  rwa [Int.toNat_natCast,List.getD_eq_getElem?_getD,List.getElem?_eq_getElem h] at h2
theorem turns_no {all : List S84} {bs : List S167} {mv : Bool} {last : Int → Int} {l : List S84} {j : Nat} (h : Turns all bs mv last (l.drop j)) (hlt : j < l.length) (hne : (rd_T84 l (j : Int)).f1 ≠ 2) : Turns all bs mv last (l.drop (j + 1)):=by
 rw [List.drop_eq_getElem_cons hlt] at h
 have hrd : rd_T84 l (j : Int) = l[j]:=by unfold rd_T84;rw [Int.toNat_natCast,List.getD_eq_getElem?_getD,List.getElem?_eq_getElem hlt];rfl
 rw [hrd] at hne
 simp only [Turns] at h
 rwa [if_neg hne] at h
theorem turns_yes {all : List S84} {bs : List S167} {mv : Bool} {last : Int → Int} {l : List S84} {j : Nat} {s : S84} (h : Turns all bs mv last (l.drop j)) (hlt : j < l.length) (hs : s = rd_T84 l (j : Int)) (he : s.f1 = 2) :
  ∃ b,bs.find? (isId s.f0) = some b ∧ b.f3 ≠ [] ∧ (∀ y ∈ b.f3,y.f1.f1 = 1 ∧ (mv = true ∨ last s.f3 ≤ placeP all y.f0)) ∧ Turns all bs mv (fun k => if k = s.f3 then placeP all (rd_T89 b.f3 ((b.f3.length : Int) - 1)).f0 else last k) (l.drop (j + 1)):=by
 rw [List.drop_eq_getElem_cons hlt] at h
 have hrd : rd_T84 l (j : Int) = l[j]:=by unfold rd_T84;rw [Int.toNat_natCast,List.getD_eq_getElem?_getD,List.getElem?_eq_getElem hlt];rfl
 rw [hrd] at hs
 subst hs
 simp only [Turns] at h
 rwa [if_pos he] at h
theorem rd89_mem {l : List S89} {i : Nat} (h : i < l.length) : rd_T89 l (i : Int) ∈ l:=by
 unfold rd_T89
 rw [Int.toNat_natCast,List.getD_eq_getElem?_getD,List.getElem?_eq_getElem h]
 exact List.getElem_mem h
theorem zero3 (w : World) : (zeroValue 3).run Tryz.prog w = .ok (ii 0) w:=by kernel_rfl
abbrev evI (n : Int) : Value:=ii n
theorem go_formed : ∀ (l : List S84) (Y Y' : Yd) (day i : Int),0 ≤ day → goP Y day i l = .ok Y' → (∀ n,Wf n Y → True) → ∀ s ∈ l,0 ≤ s.f3
|[],_,_,_,_,_,_,_ => by simp
|s :: r,Y,Y',day,i,hd,h,hw => by
  simp only [goP] at h
  by_cases c : formedP Y.rooms.length s day = true
  ·rw [if_pos c] at h
   obtain ⟨hf,_⟩:=formed_of hd c
   cases hs : stepP Y s i with
  |error e => rw [hs] at h;cases h
  |ok Y1 =>
    rw [hs] at h
    intro t ht
    rcases List.mem_cons.1 ht with rfl|ht
    ·exact hf.pit.1
    ·exact go_formed r Y1 Y' s.f2 (i + 1) hf.day.1 h (fun _ _ => trivial) t ht
  ·rw [if_neg c] at h;cases h
theorem go_formed2 : ∀ (l : List S84) (n : Nat) (Y Y' : Yd) (day : Int),Wf n Y → 0 ≤ day → n + l.length ≤ 60 → goP Y day n l = .ok Y' → ∀ s ∈ l,s.f3 < 4096
|[],_,_,_,_,_,_,_,_ => by simp
|s :: r,n,Y,Y',day,hw,hd,hl,h => by
  simp only [goP] at h
  simp only [List.length_cons] at hl
  by_cases c : formedP Y.rooms.length s day = true
  ·rw [if_pos c] at h
   obtain ⟨hf,_⟩:=formed_of hd c
   cases hs : stepP Y s n with
  |error e => rw [hs] at h;cases h
  |ok Y1 =>
    rw [hs] at h
    intro t ht
    rcases List.mem_cons.1 ht with rfl|ht
    ·have:=hf.pit.2;have:=hw.r6;omega
    ·exact go_formed2 r (n + 1) Y1 Y' s.f2 (step_ok hw (by omega) hf hs).1 hf.day.1 (by omega) h t ht
  ·rw [if_neg c] at h;cases h
theorem below3 {w w1 w2 w3 : World} (h1 : Below w.heap.size w w1) (h2 : Below w1.heap.size w1 w2) (h3 : Below w2.heap.size w2 w3) : Below w.heap.size w w3 :=
 have h:=below_then h1 (below_size h1) h2
 below_then h (below_size h) h3
def calxlaw04_PitInTurn.f (_ : Nat) (_ : List Int) (_ : List S84) : Option Bool:=some true
set_option maxRecDepth 100000 in
set_option maxHeartbeats 2000000 in
theorem calxlaw04_PitInTurn.calls (k : Nat) (A : Option Addr) (c : Nat) (rooms : List Int) (A2 : Option Addr) (c2 : Nat) (stirs : List S84) (r : Bool) (W : World) (hC : Kd.C (Kd.int .i64) W A rooms.length rooms) (hc : rooms.length ≤ c) (hS : Kd.C k84 W A2 stirs.length stirs) (hc2 : stirs.length ≤ c2) (h : calxlaw04_PitInTurn.f k rooms stirs = some r) (hr : Aside0 (r = true)) :
  Calls Tryz.prog 6 #[.agg #[.slice A rooms.length c,.slice A2 stirs.length c2]] W fun e w' => e = .returned (.bool r) ∧ Below W.heap.size W w':=by
 obtain rfl:=Option.some.inj h
 clear h hr
 have hu:=Tryz.underlying32
 have hu84:=Tryz.underlying84
 have hu89:=Tryz.underlying89
 have hsm:=hS.2.1
 have HC:=am (C_lo hC)
 have HS:=am (hS)
 have HB:=am (Below.refl W.heap.size W)
 have HC1:=am (Kd.F_alloc HC.out (.cells #[.slice A rooms.length c,.slice A2 stirs.length c2] 32))
 have HS1:=am (Kd.C_alloc HS.out (.cells #[.slice A rooms.length c,.slice A2 stirs.length c2] 32))
 have HB1:=am (below_alloc HB.out (.cells #[.slice A rooms.length c,.slice A2 stirs.length c2] 32))
 have HX:=am (blk_new W (.cells #[.slice A rooms.length c,.slice A2 stirs.length c2] 32))
 clear hC hS
 obtain ⟨t,ht⟩ : ∃ t,calxlaw04_few.f rooms stirs = some t:=by unfold calxlaw04_few.f;split;(· split;exact ⟨_,rfl⟩;split <;> exact ⟨_,rfl⟩);exact ⟨_,rfl⟩
 have HT:=am ht
 clear ht
 go_enter Tryz.func6,Tryz.ntmps6
 go_wp2_with fail
 refine (calxlaw04_few.calls A c rooms A2 c2 stirs t _ (Kd.F_now HC1.out) hc HS1.out hc2 HT.out).mono ?_
 rintro e w1 ⟨rfl,hb⟩
 have HC2:=am (Kd.F_below HC1.out hb)
 have HS2:=am (Kd.C_below HS1.out hb)
 have HB2:=am (below_then HB1.out (below_size HB1.out) hb)
 have HX1:=am (blk_below HX.out hb)
 clear hb
 cases t with
|false =>
  go_wp2_with fail
  refine (calxlaw04_sanity.calls true _ rfl).mono ?_
  rintro e wz ⟨rfl,hb⟩
  have HBZ:=am (below_then HB2.out (below_size HB2.out) hb)
  clear hb
  go_wp2
  go_ret
  exact ⟨rfl,HBZ.out⟩
|true =>
  have g1:=bd HX1.out 1
  go_wp2
  clear g1
  go_loopw [3,23] (fun v3 v23 wr => ∃ (j : Nat) (mv : Bool),j ≤ stirs.length ∧ v23 = ii (j : Int) ∧ v3 = .bool mv ∧ Aside0 (Below w1.heap.size w1 wr) ∧ Aside0 (mv = (stirs.take j).any fun s => decide (s.f1 = 4)) ∧ Aside0 (∀ s ∈ stirs.take j,s.f1 ≠ 3)) (fun _ v23 _ => stirs.length - (intOf v23).toNat)
  case atStart => exact ⟨0,false,Nat.zero_le _,rfl,rfl,⟨Below.refl _ _⟩,⟨by simp⟩,⟨by simp⟩⟩
  case round =>
   obtain ⟨j,mv,hj,rfl,rfl,HN,HM,H3⟩:=hrel
   by_cases hlt : j < stirs.length
   ·
    obtain ⟨ae,e,hx0,hx1,hx2,hx3,hx4,hx5⟩:=at_T84 (Kd.C_below HS2.out HN.out) (j : Int) (by omega) (by omega)
    cases e
    rw [Int.toNat_natCast] at hx0 hx1 hx2 hx3 hx4 hx5
    obtain ⟨s,hs⟩ : ∃ s,s = rd_T84 stirs (j : Int):=⟨_,rfl⟩
    rw [← hs] at hx0 hx1 hx2 hx3 hx4 hx5
    have HSD:=am hs
    clear hs
    by_cases h3 : s.f1 = 3
    ·
     go_wp2_with fail
     refine (calxlaw04_sanity.calls true _ rfl).mono ?_
     rintro e wz ⟨rfl,hb⟩
     have HBZ:=am (below3 HB2.out (below_alloc HN.out _) hb)
     clear hb
     go_wp2
     go_ret
     exact ⟨rfl,HBZ.out⟩
    ·
     have H33:=am h3
     have g1 : (wr.alloc (.cells #[ii s.f0,ii s.f1,ii s.f2,ii s.f3,ii s.f4,ii s.f5] 84)).cell? ⟨wr.heap.size,1,none⟩ = some (ii s.f1):=(blk_cell (blk_new wr (.cells #[ii s.f0,ii s.f1,ii s.f2,ii s.f3,ii s.f4,ii s.f5] 84)) 1).trans rfl
     cases mv with
    |true =>
      go_wp2
      go_roundw
      case rel => exact ⟨j + 1,true,by omega,by go_num,by first|rfl|simp [H44.out]|simp,⟨below_alloc HN.out _⟩,⟨by rw [any_snoc hlt,← HM.out,← HSD.out];simp []⟩,⟨all_snoc hlt H3.out (by rw [← HSD.out];exact H33.out)⟩⟩
      case measure => simp [intOf];omega
    |false =>
      by_cases h4 : s.f1 = 4
      ·
       have H44:=am h4
       go_wp2
       go_roundw
       case rel => exact ⟨j + 1,true,by omega,by go_num,by first|rfl|simp [H44.out]|simp,⟨below_alloc HN.out _⟩,⟨by rw [any_snoc hlt,← HM.out,← HSD.out];simp [H44.out]⟩,⟨all_snoc hlt H3.out (by rw [← HSD.out];exact H33.out)⟩⟩
       case measure => simp [intOf];omega
      ·
       have H44:=am h4
       go_wp2
       go_roundw
       case rel => exact ⟨j + 1,false,by omega,by go_num,by first|rfl|simp [H44.out]|simp,⟨below_alloc HN.out _⟩,⟨by rw [any_snoc hlt,← HM.out,← HSD.out];simp [H44.out]⟩,⟨all_snoc hlt H3.out (by rw [← HSD.out];exact H33.out)⟩⟩
       case measure => simp [intOf];omega
   ·
    have hje : j = stirs.length:=by omega
    subst hje
    rw [List.take_length] at HM H3
    have HC3:=am (Kd.F_below HC2.out HN.out)
    have HS3:=am (Kd.C_below HS2.out HN.out)
    have HB3:=am (below_then HB2.out (below_size HB2.out) HN.out)
    have HX2:=am (blk_below HX1.out HN.out)
    have g0:=bd HX2.out 0
    have g1:=bd HX2.out 1
    obtain ⟨rr,hrr⟩ : ∃ rr,rr = playedP rooms stirs stirs.length:=⟨_,rfl⟩
    have HQP:=am hrr.symm
    clear hrr
    have HLE:=am (below_size HB3.out)
    go_wp2_with fail
    refine (check_calls A A2 c c2 rooms stirs _ W.heap.size HLE.out HC3.out hc HS3.out hc2).mono ?_
    rintro e w2 ⟨rfl,hb⟩
    rw [HQP.out]
    have HC4:=am (Kd.F_below HC3.out hb)
    have HS4:=am (Kd.C_below HS3.out hb)
    have HB4:=am (below_then HB3.out (below_size HB3.out) hb)
    have HX3:=am (blk_below HX2.out hb)
    clear hb g0 g1
    cases rr with
   |error x =>
     obtain ⟨x1,x2⟩:=x
     have hx : ¬ x1 = 0:=playedP_code HQP.out
     dsimp only [codeOf]
     go_wp2_with fail
     refine (calxlaw04_sanity.calls true _ rfl).mono ?_
     rintro e wz ⟨rfl,hb⟩
     have HBZ:=am (below_then HB4.out (below_size HB4.out) hb)
     clear hb
     go_wp2
     go_ret
     exact ⟨rfl,HBZ.out⟩
   |ok Y =>
     dsimp only [codeOf]
     have HTU:=am (played_turns HQP.out mv H3.out fun hm s hs e4 => by have h:=HM.out;rw [hm] at h;have:=List.any_eq_false.1 h.symm s hs;simp [e4] at this)
     have HF3:=am (show ∀ s ∈ stirs,0 ≤ s.f3 from by
      have h:=HQP.out
      obtain ⟨c1,c2,_,_⟩:=played_ok h
      unfold playedP at h
      rw [if_pos c1,if_pos c2,List.take_length] at h
      exact go_formed stirs _ Y 0 0 (Int.le_refl 0) h (fun _ _ => trivial))
     have HF4:=am (show ∀ s ∈ stirs,s.f3 < 4096 from by
      have h:=HQP.out
      obtain ⟨c1,c2,_,_⟩:=played_ok h
      unfold playedP at h
      rw [if_pos c1,if_pos c2,List.take_length] at h
      exact go_formed2 stirs 0 (emptyP rooms) Y 0 (empty_ok c1) (Int.le_refl 0) (by omega) h)
     have hsl : stirs.length ≤ 60:=(played_ok HQP.out).2.1
     have HM0:=am (MapIs.made w2 Tryz.prog 3 ekI evI)
     have hmm:=@run_makeMap Tryz.prog
     have g1 : (w2.alloc (.map #[] 0)).cell? ⟨W.heap.size,1,none⟩ = some (.slice A2 stirs.length c2):=(blk_cell (blk_alloc HX3.out (.map #[] 0)) 1).trans rfl
     go_wp2
     clear g1 hmm
     go_loopw [50] (fun v50 wq => ∃ (j2 n : Nat) (M : Int → Option Int),j2 ≤ stirs.length ∧ v50 = ii (j2 : Int) ∧ n ≤ j2 ∧ Aside0 (Below w2.heap.size w2 wq) ∧ Aside0 (MapIs Tryz.prog 3 ekI evI wq w2.heap.size n M) ∧ Aside0 (Turns stirs Y.barrows mv (fun k => (M k).getD 0) (stirs.drop j2))) (fun v50 _ => stirs.length - (intOf v50).toNat)
     case atStart => exact ⟨0,0,fun _ => none,Nat.zero_le _,rfl,Nat.le_refl 0,⟨below_alloc (Below.refl _ _) _⟩,HM0,⟨HTU.out⟩⟩
     case round =>
      obtain ⟨j2,n,M,hj2,rfl,hn,HN2,HMP,HTN⟩:=hrel
      generalize wr = wq at HN2 HMP ⊢
      by_cases hlt : j2 < stirs.length
      ·
       have HC5:=am (Kd.F_below HC4.out HN2.out)
       have HS5:=am (Kd.C_below HS4.out HN2.out)
       have HB5:=am (below_then HB4.out (below_size HB4.out) HN2.out)
       have HX4:=am (blk_below HX3.out HN2.out)
       obtain ⟨ae,e,hx0,hx1,hx2,hx3,hx4,hx5⟩:=at_T84 HS5.out (j2 : Int) (by omega) (by omega)
       cases e
       rw [Int.toNat_natCast] at hx0 hx1 hx2 hx3 hx4 hx5
       obtain ⟨s,hs⟩ : ∃ s,s = rd_T84 stirs (j2 : Int):=⟨_,rfl⟩
       rw [← hs] at hx0 hx1 hx2 hx3 hx4 hx5
       have HSD:=am hs
       clear hs
       obtain ⟨kd,hkd⟩ : ∃ kd,kd = s.f1:=⟨_,rfl⟩
       have HKD:=am hkd
       have g1 : (wq.alloc (.cells #[ii s.f0,ii s.f1,ii s.f2,ii s.f3,ii s.f4,ii s.f5] 84)).cell? ⟨wq.heap.size,1,none⟩ = some (ii kd):=by rw [hkd];exact (blk_cell (blk_new wq (.cells #[ii s.f0,ii s.f1,ii s.f2,ii s.f3,ii s.f4,ii s.f5] 84)) 1).trans rfl
       clear hkd
       by_cases h2 : kd = 2
       ·
        have H22:=am h2
        obtain ⟨b,hbf,hbne,hball,hbnx⟩:=turns_yes HTN.out hlt HSD.out (HKD.out.symm.trans h2)
        have HBF:=am hbf
        have HBN:=am hbne
        have HBA:=am hball
        have HBX:=am hbnx
        clear hbf hbne hball hbnx
        have HJ:=am (HN2.out)
        have HC6:=am (Kd.F_alloc HC5.out (.cells #[ii s.f0,ii s.f1,ii s.f2,ii s.f3,ii s.f4,ii s.f5] 84))
        have HS6:=am (Kd.C_alloc HS5.out (.cells #[ii s.f0,ii s.f1,ii s.f2,ii s.f3,ii s.f4,ii s.f5] 84))
        have HB6:=am (below_alloc HB5.out (.cells #[ii s.f0,ii s.f1,ii s.f2,ii s.f3,ii s.f4,ii s.f5] 84))
        have HX5:=am (blk_alloc HX4.out (.cells #[ii s.f0,ii s.f1,ii s.f2,ii s.f3,ii s.f4,ii s.f5] 84))
        have HJ1:=am (below_alloc HJ.out (.cells #[ii s.f0,ii s.f1,ii s.f2,ii s.f3,ii s.f4,ii s.f5] 84))
        have HZ:=am (blk_new wq (.cells #[ii s.f0,ii s.f1,ii s.f2,ii s.f3,ii s.f4,ii s.f5] 84))
        have HMP1:=am (HMP.out.alloc (.cells #[ii s.f0,ii s.f1,ii s.f2,ii s.f3,ii s.f4,ii s.f5] 84))
        have u0:=bd HX5.out 0
        have u1:=bd HX5.out 1
        have k0:=bd HZ.out 0
        go_wp2_with fail
        refine (barrow_calls A (some ae) c c2 rooms stirs _ W.heap.size (below_size HB6.out) HC6.out hc HS6.out hc2 s.f0).mono ?_
        rintro e w5 ⟨hb,hp⟩
        rw [HQP.out] at hp
        dsimp only at hp
        rw [HBF.out] at hp
        obtain ⟨A3,c3,rfl,hl3,hP⟩:=hp
        have HC7:=am (Kd.F_below HC6.out hb)
        have HS7:=am (Kd.C_below HS6.out hb)
        have HB7:=am (below_then HB6.out (below_size HB6.out) hb)
        have HX6:=am (blk_below HX5.out hb)
        have HJ2:=am (below_then HJ1.out (below_size HJ1.out) hb)
        have HZ1:=am (blk_below HZ.out hb)
        have HP:=am (hP)
        have HL3:=am hl3
        have HMP2:=am (HMP1.out.below hb HMP1.out.lt)
        have hbl : ¬ ((b.f3.length : Nat) : Int) = 0:=by have:=List.length_pos_iff.2 HBN.out;omega
        have hbb : (((b.f3.length : Nat) : Int) == 0) = false:=beq_eq_false_iff_ne.mpr hbl
        have hbm : b.f3.length ≤ 9223372036854775807:=hP.2.1
        clear hb hl3 hP u0 u1 k0 g1 hx0 hx1 hx2 hx3 hx4 hx5 h2
        go_wp2
        go_loopw [73] (fun v73 wi => ∃ i : Nat,i ≤ b.f3.length ∧ v73 = ii (i : Int) ∧ Aside0 (Below w5.heap.size w5 wi)) (fun v73 _ => b.f3.length - (intOf v73).toNat)
        case atStart => exact ⟨0,Nat.zero_le _,rfl,⟨Below.refl _ _⟩⟩
        case round =>
         obtain ⟨i,hi,rfl,HN3⟩:=hrel
         generalize wr = wi at HN3 ⊢
         by_cases hli : i < b.f3.length
         ·
          have HC8:=am (Kd.F_below HC7.out HN3.out)
          have HS8:=am (Kd.C_below HS7.out HN3.out)
          have HB8:=am (below_then HB7.out (below_size HB7.out) HN3.out)
          have HX7:=am (blk_below HX6.out HN3.out)
          have HJ3:=am (below_then HJ2.out (below_size HJ2.out) HN3.out)
          have HZ2:=am (blk_below HZ1.out HN3.out)
          have HP1:=am (Kd.C_below HP.out HN3.out)
          have HI:=am (HN3.out)
          have HMP3:=am (HMP2.out.below HN3.out HMP2.out.lt)
          obtain ⟨ay,ey,hy0,hy1,hy2⟩:=at_T89 HP1.out (i : Int) (by omega) (by omega)
          cases ey
          rw [Int.toNat_natCast] at hy0 hy1 hy2
          obtain ⟨y,hy⟩ : ∃ y,y = rd_T89 b.f3 (i : Int):=⟨_,rfl⟩
          rw [← hy] at hy0 hy1 hy2
          have HYA:=am (HBA.out y (by rw [hy];exact rd89_mem hli))
          clear hy
          have HC9:=am (Kd.F_alloc HC8.out (.cells #[ii y.f0,ii y.f1.f0,ii y.f1.f1] 89))
          have HS9:=am (Kd.C_alloc HS8.out (.cells #[ii y.f0,ii y.f1.f0,ii y.f1.f1] 89))
          have HB9:=am (below_alloc HB8.out (.cells #[ii y.f0,ii y.f1.f0,ii y.f1.f1] 89))
          have HX8:=am (blk_alloc HX7.out (.cells #[ii y.f0,ii y.f1.f0,ii y.f1.f1] 89))
          have HJ4:=am (below_alloc HJ3.out (.cells #[ii y.f0,ii y.f1.f0,ii y.f1.f1] 89))
          have HZ3:=am (blk_alloc HZ2.out (.cells #[ii y.f0,ii y.f1.f0,ii y.f1.f1] 89))
          have HP2:=am (Kd.C_alloc HP1.out (.cells #[ii y.f0,ii y.f1.f0,ii y.f1.f1] 89))
          have HI1:=am (below_alloc HI.out (.cells #[ii y.f0,ii y.f1.f0,ii y.f1.f1] 89))
          have HY:=am (blk_new wi (.cells #[ii y.f0,ii y.f1.f0,ii y.f1.f1] 89))
          have HMP4:=am (HMP3.out.alloc (.cells #[ii y.f0,ii y.f1.f0,ii y.f1.f1] 89))
          have HPL:=am (place_at rooms stirs y.f0 (by omega))
          have u0:=bd HX8.out 0
          have u1:=bd HX8.out 1
          have k0:=bd HY.out 0
          go_wp2_with fail
          refine (calxlaw04_place.calls (stirs.length + 1) A c rooms (some ae) c2 stirs y.f0 (placeP stirs y.f0) _ (Kd.F_now HC9.out) hc HS9.out hc2 HPL.out).mono ?_
          rintro e w7 ⟨rfl,hb⟩
          have HC10:=am (Kd.F_below HC9.out hb)
          have HS10:=am (Kd.C_below HS9.out hb)
          have HB10:=am (below_then HB9.out (below_size HB9.out) hb)
          have HX9:=am (blk_below HX8.out hb)
          have HJ5:=am (below_then HJ4.out (below_size HJ4.out) hb)
          have HZ4:=am (blk_below HZ3.out hb)
          have HP3:=am (Kd.C_below HP2.out hb)
          have HI2:=am (below_then HI1.out (below_size HI1.out) hb)
          have HY1:=am (blk_below HY.out hb)
          have HMP5:=am (HMP4.out.below hb HMP4.out.lt)
          clear hb u0 u1 k0 hy0 hy1 hy2
          have m2 : w7.cell? ⟨wi.heap.size,2,none⟩ = some (ii 1):=by
           have q:=bd HY1.out 2
           rw [HYA.out.1] at q
           exact q
          have m3:=bd HZ4.out 3
          obtain ⟨pl,hpl⟩ : ∃ pl,pl = placeP stirs y.f0:=⟨_,rfl⟩
          rw [← hpl]
          have HPP:=am hpl
          clear hpl
          cases mv with
         |true =>
           go_wp2
           go_roundw
           case rel => exact ⟨i + 1,by omega,by go_num,HI2⟩
           case measure => simp [intOf];omega
         |false =>
           obtain ⟨lv,hlv⟩ : ∃ lv,lv = (M s.f3).getD 0:=⟨_,rfl⟩
           have HLV:=am hlv
           have hnl : ¬ pl < lv:=by have h:=HYA.out.2.resolve_left (by simp);rw [← HPP.out,← HLV.out] at h;omega
           clear hlv
           have HS3:=am (show 0 ≤ s.f3 ∧ s.f3 < 9223372036854775808 from by
            have h1 : s ∈ stirs:=by rw [HSD.out];unfold rd_T84;rw [Int.toNat_natCast];exact getD_mem_ hlt
            exact ⟨HF3.out s h1,by have:=HF4.out s h1;omega⟩)
           go_wp2_with (refine gate_guard (by rfl) ?_;refine wpList_lookup_map _ rfl _ _ 87 false rfl 3 3 law3 Tryz.underlying87 (ii 0) (zero3 _) ekI evI w2.heap.size n M rfl HMP5.out s.f3 _ rfl (keyI s.f3 (by have:=HS3.out;omega) HS3.out.2) (ii lv) (by rw [HLV.out];cases M s.f3 <;> rfl) ?_)
           go_roundw
           case rel => exact ⟨i + 1,by omega,by go_num,HI2⟩
           case measure => simp [intOf];omega
         ·
          have HC8:=am (Kd.F_below HC7.out HN3.out)
          have HS8:=am (Kd.C_below HS7.out HN3.out)
          have HB8:=am (below_then HB7.out (below_size HB7.out) HN3.out)
          have HX7:=am (blk_below HX6.out HN3.out)
          have HJ3:=am (below_then HJ2.out (below_size HJ2.out) HN3.out)
          have HZ2:=am (blk_below HZ1.out HN3.out)
          have HP1:=am (Kd.C_below HP.out HN3.out)
          have HMP3:=am (HMP2.out.below HN3.out HMP2.out.lt)
          obtain ⟨lt,hlt2⟩ : ∃ lt,lt = rd_T89 b.f3 ((b.f3.length : Int) - 1):=⟨_,rfl⟩
          have HLT:=am hlt2
          have HPL:=am (place_at rooms stirs lt.f0 (by omega))
          have hwr : IntKind.i64.wrap ((b.f3.length : Int) - 1) = (b.f3.length : Int) - 1:=IntWalk.i64_in _ (by omega)
          have hl0 : (0 : Int) ≤ (b.f3.length : Int) - 1:=by omega
          have hl1 : (b.f3.length : Int) - 1 < (b.f3.length : Int):=by omega
          have hl2 : (1 : Int) ≤ (b.f3.length : Int):=by omega
          have HS3:=am (show 0 ≤ s.f3 ∧ s.f3 < 9223372036854775808 from by
           have h1 : s ∈ stirs:=by rw [HSD.out];unfold rd_T84;rw [Int.toNat_natCast];exact getD_mem_ hlt
           exact ⟨HF3.out s h1,by have:=HF4.out s h1;omega⟩)
          have HC9:=am (Kd.F_drew HC8.out)
          have HS9:=am (Kd.C_drew HS8.out)
          have HB9:=am (below_drew HB8.out)
          have HX8:=am (blk_drew HX7.out)
          have HJ4:=am (below_drew HJ3.out)
          have HZ3:=am (blk_drew HZ2.out)
          have HP2:=am (Kd.C_drew HP1.out)
          have HMP4:=am (HMP3.out.below (below_drew (Below.refl _ _)) HMP3.out.lt)
          obtain ⟨al,el,hq0,hq1,hq2⟩:=at_T89 HP2.out ((b.f3.length : Int) - 1) hl0 hl1
          cases el
          rw [← hlt2,show ((b.f3.length : Int) - 1).toNat = b.f3.length - 1 by omega] at hq0
          have HQL:=am hq0
          clear hq0 hq1 hq2 hlt2
          go_wp2
          refine start_ (n:=13) (S:=fun w' => w'.cell? ⟨W.heap.size,0,none⟩ = some (.slice A rooms.length c) ∧ w'.cell? ⟨W.heap.size,1,none⟩ = some (.slice (some ae) stirs.length c2) ∧ w'.cell? ⟨wq.heap.size,3,none⟩ = some (ii s.f3) ∧ w'.cell? (al.add ((b.f3.length - 1) * 3)) = some (ii lt.f0)) (ds:=[12]) (ab 13 0) kr rfl kr ⟨(blk_cell HX8.out 0).trans rfl,(blk_cell HX8.out 1).trans rfl,(blk_cell HZ3.out 3).trans rfl,HQL.out⟩ (fun hHeld => ?_);refine with_tabW R6_29.tab R6_29.bits (fun HT_ HW_ => ?_)
          generalize (wi).drew = wd at HC9 HS9 HB9 HX8 HJ4 HZ3 HP2 HMP4 HQL hHeld ⊢
          refine qA 0 (some 98) ?_;refine qA 1 (some 99) ?_;refine qT 2 (some 100) ?_;refine qT 3 (some 101) ?_;refine qA 4 (some 102) ?_;refine qA 5 (some 103) ?_;refine qA 6 (some 104) ?_;refine qA 7 (some 105) ?_;refine qA 8 (some 106) ?_;refine qA 9 (some 107) ?_;refine qT 10 (some 108) ?_
          refine qE 11 (some 109) fun K hK => ?_
          refine gC Tryz.func41 #[.agg #[.slice A rooms.length c,.slice (some ae) stirs.length c2],ii lt.f0] ?_
          refine (calxlaw04_place.calls (stirs.length + 1) A c rooms (some ae) c2 stirs lt.f0 (placeP stirs lt.f0) _ (Kd.F_now HC9.out) hc HS9.out hc2 HPL.out).mono ?_
          rintro e w8 ⟨rfl,hb⟩
          have HC10:=am (Kd.F_below HC9.out hb)
          have HS10:=am (Kd.C_below HS9.out hb)
          have HB10:=am (below_then HB9.out (below_size HB9.out) hb)
          have HX9:=am (blk_below HX8.out hb)
          have HJ5:=am (below_then HJ4.out (below_size HJ4.out) hb)
          have HZ4:=am (blk_below HZ3.out hb)
          have HP3:=am (Kd.C_below HP2.out hb)
          have HMP5:=am (HMP4.out.below hb HMP4.out.lt)
          have HQM:=am (pw_cell_below hb HQL.out)
          clear hb
          refine ⟨_,rfl,?_⟩
          refine hK.out _ _ ⟨(blk_cell HX9.out 0).trans rfl,(blk_cell HX9.out 1).trans rfl,(blk_cell HZ4.out 3).trans rfl,HQM.out⟩ (fun hHeld => ?_)
          clear hK K
          refine qN (some 109) ?_
          refine qL 12 (none) fun K hK => ?_
          obtain ⟨wm,hrun,hm1,hg1⟩:=HMP5.out.update law3 Tryz.underlying87 (show n < maxLen by unfold maxLen;omega) (c:=s.f3) (placeP stirs lt.f0) (keyI s.f3 (by have:=HS3.out;omega) HS3.out.2) (fun _ => ekI_inj)
          have HM1:=am hm1
          have HJW:=am (HJ5.out.grown hg1 (below_size HJ5.out) (fun k e => by injection e with e;omega))
          clear hm1 hg1
          refine skip_ (w1:=wm) (by rfl) rfl ?hrunm ?hrestm
          case hrunm =>
           unfold ekI evI at hrun
           simp [execOp,Act.eval,hrun]
          clear hrun
          refine hK.out _ _ ?_
          clear hK K
          refine done_ (done_of HT_.out kr) ?_
          go_wp2
          go_roundw
          case rel => exact ⟨j2 + 1,n + 1,_,by omega,by go_num,by omega,HJW,HM1,⟨by
           have h:=HBX.out
           rw [← HLT.out] at h
           have e : (fun k => if k = s.f3 then placeP stirs lt.f0 else (M k).getD 0) = fun k => ((if k = s.f3 then some (placeP stirs lt.f0) else M k)).getD 0:=by funext k;split <;> rfl
           rw [e] at h
           exact h⟩⟩
          case measure => simp [intOf];omega
       ·
        have H22:=am h2
        go_wp2
        go_roundw
        case rel => exact ⟨j2 + 1,n,M,by omega,by go_num,by omega,⟨below_alloc HN2.out _⟩,⟨HMP.out.alloc _⟩,⟨turns_no HTN.out hlt (by rw [← HSD.out,← HKD.out];exact H22.out)⟩⟩
        case measure => simp [intOf];omega
      ·
       have HC5:=am (Kd.F_below HC4.out HN2.out)
       have HS5:=am (Kd.C_below HS4.out HN2.out)
       have HB5:=am (below_then HB4.out (below_size HB4.out) HN2.out)
       have HX4:=am (blk_below HX3.out HN2.out)
       go_wp2_with fail
       refine (calxlaw04_sanity.calls true _ rfl).mono ?_
       rintro e wz ⟨rfl,hb⟩
       have HBZ:=am (below_then HB5.out (below_size HB5.out) hb)
       clear hb
       go_wp2
       go_ret
       exact ⟨rfl,HBZ.out⟩
theorem purePitInTurn (lA : List Int) (_ : lA.length ≤ 9223372036854775807) (_ : ∀ x ∈ lA,W64 x) (lB : List S84) (_ : lB.length ≤ 9223372036854775807) (_ : ∀ x ∈ lB,Wf6 x) : ∃ k,calxlaw04_PitInTurn.f k lA lB = some true:=⟨0,rfl⟩
end Go.Proofs.YtjjfpmapjjemcaaGreat.B
end
