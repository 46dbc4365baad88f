import Derived.Test.YtjjfpmapjjemcaaGreatQ15
import Derived.Test.YtjjfpmapjjemcaaGreatQ49
import Derived.Test.YtjjfpmapjjemcaaGreatQ7
set_option linter.unusedVariables false
set_option linter.unusedSimpArgs false
section
namespace Go.Proofs.YtjjfpmapjjemcaaGreat.B
open Go.RowKit Go.Proofs.YtjjfpmapjjemcaaGreatW.PrintWords Go.Proofs.YtjjfpmapjjemcaaGreatW.PrintLast Go.Proofs.YtjjfpmapjjemcaaGreatW.PrintMore
attribute [local go_sem] max2_int min2_int max_two min_two max_three min_three max_four min_four
section
def R27_13.T : Bool × List (List Nat × List Nat):=(true,[([],[]),([],[]),([1],[1]),([1],[]),([3],[3]),([3],[]),([5],[5]),([2,4,6],[2,4,6]),([0,7,5],[0,7]),([8,8],[8]),([9],[9]),([9,9],[9]),([10,11,9],[9,10,11]),([9,12],[9,12]),([13,11],[13]),([14],[14]),([14],[14]),([15,16,14],[14,15,16]),([14,17],[14,17]),([18,14],[18]),([19],[19]),([19,19],[19]),([20,21,19],[19,20,21]),([19,22],[19,22]),([23,21,0,1,2,3,4,5,6,7,8,9,10,11,12,13,14,15,16,17,18,19,20,21,22,23],[23])])
def R27_13.B : List Nat:=[0,0,2,2,10,10,42,126,255,511,1023,1023,4095,8191,16383,32767,32767,131071,262143,524287,1048575,1048575,4194303,8388607,16777215]
theorem R27_13.tab : rtab .any (opsOf Tryz.f27 13) = R27_13.T:=by kernel_rfl
theorem R27_13.bits : waitsOk R27_13.T.2 R27_13.B = true:=by kernel_rfl
def R27_14.T : Bool × List (List Nat × List Nat):=(true,[([],[]),([],[]),([1],[1]),([1],[]),([3],[3]),([2,4],[2,4]),([0,5,3],[0,5]),([6,6],[6]),([7],[7]),([7,7],[7]),([8,9,7],[7,8,9]),([7,10],[7,10]),([11,9],[11]),([12],[12]),([12,12],[12]),([13,14,12],[12,13,14]),([12,15],[12,15]),([16,14],[16]),([17],[17]),([17,17],[17]),([18,19,17],[17,18,19]),([17,20],[17,20]),([21,19],[21]),([22],[22]),([22,22],[22]),([23,24,22],[22,23,24]),([22,25],[22,25]),([26,24,0,1,2,3,4,5,6,7,8,9,10,11,12,13,14,15,16,17,18,19,20,21,22,23,24,25,26],[26])])
def R27_14.B : List Nat:=[0,0,2,2,10,30,63,127,255,255,1023,2047,4095,8191,8191,32767,65535,131071,262143,262143,1048575,2097151,4194303,8388607,8388607,33554431,67108863,134217727]
theorem R27_14.tab : rtab .any (opsOf Tryz.f27 14) = R27_14.T:=by kernel_rfl
theorem R27_14.bits : waitsOk R27_14.T.2 R27_14.B = true:=by kernel_rfl
theorem eqA66 (d : Nat) (w : World) (x0 y0 : Int) (x1 y1 : Int) :
  (Op.equalIn (d + 2) 66 (.agg #[ii x0,ii x1]) (.agg #[ii y0,ii y1])).run Tryz.prog w = .ok (x0 == y0 && (x1 == y1)) w:=by
 refine eqA_of Tryz.underlying66 kr ?_
 refine eqf_cons (by rfl) (by go_simp;rfl) (by go_simp;rfl) (by go_simp) ?_
 exact eqf_last (by rfl) (by go_simp;rfl) (by go_simp;rfl) (by go_simp)
attribute [local go_sem high] eqA43 eqA66 eqA89
theorem row89_3 (W : World) (x y z : S89) : Kd.R k89 89 (W.alloc (.cells #[ii x.f0,ii x.f1.f0,ii x.f1.f1,ii y.f0,ii y.f1.f0,ii y.f1.f1,ii z.f0,ii z.f1.f0,ii z.f1.f1] 89)) W.heap.size (fun _ => True) (.slice (some ⟨W.heap.size,0,none⟩) 3 3) [x,y,z] :=
 ⟨fun _ _ => trivial,OwnRow.lit (ps:=[x,y,z]) W W.heap.size (inner:=[ii x.f0,ii x.f1.f0,ii x.f1.f1,ii y.f0,ii y.f1.f0,ii y.f1.f1,ii z.f0,ii z.f1.f0,ii z.f1.f1]) (Reps.snoc (Reps.snoc (Reps.snoc (Reps.none _ _) (k89_mkM _ _ _ x) rfl) (k89_mkM _ _ _ y) rfl) (k89_mkM _ _ _ z) rfl) (Nat.le_refl _) (by simp)⟩
theorem row89_2 (W : World) (x y : S89) : Kd.R k89 89 (W.alloc (.cells #[ii x.f0,ii x.f1.f0,ii x.f1.f1,ii y.f0,ii y.f1.f0,ii y.f1.f1] 89)) W.heap.size (fun _ => True) (.slice (some ⟨W.heap.size,0,none⟩) 2 2) [x,y] :=
 ⟨fun _ _ => trivial,OwnRow.lit (ps:=[x,y]) W W.heap.size (inner:=[ii x.f0,ii x.f1.f0,ii x.f1.f1,ii y.f0,ii y.f1.f0,ii y.f1.f1]) (Reps.snoc (Reps.snoc (Reps.none _ _) (k89_mkM _ _ _ x) rfl) (k89_mkM _ _ _ y) rfl) (Nat.le_refl _) (by simp)⟩
theorem row113_2 (W : World) (x y : S113) : Kd.R k113 113 (W.alloc (.cells #[ii x.f0,ii x.f1.f0,ii x.f1.f1,ii y.f0,ii y.f1.f0,ii y.f1.f1] 113)) W.heap.size (fun _ => True) (.slice (some ⟨W.heap.size,0,none⟩) 2 2) [x,y] :=
 ⟨fun _ _ => trivial,OwnRow.lit (ps:=[x,y]) W W.heap.size (inner:=[ii x.f0,ii x.f1.f0,ii x.f1.f1,ii y.f0,ii y.f1.f0,ii y.f1.f1]) (Reps.snoc (Reps.snoc (Reps.none _ _) (k113_mkM _ _ _ x) rfl) (k113_mkM _ _ _ y) rfl) (Nat.le_refl _) (by simp)⟩
theorem row137_2 (W : World) (x y : S137) : Kd.R k137 137 (W.alloc (.cells #[ii x.f0,ii x.f1.f0,ii x.f1.f1,ii y.f0,ii y.f1.f0,ii y.f1.f1] 137)) W.heap.size (fun _ => True) (.slice (some ⟨W.heap.size,0,none⟩) 2 2) [x,y] :=
 ⟨fun _ _ => trivial,OwnRow.lit (ps:=[x,y]) W W.heap.size (inner:=[ii x.f0,ii x.f1.f0,ii x.f1.f1,ii y.f0,ii y.f1.f0,ii y.f1.f1]) (Reps.snoc (Reps.snoc (Reps.none _ _) (k137_mkM _ _ _ x) rfl) (k137_mkM _ _ _ y) rfl) (Nat.le_refl _) (by simp)⟩
theorem row139_2 (W : World) (x y : S139) : Kd.R k139 139 (W.alloc (.cells #[ii x.f0,ii x.f1.f0,ii x.f1.f1,ii x.f2.f0,ii x.f2.f1,ii y.f0,ii y.f1.f0,ii y.f1.f1,ii y.f2.f0,ii y.f2.f1] 139)) W.heap.size (fun _ => True) (.slice (some ⟨W.heap.size,0,none⟩) 2 2) [x,y] :=
 ⟨fun _ _ => trivial,OwnRow.lit (ps:=[x,y]) W W.heap.size (inner:=[ii x.f0,ii x.f1.f0,ii x.f1.f1,ii x.f2.f0,ii x.f2.f1,ii y.f0,ii y.f1.f0,ii y.f1.f1,ii y.f2.f0,ii y.f2.f1]) (Reps.snoc (Reps.snoc (Reps.none _ _) (k139_mkM _ _ _ x) rfl) (k139_mkM _ _ _ y) rfl) (Nat.le_refl _) (by simp)⟩
set_option maxRecDepth 100000 in
set_option maxHeartbeats 4000000 in
theorem sanity_calls (w : World) : Calls Tryz.prog 27 #[] w fun e w' => e = .returned (.bool true) ∧ Below w.heap.size w w':=by
 have hu32:=Tryz.underlying32
 have hu43:=Tryz.underlying43
 have hu66:=Tryz.underlying66
 have hu89:=Tryz.underlying89
 have hu113:=Tryz.underlying113
 have hu137:=Tryz.underlying137
 have hu139:=Tryz.underlying139
 obtain ⟨rooms,hrm⟩ : ∃ rooms,rooms = exR:=⟨_,rfl⟩
 obtain ⟨stirs,hst⟩ : ∃ stirs,stirs = exS:=⟨_,rfl⟩
 have HRM:=am hrm
 have HST:=am hst
 have HEX:=am (show calxlaw04_Example.f = some (rooms,stirs) by rw [hrm,hst];rfl)
 have HOK:=am (show playedP rooms stirs stirs.length = .ok exY by rw [hrm,hst];exact ex_ok)
 clear hrm hst
 go_enter Tryz.func27,Tryz.ntmps27
 go_wp2_with fail
 refine (calxlaw04_Example.calls rooms stirs w HEX.out).mono ?_
 rintro e w1 ⟨v0,v1,rfl,hR0,hR1,hb⟩
 obtain ⟨A,c,rfl⟩:=Kd.R_slice hR0
 obtain ⟨A2,c2,rfl⟩:=Kd.R_slice hR1
 have HCC:=am (Kd.R_reads' hR0).2.1
 have HCC2:=am (Kd.R_reads' hR1).2.1
 have HB:=am (hb)
 have HF:=am (show Kd.F (Kd.int .i64) w1 (fun k => k < w1.heap.size) A rooms.length rooms from Kd.F_mono (Kd.R_F (Kd.R_bound hR0)) (fun k hk => hk.2.2.1))
 have HS:=am ((Kd.R_reads' hR1).2.2)
 clear hR0 hR1 hb
 have HB1:=am (below_alloc HB.out (.cells #[.slice A rooms.length c,.slice A2 stirs.length c2] 32))
 have HF1:=am (Kd.F_alloc HF.out (.cells #[.slice A rooms.length c,.slice A2 stirs.length c2] 32))
 have HS1:=am (Kd.C_alloc HS.out (.cells #[.slice A rooms.length c,.slice A2 stirs.length c2] 32))
 have Hp_:=am (blk_new w1 (.cells #[.slice A rooms.length c,.slice A2 stirs.length c2] 32))
 go_wp2_with fail
 refine (barrow_calls A A2 c c2 rooms stirs _ w1.heap.size (Nat.le_of_lt (blk_lt Hp_.out)) HF1.out HCC.out HS1.out HCC2.out 13).mono ?_
 rintro e w2 ⟨hb,h⟩
 rw [HOK.out] at h
 simp only [ex_barrow] at h
 obtain ⟨A3,c3,rfl,hl3,hC3⟩:=h
 obtain ⟨pa,hpa⟩ : ∃ pa,pa = exB.f3:=⟨_,rfl⟩
 rw [← hpa] at hl3 hC3 ⊢
 have HPA:=am hpa
 have HL3:=am hl3
 clear hpa
 have HB2:=am (below_then HB1.out (below_size HB1.out) hb)
 have HF2:=am (Kd.F_below HF1.out hb)
 have HS2:=am (Kd.C_below HS1.out hb)
 have Hp_1:=am (blk_below Hp_.out hb)
 have Hb_:=am (hC3)
 clear hb hl3 hC3
 have g0:=bd Hp_1.out 0
 have g1:=bd Hp_1.out 1
 have hh:=share_calls A A2 c c2 rooms stirs w2 w1.heap.size (Nat.le_of_lt (blk_lt Hp_1.out)) HF2.out HCC.out HS2.out HCC2.out 13 3
 rw [show shareE (playedP rooms stirs stirs.length) 13 3 = (⟨1,6⟩,0) from by rw [HRM.out,HST.out];exact ex_share] at hh
 have HH:=am hh
 clear hh
 go_wp2_with fail
 refine HH.out.mono ?_
 rintro e w3 ⟨rfl,hb⟩
 have HB3:=am (below_then HB2.out (below_size HB2.out) hb)
 have HF3:=am (Kd.F_below HF2.out hb)
 have HS3:=am (Kd.C_below HS2.out hb)
 have Hp_2:=am (blk_below Hp_1.out hb)
 have Hb_1:=am (Kd.C_below Hb_.out hb)
 clear hb g0 g1
 clear HH
 have HB4:=am (below_alloc HB3.out (.cells #[ii 1,ii 6] 43))
 have HF4:=am (Kd.F_alloc HF3.out (.cells #[ii 1,ii 6] 43))
 have HS4:=am (Kd.C_alloc HS3.out (.cells #[ii 1,ii 6] 43))
 have Hp_3:=am (blk_alloc Hp_2.out (.cells #[ii 1,ii 6] 43))
 have Hb_2:=am (Kd.C_alloc Hb_1.out (.cells #[ii 1,ii 6] 43))
 have Hs_:=am (blk_new' w3 (.cells #[ii 1,ii 6] 43) (w3.heap.size) (by simp))
 have g0:=bd Hp_3.out 0
 have g1:=bd Hp_3.out 1
 have hh:=ages_calls A A2 c c2 rooms stirs (w3.alloc (.cells #[ii 1,ii 6] 43)) w1.heap.size (Nat.le_of_lt (blk_lt Hp_3.out)) HF4.out HCC.out HS4.out HCC2.out 13
 rw [show agesE stirs (playedP rooms stirs stirs.length) 13 = ((2,12),0) from by rw [HRM.out,HST.out];exact ex_ages] at hh
 have HH:=am hh
 clear hh
 go_wp2_with fail
 refine HH.out.mono ?_
 rintro e w4 ⟨rfl,hb⟩
 have HB5:=am (below_then HB4.out (below_size HB4.out) hb)
 have HF5:=am (Kd.F_below HF4.out hb)
 have HS5:=am (Kd.C_below HS4.out hb)
 have Hp_4:=am (blk_below Hp_3.out hb)
 have Hb_3:=am (Kd.C_below Hb_2.out hb)
 have Hs_1:=am (blk_below Hs_.out hb)
 clear hb g0 g1
 clear HH
 have HB6:=am (below_alloc HB5.out (.cells #[ii 2,ii 12] 66))
 have HF6:=am (Kd.F_alloc HF5.out (.cells #[ii 2,ii 12] 66))
 have HS6:=am (Kd.C_alloc HS5.out (.cells #[ii 2,ii 12] 66))
 have Hp_5:=am (blk_alloc Hp_4.out (.cells #[ii 2,ii 12] 66))
 have Hb_4:=am (Kd.C_alloc Hb_3.out (.cells #[ii 2,ii 12] 66))
 have Hs_2:=am (blk_alloc Hs_1.out (.cells #[ii 2,ii 12] 66))
 have Ha_:=am (blk_new' w4 (.cells #[ii 2,ii 12] 66) (w4.heap.size) (by simp))
 have g0:=bd Hp_5.out 0
 have g1:=bd Hp_5.out 1
 have hh:=ripe_calls A A2 c c2 rooms stirs (w4.alloc (.cells #[ii 2,ii 12] 66)) w1.heap.size (Nat.le_of_lt (blk_lt Hp_5.out)) HF6.out HCC.out HS6.out HCC2.out 12 8
 rw [show ripeE stirs (playedP rooms stirs stirs.length) 12 8 = (⟨1,2⟩,0) from by rw [HRM.out,HST.out];exact ex_ripe] at hh
 have HH:=am hh
 clear hh
 go_wp2_with fail
 refine HH.out.mono ?_
 rintro e w5 ⟨rfl,hb⟩
 have HB7:=am (below_then HB6.out (below_size HB6.out) hb)
 have HF7:=am (Kd.F_below HF6.out hb)
 have HS7:=am (Kd.C_below HS6.out hb)
 have Hp_6:=am (blk_below Hp_5.out hb)
 have Hb_5:=am (Kd.C_below Hb_4.out hb)
 have Hs_3:=am (blk_below Hs_2.out hb)
 have Ha_1:=am (blk_below Ha_.out hb)
 clear hb g0 g1
 clear HH
 have HB8:=am (below_alloc HB7.out (.cells #[ii 1,ii 2] 43))
 have HF8:=am (Kd.F_alloc HF7.out (.cells #[ii 1,ii 2] 43))
 have HS8:=am (Kd.C_alloc HS7.out (.cells #[ii 1,ii 2] 43))
 have Hp_7:=am (blk_alloc Hp_6.out (.cells #[ii 1,ii 2] 43))
 have Hb_6:=am (Kd.C_alloc Hb_5.out (.cells #[ii 1,ii 2] 43))
 have Hs_4:=am (blk_alloc Hs_3.out (.cells #[ii 1,ii 2] 43))
 have Ha_2:=am (blk_alloc Ha_1.out (.cells #[ii 1,ii 2] 43))
 have Hr_:=am (blk_new' w5 (.cells #[ii 1,ii 2] 43) (w5.heap.size) (by simp))
 have g0:=bd Hp_7.out 0
 have g1:=bd Hp_7.out 1
 have hh:=fate_calls A A2 c c2 rooms stirs (w5.alloc (.cells #[ii 1,ii 2] 43)) w1.heap.size (Nat.le_of_lt (blk_lt Hp_7.out)) HF8.out HCC.out HS8.out HCC2.out 2
 rw [show fateE (playedP rooms stirs stirs.length) 2 = ([⟨12,⟨5,1⟩⟩,⟨13,⟨15,2⟩⟩],⟨15,2⟩,⟨0,1⟩,0) from by rw [HRM.out,HST.out];exact ex_fate] at hh
 have HH:=am hh
 clear hh
 go_wp2_with fail
 refine HH.out.mono ?_
 rintro e w6 ⟨hb,A7,c7,rfl,hl7,hC7⟩
 replace hC7:=Kd.F_now hC7
 obtain ⟨pl,hpl⟩ : ∃ pl : List S89,pl = [⟨12,⟨5,1⟩⟩,⟨13,⟨15,2⟩⟩]:=⟨_,rfl⟩
 rw [show ((([⟨12,⟨5,1⟩⟩,⟨13,⟨15,2⟩⟩],⟨15,2⟩,⟨0,1⟩,0) : List S89 × S43 × S43 × Int)).1 = pl from hpl.symm] at hl7 hC7 ⊢
 have HPL:=am hpl
 have HL7:=am hl7
 clear hpl
 have HB9:=am (below_then HB8.out (below_size HB8.out) hb)
 have HF9:=am (Kd.F_below HF8.out hb)
 have HS9:=am (Kd.C_below HS8.out hb)
 have Hp_8:=am (blk_below Hp_7.out hb)
 have Hb_7:=am (Kd.C_below Hb_6.out hb)
 have Hs_5:=am (blk_below Hs_4.out hb)
 have Ha_3:=am (blk_below Ha_2.out hb)
 have Hr_1:=am (blk_below Hr_.out hb)
 have Hq_:=am (hC7)
 clear hb g0 g1 hl7 hC7
 clear HH
 have HB10:=am (below_alloc HB9.out (.cells #[ii 15,ii 2] 43))
 have HF10:=am (Kd.F_alloc HF9.out (.cells #[ii 15,ii 2] 43))
 have HS10:=am (Kd.C_alloc HS9.out (.cells #[ii 15,ii 2] 43))
 have Hp_9:=am (blk_alloc Hp_8.out (.cells #[ii 15,ii 2] 43))
 have Hb_8:=am (Kd.C_alloc Hb_7.out (.cells #[ii 15,ii 2] 43))
 have Hs_6:=am (blk_alloc Hs_5.out (.cells #[ii 15,ii 2] 43))
 have Ha_4:=am (blk_alloc Ha_3.out (.cells #[ii 15,ii 2] 43))
 have Hr_2:=am (blk_alloc Hr_1.out (.cells #[ii 15,ii 2] 43))
 have Hq_1:=am (Kd.C_alloc Hq_.out (.cells #[ii 15,ii 2] 43))
 have Hf_:=am (blk_new' w6 (.cells #[ii 15,ii 2] 43) (w6.heap.size) (by simp))
 have HB11:=am (below_alloc HB10.out (.cells #[ii 0,ii 1] 43))
 have HF11:=am (Kd.F_alloc HF10.out (.cells #[ii 0,ii 1] 43))
 have HS11:=am (Kd.C_alloc HS10.out (.cells #[ii 0,ii 1] 43))
 have Hp_10:=am (blk_alloc Hp_9.out (.cells #[ii 0,ii 1] 43))
 have Hb_9:=am (Kd.C_alloc Hb_8.out (.cells #[ii 0,ii 1] 43))
 have Hs_7:=am (blk_alloc Hs_6.out (.cells #[ii 0,ii 1] 43))
 have Ha_5:=am (blk_alloc Ha_4.out (.cells #[ii 0,ii 1] 43))
 have Hr_3:=am (blk_alloc Hr_2.out (.cells #[ii 0,ii 1] 43))
 have Hq_2:=am (Kd.C_alloc Hq_1.out (.cells #[ii 0,ii 1] 43))
 have Hf_1:=am (blk_alloc Hf_.out (.cells #[ii 0,ii 1] 43))
 have Ho_:=am (blk_new' (w6.alloc (.cells #[ii 15,ii 2] 43)) (.cells #[ii 0,ii 1] 43) (w6.heap.size + 1) (by simp))
 have hgr:=(Kd.R_reads' (row113_2 ((w6.alloc (.cells #[ii 15,ii 2] 43)).alloc (.cells #[ii 0,ii 1] 43)) ⟨1,⟨0,100⟩⟩ ⟨2,⟨60,60⟩⟩)).2.2
 rw [show ((w6.alloc (.cells #[ii 15,ii 2] 43)).alloc (.cells #[ii 0,ii 1] 43)).heap.size = w6.heap.size + 1 + 1 by simp] at hgr
 have HGR:=am hgr
 clear hgr
 have HB12:=am (below_alloc HB11.out (.cells #[ii 1,ii 0,ii 100,ii 2,ii 60,ii 60] 113))
 have HF12:=am (Kd.F_alloc HF11.out (.cells #[ii 1,ii 0,ii 100,ii 2,ii 60,ii 60] 113))
 have HS12:=am (Kd.C_alloc HS11.out (.cells #[ii 1,ii 0,ii 100,ii 2,ii 60,ii 60] 113))
 have Hp_11:=am (blk_alloc Hp_10.out (.cells #[ii 1,ii 0,ii 100,ii 2,ii 60,ii 60] 113))
 have Hb_10:=am (Kd.C_alloc Hb_9.out (.cells #[ii 1,ii 0,ii 100,ii 2,ii 60,ii 60] 113))
 have Hs_8:=am (blk_alloc Hs_7.out (.cells #[ii 1,ii 0,ii 100,ii 2,ii 60,ii 60] 113))
 have Ha_6:=am (blk_alloc Ha_5.out (.cells #[ii 1,ii 0,ii 100,ii 2,ii 60,ii 60] 113))
 have Hr_4:=am (blk_alloc Hr_3.out (.cells #[ii 1,ii 0,ii 100,ii 2,ii 60,ii 60] 113))
 have Hq_3:=am (Kd.C_alloc Hq_2.out (.cells #[ii 1,ii 0,ii 100,ii 2,ii 60,ii 60] 113))
 have Hf_2:=am (blk_alloc Hf_1.out (.cells #[ii 1,ii 0,ii 100,ii 2,ii 60,ii 60] 113))
 have Ho_1:=am (blk_alloc Ho_.out (.cells #[ii 1,ii 0,ii 100,ii 2,ii 60,ii 60] 113))
 have g0:=bd Hp_10.out 0
 have g1:=bd Hp_10.out 1
 have hh:=worth_calls A A2 c c2 rooms stirs (((w6.alloc (.cells #[ii 15,ii 2] 43)).alloc (.cells #[ii 0,ii 1] 43)).alloc (.cells #[ii 1,ii 0,ii 100,ii 2,ii 60,ii 60] 113)) w1.heap.size (Nat.le_of_lt (blk_lt Hp_11.out)) HF12.out HCC.out HS12.out HCC2.out 13 (some ⟨w6.heap.size + 1 + 1,0,none⟩) 2 exG HGR.out (by decide)
 rw [show worthE (playedP rooms stirs stirs.length) 13 exG = (⟨25,1⟩,⟨700,3⟩,0) from by rw [HRM.out,HST.out];exact ex_worth] at hh
 have HH:=am hh
 clear hh
 go_wp2_with fail
 refine HH.out.mono ?_
 rintro e w8 ⟨rfl,hb⟩
 have HB13:=am (below_then HB12.out (below_size HB12.out) hb)
 have HF13:=am (Kd.F_below HF12.out hb)
 have HS13:=am (Kd.C_below HS12.out hb)
 have Hp_12:=am (blk_below Hp_11.out hb)
 have Hb_11:=am (Kd.C_below Hb_10.out hb)
 have Hs_9:=am (blk_below Hs_8.out hb)
 have Ha_7:=am (blk_below Ha_6.out hb)
 have Hr_5:=am (blk_below Hr_4.out hb)
 have Hq_4:=am (Kd.C_below Hq_3.out hb)
 have Hf_3:=am (blk_below Hf_2.out hb)
 have Ho_2:=am (blk_below Ho_1.out hb)
 clear hb g0 g1 HH HGR
 have HB14:=am (below_alloc HB13.out (.cells #[ii 25,ii 1] 43))
 have HF14:=am (Kd.F_alloc HF13.out (.cells #[ii 25,ii 1] 43))
 have HS14:=am (Kd.C_alloc HS13.out (.cells #[ii 25,ii 1] 43))
 have Hp_13:=am (blk_alloc Hp_12.out (.cells #[ii 25,ii 1] 43))
 have Hb_12:=am (Kd.C_alloc Hb_11.out (.cells #[ii 25,ii 1] 43))
 have Hs_10:=am (blk_alloc Hs_9.out (.cells #[ii 25,ii 1] 43))
 have Ha_8:=am (blk_alloc Ha_7.out (.cells #[ii 25,ii 1] 43))
 have Hr_6:=am (blk_alloc Hr_5.out (.cells #[ii 25,ii 1] 43))
 have Hq_5:=am (Kd.C_alloc Hq_4.out (.cells #[ii 25,ii 1] 43))
 have Hf_4:=am (blk_alloc Hf_3.out (.cells #[ii 25,ii 1] 43))
 have Ho_3:=am (blk_alloc Ho_2.out (.cells #[ii 25,ii 1] 43))
 have Hl_:=am (blk_new' w8 (.cells #[ii 25,ii 1] 43) (w8.heap.size) (by simp))
 have HB15:=am (below_alloc HB14.out (.cells #[ii 700,ii 3] 43))
 have HF15:=am (Kd.F_alloc HF14.out (.cells #[ii 700,ii 3] 43))
 have HS15:=am (Kd.C_alloc HS14.out (.cells #[ii 700,ii 3] 43))
 have Hp_14:=am (blk_alloc Hp_13.out (.cells #[ii 700,ii 3] 43))
 have Hb_13:=am (Kd.C_alloc Hb_12.out (.cells #[ii 700,ii 3] 43))
 have Hs_11:=am (blk_alloc Hs_10.out (.cells #[ii 700,ii 3] 43))
 have Ha_9:=am (blk_alloc Ha_8.out (.cells #[ii 700,ii 3] 43))
 have Hr_7:=am (blk_alloc Hr_6.out (.cells #[ii 700,ii 3] 43))
 have Hq_6:=am (Kd.C_alloc Hq_5.out (.cells #[ii 700,ii 3] 43))
 have Hf_5:=am (blk_alloc Hf_4.out (.cells #[ii 700,ii 3] 43))
 have Ho_4:=am (blk_alloc Ho_3.out (.cells #[ii 700,ii 3] 43))
 have Hl_1:=am (blk_alloc Hl_.out (.cells #[ii 700,ii 3] 43))
 have Hh_:=am (blk_new' (w8.alloc (.cells #[ii 25,ii 1] 43)) (.cells #[ii 700,ii 3] 43) (w8.heap.size + 1) (by simp))
 have hgr:=(Kd.R_reads' (row137_2 ((w8.alloc (.cells #[ii 25,ii 1] 43)).alloc (.cells #[ii 700,ii 3] 43)) ⟨12,⟨100,120⟩⟩ ⟨13,⟨50,90⟩⟩)).2.2
 rw [show ((w8.alloc (.cells #[ii 25,ii 1] 43)).alloc (.cells #[ii 700,ii 3] 43)).heap.size = w8.heap.size + 1 + 1 by simp] at hgr
 have HGR:=am hgr
 clear hgr
 have g0:=bd Hp_14.out 0
 have g1:=bd Hp_14.out 1
 have HB16:=am (below_alloc HB15.out (.cells #[ii 12,ii 100,ii 120,ii 13,ii 50,ii 90] 137))
 have HF16:=am (Kd.F_alloc HF15.out (.cells #[ii 12,ii 100,ii 120,ii 13,ii 50,ii 90] 137))
 have HS16:=am (Kd.C_alloc HS15.out (.cells #[ii 12,ii 100,ii 120,ii 13,ii 50,ii 90] 137))
 have Hp_15:=am (blk_alloc Hp_14.out (.cells #[ii 12,ii 100,ii 120,ii 13,ii 50,ii 90] 137))
 have Hb_14:=am (Kd.C_alloc Hb_13.out (.cells #[ii 12,ii 100,ii 120,ii 13,ii 50,ii 90] 137))
 have Hs_12:=am (blk_alloc Hs_11.out (.cells #[ii 12,ii 100,ii 120,ii 13,ii 50,ii 90] 137))
 have Ha_10:=am (blk_alloc Ha_9.out (.cells #[ii 12,ii 100,ii 120,ii 13,ii 50,ii 90] 137))
 have Hr_8:=am (blk_alloc Hr_7.out (.cells #[ii 12,ii 100,ii 120,ii 13,ii 50,ii 90] 137))
 have Hq_7:=am (Kd.C_alloc Hq_6.out (.cells #[ii 12,ii 100,ii 120,ii 13,ii 50,ii 90] 137))
 have Hf_6:=am (blk_alloc Hf_5.out (.cells #[ii 12,ii 100,ii 120,ii 13,ii 50,ii 90] 137))
 have Ho_5:=am (blk_alloc Ho_4.out (.cells #[ii 12,ii 100,ii 120,ii 13,ii 50,ii 90] 137))
 have Hl_2:=am (blk_alloc Hl_1.out (.cells #[ii 12,ii 100,ii 120,ii 13,ii 50,ii 90] 137))
 have Hh_1:=am (blk_alloc Hh_.out (.cells #[ii 12,ii 100,ii 120,ii 13,ii 50,ii 90] 137))
 have hh:=culprits_calls A A2 c c2 rooms stirs (((w8.alloc (.cells #[ii 25,ii 1] 43)).alloc (.cells #[ii 700,ii 3] 43)).alloc (.cells #[ii 12,ii 100,ii 120,ii 13,ii 50,ii 90] 137)) w1.heap.size (Nat.le_of_lt (blk_lt Hp_15.out)) HF16.out HCC.out HS16.out HCC2.out (some ⟨w8.heap.size + 1 + 1,0,none⟩) 2 exP HGR.out (by decide)
 have HH:=am hh
 clear hh
 go_wp2_with fail
 refine HH.out.mono ?_
 rintro e w10 ⟨hb,h⟩
 rw [HOK.out] at h
 dsimp only at h
 rw [if_pos ex_probes] at h
 obtain ⟨A9,c9,rfl,hl9,hC9⟩:=h
 replace hC9:=Kd.F_now hC9
 obtain ⟨pk,hpk⟩ : ∃ pk,pk = culpP exY exP exY.pours:=⟨_,rfl⟩
 rw [← hpk] at hl9 hC9 ⊢
 have HPK:=am (hpk.trans ex_culp)
 have HL9:=am hl9
 clear hpk
 have HB17:=am (below_then HB16.out (below_size HB16.out) hb)
 have HF17:=am (Kd.F_below HF16.out hb)
 have HS17:=am (Kd.C_below HS16.out hb)
 have Hp_16:=am (blk_below Hp_15.out hb)
 have Hb_15:=am (Kd.C_below Hb_14.out hb)
 have Hs_13:=am (blk_below Hs_12.out hb)
 have Ha_11:=am (blk_below Ha_10.out hb)
 have Hr_9:=am (blk_below Hr_8.out hb)
 have Hq_8:=am (Kd.C_below Hq_7.out hb)
 have Hf_7:=am (blk_below Hf_6.out hb)
 have Ho_6:=am (blk_below Ho_5.out hb)
 have Hl_3:=am (blk_below Hl_2.out hb)
 have Hh_2:=am (blk_below Hh_1.out hb)
 have Hk_:=am (hC9)
 clear hb g0 g1 HH HGR hl9 hC9
 have g0:=bd Hp_16.out 0
 have g1:=bd Hp_16.out 1
 have hh:=swap_calls A A2 c c2 rooms stirs w10 w1.heap.size (Nat.le_of_lt (blk_lt Hp_16.out)) HF17.out HCC.out HS17.out HCC2.out 5
 have HH:=am hh
 clear hh
 go_wp2_with fail
 refine HH.out.mono ?_
 rintro e w11 ⟨hb,h⟩
 rw [HOK.out] at h
 dsimp only at h
 rw [show inP 5 1 ((stirs.length : Int) - 1) = true from by rw [HST.out];exact ex_in5,if_pos rfl,show swapR rooms stirs 5 = .ok (exZ 5) from by rw [HRM.out,HST.out];exact ex_swap5] at h
 dsimp only at h
 rw [ex_alike5] at h
 obtain ⟨A5,A6,c5,c6,rfl,_,_,_,_⟩:=h
 have HB18:=am (below_then HB17.out (below_size HB17.out) hb)
 have HF18:=am (Kd.F_below HF17.out hb)
 have HS18:=am (Kd.C_below HS17.out hb)
 have Hp_17:=am (blk_below Hp_16.out hb)
 have Hb_16:=am (Kd.C_below Hb_15.out hb)
 have Hs_14:=am (blk_below Hs_13.out hb)
 have Ha_12:=am (blk_below Ha_11.out hb)
 have Hr_10:=am (blk_below Hr_9.out hb)
 have Hq_9:=am (Kd.C_below Hq_8.out hb)
 have Hf_8:=am (blk_below Hf_7.out hb)
 have Ho_7:=am (blk_below Ho_6.out hb)
 have Hl_4:=am (blk_below Hl_3.out hb)
 have Hh_3:=am (blk_below Hh_2.out hb)
 have Hk_1:=am (Kd.C_below Hk_.out hb)
 clear hb g0 g1 HH
 have HB19:=am (below_alloc HB18.out (.cells #[.slice A5 rooms.length c5,.slice A6 stirs.length c6] 32))
 have HF19:=am (Kd.F_alloc HF18.out (.cells #[.slice A5 rooms.length c5,.slice A6 stirs.length c6] 32))
 have HS19:=am (Kd.C_alloc HS18.out (.cells #[.slice A5 rooms.length c5,.slice A6 stirs.length c6] 32))
 have Hp_18:=am (blk_alloc Hp_17.out (.cells #[.slice A5 rooms.length c5,.slice A6 stirs.length c6] 32))
 have Hb_17:=am (Kd.C_alloc Hb_16.out (.cells #[.slice A5 rooms.length c5,.slice A6 stirs.length c6] 32))
 have Hs_15:=am (blk_alloc Hs_14.out (.cells #[.slice A5 rooms.length c5,.slice A6 stirs.length c6] 32))
 have Ha_13:=am (blk_alloc Ha_12.out (.cells #[.slice A5 rooms.length c5,.slice A6 stirs.length c6] 32))
 have Hr_11:=am (blk_alloc Hr_10.out (.cells #[.slice A5 rooms.length c5,.slice A6 stirs.length c6] 32))
 have Hq_10:=am (Kd.C_alloc Hq_9.out (.cells #[.slice A5 rooms.length c5,.slice A6 stirs.length c6] 32))
 have Hf_9:=am (blk_alloc Hf_8.out (.cells #[.slice A5 rooms.length c5,.slice A6 stirs.length c6] 32))
 have Ho_8:=am (blk_alloc Ho_7.out (.cells #[.slice A5 rooms.length c5,.slice A6 stirs.length c6] 32))
 have Hl_5:=am (blk_alloc Hl_4.out (.cells #[.slice A5 rooms.length c5,.slice A6 stirs.length c6] 32))
 have Hh_4:=am (blk_alloc Hh_3.out (.cells #[.slice A5 rooms.length c5,.slice A6 stirs.length c6] 32))
 have Hk_2:=am (Kd.C_alloc Hk_1.out (.cells #[.slice A5 rooms.length c5,.slice A6 stirs.length c6] 32))
 have g0:=bd Hp_18.out 0
 have g1:=bd Hp_18.out 1
 have hh:=swap_calls A A2 c c2 rooms stirs (w11.alloc (.cells #[.slice A5 rooms.length c5,.slice A6 stirs.length c6] 32)) w1.heap.size (Nat.le_of_lt (blk_lt Hp_18.out)) HF19.out HCC.out HS19.out HCC2.out 1
 have HH:=am hh
 clear hh
 go_wp2_with fail
 refine HH.out.mono ?_
 rintro e w12 ⟨hb,h⟩
 rw [HOK.out] at h
 dsimp only at h
 rw [show inP 1 1 ((stirs.length : Int) - 1) = true from by rw [HST.out];exact ex_in1,if_pos rfl,show swapR rooms stirs 1 = .ok (exZ 1) from by rw [HRM.out,HST.out];exact ex_swap1] at h
 dsimp only at h
 rw [ex_alike1] at h
 obtain ⟨A5,A6,c5,c6,rfl,_,_,_,_⟩:=h
 have HB20:=am (below_then HB19.out (below_size HB19.out) hb)
 have Hb_18:=am (Kd.C_below Hb_17.out hb)
 have Hs_16:=am (blk_below Hs_15.out hb)
 have Ha_14:=am (blk_below Ha_13.out hb)
 have Hr_12:=am (blk_below Hr_11.out hb)
 have Hq_11:=am (Kd.C_below Hq_10.out hb)
 have Hf_10:=am (blk_below Hf_9.out hb)
 have Ho_9:=am (blk_below Ho_8.out hb)
 have Hl_6:=am (blk_below Hl_5.out hb)
 have Hh_5:=am (blk_below Hh_4.out hb)
 have Hk_3:=am (Kd.C_below Hk_2.out hb)
 clear hb g0 g1 HH
 have HB21:=am (below_alloc HB20.out (.cells #[.slice A5 rooms.length c5,.slice A6 stirs.length c6] 32))
 have Hb_19:=am (Kd.C_alloc Hb_18.out (.cells #[.slice A5 rooms.length c5,.slice A6 stirs.length c6] 32))
 have Hs_17:=am (blk_alloc Hs_16.out (.cells #[.slice A5 rooms.length c5,.slice A6 stirs.length c6] 32))
 have Ha_15:=am (blk_alloc Ha_14.out (.cells #[.slice A5 rooms.length c5,.slice A6 stirs.length c6] 32))
 have Hr_13:=am (blk_alloc Hr_12.out (.cells #[.slice A5 rooms.length c5,.slice A6 stirs.length c6] 32))
 have Hq_12:=am (Kd.C_alloc Hq_11.out (.cells #[.slice A5 rooms.length c5,.slice A6 stirs.length c6] 32))
 have Hf_11:=am (blk_alloc Hf_10.out (.cells #[.slice A5 rooms.length c5,.slice A6 stirs.length c6] 32))
 have Ho_10:=am (blk_alloc Ho_9.out (.cells #[.slice A5 rooms.length c5,.slice A6 stirs.length c6] 32))
 have Hl_7:=am (blk_alloc Hl_6.out (.cells #[.slice A5 rooms.length c5,.slice A6 stirs.length c6] 32))
 have Hh_6:=am (blk_alloc Hh_5.out (.cells #[.slice A5 rooms.length c5,.slice A6 stirs.length c6] 32))
 have Hk_4:=am (Kd.C_alloc Hk_3.out (.cells #[.slice A5 rooms.length c5,.slice A6 stirs.length c6] 32))
 have HB22:=am (below_drew HB21.out)
 have Hb_20:=am (Kd.C_drew Hb_19.out)
 have Hs_18:=am (blk_drew Hs_17.out)
 have Ha_16:=am (blk_drew Ha_15.out)
 have Hr_14:=am (blk_drew Hr_13.out)
 have Hq_13:=am (Kd.C_drew Hq_12.out)
 have Hf_12:=am (blk_drew Hf_11.out)
 have Ho_11:=am (blk_drew Ho_10.out)
 have Hl_8:=am (blk_drew Hl_7.out)
 have Hh_7:=am (blk_drew Hh_6.out)
 have Hk_5:=am (Kd.C_drew Hk_4.out)
 go_wp2
 refine start_ (n:=25) (S:=fun w' => w'.cell? ⟨w3.heap.size,0,none⟩ = some (ii 1) ∧ w'.cell? ⟨w3.heap.size,1,none⟩ = some (ii 6) ∧ w'.cell? ⟨w4.heap.size,0,none⟩ = some (ii 2) ∧ w'.cell? ⟨w4.heap.size,1,none⟩ = some (ii 12) ∧ w'.cell? ⟨w5.heap.size,0,none⟩ = some (ii 1) ∧ w'.cell? ⟨w5.heap.size,1,none⟩ = some (ii 2)) (ds:=[]) (ab 25 0) kr rfl kr ⟨(blk_cell Hs_18.out 0).trans rfl,(blk_cell Hs_18.out 1).trans rfl,(blk_cell Ha_16.out 0).trans rfl,(blk_cell Ha_16.out 1).trans rfl,(blk_cell Hr_14.out 0).trans rfl,(blk_cell Hr_14.out 1).trans rfl⟩ (fun hHeld => ?_);refine with_tabW R27_13.tab R27_13.bits (fun HT_ HW_ => ?_)
 generalize ((w12.alloc (.cells #[.slice A5 rooms.length c5,.slice A6 stirs.length c6] 32))).drew = wd at HB22 Hb_20 Hs_18 Ha_16 Hr_14 Hq_13 Hf_12 Ho_11 Hl_8 Hh_7 Hk_5 hHeld ⊢
 refine qA 0 (some 122) ?_
 refine qE 1 (some 123) fun K hK => ?_
 refine gC Tryz.func52 #[ii 15,ii 2] ?_
 refine (ex_frac _ _ _).mono ?_
 rintro e wd0 ⟨rfl,hb⟩
 have HB23:=am (below_then HB22.out (below_size HB22.out) hb)
 have Hb_21:=am (Kd.C_below Hb_20.out hb)
 have Hs_19:=am (blk_below Hs_18.out hb)
 have Ha_17:=am (blk_below Ha_16.out hb)
 have Hr_15:=am (blk_below Hr_14.out hb)
 have Hq_14:=am (Kd.C_below Hq_13.out hb)
 have Hf_13:=am (blk_below Hf_12.out hb)
 have Ho_12:=am (blk_below Ho_11.out hb)
 have Hl_9:=am (blk_below Hl_8.out hb)
 have Hh_8:=am (blk_below Hh_7.out hb)
 have Hk_6:=am (Kd.C_below Hk_5.out hb)
 clear hb
 refine ⟨_,rfl,?_⟩
 refine hK.out _ _ ⟨(blk_cell Hs_19.out 0).trans rfl,(blk_cell Hs_19.out 1).trans rfl,(blk_cell Ha_17.out 0).trans rfl,(blk_cell Ha_17.out 1).trans rfl,(blk_cell Hr_15.out 0).trans rfl,(blk_cell Hr_15.out 1).trans rfl⟩ (fun hHeld => ?_)
 clear hK K
 refine qN (some 123) ?_
 refine qA 2 (some 124) ?_
 refine qE 3 (some 125) fun K hK => ?_
 refine gC Tryz.func52 #[ii 15,ii 2] ?_
 refine (ex_frac _ _ _).mono ?_
 rintro e wd1 ⟨rfl,hb⟩
 have HB24:=am (below_then HB23.out (below_size HB23.out) hb)
 have Hb_22:=am (Kd.C_below Hb_21.out hb)
 have Hs_20:=am (blk_below Hs_19.out hb)
 have Ha_18:=am (blk_below Ha_17.out hb)
 have Hr_16:=am (blk_below Hr_15.out hb)
 have Hq_15:=am (Kd.C_below Hq_14.out hb)
 have Hf_14:=am (blk_below Hf_13.out hb)
 have Ho_13:=am (blk_below Ho_12.out hb)
 have Hl_10:=am (blk_below Hl_9.out hb)
 have Hh_9:=am (blk_below Hh_8.out hb)
 have Hk_7:=am (Kd.C_below Hk_6.out hb)
 clear hb
 refine ⟨_,rfl,?_⟩
 refine hK.out _ _ ⟨(blk_cell Hs_20.out 0).trans rfl,(blk_cell Hs_20.out 1).trans rfl,(blk_cell Ha_18.out 0).trans rfl,(blk_cell Ha_18.out 1).trans rfl,(blk_cell Hr_16.out 0).trans rfl,(blk_cell Hr_16.out 1).trans rfl⟩ (fun hHeld => ?_)
 clear hK K
 refine qN (some 125) ?_
 refine qA 4 (some 126) ?_
 refine qE 5 (some 127) fun K hK => ?_
 refine gC Tryz.func52 #[ii 3,ii 1] ?_
 refine (ex_frac _ _ _).mono ?_
 rintro e wd2 ⟨rfl,hb⟩
 have HB25:=am (below_then HB24.out (below_size HB24.out) hb)
 have Hb_23:=am (Kd.C_below Hb_22.out hb)
 have Hs_21:=am (blk_below Hs_20.out hb)
 have Ha_19:=am (blk_below Ha_18.out hb)
 have Hr_17:=am (blk_below Hr_16.out hb)
 have Hq_16:=am (Kd.C_below Hq_15.out hb)
 have Hf_15:=am (blk_below Hf_14.out hb)
 have Ho_14:=am (blk_below Ho_13.out hb)
 have Hl_11:=am (blk_below Hl_10.out hb)
 have Hh_10:=am (blk_below Hh_9.out hb)
 have Hk_8:=am (Kd.C_below Hk_7.out hb)
 clear hb
 refine ⟨_,rfl,?_⟩
 refine hK.out _ _ ⟨(blk_cell Hs_21.out 0).trans rfl,(blk_cell Hs_21.out 1).trans rfl,(blk_cell Ha_19.out 0).trans rfl,(blk_cell Ha_19.out 1).trans rfl,(blk_cell Hr_17.out 0).trans rfl,(blk_cell Hr_17.out 1).trans rfl⟩ (fun hHeld => ?_)
 clear hK K
 refine qN (some 127) ?_
 refine qA 6 (some 128) ?_
 refine qE 7 (some 129) fun K hK => ?_
 refine value_ (w1:=?_) (v:=?_) (by rfl) rfl ?_ ?_
 rotate_left 2
 ·go_simp
  constructor
  ·rfl
  ·rfl
 have HB26:=am (below_alloc HB25.out (.cells #[ii 1,ii 15,ii 2,ii 2,ii 15,ii 2,ii 3,ii 3,ii 1] 89))
 have Hb_24:=am (Kd.C_alloc Hb_23.out (.cells #[ii 1,ii 15,ii 2,ii 2,ii 15,ii 2,ii 3,ii 3,ii 1] 89))
 have Hs_22:=am (blk_alloc Hs_21.out (.cells #[ii 1,ii 15,ii 2,ii 2,ii 15,ii 2,ii 3,ii 3,ii 1] 89))
 have Ha_20:=am (blk_alloc Ha_19.out (.cells #[ii 1,ii 15,ii 2,ii 2,ii 15,ii 2,ii 3,ii 3,ii 1] 89))
 have Hr_18:=am (blk_alloc Hr_17.out (.cells #[ii 1,ii 15,ii 2,ii 2,ii 15,ii 2,ii 3,ii 3,ii 1] 89))
 have Hq_17:=am (Kd.C_alloc Hq_16.out (.cells #[ii 1,ii 15,ii 2,ii 2,ii 15,ii 2,ii 3,ii 3,ii 1] 89))
 have Hf_16:=am (blk_alloc Hf_15.out (.cells #[ii 1,ii 15,ii 2,ii 2,ii 15,ii 2,ii 3,ii 3,ii 1] 89))
 have Ho_15:=am (blk_alloc Ho_14.out (.cells #[ii 1,ii 15,ii 2,ii 2,ii 15,ii 2,ii 3,ii 3,ii 1] 89))
 have Hl_12:=am (blk_alloc Hl_11.out (.cells #[ii 1,ii 15,ii 2,ii 2,ii 15,ii 2,ii 3,ii 3,ii 1] 89))
 have Hh_11:=am (blk_alloc Hh_10.out (.cells #[ii 1,ii 15,ii 2,ii 2,ii 15,ii 2,ii 3,ii 3,ii 1] 89))
 have Hk_9:=am (Kd.C_alloc Hk_8.out (.cells #[ii 1,ii 15,ii 2,ii 2,ii 15,ii 2,ii 3,ii 3,ii 1] 89))
 have Hx_:=am ((Kd.R_reads' (row89_3 wd2 ⟨1,⟨15,2⟩⟩ ⟨2,⟨15,2⟩⟩ ⟨3,⟨3,1⟩⟩)).2.2)
 refine hK.out _ _ ⟨(blk_cell Hs_22.out 0).trans rfl,(blk_cell Hs_22.out 1).trans rfl,(blk_cell Ha_20.out 0).trans rfl,(blk_cell Ha_20.out 1).trans rfl,(blk_cell Hr_18.out 0).trans rfl,(blk_cell Hr_18.out 1).trans rfl⟩ (fun hHeld => ?_)
 clear hK K
 refine qN (some 129) ?_
 refine qE 8 (some 130) fun K hK => ?_
 refine gC Tryz.func38 #[.slice A3 pa.length c3,.slice (some ⟨wd2.heap.size,0,none⟩) 3 3] ?_
 refine (calxref04_SameParts.calls 100 A3 c3 pa (some ⟨wd2.heap.size,0,none⟩) 3 [(⟨1,⟨15,2⟩⟩ : S89),⟨2,⟨15,2⟩⟩,⟨3,⟨3,1⟩⟩] true _ Hb_24.out HL3.out Hx_.out (by decide) (by rw [HPA.out];kernel_rfl)).mono ?_
 rintro e w' ⟨rfl,m,rfl⟩
 have HB27:=am (pw_below_drewN HB26.out m)
 have Hs_23:=am (blk_drewN Hs_22.out m)
 have Ha_21:=am (blk_drewN Ha_20.out m)
 have Hr_19:=am (blk_drewN Hr_18.out m)
 have Hq_18:=am (Kd.C_drewN Hq_17.out m)
 have Hf_17:=am (blk_drewN Hf_16.out m)
 have Ho_16:=am (blk_drewN Ho_15.out m)
 have Hl_13:=am (blk_drewN Hl_12.out m)
 have Hh_12:=am (blk_drewN Hh_11.out m)
 have Hk_10:=am (Kd.C_drewN Hk_9.out m)
 refine ⟨_,rfl,?_⟩
 refine hK.out _ _ ⟨(blk_cell Hs_23.out 0).trans rfl,(blk_cell Hs_23.out 1).trans rfl,(blk_cell Ha_21.out 0).trans rfl,(blk_cell Ha_21.out 1).trans rfl,(blk_cell Hr_19.out 0).trans rfl,(blk_cell Hr_19.out 1).trans rfl⟩ (fun hHeld => ?_)
 clear hK K
 refine qN (some 130) ?_
 refine qA 9 (some 131) ?_;refine qT 10 (some 132) ?_
 refine qE 11 (some 133) fun K hK => ?_
 refine gC Tryz.func52 #[ii 1,ii 6] ?_
 refine (ex_frac _ _ _).mono ?_
 rintro e wd5 ⟨rfl,hb⟩
 have HB28:=am (below_then HB27.out (below_size HB27.out) hb)
 have Hs_24:=am (blk_below Hs_23.out hb)
 have Ha_22:=am (blk_below Ha_21.out hb)
 have Hr_20:=am (blk_below Hr_19.out hb)
 have Hq_19:=am (Kd.C_below Hq_18.out hb)
 have Hf_18:=am (blk_below Hf_17.out hb)
 have Ho_17:=am (blk_below Ho_16.out hb)
 have Hl_14:=am (blk_below Hl_13.out hb)
 have Hh_13:=am (blk_below Hh_12.out hb)
 have Hk_11:=am (Kd.C_below Hk_10.out hb)
 clear hb
 refine ⟨_,rfl,?_⟩
 refine hK.out _ _ ⟨(blk_cell Hs_24.out 0).trans rfl,(blk_cell Hs_24.out 1).trans rfl,(blk_cell Ha_22.out 0).trans rfl,(blk_cell Ha_22.out 1).trans rfl,(blk_cell Hr_20.out 0).trans rfl,(blk_cell Hr_20.out 1).trans rfl⟩ (fun hHeld => ?_)
 clear hK K
 refine qN (some 133) ?_
 refine qA 12 (some 134) ?_;refine qA 13 (some 135) ?_;refine qA 14 (some 136) ?_;refine qT 15 (some 137) ?_;refine qA 16 (some 138) ?_;refine qA 17 (some 139) ?_;refine qA 18 (some 140) ?_;refine qA 19 (some 141) ?_;refine qT 20 (some 142) ?_
 refine qE 21 (some 143) fun K hK => ?_
 refine gC Tryz.func52 #[ii 1,ii 2] ?_
 refine (ex_frac _ _ _).mono ?_
 rintro e wd6 ⟨rfl,hb⟩
 have HB29:=am (below_then HB28.out (below_size HB28.out) hb)
 have Hs_25:=am (blk_below Hs_24.out hb)
 have Ha_23:=am (blk_below Ha_22.out hb)
 have Hr_21:=am (blk_below Hr_20.out hb)
 have Hq_20:=am (Kd.C_below Hq_19.out hb)
 have Hf_19:=am (blk_below Hf_18.out hb)
 have Ho_18:=am (blk_below Ho_17.out hb)
 have Hl_15:=am (blk_below Hl_14.out hb)
 have Hh_14:=am (blk_below Hh_13.out hb)
 have Hk_12:=am (Kd.C_below Hk_11.out hb)
 clear hb
 refine ⟨_,rfl,?_⟩
 refine hK.out _ _ ⟨(blk_cell Hs_25.out 0).trans rfl,(blk_cell Hs_25.out 1).trans rfl,(blk_cell Ha_23.out 0).trans rfl,(blk_cell Ha_23.out 1).trans rfl,(blk_cell Hr_21.out 0).trans rfl,(blk_cell Hr_21.out 1).trans rfl⟩ (fun hHeld => ?_)
 clear hK K
 refine qN (some 143) ?_
 refine qA 22 (some 144) ?_;refine qA 23 (some 145) ?_;refine qA 24 (some 25) ?_
 refine done_ (done_of HT_.out kr) ?_
 have HB30:=am (below_drew HB29.out)
 have Hq_21:=am (Kd.C_drew Hq_20.out)
 have Hf_20:=am (blk_drew Hf_19.out)
 have Ho_19:=am (blk_drew Ho_18.out)
 have Hl_16:=am (blk_drew Hl_15.out)
 have Hh_15:=am (blk_drew Hh_14.out)
 have Hk_13:=am (Kd.C_drew Hk_12.out)
 go_wp2
 refine start_ (n:=28) (S:=fun w' => w'.cell? ⟨w6.heap.size,0,none⟩ = some (ii 15) ∧ w'.cell? ⟨w6.heap.size,1,none⟩ = some (ii 2) ∧ w'.cell? ⟨w6.heap.size + 1,0,none⟩ = some (ii 0) ∧ w'.cell? ⟨w6.heap.size + 1,1,none⟩ = some (ii 1) ∧ w'.cell? ⟨w8.heap.size,0,none⟩ = some (ii 25) ∧ w'.cell? ⟨w8.heap.size,1,none⟩ = some (ii 1) ∧ w'.cell? ⟨w8.heap.size + 1,0,none⟩ = some (ii 700) ∧ w'.cell? ⟨w8.heap.size + 1,1,none⟩ = some (ii 3)) (ds:=[]) (ab 28 0) kr rfl kr ⟨(blk_cell Hf_20.out 0).trans rfl,(blk_cell Hf_20.out 1).trans rfl,(blk_cell Ho_19.out 0).trans rfl,(blk_cell Ho_19.out 1).trans rfl,(blk_cell Hl_16.out 0).trans rfl,(blk_cell Hl_16.out 1).trans rfl,(blk_cell Hh_15.out 0).trans rfl,(blk_cell Hh_15.out 1).trans rfl⟩ (fun hHeld => ?_);refine with_tabW R27_14.tab R27_14.bits (fun HT_ HW_ => ?_)
 generalize (wd6).drew = we at HB30 Hq_21 Hf_20 Ho_19 Hl_16 Hh_15 Hk_13 hHeld ⊢
 refine qA 0 (some 146) ?_
 refine qE 1 (some 147) fun K hK => ?_
 refine gC Tryz.func52 #[ii 5,ii 1] ?_
 refine (ex_frac _ _ _).mono ?_
 rintro e we0 ⟨rfl,hb⟩
 have HB31:=am (below_then HB30.out (below_size HB30.out) hb)
 have Hq_22:=am (Kd.C_below Hq_21.out hb)
 have Hf_21:=am (blk_below Hf_20.out hb)
 have Ho_20:=am (blk_below Ho_19.out hb)
 have Hl_17:=am (blk_below Hl_16.out hb)
 have Hh_16:=am (blk_below Hh_15.out hb)
 have Hk_14:=am (Kd.C_below Hk_13.out hb)
 clear hb
 refine ⟨_,rfl,?_⟩
 refine hK.out _ _ ⟨(blk_cell Hf_21.out 0).trans rfl,(blk_cell Hf_21.out 1).trans rfl,(blk_cell Ho_20.out 0).trans rfl,(blk_cell Ho_20.out 1).trans rfl,(blk_cell Hl_17.out 0).trans rfl,(blk_cell Hl_17.out 1).trans rfl,(blk_cell Hh_16.out 0).trans rfl,(blk_cell Hh_16.out 1).trans rfl⟩ (fun hHeld => ?_)
 clear hK K
 refine qN (some 147) ?_
 refine qA 2 (some 148) ?_
 refine qE 3 (some 149) fun K hK => ?_
 refine gC Tryz.func52 #[ii 15,ii 2] ?_
 refine (ex_frac _ _ _).mono ?_
 rintro e we1 ⟨rfl,hb⟩
 have HB32:=am (below_then HB31.out (below_size HB31.out) hb)
 have Hq_23:=am (Kd.C_below Hq_22.out hb)
 have Hf_22:=am (blk_below Hf_21.out hb)
 have Ho_21:=am (blk_below Ho_20.out hb)
 have Hl_18:=am (blk_below Hl_17.out hb)
 have Hh_17:=am (blk_below Hh_16.out hb)
 have Hk_15:=am (Kd.C_below Hk_14.out hb)
 clear hb
 refine ⟨_,rfl,?_⟩
 refine hK.out _ _ ⟨(blk_cell Hf_22.out 0).trans rfl,(blk_cell Hf_22.out 1).trans rfl,(blk_cell Ho_21.out 0).trans rfl,(blk_cell Ho_21.out 1).trans rfl,(blk_cell Hl_18.out 0).trans rfl,(blk_cell Hl_18.out 1).trans rfl,(blk_cell Hh_17.out 0).trans rfl,(blk_cell Hh_17.out 1).trans rfl⟩ (fun hHeld => ?_)
 clear hK K
 refine qN (some 149) ?_
 refine qA 4 (some 150) ?_
 refine qE 5 (some 151) fun K hK => ?_
 refine value_ (w1:=?_) (v:=?_) (by rfl) rfl ?_ ?_
 rotate_left 2
 ·go_simp
  constructor
  ·rfl
  ·rfl
 have HB33:=am (below_alloc HB32.out (.cells #[ii 12,ii 5,ii 1,ii 13,ii 15,ii 2] 89))
 have Hq_24:=am (Kd.C_alloc Hq_23.out (.cells #[ii 12,ii 5,ii 1,ii 13,ii 15,ii 2] 89))
 have Hf_23:=am (blk_alloc Hf_22.out (.cells #[ii 12,ii 5,ii 1,ii 13,ii 15,ii 2] 89))
 have Ho_22:=am (blk_alloc Ho_21.out (.cells #[ii 12,ii 5,ii 1,ii 13,ii 15,ii 2] 89))
 have Hl_19:=am (blk_alloc Hl_18.out (.cells #[ii 12,ii 5,ii 1,ii 13,ii 15,ii 2] 89))
 have Hh_18:=am (blk_alloc Hh_17.out (.cells #[ii 12,ii 5,ii 1,ii 13,ii 15,ii 2] 89))
 have Hk_16:=am (Kd.C_alloc Hk_15.out (.cells #[ii 12,ii 5,ii 1,ii 13,ii 15,ii 2] 89))
 have Hx_:=am ((Kd.R_reads' (row89_2 we1 ⟨12,⟨5,1⟩⟩ ⟨13,⟨15,2⟩⟩)).2.2)
 refine hK.out _ _ ⟨(blk_cell Hf_23.out 0).trans rfl,(blk_cell Hf_23.out 1).trans rfl,(blk_cell Ho_22.out 0).trans rfl,(blk_cell Ho_22.out 1).trans rfl,(blk_cell Hl_19.out 0).trans rfl,(blk_cell Hl_19.out 1).trans rfl,(blk_cell Hh_18.out 0).trans rfl,(blk_cell Hh_18.out 1).trans rfl⟩ (fun hHeld => ?_)
 clear hK K
 refine qN (some 151) ?_
 refine qE 6 (some 152) fun K hK => ?_
 refine gC Tryz.func38 #[.slice A7 pl.length c7,.slice (some ⟨we1.heap.size,0,none⟩) 2 2] ?_
 refine (calxref04_SameParts.calls 100 A7 c7 pl (some ⟨we1.heap.size,0,none⟩) 2 [(⟨12,⟨5,1⟩⟩ : S89),⟨13,⟨15,2⟩⟩] true _ Hq_24.out HL7.out Hx_.out (by decide) (by rw [HPL.out];kernel_rfl)).mono ?_
 rintro e w' ⟨rfl,m,rfl⟩
 have HB34:=am (pw_below_drewN HB33.out m)
 have Hf_24:=am (blk_drewN Hf_23.out m)
 have Ho_23:=am (blk_drewN Ho_22.out m)
 have Hl_20:=am (blk_drewN Hl_19.out m)
 have Hh_19:=am (blk_drewN Hh_18.out m)
 have Hk_17:=am (Kd.C_drewN Hk_16.out m)
 refine ⟨_,rfl,?_⟩
 refine hK.out _ _ ⟨(blk_cell Hf_24.out 0).trans rfl,(blk_cell Hf_24.out 1).trans rfl,(blk_cell Ho_23.out 0).trans rfl,(blk_cell Ho_23.out 1).trans rfl,(blk_cell Hl_20.out 0).trans rfl,(blk_cell Hl_20.out 1).trans rfl,(blk_cell Hh_19.out 0).trans rfl,(blk_cell Hh_19.out 1).trans rfl⟩ (fun hHeld => ?_)
 clear hK K
 refine qN (some 152) ?_
 refine qA 7 (some 153) ?_;refine qT 8 (some 154) ?_
 refine qE 9 (some 155) fun K hK => ?_
 refine gC Tryz.func52 #[ii 15,ii 2] ?_
 refine (ex_frac _ _ _).mono ?_
 rintro e we4 ⟨rfl,hb⟩
 have HB35:=am (below_then HB34.out (below_size HB34.out) hb)
 have Hf_25:=am (blk_below Hf_24.out hb)
 have Ho_24:=am (blk_below Ho_23.out hb)
 have Hl_21:=am (blk_below Hl_20.out hb)
 have Hh_20:=am (blk_below Hh_19.out hb)
 have Hk_18:=am (Kd.C_below Hk_17.out hb)
 clear hb
 refine ⟨_,rfl,?_⟩
 refine hK.out _ _ ⟨(blk_cell Hf_25.out 0).trans rfl,(blk_cell Hf_25.out 1).trans rfl,(blk_cell Ho_24.out 0).trans rfl,(blk_cell Ho_24.out 1).trans rfl,(blk_cell Hl_21.out 0).trans rfl,(blk_cell Hl_21.out 1).trans rfl,(blk_cell Hh_20.out 0).trans rfl,(blk_cell Hh_20.out 1).trans rfl⟩ (fun hHeld => ?_)
 clear hK K
 refine qN (some 155) ?_
 refine qA 10 (some 156) ?_;refine qA 11 (some 157) ?_;refine qA 12 (some 158) ?_;refine qT 13 (some 159) ?_
 refine qE 14 (some 160) fun K hK => ?_
 refine gC Tryz.func52 #[ii 0,ii 1] ?_
 refine (ex_frac _ _ _).mono ?_
 rintro e we5 ⟨rfl,hb⟩
 have HB36:=am (below_then HB35.out (below_size HB35.out) hb)
 have Hf_26:=am (blk_below Hf_25.out hb)
 have Ho_25:=am (blk_below Ho_24.out hb)
 have Hl_22:=am (blk_below Hl_21.out hb)
 have Hh_21:=am (blk_below Hh_20.out hb)
 have Hk_19:=am (Kd.C_below Hk_18.out hb)
 clear hb
 refine ⟨_,rfl,?_⟩
 refine hK.out _ _ ⟨(blk_cell Hf_26.out 0).trans rfl,(blk_cell Hf_26.out 1).trans rfl,(blk_cell Ho_25.out 0).trans rfl,(blk_cell Ho_25.out 1).trans rfl,(blk_cell Hl_22.out 0).trans rfl,(blk_cell Hl_22.out 1).trans rfl,(blk_cell Hh_21.out 0).trans rfl,(blk_cell Hh_21.out 1).trans rfl⟩ (fun hHeld => ?_)
 clear hK K
 refine qN (some 160) ?_
 refine qA 15 (some 161) ?_;refine qA 16 (some 162) ?_;refine qA 17 (some 163) ?_;refine qT 18 (some 164) ?_
 refine qE 19 (some 165) fun K hK => ?_
 refine gC Tryz.func52 #[ii 25,ii 1] ?_
 refine (ex_frac _ _ _).mono ?_
 rintro e we6 ⟨rfl,hb⟩
 have HB37:=am (below_then HB36.out (below_size HB36.out) hb)
 have Hf_27:=am (blk_below Hf_26.out hb)
 have Ho_26:=am (blk_below Ho_25.out hb)
 have Hl_23:=am (blk_below Hl_22.out hb)
 have Hh_22:=am (blk_below Hh_21.out hb)
 have Hk_20:=am (Kd.C_below Hk_19.out hb)
 clear hb
 refine ⟨_,rfl,?_⟩
 refine hK.out _ _ ⟨(blk_cell Hf_27.out 0).trans rfl,(blk_cell Hf_27.out 1).trans rfl,(blk_cell Ho_26.out 0).trans rfl,(blk_cell Ho_26.out 1).trans rfl,(blk_cell Hl_23.out 0).trans rfl,(blk_cell Hl_23.out 1).trans rfl,(blk_cell Hh_22.out 0).trans rfl,(blk_cell Hh_22.out 1).trans rfl⟩ (fun hHeld => ?_)
 clear hK K
 refine qN (some 165) ?_
 refine qA 20 (some 166) ?_;refine qA 21 (some 167) ?_;refine qA 22 (some 168) ?_;refine qT 23 (some 169) ?_
 refine qE 24 (some 170) fun K hK => ?_
 refine gC Tryz.func52 #[ii 700,ii 3] ?_
 refine (ex_frac _ _ _).mono ?_
 rintro e we7 ⟨rfl,hb⟩
 have HB38:=am (below_then HB37.out (below_size HB37.out) hb)
 have Hf_28:=am (blk_below Hf_27.out hb)
 have Ho_27:=am (blk_below Ho_26.out hb)
 have Hl_24:=am (blk_below Hl_23.out hb)
 have Hh_23:=am (blk_below Hh_22.out hb)
 have Hk_21:=am (Kd.C_below Hk_20.out hb)
 clear hb
 refine ⟨_,rfl,?_⟩
 refine hK.out _ _ ⟨(blk_cell Hf_28.out 0).trans rfl,(blk_cell Hf_28.out 1).trans rfl,(blk_cell Ho_27.out 0).trans rfl,(blk_cell Ho_27.out 1).trans rfl,(blk_cell Hl_24.out 0).trans rfl,(blk_cell Hl_24.out 1).trans rfl,(blk_cell Hh_23.out 0).trans rfl,(blk_cell Hh_23.out 1).trans rfl⟩ (fun hHeld => ?_)
 clear hK K
 refine qN (some 170) ?_
 refine qA 25 (some 171) ?_;refine qA 26 (some 172) ?_;refine qA 27 (some 26) ?_
 refine done_ (done_of HT_.out kr) ?_
 go_wp2_with fail
 refine (ex_frac _ _ _).mono ?_
 rintro e wf0 ⟨rfl,hb⟩
 have HB39:=am (below_then HB38.out (below_size HB38.out) hb)
 have Hk_22:=am (Kd.C_below Hk_21.out hb)
 clear hb
 go_wp2_with fail
 refine (ex_frac _ _ _).mono ?_
 rintro e wf1 ⟨rfl,hb⟩
 have HB40:=am (below_then HB39.out (below_size HB39.out) hb)
 have Hk_23:=am (Kd.C_below Hk_22.out hb)
 clear hb
 go_wp2_with fail
 refine (ex_frac _ _ _).mono ?_
 rintro e wf2 ⟨rfl,hb⟩
 have HB41:=am (below_then HB40.out (below_size HB40.out) hb)
 have Hk_24:=am (Kd.C_below Hk_23.out hb)
 clear hb
 go_wp2_with fail
 refine (ex_frac _ _ _).mono ?_
 rintro e wf3 ⟨rfl,hb⟩
 have HB42:=am (below_then HB41.out (below_size HB41.out) hb)
 have Hk_25:=am (Kd.C_below Hk_24.out hb)
 clear hb
 have HB43:=am (below_alloc HB42.out (.cells #[ii 1,ii 200,ii 1,ii 216,ii 1,ii 2,ii 200,ii 1,ii 216,ii 1] 139))
 have Hk_26:=am (Kd.C_alloc Hk_25.out (.cells #[ii 1,ii 200,ii 1,ii 216,ii 1,ii 2,ii 200,ii 1,ii 216,ii 1] 139))
 have HXK:=am (Kd.R_reads' (row139_2 wf3 ⟨1,⟨200,1⟩,⟨216,1⟩⟩ ⟨2,⟨200,1⟩,⟨216,1⟩⟩)).2.2
 go_wp2_with fail
 refine (calxref04_SameBlames.calls 100 A9 c9 pk (some ⟨wf3.heap.size,0,none⟩) 2 [(⟨1,⟨200,1⟩,⟨216,1⟩⟩ : S139),⟨2,⟨200,1⟩,⟨216,1⟩⟩] true _ Hk_26.out HL9.out HXK.out (by decide) (by rw [HPK.out];kernel_rfl)).mono ?_
 rintro e w' ⟨rfl,m,rfl⟩
 have HB44:=am (pw_below_drewN HB43.out m)
 go_wp2
 go_ret
 exact ⟨rfl,HB44.out⟩
end
end Go.Proofs.YtjjfpmapjjemcaaGreat.B
end
