import Derived.Test.YtjjfpmapjjemcaaGreatQ17
import Derived.Test.YtjjfpmapjjemcaaGreatQ35
import Derived.Test.YtjjfpmapjjemcaaGreatQ37
import Derived.Test.YtjjfpmapjjemcaaGreatQ44
import Derived.Test.YtjjfpmapjjemcaaGreatQ45
import Derived.Test.YtjjfpmapjjemcaaGreatQ46
import Derived.Test.YtjjfpmapjjemcaaGreatQ7
set_option linter.unusedVariables false
set_option linter.unusedSimpArgs false
section
namespace Go.Proofs.YtjjfpmapjjemcaaGreat.B
open Go.RowKit Go.Proofs.YtjjfpmapjjemcaaGreatW.PrintWords Go.Proofs.YtjjfpmapjjemcaaGreatW.PrintLast Go.Proofs.YtjjfpmapjjemcaaGreatW.PrintMore
attribute [local go_sem] max2_int min2_int max_two min_two max_three min_three max_four min_four
section
def R11_24.T : Bool × List (List Nat × List Nat):=(true,[([],[]),([0],[0]),([],[]),([],[]),([2,3],[2,3]),([4],[4]),([5],[5]),([],[]),([7],[7]),([],[]),([9],[9]),([8,10],[8,10]),([11],[11]),([6,12],[6,12]),([1,13],[1,13]),([14,0,1,2,3,4,5,6,7,8,9,10,11,12,13,14],[14])])
def R11_24.B : List Nat:=[0,1,0,0,12,28,60,0,128,0,512,1920,3968,8188,16383,32767]
theorem R11_24.tab : rtab .any (opsOf Tryz.f11 24) = R11_24.T:=by kernel_rfl
theorem R11_24.bits : waitsOk R11_24.T.2 R11_24.B = true:=by kernel_rfl
def R11_34.T : Bool × List (List Nat × List Nat):=(true,[([],[]),([],[]),([],[]),([2],[2]),([3],[3]),([0,1,4],[0,1,4]),([5],[5]),([6],[6]),([6],[6]),([6],[6]),([],[]),([],[]),([10,7,5,0,1,2,3,4,5,6,7,10,11],[7,10]),([11,8,12,0,1,2,3,4,5,6,7,8,10,11,12],[8,11]),([9,13,0,1,2,3,4,5,6,7,8,9,10,11,12,13],[9])])
def R11_34.B : List Nat:=[0,0,0,4,12,31,63,127,127,127,0,0,3327,7679,16383]
theorem R11_34.tab : rtab .any (opsOf Tryz.f11 34) = R11_34.T:=by kernel_rfl
theorem R11_34.bits : waitsOk R11_34.T.2 R11_34.B = true:=by kernel_rfl
attribute [local go_sem high] eqA43
def calxlaw04_PitWorth.f (_ : Nat) (_ : List Int) (_ : List S84) (a1 : Int) (_ : List S113) (ss : List Int) : Option Bool:=if 0 ≤ a1 ∧ a1 ≤ 255 ∧ ∀ x ∈ ss,0 ≤ x ∧ x ≤ 65535 then some true else none
def Apart (v u : Value) : Prop:=∀ k,v.ownBlock = some k → u.ownBlock ≠ some k
def Rows3 (w : World) (ga : Nat) (va vb vc : Value) (xa xb xc : List S113) : Prop:=k113.R 113 w (ga + 1) (fun _ => True) va xa ∧ k113.R 113 w (ga + 1) (fun _ => True) vb xb ∧ k113.R 113 w (ga + 1) (fun _ => True) vc xc ∧ Apart va vb ∧ Apart va vc ∧ Apart vb vc
theorem Rows3.start (w : World) (ga : Nat) : Rows3 w ga (.slice none 0 0) (.slice none 0 0) (.slice none 0 0) [] [] []:=by
 have h : Apart (.slice none 0 0) (.slice none 0 0):=fun k hk => by simp [Value.ownBlock] at hk
 exact ⟨Kd.R_nil _ _ _ _ _,Kd.R_nil _ _ _ _ _,Kd.R_nil _ _ _ _ _,h,h,h⟩
theorem Rows3.below {w w' : World} {ga : Nat} {va vb vc : Value} {xa xb xc : List S113} (h : Rows3 w ga va vb vc xa xb xc) (hb : Below w.heap.size w w') : Rows3 w' ga va vb vc xa xb xc :=
 ⟨Kd.R_below h.1 hb,Kd.R_below h.2.1 hb,Kd.R_below h.2.2.1 hb,h.2.2.2⟩
theorem info113_ : (Tryz.prog.info? 113).map (fun i => (i.zero,i.size,i.bytes)) = some (some (.agg #[ii 0,ii 0,ii 0]),3,24):=by kernel_rfl
theorem Apart.symm {v u : Value} (h : Apart v u) : Apart u v:=fun k h1 h2 => h k h2 h1
theorem Rows3.p1 {w : World} {ga : Nat} {va vb vc : Value} {xa xb xc : List S113} (h : Rows3 w ga va vb vc xa xb xc) : Rows3 w ga vb va vc xb xa xc:=⟨h.2.1,h.1,h.2.2.1,h.2.2.2.1.symm,h.2.2.2.2.2,h.2.2.2.2.1⟩
theorem Rows3.p2 {w : World} {ga : Nat} {va vb vc : Value} {xa xb xc : List S113} (h : Rows3 w ga va vb vc xa xb xc) : Rows3 w ga vc vb va xc xb xa:=⟨h.2.2.1,h.2.1,h.1,h.2.2.2.2.2.symm,h.2.2.2.2.1.symm,h.2.2.2.1.symm⟩
theorem apart_new {w : World} {ga : Nat} {va vb v1 : Value} {xb : List S113} (h : Apart va vb) (hb : k113.R 113 w (ga + 1) (fun _ => True) vb xb) (hat : v1.ownBlock = va.ownBlock ∨ ∃ b,v1.ownBlock = some b ∧ w.heap.size ≤ b) : Apart v1 vb:=by
 intro k h1 h2
 rcases hat with e|⟨b,e,hle⟩
 ·exact h k (e ▸ h1) h2
 ·rw [e] at h1
  injection h1 with h1
  have:=((Kd.R_bound hb).1 k h2).2.2.1
  omega
theorem Rows3.app {w w1 : World} {ga : Nat} {va vb vc v1 : Value} {xa xb xc : List S113} {x : S113} (h : Rows3 w ga va vb vc xa xb xc) (hr : k113.R 113 w1 (ga + 1) (fun _ => True) v1 (xa ++ [x])) (hg : w.grownBy w1 va.ownBlock) (hat : v1.ownBlock = va.ownBlock ∨ ∃ b,v1.ownBlock = some b ∧ w.heap.size ≤ b) : Rows3 w1 ga v1 vb vc (xa ++ [x]) xb xc :=
 ⟨hr,Kd.R_grown2 h.2.1 rfl hg fun k e c => h.2.2.2.1 k e c.symm,Kd.R_grown2 h.2.2.1 rfl hg fun k e c => h.2.2.2.2.1 k e c.symm,apart_new h.2.2.2.1 h.2.1 hat,apart_new h.2.2.2.2.1 h.2.2.1 hat,h.2.2.2.2.2⟩
theorem row_put {w : World} {ga : Nat} {v : Value} {x : List S113} (h : k113.R 113 w (ga + 1) (fun _ => True) v x) (k : Nat) (u : Value) : k113.R 113 (w.setCell ⟨ga,k,none⟩ u) (ga + 1) (fun _ => True) v x :=
 Kd.R_mono (Kd.R_far (Kd.R_bound h) (p:=⟨ga,k,none⟩) (fun j hj => by have:=hj.2.1;show j ≠ ga;omega) u) fun _ _ => trivial
theorem Rows3.put {w : World} {ga : Nat} {va vb vc : Value} {xa xb xc : List S113} (h : Rows3 w ga va vb vc xa xb xc) (k : Nat) (u : Value) : Rows3 (w.setCell ⟨ga,k,none⟩ u) ga va vb vc xa xb xc:=⟨row_put h.1 k u,row_put h.2.1 k u,row_put h.2.2.1 k u,h.2.2.2⟩
theorem Rows3.ne {w : World} {ga : Nat} {va vb vc : Value} {xa xb xc : List S113} (h : Rows3 w ga va vb vc xa xb xc) : some ga ≠ va.ownBlock:=fun e => by have:=Kd.R_base h.1 ga e.symm;omega
def St3 (w : World) (ga : Nat) (va vb vc : Value) (xa xb xc : List S113) (ea eb ec : S113) (r : Int) : Prop:=(r = 0 ∧ Rows3 w ga va vb vc xa xb xc) ∨ (r = 1 ∧ Rows3 w ga va vb vc (xa ++ [ea]) xb xc) ∨ (r = 2 ∧ Rows3 w ga va vb vc (xa ++ [ea]) (xb ++ [eb]) xc) ∨ (r = 3 ∧ Rows3 w ga va vb vc (xa ++ [ea]) (xb ++ [eb]) (xc ++ [ec]))
set_option maxRecDepth 100000 in
set_option maxHeartbeats 2000000 in
theorem calxlaw04_PitWorth.calls (k : Nat) (A : Option Addr) (c : Nat) (rooms : List Int) (A2 : Option Addr) (c2 : Nat) (stirs : List S84) (a1 : Int) (B : Option Addr) (cb : Nat) (l : List S113) (D : Option Addr) (cd : Nat) (ss : List Int) (r : Bool) (W : World) (hC : Kd.C (Kd.int .i64) W A rooms.length rooms) (hc : rooms.length ≤ c) (hS : Kd.C k84 W A2 stirs.length stirs) (hc2 : stirs.length ≤ c2) (hL : Kd.C k113 W B l.length l) (hlb : l.length ≤ cb) (hD : Kd.C (Kd.int .u16) W D ss.length ss) (hld : ss.length ≤ cd) (h : calxlaw04_PitWorth.f k rooms stirs a1 l ss = some r) (hr : Aside0 (r = true)) :
  Calls Tryz.prog 11 #[.agg #[.slice A rooms.length c,.slice A2 stirs.length c2],.int .u8 a1,.slice B l.length cb,.slice D ss.length cd] W fun e w' => e = .returned (.bool r) ∧ Below W.heap.size W w':=by
 unfold calxlaw04_PitWorth.f at h
 have hrng : 0 ≤ a1 ∧ a1 ≤ 255 ∧ ∀ x ∈ ss,0 ≤ x ∧ x ≤ 65535:=by
  refine Classical.byContradiction fun c => ?_
  rw [if_neg c] at h
  cases h
 rw [if_pos hrng] at h
 obtain rfl:=Option.some.inj h
 clear h hr
 have HRG:=am hrng
 clear hrng
 have hu:=Tryz.underlying32
 have hu84:=Tryz.underlying84
 have hu43:=Tryz.underlying43
 have hu66:=Tryz.underlying66
 have hu113:=Tryz.underlying113
 have HC:=am (C_lo hC)
 have HS:=am (hS)
 have HL:=am (hL)
 have HD:=am (hD)
 have HB:=am (Below.refl W.heap.size W)
 have HC1:=am (Kd.F_alloc HC.out (.cells #[.slice A rooms.length c,.slice A2 stirs.length c2] 32))
 have HS1:=am (Kd.C_alloc HS.out (.cells #[.slice A rooms.length c,.slice A2 stirs.length c2] 32))
 have HL1:=am (Kd.C_alloc HL.out (.cells #[.slice A rooms.length c,.slice A2 stirs.length c2] 32))
 have HD1:=am (Kd.C_alloc HD.out (.cells #[.slice A rooms.length c,.slice A2 stirs.length c2] 32))
 have HB1:=am (below_alloc HB.out (.cells #[.slice A rooms.length c,.slice A2 stirs.length c2] 32))
 have HX:=am (blk_new W (.cells #[.slice A rooms.length c,.slice A2 stirs.length c2] 32))
 clear hC hS hL hD
 obtain ⟨t,ht⟩ : ∃ t,calxlaw04_few.f rooms stirs = some t:=by unfold calxlaw04_few.f;split;(· split;exact ⟨_,rfl⟩;split <;> exact ⟨_,rfl⟩);exact ⟨_,rfl⟩
 have HT:=am ht
 clear ht
 go_enter Tryz.func11,Tryz.ntmps11
 go_wp2_with fail
 refine (calxlaw04_few.calls A c rooms A2 c2 stirs t _ (Kd.F_now HC1.out) hc HS1.out hc2 HT.out).mono ?_
 rintro e w1 ⟨rfl,hb⟩
 have HC2:=am (Kd.F_below HC1.out hb)
 have HS2:=am (Kd.C_below HS1.out hb)
 have HL2:=am (Kd.C_below HL1.out hb)
 have HD2:=am (Kd.C_below HD1.out hb)
 have HB2:=am (below_then HB1.out (below_size HB1.out) hb)
 have HX1:=am (blk_below HX.out hb)
 clear hb
 cases t with
|false =>
  go_wp2_with fail
  refine (calxlaw04_sanity.calls true _ rfl).mono ?_
  rintro e wz ⟨rfl,hb⟩
  have HBZ:=am (below_then HB2.out (below_size HB2.out) hb)
  clear hb
  go_wp2
  go_ret
  exact ⟨rfl,HBZ.out⟩
|true =>
  by_cases h20 : (l.length : Int) > 20
  ·
   go_wp2_with fail
   refine (calxlaw04_sanity.calls true _ rfl).mono ?_
   rintro e wz ⟨rfl,hb⟩
   have HBZ:=am (below_then HB2.out (below_size HB2.out) hb)
   clear hb
   go_wp2
   go_ret
   exact ⟨rfl,HBZ.out⟩
  ·
   have H20:=am h20
   have g0:=bd HX1.out 0
   have g1:=bd HX1.out 1
   obtain ⟨⟨q1,q2⟩,hq⟩ : ∃ q : List Int × Int,pit_Barrows.f rooms stirs = some (q.1,q.2):=⟨_,rfl⟩
   have HQB:=am hq
   clear hq
   go_wp2_with fail
   refine (pit_Barrows.calls A c rooms A2 c2 stirs q1 q2 _ (Kd.F_now HC2.out) hc HS2.out hc2 HQB.out).mono ?_
   rintro e w2 ⟨v9,rfl,hV,hb⟩
   obtain ⟨A9,c9,rfl⟩:=Kd.V_slice hV
   have HC3:=am (Kd.F_below HC2.out hb)
   have HS3:=am (Kd.C_below HS2.out hb)
   have HL3:=am (Kd.C_below HL2.out hb)
   have HD3:=am (Kd.C_below HD2.out hb)
   have HB3:=am (below_then HB2.out (below_size HB2.out) hb)
   have HX2:=am (blk_below HX1.out hb)
   have H9:=am ((Kd.V_reads' hV).2.2)
   clear hb hV g0 g1
   have g0:=bd HX2.out 0
   have g1:=bd HX2.out 1
   obtain ⟨⟨p1,p2⟩,hp⟩ : ∃ q : List Int × Int,pit_Pours.f rooms stirs = some (q.1,q.2):=⟨_,rfl⟩
   have HPB:=am hp
   clear hp
   go_wp2_with fail
   refine (pit_Pours.calls A c rooms A2 c2 stirs p1 p2 _ (Kd.F_now HC3.out) hc HS3.out hc2 HPB.out).mono ?_
   rintro e w3 ⟨v11,rfl,hV,hb⟩
   obtain ⟨A11,c11,rfl⟩:=Kd.V_slice hV
   have HC4:=am (Kd.F_below HC3.out hb)
   have HS4:=am (Kd.C_below HS3.out hb)
   have HL4:=am (Kd.C_below HL3.out hb)
   have HD4:=am (Kd.C_below HD3.out hb)
   have HB4:=am (below_then HB3.out (below_size HB3.out) hb)
   have HX3:=am (blk_below HX2.out hb)
   have H91:=am (Kd.C_below H9.out hb)
   have H11:=am ((Kd.V_reads' hV).2.2)
   clear hb hV g0 g1
   obtain ⟨rr,hrr⟩ : ∃ rr,rr = playedP rooms stirs stirs.length:=⟨_,rfl⟩
   have HQP:=am hrr.symm
   clear hrr
   have HB1:=am (show (q1,q2) = idsE (fun Y => Y.barrows.map (·.f0)) rr by have h:=Option.some.inj HQB.out;rw [HQP.out] at h;exact h.symm)
   have HP1:=am (show (p1,p2) = idsE (fun Y => Y.pours) rr by have h:=Option.some.inj HPB.out;rw [HQP.out] at h;exact h.symm)
   cases rr with
  |error x =>
    have hx : ¬ x.1 = 0:=playedP_code HQP.out
    obtain ⟨rfl,rfl⟩:=Prod.mk.inj HB1.out
    have hqq : ¬ x.fst = 0:=hx
    go_wp2_with fail
    refine (calxlaw04_sanity.calls true _ rfl).mono ?_
    rintro e wz ⟨rfl,hb⟩
    have HBZ:=am (below_then HB4.out (below_size HB4.out) hb)
    clear hb
    go_wp2
    go_ret
    exact ⟨rfl,HBZ.out⟩
  |ok Y =>
    obtain ⟨h1,rfl⟩:=Prod.mk.inj HB1.out
    obtain ⟨h2,rfl⟩:=Prod.mk.inj HP1.out
    have HQ1:=am h1
    have HP2:=am h2
    clear h1 h2
    by_cases hz : ((q1.length : Nat) : Int) = 0
    ·
     have hzb : (((q1.length : Nat) : Int) == 0) = true:=beq_iff_eq.2 hz
     go_wp2_with fail
     refine (calxlaw04_sanity.calls true _ rfl).mono ?_
     rintro e wz ⟨rfl,hb⟩
     have HBZ:=am (below_then HB4.out (below_size HB4.out) hb)
     clear hb
     go_wp2
     go_ret
     exact ⟨rfl,HBZ.out⟩
    ·
     have hzb : (((q1.length : Nat) : Int) == 0) = false:=beq_eq_false_iff_ne.2 hz
     obtain ⟨j,hj⟩ : ∃ j : Nat,Int.tmod a1 (q1.length : Int) = (j : Int):=⟨(a1 % (q1.length : Int)).toNat,by rw [Int.tmod_eq_emod_of_nonneg HRG.out.1];exact (Int.toNat_of_nonneg (Int.emod_nonneg _ hz)).symm⟩
     have hjl : j < q1.length:=by
      have h1:=Int.emod_lt_of_pos a1 (show 0 < (q1.length : Int) by omega)
      rw [Int.tmod_eq_emod_of_nonneg HRG.out.1] at hj
      omega
     have hw1 : IntKind.i64.wrap a1 = a1:=IntWalk.i64_in _ (by have:=HRG.out;omega)
     have hw2 : wrap64 a1 = a1:=wrap_in (by have:=HRG.out;omega) (by have:=HRG.out;omega)
     obtain ⟨a9,e9,hx0⟩:=Kd.at_int H91.out (j : Int) (by omega) (by omega)
     cases e9
     rw [Int.toNat_natCast] at hx0
     obtain ⟨id,hid⟩ : ∃ id,id = rd q1 (j : Int):=⟨_,rfl⟩
     rw [← hid] at hx0
     have HID:=am hid
     have HJL:=am hjl
     clear hid
     have hjz : 0 ≤ (j : Int):=by omega
     have hjq : (j : Int) < (q1.length : Int):=by omega
     have g0:=bd HX3.out 0
     have g1:=bd HX3.out 1
     obtain ⟨wv,hwv⟩ : ∃ wv,wv = worthE (playedP rooms stirs stirs.length) id l:=⟨_,rfl⟩
     have HWV:=am hwv
     have hh:=worth_calls A A2 c c2 rooms stirs w3 W.heap.size (below_size HB4.out) HC4.out hc HS4.out hc2 id B cb l HL4.out hlb
     rw [← hwv] at hh
     have HWO:=am hh
     clear hh hwv
     go_wp2_with fail
     refine HWO.out.mono ?_
     rintro e w4 ⟨rfl,hb⟩
     have HC5:=am (Kd.F_below HC4.out hb)
     have HS5:=am (Kd.C_below HS4.out hb)
     have HL5:=am (Kd.C_below HL4.out hb)
     have HD5:=am (Kd.C_below HD4.out hb)
     have HB5:=am (below_then HB4.out (below_size HB4.out) hb)
     have HX4:=am (blk_below HX3.out hb)
     have H111:=am (Kd.C_below H11.out hb)
     clear hb g0 g1 hx0 hw1 hw2 hj hjl hjz hjq
     obtain ⟨lo,hi,wc⟩:=wv
     have HN:=am (Below.refl w4.heap.size w4)
     have HN1:=am (below_alloc HN.out (.cells #[ii lo.f0,ii lo.f1] 43))
     have HLo:=am (blk_new w4 (.cells #[ii lo.f0,ii lo.f1] 43))
     have HN2:=am (below_alloc HN1.out (.cells #[ii hi.f0,ii hi.f1] 43))
     have HLo1:=am (blk_alloc HLo.out (.cells #[ii hi.f0,ii hi.f1] 43))
     have HHi:=am (blk_new' (w4.alloc (.cells #[ii lo.f0,ii lo.f1] 43)) (.cells #[ii hi.f0,ii hi.f1] 43) (w4.heap.size + 1) (by simp))
     by_cases hwc : ¬ wc = 0
     ·
      go_wp2_with fail
      refine (calxlaw04_sanity.calls true _ rfl).mono ?_
      rintro e wz ⟨rfl,hb⟩
      have HBZ:=am (below3 HB5.out HN2.out hb)
      clear hb
      go_wp2
      go_ret
      exact ⟨rfl,HBZ.out⟩
     ·
      have hwc:=Decidable.not_not.1 hwc
      subst hwc
      go_upto_region 11 with fail
      generalize ((w4.alloc (.cells #[ii lo.f0,ii lo.f1] 43)).alloc (.cells #[ii hi.f0,ii hi.f1] 43)) = w5 at HN2 HLo1 HHi ⊢
      have HWB:=am (show ∃ b ∈ Y.barrows,b.f0 = id ∧ gradesE Y l = 0 ∧ worthB b l = (lo,hi,0) from by
       have h:=HWV.out
       rw [HQP.out] at h
       obtain ⟨b,hb,hbi⟩ : ∃ b ∈ Y.barrows,b.f0 = id:=by
        have h1:=HID.out
        have h2:=HJL.out
        rw [rd_nat h2] at h1
        have h3 : q1[j] ∈ Y.barrows.map (·.f0):=by rw [← show q1 = Y.barrows.map (·.f0) from HQ1.out];exact List.getElem_mem h2
        obtain ⟨b,hb,e⟩:=List.mem_map.1 h3
        exact ⟨b,hb,e.trans h1.symm⟩
       subst hbi
       unfold worthE at h
       simp only [find_self (played_wf HQP.out).bnodup b hb] at h
       by_cases c : gradesE Y l = 0
       ·rw [if_pos c] at h;exact ⟨b,hb,rfl,c,h.symm⟩
       ·rw [if_neg c] at h
        simp only [Prod.mk.injEq] at h
        exact absurd h.2.2.symm c)
      have HA0:=am (blk_new w5 (.cells #[.slice none 0 0,.slice none 0 0,.slice none 0 0] 111))
      go_wp2
      go_loopw [86] (fun v86 wr => ∃ (i : Nat) (va vb vc : Value),i ≤ p1.length ∧ v86 = ii (i : Int) ∧ Aside0 (Below w5.heap.size w5 wr) ∧ Aside0 (wr.heap[w5.heap.size]? = some (.cells #[va,vb,vc] 111 (0,0))) ∧ Aside0 (Rows3 wr w5.heap.size va vb vc (atG (p1.take i) fun q => (gradeL l q).f0) (atG (p1.take i) (midF l p1 ss)) (atG (p1.take i) fun q => (gradeL l q).f1))) (fun v86 _ => p1.length - (intOf v86).toNat)
      case atStart => exact ⟨0,_,_,_,Nat.zero_le _,rfl,⟨below_alloc (Below.refl _ _) _⟩,HA0,⟨Rows3.start _ _⟩⟩
      case round =>
       obtain ⟨i,va,vb,vc,hip,rfl,HNI,HAR,HR3⟩:=hrel
       generalize wr = wq at HNI HAR HR3 ⊢
       by_cases hlt : i < p1.length
       ·
        have HNQ:=am (below_then HN2.out (below_size HN2.out) HNI.out)
        obtain ⟨a11,e11,hx0⟩:=Kd.at_int (Kd.C_below H111.out HNQ.out) (i : Int) (by omega) (by omega)
        cases e11
        rw [Int.toNat_natCast] at hx0
        obtain ⟨q,hq⟩ : ∃ q,q = rd p1 (i : Int):=⟨_,rfl⟩
        rw [← hq] at hx0
        have HQI:=am hq
        clear hq
        have HG:=am (blk_new wq (.cells #[ii 0,ii 1000] 66))
        go_wp2
        clear hx0
        go_loopw [94] (fun v94 wr => ∃ jj : Nat,jj ≤ l.length ∧ v94 = ii (jj : Int) ∧ Aside0 (Below wq.heap.size wq wr) ∧ Aside0 (wr.heap[wq.heap.size]? = some (.cells #[ii (lastL (l.take jj) q ⟨0,1000⟩).f0,ii (lastL (l.take jj) q ⟨0,1000⟩).f1] 66 (0,0)))) (fun v94 _ => l.length - (intOf v94).toNat)
        case atStart => exact ⟨0,Nat.zero_le _,rfl,⟨below_alloc (Below.refl _ _) _⟩,⟨HG.out⟩⟩
        case round =>
         obtain ⟨jj,hjj,rfl,HNJ,HGJ⟩:=hrel
         generalize wr = wj at HNJ HGJ ⊢
         by_cases hlj : jj < l.length
         ·
          obtain ⟨ab,eb,hy0,hy1,hy2⟩:=at_T113 (Kd.C_below HL5.out (below_then HNQ.out (below_size HNQ.out) HNJ.out)) (jj : Int) (by omega) (by omega)
          cases eb
          rw [Int.toNat_natCast] at hy0 hy1 hy2
          obtain ⟨gg,hgg⟩ : ∃ gg,gg = rd_T113 l (jj : Int):=⟨_,rfl⟩
          rw [← hgg] at hy0 hy1 hy2
          have HGG:=am hgg
          have hlt2:=lastL_take hlj q ⟨0,1000⟩
          rw [← hgg] at hlt2
          have HLT:=am hlt2
          clear hgg hlt2
          have HBG:=am (blk_new wj (.cells #[ii gg.f0,ii gg.f1.f0,ii gg.f1.f1] 113))
          have HGK:=am (blk_alloc HGJ.out (.cells #[ii gg.f0,ii gg.f1.f0,ii gg.f1.f1] 113))
          have HNK:=am (below_alloc HNJ.out (.cells #[ii gg.f0,ii gg.f1.f0,ii gg.f1.f1] 113))
          obtain ⟨e0,he0⟩ : ∃ e0,e0 = gg.f0:=⟨_,rfl⟩
          have HE0:=am he0
          have k0 : (wj.alloc (.cells #[ii gg.f0,ii gg.f1.f0,ii gg.f1.f1] 113)).cell? ⟨wj.heap.size,0,none⟩ = some (ii e0):=by rw [he0];exact (blk_cell HBG.out 0).trans rfl
          clear he0
          by_cases hqe : e0 = q
          ·
           have HQE:=am hqe
           obtain ⟨ol,hol⟩ : ∃ ol,ol = lastL (l.take jj) q ⟨0,1000⟩:=⟨_,rfl⟩
           rw [← hol] at HGK
           clear hol
           have k1:=bd HBG.out 1
           have k2:=bd HBG.out 2
           have u0:=bd HGK.out 0
           have fu0:=blk_frozen HGK.out 0
           have u1:=bd HGK.out 1
           have fu1:=blk_frozen HGK.out 1
           have HGP:=am (blk_put (cs':=#[ii gg.f1.f0,ii gg.f1.f1]) (blk_put (cs':=#[ii gg.f1.f0,ii ol.f1]) HGK.out 0 (ii gg.f1.f0) rfl) 1 (ii gg.f1.f1) rfl)
           have HNP:=am ((HNK.out.setCell (p:=⟨wq.heap.size,0,none⟩) (Nat.le_refl _) (ii gg.f1.f0)).setCell (p:=⟨wq.heap.size,1,none⟩) (Nat.le_refl _) (ii gg.f1.f1))
           go_wp2
           go_roundw
           case rel => exact ⟨jj + 1,by omega,by go_num,HNP,⟨by rw [HLT.out,if_pos (by rw [← HE0.out];exact HQE.out)];exact HGP.out⟩⟩
           case measure => simp [intOf];omega
          ·
           have HQE:=am hqe
           go_wp2
           go_roundw
           case rel => exact ⟨jj + 1,by omega,by go_num,HNK,⟨by rw [HLT.out,if_neg (by rw [← HE0.out];exact HQE.out)];exact HGK.out⟩⟩
           case measure => simp [intOf];omega
         ·
          have hje : jj = l.length:=by omega
          subst hje
          rw [List.take_length] at HGJ
          obtain ⟨b,hb,hbi,hgr,hwb⟩:=HWB.out
          have hml:=grades_mille hgr q
          rw [grades_last hgr q] at HGJ
          obtain ⟨s,hs⟩ : ∃ s,s = gradeL l q:=⟨_,rfl⟩
          rw [← hs] at HGJ hml
          have HSG:=am hs
          have HML:=am (show 0 ≤ s.f0 ∧ s.f0 ≤ s.f1 ∧ s.f1 ≤ 1000 from of_decide_eq_true hml)
          have HMQ:=am hml
          clear hb hbi hgr hwb hs hml
          have HNW:=am (below_then HNQ.out (below_size HNQ.out) HNJ.out)
          have u0:=bd HGJ.out 0
          have u1:=bd HGJ.out 1
          go_upto_if 110 with fail
          (try simp only [Act.put,List.setIfInBounds_toArray,List.set_cons_zero,List.set_cons_succ])
          clear u0 u1
          go_cut [23] (fun v23 wc => v23 = ii (midV s i ss) ∧ Aside0 (Below wj.heap.size wj wc) ∧ Aside0 (wc.heap[wq.heap.size]? = some (.cells #[ii s.f0,ii s.f1] 66 (0,0))))
          case first =>
           by_cases his : i < ss.length
           ·
            have hb1 : decide ((i : Int) < (ss.length : Int)) = true:=decide_eq_true (by omega)
            have hb2 : decide (i < ss.length) = true:=decide_eq_true his
            (first|rw [hb1]|rw [hb2]|skip)
            have HMV:=am (show midV s i ss = s.f0 + Int.tmod (rd ss (i : Int)) (s.f1 - s.f0 + 1) from if_pos his)
            obtain ⟨as_,es,hx0⟩:=Kd.at_int (Kd.C_below HD5.out HNW.out) (i : Int) (by omega) (by omega)
            cases es
            rw [Int.toNat_natCast] at hx0
            obtain ⟨xs,hxs⟩ : ∃ xs,xs = rd ss (i : Int):=⟨_,rfl⟩
            rw [← hxs] at hx0 HMV
            have HXR:=am (show 0 ≤ xs ∧ xs ≤ 65535 from by rw [hxs];exact HRG.out.2.2 _ (by unfold rd;rw [Int.toNat_natCast];exact getD_mem_ his))
            clear hxs
            have HXD:=am (pw_cell_below (below_drew (Below.refl _ _)) hx0)
            have HGD:=am (blk_drew HGJ.out)
            have HBD:=am (below_drew (Below.refl wj.heap.size wj))
            clear hx0
            obtain ⟨m,hm⟩ : ∃ m,m = Int.tmod xs (s.f1 - s.f0 + 1):=⟨_,rfl⟩
            have hmr : 0 ≤ m ∧ m < s.f1 - s.f0 + 1:=by
             have h1:=HML.out
             have h2:=HXR.out
             rw [hm,Int.tmod_eq_emod_of_nonneg h2.1]
             exact ⟨Int.emod_nonneg _ (by omega),Int.emod_lt_of_pos _ (by omega)⟩
            have hw1 : IntKind.i64.wrap xs = xs:=IntWalk.i64_in _ (by have:=HXR.out;omega)
            have hw2 : IntKind.i64.wrap (s.f1 - s.f0) = s.f1 - s.f0:=IntWalk.i64_in _ (by have:=HML.out;omega)
            have hw3 : IntKind.i64.wrap (s.f1 - s.f0 + 1) = s.f1 - s.f0 + 1:=IntWalk.i64_in _ (by have:=HML.out;omega)
            have hw4 : IntKind.i64.wrap m = m:=IntWalk.i64_in _ (by have:=HML.out;omega)
            have hw5 : IntKind.i64.wrap (s.f0 + m) = s.f0 + m:=IntWalk.i64_in _ (by have:=HML.out;omega)
            have hnz : ¬ s.f1 - s.f0 + 1 = 0:=by have:=HML.out;omega
            have hm2:=hm.symm
            have HM2:=am hm.symm
            clear hm hmr
            go_wp2
            refine start_ (n:=16) (S:=fun w' => w'.cell? ⟨wq.heap.size,0,none⟩ = some (ii s.f0) ∧ w'.cell? ⟨wq.heap.size,1,none⟩ = some (ii s.f1) ∧ w'.cell? (as_.add i) = some (.int .u16 xs)) (ds:=[]) (ab 16 0) kr rfl kr ⟨(blk_cell HGD.out 0).trans rfl,(blk_cell HGD.out 1).trans rfl,HXD.out⟩ (fun hHeld => ?_);refine with_tabW R11_24.tab R11_24.bits (fun HT_ HW_ => ?_)
            generalize (wj).drew = wd at HXD HGD HBD hHeld ⊢
            refine qA 0 (some 111) ?_;refine qT 1 (some 112) ?_;refine qA 2 (some 113) ?_;refine qA 3 (some 114) ?_;refine qA 4 (some 115) ?_;refine qT 5 (some 116) ?_;refine qA 6 (some 117) ?_;refine qA 7 (some 118) ?_;refine qT 8 (some 119) ?_;refine qA 9 (some 120) ?_;refine qT 10 (some 121) ?_;refine qA 11 (some 122) ?_;refine qA 12 (some 123) ?_;refine qA 13 (some 124) ?_;refine qA 14 (some 125) ?_;refine qA 15 (some 23) ?_
            refine done_ (done_of HT_.out kr) ?_
            go_wp2
            go_meet
            case rel => exact ⟨by rw [HMV.out,HM2.out],HBD,HGD⟩
           ·
            have hb1 : decide ((i : Int) < (ss.length : Int)) = false:=decide_eq_false (by omega)
            have hb2 : decide (i < ss.length) = false:=decide_eq_false his
            (first|rw [hb1]|rw [hb2]|skip)
            have HMV:=am (show midV s i ss = s.f0 from if_neg his)
            clear his
            go_wp2
            go_meet
            case rel => exact ⟨by rw [HMV.out],⟨Below.refl _ _⟩,HGJ⟩
          case rest =>
           obtain ⟨rfl,HNC,HGC⟩:=hcut
           have HCQ:=am (below_then HNJ.out (below_size HNJ.out) HNC.out)
           have HAC:=am (blk_below HAR.out HCQ.out)
           have HRC:=am (HR3.out.below HCQ.out)
           have HNB:=am (below_then HNI.out (below_size HNI.out) HCQ.out)
           clear HNJ HNC HCQ HAR HR3 HNI HGJ HNW
           obtain ⟨mv,hmv⟩ : ∃ mv,mv = midV s i ss:=⟨_,rfl⟩
           rw [← hmv]
           have HMW:=am hmv
           clear hmv
           have u0:=bd HGC.out 0
           have u1:=bd HGC.out 1
           obtain ⟨xa,hxa⟩ : ∃ xa,xa = atG (p1.take i) fun q => (gradeL l q).f0:=⟨_,rfl⟩
           obtain ⟨xb,hxb⟩ : ∃ xb,xb = atG (p1.take i) (midF l p1 ss):=⟨_,rfl⟩
           obtain ⟨xc,hxc⟩ : ∃ xc,xc = atG (p1.take i) fun q => (gradeL l q).f1:=⟨_,rfl⟩
           rw [← hxa,← hxb,← hxc] at HRC
           have HXA:=am hxa
           have HXB:=am hxb
           have HXC:=am hxc
           have hp60 : p1.length ≤ 60:=by
            rw [show p1 = Y.pours from HP2.out]
            exact (played_ok HQP.out).2.2.1.npours
           have hla : xa.length ≤ 60:=by rw [hxa];unfold atG;simp;omega
           have hlb_ : xb.length ≤ 60:=by rw [hxb];unfold atG;simp;omega
           have hlc : xc.length ≤ 60:=by rw [hxc];unfold atG;simp;omega
           have HLA:=am hla
           have HLB:=am hlb_
           have HLC:=am hlc
           clear hxa hxb hxc hp60 hla hlb_ hlc
           go_wp2
           clear u0 u1
           go_loopw [132] (fun v132 wr => ∃ (r : Int) (va vb vc : Value),v132 = ii r ∧ Aside0 (Below w5.heap.size w5 wr) ∧ Aside0 (wr.heap[w5.heap.size]? = some (.cells #[va,vb,vc] 111 (0,0))) ∧ Aside0 (St3 wr w5.heap.size va vb vc xa xb xc ⟨q,⟨s.f0,s.f0⟩⟩ ⟨q,⟨mv,mv⟩⟩ ⟨q,⟨s.f1,s.f1⟩⟩ r)) (fun v132 _ => 3 - (intOf v132).toNat)
           case atStart => exact ⟨0,_,_,_,rfl,HNB,HAC,⟨.inl ⟨rfl,HRC.out⟩⟩⟩
           case round =>
            obtain ⟨r,va,vb,vc,rfl,HNL,HAL,HSL⟩:=hrel
            generalize wr = wl at HNL HAL HSL ⊢
            rcases HSL.out with ⟨rfl,hR⟩|⟨rfl,hR⟩|⟨rfl,hR⟩|⟨rfl,hR⟩
            ·
             clear HSL
             obtain ⟨A7,c7,rfl⟩:=Kd.R_slice hR.1
             obtain ⟨A8,c8,rfl⟩:=Kd.R_slice hR.2.1
             obtain ⟨A9_,c9_,rfl⟩:=Kd.R_slice hR.2.2.1
             have HRL:=am hR
             clear hR
             have g0:=bd HAL.out 0
             have g1:=bd HAL.out 1
             have g2:=bd HAL.out 2
             have HLZ:=am (show w5.heap.size + 1 ≤ wl.heap.size from Nat.lt_of_lt_of_le (blk_lt HAL.out) (Nat.le_refl _))
             have hix : ∀ w : World,(Instr.index 114 (.agg #[ii s.f0,ii mv,ii s.f1]) (ii 0)).run Tryz.prog w = .ok (ii s.f0) w:=fun _ => by kernel_rfl
             go_wp2_with (at_builtin;refine Kd.R_append k113 (w0:=wl) (w5.heap.size + 1) rfl _ _ 39 113 (.agg #[ii 0,ii 0,ii 0]) 24 rfl Tryz.underlying39 info113_ rfl (by decide) (by decide) (.slice A7 xa.length c7) xa (⟨q,⟨s.f0,s.f0⟩⟩ : S113) [ii q,ii s.f0,ii s.f0] (fun _ => True) (fun _ => False) rfl rfl (k113_mkM _ _ _ (⟨q,⟨s.f0,s.f0⟩⟩ : S113)) (fun _ h => h.elim) (fun _ _ => trivial) (HRL.out).1 (Below.refl _ _) HLZ.out (by have:=HLA.out;omega) ?_;intro v1 w1_ hr1 hb1 hg1 hat1;obtain ⟨A1_,c1_,rfl⟩:=Kd.R_slice hr1;rw [List.length_append,List.length_singleton] at hr1 hat1 ⊢;have HG1:=am (blk_grown HAL.out hg1 (HRL.out).ne);have HR1:=am ((HRL.out).app hr1 hg1 hat1);have HB1_:=am hb1;clear hr1 hb1 hg1 hat1 g0 g1 g2;have g0:=bd HG1.out 0;have fg0:=blk_frozen HG1.out 0)
             go_roundw
             case rel => exact ⟨1,(.slice A1_ (xa.length + 1) c1_),.slice A8 xb.length c8,.slice A9_ xc.length c9_,rfl,⟨(HNL.out.trans (HB1_.out.mono (Nat.le_succ _))).setCell (p:=⟨w5.heap.size,0,none⟩) (Nat.le_refl _) (.slice A1_ (xa.length + 1) c1_)⟩,⟨blk_put (cs':=#[(.slice A1_ (xa.length + 1) c1_),.slice A8 xb.length c8,.slice A9_ xc.length c9_]) HG1.out 0 (.slice A1_ (xa.length + 1) c1_) rfl⟩,⟨show St3 _ _ _ _ _ _ _ _ _ _ _ _ from .inr (.inl ⟨rfl,(HR1.out).put 0 (.slice A1_ (xa.length + 1) c1_)⟩)⟩⟩
             case measure => simp [intOf]
            ·
             clear HSL
             obtain ⟨A7,c7,rfl⟩:=Kd.R_slice hR.1
             obtain ⟨A8,c8,rfl⟩:=Kd.R_slice hR.2.1
             obtain ⟨A9_,c9_,rfl⟩:=Kd.R_slice hR.2.2.1
             have HRL:=am hR
             clear hR
             have g0:=bc HAL.out 0 (.slice A7 (xa ++ [(⟨q,⟨s.f0,s.f0⟩⟩ : S113)]).length c7)
             have g1:=bd HAL.out 1
             have g2:=bd HAL.out 2
             have HLZ:=am (show w5.heap.size + 1 ≤ wl.heap.size from Nat.lt_of_lt_of_le (blk_lt HAL.out) (Nat.le_refl _))
             have hix : ∀ w : World,(Instr.index 114 (.agg #[ii s.f0,ii mv,ii s.f1]) (ii 1)).run Tryz.prog w = .ok (ii mv) w:=fun _ => by kernel_rfl
             go_wp2_with (at_builtin;refine Kd.R_append k113 (w0:=wl) (w5.heap.size + 1) rfl _ _ 39 113 (.agg #[ii 0,ii 0,ii 0]) 24 rfl Tryz.underlying39 info113_ rfl (by decide) (by decide) (.slice A8 xb.length c8) xb (⟨q,⟨mv,mv⟩⟩ : S113) [ii q,ii mv,ii mv] (fun _ => True) (fun _ => False) rfl rfl (k113_mkM _ _ _ (⟨q,⟨mv,mv⟩⟩ : S113)) (fun _ h => h.elim) (fun _ _ => trivial) ((HRL.out).p1).1 (Below.refl _ _) HLZ.out (by have:=HLB.out;omega) ?_;intro v1 w1_ hr1 hb1 hg1 hat1;obtain ⟨A1_,c1_,rfl⟩:=Kd.R_slice hr1;rw [List.length_append,List.length_singleton] at hr1 hat1 ⊢;have HG1:=am (blk_grown HAL.out hg1 ((HRL.out).p1).ne);have HR1:=am (((HRL.out).p1).app hr1 hg1 hat1);have HB1_:=am hb1;clear hr1 hb1 hg1 hat1 g0 g1 g2;have g1:=bd HG1.out 1;have fg1:=blk_frozen HG1.out 1)
             go_roundw
             case rel => exact ⟨2,.slice A7 (xa ++ [(⟨q,⟨s.f0,s.f0⟩⟩ : S113)]).length c7,(.slice A1_ (xb.length + 1) c1_),.slice A9_ xc.length c9_,rfl,⟨(HNL.out.trans (HB1_.out.mono (Nat.le_succ _))).setCell (p:=⟨w5.heap.size,1,none⟩) (Nat.le_refl _) (.slice A1_ (xb.length + 1) c1_)⟩,⟨blk_put (cs':=#[.slice A7 (xa ++ [(⟨q,⟨s.f0,s.f0⟩⟩ : S113)]).length c7,(.slice A1_ (xb.length + 1) c1_),.slice A9_ xc.length c9_]) HG1.out 1 (.slice A1_ (xb.length + 1) c1_) rfl⟩,⟨show St3 _ _ _ _ _ _ _ _ _ _ _ _ from .inr (.inr (.inl ⟨rfl,((HR1.out).p1).put 1 (.slice A1_ (xb.length + 1) c1_)⟩))⟩⟩
             case measure => simp [intOf]
            ·
             clear HSL
             obtain ⟨A7,c7,rfl⟩:=Kd.R_slice hR.1
             obtain ⟨A8,c8,rfl⟩:=Kd.R_slice hR.2.1
             obtain ⟨A9_,c9_,rfl⟩:=Kd.R_slice hR.2.2.1
             have HRL:=am hR
             clear hR
             have g0:=bc HAL.out 0 (.slice A7 (xa ++ [(⟨q,⟨s.f0,s.f0⟩⟩ : S113)]).length c7)
             have g1:=bc HAL.out 1 (.slice A8 (xb ++ [(⟨q,⟨mv,mv⟩⟩ : S113)]).length c8)
             have g2:=bd HAL.out 2
             have HLZ:=am (show w5.heap.size + 1 ≤ wl.heap.size from Nat.lt_of_lt_of_le (blk_lt HAL.out) (Nat.le_refl _))
             have hix : ∀ w : World,(Instr.index 114 (.agg #[ii s.f0,ii mv,ii s.f1]) (ii 2)).run Tryz.prog w = .ok (ii s.f1) w:=fun _ => by kernel_rfl
             go_wp2_with (at_builtin;refine Kd.R_append k113 (w0:=wl) (w5.heap.size + 1) rfl _ _ 39 113 (.agg #[ii 0,ii 0,ii 0]) 24 rfl Tryz.underlying39 info113_ rfl (by decide) (by decide) (.slice A9_ xc.length c9_) xc (⟨q,⟨s.f1,s.f1⟩⟩ : S113) [ii q,ii s.f1,ii s.f1] (fun _ => True) (fun _ => False) rfl rfl (k113_mkM _ _ _ (⟨q,⟨s.f1,s.f1⟩⟩ : S113)) (fun _ h => h.elim) (fun _ _ => trivial) ((HRL.out).p2).1 (Below.refl _ _) HLZ.out (by have:=HLC.out;omega) ?_;intro v1 w1_ hr1 hb1 hg1 hat1;obtain ⟨A1_,c1_,rfl⟩:=Kd.R_slice hr1;rw [List.length_append,List.length_singleton] at hr1 hat1 ⊢;have HG1:=am (blk_grown HAL.out hg1 ((HRL.out).p2).ne);have HR1:=am (((HRL.out).p2).app hr1 hg1 hat1);have HB1_:=am hb1;clear hr1 hb1 hg1 hat1 g0 g1 g2;have g2:=bd HG1.out 2;have fg2:=blk_frozen HG1.out 2)
             go_roundw
             case rel => exact ⟨3,.slice A7 (xa ++ [(⟨q,⟨s.f0,s.f0⟩⟩ : S113)]).length c7,.slice A8 (xb ++ [(⟨q,⟨mv,mv⟩⟩ : S113)]).length c8,(.slice A1_ (xc.length + 1) c1_),rfl,⟨(HNL.out.trans (HB1_.out.mono (Nat.le_succ _))).setCell (p:=⟨w5.heap.size,2,none⟩) (Nat.le_refl _) (.slice A1_ (xc.length + 1) c1_)⟩,⟨blk_put (cs':=#[.slice A7 (xa ++ [(⟨q,⟨s.f0,s.f0⟩⟩ : S113)]).length c7,.slice A8 (xb ++ [(⟨q,⟨mv,mv⟩⟩ : S113)]).length c8,(.slice A1_ (xc.length + 1) c1_)]) HG1.out 2 (.slice A1_ (xc.length + 1) c1_) rfl⟩,⟨show St3 _ _ _ _ _ _ _ _ _ _ _ _ from .inr (.inr (.inr ⟨rfl,((HR1.out).p2).put 2 (.slice A1_ (xc.length + 1) c1_)⟩))⟩⟩
             case measure => simp [intOf]
            ·
             have HRL:=am hR
             clear hR HSL
             have hnd : p1.Nodup:=by rw [show p1 = Y.pours from HP2.out];exact (played_ok HQP.out).2.2.1.pours
             have HRE:=am (show Rows3 wl w5.heap.size va vb vc (atG (p1.take (i + 1)) fun q => (gradeL l q).f0) (atG (p1.take (i + 1)) (midF l p1 ss)) (atG (p1.take (i + 1)) fun q => (gradeL l q).f1) from by
              rw [atG_take hlt,atG_take hlt,atG_take hlt,midF_at hnd hlt]
              rw [← HQI.out,← HSG.out,← HMW.out,← HXA.out,← HXB.out,← HXC.out]
              exact HRL.out)
             clear hnd
             have hp60 : p1.length ≤ 60:=by rw [show p1 = Y.pours from HP2.out];exact (played_ok HQP.out).2.2.1.npours
             go_wp2
             go_roundw
             case rel => exact ⟨i + 1,va,vb,vc,by omega,by go_num,HNL,HAL,HRE⟩
             case measure => simp [intOf];omega
       ·
        have hie : i = p1.length:=by omega
        subst hie
        rw [List.take_length] at HR3
        have HNQ:=am (below_then HN2.out (below_size HN2.out) HNI.out)
        have HB:=am (below_then HB5.out (below_size HB5.out) HNQ.out)
        have HC:=am (Kd.F_below HC5.out HNQ.out)
        have HS:=am (Kd.C_below HS5.out HNQ.out)
        have HX:=am (blk_below HX4.out HNQ.out)
        have HLo:=am (blk_below HLo1.out HNI.out)
        have HHi:=am (blk_below HHi.out HNI.out)
        have HRW:=am (show ∀ r : Nat,r < 3 → ∃ A c,wq.cell? ⟨w5.heap.size,r,none⟩ = some (.slice A (atG p1 (vrF l p1 ss r)).length c) ∧ Kd.C k113 wq A (atG p1 (vrF l p1 ss r)).length (atG p1 (vrF l p1 ss r)) ∧ (atG p1 (vrF l p1 ss r)).length ≤ c from by
         intro r hr
         obtain ⟨A7,c7,e7⟩:=Kd.R_slice HR3.out.1
         obtain ⟨A8,c8,e8⟩:=Kd.R_slice HR3.out.2.1
         obtain ⟨A9,c9,e9⟩:=Kd.R_slice HR3.out.2.2.1
         subst e7 e8 e9
         rcases (show r = 0 ∨ r = 1 ∨ r = 2 by omega) with rfl|rfl|rfl
         ·exact ⟨A7,c7,(blk_cell HAR.out 0).trans rfl,(Kd.R_reads' HR3.out.1).2.2,(Kd.R_reads' HR3.out.1).2.1⟩
         ·exact ⟨A8,c8,(blk_cell HAR.out 1).trans rfl,(Kd.R_reads' HR3.out.2.1).2.2,(Kd.R_reads' HR3.out.2.1).2.1⟩
         ·exact ⟨A9,c9,(blk_cell HAR.out 2).trans rfl,(Kd.R_reads' HR3.out.2.2.1).2.2,(Kd.R_reads' HR3.out.2.2.1).2.1⟩)
        have HIA:=am (show ∀ (r : Nat) (w : World),r < 3 → (Instr.indexAt 111 (.pointer (some ⟨w5.heap.size,0,none⟩)) (ii (r : Int))).run Tryz.prog w = .ok (.pointer (some ⟨w5.heap.size,r,none⟩)) w from by
         intro r w hr
         rcases (show r = 0 ∨ r = 1 ∨ r = 2 by omega) with rfl|rfl|rfl <;> kernel_rfl)
        go_wp2
        go_loopw [150] (fun v150 wr => ∃ r : Nat,r ≤ 3 ∧ v150 = ii (r : Int) ∧ Aside0 (Below wq.heap.size wq wr)) (fun v150 _ => 3 - (intOf v150).toNat)
        case atStart => exact ⟨0,by omega,rfl,⟨Below.refl _ _⟩⟩
        case round =>
         obtain ⟨r,hr3,rfl,HNR⟩:=hrel
         generalize wr = wl at HNR ⊢
         have HB1:=am (below_then HB.out (below_size HB.out) HNR.out)
         have HC1:=am (Kd.F_below HC.out HNR.out)
         have HS1:=am (Kd.C_below HS.out HNR.out)
         have HX1:=am (blk_below HX.out HNR.out)
         have HLo1:=am (blk_below HLo.out HNR.out)
         have HHi1:=am (blk_below HHi.out HNR.out)
         by_cases hlr : r < 3
         ·
          obtain ⟨Ar,cr,hcell,hCr,hlc⟩:=HRW.out r hlr
          have hia:=fun w => HIA.out r w hlr
          obtain ⟨xs,hxs⟩ : ∃ xs,xs = atG p1 (vrF l p1 ss r):=⟨_,rfl⟩
          rw [← hxs] at hcell hCr hlc
          have HXS:=am hxs
          clear hxs
          have HCE:=am (pw_cell_below HNR.out hcell)
          have HCR:=am (Kd.C_below hCr HNR.out)
          have HLC:=am hlc
          clear hcell hCr hlc
          obtain ⟨wv,hwv⟩ : ∃ wv,wv = worthE (playedP rooms stirs stirs.length) id xs:=⟨_,rfl⟩
          have HWR:=am (show wv.2.2 = 3 ∨ ∃ a,wv = (a,a,0) ∧ validP lo = true ∧ validP a = true ∧ validP hi = true ∧ cmpP lo a ≤ 0 ∧ cmpP a hi ≤ 0 ∧ (r = 0 → a = lo) ∧ (r = 2 → a = hi) from by
           obtain ⟨b,hb,hbi,hgr,hwb⟩:=HWB.out
           have h:=worth_round HQP.out hb hgr hwb (fun x hx => HRG.out.2.2 x hx) r
           rw [hbi,← show p1 = Y.pours from HP2.out,← HXS.out,← hwv] at h
           exact h)
          have HWV2:=am hwv
          clear hwv
          have HN2:=am (Below.refl wl.heap.size wl)
          have HB2:=am (below_drew HB1.out)
          have HC2:=am (Kd.F_drew HC1.out)
          have HS2:=am (Kd.C_drew HS1.out)
          have HX2:=am (blk_drew HX1.out)
          have HLo2:=am (blk_drew HLo1.out)
          have HHi2:=am (blk_drew HHi1.out)
          have HN21:=am (below_drew HN2.out)
          have HCF:=am (pw_cell_below (below_drew (Below.refl wl.heap.size wl)) HCE.out)
          have HCS:=am (Kd.C_drew HCR.out)
          have hrj : (r : Int) < 3:=by omega
          go_wp2
          refine start_ (n:=15) (S:=fun w' => w'.cell? ⟨W.heap.size,0,none⟩ = some (.slice A rooms.length c) ∧ w'.cell? ⟨W.heap.size,1,none⟩ = some (.slice A2 stirs.length c2) ∧ w'.cell? ⟨w5.heap.size,r,none⟩ = some (.slice Ar xs.length cr)) (ds:=[12,13]) (ab 15 0) kr rfl kr ⟨(blk_cell HX2.out 0).trans rfl,(blk_cell HX2.out 1).trans rfl,HCF.out⟩ (fun hHeld => ?_);refine with_tabW R11_34.tab R11_34.bits (fun HT_ HW_ => ?_)
          generalize (wl).drew = wd at HB2 HC2 HS2 HX2 HLo2 HHi2 HN21 HCF HCS hHeld ⊢
          refine qT 0 (some 154) ?_;refine qA 1 (some 155) ?_;refine qA 2 (some 156) ?_;refine qA 3 (some 157) ?_;refine qT 4 (some 158) ?_
          refine join_ (σ:=Nat × Nat) 3 (ab 15 4095) (fun x => [(159,.tuple #[.agg #[ii wv.1.f0,ii wv.1.f1],.agg #[ii wv.2.1.f0,ii wv.2.1.f1],ii wv.2.2]),(153,.tuple #[.agg #[ii wv.1.f0,ii wv.1.f1],.agg #[ii wv.2.1.f0,ii wv.2.1.f1],ii wv.2.2]),(160,.agg #[ii wv.1.f0,ii wv.1.f1]),(161,.agg #[ii wv.2.1.f0,ii wv.2.1.f1]),(162,ii wv.2.2),(27,.pointer (some ⟨x.1,0,none⟩)),(28,.pointer (some ⟨x.2,0,none⟩))]) (fun x w' => Below wd.heap.size wd w' ∧ w'.heap[x.1]? = some (.cells #[ii 0,ii 0] 43 (0,0)) ∧ w'.heap[x.2]? = some (.cells #[ii 0,ii 0] 43 (0,0)) ∧ x.1 ≠ x.2 ∧ wd.heap.size ≤ x.1 ∧ wd.heap.size ≤ x.2) ?_ ?_
          rotate_left
          ·intro hCont
           have hWC : ∀ w',Below wd.heap.size wd w' → Calls Tryz.prog 21 #[.agg #[.slice A rooms.length c,.slice A2 stirs.length c2],ii id,.slice Ar xs.length cr] w' fun e w'' => e = .returned (.tuple #[.agg #[ii wv.1.f0,ii wv.1.f1],.agg #[ii wv.2.1.f0,ii wv.2.1.f1],ii wv.2.2]) ∧ Below w'.heap.size w' w'':=by
            intro w' hb
            have h:=worth_calls A A2 c c2 rooms stirs w' W.heap.size (Nat.le_trans (below_size HB2.out) (below_size hb)) (Kd.F_below HC2.out hb) hc (Kd.C_below HS2.out hb) hc2 id Ar cr xs (Kd.C_below HCS.out hb) HLC.out
            rw [← HWV2.out] at h
            exact h
           refine three_ (i:=5) (j:=10) (k:=11) (Ni:=some 159) (Nj:=some 27) (Nk:=some 28) (ab 15 63) (ab 15 1055) (ab 15 2079) rfl rfl rfl rfl rfl rfl (three_of HT_.out kr) (by decide) (by decide) (by decide) (fun K hK => ?_) (fun K hK => ?_) (fun K hK => ?_)
           ·skip
            refine gC Tryz.func21 #[.agg #[.slice A rooms.length c,.slice A2 stirs.length c2],ii id,.slice Ar xs.length cr] ?_
            refine ((hWC _ (Below.refl wd.heap.size wd))).mono ?_
            rintro e wf1 ⟨rfl,hb⟩
            have hB_wf1 : Below wd.heap.size wd wf1:=below_then (Below.refl wd.heap.size wd) (below_size (Below.refl wd.heap.size wd)) hb
            refine ⟨_,rfl,?_⟩
            refine hK.out _ _ ⟨(blk_cell (blk_below HX2.out hB_wf1) 0).trans rfl,(blk_cell (blk_below HX2.out hB_wf1) 1).trans rfl,pw_cell_below hB_wf1 HCF.out⟩ (fun hHeld => ?_)
            clear hK K
            refine qN (some 159) ?_
            refine qA 6 (some 153) ?_;refine qA 7 (some 160) ?_;refine qA 8 (some 161) ?_;refine qA 9 (some 162) ?_
            refine two_ (i:=10) (j:=11) (Ni:=some 27) (Nj:=some 28) (ab 15 2047) (ab 15 3071) rfl rfl rfl rfl (two_of HT_.out kr) (by decide) (by decide) (fun K hK => ?_) (fun K hK => ?_)
            ·skip
             refine value_ (w1:=?_) (v:=?_) (by rfl) rfl ?_ ?_
             rotate_left 2
             ·go_simp
              constructor
              ·rfl
              ·rfl
             refine hK.out _ _ ⟨(blk_cell (blk_below HX2.out (below_alloc (hB_wf1) (.cells #[ii 0,ii 0] 43))) 0).trans rfl,(blk_cell (blk_below HX2.out (below_alloc (hB_wf1) (.cells #[ii 0,ii 0] 43))) 1).trans rfl,pw_cell_below (below_alloc (hB_wf1) (.cells #[ii 0,ii 0] 43)) HCF.out⟩ (fun hHeld => ?_)
             clear hK K
             refine qN (some 27) ?_
             refine one_ (i:=11) (N:=some 28) (ab 15 4095) rfl rfl (one_of HT_.out kr) (by decide) (fun K hK => ?_)
             refine value_ (w1:=?_) (v:=?_) (by rfl) rfl ?_ ?_
             rotate_left 2
             ·go_simp
              constructor
              ·rfl
              ·rfl
             refine hK.out _ _ ⟨(blk_cell (blk_below HX2.out (below_alloc ((below_alloc (hB_wf1) (.cells #[ii 0,ii 0] 43))) (.cells #[ii 0,ii 0] 43))) 0).trans rfl,(blk_cell (blk_below HX2.out (below_alloc ((below_alloc (hB_wf1) (.cells #[ii 0,ii 0] 43))) (.cells #[ii 0,ii 0] 43))) 1).trans rfl,pw_cell_below (below_alloc ((below_alloc (hB_wf1) (.cells #[ii 0,ii 0] 43))) (.cells #[ii 0,ii 0] 43)) HCF.out⟩ (fun hHeld => ?_)
             clear hK K
             refine qN (some 28) ?_
             exact nI (hCont ⟨wf1.heap.size,wf1.heap.size + 1⟩ _ ⟨(below_alloc ((below_alloc (hB_wf1) (.cells #[ii 0,ii 0] 43))) (.cells #[ii 0,ii 0] 43)),(blk_alloc ((blk_new' wf1 (.cells #[ii 0,ii 0] 43) (wf1.heap.size) (by simp))) (.cells #[ii 0,ii 0] 43)),(blk_new' (wf1.alloc (.cells #[ii 0,ii 0] 43)) (.cells #[ii 0,ii 0] 43) (wf1.heap.size + 1) (by simp)),(by have h:=blk_lt ((blk_new' wf1 (.cells #[ii 0,ii 0] 43) (wf1.heap.size) (by simp)));first|omega|(simp at h;omega)),(by have h:=(hB_wf1).size;first|(simp;done)|first|(simp;done)|simpa using h),(by have h:=((below_alloc (hB_wf1) (.cells #[ii 0,ii 0] 43))).size;first|(simp;done)|first|(simp;done)|simpa using h)⟩)
            ·skip
             refine value_ (w1:=?_) (v:=?_) (by rfl) rfl ?_ ?_
             rotate_left 2
             ·go_simp
              constructor
              ·rfl
              ·rfl
             refine hK.out _ _ ⟨(blk_cell (blk_below HX2.out (below_alloc (hB_wf1) (.cells #[ii 0,ii 0] 43))) 0).trans rfl,(blk_cell (blk_below HX2.out (below_alloc (hB_wf1) (.cells #[ii 0,ii 0] 43))) 1).trans rfl,pw_cell_below (below_alloc (hB_wf1) (.cells #[ii 0,ii 0] 43)) HCF.out⟩ (fun hHeld => ?_)
             clear hK K
             refine qN (some 28) ?_
             refine one_ (i:=10) (N:=some 27) (ab 15 4095) rfl rfl (one_of HT_.out kr) (by decide) (fun K hK => ?_)
             refine value_ (w1:=?_) (v:=?_) (by rfl) rfl ?_ ?_
             rotate_left 2
             ·go_simp
              constructor
              ·rfl
              ·rfl
             refine hK.out _ _ ⟨(blk_cell (blk_below HX2.out (below_alloc ((below_alloc (hB_wf1) (.cells #[ii 0,ii 0] 43))) (.cells #[ii 0,ii 0] 43))) 0).trans rfl,(blk_cell (blk_below HX2.out (below_alloc ((below_alloc (hB_wf1) (.cells #[ii 0,ii 0] 43))) (.cells #[ii 0,ii 0] 43))) 1).trans rfl,pw_cell_below (below_alloc ((below_alloc (hB_wf1) (.cells #[ii 0,ii 0] 43))) (.cells #[ii 0,ii 0] 43)) HCF.out⟩ (fun hHeld => ?_)
             clear hK K
             refine qN (some 27) ?_
             exact nI (hCont ⟨wf1.heap.size + 1,wf1.heap.size⟩ _ ⟨(below_alloc ((below_alloc (hB_wf1) (.cells #[ii 0,ii 0] 43))) (.cells #[ii 0,ii 0] 43)),(blk_new' (wf1.alloc (.cells #[ii 0,ii 0] 43)) (.cells #[ii 0,ii 0] 43) (wf1.heap.size + 1) (by simp)),(blk_alloc ((blk_new' wf1 (.cells #[ii 0,ii 0] 43) (wf1.heap.size) (by simp))) (.cells #[ii 0,ii 0] 43)),(by have h:=blk_lt ((blk_new' wf1 (.cells #[ii 0,ii 0] 43) (wf1.heap.size) (by simp)));first|omega|(simp at h;omega)),(by have h:=((below_alloc (hB_wf1) (.cells #[ii 0,ii 0] 43))).size;first|(simp;done)|first|(simp;done)|simpa using h),(by have h:=(hB_wf1).size;first|(simp;done)|first|(simp;done)|simpa using h)⟩)
           ·skip
            refine value_ (w1:=?_) (v:=?_) (by rfl) rfl ?_ ?_
            rotate_left 2
            ·go_simp
             constructor
             ·rfl
             ·rfl
            refine hK.out _ _ ⟨(blk_cell (blk_below HX2.out (below_alloc (Below.refl wd.heap.size wd) (.cells #[ii 0,ii 0] 43))) 0).trans rfl,(blk_cell (blk_below HX2.out (below_alloc (Below.refl wd.heap.size wd) (.cells #[ii 0,ii 0] 43))) 1).trans rfl,pw_cell_below (below_alloc (Below.refl wd.heap.size wd) (.cells #[ii 0,ii 0] 43)) HCF.out⟩ (fun hHeld => ?_)
            clear hK K
            refine qN (some 27) ?_
            refine two_ (i:=5) (j:=11) (Ni:=some 159) (Nj:=some 28) (ab 15 1087) (ab 15 3103) rfl rfl rfl rfl (two_of HT_.out kr) (by decide) (by decide) (fun K hK => ?_) (fun K hK => ?_)
            ·skip
             refine gC Tryz.func21 #[.agg #[.slice A rooms.length c,.slice A2 stirs.length c2],ii id,.slice Ar xs.length cr] ?_
             refine ((hWC _ ((below_alloc (Below.refl wd.heap.size wd) (.cells #[ii 0,ii 0] 43))))).mono ?_
             rintro e wf2 ⟨rfl,hb⟩
             have hB_wf2 : Below wd.heap.size wd wf2:=below_then ((below_alloc (Below.refl wd.heap.size wd) (.cells #[ii 0,ii 0] 43))) (below_size ((below_alloc (Below.refl wd.heap.size wd) (.cells #[ii 0,ii 0] 43)))) hb
             have hb10_wf2:=blk_below ((blk_new' wd (.cells #[ii 0,ii 0] 43) (wd.heap.size) (by simp))) hb
             refine ⟨_,rfl,?_⟩
             refine hK.out _ _ ⟨(blk_cell (blk_below HX2.out hB_wf2) 0).trans rfl,(blk_cell (blk_below HX2.out hB_wf2) 1).trans rfl,pw_cell_below hB_wf2 HCF.out⟩ (fun hHeld => ?_)
             clear hK K
             refine qN (some 159) ?_
             refine qA 6 (some 153) ?_;refine qA 7 (some 160) ?_;refine qA 8 (some 161) ?_;refine qA 9 (some 162) ?_
             refine one_ (i:=11) (N:=some 28) (ab 15 4095) rfl rfl (one_of HT_.out kr) (by decide) (fun K hK => ?_)
             refine value_ (w1:=?_) (v:=?_) (by rfl) rfl ?_ ?_
             rotate_left 2
             ·go_simp
              constructor
              ·rfl
              ·rfl
             refine hK.out _ _ ⟨(blk_cell (blk_below HX2.out (below_alloc (hB_wf2) (.cells #[ii 0,ii 0] 43))) 0).trans rfl,(blk_cell (blk_below HX2.out (below_alloc (hB_wf2) (.cells #[ii 0,ii 0] 43))) 1).trans rfl,pw_cell_below (below_alloc (hB_wf2) (.cells #[ii 0,ii 0] 43)) HCF.out⟩ (fun hHeld => ?_)
             clear hK K
             refine qN (some 28) ?_
             exact nI (hCont ⟨wd.heap.size,wf2.heap.size⟩ _ ⟨(below_alloc (hB_wf2) (.cells #[ii 0,ii 0] 43)),(blk_alloc (hb10_wf2) (.cells #[ii 0,ii 0] 43)),(blk_new' wf2 (.cells #[ii 0,ii 0] 43) (wf2.heap.size) (by simp)),(by have h:=blk_lt (hb10_wf2);first|omega|(simp at h;omega)),(by have h:=(Below.refl wd.heap.size wd).size;first|(simp;done)|first|(simp;done)|simpa using h),(by have h:=(hB_wf2).size;first|(simp;done)|first|(simp;done)|simpa using h)⟩)
            ·skip
             refine value_ (w1:=?_) (v:=?_) (by rfl) rfl ?_ ?_
             rotate_left 2
             ·go_simp
              constructor
              ·rfl
              ·rfl
             refine hK.out _ _ ⟨(blk_cell (blk_below HX2.out (below_alloc ((below_alloc (Below.refl wd.heap.size wd) (.cells #[ii 0,ii 0] 43))) (.cells #[ii 0,ii 0] 43))) 0).trans rfl,(blk_cell (blk_below HX2.out (below_alloc ((below_alloc (Below.refl wd.heap.size wd) (.cells #[ii 0,ii 0] 43))) (.cells #[ii 0,ii 0] 43))) 1).trans rfl,pw_cell_below (below_alloc ((below_alloc (Below.refl wd.heap.size wd) (.cells #[ii 0,ii 0] 43))) (.cells #[ii 0,ii 0] 43)) HCF.out⟩ (fun hHeld => ?_)
             clear hK K
             refine qN (some 28) ?_
             refine one_ (i:=5) (N:=some 159) (ab 15 3135) rfl rfl (one_of HT_.out kr) (by decide) (fun K hK => ?_)
             refine gC Tryz.func21 #[.agg #[.slice A rooms.length c,.slice A2 stirs.length c2],ii id,.slice Ar xs.length cr] ?_
             refine ((hWC _ ((below_alloc ((below_alloc (Below.refl wd.heap.size wd) (.cells #[ii 0,ii 0] 43))) (.cells #[ii 0,ii 0] 43))))).mono ?_
             rintro e wf3 ⟨rfl,hb⟩
             have hB_wf3 : Below wd.heap.size wd wf3:=below_then ((below_alloc ((below_alloc (Below.refl wd.heap.size wd) (.cells #[ii 0,ii 0] 43))) (.cells #[ii 0,ii 0] 43))) (below_size ((below_alloc ((below_alloc (Below.refl wd.heap.size wd) (.cells #[ii 0,ii 0] 43))) (.cells #[ii 0,ii 0] 43)))) hb
             have hb10_wf3:=blk_below ((blk_alloc ((blk_new' wd (.cells #[ii 0,ii 0] 43) (wd.heap.size) (by simp))) (.cells #[ii 0,ii 0] 43))) hb
             have hb11_wf3:=blk_below ((blk_new' (wd.alloc (.cells #[ii 0,ii 0] 43)) (.cells #[ii 0,ii 0] 43) (wd.heap.size + 1) (by simp))) hb
             refine ⟨_,rfl,?_⟩
             refine hK.out _ _ ⟨(blk_cell (blk_below HX2.out hB_wf3) 0).trans rfl,(blk_cell (blk_below HX2.out hB_wf3) 1).trans rfl,pw_cell_below hB_wf3 HCF.out⟩ (fun hHeld => ?_)
             clear hK K
             refine qN (some 159) ?_
             refine qA 6 (some 153) ?_;refine qA 7 (some 160) ?_;refine qA 8 (some 161) ?_;refine qA 9 (some 162) ?_
             exact nI (hCont ⟨wd.heap.size,wd.heap.size + 1⟩ _ ⟨hB_wf3,hb10_wf3,hb11_wf3,(by have h:=blk_lt ((blk_new' wd (.cells #[ii 0,ii 0] 43) (wd.heap.size) (by simp)));first|omega|(simp at h;omega)),(by have h:=(Below.refl wd.heap.size wd).size;first|(simp;done)|first|(simp;done)|simpa using h),(by have h:=((below_alloc (Below.refl wd.heap.size wd) (.cells #[ii 0,ii 0] 43))).size;first|(simp;done)|first|(simp;done)|simpa using h)⟩)
           ·skip
            refine value_ (w1:=?_) (v:=?_) (by rfl) rfl ?_ ?_
            rotate_left 2
            ·go_simp
             constructor
             ·rfl
             ·rfl
            refine hK.out _ _ ⟨(blk_cell (blk_below HX2.out (below_alloc (Below.refl wd.heap.size wd) (.cells #[ii 0,ii 0] 43))) 0).trans rfl,(blk_cell (blk_below HX2.out (below_alloc (Below.refl wd.heap.size wd) (.cells #[ii 0,ii 0] 43))) 1).trans rfl,pw_cell_below (below_alloc (Below.refl wd.heap.size wd) (.cells #[ii 0,ii 0] 43)) HCF.out⟩ (fun hHeld => ?_)
            clear hK K
            refine qN (some 28) ?_
            refine two_ (i:=5) (j:=10) (Ni:=some 159) (Nj:=some 27) (ab 15 2111) (ab 15 3103) rfl rfl rfl rfl (two_of HT_.out kr) (by decide) (by decide) (fun K hK => ?_) (fun K hK => ?_)
            ·skip
             refine gC Tryz.func21 #[.agg #[.slice A rooms.length c,.slice A2 stirs.length c2],ii id,.slice Ar xs.length cr] ?_
             refine ((hWC _ ((below_alloc (Below.refl wd.heap.size wd) (.cells #[ii 0,ii 0] 43))))).mono ?_
             rintro e wf4 ⟨rfl,hb⟩
             have hB_wf4 : Below wd.heap.size wd wf4:=below_then ((below_alloc (Below.refl wd.heap.size wd) (.cells #[ii 0,ii 0] 43))) (below_size ((below_alloc (Below.refl wd.heap.size wd) (.cells #[ii 0,ii 0] 43)))) hb
             have hb11_wf4:=blk_below ((blk_new' wd (.cells #[ii 0,ii 0] 43) (wd.heap.size) (by simp))) hb
             refine ⟨_,rfl,?_⟩
             refine hK.out _ _ ⟨(blk_cell (blk_below HX2.out hB_wf4) 0).trans rfl,(blk_cell (blk_below HX2.out hB_wf4) 1).trans rfl,pw_cell_below hB_wf4 HCF.out⟩ (fun hHeld => ?_)
             clear hK K
             refine qN (some 159) ?_
             refine qA 6 (some 153) ?_;refine qA 7 (some 160) ?_;refine qA 8 (some 161) ?_;refine qA 9 (some 162) ?_
             refine one_ (i:=10) (N:=some 27) (ab 15 4095) rfl rfl (one_of HT_.out kr) (by decide) (fun K hK => ?_)
             refine value_ (w1:=?_) (v:=?_) (by rfl) rfl ?_ ?_
             rotate_left 2
             ·go_simp
              constructor
              ·rfl
              ·rfl
             refine hK.out _ _ ⟨(blk_cell (blk_below HX2.out (below_alloc (hB_wf4) (.cells #[ii 0,ii 0] 43))) 0).trans rfl,(blk_cell (blk_below HX2.out (below_alloc (hB_wf4) (.cells #[ii 0,ii 0] 43))) 1).trans rfl,pw_cell_below (below_alloc (hB_wf4) (.cells #[ii 0,ii 0] 43)) HCF.out⟩ (fun hHeld => ?_)
             clear hK K
             refine qN (some 27) ?_
             exact nI (hCont ⟨wf4.heap.size,wd.heap.size⟩ _ ⟨(below_alloc (hB_wf4) (.cells #[ii 0,ii 0] 43)),(blk_new' wf4 (.cells #[ii 0,ii 0] 43) (wf4.heap.size) (by simp)),(blk_alloc (hb11_wf4) (.cells #[ii 0,ii 0] 43)),(by have h:=blk_lt (hb11_wf4);first|omega|(simp at h;omega)),(by have h:=(hB_wf4).size;first|(simp;done)|first|(simp;done)|simpa using h),(by have h:=(Below.refl wd.heap.size wd).size;first|(simp;done)|first|(simp;done)|simpa using h)⟩)
            ·skip
             refine value_ (w1:=?_) (v:=?_) (by rfl) rfl ?_ ?_
             rotate_left 2
             ·go_simp
              constructor
              ·rfl
              ·rfl
             refine hK.out _ _ ⟨(blk_cell (blk_below HX2.out (below_alloc ((below_alloc (Below.refl wd.heap.size wd) (.cells #[ii 0,ii 0] 43))) (.cells #[ii 0,ii 0] 43))) 0).trans rfl,(blk_cell (blk_below HX2.out (below_alloc ((below_alloc (Below.refl wd.heap.size wd) (.cells #[ii 0,ii 0] 43))) (.cells #[ii 0,ii 0] 43))) 1).trans rfl,pw_cell_below (below_alloc ((below_alloc (Below.refl wd.heap.size wd) (.cells #[ii 0,ii 0] 43))) (.cells #[ii 0,ii 0] 43)) HCF.out⟩ (fun hHeld => ?_)
             clear hK K
             refine qN (some 27) ?_
             refine one_ (i:=5) (N:=some 159) (ab 15 3135) rfl rfl (one_of HT_.out kr) (by decide) (fun K hK => ?_)
             refine gC Tryz.func21 #[.agg #[.slice A rooms.length c,.slice A2 stirs.length c2],ii id,.slice Ar xs.length cr] ?_
             refine ((hWC _ ((below_alloc ((below_alloc (Below.refl wd.heap.size wd) (.cells #[ii 0,ii 0] 43))) (.cells #[ii 0,ii 0] 43))))).mono ?_
             rintro e wf5 ⟨rfl,hb⟩
             have hB_wf5 : Below wd.heap.size wd wf5:=below_then ((below_alloc ((below_alloc (Below.refl wd.heap.size wd) (.cells #[ii 0,ii 0] 43))) (.cells #[ii 0,ii 0] 43))) (below_size ((below_alloc ((below_alloc (Below.refl wd.heap.size wd) (.cells #[ii 0,ii 0] 43))) (.cells #[ii 0,ii 0] 43)))) hb
             have hb10_wf5:=blk_below ((blk_new' (wd.alloc (.cells #[ii 0,ii 0] 43)) (.cells #[ii 0,ii 0] 43) (wd.heap.size + 1) (by simp))) hb
             have hb11_wf5:=blk_below ((blk_alloc ((blk_new' wd (.cells #[ii 0,ii 0] 43) (wd.heap.size) (by simp))) (.cells #[ii 0,ii 0] 43))) hb
             refine ⟨_,rfl,?_⟩
             refine hK.out _ _ ⟨(blk_cell (blk_below HX2.out hB_wf5) 0).trans rfl,(blk_cell (blk_below HX2.out hB_wf5) 1).trans rfl,pw_cell_below hB_wf5 HCF.out⟩ (fun hHeld => ?_)
             clear hK K
             refine qN (some 159) ?_
             refine qA 6 (some 153) ?_;refine qA 7 (some 160) ?_;refine qA 8 (some 161) ?_;refine qA 9 (some 162) ?_
             exact nI (hCont ⟨wd.heap.size + 1,wd.heap.size⟩ _ ⟨hB_wf5,hb10_wf5,hb11_wf5,(by have h:=blk_lt ((blk_new' wd (.cells #[ii 0,ii 0] 43) (wd.heap.size) (by simp)));first|omega|(simp at h;omega)),(by have h:=((below_alloc (Below.refl wd.heap.size wd) (.cells #[ii 0,ii 0] 43))).size;first|(simp;done)|first|(simp;done)|simpa using h),(by have h:=(Below.refl wd.heap.size wd).size;first|(simp;done)|first|(simp;done)|simpa using h)⟩)
          rintro ⟨p,y⟩ w7 ⟨hb,hp,hy,hne,hlp,hly⟩
          have HIX:=am (show p ≠ y ∧ wd.heap.size ≤ p ∧ wd.heap.size ≤ y from ⟨hne,hlp,hly⟩)
          have HLD:=am (show wl.heap.size ≤ wd.heap.size from below_size HN21.out)
          have HB3:=am (below_then HB2.out (below_size HB2.out) hb)
          have HC3:=am (Kd.F_below HC2.out hb)
          have HS3:=am (Kd.C_below HS2.out hb)
          have HX3:=am (blk_below HX2.out hb)
          have HLo3:=am (blk_below HLo2.out hb)
          have HHi3:=am (blk_below HHi2.out hb)
          have HN22:=am (below_then HN21.out (below_size HN21.out) hb)
          have H15:=am (hp)
          have H16:=am (hy)
          clear hb hp hy hne hlp hly
          refine norm_ (a':=?_) ?_ ?_
          rotate_left
          ·simp only [putAll,Act.put,List.setIfInBounds_toArray,List.set_cons_zero,List.set_cons_succ]
           rfl
          refine last_ (i:=12) (N:=none) (ab 15 8191) rfl rfl (one_of HT_.out kr) (by decide) (fun K hK => ?_)
          have u0:=bd H15.out 0
          have fu0:=blk_frozen H15.out 0
          have u1:=bd H15.out 1
          have fu1:=blk_frozen H15.out 1
          refine skip_ (w1:=?_) (by rfl) rfl ?_ ?_
          rotate_left
          ·go_simp
           rfl
          have HLT:=am (show w4.heap.size < wd.heap.size ∧ w4.heap.size + 1 < wd.heap.size from by
           have h1:=below_size HNR.out
           have h2:=below_size HNI.out
           have h3:=HLD.out
           have h4:=blk_lt HLo1.out
           have h5:=blk_lt HHi.out
           omega)
          have HLo4:=am (blk_far (p:=⟨p,1,none⟩) (blk_far (p:=⟨p,0,none⟩) (HLo3.out) (by have h1:=HLT.out;have h2:=HIX.out;have h3:=HLD.out;(try dsimp only);omega) (ii wv.1.f0)) (by have h1:=HLT.out;have h2:=HIX.out;have h3:=HLD.out;(try dsimp only);omega) (ii wv.1.f1))
          have HHi4:=am (blk_far (p:=⟨p,1,none⟩) (blk_far (p:=⟨p,0,none⟩) (HHi3.out) (by have h1:=HLT.out;have h2:=HIX.out;have h3:=HLD.out;(try dsimp only);omega) (ii wv.1.f0)) (by have h1:=HLT.out;have h2:=HIX.out;have h3:=HLD.out;(try dsimp only);omega) (ii wv.1.f1))
          have HN23:=am (((HN22.out).setCell (p:=⟨p,0,none⟩) (by have h1:=HLT.out;have h2:=HIX.out;have h3:=HLD.out;(try dsimp only);omega) (ii wv.1.f0)).setCell (p:=⟨p,1,none⟩) (by have h1:=HLT.out;have h2:=HIX.out;have h3:=HLD.out;(try dsimp only);omega) (ii wv.1.f1))
          have H161:=am (blk_far (p:=⟨p,1,none⟩) (blk_far (p:=⟨p,0,none⟩) (H16.out) (by have h1:=HLT.out;have h2:=HIX.out;have h3:=HLD.out;(try dsimp only);omega) (ii wv.1.f0)) (by have h1:=HLT.out;have h2:=HIX.out;have h3:=HLD.out;(try dsimp only);omega) (ii wv.1.f1))
          have H151:=am (blk_put (cs':=#[ii wv.1.f0,ii wv.1.f1]) (blk_put (cs':=#[ii wv.1.f0,ii 0]) (H15.out) 0 (ii wv.1.f0) rfl) 1 (ii wv.1.f1) rfl)
          refine hK.out _ _ ?_
          clear hK K
          refine last_ (i:=13) (N:=none) (ab 15 16383) rfl rfl (one_of HT_.out kr) (by decide) (fun K hK => ?_)
          have v0:=bd H161.out 0
          have fv0:=blk_frozen H161.out 0
          have v1:=bd H161.out 1
          have fv1:=blk_frozen H161.out 1
          refine skip_ (w1:=?_) (by rfl) rfl ?_ ?_
          rotate_left
          ·go_simp
           rfl
          refine hK.out _ _ ?_
          clear hK K
          refine qA 14 (some 29) ?_
          refine done_ (done_of HT_.out kr) ?_
          have HLo5:=am (blk_far (p:=⟨y,1,none⟩) (blk_far (p:=⟨y,0,none⟩) (HLo4.out) (by have h1:=HLT.out;have h2:=HIX.out;have h3:=HLD.out;(try dsimp only);omega) (ii wv.2.1.f0)) (by have h1:=HLT.out;have h2:=HIX.out;have h3:=HLD.out;(try dsimp only);omega) (ii wv.2.1.f1))
          have HHi5:=am (blk_far (p:=⟨y,1,none⟩) (blk_far (p:=⟨y,0,none⟩) (HHi4.out) (by have h1:=HLT.out;have h2:=HIX.out;have h3:=HLD.out;(try dsimp only);omega) (ii wv.2.1.f0)) (by have h1:=HLT.out;have h2:=HIX.out;have h3:=HLD.out;(try dsimp only);omega) (ii wv.2.1.f1))
          have HN24:=am (((HN23.out).setCell (p:=⟨y,0,none⟩) (by have h1:=HLT.out;have h2:=HIX.out;have h3:=HLD.out;(try dsimp only);omega) (ii wv.2.1.f0)).setCell (p:=⟨y,1,none⟩) (by have h1:=HLT.out;have h2:=HIX.out;have h3:=HLD.out;(try dsimp only);omega) (ii wv.2.1.f1))
          have H152:=am (blk_far (p:=⟨y,1,none⟩) (blk_far (p:=⟨y,0,none⟩) (H151.out) (by have h1:=HLT.out;have h2:=HIX.out;have h3:=HLD.out;(try dsimp only);omega) (ii wv.2.1.f0)) (by have h1:=HLT.out;have h2:=HIX.out;have h3:=HLD.out;(try dsimp only);omega) (ii wv.2.1.f1))
          have H162:=am (blk_put (cs':=#[ii wv.2.1.f0,ii wv.2.1.f1]) (blk_put (cs':=#[ii wv.2.1.f0,ii 0]) (H161.out) 0 (ii wv.2.1.f0) rfl) 1 (ii wv.2.1.f1) rfl)
          clear u0 u1 fu0 fu1 v0 v1 fv0 fv1 hia hrj
          generalize ((((w7.setCell ⟨p,0,none⟩ (ii wv.1.f0)).setCell ⟨p,1,none⟩ (ii wv.1.f1)).setCell ⟨y,0,none⟩ (ii wv.2.1.f0)).setCell ⟨y,1,none⟩ (ii wv.2.1.f1)) = w9 at HLo5 HHi5 HN24 H152 H162 ⊢
          obtain ⟨la,ha,wc⟩:=wv
          dsimp only at HWR
          by_cases h3 : wc = 3
          ·
           subst h3
           go_wp2
           go_roundw
           case rel => exact ⟨r + 1,by omega,by go_num,⟨below_then HNR.out (below_size HNR.out) HN24.out⟩⟩
           case measure => simp [intOf];omega
          ·
           obtain ⟨a,ea,v1,v2,v3,hc1,hc2_,hr0,hr2⟩:=HWR.out.resolve_left h3
           simp only [Prod.mk.injEq] at ea
           obtain ⟨e1,e2,e3⟩:=ea
           subst e3
           subst e2
           subst e1
           have k1 : pit_Compare.f (FU + 1) lo.f0 lo.f1 la.f0 la.f1 = some (cmpP lo la,0):=by rw [show FU + 1 = FU + 1 + 0 from rfl,Compare_at];unfold CompareP;rw [v1,v2];rfl
           have k2 : pit_Compare.f (FU + 1) la.f0 la.f1 hi.f0 hi.f1 = some (cmpP la hi,0):=by rw [show FU + 1 = FU + 1 + 0 from rfl,Compare_at];unfold CompareP;rw [v2,v3];rfl
           obtain ⟨m1,hm1⟩ : ∃ m1,m1 = cmpP lo la:=⟨_,rfl⟩
           obtain ⟨m2,hm2⟩ : ∃ m2,m2 = cmpP la hi:=⟨_,rfl⟩
           rw [← hm1] at k1 hc1
           rw [← hm2] at k2 hc2_
           have HK1:=am k1
           have HK2:=am k2
           have HR0:=am hr0
           have HR2:=am hr2
           have HM1:=am hc1
           have HM2:=am hc2_
           clear hm1 hm2 k1 k2 hr0 hr2 v1 v2 v3 hc1 hc2_
           have x0:=bd HLo5.out 0
           have x1:=bd HLo5.out 1
           have s0:=bd H152.out 0
           have s1:=bd H152.out 1
           go_wp2_with fail
           refine (pit_Compare.calls (FU + 1) _ _ _ _ m1 0 _ HK1.out).mono ?_
           rintro e w10 ⟨rfl,hb⟩
           have HLo6:=am (blk_below HLo5.out hb)
           have HHi6:=am (blk_below HHi5.out hb)
           have HN25:=am (below_then HN24.out (below_size HN24.out) hb)
           have H153:=am (blk_below H152.out hb)
           have H163:=am (blk_below H162.out hb)
           clear hb x0 x1 s0 s1
           have x0:=bd HHi6.out 0
           have x1:=bd HHi6.out 1
           have s0:=bd H153.out 0
           have s1:=bd H153.out 1
           go_wp2_with fail
           refine (pit_Compare.calls (FU + 1) _ _ _ _ m2 0 _ HK2.out).mono ?_
           rintro e w11 ⟨rfl,hb⟩
           have HLo7:=am (blk_below HLo6.out hb)
           have HHi7:=am (blk_below HHi6.out hb)
           have HN26:=am (below_then HN25.out (below_size HN25.out) hb)
           have H154:=am (blk_below H153.out hb)
           have H164:=am (blk_below H163.out hb)
           clear hb x0 x1 s0 s1
           have x0:=bd HLo7.out 0
           have x1:=bd HLo7.out 1
           have y0:=bd HHi7.out 0
           have y1:=bd HHi7.out 1
           have s0:=bd H154.out 0
           have s1:=bd H154.out 1
           have t0:=bd H164.out 0
           have t1:=bd H164.out 1
           have q1 : decide (m1 > 0) = false:=decide_eq_false (by have:=HM1.out;omega)
           have q2 : decide (m2 > 0) = false:=decide_eq_false (by have:=HM2.out;omega)
           rcases (show r = 0 ∨ r = 1 ∨ r = 2 by omega) with rfl|rfl|rfl
           ·
            have hea:=HR0.out rfl
            subst hea
            go_wp2
            go_roundw
            case rel => exact ⟨1,by omega,by go_num,⟨below_then HNR.out (below_size HNR.out) HN26.out⟩⟩
            case measure => simp [intOf]
           ·
            go_wp2
            go_roundw
            case rel => exact ⟨2,by omega,by go_num,⟨below_then HNR.out (below_size HNR.out) HN26.out⟩⟩
            case measure => simp [intOf]
           ·
            have hea:=HR2.out rfl
            subst hea
            go_wp2
            go_roundw
            case rel => exact ⟨3,by omega,by go_num,⟨below_then HNR.out (below_size HNR.out) HN26.out⟩⟩
            case measure => simp [intOf]
         ·
          go_wp2_with fail
          refine (calxlaw04_sanity.calls true _ rfl).mono ?_
          rintro e wz ⟨rfl,hb⟩
          have HBZ:=am (below_then HB1.out (below_size HB1.out) hb)
          clear hb
          go_wp2
          go_ret
          exact ⟨rfl,HBZ.out⟩
end
end Go.Proofs.YtjjfpmapjjemcaaGreat.B
end
