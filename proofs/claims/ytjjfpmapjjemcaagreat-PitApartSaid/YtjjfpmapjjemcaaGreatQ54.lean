import Derived.Test.YtjjfpmapjjemcaaGreatQ11
import Derived.Test.YtjjfpmapjjemcaaGreatQ16
import Derived.Test.YtjjfpmapjjemcaaGreatQ20
import Derived.Test.YtjjfpmapjjemcaaGreatQ24
import Derived.Test.YtjjfpmapjjemcaaGreatQ35
import Derived.Test.YtjjfpmapjjemcaaGreatQ43
import Derived.Test.YtjjfpmapjjemcaaGreatQ52
import Derived.Test.YtjjfpmapjjemcaaGreatQ53
import Derived.Test.YtjjfpmapjjemcaaGreatQ7
set_option linter.unusedVariables false
set_option linter.unusedSimpArgs false
section
namespace Go.Proofs.YtjjfpmapjjemcaaGreat.B
open Go.RowKit Go.Proofs.YtjjfpmapjjemcaaGreatW.PrintWords Go.Proofs.YtjjfpmapjjemcaaGreatW.PrintLast Go.Proofs.YtjjfpmapjjemcaaGreatW.PrintMore
attribute [local go_sem] max2_int min2_int max_two min_two max_three min_three max_four min_four
def R13_20.T : Bool × List (List Nat × List Nat):=(true,[([],[]),([0],[0]),([],[]),([2],[2]),([3],[3]),([4],[4]),([1,5],[1,5]),([],[]),([7],[7]),([],[]),([9],[9]),([10],[10]),([11],[11]),([8,12],[8,12]),([6,0,1,2,3,4,5,6],[6]),([13,14,0,1,2,3,4,5,6,7,8,9,10,11,12,13,14],[13])])
def R13_20.B : List Nat:=[0,1,0,4,12,28,63,0,128,0,512,1536,3584,8064,127,32767]
theorem R13_20.tab : rtab .any (opsOf Tryz.f13 20) = R13_20.T:=by kernel_rfl
theorem R13_20.bits : waitsOk R13_20.T.2 R13_20.B = true:=by kernel_rfl
def calxlaw04_PitApart.f (_ : Nat) (_ : List Int) (_ : List S84) (a1 a2 a3 : Int) : Option Bool:=if (0 ≤ a1 ∧ a1 ≤ 255) ∧ (0 ≤ a2 ∧ a2 ≤ 255) ∧ 0 ≤ a3 ∧ a3 ≤ 255 then some true else none
set_option maxRecDepth 100000 in
set_option maxHeartbeats 2000000 in
theorem calxlaw04_PitApart.calls (k : Nat) (A : Option Addr) (c : Nat) (rooms : List Int) (A2 : Option Addr) (c2 : Nat) (stirs : List S84) (a1 a2 a3 : Int) (r : Bool) (W : World) (hC : Kd.C (Kd.int .i64) W A rooms.length rooms) (hc : rooms.length ≤ c) (hS : Kd.C k84 W A2 stirs.length stirs) (hc2 : stirs.length ≤ c2) (h : calxlaw04_PitApart.f k rooms stirs a1 a2 a3 = some r) (hr : Aside0 (r = true)) :
  Calls Tryz.prog 13 #[.agg #[.slice A rooms.length c,.slice A2 stirs.length c2],.int .u8 a1,.int .u8 a2,.int .u8 a3] W fun e w' => e = .returned (.bool r) ∧ Below W.heap.size W w':=by
 unfold calxlaw04_PitApart.f at h
 have hrng : (0 ≤ a1 ∧ a1 ≤ 255) ∧ (0 ≤ a2 ∧ a2 ≤ 255) ∧ 0 ≤ a3 ∧ a3 ≤ 255:=by
  refine Classical.byContradiction fun c => ?_
  rw [if_neg c] at h
  cases h
 rw [if_pos hrng] at h
 obtain rfl:=Option.some.inj h
 clear h hr
 have HRG:=am hrng
 clear hrng
 have hu:=Tryz.underlying32
 have hu84:=Tryz.underlying84
 have hsm:=hS.2.1
 have HC:=am (C_lo hC)
 have HS:=am (hS)
 have HB:=am (Below.refl W.heap.size W)
 have HC1:=am (Kd.F_alloc HC.out (.cells #[.slice A rooms.length c,.slice A2 stirs.length c2] 32))
 have HS1:=am (Kd.C_alloc HS.out (.cells #[.slice A rooms.length c,.slice A2 stirs.length c2] 32))
 have HB1:=am (below_alloc HB.out (.cells #[.slice A rooms.length c,.slice A2 stirs.length c2] 32))
 have HX:=am (blk_new W (.cells #[.slice A rooms.length c,.slice A2 stirs.length c2] 32))
 clear hC hS
 obtain ⟨t,ht⟩ : ∃ t,calxlaw04_few.f rooms stirs = some t:=by unfold calxlaw04_few.f;split;(· split;exact ⟨_,rfl⟩;split <;> exact ⟨_,rfl⟩);exact ⟨_,rfl⟩
 have HT:=am ht
 clear ht
 go_enter Tryz.func13,Tryz.ntmps13
 go_wp2_with fail
 refine (calxlaw04_few.calls A c rooms A2 c2 stirs t _ (Kd.F_now HC1.out) hc HS1.out hc2 HT.out).mono ?_
 rintro e w1 ⟨rfl,hb⟩
 have HC2:=am (Kd.F_below HC1.out hb)
 have HS2:=am (Kd.C_below HS1.out hb)
 have HB2:=am (below_then HB1.out (below_size HB1.out) hb)
 have HX1:=am (blk_below HX.out hb)
 clear hb
 have g0:=bd HX1.out 0
 have g1:=bd HX1.out 1
 cases t with
|false =>
  go_wp2_with fail
  refine (calxlaw04_sanity.calls true _ rfl).mono ?_
  rintro e wz ⟨rfl,hb⟩
  have HBZ:=am (below_then HB2.out (below_size HB2.out) hb)
  clear hb
  go_wp2
  go_ret
  exact ⟨rfl,HBZ.out⟩
|true =>
  by_cases h2 : (stirs.length : Int) < 2
  ·
   go_wp2_with fail
   refine (calxlaw04_sanity.calls true _ rfl).mono ?_
   rintro e wz ⟨rfl,hb⟩
   have HBZ:=am (below_then HB2.out (below_size HB2.out) hb)
   clear hb
   go_wp2
   go_ret
   exact ⟨rfl,HBZ.out⟩
  ·
   by_cases h16 : (stirs.length : Int) > 16
   ·
    go_wp2_with fail
    refine (calxlaw04_sanity.calls true _ rfl).mono ?_
    rintro e wz ⟨rfl,hb⟩
    have HBZ:=am (below_then HB2.out (below_size HB2.out) hb)
    clear hb
    go_wp2
    go_ret
    exact ⟨rfl,HBZ.out⟩
   ·
    obtain ⟨rr,hrr⟩ : ∃ rr,rr = playedP rooms stirs stirs.length:=⟨_,rfl⟩
    have HQP:=am hrr.symm
    clear hrr
    have HLE:=am (below_size HB2.out)
    go_wp2_with fail
    refine (check_calls A A2 c c2 rooms stirs _ W.heap.size HLE.out HC2.out hc HS2.out hc2).mono ?_
    rintro e w2 ⟨rfl,hb⟩
    rw [HQP.out]
    have HC3:=am (Kd.F_below HC2.out hb)
    have HS3:=am (Kd.C_below HS2.out hb)
    have HB3:=am (below_then HB2.out (below_size HB2.out) hb)
    have HX2:=am (blk_below HX1.out hb)
    clear hb g0 g1
    cases rr with
   |error x =>
     obtain ⟨x1,x2⟩:=x
     have hx : ¬ x1 = 0:=playedP_code HQP.out
     dsimp only [codeOf]
     go_wp2_with fail
     refine (calxlaw04_sanity.calls true _ rfl).mono ?_
     rintro e wz ⟨rfl,hb⟩
     have HBZ:=am (below_then HB3.out (below_size HB3.out) hb)
     clear hb
     go_wp2
     go_ret
     exact ⟨rfl,HBZ.out⟩
   |ok Y =>
     dsimp only [codeOf]
     have ha1:=HRG.out.1
     obtain ⟨m,hm,hml⟩ : ∃ m : Nat,Int.tmod a1 ((stirs.length : Int) - 1) = (m : Int) ∧ m + 1 < stirs.length:=by
      have g1:=Int.emod_nonneg a1 (show (stirs.length : Int) - 1 ≠ 0 by omega)
      have g2:=Int.emod_lt_of_pos a1 (show 0 < (stirs.length : Int) - 1 by omega)
      rw [Int.tmod_eq_emod_of_nonneg ha1.1]
      exact ⟨(a1 % ((stirs.length : Int) - 1)).toNat,by omega,by omega⟩
     obtain ⟨n,hn⟩ : ∃ n,n = m + 1:=⟨_,rfl⟩
     have hnl : n < stirs.length:=by omega
     have Q1:=am (show IntKind.i64.wrap (a1) = a1 from by rw [IntWalk.i64_in (a1) (by omega)])
     have Q1W:=am (show wrap64 (a1) = a1 from by rw [wrap_in (n:=a1) (by omega) (by omega)])
     have Q2:=am (show IntKind.i64.wrap ((stirs.length : Int) - 1) = (stirs.length : Int) - 1 from by rw [IntWalk.i64_in ((stirs.length : Int) - 1) (by omega)])
     have Q2W:=am (show wrap64 ((stirs.length : Int) - 1) = (stirs.length : Int) - 1 from by rw [wrap_in (n:=(stirs.length : Int) - 1) (by omega) (by omega)])
     have Q3:=am (show IntKind.i64.wrap (1 + (m : Int)) = (n : Int) from by rw [IntWalk.i64_in (1 + (m : Int)) (by omega)];omega)
     have Q3W:=am (show wrap64 (1 + (m : Int)) = (n : Int) from by rw [wrap_in (n:=1 + (m : Int)) (by omega) (by omega)];omega)
     have Q4:=am (show IntKind.i64.wrap ((n : Int) - 1) = (m : Int) from by rw [IntWalk.i64_in ((n : Int) - 1) (by omega)];omega)
     have Q4W:=am (show wrap64 ((n : Int) - 1) = (m : Int) from by rw [wrap_in (n:=(n : Int) - 1) (by omega) (by omega)];omega)
     have hnz : ¬ (stirs.length : Int) - 1 = 0:=by omega
     have hnzb : ((stirs.length : Int) - 1 == 0) = false:=beq_eq_false_iff_ne.2 hnz
     obtain ⟨ae,e,hx0,hx1,hx2,hx3,hx4,hx5⟩:=at_T84 HS3.out (m : Int) (by omega) (by omega)
     cases e
     rw [Int.toNat_natCast] at hx0 hx1 hx2 hx3 hx4 hx5
     obtain ⟨x,hx⟩ : ∃ x,x = rd_T84 stirs (m : Int):=⟨_,rfl⟩
     rw [← hx] at hx0 hx1 hx2 hx3 hx4 hx5
     have HXD:=am hx
     clear hx
     obtain ⟨y,hy⟩ : ∃ y,y = rd_T84 stirs (n : Int):=⟨_,rfl⟩
     have HYD:=am hy
     clear hy
     obtain ⟨lx,hlx⟩ : ∃ l,l = aboutP x:=⟨_,rfl⟩
     obtain ⟨ly,hly⟩ : ∃ l,l = aboutP y:=⟨_,rfl⟩
     have hxl : lx.length ≤ 2:=by rw [hlx];exact about_len x
     have hyl : ly.length ≤ 2:=by rw [hly];exact about_len y
     have HLX:=am hlx
     have HLY:=am hly
     have hmi : 0 ≤ (m : Int):=by omega
     have hmj : (m : Int) < (stirs.length : Int):=by omega
     clear hlx hly
     obtain ⟨R,hR⟩ : ∃ R,R = lx.all fun p => ly.all fun q => p != q:=⟨_,rfl⟩
     have HR:=am hR
     clear hR
     have HN1:=am hn
     clear hn
     have g0:=bd HX2.out 0
     have g1:=bd HX2.out 1
     have q1:=Q1.out
     have q1w:=Q1W.out
     have q2:=Q2.out
     have q2w:=Q2W.out
     have q3:=Q3.out
     have q3w:=Q3W.out
     have q4:=Q4.out
     have q4w:=Q4W.out
     go_wp2_with fail
     refine (calxlaw04_pits.calls _ _ _ _ _ _ lx _ (by rw [pits_at,HLX.out])).mono ?_
     rintro e w3 ⟨v,rfl,hV,hb⟩
     obtain ⟨A3,c3,rfl⟩:=Kd.R_slice hV
     have HC4:=am (Kd.F_below HC3.out hb)
     have HS4:=am (Kd.C_below HS3.out hb)
     have HB4:=am (below_then HB3.out (below_size HB3.out) hb)
     have HX3:=am (blk_below HX2.out hb)
     have H3:=am ((Kd.R_reads' hV).2.2)
     clear hb hV g0 g1 hx0 hx1 hx2 hx3 hx4 hx5 q1 q1w q2 q2w q3 q3w q4 q4w hnz hnzb hm
     go_wp2
     go_loopw [12,73] (fun v12 v73 wr => ∃ (i : Nat) (ok : Bool),i ≤ lx.length ∧ v12 = .bool ok ∧ v73 = ii (i : Int) ∧ Aside0 (Below w3.heap.size w3 wr) ∧ Aside0 ((ok && (lx.drop i).all fun p => ly.all fun q => p != q) = R)) (fun _ v73 _ => lx.length - (intOf v73).toNat)
     case atStart => exact ⟨0,true,Nat.zero_le _,rfl,rfl,⟨Below.refl _ _⟩,⟨by rw [HR.out,List.drop_zero,Bool.true_and]⟩⟩
     case round =>
      obtain ⟨i,ok,hi,rfl,rfl,HN,HA⟩:=hrel
      generalize wr = wq at HN ⊢
      have HC5:=am (Kd.F_below HC4.out HN.out)
      have HS5:=am (Kd.C_below HS4.out HN.out)
      have HB5:=am (below_then HB4.out (below_size HB4.out) HN.out)
      have HX4:=am (blk_below HX3.out HN.out)
      have H31:=am (Kd.C_below H3.out HN.out)
      by_cases hlt : i < lx.length
      ·
       obtain ⟨ap,e,hp0⟩:=Kd.at_int H31.out (i : Int) (by omega) (by omega)
       cases e
       rw [Int.toNat_natCast] at hp0
       obtain ⟨p,hp⟩ : ∃ p,p = rd lx (i : Int):=⟨_,rfl⟩
       rw [← hp] at hp0
       have HP:=am hp
       clear hp
       obtain ⟨ay,e,hy0,hy1,hy2,hy3,hy4,hy5⟩:=at_T84 HS5.out (n : Int) (by omega) (by omega)
       cases e
       rw [Int.toNat_natCast,← HYD.out] at hy0 hy1 hy2 hy3 hy4 hy5
       have hni : 0 ≤ (n : Int):=by omega
       have hnj : (n : Int) < (stirs.length : Int):=by omega
       have g0:=bd HX4.out 0
       have g1:=bd HX4.out 1
       go_wp2_with fail
       refine (calxlaw04_pits.calls _ _ _ _ _ _ ly _ (by rw [pits_at,HLY.out])).mono ?_
       rintro e w4 ⟨v,rfl,hV,hb⟩
       obtain ⟨A4,c4,rfl⟩:=Kd.R_slice hV
       have HN4:=am (below_then HN.out (below_size HN.out) hb)
       have HC6:=am (Kd.F_below HC5.out hb)
       have HS6:=am (Kd.C_below HS5.out hb)
       have HB6:=am (below_then HB5.out (below_size HB5.out) hb)
       have HX5:=am (blk_below HX4.out hb)
       have H4:=am ((Kd.R_reads' hV).2.2)
       clear hb hV g0 g1 hy0 hy1 hy2 hy3 hy4 hy5 hp0
       go_wp2
       go_loopw [12,84] (fun v12 v84 wr => ∃ (j : Nat) (ok2 : Bool),j ≤ ly.length ∧ v12 = .bool ok2 ∧ v84 = ii (j : Int) ∧ Aside0 (Below w4.heap.size w4 wr) ∧ Aside0 ((ok2 && (ly.drop j).all fun q => p != q) = (ok && ly.all fun q => p != q))) (fun _ v84 _ => ly.length - (intOf v84).toNat)
       case atStart => exact ⟨0,ok,Nat.zero_le _,rfl,rfl,⟨Below.refl _ _⟩,⟨by rw [List.drop_zero]⟩⟩
       case round =>
        obtain ⟨j,ok2,hj,rfl,rfl,HNJ,HJ⟩:=hrel
        generalize wr = wj at HNJ ⊢
        by_cases hlj : j < ly.length
        ·
         obtain ⟨aq,e,hq0⟩:=Kd.at_int (Kd.C_below H4.out HNJ.out) (j : Int) (by omega) (by omega)
         cases e
         rw [Int.toNat_natCast] at hq0
         obtain ⟨q,hq⟩ : ∃ q,q = rd ly (j : Int):=⟨_,rfl⟩
         rw [← hq] at hq0
         have HJ2:=am (show ((ok2 && p != q) && (ly.drop (j + 1)).all fun q => p != q) = (ok && ly.all fun q => p != q) from by
          rw [← HJ.out,List.drop_eq_getElem_cons hlj,List.all_cons,hq,rd_nat hlj,Bool.and_assoc])
         clear hq
         cases ok2 with
        |false =>
          go_wp2
          go_roundw
          case rel => exact ⟨j + 1,false,by omega,by first|rfl|simp_all,by go_num,HNJ,⟨by rw [← HJ2.out];rfl⟩⟩
          case measure => simp [intOf];omega
        |true =>
          by_cases hpq : p = q
          ·
           have hb1 : (p != q) = false:=by rw [hpq];simp
           have HJ3:=am hb1
           clear hb1
           go_wp2
           go_roundw
           case rel => exact ⟨j + 1,false,by omega,by first|rfl|simp_all,by go_num,HNJ,⟨by rw [← HJ2.out];rw [HJ3.out];rfl⟩⟩
           case measure => simp [intOf];omega
          ·
           have hb1 : (p != q) = true:=by simpa using hpq
           have HJ3:=am hb1
           clear hb1
           go_wp2
           go_roundw
           case rel => exact ⟨j + 1,true,by omega,by first|rfl|simp_all,by go_num,HNJ,⟨by rw [← HJ2.out];rw [HJ3.out];rfl⟩⟩
           case measure => simp [intOf];omega
        ·
         have hje : j = ly.length:=by omega
         subst hje
         have HJE:=am (show ok2 = (ok && ly.all fun q => p != q) from by
          have h:=HJ.out
          rw [List.drop_length,List.all_nil,Bool.and_true] at h
          exact h)
         have HNZ:=am (below_then HN4.out (below_size HN4.out) HNJ.out)
         go_wp2
         go_roundw
         case rel => exact ⟨i + 1,ok2,by omega,rfl,by go_num,HNZ,⟨by rw [← HA.out,HJE.out,List.drop_eq_getElem_cons hlt,List.all_cons,HP.out,rd_nat hlt,Bool.and_assoc]⟩⟩
         case measure => simp [intOf];omega
      ·
       have hie : i = lx.length:=by omega
       subst hie
       have HRE:=am (show ok = R from by
        have h:=HA.out
        rw [List.drop_length,List.all_nil,Bool.and_true] at h
        exact h)
       have hok:=HRE.out
       subst hok
       obtain ⟨⟨s1,s2,s3,s4⟩,hsw⟩ : ∃ q : List Int × List S84 × Bool × Int,swapE rooms stirs (n : Int) = q:=⟨_,rfl⟩
       have HSW:=am (show ok = true → s3 = true ∧ s4 = 0 from fun hR => by
        have h:=apart_swap HQP.out (n:=n) (by have:=HN1.out;omega) hnl (by rw [← HYD.out,show ((n : Int) - 1) = (m : Int) by have:=HN1.out;omega,← HXD.out,← HLX.out,← HLY.out,← HR.out];exact hR)
        rw [hsw] at h
        exact h)
       have HSF:=am (show pit_Swap.f rooms stirs (n : Int) = some (s1,s2,s3,s4) from by unfold pit_Swap.f;rw [hsw])
       clear hsw
       have g0:=bd HX4.out 0
       have g1:=bd HX4.out 1
       go_wp2_with fail
       refine (pit_Swap.calls A c rooms (some ae) c2 stirs (n : Int) s1 s2 s3 s4 _ (Kd.F_now HC5.out) hc HS5.out hc2 HSF.out).mono ?_
       rintro e w4 ⟨v1,v2,rfl,hV1,hV2,hb⟩
       obtain ⟨A5,c5,rfl⟩:=Kd.V_slice hV1
       obtain ⟨A6,c6,rfl⟩:=Kd.V_slice hV2
       have HC6:=am (Kd.F_below HC5.out hb)
       have HS6:=am (Kd.C_below HS5.out hb)
       have HB6:=am (below_then HB5.out (below_size HB5.out) hb)
       have HX5:=am (blk_below HX4.out hb)
       clear hb hV1 hV2 g0 g1
       have HC7:=am (Kd.F_alloc HC6.out (.cells #[.slice A5 s1.length c5,.slice A6 s2.length c6] 32))
       have HS7:=am (Kd.C_alloc HS6.out (.cells #[.slice A5 s1.length c5,.slice A6 s2.length c6] 32))
       have HB7:=am (below_alloc HB6.out (.cells #[.slice A5 s1.length c5,.slice A6 s2.length c6] 32))
       have HX6:=am (blk_alloc HX5.out (.cells #[.slice A5 s1.length c5,.slice A6 s2.length c6] 32))
       go_upto_region 18 with fail
       generalize w4.alloc (.cells #[.slice A5 s1.length c5,.slice A6 s2.length c6] 32) = w5 at HC7 HS7 HB7 HX6 ⊢
       go_cut [111] (fun v111 wc => v111 = .bool false ∧ wc = w5)
       case first =>
        cases ok with
       |false =>
         go_wp2
         go_meet
         case rel => exact ⟨rfl,rfl⟩
       |true =>
         obtain ⟨rfl,rfl⟩:=HSW.out rfl
         go_wp2
         go_meet
         case rel => exact ⟨rfl,rfl⟩
       case rest =>
        obtain ⟨rfl,rfl⟩:=hcut
        clear hmi hmj hnl
        have hra:=HRG.out.2
        obtain ⟨p,hp,hpl⟩ : ∃ p : Nat,Int.tmod a2 ((stirs.length : Int) + 1) = (p : Int) ∧ p ≤ stirs.length:=by
         have g1:=Int.emod_nonneg a2 (show (stirs.length : Int) + 1 ≠ 0 by omega)
         have g2:=Int.emod_lt_of_pos a2 (show 0 < (stirs.length : Int) + 1 by omega)
         rw [Int.tmod_eq_emod_of_nonneg hra.1.1]
         exact ⟨(a2 % ((stirs.length : Int) + 1)).toNat,by omega,by omega⟩
        obtain ⟨q,hq,hql⟩ : ∃ q : Nat,Int.tmod a3 ((stirs.length : Int) + 1) = (q : Int) ∧ q ≤ stirs.length:=by
         have g1:=Int.emod_nonneg a3 (show (stirs.length : Int) + 1 ≠ 0 by omega)
         have g2:=Int.emod_lt_of_pos a3 (show 0 < (stirs.length : Int) + 1 by omega)
         rw [Int.tmod_eq_emod_of_nonneg hra.2.1]
         exact ⟨(a3 % ((stirs.length : Int) + 1)).toNat,by omega,by omega⟩
        have Q1:=am (show IntKind.i64.wrap (a2) = a2 from by rw [IntWalk.i64_in (a2) (by omega)])
        have Q1W:=am (show wrap64 (a2) = a2 from by rw [wrap_in (n:=a2) (by omega) (by omega)])
        have Q2:=am (show IntKind.i64.wrap (a3) = a3 from by rw [IntWalk.i64_in (a3) (by omega)])
        have Q2W:=am (show wrap64 (a3) = a3 from by rw [wrap_in (n:=a3) (by omega) (by omega)])
        have Q3:=am (show IntKind.i64.wrap ((stirs.length : Int) + 1) = (stirs.length : Int) + 1 from by rw [IntWalk.i64_in ((stirs.length : Int) + 1) (by omega)])
        have Q3W:=am (show wrap64 ((stirs.length : Int) + 1) = (stirs.length : Int) + 1 from by rw [wrap_in (n:=(stirs.length : Int) + 1) (by omega) (by omega)])
        have hnz : ¬ (stirs.length : Int) + 1 = 0:=by omega
        have hnzb : ((stirs.length : Int) + 1 == 0) = false:=beq_eq_false_iff_ne.2 hnz
        obtain ⟨lo,hi_,hmn,hmx,hlh,hlp,hhp⟩:=mnx_nat p q
        have hhl : hi_ ≤ stirs.length:=by omega
        have HMN:=am hmn
        have HMX:=am hmx
        have HLH:=am (show lo ≤ hi_ ∧ hi_ ≤ stirs.length from ⟨hlh,hhl⟩)
        clear hmn hmx hlh hlp hhp hhl hra hpl hql
        have HC8:=am (Kd.F_drew HC7.out)
        have HS8:=am (Kd.C_drew HS7.out)
        have HB8:=am (below_drew HB7.out)
        have HX7:=am (blk_drew HX6.out)
        have q1:=Q1.out
        have q1w:=Q1W.out
        have q2:=Q2.out
        have q2w:=Q2W.out
        have q3:=Q3.out
        have q3w:=Q3W.out
        go_wp2
        refine start_ (n:=16) (S:=fun w' => w'.cell? ⟨W.heap.size,0,none⟩ = some (.slice A rooms.length c) ∧ w'.cell? ⟨W.heap.size,1,none⟩ = some (.slice (some ae) stirs.length c2)) (ds:=[]) (ab 16 0) kr rfl kr ⟨(blk_cell HX7.out 0).trans rfl,(blk_cell HX7.out 1).trans rfl⟩ (fun hHeld => ?_);refine with_tabW R13_20.tab R13_20.bits (fun HT_ HW_ => ?_)
        generalize (wc).drew = wd at HC8 HS8 HB8 HX7 hHeld ⊢
        refine qA 0 (some 112) ?_;refine qA 1 (some 113) ?_;refine qA 2 (some 114) ?_;refine qT 3 (some 115) ?_;refine qA 4 (some 116) ?_;refine qA 5 (some 117) ?_;refine qA 6 (some 118) ?_;refine qA 7 (some 119) ?_;refine qA 8 (some 120) ?_;refine qA 9 (some 121) ?_;refine qT 10 (some 122) ?_;refine qA 11 (some 123) ?_;refine qA 12 (some 124) ?_;refine qA 13 (some 125) ?_;refine qA 14 (some 20) ?_;refine qA 15 (some 21) ?_
        refine done_ (done_of HT_.out kr) ?_
        clear q1 q1w q2 q2w q3 q3w hnz hnzb hp hq
        obtain ⟨tk,htk⟩ : ∃ tk,tk = stirs.take hi_:=⟨_,rfl⟩
        obtain ⟨tl,htl⟩ : ∃ tl,tl = stirs.take lo:=⟨_,rfl⟩
        have HK1:=am (show pit_Cut.f rooms stirs (hi_ : Int) = some (rooms,tk,0) from by rw [htk];exact cut_at HQP.out HLH.out.2)
        have HK3:=am (show pit_Cut.f rooms stirs (lo : Int) = some (rooms,tl,0) from by rw [htl];exact cut_at HQP.out (by have:=HLH.out;omega))
        have HK2:=am (show pit_Cut.f rooms tk (lo : Int) = some (rooms,tl,0) from by
         obtain ⟨f1,Z,f2,f3⟩:=played_cut HQP.out HLH.out.2
         rw [htk,cut_at (stirs:=stirs.take hi_) (Y:=Z) (by rw [f1];exact f2) (by rw [f1];exact HLH.out.1),List.take_take,Nat.min_eq_left HLH.out.1,htl])
        have HTL:=am htl
        clear htk htl
        have hmx : (if (p : Int) < (q : Int) then (q : Int) else (p : Int)) = (hi_ : Int):=HMX.out
        have hmn : (if (q : Int) < (p : Int) then (q : Int) else (p : Int)) = (lo : Int):=HMN.out
        have hmx2 : (if p < q then (q : Int) else (p : Int)) = (hi_ : Int):=by
         rw [← hmx]
         by_cases c : p < q
         ·rw [if_pos c,if_pos (by omega)]
         ·rw [if_neg c,if_neg (by omega)]
        have hmn2 : (if q < p then (q : Int) else (p : Int)) = (lo : Int):=by
         rw [← hmn]
         by_cases c : q < p
         ·rw [if_pos c,if_pos (by omega)]
         ·rw [if_neg c,if_neg (by omega)]
        have g0:=bd HX7.out 0
        have g1:=bd HX7.out 1
        go_wp2_with fail
        refine (pit_Cut.calls A c rooms (some ae) c2 stirs (hi_ : Int) rooms tk 0 _ (Kd.F_now HC8.out) hc HS8.out hc2 HK1.out).mono ?_
        rintro e w6 ⟨v1,v2,rfl,hV1,hV2,hb⟩
        obtain ⟨A7,c7,rfl⟩:=Kd.V_slice hV1
        obtain ⟨A8,c8,rfl⟩:=Kd.V_slice hV2
        have HC9:=am (Kd.F_below HC8.out hb)
        have HS9:=am (Kd.C_below HS8.out hb)
        have HB9:=am (below_then HB8.out (below_size HB8.out) hb)
        have HX8:=am (blk_below HX7.out hb)
        have HCLA7:=am (show rooms.length ≤ c7 ∧ tk.length ≤ c8 from ⟨(Kd.V_reads' hV1).2.1,(Kd.V_reads' hV2).2.1⟩)
        have H7:=am ((Kd.V_reads' hV1).2.2)
        have H8:=am ((Kd.V_reads' hV2).2.2)
        clear hb hV1 hV2 g0 g1
        have HC10:=am (Kd.F_alloc HC9.out (.cells #[.slice A7 rooms.length c7,.slice A8 tk.length c8] 32))
        have HS10:=am (Kd.C_alloc HS9.out (.cells #[.slice A7 rooms.length c7,.slice A8 tk.length c8] 32))
        have HB10:=am (below_alloc HB9.out (.cells #[.slice A7 rooms.length c7,.slice A8 tk.length c8] 32))
        have HX9:=am (blk_alloc HX8.out (.cells #[.slice A7 rooms.length c7,.slice A8 tk.length c8] 32))
        have H71:=am (Kd.C_alloc H7.out (.cells #[.slice A7 rooms.length c7,.slice A8 tk.length c8] 32))
        have H81:=am (Kd.C_alloc H8.out (.cells #[.slice A7 rooms.length c7,.slice A8 tk.length c8] 32))
        have HT2:=am (blk_new w6 (.cells #[.slice A7 rooms.length c7,.slice A8 tk.length c8] 32))
        have g0:=bd HT2.out 0
        have g1:=bd HT2.out 1
        go_wp2_with fail
        refine (pit_Cut.calls A7 c7 rooms A8 c8 tk (lo : Int) rooms tl 0 _ H71.out HCLA7.out.1 H81.out HCLA7.out.2 HK2.out).mono ?_
        rintro e w7 ⟨v1,v2,rfl,hV1,hV2,hb⟩
        obtain ⟨A9,c9,rfl⟩:=Kd.V_slice hV1
        obtain ⟨A10,c10,rfl⟩:=Kd.V_slice hV2
        have HC11:=am (Kd.F_below HC10.out hb)
        have HS11:=am (Kd.C_below HS10.out hb)
        have HB11:=am (below_then HB10.out (below_size HB10.out) hb)
        have HX10:=am (blk_below HX9.out hb)
        have HCLA9:=am (show rooms.length ≤ c9 ∧ tl.length ≤ c10 from ⟨(Kd.V_reads' hV1).2.1,(Kd.V_reads' hV2).2.1⟩)
        have H9:=am ((Kd.V_reads' hV1).2.2)
        have H10:=am ((Kd.V_reads' hV2).2.2)
        clear hb hV1 hV2 g0 g1
        have HC12:=am (Kd.F_alloc HC11.out (.cells #[.slice A9 rooms.length c9,.slice A10 tl.length c10] 32))
        have HS12:=am (Kd.C_alloc HS11.out (.cells #[.slice A9 rooms.length c9,.slice A10 tl.length c10] 32))
        have HB12:=am (below_alloc HB11.out (.cells #[.slice A9 rooms.length c9,.slice A10 tl.length c10] 32))
        have HX11:=am (blk_alloc HX10.out (.cells #[.slice A9 rooms.length c9,.slice A10 tl.length c10] 32))
        have H91:=am (Kd.C_alloc H9.out (.cells #[.slice A9 rooms.length c9,.slice A10 tl.length c10] 32))
        have H101:=am (Kd.C_alloc H10.out (.cells #[.slice A9 rooms.length c9,.slice A10 tl.length c10] 32))
        have HT4:=am (blk_new w7 (.cells #[.slice A9 rooms.length c9,.slice A10 tl.length c10] 32))
        have g0:=bd HX11.out 0
        have g1:=bd HX11.out 1
        go_wp2_with fail
        refine (pit_Cut.calls A c rooms (some ae) c2 stirs (lo : Int) rooms tl 0 _ (Kd.F_now HC12.out) hc HS12.out hc2 HK3.out).mono ?_
        rintro e w8 ⟨v1,v2,rfl,hV1,hV2,hb⟩
        obtain ⟨A11,c11,rfl⟩:=Kd.V_slice hV1
        obtain ⟨A12,c12,rfl⟩:=Kd.V_slice hV2
        have HC13:=am (Kd.F_below HC12.out hb)
        have HS13:=am (Kd.C_below HS12.out hb)
        have HB13:=am (below_then HB12.out (below_size HB12.out) hb)
        have HX12:=am (blk_below HX11.out hb)
        have H92:=am (Kd.C_below H91.out hb)
        have H102:=am (Kd.C_below H101.out hb)
        have HT41:=am (blk_below HT4.out hb)
        have HCLA11:=am (show rooms.length ≤ c11 ∧ tl.length ≤ c12 from ⟨(Kd.V_reads' hV1).2.1,(Kd.V_reads' hV2).2.1⟩)
        have H11:=am ((Kd.V_reads' hV1).2.2)
        have H12:=am ((Kd.V_reads' hV2).2.2)
        clear hb hV1 hV2 g0 g1
        have HC14:=am (Kd.F_alloc HC13.out (.cells #[.slice A11 rooms.length c11,.slice A12 tl.length c12] 32))
        have HS14:=am (Kd.C_alloc HS13.out (.cells #[.slice A11 rooms.length c11,.slice A12 tl.length c12] 32))
        have HB14:=am (below_alloc HB13.out (.cells #[.slice A11 rooms.length c11,.slice A12 tl.length c12] 32))
        have HX13:=am (blk_alloc HX12.out (.cells #[.slice A11 rooms.length c11,.slice A12 tl.length c12] 32))
        have H93:=am (Kd.C_alloc H92.out (.cells #[.slice A11 rooms.length c11,.slice A12 tl.length c12] 32))
        have H103:=am (Kd.C_alloc H102.out (.cells #[.slice A11 rooms.length c11,.slice A12 tl.length c12] 32))
        have HT42:=am (blk_alloc HT41.out (.cells #[.slice A11 rooms.length c11,.slice A12 tl.length c12] 32))
        have H111:=am (Kd.C_alloc H11.out (.cells #[.slice A11 rooms.length c11,.slice A12 tl.length c12] 32))
        have H121:=am (Kd.C_alloc H12.out (.cells #[.slice A11 rooms.length c11,.slice A12 tl.length c12] 32))
        have HT6:=am (blk_new w8 (.cells #[.slice A11 rooms.length c11,.slice A12 tl.length c12] 32))
        have x0:=bd HT42.out 0
        have x1:=bd HT42.out 1
        have y0:=bd HT6.out 0
        have y1:=bd HT6.out 1
        have HR6:=am (show rooms.length ≤ 6 from by have h:=(played_ok HQP.out).2.2;have:=h.1.r6;rw [h.2] at this;exact this)
        have HSP:=am (show calxref04_SamePits.f 1000 rooms tl rooms tl = some true from by
         have h1:=HR6.out
         have h2 : tl.length ≤ 16:=by rw [HTL.out,List.length_take];omega
         exact samePits_at rooms tl (by omega) (by omega) (by omega) (by omega))
        go_wp2_with fail
        refine (calxref04_SamePits.calls 1000 A9 c9 rooms A10 c10 tl A11 c11 rooms A12 c12 tl true _ H93.out HCLA9.out.1 H103.out HCLA9.out.2 H111.out HCLA11.out.1 H121.out HCLA11.out.2 HSP.out).mono ?_
        rintro e w9 ⟨rfl,hb⟩
        have HC15:=am (Kd.F_below HC14.out hb)
        have HS15:=am (Kd.C_below HS14.out hb)
        have HB15:=am (below_then HB14.out (below_size HB14.out) hb)
        have HX14:=am (blk_below HX13.out hb)
        have H112:=am (Kd.C_below H111.out hb)
        have H122:=am (Kd.C_below H121.out hb)
        have HT61:=am (blk_below HT6.out hb)
        clear hb x0 x1 y0 y1
        have g0:=bd HX14.out 0
        have g1:=bd HX14.out 1
        go_wp2
        clear g0 g1
        go_loopw [169] (fun v169 wr => ∃ i : Nat,i ≤ rooms.length ∧ v169 = ii (i : Int) ∧ Aside0 (Below w9.heap.size w9 wr)) (fun v169 _ => rooms.length - (intOf v169).toNat)
        case atStart => exact ⟨0,Nat.zero_le _,rfl,⟨Below.refl _ _⟩⟩
        case round =>
         obtain ⟨i,hi,rfl,HN9⟩:=hrel
         generalize wr = wq2 at HN9 ⊢
         have HC16:=am (Kd.F_below HC15.out HN9.out)
         have HS16:=am (Kd.C_below HS15.out HN9.out)
         have HB16:=am (below_then HB15.out (below_size HB15.out) HN9.out)
         have HX15:=am (blk_below HX14.out HN9.out)
         have H113:=am (Kd.C_below H112.out HN9.out)
         have H123:=am (Kd.C_below H122.out HN9.out)
         have HT62:=am (blk_below HT61.out HN9.out)
         by_cases hlt : i < rooms.length
         ·
          obtain ⟨Z,hz1,hz2,hz3,hz4⟩ : ∃ Z,pit_Content.f rooms stirs (i : Int) (lo : Int) = some (pitP Z (i : Int),0) ∧ pit_Content.f rooms tl (i : Int) (lo : Int) = some (pitP Z (i : Int),0) ∧ (pitP Z (i : Int)).length ≤ 5000 ∧ ∀ x ∈ pitP Z (i : Int),x.f1.length ≤ 100:=by rw [HTL.out];exact content_two HQP.out (by have:=HLH.out;omega) hlt
          obtain ⟨l,hl⟩ : ∃ l,l = pitP Z (i : Int):=⟨_,rfl⟩
          rw [← hl] at hz1 hz2 hz3 hz4
          have HZ1:=am hz1
          have HZ2:=am hz2
          have HZ3:=am (sameParcels_at l hz3 hz4 (k:=6000) (by omega))
          clear hl hz1 hz2 hz3 hz4 Z
          have g0:=bd HX15.out 0
          have g1:=bd HX15.out 1
          go_wp2_with fail
          refine (pit_Content.calls A c rooms (some ae) c2 stirs (i : Int) (lo : Int) l 0 _ (Kd.F_now HC16.out) hc HS16.out hc2 HZ1.out).mono ?_
          rintro e w11 ⟨v,rfl,hV,hb⟩
          obtain ⟨A13,c13,rfl⟩:=Kd.V_slice hV
          have HL13:=am (Kd.V_reads' hV).2.1
          have HN11:=am (below_then HN9.out (below_size HN9.out) hb)
          have H114:=am (Kd.C_below H113.out hb)
          have H124:=am (Kd.C_below H123.out hb)
          have HT63:=am (blk_below HT62.out hb)
          have H13:=am ((Kd.V_reads' hV).2.2)
          clear hb hV g0 g1
          have y0:=bd HT63.out 0
          have y1:=bd HT63.out 1
          go_wp2_with fail
          refine (pit_Content.calls A11 c11 rooms A12 c12 tl (i : Int) (lo : Int) l 0 _ H114.out HCLA11.out.1 H124.out HCLA11.out.2 HZ2.out).mono ?_
          rintro e w12 ⟨v,rfl,hV,hb⟩
          obtain ⟨A14,c14,rfl⟩:=Kd.V_slice hV
          have HL14:=am (Kd.V_reads' hV).2.1
          have HN12:=am (below_then HN11.out (below_size HN11.out) hb)
          have H131:=am (Kd.C_below H13.out hb)
          have H14:=am ((Kd.V_reads' hV).2.2)
          clear hb hV y0 y1
          go_wp2_with fail
          refine (calxref04_SameParcels.calls 6000 A13 c13 l A14 c14 l true _ H131.out HL13.out H14.out HL14.out HZ3.out).mono ?_
          rintro e w13 ⟨rfl,mm,rfl⟩
          have HN13:=am (pw_below_drewN HN12.out mm)
          have hr6:=HR6.out
          go_wp2
          go_roundw
          case rel => exact ⟨i + 1,by omega,by go_num,HN13⟩
          case measure => simp [intOf];omega
         ·
          go_wp2_with fail
          refine (calxlaw04_sanity.calls true _ rfl).mono ?_
          rintro e wz ⟨rfl,hb⟩
          have HBZ:=am (below_then HB16.out (below_size HB16.out) hb)
          clear hb
          go_wp2
          go_ret
          exact ⟨rfl,HBZ.out⟩
theorem purePitApart (lA : List Int) (_ : lA.length ≤ 9223372036854775807) (_ : ∀ x ∈ lA,W64 x) (lB : List S84) (_ : lB.length ≤ 9223372036854775807) (_ : ∀ x ∈ lB,Wf6 x) (a1 : Int) (w1 : (Lit.int .u8 a1).wf = true) (a2 : Int) (w2 : (Lit.int .u8 a2).wf = true) (a3 : Int) (w3 : (Lit.int .u8 a3).wf = true) :
  ∃ k,calxlaw04_PitApart.f k lA lB a1 a2 a3 = some true:=by
 have u8 : ∀ x : Int,(Lit.int .u8 x).wf = true → 0 ≤ x ∧ x ≤ 255:=by
  intro x hx
  have h1 : IntKind.u8.min = 0:=rfl
  have h2 : IntKind.u8.max = 255:=rfl
  simp only [Lit.wf,Bool.and_eq_true,decide_eq_true_eq] at hx
  omega
 exact ⟨0,if_pos ⟨u8 a1 w1,u8 a2 w2,u8 a3 w3⟩⟩
end Go.Proofs.YtjjfpmapjjemcaaGreat.B
end
