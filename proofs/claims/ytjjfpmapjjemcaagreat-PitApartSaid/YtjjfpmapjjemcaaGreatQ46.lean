import Derived.Test.YtjjfpmapjjemcaaGreatQ45
import Derived.Test.YtjjfpmapjjemcaaGreatQ7
set_option linter.unusedVariables false
set_option linter.unusedSimpArgs false
section
namespace Go.Proofs.YtjjfpmapjjemcaaGreat.B
open Go.RowKit Go.Proofs.YtjjfpmapjjemcaaGreatW.PrintWords Go.Proofs.YtjjfpmapjjemcaaGreatW.PrintLast Go.Proofs.YtjjfpmapjjemcaaGreatW.PrintMore
attribute [local go_sem] max2_int min2_int max_two min_two max_three min_three max_four min_four
def R132_10.T : Bool × List (List Nat × List Nat):=(true,[([],[]),([0],[0]),([1],[1]),([],[]),([3],[3]),([2,4],[2,4]),([],[]),([6],[6]),([5,7],[5,7]),([],[]),([9],[9]),([10],[10]),([],[]),([12],[12]),([11,13],[11,13]),([],[]),([15],[15]),([14,16,8],[14,16]),([],[]),([],[]),([18,8,17,0,1,2,3,4,5,6,7,8,18,19],[8,18]),([19,17,20,0,1,2,3,4,5,6,7,8,9,10,11,12,13,14,15,16,17,18,19,20],[17,19])])
def R132_10.B : List Nat:=[0,1,3,0,8,31,0,64,255,0,512,1536,0,4096,15872,0,32768,131071,0,0,1048575,2097151]
theorem R132_10.tab : rtab .any (opsOf Tryz.f132 10) = R132_10.T:=by kernel_rfl
theorem R132_10.bits : waitsOk R132_10.T.2 R132_10.B = true:=by kernel_rfl
set_option maxRecDepth 100000 in
set_option maxHeartbeats 8000000 in
theorem blamed_calls {W : World} {base n : Nat} {L : Loc} {Y : Yd} (hY : YardAt W base L Y) (hw : Wf n Y) (hn : n ≤ 60) (A : Option Addr) (c : Nat) (l : List S137) (hr : Kd.C k137 W A l.length l) (hlc : l.length ≤ c) (hpk : ∀ x ∈ l,Y.barrows.any (isId x.f0) = true ∧ milleP x.f1 = true) (pour : Int) :
  Calls Tryz.prog 132 #[.pointer (some ⟨L.g,0,none⟩),.slice A l.length c,ii pour] W fun e W' => e = .returned (.tuple #[.agg #[ii (blamedP Y l pour).1.f0,ii (blamedP Y l pour).1.f1.f0,ii (blamedP Y l pour).1.f1.f1,ii (blamedP Y l pour).1.f2.f0,ii (blamedP Y l pour).1.f2.f1],ii (blamedP Y l pour).2.1,.bool (blamedP Y l pour).2.2]) ∧ Below W.heap.size W W':=by
 have hu139:=Tryz.underlying139
 have hu137:=Tryz.underlying137
 have hu167:=Tryz.underlying167
 have hu66:=Tryz.underlying66
 have hu43:=Tryz.underlying43
 have hmx:=hr.2.1
 have HW:=am hw
 have HPK:=am hpk
 have HC:=am (hr)
 have HY:=am (hY)
 have HB:=am (Below.refl W.heap.size W)
 have HC1:=am (Kd.C_alloc HC.out (.cells #[ii 0,ii 0,ii 0,ii 0,ii 0] 139))
 have HY1:=am (HY.out.move (below_alloc (Below.refl _ _) (.cells #[ii 0,ii 0,ii 0,ii 0,ii 0] 139)))
 have HB1:=am (below_alloc HB.out (.cells #[ii 0,ii 0,ii 0,ii 0,ii 0] 139))
 have HR:=am (blk_new W (.cells #[ii 0,ii 0,ii 0,ii 0,ii 0] 139))
 obtain ⟨q,hq⟩ : ∃ q,q = blamedP Y l pour:=⟨_,rfl⟩
 rw [← hq]
 have HQ:=am hq
 clear hq hr hY hw hpk
 go_enter Tryz.func132,Tryz.ntmps132
 go_wp2_with fail
 refine (pit_whole.calls 0 0 1 _ rfl).mono ?_
 rintro e w1 ⟨rfl,hb⟩
 have HC2:=am (Kd.C_below HC1.out hb)
 have HY2:=am (HY1.out.move hb)
 have HB2:=am (below_then HB1.out (below_size HB1.out) hb)
 have HR1:=am (blk_below HR.out hb)
 clear hb
 go_wp2_with fail
 refine (pit_whole.calls 1000 1000 1 _ rfl).mono ?_
 rintro e w2 ⟨rfl,hb⟩
 have HC3:=am (Kd.C_below HC2.out hb)
 have HY3:=am (HY2.out.move hb)
 have HB3:=am (below_then HB2.out (below_size HB2.out) hb)
 have HR2:=am (blk_below HR1.out hb)
 clear hb
 go_wp2
 go_loopw [23] (fun v23 wr => ∃ (j : Nat) (lo hi : S43),j ≤ l.length ∧ v23 = ii (j : Int) ∧ Aside0 (Below w2.heap.size w2 wr) ∧ Aside0 (wr.heap[w2.heap.size]? = some (.cells #[ii pour,ii lo.f0,ii lo.f1,ii hi.f0,ii hi.f1] 139 (0,0))) ∧ Aside0 (EndOk lo) ∧ Aside0 (EndOk hi) ∧ Aside0 (q = blameL Y pour lo hi (j : Int) (l.drop j))) (fun v23 _ => l.length - (intOf v23).toNat)
 case atStart => exact ⟨0,wholeP 0,wholeP 1000,Nat.zero_le _,rfl,⟨below_alloc (Below.refl _ _) _⟩,⟨blk_new _ _⟩,⟨wholeP_ok (by decide),by decide,by decide⟩,⟨wholeP_ok (by decide),by decide,by decide⟩,⟨HQ.out⟩⟩
 case round =>
  obtain ⟨j,lo,hi,hj,rfl,HN,HT,HLO,HHI,HA⟩:=hrel
  by_cases hlt : j < l.length
  ·
   obtain ⟨ae,e,hx0,hx1,hx2⟩:=at_T137 (Kd.C_below HC3.out HN.out) (j : Int) (by omega) (by omega)
   cases e
   rw [Int.toNat_natCast] at hx0 hx1 hx2
   have hmem : rd_T137 l (j : Int) ∈ l:=getD_mem_ hlt
   have HPX:=am (HPK.out _ hmem)
   rw [drop_rd137 hlt] at HA
   obtain ⟨x,hx⟩ : ∃ x,x = rd_T137 l (j : Int):=⟨_,rfl⟩
   rw [← hx] at hx0 hx1 hx2 HA HPX
   clear hx hmem
   have HT1:=am (blk_alloc HT.out (.cells #[ii x.f0,ii x.f1.f0,ii x.f1.f1] 137))
   have HN1:=am (below_alloc HN.out (.cells #[ii x.f0,ii x.f1.f0,ii x.f1.f1] 137))
   have HX:=am (blk_new wr (.cells #[ii x.f0,ii x.f1.f0,ii x.f1.f1] 137))
   go_wp2_with fail
   refine (find_calls (HY3.out.move (below_alloc HN.out (.cells #[ii x.f0,ii x.f1.f0,ii x.f1.f1] 137))) HW.out (by omega) x.f0).mono ?_
   rintro e w5 ⟨hb,h⟩
   have HT2:=am (blk_below HT1.out hb)
   have HN2:=am (below_then HN1.out (below_size HN1.out) hb)
   have HX1:=am (blk_below HX.out hb)
   clear hb hx0 hx1 hx2
   rcases h with ⟨hno,_⟩|⟨b,A3,c3,hfd,rfl,hl3,hF3⟩
   ·exact absurd (HPX.out.1.symm.trans hno) (by simp)
   have HBO:=am (HW.out.barrows b (List.mem_of_find?_eq_some hfd))
   have HBD:=am (show barrowD Y x.f0 = b by unfold barrowD;rw [hfd];rfl)
   have HL3:=am hl3
   have HG:=am (Kd.F_now hF3)
   have HT3:=am (blk_alloc HT2.out (.cells #[ii b.f0,ii b.f1,ii b.f2,.slice A3 b.f3.length c3] 167))
   have HN3:=am (below_alloc HN2.out (.cells #[ii b.f0,ii b.f1,ii b.f2,.slice A3 b.f3.length c3] 167))
   have HX2:=am (blk_alloc HX1.out (.cells #[ii b.f0,ii b.f1,ii b.f2,.slice A3 b.f3.length c3] 167))
   have HG1:=am (Kd.C_alloc HG.out (.cells #[ii b.f0,ii b.f1,ii b.f2,.slice A3 b.f3.length c3] 167))
   clear hfd hl3 hF3
   have HSS:=am (share_some HBO.out pour)
   have HSB:=am (shareP_bnd HBO.out pour)
   obtain ⟨s,hs⟩ : ∃ s,s = shareP b pour:=⟨_,rfl⟩
   rw [← hs] at HSS HSB
   have HS:=am (show shareP (barrowD Y x.f0) pour = s by rw [HBD.out,hs])
   clear hs
   go_wp2_with fail
   refine (pit_barrow_share.calls FU _ _ _ _ _ _ _ _ _ _ HG1.out HL3.out HSS.out).mono ?_
   rintro e w6 ⟨rfl,hb⟩
   have HT4:=am (blk_below HT3.out hb)
   have HN4:=am (below_then HN3.out (below_size HN3.out) hb)
   have HX3:=am (blk_below HX2.out hb)
   clear hb
   have HT5:=am (blk_alloc HT4.out (.cells #[ii s.f0,ii s.f1] 43))
   have HN5:=am (below_alloc HN4.out (.cells #[ii s.f0,ii s.f1] 43))
   have HX4:=am (blk_alloc HX3.out (.cells #[ii s.f0,ii s.f1] 43))
   have HE:=am (blk_new w6 (.cells #[ii s.f0,ii s.f1] 43))
   by_cases hs0 : s.f0 = 0
   ·
    rw [hs0] at HT5 HN5 HX4 HE
    have g1:=bd HX4.out 1
    by_cases hx0 : x.f1.f0 > 0
    ·
     have HR9:=am (blk_below HR2.out HN5.out)
     have HB9:=am (below_then HB3.out (below_size HB3.out) HN5.out)
     have HE9:=am (show q = (⟨0,⟨0,0⟩,⟨0,0⟩⟩,(j : Int),false) by rw [HA.out];simp only [blameL];rw [HS.out,if_pos hs0,if_pos hx0])
     have u0:=bd HR9.out 0
     have fu0:=blk_frozen HR9.out 0
     have u1:=bd HR9.out 1
     have fu1:=blk_frozen HR9.out 1
     have u2:=bd HR9.out 2
     have fu2:=blk_frozen HR9.out 2
     have u3:=bd HR9.out 3
     have fu3:=blk_frozen HR9.out 3
     have u4:=bd HR9.out 4
     have fu4:=blk_frozen HR9.out 4
     go_wp2
     rw [HE9.out]
     have bz:=blk_put (cs':=#[ii 0,ii 0,ii 0,ii 0,ii 0]) (blk_put (cs':=#[ii 0,ii 0,ii 0,ii 0,ii 0]) (blk_put (cs':=#[ii 0,ii 0,ii 0,ii 0,ii 0]) (blk_put (cs':=#[ii 0,ii 0,ii 0,ii 0,ii 0]) (blk_put (cs':=#[ii 0,ii 0,ii 0,ii 0,ii 0]) (HR9.out) 0 (ii 0) rfl) 1 (ii 0) rfl) 2 (ii 0) rfl) 3 (ii 0) rfl) 4 (ii 0) rfl
     have z0:=bd bz 0
     have z1:=bd bz 1
     have z2:=bd bz 2
     have z3:=bd bz 3
     have z4:=bd bz 4
     exact bodyPost_ret (v:=.tuple #[.agg #[ii 0,ii 0,ii 0,ii 0,ii 0],ii (j : Int),.bool false]) (by simp [results,Tryz.results132,go_sem,z0,z1,z2,z3,z4,hu139,hu43]) rfl ⟨rfl,(((((HB9.out).setCell (p:=⟨W.heap.size,0,none⟩) (by first|(simp;done)|(simp;omega)) (ii 0)).setCell (p:=⟨W.heap.size,1,none⟩) (by first|(simp;done)|(simp;omega)) (ii 0)).setCell (p:=⟨W.heap.size,2,none⟩) (by first|(simp;done)|(simp;omega)) (ii 0)).setCell (p:=⟨W.heap.size,3,none⟩) (by first|(simp;done)|(simp;omega)) (ii 0)).setCell (p:=⟨W.heap.size,4,none⟩) (by first|(simp;done)|(simp;omega)) (ii 0)⟩
    ·
     go_wp2
     go_roundw
     case rel => exact ⟨j + 1,lo,hi,by omega,by go_num,HN5,HT5,HLO,HHI,⟨by rw [HA.out];simp only [blameL];rw [HS.out,if_pos hs0,if_neg (by omega)];rfl⟩⟩
     case measure => simp [intOf];omega
   ·
    have hs1 : 1 ≤ s.f0:=by have:=HSB.out.1.1;omega
    obtain ⟨hm0,hm1,hm2,hm3⟩:=milleP_of HPX.out.2
    obtain ⟨ha1,ha2,ha3,ha4⟩:=endP_ok hm0 hm1 HSB.out.1 HSB.out.2.1 HSB.out.2.2 hs1
    obtain ⟨hb1,hb2,hb3,hb4⟩:=endP_ok hm2 hm3 HSB.out.1 HSB.out.2.1 HSB.out.2.2 hs1
    have hwa : IntKind.i64.wrap (x.f1.f0 * s.f1) = x.f1.f0 * s.f1:=IntWalk.i64_in _ (by omega)
    have hwb : IntKind.i64.wrap (x.f1.f1 * s.f1) = x.f1.f1 * s.f1:=IntWalk.i64_in _ (by omega)
    obtain ⟨a,ha⟩ : ∃ a,a = endP x.f1.f0 s:=⟨_,rfl⟩
    obtain ⟨z,hz⟩ : ∃ z,z = endP x.f1.f1 s:=⟨_,rfl⟩
    rw [← ha] at ha1 ha4
    rw [← hz] at hb1 hb4
    have HAE:=am ha
    have HZE:=am hz
    have HA1:=am ha1
    have HA4:=am ha4
    have HZ1:=am hb1
    have HZ4:=am hb4
    clear ha hz ha1 ha2 ha3 ha4 hb1 hb2 hb3 hb4 hm0 hm1 hm2 hm3
    have HA2:=am (show q = if cmpP (maxR a lo) (minR z hi) > 0 then (⟨0,⟨0,0⟩,⟨0,0⟩⟩,(j : Int),false) else blameL Y pour (maxR a lo) (minR z hi) ((j : Int) + 1) (l.drop (j + 1)) by rw [HA.out];simp only [blameL];rw [HS.out,if_neg hs0,← HAE.out,← HZE.out])
    have HT6:=am (blk_drew HT5.out)
    have HN6:=am (below_drew HN5.out)
    have HX5:=am (blk_drew HX4.out)
    have HE1:=am (blk_drew HE.out)
    go_wp2
    refine start_ (n:=22) (S:=fun w' => w'.cell? ⟨wr.heap.size,1,none⟩ = some (ii x.f1.f0) ∧ w'.cell? ⟨wr.heap.size,2,none⟩ = some (ii x.f1.f1) ∧ w'.cell? ⟨w6.heap.size,0,none⟩ = some (ii s.f0) ∧ w'.cell? ⟨w6.heap.size,1,none⟩ = some (ii s.f1)) (ds:=[20,21]) (ab 22 0) kr rfl kr ⟨(blk_cell HX5.out 1).trans rfl,(blk_cell HX5.out 2).trans rfl,(blk_cell HE1.out 0).trans rfl,(blk_cell HE1.out 1).trans rfl⟩ (fun hHeld => ?_);refine with_tabW R132_10.tab R132_10.bits (fun HT_ HW_ => ?_)
    generalize ((w6.alloc (.cells #[ii s.f0,ii s.f1] 43))).drew = wd at HT6 HN6 HX5 HE1 hHeld ⊢
    refine qA 0 (some 47) ?_;refine qA 1 (some 48) ?_;refine qT 2 (some 49) ?_;refine qA 3 (some 50) ?_;refine qT 4 (some 51) ?_;refine qA 5 (some 52) ?_;refine qA 6 (some 53) ?_;refine qT 7 (some 54) ?_;refine qA 9 (some 56) ?_;refine qA 10 (some 57) ?_;refine qT 11 (some 58) ?_;refine qA 12 (some 59) ?_;refine qT 13 (some 60) ?_;refine qA 14 (some 61) ?_;refine qA 15 (some 62) ?_;refine qT 16 (some 63) ?_
    refine join_ (σ:=Nat × Nat) 2 (ab 22 1048575) (fun x => [(55,.agg #[ii a.f0,ii a.f1]),(64,.agg #[ii z.f0,ii z.f1]),(15,.pointer (some ⟨x.1,0,none⟩)),(16,.pointer (some ⟨x.2,0,none⟩))]) (fun x w' => Below wd.heap.size wd w' ∧ w'.heap[x.1]? = some (.cells #[ii 0,ii 0] 43 (0,0)) ∧ w'.heap[x.2]? = some (.cells #[ii 0,ii 0] 43 (0,0)) ∧ x.1 ≠ x.2 ∧ wd.heap.size ≤ x.1 ∧ wd.heap.size ≤ x.2) ?_ ?_
    rotate_left
    ·intro hCont
     refine three_ (i:=8) (j:=18) (k:=19) (Ni:=some 55) (Nj:=some 15) (Nk:=some 16) (ab 22 131071) (ab 22 392959) (ab 22 655103) rfl rfl rfl rfl rfl rfl (three_of HT_.out kr) (by decide) (by decide) (by decide) (fun K hK => ?_) (fun K hK => ?_) (fun K hK => ?_)
     ·skip
      refine gC Tryz.func157 #[ii (x.f1.f0 * s.f1),ii s.f0] ?_
      refine (pit_ratio.calls FU _ _ _ _ _ HA4.out).mono ?_
      rintro e wf1 ⟨rfl,hb⟩
      have hB_wf1 : Below wd.heap.size wd wf1:=below_then (Below.refl wd.heap.size wd) (below_size (Below.refl wd.heap.size wd)) hb
      refine ⟨_,rfl,?_⟩
      refine hK.out _ _ ⟨(blk_cell (blk_below HX5.out hB_wf1) 1).trans rfl,(blk_cell (blk_below HX5.out hB_wf1) 2).trans rfl,(blk_cell (blk_below HE1.out hB_wf1) 0).trans rfl,(blk_cell (blk_below HE1.out hB_wf1) 1).trans rfl⟩ (fun hHeld => ?_)
      clear hK K
      refine qN (some 55) ?_
      refine three_ (i:=17) (j:=18) (k:=19) (Ni:=some 64) (Nj:=some 15) (Nk:=some 16) (ab 22 262143) (ab 22 393215) (ab 22 655359) rfl rfl rfl rfl rfl rfl (three_of HT_.out kr) (by decide) (by decide) (by decide) (fun K hK => ?_) (fun K hK => ?_) (fun K hK => ?_)
      ·skip
       refine gC Tryz.func157 #[ii (x.f1.f1 * s.f1),ii s.f0] ?_
       refine (pit_ratio.calls FU _ _ _ _ _ HZ4.out).mono ?_
       rintro e wf2 ⟨rfl,hb⟩
       have hB_wf2 : Below wd.heap.size wd wf2:=below_then (hB_wf1) (below_size (hB_wf1)) hb
       refine ⟨_,rfl,?_⟩
       refine hK.out _ _ ⟨(blk_cell (blk_below HX5.out hB_wf2) 1).trans rfl,(blk_cell (blk_below HX5.out hB_wf2) 2).trans rfl,(blk_cell (blk_below HE1.out hB_wf2) 0).trans rfl,(blk_cell (blk_below HE1.out hB_wf2) 1).trans rfl⟩ (fun hHeld => ?_)
       clear hK K
       refine qN (some 64) ?_
       refine two_ (i:=18) (j:=19) (Ni:=some 15) (Nj:=some 16) (ab 22 524287) (ab 22 786431) rfl rfl rfl rfl (two_of HT_.out kr) (by decide) (by decide) (fun K hK => ?_) (fun K hK => ?_)
       ·skip
        refine value_ (w1:=?_) (v:=?_) (by rfl) rfl ?_ ?_
        rotate_left 2
        ·go_simp
         constructor
         ·rfl
         ·rfl
        refine hK.out _ _ ⟨(blk_cell (blk_below HX5.out (below_alloc (hB_wf2) (.cells #[ii 0,ii 0] 43))) 1).trans rfl,(blk_cell (blk_below HX5.out (below_alloc (hB_wf2) (.cells #[ii 0,ii 0] 43))) 2).trans rfl,(blk_cell (blk_below HE1.out (below_alloc (hB_wf2) (.cells #[ii 0,ii 0] 43))) 0).trans rfl,(blk_cell (blk_below HE1.out (below_alloc (hB_wf2) (.cells #[ii 0,ii 0] 43))) 1).trans rfl⟩ (fun hHeld => ?_)
        clear hK K
        refine qN (some 15) ?_
        refine one_ (i:=19) (N:=some 16) (ab 22 1048575) rfl rfl (one_of HT_.out kr) (by decide) (fun K hK => ?_)
        refine value_ (w1:=?_) (v:=?_) (by rfl) rfl ?_ ?_
        rotate_left 2
        ·go_simp
         constructor
         ·rfl
         ·rfl
        refine hK.out _ _ ⟨(blk_cell (blk_below HX5.out (below_alloc ((below_alloc (hB_wf2) (.cells #[ii 0,ii 0] 43))) (.cells #[ii 0,ii 0] 43))) 1).trans rfl,(blk_cell (blk_below HX5.out (below_alloc ((below_alloc (hB_wf2) (.cells #[ii 0,ii 0] 43))) (.cells #[ii 0,ii 0] 43))) 2).trans rfl,(blk_cell (blk_below HE1.out (below_alloc ((below_alloc (hB_wf2) (.cells #[ii 0,ii 0] 43))) (.cells #[ii 0,ii 0] 43))) 0).trans rfl,(blk_cell (blk_below HE1.out (below_alloc ((below_alloc (hB_wf2) (.cells #[ii 0,ii 0] 43))) (.cells #[ii 0,ii 0] 43))) 1).trans rfl⟩ (fun hHeld => ?_)
        clear hK K
        refine qN (some 16) ?_
        exact nI (hCont ⟨wf2.heap.size,wf2.heap.size + 1⟩ _ ⟨(below_alloc ((below_alloc (hB_wf2) (.cells #[ii 0,ii 0] 43))) (.cells #[ii 0,ii 0] 43)),(blk_alloc ((blk_new' wf2 (.cells #[ii 0,ii 0] 43) (wf2.heap.size) (by simp))) (.cells #[ii 0,ii 0] 43)),(blk_new' (wf2.alloc (.cells #[ii 0,ii 0] 43)) (.cells #[ii 0,ii 0] 43) (wf2.heap.size + 1) (by simp)),(by have h:=blk_lt ((blk_new' wf2 (.cells #[ii 0,ii 0] 43) (wf2.heap.size) (by simp)));first|omega|(simp at h;omega)),(by have h:=(hB_wf2).size;first|(simp;done)|simpa using h),(by have h:=((below_alloc (hB_wf2) (.cells #[ii 0,ii 0] 43))).size;first|(simp;done)|simpa using h)⟩)
       ·skip
        refine value_ (w1:=?_) (v:=?_) (by rfl) rfl ?_ ?_
        rotate_left 2
        ·go_simp
         constructor
         ·rfl
         ·rfl
        refine hK.out _ _ ⟨(blk_cell (blk_below HX5.out (below_alloc (hB_wf2) (.cells #[ii 0,ii 0] 43))) 1).trans rfl,(blk_cell (blk_below HX5.out (below_alloc (hB_wf2) (.cells #[ii 0,ii 0] 43))) 2).trans rfl,(blk_cell (blk_below HE1.out (below_alloc (hB_wf2) (.cells #[ii 0,ii 0] 43))) 0).trans rfl,(blk_cell (blk_below HE1.out (below_alloc (hB_wf2) (.cells #[ii 0,ii 0] 43))) 1).trans rfl⟩ (fun hHeld => ?_)
        clear hK K
        refine qN (some 16) ?_
        refine one_ (i:=18) (N:=some 15) (ab 22 1048575) rfl rfl (one_of HT_.out kr) (by decide) (fun K hK => ?_)
        refine value_ (w1:=?_) (v:=?_) (by rfl) rfl ?_ ?_
        rotate_left 2
        ·go_simp
         constructor
         ·rfl
         ·rfl
        refine hK.out _ _ ⟨(blk_cell (blk_below HX5.out (below_alloc ((below_alloc (hB_wf2) (.cells #[ii 0,ii 0] 43))) (.cells #[ii 0,ii 0] 43))) 1).trans rfl,(blk_cell (blk_below HX5.out (below_alloc ((below_alloc (hB_wf2) (.cells #[ii 0,ii 0] 43))) (.cells #[ii 0,ii 0] 43))) 2).trans rfl,(blk_cell (blk_below HE1.out (below_alloc ((below_alloc (hB_wf2) (.cells #[ii 0,ii 0] 43))) (.cells #[ii 0,ii 0] 43))) 0).trans rfl,(blk_cell (blk_below HE1.out (below_alloc ((below_alloc (hB_wf2) (.cells #[ii 0,ii 0] 43))) (.cells #[ii 0,ii 0] 43))) 1).trans rfl⟩ (fun hHeld => ?_)
        clear hK K
        refine qN (some 15) ?_
        exact nI (hCont ⟨wf2.heap.size + 1,wf2.heap.size⟩ _ ⟨(below_alloc ((below_alloc (hB_wf2) (.cells #[ii 0,ii 0] 43))) (.cells #[ii 0,ii 0] 43)),(blk_new' (wf2.alloc (.cells #[ii 0,ii 0] 43)) (.cells #[ii 0,ii 0] 43) (wf2.heap.size + 1) (by simp)),(blk_alloc ((blk_new' wf2 (.cells #[ii 0,ii 0] 43) (wf2.heap.size) (by simp))) (.cells #[ii 0,ii 0] 43)),(by have h:=blk_lt ((blk_new' wf2 (.cells #[ii 0,ii 0] 43) (wf2.heap.size) (by simp)));first|omega|(simp at h;omega)),(by have h:=((below_alloc (hB_wf2) (.cells #[ii 0,ii 0] 43))).size;first|(simp;done)|simpa using h),(by have h:=(hB_wf2).size;first|(simp;done)|simpa using h)⟩)
      ·skip
       refine value_ (w1:=?_) (v:=?_) (by rfl) rfl ?_ ?_
       rotate_left 2
       ·go_simp
        constructor
        ·rfl
        ·rfl
       refine hK.out _ _ ⟨(blk_cell (blk_below HX5.out (below_alloc (hB_wf1) (.cells #[ii 0,ii 0] 43))) 1).trans rfl,(blk_cell (blk_below HX5.out (below_alloc (hB_wf1) (.cells #[ii 0,ii 0] 43))) 2).trans rfl,(blk_cell (blk_below HE1.out (below_alloc (hB_wf1) (.cells #[ii 0,ii 0] 43))) 0).trans rfl,(blk_cell (blk_below HE1.out (below_alloc (hB_wf1) (.cells #[ii 0,ii 0] 43))) 1).trans rfl⟩ (fun hHeld => ?_)
       clear hK K
       refine qN (some 15) ?_
       refine two_ (i:=17) (j:=19) (Ni:=some 64) (Nj:=some 16) (ab 22 524287) (ab 22 917503) rfl rfl rfl rfl (two_of HT_.out kr) (by decide) (by decide) (fun K hK => ?_) (fun K hK => ?_)
       ·skip
        refine gC Tryz.func157 #[ii (x.f1.f1 * s.f1),ii s.f0] ?_
        refine (pit_ratio.calls FU _ _ _ _ _ HZ4.out).mono ?_
        rintro e wf3 ⟨rfl,hb⟩
        have hB_wf3 : Below wd.heap.size wd wf3:=below_then ((below_alloc (hB_wf1) (.cells #[ii 0,ii 0] 43))) (below_size ((below_alloc (hB_wf1) (.cells #[ii 0,ii 0] 43)))) hb
        have hb15_wf3:=blk_below ((blk_new' wf1 (.cells #[ii 0,ii 0] 43) (wf1.heap.size) (by simp))) hb
        refine ⟨_,rfl,?_⟩
        refine hK.out _ _ ⟨(blk_cell (blk_below HX5.out hB_wf3) 1).trans rfl,(blk_cell (blk_below HX5.out hB_wf3) 2).trans rfl,(blk_cell (blk_below HE1.out hB_wf3) 0).trans rfl,(blk_cell (blk_below HE1.out hB_wf3) 1).trans rfl⟩ (fun hHeld => ?_)
        clear hK K
        refine qN (some 64) ?_
        refine one_ (i:=19) (N:=some 16) (ab 22 1048575) rfl rfl (one_of HT_.out kr) (by decide) (fun K hK => ?_)
        refine value_ (w1:=?_) (v:=?_) (by rfl) rfl ?_ ?_
        rotate_left 2
        ·go_simp
         constructor
         ·rfl
         ·rfl
        refine hK.out _ _ ⟨(blk_cell (blk_below HX5.out (below_alloc (hB_wf3) (.cells #[ii 0,ii 0] 43))) 1).trans rfl,(blk_cell (blk_below HX5.out (below_alloc (hB_wf3) (.cells #[ii 0,ii 0] 43))) 2).trans rfl,(blk_cell (blk_below HE1.out (below_alloc (hB_wf3) (.cells #[ii 0,ii 0] 43))) 0).trans rfl,(blk_cell (blk_below HE1.out (below_alloc (hB_wf3) (.cells #[ii 0,ii 0] 43))) 1).trans rfl⟩ (fun hHeld => ?_)
        clear hK K
        refine qN (some 16) ?_
        exact nI (hCont ⟨wf1.heap.size,wf3.heap.size⟩ _ ⟨(below_alloc (hB_wf3) (.cells #[ii 0,ii 0] 43)),(blk_alloc (hb15_wf3) (.cells #[ii 0,ii 0] 43)),(blk_new' wf3 (.cells #[ii 0,ii 0] 43) (wf3.heap.size) (by simp)),(by have h:=blk_lt (hb15_wf3);first|omega|(simp at h;omega)),(by have h:=(hB_wf1).size;first|(simp;done)|simpa using h),(by have h:=(hB_wf3).size;first|(simp;done)|simpa using h)⟩)
       ·skip
        refine value_ (w1:=?_) (v:=?_) (by rfl) rfl ?_ ?_
        rotate_left 2
        ·go_simp
         constructor
         ·rfl
         ·rfl
        refine hK.out _ _ ⟨(blk_cell (blk_below HX5.out (below_alloc ((below_alloc (hB_wf1) (.cells #[ii 0,ii 0] 43))) (.cells #[ii 0,ii 0] 43))) 1).trans rfl,(blk_cell (blk_below HX5.out (below_alloc ((below_alloc (hB_wf1) (.cells #[ii 0,ii 0] 43))) (.cells #[ii 0,ii 0] 43))) 2).trans rfl,(blk_cell (blk_below HE1.out (below_alloc ((below_alloc (hB_wf1) (.cells #[ii 0,ii 0] 43))) (.cells #[ii 0,ii 0] 43))) 0).trans rfl,(blk_cell (blk_below HE1.out (below_alloc ((below_alloc (hB_wf1) (.cells #[ii 0,ii 0] 43))) (.cells #[ii 0,ii 0] 43))) 1).trans rfl⟩ (fun hHeld => ?_)
        clear hK K
        refine qN (some 16) ?_
        refine one_ (i:=17) (N:=some 64) (ab 22 1048575) rfl rfl (one_of HT_.out kr) (by decide) (fun K hK => ?_)
        refine gC Tryz.func157 #[ii (x.f1.f1 * s.f1),ii s.f0] ?_
        refine (pit_ratio.calls FU _ _ _ _ _ HZ4.out).mono ?_
        rintro e wf4 ⟨rfl,hb⟩
        have hB_wf4 : Below wd.heap.size wd wf4:=below_then ((below_alloc ((below_alloc (hB_wf1) (.cells #[ii 0,ii 0] 43))) (.cells #[ii 0,ii 0] 43))) (below_size ((below_alloc ((below_alloc (hB_wf1) (.cells #[ii 0,ii 0] 43))) (.cells #[ii 0,ii 0] 43)))) hb
        have hb15_wf4:=blk_below ((blk_alloc ((blk_new' wf1 (.cells #[ii 0,ii 0] 43) (wf1.heap.size) (by simp))) (.cells #[ii 0,ii 0] 43))) hb
        have hb16_wf4:=blk_below ((blk_new' (wf1.alloc (.cells #[ii 0,ii 0] 43)) (.cells #[ii 0,ii 0] 43) (wf1.heap.size + 1) (by simp))) hb
        refine ⟨_,rfl,?_⟩
        refine hK.out _ _ ⟨(blk_cell (blk_below HX5.out hB_wf4) 1).trans rfl,(blk_cell (blk_below HX5.out hB_wf4) 2).trans rfl,(blk_cell (blk_below HE1.out hB_wf4) 0).trans rfl,(blk_cell (blk_below HE1.out hB_wf4) 1).trans rfl⟩ (fun hHeld => ?_)
        clear hK K
        refine qN (some 64) ?_
        exact nI (hCont ⟨wf1.heap.size,wf1.heap.size + 1⟩ _ ⟨hB_wf4,hb15_wf4,hb16_wf4,(by have h:=blk_lt ((blk_new' wf1 (.cells #[ii 0,ii 0] 43) (wf1.heap.size) (by simp)));first|omega|(simp at h;omega)),(by have h:=(hB_wf1).size;first|(simp;done)|simpa using h),(by have h:=((below_alloc (hB_wf1) (.cells #[ii 0,ii 0] 43))).size;first|(simp;done)|simpa using h)⟩)
      ·skip
       refine value_ (w1:=?_) (v:=?_) (by rfl) rfl ?_ ?_
       rotate_left 2
       ·go_simp
        constructor
        ·rfl
        ·rfl
       refine hK.out _ _ ⟨(blk_cell (blk_below HX5.out (below_alloc (hB_wf1) (.cells #[ii 0,ii 0] 43))) 1).trans rfl,(blk_cell (blk_below HX5.out (below_alloc (hB_wf1) (.cells #[ii 0,ii 0] 43))) 2).trans rfl,(blk_cell (blk_below HE1.out (below_alloc (hB_wf1) (.cells #[ii 0,ii 0] 43))) 0).trans rfl,(blk_cell (blk_below HE1.out (below_alloc (hB_wf1) (.cells #[ii 0,ii 0] 43))) 1).trans rfl⟩ (fun hHeld => ?_)
       clear hK K
       refine qN (some 16) ?_
       refine two_ (i:=17) (j:=18) (Ni:=some 64) (Nj:=some 15) (ab 22 786431) (ab 22 917503) rfl rfl rfl rfl (two_of HT_.out kr) (by decide) (by decide) (fun K hK => ?_) (fun K hK => ?_)
       ·skip
        refine gC Tryz.func157 #[ii (x.f1.f1 * s.f1),ii s.f0] ?_
        refine (pit_ratio.calls FU _ _ _ _ _ HZ4.out).mono ?_
        rintro e wf5 ⟨rfl,hb⟩
        have hB_wf5 : Below wd.heap.size wd wf5:=below_then ((below_alloc (hB_wf1) (.cells #[ii 0,ii 0] 43))) (below_size ((below_alloc (hB_wf1) (.cells #[ii 0,ii 0] 43)))) hb
        have hb16_wf5:=blk_below ((blk_new' wf1 (.cells #[ii 0,ii 0] 43) (wf1.heap.size) (by simp))) hb
        refine ⟨_,rfl,?_⟩
        refine hK.out _ _ ⟨(blk_cell (blk_below HX5.out hB_wf5) 1).trans rfl,(blk_cell (blk_below HX5.out hB_wf5) 2).trans rfl,(blk_cell (blk_below HE1.out hB_wf5) 0).trans rfl,(blk_cell (blk_below HE1.out hB_wf5) 1).trans rfl⟩ (fun hHeld => ?_)
        clear hK K
        refine qN (some 64) ?_
        refine one_ (i:=18) (N:=some 15) (ab 22 1048575) rfl rfl (one_of HT_.out kr) (by decide) (fun K hK => ?_)
        refine value_ (w1:=?_) (v:=?_) (by rfl) rfl ?_ ?_
        rotate_left 2
        ·go_simp
         constructor
         ·rfl
         ·rfl
        refine hK.out _ _ ⟨(blk_cell (blk_below HX5.out (below_alloc (hB_wf5) (.cells #[ii 0,ii 0] 43))) 1).trans rfl,(blk_cell (blk_below HX5.out (below_alloc (hB_wf5) (.cells #[ii 0,ii 0] 43))) 2).trans rfl,(blk_cell (blk_below HE1.out (below_alloc (hB_wf5) (.cells #[ii 0,ii 0] 43))) 0).trans rfl,(blk_cell (blk_below HE1.out (below_alloc (hB_wf5) (.cells #[ii 0,ii 0] 43))) 1).trans rfl⟩ (fun hHeld => ?_)
        clear hK K
        refine qN (some 15) ?_
        exact nI (hCont ⟨wf5.heap.size,wf1.heap.size⟩ _ ⟨(below_alloc (hB_wf5) (.cells #[ii 0,ii 0] 43)),(blk_new' wf5 (.cells #[ii 0,ii 0] 43) (wf5.heap.size) (by simp)),(blk_alloc (hb16_wf5) (.cells #[ii 0,ii 0] 43)),(by have h:=blk_lt (hb16_wf5);first|omega|(simp at h;omega)),(by have h:=(hB_wf5).size;first|(simp;done)|simpa using h),(by have h:=(hB_wf1).size;first|(simp;done)|simpa using h)⟩)
       ·skip
        refine value_ (w1:=?_) (v:=?_) (by rfl) rfl ?_ ?_
        rotate_left 2
        ·go_simp
         constructor
         ·rfl
         ·rfl
        refine hK.out _ _ ⟨(blk_cell (blk_below HX5.out (below_alloc ((below_alloc (hB_wf1) (.cells #[ii 0,ii 0] 43))) (.cells #[ii 0,ii 0] 43))) 1).trans rfl,(blk_cell (blk_below HX5.out (below_alloc ((below_alloc (hB_wf1) (.cells #[ii 0,ii 0] 43))) (.cells #[ii 0,ii 0] 43))) 2).trans rfl,(blk_cell (blk_below HE1.out (below_alloc ((below_alloc (hB_wf1) (.cells #[ii 0,ii 0] 43))) (.cells #[ii 0,ii 0] 43))) 0).trans rfl,(blk_cell (blk_below HE1.out (below_alloc ((below_alloc (hB_wf1) (.cells #[ii 0,ii 0] 43))) (.cells #[ii 0,ii 0] 43))) 1).trans rfl⟩ (fun hHeld => ?_)
        clear hK K
        refine qN (some 15) ?_
        refine one_ (i:=17) (N:=some 64) (ab 22 1048575) rfl rfl (one_of HT_.out kr) (by decide) (fun K hK => ?_)
        refine gC Tryz.func157 #[ii (x.f1.f1 * s.f1),ii s.f0] ?_
        refine (pit_ratio.calls FU _ _ _ _ _ HZ4.out).mono ?_
        rintro e wf6 ⟨rfl,hb⟩
        have hB_wf6 : Below wd.heap.size wd wf6:=below_then ((below_alloc ((below_alloc (hB_wf1) (.cells #[ii 0,ii 0] 43))) (.cells #[ii 0,ii 0] 43))) (below_size ((below_alloc ((below_alloc (hB_wf1) (.cells #[ii 0,ii 0] 43))) (.cells #[ii 0,ii 0] 43)))) hb
        have hb15_wf6:=blk_below ((blk_new' (wf1.alloc (.cells #[ii 0,ii 0] 43)) (.cells #[ii 0,ii 0] 43) (wf1.heap.size + 1) (by simp))) hb
        have hb16_wf6:=blk_below ((blk_alloc ((blk_new' wf1 (.cells #[ii 0,ii 0] 43) (wf1.heap.size) (by simp))) (.cells #[ii 0,ii 0] 43))) hb
        refine ⟨_,rfl,?_⟩
        refine hK.out _ _ ⟨(blk_cell (blk_below HX5.out hB_wf6) 1).trans rfl,(blk_cell (blk_below HX5.out hB_wf6) 2).trans rfl,(blk_cell (blk_below HE1.out hB_wf6) 0).trans rfl,(blk_cell (blk_below HE1.out hB_wf6) 1).trans rfl⟩ (fun hHeld => ?_)
        clear hK K
        refine qN (some 64) ?_
        exact nI (hCont ⟨wf1.heap.size + 1,wf1.heap.size⟩ _ ⟨hB_wf6,hb15_wf6,hb16_wf6,(by have h:=blk_lt ((blk_new' wf1 (.cells #[ii 0,ii 0] 43) (wf1.heap.size) (by simp)));first|omega|(simp at h;omega)),(by have h:=((below_alloc (hB_wf1) (.cells #[ii 0,ii 0] 43))).size;first|(simp;done)|simpa using h),(by have h:=(hB_wf1).size;first|(simp;done)|simpa using h)⟩)
     ·skip
      refine value_ (w1:=?_) (v:=?_) (by rfl) rfl ?_ ?_
      rotate_left 2
      ·go_simp
       constructor
       ·rfl
       ·rfl
      refine hK.out _ _ ⟨(blk_cell (blk_below HX5.out (below_alloc (Below.refl wd.heap.size wd) (.cells #[ii 0,ii 0] 43))) 1).trans rfl,(blk_cell (blk_below HX5.out (below_alloc (Below.refl wd.heap.size wd) (.cells #[ii 0,ii 0] 43))) 2).trans rfl,(blk_cell (blk_below HE1.out (below_alloc (Below.refl wd.heap.size wd) (.cells #[ii 0,ii 0] 43))) 0).trans rfl,(blk_cell (blk_below HE1.out (below_alloc (Below.refl wd.heap.size wd) (.cells #[ii 0,ii 0] 43))) 1).trans rfl⟩ (fun hHeld => ?_)
      clear hK K
      refine qN (some 15) ?_
      refine two_ (i:=8) (j:=19) (Ni:=some 55) (Nj:=some 16) (ab 22 393215) (ab 22 917247) rfl rfl rfl rfl (two_of HT_.out kr) (by decide) (by decide) (fun K hK => ?_) (fun K hK => ?_)
      ·skip
       refine gC Tryz.func157 #[ii (x.f1.f0 * s.f1),ii s.f0] ?_
       refine (pit_ratio.calls FU _ _ _ _ _ HA4.out).mono ?_
       rintro e wf7 ⟨rfl,hb⟩
       have hB_wf7 : Below wd.heap.size wd wf7:=below_then ((below_alloc (Below.refl wd.heap.size wd) (.cells #[ii 0,ii 0] 43))) (below_size ((below_alloc (Below.refl wd.heap.size wd) (.cells #[ii 0,ii 0] 43)))) hb
       have hb15_wf7:=blk_below ((blk_new' wd (.cells #[ii 0,ii 0] 43) (wd.heap.size) (by simp))) hb
       refine ⟨_,rfl,?_⟩
       refine hK.out _ _ ⟨(blk_cell (blk_below HX5.out hB_wf7) 1).trans rfl,(blk_cell (blk_below HX5.out hB_wf7) 2).trans rfl,(blk_cell (blk_below HE1.out hB_wf7) 0).trans rfl,(blk_cell (blk_below HE1.out hB_wf7) 1).trans rfl⟩ (fun hHeld => ?_)
       clear hK K
       refine qN (some 55) ?_
       refine two_ (i:=17) (j:=19) (Ni:=some 64) (Nj:=some 16) (ab 22 524287) (ab 22 917503) rfl rfl rfl rfl (two_of HT_.out kr) (by decide) (by decide) (fun K hK => ?_) (fun K hK => ?_)
       ·skip
        refine gC Tryz.func157 #[ii (x.f1.f1 * s.f1),ii s.f0] ?_
        refine (pit_ratio.calls FU _ _ _ _ _ HZ4.out).mono ?_
        rintro e wf8 ⟨rfl,hb⟩
        have hB_wf8 : Below wd.heap.size wd wf8:=below_then (hB_wf7) (below_size (hB_wf7)) hb
        have hb15_wf8:=blk_below (hb15_wf7) hb
        refine ⟨_,rfl,?_⟩
        refine hK.out _ _ ⟨(blk_cell (blk_below HX5.out hB_wf8) 1).trans rfl,(blk_cell (blk_below HX5.out hB_wf8) 2).trans rfl,(blk_cell (blk_below HE1.out hB_wf8) 0).trans rfl,(blk_cell (blk_below HE1.out hB_wf8) 1).trans rfl⟩ (fun hHeld => ?_)
        clear hK K
        refine qN (some 64) ?_
        refine one_ (i:=19) (N:=some 16) (ab 22 1048575) rfl rfl (one_of HT_.out kr) (by decide) (fun K hK => ?_)
        refine value_ (w1:=?_) (v:=?_) (by rfl) rfl ?_ ?_
        rotate_left 2
        ·go_simp
         constructor
         ·rfl
         ·rfl
        refine hK.out _ _ ⟨(blk_cell (blk_below HX5.out (below_alloc (hB_wf8) (.cells #[ii 0,ii 0] 43))) 1).trans rfl,(blk_cell (blk_below HX5.out (below_alloc (hB_wf8) (.cells #[ii 0,ii 0] 43))) 2).trans rfl,(blk_cell (blk_below HE1.out (below_alloc (hB_wf8) (.cells #[ii 0,ii 0] 43))) 0).trans rfl,(blk_cell (blk_below HE1.out (below_alloc (hB_wf8) (.cells #[ii 0,ii 0] 43))) 1).trans rfl⟩ (fun hHeld => ?_)
        clear hK K
        refine qN (some 16) ?_
        exact nI (hCont ⟨wd.heap.size,wf8.heap.size⟩ _ ⟨(below_alloc (hB_wf8) (.cells #[ii 0,ii 0] 43)),(blk_alloc (hb15_wf8) (.cells #[ii 0,ii 0] 43)),(blk_new' wf8 (.cells #[ii 0,ii 0] 43) (wf8.heap.size) (by simp)),(by have h:=blk_lt (hb15_wf8);first|omega|(simp at h;omega)),(by have h:=(Below.refl wd.heap.size wd).size;first|(simp;done)|simpa using h),(by have h:=(hB_wf8).size;first|(simp;done)|simpa using h)⟩)
       ·skip
        refine value_ (w1:=?_) (v:=?_) (by rfl) rfl ?_ ?_
        rotate_left 2
        ·go_simp
         constructor
         ·rfl
         ·rfl
        refine hK.out _ _ ⟨(blk_cell (blk_below HX5.out (below_alloc (hB_wf7) (.cells #[ii 0,ii 0] 43))) 1).trans rfl,(blk_cell (blk_below HX5.out (below_alloc (hB_wf7) (.cells #[ii 0,ii 0] 43))) 2).trans rfl,(blk_cell (blk_below HE1.out (below_alloc (hB_wf7) (.cells #[ii 0,ii 0] 43))) 0).trans rfl,(blk_cell (blk_below HE1.out (below_alloc (hB_wf7) (.cells #[ii 0,ii 0] 43))) 1).trans rfl⟩ (fun hHeld => ?_)
        clear hK K
        refine qN (some 16) ?_
        refine one_ (i:=17) (N:=some 64) (ab 22 1048575) rfl rfl (one_of HT_.out kr) (by decide) (fun K hK => ?_)
        refine gC Tryz.func157 #[ii (x.f1.f1 * s.f1),ii s.f0] ?_
        refine (pit_ratio.calls FU _ _ _ _ _ HZ4.out).mono ?_
        rintro e wf9 ⟨rfl,hb⟩
        have hB_wf9 : Below wd.heap.size wd wf9:=below_then ((below_alloc (hB_wf7) (.cells #[ii 0,ii 0] 43))) (below_size ((below_alloc (hB_wf7) (.cells #[ii 0,ii 0] 43)))) hb
        have hb15_wf9:=blk_below ((blk_alloc (hb15_wf7) (.cells #[ii 0,ii 0] 43))) hb
        have hb16_wf9:=blk_below ((blk_new' wf7 (.cells #[ii 0,ii 0] 43) (wf7.heap.size) (by simp))) hb
        refine ⟨_,rfl,?_⟩
        refine hK.out _ _ ⟨(blk_cell (blk_below HX5.out hB_wf9) 1).trans rfl,(blk_cell (blk_below HX5.out hB_wf9) 2).trans rfl,(blk_cell (blk_below HE1.out hB_wf9) 0).trans rfl,(blk_cell (blk_below HE1.out hB_wf9) 1).trans rfl⟩ (fun hHeld => ?_)
        clear hK K
        refine qN (some 64) ?_
        exact nI (hCont ⟨wd.heap.size,wf7.heap.size⟩ _ ⟨hB_wf9,hb15_wf9,hb16_wf9,(by have h:=blk_lt (hb15_wf7);first|omega|(simp at h;omega)),(by have h:=(Below.refl wd.heap.size wd).size;first|(simp;done)|simpa using h),(by have h:=(hB_wf7).size;first|(simp;done)|simpa using h)⟩)
      ·skip
       refine value_ (w1:=?_) (v:=?_) (by rfl) rfl ?_ ?_
       rotate_left 2
       ·go_simp
        constructor
        ·rfl
        ·rfl
       refine hK.out _ _ ⟨(blk_cell (blk_below HX5.out (below_alloc ((below_alloc (Below.refl wd.heap.size wd) (.cells #[ii 0,ii 0] 43))) (.cells #[ii 0,ii 0] 43))) 1).trans rfl,(blk_cell (blk_below HX5.out (below_alloc ((below_alloc (Below.refl wd.heap.size wd) (.cells #[ii 0,ii 0] 43))) (.cells #[ii 0,ii 0] 43))) 2).trans rfl,(blk_cell (blk_below HE1.out (below_alloc ((below_alloc (Below.refl wd.heap.size wd) (.cells #[ii 0,ii 0] 43))) (.cells #[ii 0,ii 0] 43))) 0).trans rfl,(blk_cell (blk_below HE1.out (below_alloc ((below_alloc (Below.refl wd.heap.size wd) (.cells #[ii 0,ii 0] 43))) (.cells #[ii 0,ii 0] 43))) 1).trans rfl⟩ (fun hHeld => ?_)
       clear hK K
       refine qN (some 16) ?_
       refine one_ (i:=8) (N:=some 55) (ab 22 917503) rfl rfl (one_of HT_.out kr) (by decide) (fun K hK => ?_)
       refine gC Tryz.func157 #[ii (x.f1.f0 * s.f1),ii s.f0] ?_
       refine (pit_ratio.calls FU _ _ _ _ _ HA4.out).mono ?_
       rintro e wf10 ⟨rfl,hb⟩
       have hB_wf10 : Below wd.heap.size wd wf10:=below_then ((below_alloc ((below_alloc (Below.refl wd.heap.size wd) (.cells #[ii 0,ii 0] 43))) (.cells #[ii 0,ii 0] 43))) (below_size ((below_alloc ((below_alloc (Below.refl wd.heap.size wd) (.cells #[ii 0,ii 0] 43))) (.cells #[ii 0,ii 0] 43)))) hb
       have hb15_wf10:=blk_below ((blk_alloc ((blk_new' wd (.cells #[ii 0,ii 0] 43) (wd.heap.size) (by simp))) (.cells #[ii 0,ii 0] 43))) hb
       have hb16_wf10:=blk_below ((blk_new' (wd.alloc (.cells #[ii 0,ii 0] 43)) (.cells #[ii 0,ii 0] 43) (wd.heap.size + 1) (by simp))) hb
       refine ⟨_,rfl,?_⟩
       refine hK.out _ _ ⟨(blk_cell (blk_below HX5.out hB_wf10) 1).trans rfl,(blk_cell (blk_below HX5.out hB_wf10) 2).trans rfl,(blk_cell (blk_below HE1.out hB_wf10) 0).trans rfl,(blk_cell (blk_below HE1.out hB_wf10) 1).trans rfl⟩ (fun hHeld => ?_)
       clear hK K
       refine qN (some 55) ?_
       refine one_ (i:=17) (N:=some 64) (ab 22 1048575) rfl rfl (one_of HT_.out kr) (by decide) (fun K hK => ?_)
       refine gC Tryz.func157 #[ii (x.f1.f1 * s.f1),ii s.f0] ?_
       refine (pit_ratio.calls FU _ _ _ _ _ HZ4.out).mono ?_
       rintro e wf11 ⟨rfl,hb⟩
       have hB_wf11 : Below wd.heap.size wd wf11:=below_then (hB_wf10) (below_size (hB_wf10)) hb
       have hb15_wf11:=blk_below (hb15_wf10) hb
       have hb16_wf11:=blk_below (hb16_wf10) hb
       refine ⟨_,rfl,?_⟩
       refine hK.out _ _ ⟨(blk_cell (blk_below HX5.out hB_wf11) 1).trans rfl,(blk_cell (blk_below HX5.out hB_wf11) 2).trans rfl,(blk_cell (blk_below HE1.out hB_wf11) 0).trans rfl,(blk_cell (blk_below HE1.out hB_wf11) 1).trans rfl⟩ (fun hHeld => ?_)
       clear hK K
       refine qN (some 64) ?_
       exact nI (hCont ⟨wd.heap.size,wd.heap.size + 1⟩ _ ⟨hB_wf11,hb15_wf11,hb16_wf11,(by have h:=blk_lt ((blk_new' wd (.cells #[ii 0,ii 0] 43) (wd.heap.size) (by simp)));first|omega|(simp at h;omega)),(by have h:=(Below.refl wd.heap.size wd).size;first|(simp;done)|simpa using h),(by have h:=((below_alloc (Below.refl wd.heap.size wd) (.cells #[ii 0,ii 0] 43))).size;first|(simp;done)|simpa using h)⟩)
     ·skip
      refine value_ (w1:=?_) (v:=?_) (by rfl) rfl ?_ ?_
      rotate_left 2
      ·go_simp
       constructor
       ·rfl
       ·rfl
      refine hK.out _ _ ⟨(blk_cell (blk_below HX5.out (below_alloc (Below.refl wd.heap.size wd) (.cells #[ii 0,ii 0] 43))) 1).trans rfl,(blk_cell (blk_below HX5.out (below_alloc (Below.refl wd.heap.size wd) (.cells #[ii 0,ii 0] 43))) 2).trans rfl,(blk_cell (blk_below HE1.out (below_alloc (Below.refl wd.heap.size wd) (.cells #[ii 0,ii 0] 43))) 0).trans rfl,(blk_cell (blk_below HE1.out (below_alloc (Below.refl wd.heap.size wd) (.cells #[ii 0,ii 0] 43))) 1).trans rfl⟩ (fun hHeld => ?_)
      clear hK K
      refine qN (some 16) ?_
      refine two_ (i:=8) (j:=18) (Ni:=some 55) (Nj:=some 15) (ab 22 655359) (ab 22 917247) rfl rfl rfl rfl (two_of HT_.out kr) (by decide) (by decide) (fun K hK => ?_) (fun K hK => ?_)
      ·skip
       refine gC Tryz.func157 #[ii (x.f1.f0 * s.f1),ii s.f0] ?_
       refine (pit_ratio.calls FU _ _ _ _ _ HA4.out).mono ?_
       rintro e wf12 ⟨rfl,hb⟩
       have hB_wf12 : Below wd.heap.size wd wf12:=below_then ((below_alloc (Below.refl wd.heap.size wd) (.cells #[ii 0,ii 0] 43))) (below_size ((below_alloc (Below.refl wd.heap.size wd) (.cells #[ii 0,ii 0] 43)))) hb
       have hb16_wf12:=blk_below ((blk_new' wd (.cells #[ii 0,ii 0] 43) (wd.heap.size) (by simp))) hb
       refine ⟨_,rfl,?_⟩
       refine hK.out _ _ ⟨(blk_cell (blk_below HX5.out hB_wf12) 1).trans rfl,(blk_cell (blk_below HX5.out hB_wf12) 2).trans rfl,(blk_cell (blk_below HE1.out hB_wf12) 0).trans rfl,(blk_cell (blk_below HE1.out hB_wf12) 1).trans rfl⟩ (fun hHeld => ?_)
       clear hK K
       refine qN (some 55) ?_
       refine two_ (i:=17) (j:=18) (Ni:=some 64) (Nj:=some 15) (ab 22 786431) (ab 22 917503) rfl rfl rfl rfl (two_of HT_.out kr) (by decide) (by decide) (fun K hK => ?_) (fun K hK => ?_)
       ·skip
        refine gC Tryz.func157 #[ii (x.f1.f1 * s.f1),ii s.f0] ?_
        refine (pit_ratio.calls FU _ _ _ _ _ HZ4.out).mono ?_
        rintro e wf13 ⟨rfl,hb⟩
        have hB_wf13 : Below wd.heap.size wd wf13:=below_then (hB_wf12) (below_size (hB_wf12)) hb
        have hb16_wf13:=blk_below (hb16_wf12) hb
        refine ⟨_,rfl,?_⟩
        refine hK.out _ _ ⟨(blk_cell (blk_below HX5.out hB_wf13) 1).trans rfl,(blk_cell (blk_below HX5.out hB_wf13) 2).trans rfl,(blk_cell (blk_below HE1.out hB_wf13) 0).trans rfl,(blk_cell (blk_below HE1.out hB_wf13) 1).trans rfl⟩ (fun hHeld => ?_)
        clear hK K
        refine qN (some 64) ?_
        refine one_ (i:=18) (N:=some 15) (ab 22 1048575) rfl rfl (one_of HT_.out kr) (by decide) (fun K hK => ?_)
        refine value_ (w1:=?_) (v:=?_) (by rfl) rfl ?_ ?_
        rotate_left 2
        ·go_simp
         constructor
         ·rfl
         ·rfl
        refine hK.out _ _ ⟨(blk_cell (blk_below HX5.out (below_alloc (hB_wf13) (.cells #[ii 0,ii 0] 43))) 1).trans rfl,(blk_cell (blk_below HX5.out (below_alloc (hB_wf13) (.cells #[ii 0,ii 0] 43))) 2).trans rfl,(blk_cell (blk_below HE1.out (below_alloc (hB_wf13) (.cells #[ii 0,ii 0] 43))) 0).trans rfl,(blk_cell (blk_below HE1.out (below_alloc (hB_wf13) (.cells #[ii 0,ii 0] 43))) 1).trans rfl⟩ (fun hHeld => ?_)
        clear hK K
        refine qN (some 15) ?_
        exact nI (hCont ⟨wf13.heap.size,wd.heap.size⟩ _ ⟨(below_alloc (hB_wf13) (.cells #[ii 0,ii 0] 43)),(blk_new' wf13 (.cells #[ii 0,ii 0] 43) (wf13.heap.size) (by simp)),(blk_alloc (hb16_wf13) (.cells #[ii 0,ii 0] 43)),(by have h:=blk_lt (hb16_wf13);first|omega|(simp at h;omega)),(by have h:=(hB_wf13).size;first|(simp;done)|simpa using h),(by have h:=(Below.refl wd.heap.size wd).size;first|(simp;done)|simpa using h)⟩)
       ·skip
        refine value_ (w1:=?_) (v:=?_) (by rfl) rfl ?_ ?_
        rotate_left 2
        ·go_simp
         constructor
         ·rfl
         ·rfl
        refine hK.out _ _ ⟨(blk_cell (blk_below HX5.out (below_alloc (hB_wf12) (.cells #[ii 0,ii 0] 43))) 1).trans rfl,(blk_cell (blk_below HX5.out (below_alloc (hB_wf12) (.cells #[ii 0,ii 0] 43))) 2).trans rfl,(blk_cell (blk_below HE1.out (below_alloc (hB_wf12) (.cells #[ii 0,ii 0] 43))) 0).trans rfl,(blk_cell (blk_below HE1.out (below_alloc (hB_wf12) (.cells #[ii 0,ii 0] 43))) 1).trans rfl⟩ (fun hHeld => ?_)
        clear hK K
        refine qN (some 15) ?_
        refine one_ (i:=17) (N:=some 64) (ab 22 1048575) rfl rfl (one_of HT_.out kr) (by decide) (fun K hK => ?_)
        refine gC Tryz.func157 #[ii (x.f1.f1 * s.f1),ii s.f0] ?_
        refine (pit_ratio.calls FU _ _ _ _ _ HZ4.out).mono ?_
        rintro e wf14 ⟨rfl,hb⟩
        have hB_wf14 : Below wd.heap.size wd wf14:=below_then ((below_alloc (hB_wf12) (.cells #[ii 0,ii 0] 43))) (below_size ((below_alloc (hB_wf12) (.cells #[ii 0,ii 0] 43)))) hb
        have hb15_wf14:=blk_below ((blk_new' wf12 (.cells #[ii 0,ii 0] 43) (wf12.heap.size) (by simp))) hb
        have hb16_wf14:=blk_below ((blk_alloc (hb16_wf12) (.cells #[ii 0,ii 0] 43))) hb
        refine ⟨_,rfl,?_⟩
        refine hK.out _ _ ⟨(blk_cell (blk_below HX5.out hB_wf14) 1).trans rfl,(blk_cell (blk_below HX5.out hB_wf14) 2).trans rfl,(blk_cell (blk_below HE1.out hB_wf14) 0).trans rfl,(blk_cell (blk_below HE1.out hB_wf14) 1).trans rfl⟩ (fun hHeld => ?_)
        clear hK K
        refine qN (some 64) ?_
        exact nI (hCont ⟨wf12.heap.size,wd.heap.size⟩ _ ⟨hB_wf14,hb15_wf14,hb16_wf14,(by have h:=blk_lt (hb16_wf12);first|omega|(simp at h;omega)),(by have h:=(hB_wf12).size;first|(simp;done)|simpa using h),(by have h:=(Below.refl wd.heap.size wd).size;first|(simp;done)|simpa using h)⟩)
      ·skip
       refine value_ (w1:=?_) (v:=?_) (by rfl) rfl ?_ ?_
       rotate_left 2
       ·go_simp
        constructor
        ·rfl
        ·rfl
       refine hK.out _ _ ⟨(blk_cell (blk_below HX5.out (below_alloc ((below_alloc (Below.refl wd.heap.size wd) (.cells #[ii 0,ii 0] 43))) (.cells #[ii 0,ii 0] 43))) 1).trans rfl,(blk_cell (blk_below HX5.out (below_alloc ((below_alloc (Below.refl wd.heap.size wd) (.cells #[ii 0,ii 0] 43))) (.cells #[ii 0,ii 0] 43))) 2).trans rfl,(blk_cell (blk_below HE1.out (below_alloc ((below_alloc (Below.refl wd.heap.size wd) (.cells #[ii 0,ii 0] 43))) (.cells #[ii 0,ii 0] 43))) 0).trans rfl,(blk_cell (blk_below HE1.out (below_alloc ((below_alloc (Below.refl wd.heap.size wd) (.cells #[ii 0,ii 0] 43))) (.cells #[ii 0,ii 0] 43))) 1).trans rfl⟩ (fun hHeld => ?_)
       clear hK K
       refine qN (some 15) ?_
       refine one_ (i:=8) (N:=some 55) (ab 22 917503) rfl rfl (one_of HT_.out kr) (by decide) (fun K hK => ?_)
       refine gC Tryz.func157 #[ii (x.f1.f0 * s.f1),ii s.f0] ?_
       refine (pit_ratio.calls FU _ _ _ _ _ HA4.out).mono ?_
       rintro e wf15 ⟨rfl,hb⟩
       have hB_wf15 : Below wd.heap.size wd wf15:=below_then ((below_alloc ((below_alloc (Below.refl wd.heap.size wd) (.cells #[ii 0,ii 0] 43))) (.cells #[ii 0,ii 0] 43))) (below_size ((below_alloc ((below_alloc (Below.refl wd.heap.size wd) (.cells #[ii 0,ii 0] 43))) (.cells #[ii 0,ii 0] 43)))) hb
       have hb15_wf15:=blk_below ((blk_new' (wd.alloc (.cells #[ii 0,ii 0] 43)) (.cells #[ii 0,ii 0] 43) (wd.heap.size + 1) (by simp))) hb
       have hb16_wf15:=blk_below ((blk_alloc ((blk_new' wd (.cells #[ii 0,ii 0] 43) (wd.heap.size) (by simp))) (.cells #[ii 0,ii 0] 43))) hb
       refine ⟨_,rfl,?_⟩
       refine hK.out _ _ ⟨(blk_cell (blk_below HX5.out hB_wf15) 1).trans rfl,(blk_cell (blk_below HX5.out hB_wf15) 2).trans rfl,(blk_cell (blk_below HE1.out hB_wf15) 0).trans rfl,(blk_cell (blk_below HE1.out hB_wf15) 1).trans rfl⟩ (fun hHeld => ?_)
       clear hK K
       refine qN (some 55) ?_
       refine one_ (i:=17) (N:=some 64) (ab 22 1048575) rfl rfl (one_of HT_.out kr) (by decide) (fun K hK => ?_)
       refine gC Tryz.func157 #[ii (x.f1.f1 * s.f1),ii s.f0] ?_
       refine (pit_ratio.calls FU _ _ _ _ _ HZ4.out).mono ?_
       rintro e wf16 ⟨rfl,hb⟩
       have hB_wf16 : Below wd.heap.size wd wf16:=below_then (hB_wf15) (below_size (hB_wf15)) hb
       have hb15_wf16:=blk_below (hb15_wf15) hb
       have hb16_wf16:=blk_below (hb16_wf15) hb
       refine ⟨_,rfl,?_⟩
       refine hK.out _ _ ⟨(blk_cell (blk_below HX5.out hB_wf16) 1).trans rfl,(blk_cell (blk_below HX5.out hB_wf16) 2).trans rfl,(blk_cell (blk_below HE1.out hB_wf16) 0).trans rfl,(blk_cell (blk_below HE1.out hB_wf16) 1).trans rfl⟩ (fun hHeld => ?_)
       clear hK K
       refine qN (some 64) ?_
       exact nI (hCont ⟨wd.heap.size + 1,wd.heap.size⟩ _ ⟨hB_wf16,hb15_wf16,hb16_wf16,(by have h:=blk_lt ((blk_new' wd (.cells #[ii 0,ii 0] 43) (wd.heap.size) (by simp)));first|omega|(simp at h;omega)),(by have h:=((below_alloc (Below.refl wd.heap.size wd) (.cells #[ii 0,ii 0] 43))).size;first|(simp;done)|simpa using h),(by have h:=(Below.refl wd.heap.size wd).size;first|(simp;done)|simpa using h)⟩)
    rintro ⟨p,y⟩ w7 ⟨hb,hp,hy,hne,hlp,hly⟩
    have HI:=am (show wr.heap.size < wd.heap.size ∧ w2.heap.size < wr.heap.size from ⟨blk_lt HX5.out,Nat.lt_of_lt_of_le (blk_lt HT.out) (Nat.le_refl _)⟩)
    have HIX:=am (show p ≠ y ∧ wd.heap.size ≤ p ∧ wd.heap.size ≤ y from ⟨hne,hlp,hly⟩)
    have HT7:=am (blk_below HT6.out hb)
    have HN7:=am (below_then HN6.out (below_size HN6.out) hb)
    have H15:=am (hp)
    have H16:=am (hy)
    clear hb hp hy hne hlp hly
    refine norm_ (a':=?_) ?_ ?_
    rotate_left
    ·simp only [putAll,Act.put,List.setIfInBounds_toArray,List.set_cons_zero,List.set_cons_succ]
     rfl
    refine last_ (i:=20) (N:=none) (ab 22 2097151) rfl rfl (one_of HT_.out kr) (by decide) (fun K hK => ?_)
    have u0:=bd H15.out 0
    have fu0:=blk_frozen H15.out 0
    have u1:=bd H15.out 1
    have fu1:=blk_frozen H15.out 1
    refine skip_ (w1:=?_) (by rfl) rfl ?_ ?_
    rotate_left
    ·go_simp
     rfl
    have HT8:=am (blk_far (p:=⟨p,1,none⟩) (blk_far (p:=⟨p,0,none⟩) (HT7.out) (by have h1:=HI.out;have h2:=HIX.out;(try dsimp only);omega) (ii a.f0)) (by have h1:=HI.out;have h2:=HIX.out;(try dsimp only);omega) (ii a.f1))
    have HN8:=am (((HN7.out).setCell (p:=⟨p,0,none⟩) (by have h1:=HI.out;have h2:=HIX.out;(try dsimp only);omega) (ii a.f0)).setCell (p:=⟨p,1,none⟩) (by have h1:=HI.out;have h2:=HIX.out;(try dsimp only);omega) (ii a.f1))
    have H161:=am (blk_far (p:=⟨p,1,none⟩) (blk_far (p:=⟨p,0,none⟩) (H16.out) (by have h1:=HI.out;have h2:=HIX.out;(try dsimp only);omega) (ii a.f0)) (by have h1:=HI.out;have h2:=HIX.out;(try dsimp only);omega) (ii a.f1))
    have H151:=am (blk_put (cs':=#[ii a.f0,ii a.f1]) (blk_put (cs':=#[ii a.f0,ii 0]) (H15.out) 0 (ii a.f0) rfl) 1 (ii a.f1) rfl)
    refine hK.out _ _ ?_
    clear hK K
    refine last_ (i:=21) (N:=none) (ab 22 4194303) rfl rfl (one_of HT_.out kr) (by decide) (fun K hK => ?_)
    have v0:=bd H161.out 0
    have fv0:=blk_frozen H161.out 0
    have v1:=bd H161.out 1
    have fv1:=blk_frozen H161.out 1
    refine skip_ (w1:=?_) (by rfl) rfl ?_ ?_
    rotate_left
    ·go_simp
     rfl
    refine hK.out _ _ ?_
    clear hK K
    refine done_ (done_of HT_.out kr) ?_
    have HT9:=am (blk_far (p:=⟨y,1,none⟩) (blk_far (p:=⟨y,0,none⟩) (HT8.out) (by have h1:=HI.out;have h2:=HIX.out;(try dsimp only);omega) (ii z.f0)) (by have h1:=HI.out;have h2:=HIX.out;(try dsimp only);omega) (ii z.f1))
    have HN9:=am (((HN8.out).setCell (p:=⟨y,0,none⟩) (by have h1:=HI.out;have h2:=HIX.out;(try dsimp only);omega) (ii z.f0)).setCell (p:=⟨y,1,none⟩) (by have h1:=HI.out;have h2:=HIX.out;(try dsimp only);omega) (ii z.f1))
    have H152:=am (blk_far (p:=⟨y,1,none⟩) (blk_far (p:=⟨y,0,none⟩) (H151.out) (by have h1:=HI.out;have h2:=HIX.out;(try dsimp only);omega) (ii z.f0)) (by have h1:=HI.out;have h2:=HIX.out;(try dsimp only);omega) (ii z.f1))
    have H162:=am (blk_put (cs':=#[ii z.f0,ii z.f1]) (blk_put (cs':=#[ii z.f0,ii 0]) (H161.out) 0 (ii z.f0) rfl) 1 (ii z.f1) rfl)
    clear u0 u1 fu0 fu1 v0 v1 fv0 fv1 hwa hwb
    generalize ((((w7.setCell ⟨p,0,none⟩ (ii a.f0)).setCell ⟨p,1,none⟩ (ii a.f1)).setCell ⟨y,0,none⟩ (ii z.f0)).setCell ⟨y,1,none⟩ (ii z.f1)) = w9 at HT9 HN9 H152 H162 ⊢
    have g0:=bd H152.out 0
    have g1:=bd H152.out 1
    have k1:=bd HT9.out 1
    have k2:=bd HT9.out 2
    go_wp2_with fail
    refine (pit_compare.calls _ _ _ _ _ _ (cmp_end HA1.out HLO.out)).mono ?_
    rintro e w10 ⟨rfl,hb⟩
    have HT10:=am (blk_below HT9.out hb)
    have HN10:=am (below_then HN9.out (below_size HN9.out) hb)
    have H153:=am (blk_below H152.out hb)
    have H163:=am (blk_below H162.out hb)
    clear hb g0 g1 k1 k2
    obtain ⟨c1,hc1⟩ : ∃ c1,c1 = cmpP a lo:=⟨_,rfl⟩
    rw [← hc1]
    by_cases h1 : c1 > 0
    ·
     have p0_:=bd H153.out 0
     have p1_:=bd H153.out 1
     have u1:=bd HT10.out 1
     have fu1:=blk_frozen HT10.out 1
     have u2:=bd HT10.out 2
     have fu2:=blk_frozen HT10.out 2
     have HN11:=am (((HN10.out).setCell (p:=⟨w2.heap.size,1,none⟩) (Nat.le_refl _) (ii a.f0)).setCell (p:=⟨w2.heap.size,2,none⟩) (Nat.le_refl _) (ii a.f1))
     have H154:=am (blk_far (p:=⟨w2.heap.size,2,none⟩) (blk_far (p:=⟨w2.heap.size,1,none⟩) (H153.out) (by have h1:=HI.out;have h2:=HIX.out;(try dsimp only);omega) (ii a.f0)) (by have h1:=HI.out;have h2:=HIX.out;(try dsimp only);omega) (ii a.f1))
     have H164:=am (blk_far (p:=⟨w2.heap.size,2,none⟩) (blk_far (p:=⟨w2.heap.size,1,none⟩) (H163.out) (by have h1:=HI.out;have h2:=HIX.out;(try dsimp only);omega) (ii a.f0)) (by have h1:=HI.out;have h2:=HIX.out;(try dsimp only);omega) (ii a.f1))
     have HT11:=am (blk_put (cs':=#[ii pour,ii a.f0,ii a.f1,ii hi.f0,ii hi.f1]) (blk_put (cs':=#[ii pour,ii a.f0,ii lo.f1,ii hi.f0,ii hi.f1]) (HT10.out) 1 (ii a.f0) rfl) 2 (ii a.f1) rfl)
     have g0:=bd H164.out 0
     have g1:=bd H164.out 1
     have k3:=bd HT11.out 3
     have k4:=bd HT11.out 4
     go_wp2_with fail
     refine (pit_compare.calls _ _ _ _ _ _ (cmp_end HZ1.out HHI.out)).mono ?_
     rintro e w11 ⟨rfl,hb⟩
     have HT12:=am (blk_below HT11.out hb)
     have HN12:=am (below_then HN11.out (below_size HN11.out) hb)
     have H155:=am (blk_below H154.out hb)
     have H165:=am (blk_below H164.out hb)
     clear hb g0 g1 k3 k4 u1 u2 fu1 fu2 p0_ p1_
     obtain ⟨c2,hc2⟩ : ∃ c2,c2 = cmpP z hi:=⟨_,rfl⟩
     rw [← hc2]
     by_cases h2 : c2 < 0
     ·
      have g0:=bd H165.out 0
      have g1:=bd H165.out 1
      have u3:=bd HT12.out 3
      have fu3:=blk_frozen HT12.out 3
      have u4:=bd HT12.out 4
      have fu4:=blk_frozen HT12.out 4
      have HN13:=am (((HN12.out).setCell (p:=⟨w2.heap.size,3,none⟩) (Nat.le_refl _) (ii z.f0)).setCell (p:=⟨w2.heap.size,4,none⟩) (Nat.le_refl _) (ii z.f1))
      have H156:=am (blk_far (p:=⟨w2.heap.size,4,none⟩) (blk_far (p:=⟨w2.heap.size,3,none⟩) (H155.out) (by have h1:=HI.out;have h2:=HIX.out;(try dsimp only);omega) (ii z.f0)) (by have h1:=HI.out;have h2:=HIX.out;(try dsimp only);omega) (ii z.f1))
      have H166:=am (blk_far (p:=⟨w2.heap.size,4,none⟩) (blk_far (p:=⟨w2.heap.size,3,none⟩) (H165.out) (by have h1:=HI.out;have h2:=HIX.out;(try dsimp only);omega) (ii z.f0)) (by have h1:=HI.out;have h2:=HIX.out;(try dsimp only);omega) (ii z.f1))
      have HT13:=am (blk_put (cs':=#[ii pour,ii a.f0,ii a.f1,ii z.f0,ii z.f1]) (blk_put (cs':=#[ii pour,ii a.f0,ii a.f1,ii z.f0,ii hi.f1]) (HT12.out) 3 (ii z.f0) rfl) 4 (ii z.f1) rfl)
      skip
      have HQ9:=am (show q = if cmpP a z > 0 then (⟨0,⟨0,0⟩,⟨0,0⟩⟩,(j : Int),false) else blameL Y pour a z ((j : Int) + 1) (l.drop (j + 1)) by rw [HA2.out,show maxR a lo = a from if_pos (by rw [← hc1];omega),show minR z hi = z from if_pos (by rw [← hc2];omega)])
      have r1:=bd HT13.out 1
      have r2:=bd HT13.out 2
      have r3:=bd HT13.out 3
      have r4:=bd HT13.out 4
      go_wp2_with fail
      refine (pit_compare.calls _ _ _ _ _ _ (cmp_end HA1.out HZ1.out)).mono ?_
      rintro e w13 ⟨rfl,hb⟩
      have HT14:=am (blk_below HT13.out hb)
      have HN14:=am (below_then HN13.out (below_size HN13.out) hb)
      clear hb r1 r2 r3 r4 g0 g1 u3 u4 fu3 fu4
      obtain ⟨c3,hc3⟩ : ∃ c3,c3 = cmpP a z:=⟨_,rfl⟩
      rw [← hc3] at HQ9 ⊢
      by_cases h3 : c3 > 0
      ·
       have HR9:=am (blk_below HR2.out HN14.out)
       have HB9:=am (below_then HB3.out (below_size HB3.out) HN14.out)
       have HE9:=am (show q = (⟨0,⟨0,0⟩,⟨0,0⟩⟩,(j : Int),false) by rw [HQ9.out,if_pos (by omega)])
       have u0:=bd HR9.out 0
       have fu0:=blk_frozen HR9.out 0
       have u1:=bd HR9.out 1
       have fu1:=blk_frozen HR9.out 1
       have u2:=bd HR9.out 2
       have fu2:=blk_frozen HR9.out 2
       have u3:=bd HR9.out 3
       have fu3:=blk_frozen HR9.out 3
       have u4:=bd HR9.out 4
       have fu4:=blk_frozen HR9.out 4
       go_wp2
       rw [HE9.out]
       have bz:=blk_put (cs':=#[ii 0,ii 0,ii 0,ii 0,ii 0]) (blk_put (cs':=#[ii 0,ii 0,ii 0,ii 0,ii 0]) (blk_put (cs':=#[ii 0,ii 0,ii 0,ii 0,ii 0]) (blk_put (cs':=#[ii 0,ii 0,ii 0,ii 0,ii 0]) (blk_put (cs':=#[ii 0,ii 0,ii 0,ii 0,ii 0]) (HR9.out) 0 (ii 0) rfl) 1 (ii 0) rfl) 2 (ii 0) rfl) 3 (ii 0) rfl) 4 (ii 0) rfl
       have z0:=bd bz 0
       have z1:=bd bz 1
       have z2:=bd bz 2
       have z3:=bd bz 3
       have z4:=bd bz 4
       exact bodyPost_ret (v:=.tuple #[.agg #[ii 0,ii 0,ii 0,ii 0,ii 0],ii (j : Int),.bool false]) (by simp [results,Tryz.results132,go_sem,z0,z1,z2,z3,z4,hu139,hu43]) rfl ⟨rfl,(((((HB9.out).setCell (p:=⟨W.heap.size,0,none⟩) (by first|(simp;done)|(simp;omega)) (ii 0)).setCell (p:=⟨W.heap.size,1,none⟩) (by first|(simp;done)|(simp;omega)) (ii 0)).setCell (p:=⟨W.heap.size,2,none⟩) (by first|(simp;done)|(simp;omega)) (ii 0)).setCell (p:=⟨W.heap.size,3,none⟩) (by first|(simp;done)|(simp;omega)) (ii 0)).setCell (p:=⟨W.heap.size,4,none⟩) (by first|(simp;done)|(simp;omega)) (ii 0)⟩
      ·
       go_wp2
       go_roundw
       case rel => exact ⟨j + 1,a,z,by omega,by go_num,HN14,HT14,HA1,HZ1,⟨by rw [HQ9.out,if_neg (by omega)];rfl⟩⟩
       case measure => simp [intOf];omega
     ·
      have HQ9:=am (show q = if cmpP a hi > 0 then (⟨0,⟨0,0⟩,⟨0,0⟩⟩,(j : Int),false) else blameL Y pour a hi ((j : Int) + 1) (l.drop (j + 1)) by rw [HA2.out,show maxR a lo = a from if_pos (by rw [← hc1];omega),show minR z hi = hi from if_neg (by rw [← hc2];omega)])
      have r1:=bd HT12.out 1
      have r2:=bd HT12.out 2
      have r3:=bd HT12.out 3
      have r4:=bd HT12.out 4
      go_wp2_with fail
      refine (pit_compare.calls _ _ _ _ _ _ (cmp_end HA1.out HHI.out)).mono ?_
      rintro e w13 ⟨rfl,hb⟩
      have HT13:=am (blk_below HT12.out hb)
      have HN13:=am (below_then HN12.out (below_size HN12.out) hb)
      have H156:=am (blk_below H155.out hb)
      have H166:=am (blk_below H165.out hb)
      clear hb r1 r2 r3 r4
      obtain ⟨c3,hc3⟩ : ∃ c3,c3 = cmpP a hi:=⟨_,rfl⟩
      rw [← hc3] at HQ9 ⊢
      by_cases h3 : c3 > 0
      ·
       have HR9:=am (blk_below HR2.out HN13.out)
       have HB9:=am (below_then HB3.out (below_size HB3.out) HN13.out)
       have HE9:=am (show q = (⟨0,⟨0,0⟩,⟨0,0⟩⟩,(j : Int),false) by rw [HQ9.out,if_pos (by omega)])
       have u0:=bd HR9.out 0
       have fu0:=blk_frozen HR9.out 0
       have u1:=bd HR9.out 1
       have fu1:=blk_frozen HR9.out 1
       have u2:=bd HR9.out 2
       have fu2:=blk_frozen HR9.out 2
       have u3:=bd HR9.out 3
       have fu3:=blk_frozen HR9.out 3
       have u4:=bd HR9.out 4
       have fu4:=blk_frozen HR9.out 4
       go_wp2
       rw [HE9.out]
       have bz:=blk_put (cs':=#[ii 0,ii 0,ii 0,ii 0,ii 0]) (blk_put (cs':=#[ii 0,ii 0,ii 0,ii 0,ii 0]) (blk_put (cs':=#[ii 0,ii 0,ii 0,ii 0,ii 0]) (blk_put (cs':=#[ii 0,ii 0,ii 0,ii 0,ii 0]) (blk_put (cs':=#[ii 0,ii 0,ii 0,ii 0,ii 0]) (HR9.out) 0 (ii 0) rfl) 1 (ii 0) rfl) 2 (ii 0) rfl) 3 (ii 0) rfl) 4 (ii 0) rfl
       have z0:=bd bz 0
       have z1:=bd bz 1
       have z2:=bd bz 2
       have z3:=bd bz 3
       have z4:=bd bz 4
       exact bodyPost_ret (v:=.tuple #[.agg #[ii 0,ii 0,ii 0,ii 0,ii 0],ii (j : Int),.bool false]) (by simp [results,Tryz.results132,go_sem,z0,z1,z2,z3,z4,hu139,hu43]) rfl ⟨rfl,(((((HB9.out).setCell (p:=⟨W.heap.size,0,none⟩) (by first|(simp;done)|(simp;omega)) (ii 0)).setCell (p:=⟨W.heap.size,1,none⟩) (by first|(simp;done)|(simp;omega)) (ii 0)).setCell (p:=⟨W.heap.size,2,none⟩) (by first|(simp;done)|(simp;omega)) (ii 0)).setCell (p:=⟨W.heap.size,3,none⟩) (by first|(simp;done)|(simp;omega)) (ii 0)).setCell (p:=⟨W.heap.size,4,none⟩) (by first|(simp;done)|(simp;omega)) (ii 0)⟩
      ·
       go_wp2
       go_roundw
       case rel => exact ⟨j + 1,a,hi,by omega,by go_num,HN13,HT13,HA1,HHI,⟨by rw [HQ9.out,if_neg (by omega)];rfl⟩⟩
       case measure => simp [intOf];omega
    ·
     have g0:=bd H163.out 0
     have g1:=bd H163.out 1
     have k3:=bd HT10.out 3
     have k4:=bd HT10.out 4
     go_wp2_with fail
     refine (pit_compare.calls _ _ _ _ _ _ (cmp_end HZ1.out HHI.out)).mono ?_
     rintro e w11 ⟨rfl,hb⟩
     have HT11:=am (blk_below HT10.out hb)
     have HN11:=am (below_then HN10.out (below_size HN10.out) hb)
     have H154:=am (blk_below H153.out hb)
     have H164:=am (blk_below H163.out hb)
     clear hb g0 g1 k3 k4
     obtain ⟨c2,hc2⟩ : ∃ c2,c2 = cmpP z hi:=⟨_,rfl⟩
     rw [← hc2]
     by_cases h2 : c2 < 0
     ·
      have g0:=bd H164.out 0
      have g1:=bd H164.out 1
      have u3:=bd HT11.out 3
      have fu3:=blk_frozen HT11.out 3
      have u4:=bd HT11.out 4
      have fu4:=blk_frozen HT11.out 4
      have HN12:=am (((HN11.out).setCell (p:=⟨w2.heap.size,3,none⟩) (Nat.le_refl _) (ii z.f0)).setCell (p:=⟨w2.heap.size,4,none⟩) (Nat.le_refl _) (ii z.f1))
      have H155:=am (blk_far (p:=⟨w2.heap.size,4,none⟩) (blk_far (p:=⟨w2.heap.size,3,none⟩) (H154.out) (by have h1:=HI.out;have h2:=HIX.out;(try dsimp only);omega) (ii z.f0)) (by have h1:=HI.out;have h2:=HIX.out;(try dsimp only);omega) (ii z.f1))
      have H165:=am (blk_far (p:=⟨w2.heap.size,4,none⟩) (blk_far (p:=⟨w2.heap.size,3,none⟩) (H164.out) (by have h1:=HI.out;have h2:=HIX.out;(try dsimp only);omega) (ii z.f0)) (by have h1:=HI.out;have h2:=HIX.out;(try dsimp only);omega) (ii z.f1))
      have HT12:=am (blk_put (cs':=#[ii pour,ii lo.f0,ii lo.f1,ii z.f0,ii z.f1]) (blk_put (cs':=#[ii pour,ii lo.f0,ii lo.f1,ii z.f0,ii hi.f1]) (HT11.out) 3 (ii z.f0) rfl) 4 (ii z.f1) rfl)
      skip
      have HQ9:=am (show q = if cmpP lo z > 0 then (⟨0,⟨0,0⟩,⟨0,0⟩⟩,(j : Int),false) else blameL Y pour lo z ((j : Int) + 1) (l.drop (j + 1)) by rw [HA2.out,show maxR a lo = lo from if_neg (by rw [← hc1];omega),show minR z hi = z from if_pos (by rw [← hc2];omega)])
      have r1:=bd HT12.out 1
      have r2:=bd HT12.out 2
      have r3:=bd HT12.out 3
      have r4:=bd HT12.out 4
      go_wp2_with fail
      refine (pit_compare.calls _ _ _ _ _ _ (cmp_end HLO.out HZ1.out)).mono ?_
      rintro e w13 ⟨rfl,hb⟩
      have HT13:=am (blk_below HT12.out hb)
      have HN13:=am (below_then HN12.out (below_size HN12.out) hb)
      have H156:=am (blk_below H155.out hb)
      have H166:=am (blk_below H165.out hb)
      clear hb r1 r2 r3 r4 g0 g1 u3 u4 fu3 fu4
      obtain ⟨c3,hc3⟩ : ∃ c3,c3 = cmpP lo z:=⟨_,rfl⟩
      rw [← hc3] at HQ9 ⊢
      by_cases h3 : c3 > 0
      ·
       have HR9:=am (blk_below HR2.out HN13.out)
       have HB9:=am (below_then HB3.out (below_size HB3.out) HN13.out)
       have HE9:=am (show q = (⟨0,⟨0,0⟩,⟨0,0⟩⟩,(j : Int),false) by rw [HQ9.out,if_pos (by omega)])
       have u0:=bd HR9.out 0
       have fu0:=blk_frozen HR9.out 0
       have u1:=bd HR9.out 1
       have fu1:=blk_frozen HR9.out 1
       have u2:=bd HR9.out 2
       have fu2:=blk_frozen HR9.out 2
       have u3:=bd HR9.out 3
       have fu3:=blk_frozen HR9.out 3
       have u4:=bd HR9.out 4
       have fu4:=blk_frozen HR9.out 4
       go_wp2
       rw [HE9.out]
       have bz:=blk_put (cs':=#[ii 0,ii 0,ii 0,ii 0,ii 0]) (blk_put (cs':=#[ii 0,ii 0,ii 0,ii 0,ii 0]) (blk_put (cs':=#[ii 0,ii 0,ii 0,ii 0,ii 0]) (blk_put (cs':=#[ii 0,ii 0,ii 0,ii 0,ii 0]) (blk_put (cs':=#[ii 0,ii 0,ii 0,ii 0,ii 0]) (HR9.out) 0 (ii 0) rfl) 1 (ii 0) rfl) 2 (ii 0) rfl) 3 (ii 0) rfl) 4 (ii 0) rfl
       have z0:=bd bz 0
       have z1:=bd bz 1
       have z2:=bd bz 2
       have z3:=bd bz 3
       have z4:=bd bz 4
       exact bodyPost_ret (v:=.tuple #[.agg #[ii 0,ii 0,ii 0,ii 0,ii 0],ii (j : Int),.bool false]) (by simp [results,Tryz.results132,go_sem,z0,z1,z2,z3,z4,hu139,hu43]) rfl ⟨rfl,(((((HB9.out).setCell (p:=⟨W.heap.size,0,none⟩) (by first|(simp;done)|(simp;omega)) (ii 0)).setCell (p:=⟨W.heap.size,1,none⟩) (by first|(simp;done)|(simp;omega)) (ii 0)).setCell (p:=⟨W.heap.size,2,none⟩) (by first|(simp;done)|(simp;omega)) (ii 0)).setCell (p:=⟨W.heap.size,3,none⟩) (by first|(simp;done)|(simp;omega)) (ii 0)).setCell (p:=⟨W.heap.size,4,none⟩) (by first|(simp;done)|(simp;omega)) (ii 0)⟩
      ·
       go_wp2
       go_roundw
       case rel => exact ⟨j + 1,lo,z,by omega,by go_num,HN13,HT13,HLO,HZ1,⟨by rw [HQ9.out,if_neg (by omega)];rfl⟩⟩
       case measure => simp [intOf];omega
     ·
      have HQ9:=am (show q = if cmpP lo hi > 0 then (⟨0,⟨0,0⟩,⟨0,0⟩⟩,(j : Int),false) else blameL Y pour lo hi ((j : Int) + 1) (l.drop (j + 1)) by rw [HA2.out,show maxR a lo = lo from if_neg (by rw [← hc1];omega),show minR z hi = hi from if_neg (by rw [← hc2];omega)])
      have r1:=bd HT11.out 1
      have r2:=bd HT11.out 2
      have r3:=bd HT11.out 3
      have r4:=bd HT11.out 4
      go_wp2_with fail
      refine (pit_compare.calls _ _ _ _ _ _ (cmp_end HLO.out HHI.out)).mono ?_
      rintro e w13 ⟨rfl,hb⟩
      have HT12:=am (blk_below HT11.out hb)
      have HN12:=am (below_then HN11.out (below_size HN11.out) hb)
      have H155:=am (blk_below H154.out hb)
      have H165:=am (blk_below H164.out hb)
      clear hb r1 r2 r3 r4
      obtain ⟨c3,hc3⟩ : ∃ c3,c3 = cmpP lo hi:=⟨_,rfl⟩
      rw [← hc3] at HQ9 ⊢
      by_cases h3 : c3 > 0
      ·
       have HR9:=am (blk_below HR2.out HN12.out)
       have HB9:=am (below_then HB3.out (below_size HB3.out) HN12.out)
       have HE9:=am (show q = (⟨0,⟨0,0⟩,⟨0,0⟩⟩,(j : Int),false) by rw [HQ9.out,if_pos (by omega)])
       have u0:=bd HR9.out 0
       have fu0:=blk_frozen HR9.out 0
       have u1:=bd HR9.out 1
       have fu1:=blk_frozen HR9.out 1
       have u2:=bd HR9.out 2
       have fu2:=blk_frozen HR9.out 2
       have u3:=bd HR9.out 3
       have fu3:=blk_frozen HR9.out 3
       have u4:=bd HR9.out 4
       have fu4:=blk_frozen HR9.out 4
       go_wp2
       rw [HE9.out]
       have bz:=blk_put (cs':=#[ii 0,ii 0,ii 0,ii 0,ii 0]) (blk_put (cs':=#[ii 0,ii 0,ii 0,ii 0,ii 0]) (blk_put (cs':=#[ii 0,ii 0,ii 0,ii 0,ii 0]) (blk_put (cs':=#[ii 0,ii 0,ii 0,ii 0,ii 0]) (blk_put (cs':=#[ii 0,ii 0,ii 0,ii 0,ii 0]) (HR9.out) 0 (ii 0) rfl) 1 (ii 0) rfl) 2 (ii 0) rfl) 3 (ii 0) rfl) 4 (ii 0) rfl
       have z0:=bd bz 0
       have z1:=bd bz 1
       have z2:=bd bz 2
       have z3:=bd bz 3
       have z4:=bd bz 4
       exact bodyPost_ret (v:=.tuple #[.agg #[ii 0,ii 0,ii 0,ii 0,ii 0],ii (j : Int),.bool false]) (by simp [results,Tryz.results132,go_sem,z0,z1,z2,z3,z4,hu139,hu43]) rfl ⟨rfl,(((((HB9.out).setCell (p:=⟨W.heap.size,0,none⟩) (by first|(simp;done)|(simp;omega)) (ii 0)).setCell (p:=⟨W.heap.size,1,none⟩) (by first|(simp;done)|(simp;omega)) (ii 0)).setCell (p:=⟨W.heap.size,2,none⟩) (by first|(simp;done)|(simp;omega)) (ii 0)).setCell (p:=⟨W.heap.size,3,none⟩) (by first|(simp;done)|(simp;omega)) (ii 0)).setCell (p:=⟨W.heap.size,4,none⟩) (by first|(simp;done)|(simp;omega)) (ii 0)⟩
      ·
       go_wp2
       go_roundw
       case rel => exact ⟨j + 1,lo,hi,by omega,by go_num,HN12,HT12,HLO,HHI,⟨by rw [HQ9.out,if_neg (by omega)];rfl⟩⟩
       case measure => simp [intOf];omega
  ·
   have HE9:=am (show q = (⟨pour,lo,hi⟩,0,true) by rw [HA.out,List.drop_eq_nil_of_le (by omega)];rfl)
   have HR9:=am (blk_below HR2.out HN.out)
   have HB9:=am (below_then HB3.out (below_size HB3.out) HN.out)
   have g0:=bd HT.out 0
   have g1:=bd HT.out 1
   have g2:=bd HT.out 2
   have g3:=bd HT.out 3
   have g4:=bd HT.out 4
   have u0:=bd HR9.out 0
   have fu0:=blk_frozen HR9.out 0
   have u1:=bd HR9.out 1
   have fu1:=blk_frozen HR9.out 1
   have u2:=bd HR9.out 2
   have fu2:=blk_frozen HR9.out 2
   have u3:=bd HR9.out 3
   have fu3:=blk_frozen HR9.out 3
   have u4:=bd HR9.out 4
   have fu4:=blk_frozen HR9.out 4
   go_wp2
   rw [HE9.out]
   have bz:=blk_put (cs':=#[ii pour,ii lo.f0,ii lo.f1,ii hi.f0,ii hi.f1]) (blk_put (cs':=#[ii pour,ii lo.f0,ii lo.f1,ii hi.f0,ii 0]) (blk_put (cs':=#[ii pour,ii lo.f0,ii lo.f1,ii 0,ii 0]) (blk_put (cs':=#[ii pour,ii lo.f0,ii 0,ii 0,ii 0]) (blk_put (cs':=#[ii pour,ii 0,ii 0,ii 0,ii 0]) (HR9.out) 0 (ii pour) rfl) 1 (ii lo.f0) rfl) 2 (ii lo.f1) rfl) 3 (ii hi.f0) rfl) 4 (ii hi.f1) rfl
   have z0:=bd bz 0
   have z1:=bd bz 1
   have z2:=bd bz 2
   have z3:=bd bz 3
   have z4:=bd bz 4
   exact bodyPost_ret (v:=.tuple #[.agg #[ii pour,ii lo.f0,ii lo.f1,ii hi.f0,ii hi.f1],ii 0,.bool true]) (by simp [results,Tryz.results132,go_sem,z0,z1,z2,z3,z4,hu139,hu43]) rfl ⟨rfl,(((((HB9.out).setCell (p:=⟨W.heap.size,0,none⟩) (by first|(simp;done)|(simp;omega)) (ii pour)).setCell (p:=⟨W.heap.size,1,none⟩) (by first|(simp;done)|(simp;omega)) (ii lo.f0)).setCell (p:=⟨W.heap.size,2,none⟩) (by first|(simp;done)|(simp;omega)) (ii lo.f1)).setCell (p:=⟨W.heap.size,3,none⟩) (by first|(simp;done)|(simp;omega)) (ii hi.f0)).setCell (p:=⟨W.heap.size,4,none⟩) (by first|(simp;done)|(simp;omega)) (ii hi.f1)⟩
end Go.Proofs.YtjjfpmapjjemcaaGreat.B
end
