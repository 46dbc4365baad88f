import Derived.Test.YtjjfpmapjjemcaaGreatQ10
import Derived.Test.YtjjfpmapjjemcaaGreatQ11
import Derived.Test.YtjjfpmapjjemcaaGreatQ18
import Derived.Test.YtjjfpmapjjemcaaGreatQ6
set_option linter.unusedVariables false
set_option linter.unusedSimpArgs false
section
namespace Go.Proofs.YtjjfpmapjjemcaaGreat.B
open Go.RowKit Go.Proofs.YtjjfpmapjjemcaaGreatW.PrintWords Go.Proofs.YtjjfpmapjjemcaaGreatW.PrintLast Go.Proofs.YtjjfpmapjjemcaaGreatW.PrintMore
attribute [local go_sem] max2_int min2_int max_two min_two max_three min_three max_four min_four
def R132_10.T : Bool × List (List Nat × List Nat):=(true,[([],[]),([0],[0]),([1],[1]),([],[]),([3],[3]),([2,4],[2,4]),([],[]),([6],[6]),([5,7],[5,7]),([],[]),([9],[9]),([10],[10]),([],[]),([12],[12]),([11,13],[11,13]),([],[]),([15],[15]),([14,16,8],[14,16]),([],[]),([],[]),([18,8,17,0,1,2,3,4,5,6,7,8,18,19],[8,18]),([19,17,20,0,1,2,3,4,5,6,7,8,9,10,11,12,13,14,15,16,17,18,19,20],[17,19])])
def R132_10.B : List Nat:=[0,1,3,0,8,31,0,64,255,0,512,1536,0,4096,15872,0,32768,131071,0,0,1048575,2097151]
theorem R132_10.tab : rtab .any (opsOf Tryz.f132 10) = R132_10.T:=by kernel_rfl
theorem R132_10.bits : waitsOk R132_10.T.2 R132_10.B = true:=by kernel_rfl
set_option maxRecDepth 100000 in
set_option maxHeartbeats 8000000 in
theorem blamed_calls {W : World} {base n : Nat} {L : Loc} {Y : Yd} (hY : YardAt W base L Y) (hw : Wf n Y) (hn : n ≤ 60) (A : Option Addr) (c : Nat) (l : List S137) (hr : Kd.C k137 W A l.length l) (hlc : l.length ≤ c) (hpk : ∀ x ∈ l,Y.barrows.any (isId x.f0) = true ∧ milleP x.f1 = true) (pour : Int) :
  Calls Tryz.prog 132 #[.pointer (some ⟨L.g,0,none⟩),.slice A l.length c,ii pour] W fun e W' => e = .returned (.tuple #[.agg #[ii (blamedP Y l pour).1.f0,ii (blamedP Y l pour).1.f1.f0,ii (blamedP Y l pour).1.f1.f1,ii (blamedP Y l pour).1.f2.f0,ii (blamedP Y l pour).1.f2.f1],ii (blamedP Y l pour).2.1,.bool (blamedP Y l pour).2.2]) ∧ Below W.heap.size W W':=by
 have hu139:=Tryz.underlying139
 have hu137:=Tryz.underlying137
 have hu167:=Tryz.underlying167
 have hu66:=Tryz.underlying66
 have hu43:=Tryz.underlying43
 have hmx:=hr.2.1
 have HW:=am hw
 have HPK:=am hpk
 have HC:=am (hr)
 have HY:=am (hY)
 have HB:=am (Below.refl W.heap.size W)
 have HC1:=am (Kd.C_alloc HC.out (.cells #[ii 0,ii 0,ii 0,ii 0,ii 0] 139))
 have HY1:=am (HY.out.move (below_alloc (Below.refl _ _) (.cells #[ii 0,ii 0,ii 0,ii 0,ii 0] 139)))
 have HB1:=am (below_alloc HB.out (.cells #[ii 0,ii 0,ii 0,ii 0,ii 0] 139))
 have HR:=am (blk_new W (.cells #[ii 0,ii 0,ii 0,ii 0,ii 0] 139))
 obtain ⟨q,hq⟩ : ∃ q,q = blamedP Y l pour:=⟨_,rfl⟩
 rw [← hq]
 have HQ:=am hq
 clear hq hr hY hw hpk
 go_enter Tryz.func132,Tryz.ntmps132
 go_wp2_with fail
 refine (pit_whole.calls 0 0 1 _ rfl).mono ?_
 rintro e w1 ⟨rfl,hb⟩
 have HC2:=am (Kd.C_below HC1.out hb)
 have HY2:=am (HY1.out.move hb)
 have HB2:=am (below_then HB1.out (below_size HB1.out) hb)
 have HR1:=am (blk_below HR.out hb)
 clear hb
 go_wp2_with fail
 refine (pit_whole.calls 1000 1000 1 _ rfl).mono ?_
 rintro e w2 ⟨rfl,hb⟩
 have HC3:=am (Kd.C_below HC2.out hb)
 have HY3:=am (HY2.out.move hb)
 have HB3:=am (below_then HB2.out (below_size HB2.out) hb)
 have HR2:=am (blk_below HR1.out hb)
 clear hb
 go_wp2
 go_loopw [23] (fun v23 wr => ∃ (j : Nat) (lo hi : S43),j ≤ l.length ∧ v23 = ii (j : Int) ∧ Aside0 (Below w2.heap.size w2 wr) ∧ Aside0 (wr.heap[w2.heap.size]? = some (.cells #[ii pour,ii lo.f0,ii lo.f1,ii hi.f0,ii hi.f1] 139 (0,0))) ∧ Aside0 (EndOk lo) ∧ Aside0 (EndOk hi) ∧ Aside0 (q = blameL Y pour lo hi (j : Int) (l.drop j))) (fun v23 _ => l.length - (intOf v23).toNat)
 case atStart => exact ⟨0,wholeP 0,wholeP 1000,Nat.zero_le _,rfl,⟨below_alloc (Below.refl _ _) _⟩,⟨blk_new _ _⟩,⟨wholeP_ok (by decide),by decide,by decide⟩,⟨wholeP_ok (by decide),by decide,by decide⟩,⟨HQ.out⟩⟩
 case round =>
  obtain ⟨j,lo,hi,hj,rfl,HN,HT,HLO,HHI,HA⟩:=hrel
  by_cases hlt : j < l.length
  ·
   obtain ⟨ae,e,hx0,hx1,hx2⟩:=at_T137 (Kd.C_below HC3.out HN.out) (j : Int) (by omega) (by omega)
   cases e
   rw [Int.toNat_natCast] at hx0 hx1 hx2
   have hmem : rd_T137 l (j : Int) ∈ l:=getD_mem_ hlt
   have HPX:=am (HPK.out _ hmem)
   rw [drop_rd137 hlt] at HA
   obtain ⟨x,hx⟩ : ∃ x,x = rd_T137 l (j : Int):=⟨_,rfl⟩
   rw [← hx] at hx0 hx1 hx2 HA HPX
   clear hx hmem
   have HT1:=am (blk_alloc HT.out (.cells #[ii x.f0,ii x.f1.f0,ii x.f1.f1] 137))
   have HN1:=am (below_alloc HN.out (.cells #[ii x.f0,ii x.f1.f0,ii x.f1.f1] 137))
   have HX:=am (blk_new wr (.cells #[ii x.f0,ii x.f1.f0,ii x.f1.f1] 137))
   go_wp2_with fail
   refine (find_calls (HY3.out.move (below_alloc HN.out (.cells #[ii x.f0,ii x.f1.f0,ii x.f1.f1] 137))) HW.out (by omega) x.f0).mono ?_
   rintro e w5 ⟨hb,h⟩
   have HT2:=am (blk_below HT1.out hb)
   have HN2:=am (below_then HN1.out (below_size HN1.out) hb)
   have HX1:=am (blk_below HX.out hb)
   clear hb hx0 hx1 hx2
   rcases h with ⟨hno,_⟩|⟨b,A3,c3,hfd,rfl,hl3,hF3⟩
   ·exact absurd (HPX.out.1.symm.trans hno) (by simp)
   have HBO:=am (HW.out.barrows b (List.mem_of_find?_eq_some hfd))
   have HBD:=am (show barrowD Y x.f0 = b by unfold barrowD;rw [hfd];rfl)
   have HL3:=am hl3
   have HG:=am (Kd.F_now hF3)
   have HT3:=am (blk_alloc HT2.out (.cells #[ii b.f0,ii b.f1,ii b.f2,.slice A3 b.f3.length c3] 167))
   have HN3:=am (below_alloc HN2.out (.cells #[ii b.f0,ii b.f1,ii b.f2,.slice A3 b.f3.length c3] 167))
   have HX2:=am (blk_alloc HX1.out (.cells #[ii b.f0,ii b.f1,ii b.f2,.slice A3 b.f3.length c3] 167))
   have HG1:=am (Kd.C_alloc HG.out (.cells #[ii b.f0,ii b.f1,ii b.f2,.slice A3 b.f3.length c3] 167))
   clear hfd hl3 hF3
   have HSS:=am (share_some HBO.out pour)
   have HSB:=am (shareP_bnd HBO.out pour)
   obtain ⟨s,hs⟩ : ∃ s,s = shareP b pour:=⟨_,rfl⟩
   rw [← hs] at HSS HSB
   have HS:=am (show shareP (barrowD Y x.f0) pour = s by rw [HBD.out,hs])
   clear hs
   go_wp2_with fail
   refine (pit_barrow_share.calls FU _ _ _ _ _ _ _ _ _ _ HG1.out HL3.out HSS.out).mono ?_
   rintro e w6 ⟨rfl,hb⟩
   have HT4:=am (blk_below HT3.out hb)
   have HN4:=am (below_then HN3.out (below_size HN3.out) hb)
   have HX3:=am (blk_below HX2.out hb)
   clear hb
   have HT5:=am (blk_alloc HT4.out (.cells #[ii s.f0,ii s.f1] 43))
   have HN5:=am (below_alloc HN4.out (.cells #[ii s.f0,ii s.f1] 43))
   have HX4:=am (blk_alloc HX3.out (.cells #[ii s.f0,ii s.f1] 43))
   have HE:=am (blk_new w6 (.cells #[ii s.f0,ii s.f1] 43))
   by_cases hs0 : s.f0 = 0
   ·
    rw [hs0] at HT5 HN5 HX4 HE
    have g1:=bd HX4.out 1
    by_cases hx0 : x.f1.f0 > 0
    ·
     have HR9:=am (blk_below HR2.out HN5.out)
     have HB9:=am (below_then HB3.out (below_size HB3.out) HN5.out)
     have HE9:=am (show q = (⟨0,⟨0,0⟩,⟨0,0⟩⟩,(j : Int),false) by rw [HA.out];simp only [blameL];rw [HS.out,if_pos hs0,if_pos hx0])
     have u0:=bd HR9.out 0
     have fu0:=blk_frozen HR9.out 0
     have u1:=bd HR9.out 1
     have fu1:=blk_frozen HR9.out 1
     have u2:=bd HR9.out 2
     have fu2:=blk_frozen HR9.out 2
     have u3:=bd HR9.out 3
     have fu3:=blk_frozen HR9.out 3
     have u4:=bd HR9.out 4
     have fu4:=blk_frozen HR9.out 4
     go_wp2
     rw [HE9.out]
     have bz:=blk_put (cs':=#[ii 0,ii 0,ii 0,ii 0,ii 0]) (blk_put (cs':=#[ii 0,ii 0,ii 0,ii 0,ii 0]) (blk_put (cs':=#[ii 0,ii 0,ii 0,ii 0,ii 0]) (blk_put (cs':=#[ii 0,ii 0,ii 0,ii 0,ii 0]) (blk_put (cs':=#[ii 0,ii 0,ii 0,ii 0,ii 0]) (HR9.out) 0 (ii 0) rfl) 1 (ii 0) rfl) 2 (ii 0) rfl) 3 (ii 0) rfl) 4 (ii 0) rfl
     have z0:=bd bz 0
     have z1:=bd bz 1
     have z2:=bd bz 2
     have z3:=bd bz 3
     have z4:=bd bz 4
     exact bodyPost_ret (v:=.tuple #[.agg #[ii 0,ii 0,ii 0,ii 0,ii 0],ii (j : Int),.bool false]) (by simp [results,Tryz.results132,go_sem,z0,z1,z2,z3,z4,hu139,hu43]) rfl ⟨rfl,(((((HB9.out).setCell (p:=⟨W.heap.size,0,none⟩) (by first|(simp;done)|(simp;omega)) (ii 0)).setCell (p:=⟨W.heap.size,1,none⟩) (by first|(simp;done)|(simp;omega)) (ii 0)).setCell (p:=⟨W.heap.size,2,none⟩) (by first|(simp;done)|(simp;omega)) (ii 0)).setCell (p:=⟨W.heap.size,3,none⟩) (by first|(simp;done)|(simp;omega)) (ii 0)).setCell (p:=⟨W.heap.size,4,none⟩) (by first|(simp;done)|(simp;omega)) (ii 0)⟩
    ·
     go_wp2
     go_roundw
     case rel => exact ⟨j + 1,lo,hi,by omega,by go_num,HN5,HT5,HLO,HHI,⟨by rw [HA.out];simp only [blameL];rw [HS.out,if_pos hs0,if_neg (by omega)];rfl⟩⟩
     case measure => simp [intOf];omega
   ·
    have hs1 : 1 ≤ s.f0:=by have:=HSB.out.1.1;omega
    obtain ⟨hm0,hm1,hm2,hm3⟩:=milleP_of HPX.out.2
    obtain ⟨ha1,ha2,ha3,ha4⟩:=endP_ok hm0 hm1 HSB.out.1 HSB.out.2.1 HSB.out.2.2 hs1
    obtain ⟨hb1,hb2,hb3,hb4⟩:=endP_ok hm2 hm3 HSB.out.1 HSB.out.2.1 HSB.out.2.2 hs1
    have hwa : IntKind.i64.wrap (x.f1.f0 * s.f1) = x.f1.f0 * s.f1:=IntWalk.i64_in _ (by omega)
    have hwb : IntKind.i64.wrap (x.f1.f1 * s.f1) = x.f1.f1 * s.f1:=IntWalk.i64_in _ (by omega)
    obtain ⟨a,ha⟩ : ∃ a,a = endP x.f1.f0 s:=⟨_,rfl⟩
    obtain ⟨z,hz⟩ : ∃ z,z = endP x.f1.f1 s:=⟨_,rfl⟩
    rw [← ha] at ha1 ha4
    rw [← hz] at hb1 hb4
    have HAE:=am ha
    have HZE:=am hz
    have HA1:=am ha1
    have HA4:=am ha4
    have HZ1:=am hb1
    have HZ4:=am hb4
    clear ha hz ha1 ha2 ha3 ha4 hb1 hb2 hb3 hb4 hm0 hm1 hm2 hm3
    have HA2:=am (show q = if cmpP (maxR a lo) (minR z hi) > 0 then (⟨0,⟨0,0⟩,⟨0,0⟩⟩,(j : Int),false) else blameL Y pour (maxR a lo) (minR z hi) ((j : Int) + 1) (l.drop (j + 1)) by rw [HA.out];simp only [blameL];rw [HS.out,if_neg hs0,← HAE.out,← HZE.out])
    have HT6:=am (blk_drew HT5.out)
    have HN6:=am (below_drew HN5.out)
    have HX5:=am (blk_drew HX4.out)
    have HE1:=am (blk_drew HE.out)
    go_wp2
    refine start_ (n:=22) (S:=fun w' => w'.cell? ⟨wr.heap.size,1,none⟩ = some (ii x.f1.f0) ∧ w'.cell? ⟨wr.heap.size,2,none⟩ = some (ii x.f1.f1) ∧ w'.cell? ⟨w6.heap.size,0,none⟩ = some (ii s.f0) ∧ w'.cell? ⟨w6.heap.size,1,none⟩ = some (ii s.f1)) (ds:=[20,21]) (ab 22 0) kr rfl kr ⟨(blk_cell HX5.out 1).trans rfl,(blk_cell HX5.out 2).trans rfl,(blk_cell HE1.out 0).trans rfl,(blk_cell HE1.out 1).trans rfl⟩ (fun hHeld => ?_);refine with_tabW R132_10.tab R132_10.bits (fun HT_ HW_ => ?_)
    generalize ((w6.alloc (.cells #[ii s.f0,ii s.f1] 43))).drew = wd at HT6 HN6 HX5 HE1 hHeld ⊢
    refine qA 0 (some 47) ?_;refine qA 1 (some 48) ?_;refine qT 2 (some 49) ?_;refine qA 3 (some 50) ?_;refine qT 4 (some 51) ?_;refine qA 5 (some 52) ?_;refine qA 6 (some 53) ?_;refine qT 7 (some 54) ?_;refine qA 9 (some 56) ?_;refine qA 10 (some 57) ?_;refine qT 11 (some 58) ?_;refine qA 12 (some 59) ?_;refine qT 13 (some 60) ?_;refine qA 14 (some 61) ?_;refine qA 15 (some 62) ?_;refine qT 16 (some 63) ?_
    refine join_ (σ:=Nat × Nat) 2 (ab 22 1048575) (fun x => [(55,.agg #[ii a.f0,ii a.f1]),(64,.agg #[ii z.f0,ii z.f1]),(15,.pointer (some ⟨x.1,0,none⟩)),(16,.pointer (some ⟨x.2,0,none⟩))]) (fun x w' => Below wd.heap.size wd w' ∧ w'.heap[x.1]? = some (.cells #[ii 0,ii 0] 43 (0,0)) ∧ w'.heap[x.2]? = some (.cells #[ii 0,ii 0] 43 (0,0)) ∧ x.1 ≠ x.2 ∧ wd.heap.size ≤ x.1 ∧ wd.heap.size ≤ x.2) ?_ ?_
    rotate_left
    ·intro hCont
     refine three_ (i:=8) (j:=18) (k:=19) (Ni:=some 55) (Nj:=some 15) (Nk:=some 16) (ab 22 131071) (ab 22 392959) (ab 22 655103) rfl rfl rfl rfl rfl rfl (three_of HT_.out kr) (by decide) (by decide) (by decide) (fun K hK => ?_) (fun K hK => ?_) (fun K hK => ?_)
     ·skip
      refine gC Tryz.func157 #[ii (x.f1.f0 * s.f1),ii s.f0] ?_
      refine (pit_ratio.calls FU _ _ _ _ _ HA4.out).mono ?_
      rintro e wf1 ⟨rfl,hb⟩
      have hB_wf1 : Below wd.heap.size wd wf1:=below_then (Below.refl wd.heap.size wd) (below_size (Below.refl wd.heap.size wd)) hb
      refine ⟨_,rfl,?_⟩
      refine hK.out _ _ ⟨(blk_cell (blk_below HX5.out hB_wf1) 1).trans rfl,(blk_cell (blk_below HX5.out hB_wf1) 2).trans rfl,(blk_cell (blk_below HE1.out hB_wf1) 0).trans rfl,(blk_cell (blk_below HE1.out hB_wf1) 1).trans rfl⟩ (fun hHeld => ?_)
      clear hK K
      refine qN (some 55) ?_
      refine three_ (i:=17) (j:=18) (k:=19) (Ni:=some 64) (Nj:=some 15) (Nk:=some 16) (ab 22 262143) (ab 22 393215) (ab 22 655359) rfl rfl rfl rfl rfl rfl (three_of HT_.out kr) (by decide) (by decide) (by decide) (fun K hK => ?_) (fun K hK => ?_) (fun K hK => ?_)
      ·skip
       refine gC Tryz.func157 #[ii (x.f1.f1 * s.f1),ii s.f0] ?_
       refine (pit_ratio.calls FU _ _ _ _ _ HZ4.out).mono ?_
       rintro e wf2 ⟨rfl,hb⟩
       have hB_wf2 : Below wd.heap.size wd wf2:=below_then (hB_wf1) (below_size (hB_wf1)) hb
       refine ⟨_,rfl,?_⟩
       refine hK.out _ _ ⟨(blk_cell (blk_below HX5.out hB_wf2) 1).trans rfl,(blk_cell (blk_below HX5.out hB_wf2) 2).trans rfl,(blk_cell (blk_below HE1.out hB_wf2) 0).trans rfl,(blk_cell (blk_below HE1.out hB_wf2) 1).trans rfl⟩ (fun hHeld => ?_)
       clear hK K
       refine qN (some 64) ?_
       refine two_ (i:=18) (j:=19) (Ni:=some 15) (Nj:=some 16) (ab 22 524287) (ab 22 786431) rfl rfl rfl rfl (two_of HT_.out kr) (by decide) (by decide) (fun K hK => ?_) (fun K hK => ?_)
       ·skip
        refine value_ (w1:=?_) (v:=?_) (by rfl) rfl ?_ ?_
        rotate_left 2
        ·go_simp
         constructor
         ·rfl
         ·rfl
        refine hK.out _ _ ⟨(blk_cell (blk_below HX5.out (below_alloc (hB_wf2) (.cells #[ii 0,ii 0] 43))) 1).trans rfl,(blk_cell (blk_below HX5.out (below_alloc (hB_wf2) (.cells #[ii 0,ii 0] 43))) 2).trans rfl,(blk_cell (blk_below HE1.out (below_alloc (hB_wf2) (.cells #[ii 0,ii 0] 43))) 0).trans rfl,(blk_cell (blk_below HE1.out (below_alloc (hB_wf2) (.cells #[ii 0,ii 0] 43))) 1).trans rfl⟩ (fun hHeld => ?_)
        clear hK K
        refine qN (some 15) ?_
        refine one_ (i:=19) (N:=some 16) (ab 22 1048575) rfl rfl (one_of HT_.out kr) (by decide) (fun K hK => ?_)
        refine value_ (w1:=?_) (v:=?_) (by rfl) rfl ?_ ?_
        rotate_left 2
        ·go_simp
         constructor
         ·rfl
         ·rfl
        refine hK.out _ _ ⟨(blk_cell (blk_below HX5.out (below_alloc ((below_alloc (hB_wf2) (.cells #[ii 0,ii 0] 43))) (.cells #[ii 0,ii 0] 43))) 1).trans rfl,(blk_cell (blk_below HX5.out (below_alloc ((below_alloc (hB_wf2) (.cells #[ii 0,ii 0] 43))) (.cells #[ii 0,ii 0] 43))) 2).trans rfl,(blk_cell (blk_below HE1.out (below_alloc ((below_alloc (hB_wf2) (.cells #[ii 0,ii 0] 43))) (.cells #[ii 0,ii 0] 43))) 0).trans rfl,(blk_cell (blk_below HE1.out (below_alloc ((below_alloc (hB_wf2) (.cells #[ii 0,ii 0] 43))) (.cells #[ii 0,ii 0] 43))) 1).trans rfl⟩ (fun hHeld => ?_)
        clear hK K
        refine qN (some 16) ?_
        exact nI (hCont ⟨wf2.heap.size,wf2.heap.size + 1⟩ _ ⟨(below_alloc ((below_alloc (hB_wf2) (.cells #[ii 0,ii 0] 43))) (.cells #[ii 0,ii 0] 43)),(blk_alloc ((blk_new' wf2 (.cells #[ii 0,ii 0] 43) (wf2.heap.size) (by simp))) (.cells #[ii 0,ii 0] 43)),(blk_new' (wf2.alloc (.cells #[ii 0,ii 0] 43)) (.cells #[ii 0,ii 0] 43) (wf2.heap.size + 1) (by simp)),(by have h:=blk_lt ((blk_new' wf2 (.cells #[ii 0,ii 0] 43) (wf2.heap.size) (by simp)));first|omega|(simp at h;omega)),(by have h:=(hB_wf2).size;first|(simp;done)|simpa using h),(by have h:=((below_alloc (hB_wf2) (.cells #[ii 0,ii 0] 43))).size;first|(simp;done)|simpa using h)⟩)
       ·skip
        refine value_ (w1:=?_) (v:=?_) (by rfl) rfl ?_ ?_
        rotate_left 2
        ·go_simp
         constructor
         ·rfl
         ·rfl
        refine hK.out _ _ ⟨(blk_cell (blk_below HX5.out (below_alloc (hB_wf2) (.cells #[ii 0,ii 0] 43))) 1).trans rfl,(blk_cell (blk_below HX5.out (below_alloc (hB_wf2) (.cells #[ii 0,ii 0] 43))) 2).trans rfl,(blk_cell (blk_below HE1.out (below_alloc (hB_wf2) (.cells #[ii 0,ii 0] 43))) 0).trans rfl,(blk_cell (blk_below HE1.out (below_alloc (hB_wf2) (.cells #[ii 0,ii 0] 43))) 1).trans rfl⟩ (fun hHeld => ?_)
        clear hK K
        refine qN (some 16) ?_
        refine one_ (i:=18) (N:=some 15) (ab 22 1048575) rfl rfl (one_of HT_.out kr) (by decide) (fun K hK => ?_)
        refine value_ (w1:=?_) (v:=?_) (by rfl) rfl ?_ ?_
        rotate_left 2
        ·go_simp
         constructor
         ·rfl
         ·rfl
        refine hK.out _ _ ⟨(blk_cell (blk_below HX5.out (below_alloc ((below_alloc (hB_wf2) (.cells #[ii 0,ii 0] 43))) (.cells #[ii 0,ii 0] 43))) 1).trans rfl,(blk_cell (blk_below HX5.out (below_alloc ((below_alloc (hB_wf2) (.cells #[ii 0,ii 0] 43))) (.cells #[ii 0,ii 0] 43))) 2).trans rfl,(blk_cell (blk_below HE1.out (below_alloc ((below_alloc (hB_wf2) (.cells #[ii 0,ii 0] 43))) (.cells #[ii 0,ii 0] 43))) 0).trans rfl,(blk_cell (blk_below HE1.out (below_alloc ((below_alloc (hB_wf2) (.cells #[ii 0,ii 0] 43))) (.cells #[ii 0,ii 0] 43))) 1).trans rfl⟩ (fun hHeld => ?_)
        clear hK K
        refine qN (some 15) ?_
        exact nI (hCont ⟨wf2.heap.size + 1,wf2.heap.size⟩ _ ⟨(below_alloc ((below_alloc (hB_wf2) (.cells #[ii 0,ii 0] 43))) (.cells #[ii 0,ii 0] 43)),(blk_new' (wf2.alloc (.cells #[ii 0,ii 0] 43)) (.cells #[ii 0,ii 0] 43) (wf2.heap.size + 1) (by simp)),(blk_alloc ((blk_new' wf2 (.cells #[ii 0,ii 0] 43) (wf2.heap.size) (by simp))) (.cells #[ii 0,ii 0] 43)),(by have h:=blk_lt ((blk_new' wf2 (.cells #[ii 0,ii 0] 43) (wf2.heap.size) (by simp)));first|omega|(simp at h;omega)),(by have h:=((below_alloc (hB_wf2) (.cells #[ii 0,ii 0] 43))).size;first|(simp;done)|simpa using h),(by have h:=(hB_wf2).size;first|(simp;done)|simpa using h)⟩)
      ·skip
       refine value_ (w1:=?_) (v:=?_) (by rfl) rfl ?_ ?_
       rotate_left 2
       ·go_simp
        constructor
        ·rfl
        ·rfl
       refine hK.out _ _ ⟨(blk_cell (blk_below HX5.out (below_alloc (hB_wf1) (.cells #[ii 0,ii 0] 43))) 1).trans rfl,(blk_cell (blk_below HX5.out (below_alloc (hB_wf1) (.cells #[ii 0,ii 0] 43))) 2).trans rfl,(blk_cell (blk_below HE1.out (below_alloc (hB_wf1) (.cells #[ii 0,ii 0] 43))) 0).trans rfl,(blk_cell (blk_below HE1.out (below_alloc (hB_wf1) (.cells #[ii 0,ii 0] 43))) 1).trans rfl⟩ (fun hHeld => ?_)
       clear hK K
       refine qN (some 15) ?_
       refine two_ (i:=17) (j:=19) (Ni:=some 64) (Nj:=some 16) (ab 22 524287) (ab 22 917503) rfl rfl rfl rfl (two_of HT_.out kr) (by decide) (by decide) (fun K hK => ?_) (fun K hK => ?_)
       ·skip
        refine gC Tryz.func157 #[ii (x.f1.f1 * s.f1),ii s.f0] ?_
        refine (pit_ratio.calls FU _ _ _ _ _ HZ4.out).mono ?_
        rintro e wf3 ⟨rfl,hb⟩
        have hB_wf3 : Below wd.heap.size wd wf3:=below_then ((below_alloc (hB_wf1) (.cells #[ii 0,ii 0] 43))) (below_size ((below_alloc (hB_wf1) (.cells #[ii 0,ii 0] 43)))) hb
        have hb15_wf3:=blk_below ((blk_new' wf1 (.cells #[ii 0,ii 0] 43) (wf1.heap.size) (by simp))) hb
        refine ⟨_,rfl,?_⟩
        refine hK.out _ _ ⟨(blk_cell (blk_below HX5.out hB_wf3) 1).trans rfl,(blk_cell (blk_below HX5.out hB_wf3) 2).trans rfl,(blk_cell (blk_below HE1.out hB_wf3) 0).trans rfl,(blk_cell (blk_below HE1.out hB_wf3) 1).trans rfl⟩ (fun hHeld => ?_)
        clear hK K
        refine qN (some 64) ?_
        refine one_ (i:=19) (N:=some 16) (ab 22 1048575) rfl rfl (one_of HT_.out kr) (by decide) (fun K hK => ?_)
        refine value_ (w1:=?_) (v:=?_) (by rfl) rfl ?_ ?_
        rotate_left 2
        ·go_simp
         constructor
         ·rfl
         ·rfl
        refine hK.out _ _ ⟨(blk_cell (blk_below HX5.out (below_alloc (hB_wf3) (.cells #[ii 0,ii 0] 43))) 1).trans rfl,(blk_cell (blk_below HX5.out (below_alloc (hB_wf3) (.cells #[ii 0,ii 0] 43))) 2).trans rfl,(blk_cell (blk_below HE1.out (below_alloc (hB_wf3) (.cells #[ii 0,ii 0] 43))) 0).trans rfl,(blk_cell (blk_below HE1.out (below_alloc (hB_wf3) (.cells #[ii 0,ii 0] 43))) 1).trans rfl⟩ (fun hHeld => ?_)
        clear hK K
        refine qN (some 16) ?_
        exact nI (hCont ⟨wf1.heap.size,wf3.heap.size⟩ _ ⟨(below_alloc (hB_wf3) (.cells #[ii 0,ii 0] 43)),(blk_alloc (hb15_wf3) (.cells #[ii 0,ii 0] 43)),(blk_new' wf3 (.cells #[ii 0,ii 0] 43) (wf3.heap.size) (by simp)),(by have h:=blk_lt (hb15_wf3);first|omega|(simp at h;omega)),(by have h:=(hB_wf1).size;first|(simp;done)|simpa using h),(by have h:=(hB_wf3).size;first|(simp;done)|simpa using h)⟩)
       ·skip
        refine value_ (w1:=?_) (v:=?_) (by rfl) rfl ?_ ?_
        rotate_left 2
        ·go_simp
         constructor
         ·rfl
         ·rfl
        refine hK.out _ _ ⟨(blk_cell (blk_below HX5.out (below_alloc ((below_alloc (hB_wf1) (.cells #[ii 0,ii 0] 43))) (.cells #[ii 0,ii 0] 43))) 1).trans rfl,(blk_cell (blk_below HX5.out (below_alloc ((below_alloc (hB_wf1) (.cells #[ii 0,ii 0] 43))) (.cells #[ii 0,ii 0] 43))) 2).trans rfl,(blk_cell (blk_below HE1.out (below_alloc ((below_alloc (hB_wf1) (.cells #[ii 0,ii 0] 43))) (.cells #[ii 0,ii 0] 43))) 0).trans rfl,(blk_cell (blk_below HE1.out (below_alloc ((below_alloc (hB_wf1) (.cells #[ii 0,ii 0] 43))) (.cells #[ii 0,ii 0] 43))) 1).trans rfl⟩ (fun hHeld => ?_)
        clear hK K
        refine qN (some 16) ?_
        refine one_ (i:=17) (N:=some 64) (ab 22 1048575) rfl rfl (one_of HT_.out kr) (by decide) (fun K hK => ?_)
        refine gC Tryz.func157 #[ii (x.f1.f1 * s.f1),ii s.f0] ?_
        refine (pit_ratio.calls FU _ _ _ _ _ HZ4.out).mono ?_
        rintro e wf4 ⟨rfl,hb⟩
        have hB_wf4 : Below wd.heap.size wd wf4:=below_then ((below_alloc ((below_alloc (hB_wf1) (.cells #[ii 0,ii 0] 43))) (.cells #[ii 0,ii 0] 43))) (below_size ((below_alloc ((below_alloc (hB_wf1) (.cells #[ii 0,ii 0] 43))) (.cells #[ii 0,ii 0] 43)))) hb
        have hb15_wf4:=blk_below ((blk_alloc ((blk_new' wf1 (.cells #[ii 0,ii 0] 43) (wf1.heap.size) (by simp))) (.cells #[ii 0,ii 0] 43))) hb
        have hb16_wf4:=blk_below ((blk_new' (wf1.alloc (.cells #[ii 0,ii 0] 43)) (.cells #[ii 0,ii 0] 43) (wf1.heap.size + 1) (by simp))) hb
        refine ⟨_,rfl,?_⟩
        refine hK.out _ _ ⟨(blk_cell (blk_below HX5.out hB_wf4) 1).trans rfl,(blk_cell (blk_below HX5.out hB_wf4) 2).trans rfl,(blk_cell (blk_below HE1.out hB_wf4) 0).trans rfl,(blk_cell (blk_below HE1.out hB_wf4) 1).trans rfl⟩ (fun hHeld => ?_)
        clear hK K
        refine qN (some 64) ?_
        exact nI (hCont ⟨wf1.heap.size,wf1.heap.size + 1⟩ _ ⟨hB_wf4,hb15_wf4,hb16_wf4,(by have h:=blk_lt ((blk_new' wf1 (.cells #[ii 0,ii 0] 43) (wf1.heap.size) (by simp)));first|omega|(simp at h;omega)),(by have h:=(hB_wf1).size;first|(simp;done)|simpa using h),(by have h:=((below_alloc (hB_wf1) (.cells #[ii 0,ii 0] 43))).size;first|(simp;done)|simpa using h)⟩)
      ·skip
       refine value_ (w1:=?_) (v:=?_) (by rfl) rfl ?_ ?_
       rotate_left 2
       ·go_simp
        constructor
        ·rfl
        ·rfl
       refine hK.out _ _ ⟨(blk_cell (blk_below HX5.out (below_alloc (hB_wf1) (.cells #[ii 0,ii 0] 43))) 1).trans rfl,(blk_cell (blk_below HX5.out (below_alloc (hB_wf1) (.cells #[ii 0,ii 0] 43))) 2).trans rfl,(blk_cell (blk_below HE1.out (below_alloc (hB_wf1) (.cells #[ii 0,ii 0] 43))) 0).trans rfl,(blk_cell (blk_below HE1.out (below_alloc (hB_wf1) (.cells #[ii 0,ii 0] 43))) 1).trans rfl⟩ (fun hHeld => ?_)
       clear hK K
       refine qN (some 16) ?_
       refine two_ (i:=17) (j:=18) (Ni:=some 64) (Nj:=some 15) (ab 22 786431) (ab 22 917503) rfl rfl rfl rfl (two_of HT_.out kr) (by decide) (by decide) (fun K hK => ?_) (fun K hK => ?_)
       ·skip
        refine gC Tryz.func157 #[ii (x.f1.f1 * s.f1),ii s.f0] ?_
        refine (pit_ratio.calls FU _ _ _ _ _ HZ4.out).mono ?_
        rintro e wf5 ⟨rfl,hb⟩
        have hB_wf5 : Below wd.heap.size wd wf5:=below_then ((below_alloc (hB_wf1) (.cells #[ii 0,ii 0] 43))) (below_size ((below_alloc (hB_wf1) (.cells #[ii 0,ii 0] 43)))) hb
        have hb16_wf5:=blk_below ((blk_new' wf1 (.cells #[ii 0,ii 0] 43) (wf1.heap.size) (by simp))) hb
        refine ⟨_,rfl,?_⟩
        refine hK.out _ _ ⟨(blk_cell (blk_below HX5.out hB_wf5) 1).trans rfl,(blk_cell (blk_below HX5.out hB_wf5) 2).trans rfl,(blk_cell (blk_below HE1.out hB_wf5) 0).trans rfl,(blk_cell (blk_below HE1.out hB_wf5) 1).trans rfl⟩ (fun hHeld => ?_)
        clear hK K
        refine qN (some 64) ?_
        refine one_ (i:=18) (N:=some 15) (ab 22 1048575) rfl rfl (one_of HT_.out kr) (by decide) (fun K hK => ?_)
        refine value_ (w1:=?_) (v:=?_) (by rfl) rfl ?_ ?_
        rotate_left 2
        ·go_simp
         constructor
         ·rfl
         ·rfl
        refine hK.out _ _ ⟨(blk_cell (blk_below HX5.out (below_alloc (hB_wf5) (.cells #[ii 0,ii 0] 43))) 1).trans rfl,(blk_cell (blk_below HX5.out (below_alloc (hB_wf5) (.cells #[ii 0,ii 0] 43))) 2).trans rfl,(blk_cell (blk_below HE1.out (below_alloc (hB_wf5) (.cells #[ii 0,ii 0] 43))) 0).trans rfl,(blk_cell (blk_below HE1.out (below_alloc (hB_wf5) (.cells #[ii 0,ii 0] 43))) 1).trans rfl⟩ (fun hHeld => ?_)
        clear hK K
        refine qN (some 15) ?_
        exact nI (hCont ⟨wf5.heap.size,wf1.heap.size⟩ _ ⟨(below_alloc (hB_wf5) (.cells #[ii 0,ii 0] 43)),(blk_new' wf5 (.cells #[ii 0,ii 0] 43) (wf5.heap.size) (by simp)),(blk_alloc (hb16_wf5) (.cells #[ii 0,ii 0] 43)),(by have h:=blk_lt (hb16_wf5);first|omega|(simp at h;omega)),(by have h:=(hB_wf5).size;first|(simp;done)|simpa using h),(by have h:=(hB_wf1).size;first|(simp;done)|simpa using h)⟩)
       ·skip
        refine value_ (w1:=?_) (v:=?_) (by rfl) rfl ?_ ?_
        rotate_left 2
        ·go_simp
         constructor
         ·rfl
         ·rfl
        refine hK.out _ _ ⟨(blk_cell (blk_below HX5.out (below_alloc ((below_alloc (hB_wf1) (.cells #[ii 0,ii 0] 43))) (.cells #[ii 0,ii 0] 43))) 1).trans rfl,(blk_cell (blk_below HX5.out (below_alloc ((below_alloc (hB_wf1) (.cells #[ii 0,ii 0] 43))) (.cells #[ii 0,ii 0] 43))) 2).trans rfl,(blk_cell (blk_below HE1.out (below_alloc ((below_alloc (hB_wf1) (.cells #[ii 0,ii 0] 43))) (.cells #[ii 0,ii 0] 43))) 0).trans rfl,(blk_cell (blk_below HE1.out (below_alloc ((below_alloc (hB_wf1) (.cells #[ii 0,ii 0] 43))) (.cells #[ii 0,ii 0] 43))) 1).trans rfl⟩ (fun hHeld => ?_)
        clear hK K
        refine qN (some 15) ?_
        refine one_ (i:=17) (N:=some 64) (ab 22 1048575) rfl rfl (one_of HT_.out kr) (by decide) (fun K hK => ?_)
        refine gC Tryz.func157 #[ii (x.f1.f1 * s.f1),ii s.f0] ?_
        refine (pit_ratio.calls FU _ _ _ _ _ HZ4.out).mono ?_
        rintro e wf6 ⟨rfl,hb⟩
        have hB_wf6 : Below wd.heap.size wd wf6:=below_then ((below_alloc ((below_alloc (hB_wf1) (.cells #[ii 0,ii 0] 43))) (.cells #[ii 0,ii 0] 43))) (below_size ((below_alloc ((below_alloc (hB_wf1) (.cells #[ii 0,ii 0] 43))) (.cells #[ii 0,ii 0] 43)))) hb
        have hb15_wf6:=blk_below ((blk_new' (wf1.alloc (.cells #[ii 0,ii 0] 43)) (.cells #[ii 0,ii 0] 43) (wf1.heap.size + 1) (by simp))) hb
        have hb16_wf6:=blk_below ((blk_alloc ((blk_new' wf1 (.cells #[ii 0,ii 0] 43) (wf1.heap.size) (by simp))) (.cells #[ii 0,ii 0] 43))) hb
        refine ⟨_,rfl,?_⟩
        refine hK.out _ _ ⟨(blk_cell (blk_below HX5.out hB_wf6) 1).trans rfl,(blk_cell (blk_below HX5.out hB_wf6) 2).trans rfl,(blk_cell (blk_below HE1.out hB_wf6) 0).trans rfl,(blk_cell (blk_below HE1.out hB_wf6) 1).trans rfl⟩ (fun hHeld => ?_)
        clear hK K
        refine qN (some 64) ?_
        exact nI (hCont ⟨wf1.heap.size + 1,wf1.heap.size⟩ _ ⟨hB_wf6,hb15_wf6,hb16_wf6,(by have h:=blk_lt ((blk_new' wf1 (.cells #[ii 0,ii 0] 43) (wf1.heap.size) (by simp)));first|omega|(simp at h;omega)),(by have h:=((below_alloc (hB_wf1) (.cells #[ii 0,ii 0] 43))).size;first|(simp;done)|simpa using h),(by have h:=(hB_wf1).size;first|(simp;done)|simpa using h)⟩)
     ·skip
      refine value_ (w1:=?_) (v:=?_) (by rfl) rfl ?_ ?_
      rotate_left 2
      ·go_simp
       constructor
       ·rfl
       ·rfl
      refine hK.out _ _ ⟨(blk_cell (blk_below HX5.out (below_alloc (Below.refl wd.heap.size wd) (.cells #[ii 0,ii 0] 43))) 1).trans rfl,(blk_cell (blk_below HX5.out (below_alloc (Below.refl wd.heap.size wd) (.cells #[ii 0,ii 0] 43))) 2).trans rfl,(blk_cell (blk_below HE1.out (below_alloc (Below.refl wd.heap.size wd) (.cells #[ii 0,ii 0] 43))) 0).trans rfl,(blk_cell (blk_below HE1.out (below_alloc (Below.refl wd.heap.size wd) (.cells #[ii 0,ii 0] 43))) 1).trans rfl⟩ (fun hHeld => ?_)
      clear hK K
      refine qN (some 15) ?_
      refine two_ (i:=8) (j:=19) (Ni:=some 55) (Nj:=some 16) (ab 22 393215) (ab 22 917247) rfl rfl rfl rfl (two_of HT_.out kr) (by decide) (by decide) (fun K hK => ?_) (fun K hK => ?_)
      ·skip
       refine gC Tryz.func157 #[ii (x.f1.f0 * s.f1),ii s.f0] ?_
       refine (pit_ratio.calls FU _ _ _ _ _ HA4.out).mono ?_
       rintro e wf7 ⟨rfl,hb⟩
       have hB_wf7 : Below wd.heap.size wd wf7:=below_then ((below_alloc (Below.refl wd.heap.size wd) (.cells #[ii 0,ii 0] 43))) (below_size ((below_alloc (Below.refl wd.heap.size wd) (.cells #[ii 0,ii 0] 43)))) hb
       have hb15_wf7:=blk_below ((blk_new' wd (.cells #[ii 0,ii 0] 43) (wd.heap.size) (by simp))) hb
       refine ⟨_,rfl,?_⟩
       refine hK.out _ _ ⟨(blk_cell (blk_below HX5.out hB_wf7) 1).trans rfl,(blk_cell (blk_below HX5.out hB_wf7) 2).trans rfl,(blk_cell (blk_below HE1.out hB_wf7) 0).trans rfl,(blk_cell (blk_below HE1.out hB_wf7) 1).trans rfl⟩ (fun hHeld => ?_)
       clear hK K
       refine qN (some 55) ?_
       refine two_ (i:=17) (j:=19) (Ni:=some 64) (Nj:=some 16) (ab 22 524287) (ab 22 917503) rfl rfl rfl rfl (two_of HT_.out kr) (by decide) (by decide) (fun K hK => ?_) (fun K hK => ?_)
       ·skip
        refine gC Tryz.func157 #[ii (x.f1.f1 * s.f1),ii s.f0] ?_
        refine (pit_ratio.calls FU _ _ _ _ _ HZ4.out).mono ?_
        rintro e wf8 ⟨rfl,hb⟩
        have hB_wf8 : Below wd.heap.size wd wf8:=below_then (hB_wf7) (below_size (hB_wf7)) hb
        have hb15_wf8:=blk_below (hb15_wf7) hb
        refine ⟨_,rfl,?_⟩
        refine hK.out _ _ ⟨(blk_cell (blk_below HX5.out hB_wf8) 1).trans rfl,(blk_cell (blk_below HX5.out hB_wf8) 2).trans rfl,(blk_cell (blk_below HE1.out hB_wf8) 0).trans rfl,(blk_cell (blk_below HE1.out hB_wf8) 1).trans rfl⟩ (fun hHeld => ?_)
        clear hK K
        refine qN (some 64) ?_
        refine one_ (i:=19) (N:=some 16) (ab 22 1048575) rfl rfl (one_of HT_.out kr) (by decide) (fun K hK => ?_)
        refine value_ (w1:=?_) (v:=?_) (by rfl) rfl ?_ ?_
        rotate_left 2
        ·go_simp
         constructor
         ·rfl
         ·rfl
        refine hK.out _ _ ⟨(blk_cell (blk_below HX5.out (below_alloc (hB_wf8) (.cells #[ii 0,ii 0] 43))) 1).trans rfl,(blk_cell (blk_below HX5.out (below_alloc (hB_wf8) (.cells #[ii 0,ii 0] 43))) 2).trans rfl,(blk_cell (blk_below HE1.out (below_alloc (hB_wf8) (.cells #[ii 0,ii 0] 43))) 0).trans rfl,(blk_cell (blk_below HE1.out (below_alloc (hB_wf8) (.cells #[ii 0,ii 0] 43))) 1).trans rfl⟩ (fun hHeld => ?_)
        clear hK K
        refine qN (some 16) ?_
        exact nI (hCont ⟨wd.heap.size,wf8.heap.size⟩ _ ⟨(below_alloc (hB_wf8) (.cells #[ii 0,ii 0] 43)),(blk_alloc (hb15_wf8) (.cells #[ii 0,ii 0] 43)),(blk_new' wf8 (.cells #[ii 0,ii 0] 43) (wf8.heap.size) (by simp)),(by have h:=blk_lt (hb15_wf8);first|omega|(simp at h;omega)),(by have h:=(Below.refl wd.heap.size wd).size;first|(simp;done)|simpa using h),(by have h:=(hB_wf8).size;first|(simp;done)|simpa using h)⟩)
       ·skip
        refine value_ (w1:=?_) (v:=?_) (by rfl) rfl ?_ ?_
        rotate_left 2
        ·go_simp
         constructor
         ·rfl
         ·rfl
        refine hK.out _ _ ⟨(blk_cell (blk_below HX5.out (below_alloc (hB_wf7) (.cells #[ii 0,ii 0] 43))) 1).trans rfl,(blk_cell (blk_below HX5.out (below_alloc (hB_wf7) (.cells #[ii 0,ii 0] 43))) 2).trans rfl,(blk_cell (blk_below HE1.out (below_alloc (hB_wf7) (.cells #[ii 0,ii 0] 43))) 0).trans rfl,(blk_cell (blk_below HE1.out (below_alloc (hB_wf7) (.cells #[ii 0,ii 0] 43))) 1).trans rfl⟩ (fun hHeld => ?_)
        clear hK K
        refine qN (some 16) ?_
        refine one_ (i:=17) (N:=some 64) (ab 22 1048575) rfl rfl (one_of HT_.out kr) (by decide) (fun K hK => ?_)
        refine gC Tryz.func157 #[ii (x.f1.f1 * s.f1),ii s.f0] ?_
        refine (pit_ratio.calls FU _ _ _ _ _ HZ4.out).mono ?_
        rintro e wf9 ⟨rfl,hb⟩
        have hB_wf9 : Below wd.heap.size wd wf9:=below_then ((below_alloc (hB_wf7) (.cells #[ii 0,ii 0] 43))) (below_size ((below_alloc (hB_wf7) (.cells #[ii 0,ii 0] 43)))) hb
        have hb15_wf9:=blk_below ((blk_alloc (hb15_wf7) (.cells #[ii 0,ii 0] 43))) hb
        have hb16_wf9:=blk_below ((blk_new' wf7 (.cells #[ii 0,ii 0] 43) (wf7.heap.size) (by simp))) hb
        refine ⟨_,rfl,?_⟩
        refine hK.out _ _ ⟨(blk_cell (blk_below HX5.out hB_wf9) 1).trans rfl,(blk_cell (blk_below HX5.out hB_wf9) 2).trans rfl,(blk_cell (blk_below HE1.out hB_wf9) 0).trans rfl,(blk_cell (blk_below HE1.out hB_wf9) 1).trans rfl⟩ (fun hHeld => ?_)
        clear hK K
        refine qN (some 64) ?_
        exact nI (hCont ⟨wd.heap.size,wf7.heap.size⟩ _ ⟨hB_wf9,hb15_wf9,hb16_wf9,(by have h:=blk_lt (hb15_wf7);first|omega|(simp at h;omega)),(by have h:=(Below.refl wd.heap.size wd).size;first|(simp;done)|simpa using h),(by have h:=(hB_wf7).size;first|(simp;done)|simpa using h)⟩)
      ·skip
       refine value_ (w1:=?_) (v:=?_) (by rfl) rfl ?_ ?_
       rotate_left 2
       ·go_simp
        constructor
        ·rfl
        ·rfl
       refine hK.out _ _ ⟨(blk_cell (blk_below HX5.out (below_alloc ((below_alloc (Below.refl wd.heap.size wd) (.cells #[ii 0,ii 0] 43))) (.cells #[ii 0,ii 0] 43))) 1).trans rfl,(blk_cell (blk_below HX5.out (below_alloc ((below_alloc (Below.refl wd.heap.size wd) (.cells #[ii 0,ii 0] 43))) (.cells #[ii 0,ii 0] 43))) 2).trans rfl,(blk_cell (blk_below HE1.out (below_alloc ((below_alloc (Below.refl wd.heap.size wd) (.cells #[ii 0,ii 0] 43))) (.cells #[ii 0,ii 0] 43))) 0).trans rfl,(blk_cell (blk_below HE1.out (below_alloc ((below_alloc (Below.refl wd.heap.size wd) (.cells #[ii 0,ii 0] 43))) (.cells #[ii 0,ii 0] 43))) 1).trans rfl⟩ (fun hHeld => ?_)
       clear hK K
       refine qN (some 16) ?_
       refine one_ (i:=8) (N:=some 55) (ab 22 917503) rfl rfl (one_of HT_.out kr) (by decide) (fun K hK => ?_)
       refine gC Tryz.func157 #[ii (x.f1.f0 * s.f1),ii s.f0] ?_
       refine (pit_ratio.calls FU _ _ _ _ _ HA4.out).mono ?_
       rintro e wf10 ⟨rfl,hb⟩
       have hB_wf10 : Below wd.heap.size wd wf10:=below_then ((below_alloc ((below_alloc (Below.refl wd.heap.size wd) (.cells #[ii 0,ii 0] 43))) (.cells #[ii 0,ii 0] 43))) (below_size ((below_alloc ((below_alloc (Below.refl wd.heap.size wd) (.cells #[ii 0,ii 0] 43))) (.cells #[ii 0,ii 0] 43)))) hb
       have hb15_wf10:=blk_below ((blk_alloc ((blk_new' wd (.cells #[ii 0,ii 0] 43) (wd.heap.size) (by simp))) (.cells #[ii 0,ii 0] 43))) hb
       have hb16_wf10:=blk_below ((blk_new' (wd.alloc (.cells #[ii 0,ii 0] 43)) (.cells #[ii 0,ii 0] 43) (wd.heap.size + 1) (by simp))) hb
       refine ⟨_,rfl,?_⟩
       refine hK.out _ _ ⟨(blk_cell (blk_below HX5.out hB_wf10) 1).trans rfl,(blk_cell (blk_below HX5.out hB_wf10) 2).trans rfl,(blk_cell (blk_below HE1.out hB_wf10) 0).trans rfl,(blk_cell (blk_below HE1.out hB_wf10) 1).trans rfl⟩ (fun hHeld => ?_)
       clear hK K
       refine qN (some 55) ?_
       refine one_ (i:=17) (N:=some 64) (ab 22 1048575) rfl rfl (one_of HT_.out kr) (by decide) (fun K hK => ?_)
       refine gC Tryz.func157 #[ii (x.f1.f1 * s.f1),ii s.f0] ?_
       refine (pit_ratio.calls FU _ _ _ _ _ HZ4.out).mono ?_
       rintro e wf11 ⟨rfl,hb⟩
       have hB_wf11 : Below wd.heap.size wd wf11:=below_then (hB_wf10) (below_size (hB_wf10)) hb
       have hb15_wf11:=blk_below (hb15_wf10) hb
       have hb16_wf11:=blk_below (hb16_wf10) hb
       refine ⟨_,rfl,?_⟩
       refine hK.out _ _ ⟨(blk_cell (blk_below HX5.out hB_wf11) 1).trans rfl,(blk_cell (blk_below HX5.out hB_wf11) 2).trans rfl,(blk_cell (blk_below HE1.out hB_wf11) 0).trans rfl,(blk_cell (blk_below HE1.out hB_wf11) 1).trans rfl⟩ (fun hHeld => ?_)
       clear hK K
       refine qN (some 64) ?_
       exact nI (hCont ⟨wd.heap.size,wd.heap.size + 1⟩ _ ⟨hB_wf11,hb15_wf11,hb16_wf11,(by have h:=blk_lt ((blk_new' wd (.cells #[ii 0,ii 0] 43) (wd.heap.size) (by simp)));first|omega|(simp at h;omega)),(by have h:=(Below.refl wd.heap.size wd).size;first|(simp;done)|simpa using h),(by have h:=((below_alloc (Below.refl wd.heap.size wd) (.cells #[ii 0,ii 0] 43))).size;first|(simp;done)|simpa using h)⟩)
     ·skip
      refine value_ (w1:=?_) (v:=?_) (by rfl) rfl ?_ ?_
      rotate_left 2
      ·go_simp
       constructor
       ·rfl
       ·rfl
      refine hK.out _ _ ⟨(blk_cell (blk_below HX5.out (below_alloc (Below.refl wd.heap.size wd) (.cells #[ii 0,ii 0] 43))) 1).trans rfl,(blk_cell (blk_below HX5.out (below_alloc (Below.refl wd.heap.size wd) (.cells #[ii 0,ii 0] 43))) 2).trans rfl,(blk_cell (blk_below HE1.out (below_alloc (Below.refl wd.heap.size wd) (.cells #[ii 0,ii 0] 43))) 0).trans rfl,(blk_cell (blk_below HE1.out (below_alloc (Below.refl wd.heap.size wd) (.cells #[ii 0,ii 0] 43))) 1).trans rfl⟩ (fun hHeld => ?_)
      clear hK K
      refine qN (some 16) ?_
      refine two_ (i:=8) (j:=18) (Ni:=some 55) (Nj:=some 15) (ab 22 655359) (ab 22 917247) rfl rfl rfl rfl (two_of HT_.out kr) (by decide) (by decide) (fun K hK => ?_) (fun K hK => ?_)
      ·skip
       refine gC Tryz.func157 #[ii (x.f1.f0 * s.f1),ii s.f0] ?_
       refine (pit_ratio.calls FU _ _ _ _ _ HA4.out).mono ?_
       rintro e wf12 ⟨rfl,hb⟩
       have hB_wf12 : Below wd.heap.size wd wf12:=below_then ((below_alloc (Below.refl wd.heap.size wd) (.cells #[ii 0,ii 0] 43))) (below_size ((below_alloc (Below.refl wd.heap.size wd) (.cells #[ii 0,ii 0] 43)))) hb
       have hb16_wf12:=blk_below ((blk_new' wd (.cells #[ii 0,ii 0] 43) (wd.heap.size) (by simp))) hb
       refine ⟨_,rfl,?_⟩
       refine hK.out _ _ ⟨(blk_cell (blk_below HX5.out hB_wf12) 1).trans rfl,(blk_cell (blk_below HX5.out hB_wf12) 2).trans rfl,(blk_cell (blk_below HE1.out hB_wf12) 0).trans rfl,(blk_cell (blk_below HE1.out hB_wf12) 1).trans rfl⟩ (fun hHeld => ?_)
       clear hK K
       refine qN (some 55) ?_
       refine two_ (i:=17) (j:=18) (Ni:=some 64) (Nj:=some 15) (ab 22 786431) (ab 22 917503) rfl rfl rfl rfl (two_of HT_.out kr) (by decide) (by decide) (fun K hK => ?_) (fun K hK => ?_)
       ·skip
        refine gC Tryz.func157 #[ii (x.f1.f1 * s.f1),ii s.f0] ?_
        refine (pit_ratio.calls FU _ _ _ _ _ HZ4.out).mono ?_
        rintro e wf13 ⟨rfl,hb⟩
        have hB_wf13 : Below wd.heap.size wd wf13:=below_then (hB_wf12) (below_size (hB_wf12)) hb
        have hb16_wf13:=blk_below (hb16_wf12) hb
        refine ⟨_,rfl,?_⟩
        refine hK.out _ _ ⟨(blk_cell (blk_below HX5.out hB_wf13) 1).trans rfl,(blk_cell (blk_below HX5.out hB_wf13) 2).trans rfl,(blk_cell (blk_below HE1.out hB_wf13) 0).trans rfl,(blk_cell (blk_below HE1.out hB_wf13) 1).trans rfl⟩ (fun hHeld => ?_)
        clear hK K
        refine qN (some 64) ?_
        refine one_ (i:=18) (N:=some 15) (ab 22 1048575) rfl rfl (one_of HT_.out kr) (by decide) (fun K hK => ?_)
        refine value_ (w1:=?_) (v:=?_) (by rfl) rfl ?_ ?_
        rotate_left 2
        ·go_simp
         constructor
         ·rfl
         ·rfl
        refine hK.out _ _ ⟨(blk_cell (blk_below HX5.out (below_alloc (hB_wf13) (.cells #[ii 0,ii 0] 43))) 1).trans rfl,(blk_cell (blk_below HX5.out (below_alloc (hB_wf13) (.cells #[ii 0,ii 0] 43))) 2).trans rfl,(blk_cell (blk_below HE1.out (below_alloc (hB_wf13) (.cells #[ii 0,ii 0] 43))) 0).trans rfl,(blk_cell (blk_below HE1.out (below_alloc (hB_wf13) (.cells #[ii 0,ii 0] 43))) 1).trans rfl⟩ (fun hHeld => ?_)
        clear hK K
        refine qN (some 15) ?_
        exact nI (hCont ⟨wf13.heap.size,wd.heap.size⟩ _ ⟨(below_alloc (hB_wf13) (.cells #[ii 0,ii 0] 43)),(blk_new' wf13 (.cells #[ii 0,ii 0] 43) (wf13.heap.size) (by simp)),(blk_alloc (hb16_wf13) (.cells #[ii 0,ii 0] 43)),(by have h:=blk_lt (hb16_wf13);first|omega|(simp at h;omega)),(by have h:=(hB_wf13).size;first|(simp;done)|simpa using h),(by have h:=(Below.refl wd.heap.size wd).size;first|(simp;done)|simpa using h)⟩)
       ·skip
        refine value_ (w1:=?_) (v:=?_) (by rfl) rfl ?_ ?_
        rotate_left 2
        ·go_simp
         constructor
         ·rfl
         ·rfl
        refine hK.out _ _ ⟨(blk_cell (blk_below HX5.out (below_alloc (hB_wf12) (.cells #[ii 0,ii 0] 43))) 1).trans rfl,(blk_cell (blk_below HX5.out (below_alloc (hB_wf12) (.cells #[ii 0,ii 0] 43))) 2).trans rfl,(blk_cell (blk_below HE1.out (below_alloc (hB_wf12) (.cells #[ii 0,ii 0] 43))) 0).trans rfl,(blk_cell (blk_below HE1.out (below_alloc (hB_wf12) (.cells #[ii 0,ii 0] 43))) 1).trans rfl⟩ (fun hHeld => ?_)
        clear hK K
        refine qN (some 15) ?_
        refine one_ (i:=17) (N:=some 64) (ab 22 1048575) rfl rfl (one_of HT_.out kr) (by decide) (fun K hK => ?_)
        refine gC Tryz.func157 #[ii (x.f1.f1 * s.f1),ii s.f0] ?_
        refine (pit_ratio.calls FU _ _ _ _ _ HZ4.out).mono ?_
        rintro e wf14 ⟨rfl,hb⟩
        have hB_wf14 : Below wd.heap.size wd wf14:=below_then ((below_alloc (hB_wf12) (.cells #[ii 0,ii 0] 43))) (below_size ((below_alloc (hB_wf12) (.cells #[ii 0,ii 0] 43)))) hb
        have hb15_wf14:=blk_below ((blk_new' wf12 (.cells #[ii 0,ii 0] 43) (wf12.heap.size) (by simp))) hb
        have hb16_wf14:=blk_below ((blk_alloc (hb16_wf12) (.cells #[ii 0,ii 0] 43))) hb
        refine ⟨_,rfl,?_⟩
        refine hK.out _ _ ⟨(blk_cell (blk_below HX5.out hB_wf14) 1).trans rfl,(blk_cell (blk_below HX5.out hB_wf14) 2).trans rfl,(blk_cell (blk_below HE1.out hB_wf14) 0).trans rfl,(blk_cell (blk_below HE1.out hB_wf14) 1).trans rfl⟩ (fun hHeld => ?_)
        clear hK K
        refine qN (some 64) ?_
        exact nI (hCont ⟨wf12.heap.size,wd.heap.size⟩ _ ⟨hB_wf14,hb15_wf14,hb16_wf14,(by have h:=blk_lt (hb16_wf12);first|omega|(simp at h;omega)),(by have h:=(hB_wf12).size;first|(simp;done)|simpa using h),(by have h:=(Below.refl wd.heap.size wd).size;first|(simp;done)|simpa using h)⟩)
      ·skip
       refine value_ (w1:=?_) (v:=?_) (by rfl) rfl ?_ ?_
       rotate_left 2
       ·go_simp
        constructor
        ·rfl
        ·rfl
       refine hK.out _ _ ⟨(blk_cell (blk_below HX5.out (below_alloc ((below_alloc (Below.refl wd.heap.size wd) (.cells #[ii 0,ii 0] 43))) (.cells #[ii 0,ii 0] 43))) 1).trans rfl,(blk_cell (blk_below HX5.out (below_alloc ((below_alloc (Below.refl wd.heap.size wd) (.cells #[ii 0,ii 0] 43))) (.cells #[ii 0,ii 0] 43))) 2).trans rfl,(blk_cell (blk_below HE1.out (below_alloc ((below_alloc (Below.refl wd.heap.size wd) (.cells #[ii 0,ii 0] 43))) (.cells #[ii 0,ii 0] 43))) 0).trans rfl,(blk_cell (blk_below HE1.out (below_alloc ((below_alloc (Below.refl wd.heap.size wd) (.cells #[ii 0,ii 0] 43))) (.cells #[ii 0,ii 0] 43))) 1).trans rfl⟩ (fun hHeld => ?_)
       clear hK K
       refine qN (some 15) ?_
       refine one_ (i:=8) (N:=some 55) (ab 22 917503) rfl rfl (one_of HT_.out kr) (by decide) (fun K hK => ?_)
       refine gC Tryz.func157 #[ii (x.f1.f0 * s.f1),ii s.f0] ?_
       refine (pit_ratio.calls FU _ _ _ _ _ HA4.out).mono ?_
       rintro e wf15 ⟨rfl,hb⟩
       have hB_wf15 : Below wd.heap.size wd wf15:=below_then ((below_alloc ((below_alloc (Below.refl wd.heap.size wd) (.cells #[ii 0,ii 0] 43))) (.cells #[ii 0,ii 0] 43))) (below_size ((below_alloc ((below_alloc (Below.refl wd.heap.size wd) (.cells #[ii 0,ii 0] 43))) (.cells #[ii 0,ii 0] 43)))) hb
       have hb15_wf15:=blk_below ((blk_new' (wd.alloc (.cells #[ii 0,ii 0] 43)) (.cells #[ii 0,ii 0] 43) (wd.heap.size + 1) (by simp))) hb
       have hb16_wf15:=blk_below ((blk_alloc ((blk_new' wd (.cells #[ii 0,ii 0] 43) (wd.heap.size) (by simp))) (.cells #[ii 0,ii 0] 43))) hb
       refine ⟨_,rfl,?_⟩
       refine hK.out _ _ ⟨(blk_cell (blk_below HX5.out hB_wf15) 1).trans rfl,(blk_cell (blk_below HX5.out hB_wf15) 2).trans rfl,(blk_cell (blk_below HE1.out hB_wf15) 0).trans rfl,(blk_cell (blk_below HE1.out hB_wf15) 1).trans rfl⟩ (fun hHeld => ?_)
       clear hK K
       refine qN (some 55) ?_
       refine one_ (i:=17) (N:=some 64) (ab 22 1048575) rfl rfl (one_of HT_.out kr) (by decide) (fun K hK => ?_)
       refine gC Tryz.func157 #[ii (x.f1.f1 * s.f1),ii s.f0] ?_
       refine (pit_ratio.calls FU _ _ _ _ _ HZ4.out).mono ?_
       rintro e wf16 ⟨rfl,hb⟩
       have hB_wf16 : Below wd.heap.size wd wf16:=below_then (hB_wf15) (below_size (hB_wf15)) hb
       have hb15_wf16:=blk_below (hb15_wf15) hb
       have hb16_wf16:=blk_below (hb16_wf15) hb
       refine ⟨_,rfl,?_⟩
       refine hK.out _ _ ⟨(blk_cell (blk_below HX5.out hB_wf16) 1).trans rfl,(blk_cell (blk_below HX5.out hB_wf16) 2).trans rfl,(blk_cell (blk_below HE1.out hB_wf16) 0).trans rfl,(blk_cell (blk_below HE1.out hB_wf16) 1).trans rfl⟩ (fun hHeld => ?_)
       clear hK K
       refine qN (some 64) ?_
       exact nI (hCont ⟨wd.heap.size + 1,wd.heap.size⟩ _ ⟨hB_wf16,hb15_wf16,hb16_wf16,(by have h:=blk_lt ((blk_new' wd (.cells #[ii 0,ii 0] 43) (wd.heap.size) (by simp)));first|omega|(simp at h;omega)),(by have h:=((below_alloc (Below.refl wd.heap.size wd) (.cells #[ii 0,ii 0] 43))).size;first|(simp;done)|simpa using h),(by have h:=(Below.refl wd.heap.size wd).size;first|(simp;done)|simpa using h)⟩)
    rintro ⟨p,y⟩ w7 ⟨hb,hp,hy,hne,hlp,hly⟩
    have HI:=am (show wr.heap.size < wd.heap.size ∧ w2.heap.size < wr.heap.size from ⟨blk_lt HX5.out,Nat.lt_of_lt_of_le (blk_lt HT.out) (Nat.le_refl _)⟩)
    have HIX:=am (show p ≠ y ∧ wd.heap.size ≤ p ∧ wd.heap.size ≤ y from ⟨hne,hlp,hly⟩)
    have HT7:=am (blk_below HT6.out hb)
    have HN7:=am (below_then HN6.out (below_size HN6.out) hb)
    have H15:=am (hp)
    have H16:=am (hy)
    clear hb hp hy hne hlp hly
    refine norm_ (a':=?_) ?_ ?_
    rotate_left
    ·simp only [putAll,Act.put,List.setIfInBounds_toArray,List.set_cons_zero,List.set_cons_succ]
     rfl
    refine last_ (i:=20) (N:=none) (ab 22 2097151) rfl rfl (one_of HT_.out kr) (by decide) (fun K hK => ?_)
    have u0:=bd H15.out 0
    have fu0:=blk_frozen H15.out 0
    have u1:=bd H15.out 1
    have fu1:=blk_frozen H15.out 1
    refine skip_ (w1:=?_) (by rfl) rfl ?_ ?_
    rotate_left
    ·go_simp
     rfl
    have HT8:=am (blk_far (p:=⟨p,1,none⟩) (blk_far (p:=⟨p,0,none⟩) (HT7.out) (by have h1:=HI.out;have h2:=HIX.out;(try dsimp only);omega) (ii a.f0)) (by have h1:=HI.out;have h2:=HIX.out;(try dsimp only);omega) (ii a.f1))
    have HN8:=am (((HN7.out).setCell (p:=⟨p,0,none⟩) (by have h1:=HI.out;have h2:=HIX.out;(try dsimp only);omega) (ii a.f0)).setCell (p:=⟨p,1,none⟩) (by have h1:=HI.out;have h2:=HIX.out;(try dsimp only);omega) (ii a.f1))
    have H161:=am (blk_far (p:=⟨p,1,none⟩) (blk_far (p:=⟨p,0,none⟩) (H16.out) (by have h1:=HI.out;have h2:=HIX.out;(try dsimp only);omega) (ii a.f0)) (by have h1:=HI.out;have h2:=HIX.out;(try dsimp only);omega) (ii a.f1))
    have H151:=am (blk_put (cs':=#[ii a.f0,ii a.f1]) (blk_put (cs':=#[ii a.f0,ii 0]) (H15.out) 0 (ii a.f0) rfl) 1 (ii a.f1) rfl)
    refine hK.out _ _ ?_
    clear hK K
    refine last_ (i:=21) (N:=none) (ab 22 4194303) rfl rfl (one_of HT_.out kr) (by decide) (fun K hK => ?_)
    have v0:=bd H161.out 0
    have fv0:=blk_frozen H161.out 0
    have v1:=bd H161.out 1
    have fv1:=blk_frozen H161.out 1
    refine skip_ (w1:=?_) (by rfl) rfl ?_ ?_
    rotate_left
    ·go_simp
     rfl
    refine hK.out _ _ ?_
    clear hK K
    refine done_ (done_of HT_.out kr) ?_
    have HT9:=am (blk_far (p:=⟨y,1,none⟩) (blk_far (p:=⟨y,0,none⟩) (HT8.out) (by have h1:=HI.out;have h2:=HIX.out;(try dsimp only);omega) (ii z.f0)) (by have h1:=HI.out;have h2:=HIX.out;(try dsimp only);omega) (ii z.f1))
    have HN9:=am (((HN8.out).setCell (p:=⟨y,0,none⟩) (by have h1:=HI.out;have h2:=HIX.out;(try dsimp only);omega) (ii z.f0)).setCell (p:=⟨y,1,none⟩) (by have h1:=HI.out;have h2:=HIX.out;(try dsimp only);omega) (ii z.f1))
    have H152:=am (blk_far (p:=⟨y,1,none⟩) (blk_far (p:=⟨y,0,none⟩) (H151.out) (by have h1:=HI.out;have h2:=HIX.out;(try dsimp only);omega) (ii z.f0)) (by have h1:=HI.out;have h2:=HIX.out;(try dsimp only);omega) (ii z.f1))
    have H162:=am (blk_put (cs':=#[ii z.f0,ii z.f1]) (blk_put (cs':=#[ii z.f0,ii 0]) (H161.out) 0 (ii z.f0) rfl) 1 (ii z.f1) rfl)
    clear u0 u1 fu0 fu1 v0 v1 fv0 fv1 hwa hwb
    generalize ((((w7.setCell ⟨p,0,none⟩ (ii a.f0)).setCell ⟨p,1,none⟩ (ii a.f1)).setCell ⟨y,0,none⟩ (ii z.f0)).setCell ⟨y,1,none⟩ (ii z.f1)) = w9 at HT9 HN9 H152 H162 ⊢
    have g0:=bd H152.out 0
    have g1:=bd H152.out 1
    have k1:=bd HT9.out 1
    have k2:=bd HT9.out 2
    go_wp2_with fail
    refine (pit_compare.calls _ _ _ _ _ _ (cmp_end HA1.out HLO.out)).mono ?_
    rintro e w10 ⟨rfl,hb⟩
    have HT10:=am (blk_below HT9.out hb)
    have HN10:=am (below_then HN9.out (below_size HN9.out) hb)
    have H153:=am (blk_below H152.out hb)
    have H163:=am (blk_below H162.out hb)
    clear hb g0 g1 k1 k2
    obtain ⟨c1,hc1⟩ : ∃ c1,c1 = cmpP a lo:=⟨_,rfl⟩
    rw [← hc1]
    by_cases h1 : c1 > 0
    ·
     have p0_:=bd H153.out 0
     have p1_:=bd H153.out 1
     have u1:=bd HT10.out 1
     have fu1:=blk_frozen HT10.out 1
     have u2:=bd HT10.out 2
     have fu2:=blk_frozen HT10.out 2
     have HN11:=am (((HN10.out).setCell (p:=⟨w2.heap.size,1,none⟩) (Nat.le_refl _) (ii a.f0)).setCell (p:=⟨w2.heap.size,2,none⟩) (Nat.le_refl _) (ii a.f1))
     have H154:=am (blk_far (p:=⟨w2.heap.size,2,none⟩) (blk_far (p:=⟨w2.heap.size,1,none⟩) (H153.out) (by have h1:=HI.out;have h2:=HIX.out;(try dsimp only);omega) (ii a.f0)) (by have h1:=HI.out;have h2:=HIX.out;(try dsimp only);omega) (ii a.f1))
     have H164:=am (blk_far (p:=⟨w2.heap.size,2,none⟩) (blk_far (p:=⟨w2.heap.size,1,none⟩) (H163.out) (by have h1:=HI.out;have h2:=HIX.out;(try dsimp only);omega) (ii a.f0)) (by have h1:=HI.out;have h2:=HIX.out;(try dsimp only);omega) (ii a.f1))
     have HT11:=am (blk_put (cs':=#[ii pour,ii a.f0,ii a.f1,ii hi.f0,ii hi.f1]) (blk_put (cs':=#[ii pour,ii a.f0,ii lo.f1,ii hi.f0,ii hi.f1]) (HT10.out) 1 (ii a.f0) rfl) 2 (ii a.f1) rfl)
     have g0:=bd H164.out 0
     have g1:=bd H164.out 1
     have k3:=bd HT11.out 3
     have k4:=bd HT11.out 4
     go_wp2_with fail
     refine (pit_compare.calls _ _ _ _ _ _ (cmp_end HZ1.out HHI.out)).mono ?_
     rintro e w11 ⟨rfl,hb⟩
     have HT12:=am (blk_below HT11.out hb)
     have HN12:=am (below_then HN11.out (below_size HN11.out) hb)
     have H155:=am (blk_below H154.out hb)
     have H165:=am (blk_below H164.out hb)
     clear hb g0 g1 k3 k4 u1 u2 fu1 fu2 p0_ p1_
     obtain ⟨c2,hc2⟩ : ∃ c2,c2 = cmpP z hi:=⟨_,rfl⟩
     rw [← hc2]
     by_cases h2 : c2 < 0
     ·
      have g0:=bd H165.out 0
      have g1:=bd H165.out 1
      have u3:=bd HT12.out 3
      have fu3:=blk_frozen HT12.out 3
      have u4:=bd HT12.out 4
      have fu4:=blk_frozen HT12.out 4
      have HN13:=am (((HN12.out).setCell (p:=⟨w2.heap.size,3,none⟩) (Nat.le_refl _) (ii z.f0)).setCell (p:=⟨w2.heap.size,4,none⟩) (Nat.le_refl _) (ii z.f1))
      have H156:=am (blk_far (p:=⟨w2.heap.size,4,none⟩) (blk_far (p:=⟨w2.heap.size,3,none⟩) (H155.out) (by have h1:=HI.out;have h2:=HIX.out;(try dsimp only);omega) (ii z.f0)) (by have h1:=HI.out;have h2:=HIX.out;(try dsimp only);omega) (ii z.f1))
      have H166:=am (blk_far (p:=⟨w2.heap.size,4,none⟩) (blk_far (p:=⟨w2.heap.size,3,none⟩) (H165.out) (by have h1:=HI.out;have h2:=HIX.out;(try dsimp only);omega) (ii z.f0)) (by have h1:=HI.out;have h2:=HIX.out;(try dsimp only);omega) (ii z.f1))
      have HT13:=am (blk_put (cs':=#[ii pour,ii a.f0,ii a.f1,ii z.f0,ii z.f1]) (blk_put (cs':=#[ii pour,ii a.f0,ii a.f1,ii z.f0,ii hi.f1]) (HT12.out) 3 (ii z.f0) rfl) 4 (ii z.f1) rfl)
      skip
      have HQ9:=am (show q = if cmpP a z > 0 then (⟨0,⟨0,0⟩,⟨0,0⟩⟩,(j : Int),false) else blameL Y pour a z ((j : Int) + 1) (l.drop (j + 1)) by rw [HA2.out,show maxR a lo = a from if_pos (by rw [← hc1];omega),show minR z hi = z from if_pos (by rw [← hc2];omega)])
      have r1:=bd HT13.out 1
      have r2:=bd HT13.out 2
      have r3:=bd HT13.out 3
      have r4:=bd HT13.out 4
      go_wp2_with fail
      refine (pit_compare.calls _ _ _ _ _ _ (cmp_end HA1.out HZ1.out)).mono ?_
      rintro e w13 ⟨rfl,hb⟩
      have HT14:=am (blk_below HT13.out hb)
      have HN14:=am (below_then HN13.out (below_size HN13.out) hb)
      clear hb r1 r2 r3 r4 g0 g1 u3 u4 fu3 fu4
      obtain ⟨c3,hc3⟩ : ∃ c3,c3 = cmpP a z:=⟨_,rfl⟩
      rw [← hc3] at HQ9 ⊢
      by_cases h3 : c3 > 0
      ·
       have HR9:=am (blk_below HR2.out HN14.out)
       have HB9:=am (below_then HB3.out (below_size HB3.out) HN14.out)
       have HE9:=am (show q = (⟨0,⟨0,0⟩,⟨0,0⟩⟩,(j : Int),false) by rw [HQ9.out,if_pos (by omega)])
       have u0:=bd HR9.out 0
       have fu0:=blk_frozen HR9.out 0
       have u1:=bd HR9.out 1
       have fu1:=blk_frozen HR9.out 1
       have u2:=bd HR9.out 2
       have fu2:=blk_frozen HR9.out 2
       have u3:=bd HR9.out 3
       have fu3:=blk_frozen HR9.out 3
       have u4:=bd HR9.out 4
       have fu4:=blk_frozen HR9.out 4
       go_wp2
       rw [HE9.out]
       have bz:=blk_put (cs':=#[ii 0,ii 0,ii 0,ii 0,ii 0]) (blk_put (cs':=#[ii 0,ii 0,ii 0,ii 0,ii 0]) (blk_put (cs':=#[ii 0,ii 0,ii 0,ii 0,ii 0]) (blk_put (cs':=#[ii 0,ii 0,ii 0,ii 0,ii 0]) (blk_put (cs':=#[ii 0,ii 0,ii 0,ii 0,ii 0]) (HR9.out) 0 (ii 0) rfl) 1 (ii 0) rfl) 2 (ii 0) rfl) 3 (ii 0) rfl) 4 (ii 0) rfl
       have z0:=bd bz 0
       have z1:=bd bz 1
       have z2:=bd bz 2
       have z3:=bd bz 3
       have z4:=bd bz 4
       exact bodyPost_ret (v:=.tuple #[.agg #[ii 0,ii 0,ii 0,ii 0,ii 0],ii (j : Int),.bool false]) (by simp [results,Tryz.results132,go_sem,z0,z1,z2,z3,z4,hu139,hu43]) rfl ⟨rfl,(((((HB9.out).setCell (p:=⟨W.heap.size,0,none⟩) (by first|(simp;done)|(simp;omega)) (ii 0)).setCell (p:=⟨W.heap.size,1,none⟩) (by first|(simp;done)|(simp;omega)) (ii 0)).setCell (p:=⟨W.heap.size,2,none⟩) (by first|(simp;done)|(simp;omega)) (ii 0)).setCell (p:=⟨W.heap.size,3,none⟩) (by first|(simp;done)|(simp;omega)) (ii 0)).setCell (p:=⟨W.heap.size,4,none⟩) (by first|(simp;done)|(simp;omega)) (ii 0)⟩
      ·
       go_wp2
       go_roundw
       case rel => exact ⟨j + 1,a,z,by omega,by go_num,HN14,HT14,HA1,HZ1,⟨by rw [HQ9.out,if_neg (by omega)];rfl⟩⟩
       case measure => simp [intOf];omega
     ·
      have HQ9:=am (show q = if cmpP a hi > 0 then (⟨0,⟨0,0⟩,⟨0,0⟩⟩,(j : Int),false) else blameL Y pour a hi ((j : Int) + 1) (l.drop (j + 1)) by rw [HA2.out,show maxR a lo = a from if_pos (by rw [← hc1];omega),show minR z hi = hi from if_neg (by rw [← hc2];omega)])
      have r1:=bd HT12.out 1
      have r2:=bd HT12.out 2
      have r3:=bd HT12.out 3
      have r4:=bd HT12.out 4
      go_wp2_with fail
      refine (pit_compare.calls _ _ _ _ _ _ (cmp_end HA1.out HHI.out)).mono ?_
      rintro e w13 ⟨rfl,hb⟩
      have HT13:=am (blk_below HT12.out hb)
      have HN13:=am (below_then HN12.out (below_size HN12.out) hb)
      have H156:=am (blk_below H155.out hb)
      have H166:=am (blk_below H165.out hb)
      clear hb r1 r2 r3 r4
      obtain ⟨c3,hc3⟩ : ∃ c3,c3 = cmpP a hi:=⟨_,rfl⟩
      rw [← hc3] at HQ9 ⊢
      by_cases h3 : c3 > 0
      ·
       have HR9:=am (blk_below HR2.out HN13.out)
       have HB9:=am (below_then HB3.out (below_size HB3.out) HN13.out)
       have HE9:=am (show q = (⟨0,⟨0,0⟩,⟨0,0⟩⟩,(j : Int),false) by rw [HQ9.out,if_pos (by omega)])
       have u0:=bd HR9.out 0
       have fu0:=blk_frozen HR9.out 0
       have u1:=bd HR9.out 1
       have fu1:=blk_frozen HR9.out 1
       have u2:=bd HR9.out 2
       have fu2:=blk_frozen HR9.out 2
       have u3:=bd HR9.out 3
       have fu3:=blk_frozen HR9.out 3
       have u4:=bd HR9.out 4
       have fu4:=blk_frozen HR9.out 4
       go_wp2
       rw [HE9.out]
       have bz:=blk_put (cs':=#[ii 0,ii 0,ii 0,ii 0,ii 0]) (blk_put (cs':=#[ii 0,ii 0,ii 0,ii 0,ii 0]) (blk_put (cs':=#[ii 0,ii 0,ii 0,ii 0,ii 0]) (blk_put (cs':=#[ii 0,ii 0,ii 0,ii 0,ii 0]) (blk_put (cs':=#[ii 0,ii 0,ii 0,ii 0,ii 0]) (HR9.out) 0 (ii 0) rfl) 1 (ii 0) rfl) 2 (ii 0) rfl) 3 (ii 0) rfl) 4 (ii 0) rfl
       have z0:=bd bz 0
       have z1:=bd bz 1
       have z2:=bd bz 2
       have z3:=bd bz 3
       have z4:=bd bz 4
       exact bodyPost_ret (v:=.tuple #[.agg #[ii 0,ii 0,ii 0,ii 0,ii 0],ii (j : Int),.bool false]) (by simp [results,Tryz.results132,go_sem,z0,z1,z2,z3,z4,hu139,hu43]) rfl ⟨rfl,(((((HB9.out).setCell (p:=⟨W.heap.size,0,none⟩) (by first|(simp;done)|(simp;omega)) (ii 0)).setCell (p:=⟨W.heap.size,1,none⟩) (by first|(simp;done)|(simp;omega)) (ii 0)).setCell (p:=⟨W.heap.size,2,none⟩) (by first|(simp;done)|(simp;omega)) (ii 0)).setCell (p:=⟨W.heap.size,3,none⟩) (by first|(simp;done)|(simp;omega)) (ii 0)).setCell (p:=⟨W.heap.size,4,none⟩) (by first|(simp;done)|(simp;omega)) (ii 0)⟩
      ·
       go_wp2
       go_roundw
       case rel => exact ⟨j + 1,a,hi,by omega,by go_num,HN13,HT13,HA1,HHI,⟨by rw [HQ9.out,if_neg (by omega)];rfl⟩⟩
       case measure => simp [intOf];omega
    ·
     have g0:=bd H163.out 0
     have g1:=bd H163.out 1
     have k3:=bd HT10.out 3
     have k4:=bd HT10.out 4
     go_wp2_with fail
     refine (pit_compare.calls _ _ _ _ _ _ (cmp_end HZ1.out HHI.out)).mono ?_
     rintro e w11 ⟨rfl,hb⟩
     have HT11:=am (blk_below HT10.out hb)
     have HN11:=am (below_then HN10.out (below_size HN10.out) hb)
     have H154:=am (blk_below H153.out hb)
     have H164:=am (blk_below H163.out hb)
     clear hb g0 g1 k3 k4
     obtain ⟨c2,hc2⟩ : ∃ c2,c2 = cmpP z hi:=⟨_,rfl⟩
     rw [← hc2]
     by_cases h2 : c2 < 0
     ·
      have g0:=bd H164.out 0
      have g1:=bd H164.out 1
      have u3:=bd HT11.out 3
      have fu3:=blk_frozen HT11.out 3
      have u4:=bd HT11.out 4
      have fu4:=blk_frozen HT11.out 4
      have HN12:=am (((HN11.out).setCell (p:=⟨w2.heap.size,3,none⟩) (Nat.le_refl _) (ii z.f0)).setCell (p:=⟨w2.heap.size,4,none⟩) (Nat.le_refl _) (ii z.f1))
      have H155:=am (blk_far (p:=⟨w2.heap.size,4,none⟩) (blk_far (p:=⟨w2.heap.size,3,none⟩) (H154.out) (by have h1:=HI.out;have h2:=HIX.out;(try dsimp only);omega) (ii z.f0)) (by have h1:=HI.out;have h2:=HIX.out;(try dsimp only);omega) (ii z.f1))
      have H165:=am (blk_far (p:=⟨w2.heap.size,4,none⟩) (blk_far (p:=⟨w2.heap.size,3,none⟩) (H164.out) (by have h1:=HI.out;have h2:=HIX.out;(try dsimp only);omega) (ii z.f0)) (by have h1:=HI.out;have h2:=HIX.out;(try dsimp only);omega) (ii z.f1))
      have HT12:=am (blk_put (cs':=#[ii pour,ii lo.f0,ii lo.f1,ii z.f0,ii z.f1]) (blk_put (cs':=#[ii pour,ii lo.f0,ii lo.f1,ii z.f0,ii hi.f1]) (HT11.out) 3 (ii z.f0) rfl) 4 (ii z.f1) rfl)
      skip
      have HQ9:=am (show q = if cmpP lo z > 0 then (⟨0,⟨0,0⟩,⟨0,0⟩⟩,(j : Int),false) else blameL Y pour lo z ((j : Int) + 1) (l.drop (j + 1)) by rw [HA2.out,show maxR a lo = lo from if_neg (by rw [← hc1];omega),show minR z hi = z from if_pos (by rw [← hc2];omega)])
      have r1:=bd HT12.out 1
      have r2:=bd HT12.out 2
      have r3:=bd HT12.out 3
      have r4:=bd HT12.out 4
      go_wp2_with fail
      refine (pit_compare.calls _ _ _ _ _ _ (cmp_end HLO.out HZ1.out)).mono ?_
      rintro e w13 ⟨rfl,hb⟩
      have HT13:=am (blk_below HT12.out hb)
      have HN13:=am (below_then HN12.out (below_size HN12.out) hb)
      have H156:=am (blk_below H155.out hb)
      have H166:=am (blk_below H165.out hb)
      clear hb r1 r2 r3 r4 g0 g1 u3 u4 fu3 fu4
      obtain ⟨c3,hc3⟩ : ∃ c3,c3 = cmpP lo z:=⟨_,rfl⟩
      rw [← hc3] at HQ9 ⊢
      by_cases h3 : c3 > 0
      ·
       have HR9:=am (blk_below HR2.out HN13.out)
       have HB9:=am (below_then HB3.out (below_size HB3.out) HN13.out)
       have HE9:=am (show q = (⟨0,⟨0,0⟩,⟨0,0⟩⟩,(j : Int),false) by rw [HQ9.out,if_pos (by omega)])
       have u0:=bd HR9.out 0
       have fu0:=blk_frozen HR9.out 0
       have u1:=bd HR9.out 1
       have fu1:=blk_frozen HR9.out 1
       have u2:=bd HR9.out 2
       have fu2:=blk_frozen HR9.out 2
       have u3:=bd HR9.out 3
       have fu3:=blk_frozen HR9.out 3
       have u4:=bd HR9.out 4
       have fu4:=blk_frozen HR9.out 4
       go_wp2
       rw [HE9.out]
       have bz:=blk_put (cs':=#[ii 0,ii 0,ii 0,ii 0,ii 0]) (blk_put (cs':=#[ii 0,ii 0,ii 0,ii 0,ii 0]) (blk_put (cs':=#[ii 0,ii 0,ii 0,ii 0,ii 0]) (blk_put (cs':=#[ii 0,ii 0,ii 0,ii 0,ii 0]) (blk_put (cs':=#[ii 0,ii 0,ii 0,ii 0,ii 0]) (HR9.out) 0 (ii 0) rfl) 1 (ii 0) rfl) 2 (ii 0) rfl) 3 (ii 0) rfl) 4 (ii 0) rfl
       have z0:=bd bz 0
       have z1:=bd bz 1
       have z2:=bd bz 2
       have z3:=bd bz 3
       have z4:=bd bz 4
       exact bodyPost_ret (v:=.tuple #[.agg #[ii 0,ii 0,ii 0,ii 0,ii 0],ii (j : Int),.bool false]) (by simp [results,Tryz.results132,go_sem,z0,z1,z2,z3,z4,hu139,hu43]) rfl ⟨rfl,(((((HB9.out).setCell (p:=⟨W.heap.size,0,none⟩) (by first|(simp;done)|(simp;omega)) (ii 0)).setCell (p:=⟨W.heap.size,1,none⟩) (by first|(simp;done)|(simp;omega)) (ii 0)).setCell (p:=⟨W.heap.size,2,none⟩) (by first|(simp;done)|(simp;omega)) (ii 0)).setCell (p:=⟨W.heap.size,3,none⟩) (by first|(simp;done)|(simp;omega)) (ii 0)).setCell (p:=⟨W.heap.size,4,none⟩) (by first|(simp;done)|(simp;omega)) (ii 0)⟩
      ·
       go_wp2
       go_roundw
       case rel => exact ⟨j + 1,lo,z,by omega,by go_num,HN13,HT13,HLO,HZ1,⟨by rw [HQ9.out,if_neg (by omega)];rfl⟩⟩
       case measure => simp [intOf];omega
     ·
      have HQ9:=am (show q = if cmpP lo hi > 0 then (⟨0,⟨0,0⟩,⟨0,0⟩⟩,(j : Int),false) else blameL Y pour lo hi ((j : Int) + 1) (l.drop (j + 1)) by rw [HA2.out,show maxR a lo = lo from if_neg (by rw [← hc1];omega),show minR z hi = hi from if_neg (by rw [← hc2];omega)])
      have r1:=bd HT11.out 1
      have r2:=bd HT11.out 2
      have r3:=bd HT11.out 3
      have r4:=bd HT11.out 4
      go_wp2_with fail
      refine (pit_compare.calls _ _ _ _ _ _ (cmp_end HLO.out HHI.out)).mono ?_
      rintro e w13 ⟨rfl,hb⟩
      have HT12:=am (blk_below HT11.out hb)
      have HN12:=am (below_then HN11.out (below_size HN11.out) hb)
      have H155:=am (blk_below H154.out hb)
      have H165:=am (blk_below H164.out hb)
      clear hb r1 r2 r3 r4
      obtain ⟨c3,hc3⟩ : ∃ c3,c3 = cmpP lo hi:=⟨_,rfl⟩
      rw [← hc3] at HQ9 ⊢
      by_cases h3 : c3 > 0
      ·
       have HR9:=am (blk_below HR2.out HN12.out)
       have HB9:=am (below_then HB3.out (below_size HB3.out) HN12.out)
       have HE9:=am (show q = (⟨0,⟨0,0⟩,⟨0,0⟩⟩,(j : Int),false) by rw [HQ9.out,if_pos (by omega)])
       have u0:=bd HR9.out 0
       have fu0:=blk_frozen HR9.out 0
       have u1:=bd HR9.out 1
       have fu1:=blk_frozen HR9.out 1
       have u2:=bd HR9.out 2
       have fu2:=blk_frozen HR9.out 2
       have u3:=bd HR9.out 3
       have fu3:=blk_frozen HR9.out 3
       have u4:=bd HR9.out 4
       have fu4:=blk_frozen HR9.out 4
       go_wp2
       rw [HE9.out]
       have bz:=blk_put (cs':=#[ii 0,ii 0,ii 0,ii 0,ii 0]) (blk_put (cs':=#[ii 0,ii 0,ii 0,ii 0,ii 0]) (blk_put (cs':=#[ii 0,ii 0,ii 0,ii 0,ii 0]) (blk_put (cs':=#[ii 0,ii 0,ii 0,ii 0,ii 0]) (blk_put (cs':=#[ii 0,ii 0,ii 0,ii 0,ii 0]) (HR9.out) 0 (ii 0) rfl) 1 (ii 0) rfl) 2 (ii 0) rfl) 3 (ii 0) rfl) 4 (ii 0) rfl
       have z0:=bd bz 0
       have z1:=bd bz 1
       have z2:=bd bz 2
       have z3:=bd bz 3
       have z4:=bd bz 4
       exact bodyPost_ret (v:=.tuple #[.agg #[ii 0,ii 0,ii 0,ii 0,ii 0],ii (j : Int),.bool false]) (by simp [results,Tryz.results132,go_sem,z0,z1,z2,z3,z4,hu139,hu43]) rfl ⟨rfl,(((((HB9.out).setCell (p:=⟨W.heap.size,0,none⟩) (by first|(simp;done)|(simp;omega)) (ii 0)).setCell (p:=⟨W.heap.size,1,none⟩) (by first|(simp;done)|(simp;omega)) (ii 0)).setCell (p:=⟨W.heap.size,2,none⟩) (by first|(simp;done)|(simp;omega)) (ii 0)).setCell (p:=⟨W.heap.size,3,none⟩) (by first|(simp;done)|(simp;omega)) (ii 0)).setCell (p:=⟨W.heap.size,4,none⟩) (by first|(simp;done)|(simp;omega)) (ii 0)⟩
      ·
       go_wp2
       go_roundw
       case rel => exact ⟨j + 1,lo,hi,by omega,by go_num,HN12,HT12,HLO,HHI,⟨by rw [HQ9.out,if_neg (by omega)];rfl⟩⟩
       case measure => simp [intOf];omega
  ·
   have HE9:=am (show q = (⟨pour,lo,hi⟩,0,true) by rw [HA.out,List.drop_eq_nil_of_le (by omega)];rfl)
   have HR9:=am (blk_below HR2.out HN.out)
   have HB9:=am (below_then HB3.out (below_size HB3.out) HN.out)
   have g0:=bd HT.out 0
   have g1:=bd HT.out 1
   have g2:=bd HT.out 2
   have g3:=bd HT.out 3
   have g4:=bd HT.out 4
   have u0:=bd HR9.out 0
   have fu0:=blk_frozen HR9.out 0
   have u1:=bd HR9.out 1
   have fu1:=blk_frozen HR9.out 1
   have u2:=bd HR9.out 2
   have fu2:=blk_frozen HR9.out 2
   have u3:=bd HR9.out 3
   have fu3:=blk_frozen HR9.out 3
   have u4:=bd HR9.out 4
   have fu4:=blk_frozen HR9.out 4
   go_wp2
   rw [HE9.out]
   have bz:=blk_put (cs':=#[ii pour,ii lo.f0,ii lo.f1,ii hi.f0,ii hi.f1]) (blk_put (cs':=#[ii pour,ii lo.f0,ii lo.f1,ii hi.f0,ii 0]) (blk_put (cs':=#[ii pour,ii lo.f0,ii lo.f1,ii 0,ii 0]) (blk_put (cs':=#[ii pour,ii lo.f0,ii 0,ii 0,ii 0]) (blk_put (cs':=#[ii pour,ii 0,ii 0,ii 0,ii 0]) (HR9.out) 0 (ii pour) rfl) 1 (ii lo.f0) rfl) 2 (ii lo.f1) rfl) 3 (ii hi.f0) rfl) 4 (ii hi.f1) rfl
   have z0:=bd bz 0
   have z1:=bd bz 1
   have z2:=bd bz 2
   have z3:=bd bz 3
   have z4:=bd bz 4
   exact bodyPost_ret (v:=.tuple #[.agg #[ii pour,ii lo.f0,ii lo.f1,ii hi.f0,ii hi.f1],ii 0,.bool true]) (by simp [results,Tryz.results132,go_sem,z0,z1,z2,z3,z4,hu139,hu43]) rfl ⟨rfl,(((((HB9.out).setCell (p:=⟨W.heap.size,0,none⟩) (by first|(simp;done)|(simp;omega)) (ii pour)).setCell (p:=⟨W.heap.size,1,none⟩) (by first|(simp;done)|(simp;omega)) (ii lo.f0)).setCell (p:=⟨W.heap.size,2,none⟩) (by first|(simp;done)|(simp;omega)) (ii lo.f1)).setCell (p:=⟨W.heap.size,3,none⟩) (by first|(simp;done)|(simp;omega)) (ii hi.f0)).setCell (p:=⟨W.heap.size,4,none⟩) (by first|(simp;done)|(simp;omega)) (ii hi.f1)⟩
theorem info139_ : (Tryz.prog.info? 139).map (fun i => (i.zero,i.size,i.bytes)) = some (some (.agg #[ii 0,ii 0,ii 0,ii 0,ii 0]),k139.sz,40):=by kernel_rfl
theorem endOk_valid {r : S43} (h : EndOk r) : validP r = true:=validP_of h.1 (by have:=h.2.1;omega) (by have:=h.2.2;omega)
theorem maxR_ok {a b : S43} (ha : EndOk a) (hb : EndOk b) : EndOk (maxR a b):=by unfold maxR;split <;> assumption
theorem minR_ok {a b : S43} (ha : EndOk a) (hb : EndOk b) : EndOk (minR a b):=by unfold minR;split <;> assumption
theorem barrowD_ok {n : Nat} {Y : Yd} (hw : Wf n Y) {id : Int} (h : Y.barrows.any (isId id) = true) : BarrowOk n Y.pours (barrowD Y id):=by
 obtain ⟨b,hb,hp⟩:=List.any_eq_true.1 h
 unfold barrowD
 cases hf : Y.barrows.find? (isId id) with
|none => exact absurd hp (List.find?_eq_none.1 hf b hb)
|some c => exact hw.barrows c (List.mem_of_find?_eq_some hf)
theorem blameL_ok {n : Nat} {Y : Yd} (hw : Wf n Y) (pour : Int) : ∀ (l : List S137) (lo hi : S43) (i : Int),(∀ x ∈ l,Y.barrows.any (isId x.f0) = true ∧ milleP x.f1 = true) → EndOk lo → EndOk hi →
  (blameL Y pour lo hi i l).2.2 = true → (blameL Y pour lo hi i l).1.f0 = pour ∧ EndOk (blameL Y pour lo hi i l).1.f1 ∧ EndOk (blameL Y pour lo hi i l).1.f2
|[],lo,hi,i,_,h1,h2,_ => ⟨rfl,h1,h2⟩
|x :: r,lo,hi,i,hp,h1,h2,h => by
  have hx:=hp x List.mem_cons_self
  have hr : ∀ y ∈ r,Y.barrows.any (isId y.f0) = true ∧ milleP y.f1 = true:=fun y hy => hp y (List.mem_cons_of_mem _ hy)
  obtain ⟨s1,s2,s3⟩:=shareP_bnd (barrowD_ok hw hx.1) pour
  simp only [blameL] at h ⊢
  split at h
  ·rename_i hz
   rw [if_pos hz]
   split at h
   ·cases h
   ·rename_i hm
    rw [if_neg hm]
    exact blameL_ok hw pour r lo hi (i + 1) hr h1 h2 h
  ·rename_i hz
   rw [if_neg hz]
   obtain ⟨m0,m1,m2,m3⟩:=milleP_of hx.2
   have hs1 : 1 ≤ (shareP (barrowD Y x.f0) pour).f0:=by have:=s1.1;omega
   have e1:=(endP_ok m0 m1 s1 s2 s3 hs1).1
   have e2:=(endP_ok m2 m3 s1 s2 s3 hs1).1
   split at h
   ·cases h
   ·rename_i hc
    rw [if_neg hc]
    exact blameL_ok hw pour r _ _ (i + 1) hr (maxR_ok e1 h1) (minR_ok e2 h2) h
theorem blamedP_ok {n : Nat} {Y : Yd} (hw : Wf n Y) {pour : Int} {l : List S137} (hp : ∀ x ∈ l,Y.barrows.any (isId x.f0) = true ∧ milleP x.f1 = true) (h : (blamedP Y l pour).2.2 = true) :
  (blamedP Y l pour).1.f0 = pour ∧ EndOk (blamedP Y l pour).1.f1 ∧ EndOk (blamedP Y l pour).1.f2 :=
 blameL_ok hw pour l _ _ 0 hp ⟨wholeP_ok (by decide),by decide,by decide⟩ ⟨wholeP_ok (by decide),by decide,by decide⟩ h
theorem probesE_ok {Y : Yd} {l : List S137} (h : probesE Y l = 0) : l.length ≤ 20 ∧ ∀ x ∈ l,Y.barrows.any (isId x.f0) = true ∧ milleP x.f1 = true:=by
 unfold probesE at h
 split at h
 ·rename_i h1
  exact ⟨h1,fun g hg => askL_mille h g hg⟩
 ·cases h
def culpP (Y : Yd) (l : List S137) (ps : List Int) : List S139:=(ps.filter fun p => (blamedP Y l p).2.2).map fun p => (blamedP Y l p).1
theorem culpP_snoc {Y : Yd} {l : List S137} {ps : List Int} {j : Nat} (h : j < ps.length) : culpP Y l (ps.take (j + 1)) = culpP Y l (ps.take j) ++ (if (blamedP Y l (rd ps (j : Int))).2.2 = true then [(blamedP Y l (rd ps (j : Int))).1] else []):=by
 rw [List.take_succ_eq_append_getElem h]
 have hrd : rd ps (j : Int) = ps[j]:=by unfold rd;rw [Int.toNat_natCast,List.getD_eq_getElem?_getD,List.getElem?_eq_getElem h];rfl
 rw [hrd]
 unfold culpP
 rw [List.filter_append,List.map_append,List.filter_cons,List.filter_nil]
 split <;> rfl
def CulpPost (W : World) (r : Except (Int × Int) Yd) (l : List S137) (e : Ending) (W' : World) : Prop :=
 Below W.heap.size W W' ∧ (match r with
 |.error x => e = .returned (.tuple #[.slice none 0 0,ii x.1])
 |.ok Y => if probesE Y l = 0 then ∃ (A3 : Option Addr) (c3 : Nat),e = .returned (.tuple #[.slice A3 (culpP Y l Y.pours).length c3,ii 0]) ∧ (culpP Y l Y.pours).length ≤ c3 ∧ Kd.F k139 W' (fun k => W.heap.size ≤ k) A3 (culpP Y l Y.pours).length (culpP Y l Y.pours)
   else e = .returned (.tuple #[.slice none 0 0,ii (probesE Y l)]))
set_option maxRecDepth 100000 in
set_option maxHeartbeats 2000000 in
theorem culprits_calls (A A2 : Option Addr) (c c2 : Nat) (rooms : List Int) (stirs : List S84) (W : World) (lo : Nat) (hlo : lo ≤ W.heap.size) (hC : Kd.F (Kd.int .i64) W (fun k => k < lo) A rooms.length rooms) (hc : rooms.length ≤ c) (hS : Kd.C k84 W A2 stirs.length stirs) (hc2 : stirs.length ≤ c2) (B : Option Addr) (cb : Nat) (l : List S137) (hL : Kd.C k137 W B l.length l) (hlb : l.length ≤ cb) :
  Calls Tryz.prog 56 #[.agg #[.slice A rooms.length c,.slice A2 stirs.length c2],.slice B l.length cb] W fun e W' => CulpPost W (playedP rooms stirs stirs.length) l e W':=by
 have hu:=Tryz.underlying32
 have hu139:=Tryz.underlying139
 have hu43:=Tryz.underlying43
 have HC:=am (hC)
 have HS:=am (hS)
 have HL:=am (hL)
 have HB:=am (Below.refl W.heap.size W)
 have HC1:=am (Kd.F_alloc HC.out (.cells #[.slice A rooms.length c,.slice A2 stirs.length c2] 32))
 have HS1:=am (Kd.C_alloc HS.out (.cells #[.slice A rooms.length c,.slice A2 stirs.length c2] 32))
 have HL1:=am (Kd.C_alloc HL.out (.cells #[.slice A rooms.length c,.slice A2 stirs.length c2] 32))
 have HB1:=am (below_alloc HB.out (.cells #[.slice A rooms.length c,.slice A2 stirs.length c2] 32))
 clear hC hS hL
 obtain ⟨r,hr⟩ : ∃ r,r = playedP rooms stirs stirs.length:=⟨_,rfl⟩
 rw [← hr]
 have HQP:=am hr.symm
 clear hr
 go_enter Tryz.func56,Tryz.ntmps56
 go_wp2_with fail
 refine (probed_calls A A2 c c2 rooms stirs _ lo (Nat.le_trans hlo (by simp)) HC1.out hc HS1.out hc2 B cb l HL1.out hlb).mono ?_
 rintro e w1 ⟨hb,h⟩
 rw [HQP.out] at h
 have HL2:=am (Kd.C_below HL1.out hb)
 have HB2:=am (below_then HB1.out (below_size HB1.out) hb)
 clear hb
 cases r with
|error x =>
  subst h
  have hx : ¬ x.1 = 0:=playedP_code HQP.out
  go_wp2
  go_ret2
  exact ⟨HB2.out,rfl⟩
|ok Y =>
  dsimp only at h
  by_cases hg0 : ¬ probesE Y l = 0
  ·
   rw [if_neg hg0] at h
   subst h
   obtain ⟨ge,hge⟩ : ∃ ge,ge = probesE Y l:=⟨_,rfl⟩
   rw [← hge] at hg0 ⊢
   have HGE:=am hge
   clear hge
   have HG0:=am hg0
   go_wp2
   go_ret2
   refine ⟨HB2.out,?_⟩
   dsimp only
   rw [← HGE.out,if_neg HG0.out]
   rfl
  ·
   have hg0:=Decidable.not_not.1 hg0
   rw [if_pos hg0] at h
   have HG0:=am hg0
   have HPK:=am (probesE_ok hg0).2
   clear hg0
   obtain ⟨L,base,hbase,hbad,rfl,hY⟩:=h
   have HWF:=am (played_wf HQP.out)
   have HSL:=am (played_ok HQP.out).2.1
   obtain ⟨Ao,co,ho,hlo',hCo⟩:=Kd.R_reads hY.pours
   have hBg:=hY.blk
   rw [ho] at hBg
   have hnp:=HWF.out.npours
   have hsl:=HSL.out
   have HO:=am (hCo)
   have HY:=am (hY)
   have BG:=am (hBg)
   have g2:=bd BG.out 2
   clear hY ho hCo hBg hbase hbad
   go_wp2
   clear g2
   go_loopw [8,28] (fun v8 v28 wr => ∃ (j : Nat),j ≤ Y.pours.length ∧ v28 = ii (j : Int) ∧ Aside0 (Below w1.heap.size w1 wr) ∧ Aside0 (k139.R 139 wr w1.heap.size (fun _ => True) v8 (culpP Y l (Y.pours.take j)))) (fun _ v28 _ => Y.pours.length - (intOf v28).toNat)
   case atStart => exact ⟨0,Nat.zero_le _,rfl,⟨Below.refl _ _⟩,⟨Kd.R_nil _ _ _ _ _⟩⟩
   case round =>
    obtain ⟨j,hj,rfl,HN,HV⟩:=hrel
    obtain ⟨qq,hqq⟩ : ∃ qq,qq = culpP Y l (Y.pours.take j):=⟨_,rfl⟩
    have hql : qq.length ≤ j:=by rw [hqq];unfold culpP;rw [List.length_map];exact Nat.le_trans (List.length_filter_le _ _) (by rw [List.length_take];omega)
    rw [← hqq] at HV
    have HQQ:=am hqq
    clear hqq
    obtain ⟨Av,cv,rfl⟩:=Kd.R_slice HV.out
    by_cases hlt : j < Y.pours.length
    ·
     have HT:=am (culpP_snoc (Y:=Y) (l:=l) hlt)
     rw [← HQQ.out] at HT
     obtain ⟨ae,e,hx0⟩:=Kd.at_int (Kd.C_below HO.out HN.out) (j : Int) (by omega) (by omega)
     cases e
     rw [Int.toNat_natCast] at hx0
     obtain ⟨p,hp⟩ : ∃ p,p = rd Y.pours (j : Int):=⟨_,rfl⟩
     rw [← hp] at hx0 HT
     clear hp
     have HQL:=am hql
     clear hql
     go_wp2_with fail
     refine (blamed_calls (HY.out.move HN.out) HWF.out HSL.out B cb l (Kd.C_below HL2.out HN.out) hlb HPK.out p).mono ?_
     rintro e w5 ⟨rfl,hb⟩
     have HN1:=am (below_then HN.out (below_size HN.out) hb)
     have HV1:=am (Kd.R_below HV.out hb)
     clear hb hx0
     obtain ⟨bl,hbl⟩ : ∃ bl,bl = blamedP Y l p:=⟨_,rfl⟩
     rw [← hbl] at HT ⊢
     have HBL:=am hbl
     clear hbl
     obtain ⟨b,i,is⟩:=bl
     cases is with
    |false =>
      have HN2:=am (below_alloc HN1.out (.cells #[ii b.f0,ii b.f1.f0,ii b.f1.f1,ii b.f2.f0,ii b.f2.f1] 139))
      have HV2:=am (Kd.R_alloc HV1.out (.cells #[ii b.f0,ii b.f1.f0,ii b.f1.f1,ii b.f2.f0,ii b.f2.f1] 139))
      go_wp2
      go_roundw
      case rel => exact ⟨j + 1,by omega,by go_num,HN2,⟨by rw [HT.out,if_neg (by simp),List.append_nil];exact HV2.out⟩⟩
      case measure => simp [intOf];omega
    |true =>
      have hok:=blamedP_ok HWF.out HPK.out (pour:=p) (by rw [← HBL.out])
      rw [← HBL.out] at hok
      have HVA:=am (show pit_valid.f FU b.f1.f0 b.f1.f1 = some true by rw [valid_some];exact congrArg some (endOk_valid hok.2.1))
      have HVB:=am (show pit_valid.f FU b.f2.f0 b.f2.f1 = some true by rw [valid_some];exact congrArg some (endOk_valid hok.2.2))
      clear hok
      have HN2:=am (below_alloc HN1.out (.cells #[ii b.f0,ii b.f1.f0,ii b.f1.f1,ii b.f2.f0,ii b.f2.f1] 139))
      have HV2:=am (Kd.R_alloc HV1.out (.cells #[ii b.f0,ii b.f1.f0,ii b.f1.f1,ii b.f2.f0,ii b.f2.f1] 139))
      have HX:=am (blk_new w5 (.cells #[ii b.f0,ii b.f1.f0,ii b.f1.f1,ii b.f2.f0,ii b.f2.f1] 139))
      go_wp2_with fail
      refine (pit_valid.calls FU _ _ _ _ HVA.out).mono ?_
      rintro e w6 ⟨rfl,hb⟩
      have HN3:=am (below_then HN2.out (below_size HN2.out) hb)
      have HV3:=am (Kd.R_below HV2.out hb)
      have HX1:=am (blk_below HX.out hb)
      clear hb
      have g3:=bd HX1.out 3
      have g4:=bd HX1.out 4
      go_wp2_with fail
      refine (pit_valid.calls FU _ _ _ _ HVB.out).mono ?_
      rintro e w7 ⟨rfl,hb⟩
      have HN4:=am (below_then HN3.out (below_size HN3.out) hb)
      have HV4:=am (Kd.R_below HV3.out hb)
      have HX2:=am (blk_below HX1.out hb)
      clear hb g3 g4
      have k0:=bd HX2.out 0
      have k1:=bd HX2.out 1
      have k2:=bd HX2.out 2
      have k3:=bd HX2.out 3
      have k4:=bd HX2.out 4
      have HZ:=am (HN4.out.size)
      go_wp2_with (at_builtin;refine Kd.R_append k139 (w0:=w1) w1.heap.size rfl _ _ 117 139 (.agg #[ii 0,ii 0,ii 0,ii 0,ii 0]) 40 rfl Tryz.underlying117 info139_ rfl (by decide) (by decide) (.slice Av qq.length cv) qq b [ii b.f0,ii b.f1.f0,ii b.f1.f1,ii b.f2.f0,ii b.f2.f1] (fun _ => True) (fun _ => False) rfl rfl (k139_mkM _ _ _ b) (fun _ h => h.elim) (fun _ _ => trivial) HV4.out HN4.out HZ.out (by have:=HQL.out;omega) ?_;intro v3 w8 hr3 hb3 hg3 hat3;have HR3:=am hr3;have HB3:=am hb3;clear hr3 hb3 hg3 hat3 k0 k1 k2 k3 k4)
      go_roundw
      case rel => exact ⟨j + 1,by omega,by go_num,HB3,⟨by rw [HT.out];simp only [if_true];exact HR3.out⟩⟩
      case measure => simp [intOf];omega
    ·
     have hje : j = Y.pours.length:=by omega
     have HE:=am (show qq = culpP Y l Y.pours by rw [HQQ.out,hje,List.take_length])
     have HB9:=am (below_then HB2.out (below_size HB2.out) HN.out)
     go_wp2
     go_ret2
     refine ⟨HB9.out,?_⟩
     dsimp only
     rw [if_pos HG0.out,← HE.out]
     exact ⟨Av,cv,rfl,(Kd.R_reads' HV.out).2.1,Kd.R_F (Kd.R_reok rfl HV.out fun k hk => by have h1:=Kd.R_base HV.out k hk;have h2:=below_size HB2.out;omega)⟩
section
def R246_4.T : Bool × List (List Nat × List Nat):=(true,[([],[]),([],[]),([],[]),([1,2],[1,2]),([3],[3]),([0,4],[0,4])])
def R246_4.B : List Nat:=[0,0,0,6,14,31]
theorem R246_4.tab : rtab .any (opsOf Tryz.f246 4) = R246_4.T:=by kernel_rfl
theorem R246_4.bits : waitsOk R246_4.T.2 R246_4.B = true:=by kernel_rfl
attribute [local go_sem high] eqA89
def eq89 (x y : S89) : Bool:=x.f0 == y.f0 && (x.f1.f0 == y.f1.f0 && x.f1.f1 == y.f1.f1)
def sameP (a b : List S89) : Bool:=decide (a.length = b.length) && !(a.any fun x => !(b.any fun y => eq89 x y))
set_option maxRecDepth 100000 in
set_option maxHeartbeats 2000000 in
theorem idx246_calls (A : Option Addr) (c : Nat) (l : List S89) (a : S89) (W : World) (hr : Kd.C k89 W A l.length l) (hc : l.length ≤ c) :
  Calls Tryz.prog 246 #[.slice A l.length c,.agg #[ii a.f0,ii a.f1.f0,ii a.f1.f1]] W fun e W' => e = .returned (ii (idxP (eq89 a) l)) ∧ Below W.heap.size W W':=by
 have hu89:=Tryz.underlying89
 have hu43:=Tryz.underlying43
 have hmx:=hr.2.1
 have HC:=am hr
 clear hr
 have HB:=am (Below.refl W.heap.size W)
 have HB1:=am (below_alloc HB.out (.cells #[ii a.f0,ii a.f1.f0,ii a.f1.f1] 89))
 have HX:=am (blk_new W (.cells #[ii a.f0,ii a.f1.f0,ii a.f1.f1] 89))
 go_enter Tryz.func246,Tryz.ntmps246
 go_wp2
 go_loopw [8] (fun v8 wr => ∃ j : Nat,j ≤ l.length ∧ v8 = ii (j : Int) ∧ Aside0 (∀ i (hi : i < l.length),i < j → eq89 a l[i] = false) ∧ Aside0 (Below (W.alloc (.cells #[ii a.f0,ii a.f1.f0,ii a.f1.f1] 89)).heap.size (W.alloc (.cells #[ii a.f0,ii a.f1.f0,ii a.f1.f1] 89)) wr)) (fun v8 _ => l.length - (intOf v8).toNat)
 case atStart => exact ⟨0,Nat.zero_le _,rfl,⟨fun i _ hi => absurd hi (Nat.not_lt_zero _)⟩,⟨Below.refl _ _⟩⟩
 case round =>
  obtain ⟨j,hj,rfl,HP,HN⟩:=hrel
  by_cases hlt : j < l.length
  ·
   obtain ⟨ad,e,hx0,hx1,hx2⟩:=at_T89 (Kd.C_below (Kd.C_alloc HC.out (.cells #[ii a.f0,ii a.f1.f0,ii a.f1.f1] 89)) HN.out) (j : Int) (by omega) (by omega)
   cases e
   rw [Int.toNat_natCast] at hx0 hx1 hx2
   have hx : rd_T89 l (j : Int) = l[j]:=by unfold rd_T89;rw [Int.toNat_natCast,List.getD_eq_getElem?_getD,List.getElem?_eq_getElem hlt];rfl
   obtain ⟨x,hxx⟩ : ∃ x,x = rd_T89 l (j : Int):=⟨_,rfl⟩
   rw [← hxx] at hx0 hx1 hx2 hx
   have HX0:=am hx
   have HXW:=am (blk_drew (blk_below HX.out HN.out))
   have HND:=am (below_drew HN.out)
   have HE0:=am (pw_cell_below (below_drew (Below.refl _ _)) hx0)
   have HE1:=am (pw_cell_below (below_drew (Below.refl _ _)) hx1)
   have HE2:=am (pw_cell_below (below_drew (Below.refl _ _)) hx2)
   clear hx hxx hx0 hx1 hx2
   obtain ⟨k,hk⟩ : ∃ k,k = eq89 a x:=⟨_,rfl⟩
   have HK:=am hk
   have hk2 : (a.f0 == x.f0 && (a.f1.f0 == x.f1.f0 && a.f1.f1 == x.f1.f1)) = k:=hk.symm
   clear hk
   cases k
   ·skip
    go_wp2
    refine start_ (n:=6) (S:=fun w' => w'.cell? ⟨W.heap.size,0,none⟩ = some (ii a.f0) ∧ w'.cell? ⟨W.heap.size,1,none⟩ = some (ii a.f1.f0) ∧ w'.cell? ⟨W.heap.size,2,none⟩ = some (ii a.f1.f1) ∧ w'.cell? (ad.add (j * 3)) = some (ii x.f0) ∧ w'.cell? ⟨(ad.add (j * 3)).block,(ad.add (j * 3)).off + 1,none⟩ = some (ii x.f1.f0) ∧ w'.cell? ⟨(ad.add (j * 3)).block,(ad.add (j * 3)).off + 2,none⟩ = some (ii x.f1.f1)) (ds:=[]) (ab 6 0) kr rfl kr ⟨(blk_cell HXW.out 0).trans rfl,(blk_cell HXW.out 1).trans rfl,(blk_cell HXW.out 2).trans rfl,HE0.out,HE1.out,HE2.out⟩ (fun hHeld => ?_);refine with_tabW R246_4.tab R246_4.bits (fun HT_ HW_ => ?_)
    generalize (wr).drew = wd at HXW HND HE0 HE1 HE2 hHeld ⊢
    refine qT 0 (some 11) ?_;refine qA 1 (some 12) ?_;refine qA 2 (some 13) ?_;refine qA 3 (some 14) ?_;refine qT 4 (some 15) ?_;refine qA 5 (some 16) ?_
    refine done_ (done_of HT_.out kr) ?_
    go_wp2
    go_roundw
    case rel =>
     refine ⟨j + 1,by omega,by go_num,⟨fun i hi hij => ?_⟩,HND⟩
     by_cases ei : i = j
     ·subst ei;rw [← HX0.out];exact HK.out.symm
     ·exact HP.out i hi (by omega)
    case measure => simp [intOf];omega
   ·skip
    go_wp2
    refine start_ (n:=6) (S:=fun w' => w'.cell? ⟨W.heap.size,0,none⟩ = some (ii a.f0) ∧ w'.cell? ⟨W.heap.size,1,none⟩ = some (ii a.f1.f0) ∧ w'.cell? ⟨W.heap.size,2,none⟩ = some (ii a.f1.f1) ∧ w'.cell? (ad.add (j * 3)) = some (ii x.f0) ∧ w'.cell? ⟨(ad.add (j * 3)).block,(ad.add (j * 3)).off + 1,none⟩ = some (ii x.f1.f0) ∧ w'.cell? ⟨(ad.add (j * 3)).block,(ad.add (j * 3)).off + 2,none⟩ = some (ii x.f1.f1)) (ds:=[]) (ab 6 0) kr rfl kr ⟨(blk_cell HXW.out 0).trans rfl,(blk_cell HXW.out 1).trans rfl,(blk_cell HXW.out 2).trans rfl,HE0.out,HE1.out,HE2.out⟩ (fun hHeld => ?_);refine with_tabW R246_4.tab R246_4.bits (fun HT_ HW_ => ?_)
    generalize (wr).drew = wd at HXW HND HE0 HE1 HE2 hHeld ⊢
    refine qT 0 (some 11) ?_;refine qA 1 (some 12) ?_;refine qA 2 (some 13) ?_;refine qA 3 (some 14) ?_;refine qT 4 (some 15) ?_;refine qA 5 (some 16) ?_
    refine done_ (done_of HT_.out kr) ?_
    go_wp2
    go_ret
    exact ⟨by rw [idxP_found (p:=eq89 a) hlt (by rw [← HX0.out];exact HK.out.symm) HP.out];rfl,below_then HB1.out (below_size HB1.out) HND.out⟩
  ·
   go_wp2
   go_ret
   exact ⟨by rw [idxP_none (p:=eq89 a) (fun i hi => HP.out i hi (by omega))];rfl,below_then HB1.out (below_size HB1.out) HN.out⟩
set_option maxRecDepth 100000 in
set_option maxHeartbeats 2000000 in
theorem cont228_calls (A : Option Addr) (c : Nat) (l : List S89) (a : S89) (W : World) (hr : Kd.C k89 W A l.length l) (hc : l.length ≤ c) :
  Calls Tryz.prog 228 #[.slice A l.length c,.agg #[ii a.f0,ii a.f1.f0,ii a.f1.f1]] W fun e W' => e = .returned (.bool (l.any (eq89 a))) ∧ Below W.heap.size W W':=by
 have hu89:=Tryz.underlying89
 have hu43:=Tryz.underlying43
 have HC:=am (Kd.C_alloc hr (.cells #[ii a.f0,ii a.f1.f0,ii a.f1.f1] 89))
 have HB:=am (below_alloc (Below.refl W.heap.size W) (.cells #[ii a.f0,ii a.f1.f0,ii a.f1.f1] 89))
 clear hr
 have hnn:=idxP_nn (p:=eq89 a) (l:=l)
 obtain ⟨i,hi⟩ : ∃ i,i = idxP (eq89 a) l:=⟨_,rfl⟩
 rw [← hi] at hnn
 have HI:=am hi.symm
 have HNN:=am hnn
 clear hi hnn
 go_enter Tryz.func228,Tryz.ntmps228
 go_wp2_with fail
 refine (idx246_calls A c l a _ HC.out hc).mono ?_
 rintro e w1 ⟨rfl,hb⟩
 rw [HI.out]
 have HB1:=am (below_then HB.out (below_size HB.out) hb)
 clear hb
 go_wp2
 go_ret
 exact ⟨by rw [← HNN.out];rfl,HB1.out⟩
set_option maxRecDepth 100000 in
set_option maxHeartbeats 2000000 in
theorem cl227_calls (B : Option Addr) (c : Nat) (l : List S89) (gb : Nat) (x : S89) (w : World) (hr : Kd.C k89 w B l.length l) (hc : l.length ≤ c) (hgb : w.heap[gb]? = some (.cells #[.slice B l.length c] 55 (0,0))) :
  Calls Tryz.prog 227 (#[.agg #[ii x.f0,ii x.f1.f0,ii x.f1.f1]] ++ #[.pointer (some ⟨gb,0,none⟩)]) w fun e w' => e = .returned (.bool (!(l.any (eq89 x)))) ∧ Below w.heap.size w w':=by
 have hu89:=Tryz.underlying89
 have hu43:=Tryz.underlying43
 have HC:=am (Kd.C_alloc hr (.cells #[ii x.f0,ii x.f1.f0,ii x.f1.f1] 89))
 have HB:=am (below_alloc (Below.refl w.heap.size w) (.cells #[ii x.f0,ii x.f1.f0,ii x.f1.f1] 89))
 have g0 : (w.alloc (.cells #[ii x.f0,ii x.f1.f0,ii x.f1.f1] 89)).cell? ⟨gb,0,none⟩ = some (.slice B l.length c):=(blk_cell (blk_alloc hgb (.cells #[ii x.f0,ii x.f1.f0,ii x.f1.f1] 89)) 0).trans rfl
 clear hr hgb
 obtain ⟨k,hk⟩ : ∃ k,k = l.any (eq89 x):=⟨_,rfl⟩
 have HK:=am hk
 rw [← hk]
 clear hk
 go_enter Tryz.func227,Tryz.ntmps227
 go_wp2_with fail
 refine (cont228_calls B c l x _ HC.out hc).mono ?_
 rintro e w1 ⟨rfl,hb⟩
 rw [← HK.out]
 have HB1:=am (below_then HB.out (below_size HB.out) hb)
 clear hb
 go_wp2
 go_ret
 exact ⟨rfl,HB1.out⟩
set_option maxRecDepth 100000 in
set_option maxHeartbeats 2000000 in
theorem same_calls (A B : Option Addr) (c d : Nat) (l m : List S89) (W : World) (hr : Kd.C k89 W A l.length l) (hc : l.length ≤ c) (hs : Kd.C k89 W B m.length m) (hd : m.length ≤ d) :
  Calls Tryz.prog 178 #[.slice A l.length c,.slice B m.length d] W fun e W' => e = .returned (.bool (sameP l m)) ∧ Below W.heap.size W W':=by
 have hmf : ∀ (fn : Fn) (first cap : Array Value) (w : World),(Instr.makeFunc fn first cap).run Tryz.prog w = .ok (.func fn first cap) w:=fun _ _ _ _ => rfl
 have hmx:=hr.2.1
 have hmy:=hs.2.1
 have HC:=am (hr)
 have HD:=am (hs)
 have HB:=am (Below.refl W.heap.size W)
 have HC1:=am (Kd.C_alloc HC.out (.cells #[.slice B m.length d] 55))
 have HD1:=am (Kd.C_alloc HD.out (.cells #[.slice B m.length d] 55))
 have HB1:=am (below_alloc HB.out (.cells #[.slice B m.length d] 55))
 have HX:=am (blk_new W (.cells #[.slice B m.length d] 55))
 clear hr hs
 obtain ⟨k,hk⟩ : ∃ k,k = l.any (fun x => !(m.any (eq89 x))):=⟨_,rfl⟩
 have HS:=am (show sameP l m = (decide (l.length = m.length) && !k) by rw [hk];rfl)
 have HH:=am (has226_calls A c l (fun x => !(m.any (eq89 x))) 227 #[.pointer (some ⟨W.heap.size,0,none⟩)] (fun w => Below (W.alloc (.cells #[.slice B m.length d] 55)).heap.size (W.alloc (.cells #[.slice B m.length d] 55)) w) (W.alloc (.cells #[.slice B m.length d] 55)) HC1.out hc (enters_of Tryz.func227 kr rfl) (Below.refl _ _) (fun w w' h hb => below_then h (below_size h) hb) (fun x w _ h => cl227_calls B d m W.heap.size x w (Kd.C_below HD1.out h) hd (blk_below HX.out h)))
 rw [← hk] at HH
 clear hk
 go_enter Tryz.func178,Tryz.ntmps178
 by_cases hlen : l.length = m.length
 ·
  have HE:=am (show sameP l m = !k by rw [HS.out,decide_eq_true hlen,Bool.true_and])
  have hq : ((l.length : Int) == (m.length : Int)) = true:=by simp [hlen]
  clear hlen
  go_wp2_with fail
  refine HH.out.mono ?_
  rintro e w1 ⟨rfl,hb⟩
  have HB9:=am (below_then HB1.out (below_size HB1.out) hb)
  clear hb
  go_wp2
  go_ret
  exact ⟨by rw [HE.out];rfl,HB9.out⟩
 ·
  have HE:=am (show sameP l m = false by rw [HS.out,decide_eq_false hlen,Bool.false_and])
  have hq : ((l.length : Int) == (m.length : Int)) = false:=by simp;omega
  clear hlen
  go_wp2
  go_ret
  exact ⟨by rw [HE.out];rfl,HB1.out⟩
end
def eqPar (x y : S212) : Bool:=decide (x.f0 = y.f0) && sameP x.f1 y.f1
def eqAll {α : Type} (p : α → α → Bool) : List α → List α → Bool
|[],[] => true
|x :: a,y :: b => p x y && eqAll p a b
|_,_ => false
theorem eqAll_len {α : Type} {p : α → α → Bool} : ∀ {a b : List α},a.length ≠ b.length → eqAll p a b = false
|[],[],h => absurd rfl h
|[],_ :: _,_ => rfl
|_ :: _,[],_ => rfl
|x :: a,y :: b,h => by
  simp only [eqAll]
  rw [eqAll_len (a:=a) (b:=b) (by simpa using h),Bool.and_false]
set_option maxRecDepth 100000 in
set_option maxHeartbeats 2000000 in
theorem cl182_calls (A B : Option Addr) (c d : Nat) (x y : S212) (W : World) (hr : Kd.C k89 W A x.f1.length x.f1) (hc : x.f1.length ≤ c) (hs : Kd.C k89 W B y.f1.length y.f1) (hd : y.f1.length ≤ d) :
  Calls Tryz.prog 182 #[.agg #[ii x.f0,.slice A x.f1.length c],.agg #[ii y.f0,.slice B y.f1.length d]] W fun e W' => e = .returned (.bool (eqPar x y)) ∧ Below W.heap.size W W':=by
 have hu212:=Tryz.underlying212
 have HC:=am (hr)
 have HD:=am (hs)
 have HB:=am (Below.refl W.heap.size W)
 have HC1:=am (Kd.C_alloc HC.out (.cells #[ii x.f0,.slice A x.f1.length c] 212))
 have HD1:=am (Kd.C_alloc HD.out (.cells #[ii x.f0,.slice A x.f1.length c] 212))
 have HB1:=am (below_alloc HB.out (.cells #[ii x.f0,.slice A x.f1.length c] 212))
 have HC2:=am (Kd.C_alloc HC1.out (.cells #[ii y.f0,.slice B y.f1.length d] 212))
 have HD2:=am (Kd.C_alloc HD1.out (.cells #[ii y.f0,.slice B y.f1.length d] 212))
 have HB2:=am (below_alloc HB1.out (.cells #[ii y.f0,.slice B y.f1.length d] 212))
 have HX:=am (blk_alloc (blk_new W (.cells #[ii x.f0,.slice A x.f1.length c] 212)) (.cells #[ii y.f0,.slice B y.f1.length d] 212))
 clear hr hs
 have hx0:=bd HX.out 0
 have hx1:=bd HX.out 1
 by_cases h0 : x.f0 = y.f0
 ·
  have hq : (x.f0 == y.f0) = true:=by simp [h0]
  have HE:=am (show eqPar x y = sameP x.f1 y.f1 by unfold eqPar;rw [decide_eq_true h0,Bool.true_and])
  clear h0
  go_enter Tryz.func182,Tryz.ntmps182
  go_wp2_with fail
  refine (same_calls A B c d x.f1 y.f1 _ HC2.out hc HD2.out hd).mono ?_
  rintro e w1 ⟨rfl,hb⟩
  have HB9:=am (below_then HB2.out (below_size HB2.out) hb)
  clear hb
  obtain ⟨k,hk⟩ : ∃ k,k = sameP x.f1 y.f1:=⟨_,rfl⟩
  rw [← hk] at HE ⊢
  clear hk hx0 hx1
  go_wp2
  go_ret
  exact ⟨by rw [HE.out];rfl,HB9.out⟩
 ·
  have hq : (x.f0 == y.f0) = false:=by simpa using h0
  have HE:=am (show eqPar x y = false by unfold eqPar;rw [decide_eq_false h0,Bool.false_and])
  clear h0
  go_enter Tryz.func182,Tryz.ntmps182
  go_wp2
  go_ret
  exact ⟨by rw [HE.out];rfl,HB2.out⟩
theorem drop_rd212 {l : List S212} {j : Nat} (h : j < l.length) : l.drop j = rd_T212 l (j : Int) :: l.drop (j + 1):=by
 rw [List.drop_eq_getElem_cons h];unfold rd_T212;rw [Int.toNat_natCast,List.getD_eq_getElem?_getD,List.getElem?_eq_getElem h];rfl
set_option maxRecDepth 100000 in
set_option maxHeartbeats 2000000 in
theorem eq181_calls (A B : Option Addr) (c d : Nat) (l m : List S212) (W : World) (hr : Kd.C k212 W A l.length l) (hc : l.length ≤ c) (hs : Kd.C k212 W B m.length m) (hd : m.length ≤ d) :
  Calls Tryz.prog 181 #[.slice A l.length c,.slice B m.length d,.func (.func 182) #[] #[]] W fun e W' => e = .returned (.bool (eqAll eqPar l m)) ∧ Below W.heap.size W W':=by
 have hu212:=Tryz.underlying212
 have hmx:=hr.2.1
 have HC:=am hr
 have HD:=am hs
 clear hr hs
 have ek182 : ∀ args w,(callFunc 182 args).run Tryz.prog w = .ok (.enter 182 args) w:=enters_of Tryz.func182 kr rfl
 go_enter Tryz.func181,Tryz.ntmps181
 by_cases hlen : l.length = m.length
 ·
  have hq : ((l.length : Int) == (m.length : Int)) = true:=by simp [hlen]
  have hq2 : ((l.length : Int) != (m.length : Int)) = false:=by simp [hlen]
  have HLN:=am hlen
  have hmc : l.length ≤ d:=by omega
  clear hlen
  obtain ⟨q,hqq⟩ : ∃ q,q = eqAll eqPar l m:=⟨_,rfl⟩
  rw [← hqq]
  have HQ:=am hqq
  clear hqq
  go_wp2
  clear hq hq2
  go_loopw [17] (fun v17 wr => ∃ j : Nat,j ≤ l.length ∧ v17 = ii (j : Int) ∧ Aside0 (q = eqAll eqPar (l.drop j) (m.drop j)) ∧ Aside0 (Below W.heap.size W wr)) (fun v17 _ => l.length - (intOf v17).toNat)
  case atStart => exact ⟨0,Nat.zero_le _,rfl,⟨HQ.out⟩,⟨Below.refl _ _⟩⟩
  case round =>
   obtain ⟨j,hj,rfl,HA,HN⟩:=hrel
   by_cases hlt : j < l.length
   ·
    have hltm : j < m.length:=by have:=HLN.out;omega
    obtain ⟨ae,A1,c1,e,hx0,hx1,hl1,hC1⟩:=at_T212 (Kd.C_below HC.out HN.out) (j : Int) (by omega) (by omega)
    cases e
    obtain ⟨be,B1,d1,e,hy0,hy1,hl2,hC2⟩:=at_T212 (Kd.C_below HD.out HN.out) (j : Int) (by omega) (by omega)
    cases e
    rw [Int.toNat_natCast] at hx0 hx1 hy0 hy1
    rw [drop_rd212 hlt,drop_rd212 hltm] at HA
    obtain ⟨x,hx⟩ : ∃ x,x = rd_T212 l (j : Int):=⟨_,rfl⟩
    obtain ⟨y,hy⟩ : ∃ y,y = rd_T212 m (j : Int):=⟨_,rfl⟩
    rw [← hx] at hx0 hx1 hl1 hC1 HA
    rw [← hy] at hy0 hy1 hl2 hC2 HA
    clear hx hy
    have hltd:=hltm
    clear hltm
    have hjm : (j : Int) < (m.length : Int):=by omega
    have H1:=am (hC1)
    have H2:=am (hC2)
    have HL1:=am hl1
    have HL2:=am hl2
    clear hC1 hC2 hl1 hl2
    have hz0:=pw_cell_below (below_alloc (Below.refl _ _) (.cells #[ii x.f0,.slice A1 x.f1.length c1] 212)) hy0
    have hz1:=pw_cell_below (below_alloc (Below.refl _ _) (.cells #[ii x.f0,.slice A1 x.f1.length c1] 212)) hy1
    have HN1:=am (below_alloc HN.out (.cells #[ii x.f0,.slice A1 x.f1.length c1] 212))
    have H11:=am (Kd.C_alloc H1.out (.cells #[ii x.f0,.slice A1 x.f1.length c1] 212))
    have H21:=am (Kd.C_alloc H2.out (.cells #[ii x.f0,.slice A1 x.f1.length c1] 212))
    have HX:=am (blk_new wr (.cells #[ii x.f0,.slice A1 x.f1.length c1] 212))
    have HN2:=am (below_alloc HN1.out (.cells #[ii y.f0,.slice B1 y.f1.length d1] 212))
    have H12:=am (Kd.C_alloc H11.out (.cells #[ii y.f0,.slice B1 y.f1.length d1] 212))
    have H22:=am (Kd.C_alloc H21.out (.cells #[ii y.f0,.slice B1 y.f1.length d1] 212))
    have HX1:=am (blk_alloc HX.out (.cells #[ii y.f0,.slice B1 y.f1.length d1] 212))
    have g0:=bd HX1.out 0
    have g1:=bd HX1.out 1
    obtain ⟨k,hk⟩ : ∃ k,k = eqPar x y:=⟨_,rfl⟩
    have HK:=am hk
    clear hk
    go_wp2_with fail
    refine (cl182_calls A1 B1 c1 d1 x y _ H12.out HL1.out H22.out HL2.out).mono ?_
    rintro e w5 ⟨rfl,hb⟩
    rw [← HK.out]
    have HN3:=am (below_then HN2.out (below_size HN2.out) hb)
    clear hb g0 g1 hx0 hx1 hy0 hy1 hz0 hz1
    cases k with
   |false =>
     go_wp2
     go_ret
     exact ⟨by rw [HA.out];simp only [eqAll];rw [← HK.out];rfl,HN3.out⟩
   |true =>
     go_wp2
     go_roundw
     case rel => exact ⟨j + 1,by omega,by go_num,⟨by rw [HA.out];simp only [eqAll];rw [← HK.out,Bool.true_and]⟩,HN3⟩
     case measure => simp [intOf];omega
   ·
    have HE:=am (show q = true by rw [HA.out,List.drop_eq_nil_of_le (by omega),List.drop_eq_nil_of_le (by have:=HLN.out;omega)];rfl)
    go_wp2
    go_ret
    exact ⟨by rw [HE.out];rfl,HN.out⟩
 ·
  have hq2 : ((l.length : Int) != (m.length : Int)) = true:=by simp;omega
  have HE:=am (eqAll_len (p:=eqPar) hlen)
  clear hlen
  go_wp2
  go_ret
  exact ⟨by rw [HE.out];rfl,Below.refl _ _⟩
set_option maxRecDepth 100000 in
set_option maxHeartbeats 2000000 in
theorem cl180_calls (A B : Option Addr) (c d : Nat) (l m : List S212) (W : World) (hr : Kd.C k212 W A l.length l) (hc : l.length ≤ c) (hs : Kd.C k212 W B m.length m) (hd : m.length ≤ d) :
  Calls Tryz.prog 180 #[.slice A l.length c,.slice B m.length d] W fun e W' => e = .returned (.bool (eqAll eqPar l m)) ∧ Below W.heap.size W W':=by
 have HH:=am (eq181_calls A B c d l m W hr hc hs hd)
 clear hr hs
 go_enter Tryz.func180,Tryz.ntmps180
 go_wp2_with fail
 refine HH.out.mono ?_
 rintro e w1 ⟨rfl,hb⟩
 have HB:=am hb
 clear hb
 go_wp2
 go_ret
 exact ⟨rfl,HB.out⟩
def R125_8.T : Bool × List (List Nat × List Nat):=(true,[([],[]),([0],[0]),([1],[1]),([2],[2]),([],[]),([4],[4]),([5],[5]),([6],[6]),([3,7],[3,7]),([8,8,0,1,2,3,4,5,6,7,8],[8])])
def R125_8.B : List Nat:=[0,1,3,7,0,16,48,112,255,511]
theorem R125_8.tab : rtab .any (opsOf Tryz.f125 8) = R125_8.T:=by kernel_rfl
theorem R125_8.bits : waitsOk R125_8.T.2 R125_8.B = true:=by kernel_rfl
theorem at_pit {w : World} {A : Option Addr} {n : Nat} {xs : List (List S212)} (h : Kd.C (Kd.slice 212 k212) w A n xs) (i : Int) (h0 : 0 ≤ i) (h1 : i < n) : ∃ ad A1 c1,A = some ad ∧ w.cell? (ad.add i.toNat) = some (.slice A1 (xs.getD i.toNat []).length c1) ∧ (xs.getD i.toNat []).length ≤ c1 ∧ Kd.C k212 w A1 (xs.getD i.toNat []).length (xs.getD i.toNat []):=by
 obtain ⟨ad,cs,e,_,hK,hcc⟩:=Kd.C_get h [] i h0 h1
 obtain ⟨A1,c1,rfl,hl,hC⟩:=hK
 have hc:=hcc 0 _ rfl
 have e1 : i.toNat * (Kd.slice 212 k212).sz + 0 = i.toNat:=by show i.toNat * 1 + 0 = _;omega
 rw [e1] at hc
 exact ⟨ad,A1,c1,e,hc,hl,hC⟩
theorem drop_pit {l : List (List S212)} {j : Nat} (h : j < l.length) : l.drop j = l.getD j [] :: l.drop (j + 1):=by
 rw [List.drop_eq_getElem_cons h,List.getD_eq_getElem?_getD,List.getElem?_eq_getElem h];rfl
def alikeOne (b : Yd) (x : S167) : Bool:=match b.barrows.find? (isId x.f0) with
|none => false
|some y => sameP x.f3 y.f3
def alikeP (a b : Yd) : Bool:=a.barrows.all (alikeOne b) && eqAll (eqAll eqPar) a.pits b.pits
theorem drop_rd167 {l : List S167} {j : Nat} (h : j < l.length) : l.drop j = rd_T167 l (j : Int) :: l.drop (j + 1):=by
 rw [List.drop_eq_getElem_cons h];unfold rd_T167;rw [Int.toNat_natCast,List.getD_eq_getElem?_getD,List.getElem?_eq_getElem h];rfl
theorem YardAt.pits_C {W : World} {base : Nat} {L : Loc} {Y : Yd} (h : YardAt W base L Y) : Kd.C (Kd.slice 212 k212) W (some ⟨L.gp,0,none⟩) Y.pits.length Y.pits:=by
 obtain ⟨A,c,e,hl,hC⟩:=Kd.R_reads h.pits
 injection e with e1 e2 e3
 rw [e1]
 exact hC.imp_ (Below.refl _ _) fun _ _ hp => Foot.now hp
set_option maxRecDepth 100000 in
set_option maxHeartbeats 2000000 in
theorem eq179_calls (A B : Option Addr) (c d : Nat) (l m : List (List S212)) (W : World) (hr : Kd.C (Kd.slice 212 k212) W A l.length l) (hc : l.length ≤ c) (hs : Kd.C (Kd.slice 212 k212) W B m.length m) (hd : m.length ≤ d) :
  Calls Tryz.prog 179 #[.slice A l.length c,.slice B m.length d,.func (.func 180) #[] #[]] W fun e W' => e = .returned (.bool (eqAll (eqAll eqPar) l m)) ∧ Below W.heap.size W W':=by
 have hmx:=hr.2.1
 have HC:=am hr
 have HD:=am hs
 clear hr hs
 have ek180 : ∀ args w,(callFunc 180 args).run Tryz.prog w = .ok (.enter 180 args) w:=enters_of Tryz.func180 kr rfl
 go_enter Tryz.func179,Tryz.ntmps179
 by_cases hlen : l.length = m.length
 ·
  have hq : ((l.length : Int) == (m.length : Int)) = true:=by simp [hlen]
  have hq2 : ((l.length : Int) != (m.length : Int)) = false:=by simp [hlen]
  have HLN:=am hlen
  have hmc : l.length ≤ d:=by omega
  clear hlen
  obtain ⟨q,hqq⟩ : ∃ q,q = eqAll (eqAll eqPar) l m:=⟨_,rfl⟩
  rw [← hqq]
  have HQ:=am hqq
  clear hqq
  go_wp2
  clear hq hq2
  go_loopw [17] (fun v17 wr => ∃ j : Nat,j ≤ l.length ∧ v17 = ii (j : Int) ∧ Aside0 (q = eqAll (eqAll eqPar) (l.drop j) (m.drop j)) ∧ Aside0 (Below W.heap.size W wr)) (fun v17 _ => l.length - (intOf v17).toNat)
  case atStart => exact ⟨0,Nat.zero_le _,rfl,⟨HQ.out⟩,⟨Below.refl _ _⟩⟩
  case round =>
   obtain ⟨j,hj,rfl,HA,HN⟩:=hrel
   by_cases hlt : j < l.length
   ·
    have hltm : j < m.length:=by have:=HLN.out;omega
    obtain ⟨ae,A1,c1,e,hx0,hl1,hC1⟩:=at_pit (Kd.C_below HC.out HN.out) (j : Int) (by omega) (by omega)
    cases e
    obtain ⟨be,B1,d1,e,hy0,hl2,hC2⟩:=at_pit (Kd.C_below HD.out HN.out) (j : Int) (by omega) (by omega)
    cases e
    rw [Int.toNat_natCast] at hx0 hl1 hC1 hy0 hl2 hC2
    rw [drop_pit hlt,drop_pit hltm] at HA
    obtain ⟨x,hx⟩ : ∃ x,x = l.getD j []:=⟨_,rfl⟩
    obtain ⟨y,hy⟩ : ∃ y,y = m.getD j []:=⟨_,rfl⟩
    rw [← hx] at hx0 hl1 hC1 HA
    rw [← hy] at hy0 hl2 hC2 HA
    clear hx hy
    have hjm : (j : Int) < (m.length : Int):=by omega
    have H1:=am (hC1)
    have H2:=am (hC2)
    have HL1:=am hl1
    have HL2:=am hl2
    clear hC1 hC2 hl1 hl2
    obtain ⟨k,hk⟩ : ∃ k,k = eqAll eqPar x y:=⟨_,rfl⟩
    have HK:=am hk
    clear hk
    go_wp2_with fail
    refine (cl180_calls A1 B1 c1 d1 x y _ H1.out HL1.out H2.out HL2.out).mono ?_
    rintro e w5 ⟨rfl,hb⟩
    rw [← HK.out]
    have HN1:=am (below_then HN.out (below_size HN.out) hb)
    clear hb hx0 hy0
    cases k with
   |false =>
     go_wp2
     go_ret
     exact ⟨by rw [HA.out];simp only [eqAll];rw [← HK.out];rfl,HN1.out⟩
   |true =>
     go_wp2
     go_roundw
     case rel => exact ⟨j + 1,by omega,by go_num,⟨by rw [HA.out];simp only [eqAll];rw [← HK.out,Bool.true_and]⟩,HN1⟩
     case measure => simp [intOf];omega
   ·
    have HE:=am (show q = true by rw [HA.out,List.drop_eq_nil_of_le (by omega),List.drop_eq_nil_of_le (by have:=HLN.out;omega)];rfl)
    go_wp2
    go_ret
    exact ⟨by rw [HE.out];rfl,HN.out⟩
 ·
  have hq2 : ((l.length : Int) != (m.length : Int)) = true:=by simp;omega
  have HE:=am (eqAll_len (p:=eqAll eqPar) hlen)
  clear hlen
  go_wp2
  go_ret
  exact ⟨by rw [HE.out];rfl,Below.refl _ _⟩
set_option maxRecDepth 100000 in
set_option maxHeartbeats 2000000 in
theorem alike_calls {W : World} {base base2 n : Nat} {L M : Loc} {Y Z : Yd} (ha : YardAt W base L Y) (hz : YardAt W base2 M Z) (hw2 : Wf n Z) (hn : n ≤ 60) :
  Calls Tryz.prog 125 #[.pointer (some ⟨L.g,0,none⟩),.pointer (some ⟨M.g,0,none⟩)] W fun e W' => e = .returned (.bool (alikeP Y Z)) ∧ Below W.heap.size W W':=by
 have hu167:=Tryz.underlying167
 obtain ⟨Ab,cb,hb,hlb,hCb⟩:=Kd.R_reads ha.barrows
 have hCb' : Kd.C k167 W Ab Y.barrows.length Y.barrows:=hCb.imp_ (Below.refl _ _) fun _ _ hp => Foot.now hp
 have hB:=ha.blk
 rw [hb] at hB
 have hmx:=hCb.2.1
 have hpl:=ha.plen
 have hpz:=hz.plen
 have g4:=bd hB 4
 have HW2:=am hw2
 have HC:=am (hCb')
 have HA:=am (ha)
 have HZ:=am (hz)
 clear ha hz hb hCb hCb' hB hw2
 obtain ⟨q,hqq⟩ : ∃ q,q = alikeP Y Z:=⟨_,rfl⟩
 rw [← hqq]
 have HQ:=am (show q = (Y.barrows.all (alikeOne Z) && eqAll (eqAll eqPar) Y.pits Z.pits) from hqq)
 clear hqq
 go_enter Tryz.func125,Tryz.ntmps125
 go_wp2
 clear g4
 go_loopw [14] (fun v14 wr => ∃ j : Nat,j ≤ Y.barrows.length ∧ v14 = ii (j : Int) ∧ Aside0 (q = ((Y.barrows.drop j).all (alikeOne Z) && eqAll (eqAll eqPar) Y.pits Z.pits)) ∧ Aside0 (Below W.heap.size W wr)) (fun v14 _ => Y.barrows.length - (intOf v14).toNat)
 case atStart => exact ⟨0,Nat.zero_le _,rfl,⟨HQ.out⟩,⟨Below.refl _ _⟩⟩
 case round =>
  obtain ⟨j,hj,rfl,HT,HN⟩:=hrel
  by_cases hlt : j < Y.barrows.length
  ·
   obtain ⟨ae,A3,c3,e,hx0,hx1,hx2,hx3,hl3,hC3⟩:=at_T167 (Kd.C_below HC.out HN.out) (j : Int) (by omega) (by omega)
   cases e
   rw [Int.toNat_natCast] at hx0 hx1 hx2 hx3
   rw [drop_rd167 hlt,List.all_cons] at HT
   obtain ⟨b,hb⟩ : ∃ b,b = rd_T167 Y.barrows (j : Int):=⟨_,rfl⟩
   rw [← hb] at hx0 hx1 hx2 hx3 hl3 hC3 HT
   clear hb
   have H3:=am (hC3)
   have HL3:=am hl3
   clear hC3 hl3
   have HN1:=am (below_alloc HN.out (.cells #[ii b.f0,ii b.f1,ii b.f2,.slice A3 b.f3.length c3] 167))
   have H31:=am (Kd.C_alloc H3.out (.cells #[ii b.f0,ii b.f1,ii b.f2,.slice A3 b.f3.length c3] 167))
   have HX:=am (blk_new wr (.cells #[ii b.f0,ii b.f1,ii b.f2,.slice A3 b.f3.length c3] 167))
   go_wp2_with fail
   refine (find_calls (HZ.out.move HN1.out) HW2.out hn b.f0).mono ?_
   rintro e w5 ⟨hb,h⟩
   have HN2:=am (below_then HN1.out (below_size HN1.out) hb)
   have H32:=am (Kd.C_below H31.out hb)
   have HX1:=am (blk_below HX.out hb)
   clear hb hx0 hx1 hx2 hx3
   rcases h with ⟨hno,rfl⟩|⟨z,A4,c4,hfd,rfl,hl4,hF4⟩
   ·
    have HE:=am (show q = false by rw [HT.out];unfold alikeOne;rw [find_none_of hno];rfl)
    clear hno
    have HN3:=am (below_alloc HN2.out (.cells #[ii 0,ii 0,ii 0,.slice none 0 0] 167))
    have H33:=am (Kd.C_alloc H32.out (.cells #[ii 0,ii 0,ii 0,.slice none 0 0] 167))
    have HX2:=am (blk_alloc HX1.out (.cells #[ii 0,ii 0,ii 0,.slice none 0 0] 167))
    go_wp2
    go_ret
    exact ⟨by rw [HE.out];rfl,HN3.out⟩
   ·
    have HAO:=am (show alikeOne Z b = sameP b.f3 z.f3 by unfold alikeOne;rw [hfd])
    have HL4:=am hl4
    have H4:=am (Kd.F_now hF4)
    clear hfd hl4 hF4
    have HN3:=am (below_alloc HN2.out (.cells #[ii z.f0,ii z.f1,ii z.f2,.slice A4 z.f3.length c4] 167))
    have H33:=am (Kd.C_alloc H32.out (.cells #[ii z.f0,ii z.f1,ii z.f2,.slice A4 z.f3.length c4] 167))
    have HX2:=am (blk_alloc HX1.out (.cells #[ii z.f0,ii z.f1,ii z.f2,.slice A4 z.f3.length c4] 167))
    have H41:=am (Kd.C_alloc H4.out (.cells #[ii z.f0,ii z.f1,ii z.f2,.slice A4 z.f3.length c4] 167))
    have g3:=bd HX2.out 3
    obtain ⟨k,hk⟩ : ∃ k,k = sameP b.f3 z.f3:=⟨_,rfl⟩
    rw [← hk] at HAO
    have HK:=am hk
    clear hk
    go_wp2_with fail
    refine (same_calls A3 A4 c3 c4 b.f3 z.f3 _ H33.out HL3.out H41.out HL4.out).mono ?_
    rintro e w6 ⟨rfl,hb⟩
    rw [← HK.out]
    have HN4:=am (below_then HN3.out (below_size HN3.out) hb)
    clear hb g3
    cases k with
   |false =>
     go_wp2
     go_ret
     exact ⟨by rw [HT.out,HAO.out];rfl,HN4.out⟩
   |true =>
     go_wp2
     go_roundw
     case rel => exact ⟨j + 1,by omega,by go_num,⟨by rw [HT.out,HAO.out,Bool.true_and]⟩,HN4⟩
     case measure => simp [intOf];omega
  ·
   have HE:=am (show q = eqAll (eqAll eqPar) Y.pits Z.pits by rw [HT.out,List.drop_eq_nil_of_le (by omega)];rfl)
   have HBD:=am (below_drew HN.out)
   have HA9:=am (HA.out.move (below_drew HN.out))
   have HZ9:=am (HZ.out.move (below_drew HN.out))
   go_wp2
   refine start_ (n:=10) (S:=fun w' => w'.cell? ⟨L.g,1,none⟩ = some (.slice (some ⟨L.gp,0,none⟩) Y.rooms.length Y.rooms.length) ∧ w'.cell? ⟨M.g,1,none⟩ = some (.slice (some ⟨M.gp,0,none⟩) Z.rooms.length Z.rooms.length)) (ds:=[]) (ab 10 0) kr rfl kr ⟨(blk_cell HA9.out.blk 1).trans rfl,(blk_cell HZ9.out.blk 1).trans rfl⟩ (fun hHeld => ?_);refine with_tabW R125_8.tab R125_8.bits (fun HT_ HW_ => ?_)
   generalize (wr).drew = wd at HBD HA9 HZ9 hHeld ⊢
   refine qA 0 (some 36) ?_;refine qA 1 (some 37) ?_;refine qA 2 (some 38) ?_;refine qT 3 (some 39) ?_;refine qA 4 (some 40) ?_;refine qA 5 (some 41) ?_;refine qA 6 (some 42) ?_;refine qT 7 (some 43) ?_
   refine qE 8 (some 44) fun K hK => ?_
   refine gC Tryz.func179 #[.slice (some ⟨L.gp,0,none⟩) Y.rooms.length Y.rooms.length,.slice (some ⟨M.gp,0,none⟩) Z.rooms.length Z.rooms.length,.func (.func 180) #[] #[]] ?_
   have hh:=eq179_calls (some ⟨L.gp,0,none⟩) (some ⟨M.gp,0,none⟩) Y.rooms.length Z.rooms.length Y.pits Z.pits wd HA9.out.pits_C (by omega) HZ9.out.pits_C (by omega)
   rw [hpl,hpz] at hh
   refine hh.mono ?_
   rintro e w6 ⟨rfl,hb⟩
   have HB6:=am (below_then HBD.out (below_size HBD.out) hb)
   have HA6:=am (HA9.out.move hb)
   have HZ6:=am (HZ9.out.move hb)
   clear hb
   rw [← HE.out]
   refine ⟨_,rfl,?_⟩
   refine hK.out _ _ ⟨(blk_cell HA6.out.blk 1).trans rfl,(blk_cell HZ6.out.blk 1).trans rfl⟩ (fun hHeld => ?_)
   clear hK K
   refine qN (some 44) ?_
   refine qA 9 (some 4) ?_
   refine done_ (done_of HT_.out kr) ?_
   go_wp2
   go_ret
   exact ⟨rfl,HB6.out⟩
end Go.Proofs.YtjjfpmapjjemcaaGreat.B
end
