import Derived.WalkSpells
import Derived.Outline
import Derived.Test.YtjjfpmapjjemcaaGreatQ1
import Derived.Test.YtjjfpmapjjemcaaGreatQ2
import Derived.Test.YtjjfpmapjjemcaaGreatQ3
import Derived.Test.YtjjfpmapjjemcaaGreatQ4
set_option linter.unusedVariables false
set_option linter.unusedSimpArgs false
section
namespace Go.Proofs.YtjjfpmapjjemcaaGreat.B
open Go.RowKit Go.Proofs.YtjjfpmapjjemcaaGreatW.PrintWords Go.Proofs.YtjjfpmapjjemcaaGreatW.PrintLast Go.Proofs.YtjjfpmapjjemcaaGreatW.PrintMore
attribute [local go_sem] max2_int min2_int max_two min_two max_three min_three max_four min_four
def R132_10.T : Bool × List (List Nat × List Nat):=(true,[([],[]),([0],[0]),([1],[1]),([],[]),([3],[3]),([2,4],[2,4]),([],[]),([6],[6]),([5,7],[5,7]),([],[]),([9],[9]),([10],[10]),([],[]),([12],[12]),([11,13],[11,13]),([],[]),([15],[15]),([14,16,8],[14,16]),([],[]),([],[]),([18,8,17,0,1,2,3,4,5,6,7,8,18,19],[8,18]),([19,17,20,0,1,2,3,4,5,6,7,8,9,10,11,12,13,14,15,16,17,18,19,20],[17,19])])
def R132_10.B : List Nat:=[0,1,3,0,8,31,0,64,255,0,512,1536,0,4096,15872,0,32768,131071,0,0,1048575,2097151]
theorem R132_10.tab : rtab .any (opsOf Tryz.f132 10) = R132_10.T:=by kernel_rfl
theorem R132_10.bits : waitsOk R132_10.T.2 R132_10.B = true:=by kernel_rfl
set_option maxRecDepth 100000 in
set_option maxHeartbeats 8000000 in
theorem blamed_calls {W : World} {base n : Nat} {L : Loc} {Y : Yd} (hY : YardAt W base L Y) (hw : Wf n Y) (hn : n ≤ 60) (A : Option Addr) (c : Nat) (l : List S137) (hr : Kd.C k137 W A l.length l) (hlc : l.length ≤ c) (hpk : ∀ x ∈ l,Y.barrows.any (isId x.f0) = true ∧ milleP x.f1 = true) (pour : Int) :
  Calls Tryz.prog 132 #[.pointer (some ⟨L.g,0,none⟩),.slice A l.length c,.int .i64 pour] W fun e W' => e = .returned (.tuple #[.agg #[.int .i64 (blamedP Y l pour).1.f0,.int .i64 (blamedP Y l pour).1.f1.f0,.int .i64 (blamedP Y l pour).1.f1.f1,.int .i64 (blamedP Y l pour).1.f2.f0,.int .i64 (blamedP Y l pour).1.f2.f1],.int .i64 (blamedP Y l pour).2.1,.bool (blamedP Y l pour).2.2]) ∧ Below W.heap.size W W':=by
 have hu139:=Tryz.underlying139
 have hu137:=Tryz.underlying137
 have hu167:=Tryz.underlying167
 have hu66:=Tryz.underlying66
 have hu43:=Tryz.underlying43
 have hmx:=hr.2.1
 have HW:=am hw
 have HPK:=am hpk
 have HC:=am (hr)
 have HY:=am (hY)
 have HB:=am (Below.refl W.heap.size W)
 have HC1:=am (Kd.C_alloc HC.out (.cells #[.int .i64 0,.int .i64 0,.int .i64 0,.int .i64 0,.int .i64 0] 139))
 have HY1:=am (HY.out.move (below_alloc (Below.refl _ _) (.cells #[.int .i64 0,.int .i64 0,.int .i64 0,.int .i64 0,.int .i64 0] 139)))
 have HB1:=am (below_alloc HB.out (.cells #[.int .i64 0,.int .i64 0,.int .i64 0,.int .i64 0,.int .i64 0] 139))
 have HR:=am (blk_new W (.cells #[.int .i64 0,.int .i64 0,.int .i64 0,.int .i64 0,.int .i64 0] 139))
 obtain ⟨q,hq⟩ : ∃ q,q = blamedP Y l pour:=⟨_,rfl⟩
 rw [← hq]
 have HQ:=am hq
 clear hq hr hY hw hpk
 go_enter Tryz.func132,Tryz.ntmps132
 go_wp2_with fail
 refine (pit_whole.calls 0 0 1 _ rfl).mono ?_
 rintro e w1 ⟨rfl,hb⟩
 have HC2:=am (Kd.C_below HC1.out hb)
 have HY2:=am (HY1.out.move hb)
 have HB2:=am (below_then HB1.out (below_size HB1.out) hb)
 have HR1:=am (blk_below HR.out hb)
 clear hb
 go_wp2_with fail
 refine (pit_whole.calls 1000 1000 1 _ rfl).mono ?_
 rintro e w2 ⟨rfl,hb⟩
 have HC3:=am (Kd.C_below HC2.out hb)
 have HY3:=am (HY2.out.move hb)
 have HB3:=am (below_then HB2.out (below_size HB2.out) hb)
 have HR2:=am (blk_below HR1.out hb)
 clear hb
 go_wp2
 go_loopw [23] (fun v23 wr => ∃ (j : Nat) (lo hi : S43),j ≤ l.length ∧ v23 = .int .i64 (j : Int) ∧ Aside0 (Below w2.heap.size w2 wr) ∧ Aside0 (wr.heap[w2.heap.size]? = some (.cells #[.int .i64 pour,.int .i64 lo.f0,.int .i64 lo.f1,.int .i64 hi.f0,.int .i64 hi.f1] 139 (0,0))) ∧ Aside0 (EndOk lo) ∧ Aside0 (EndOk hi) ∧ Aside0 (q = blameL Y pour lo hi (j : Int) (l.drop j))) (fun v23 _ => l.length - (intOf v23).toNat)
 case atStart => exact ⟨0,wholeP 0,wholeP 1000,Nat.zero_le _,rfl,⟨below_alloc (Below.refl _ _) _⟩,⟨blk_new _ _⟩,⟨wholeP_ok (by decide),by decide,by decide⟩,⟨wholeP_ok (by decide),by decide,by decide⟩,⟨HQ.out⟩⟩
 case round =>
  obtain ⟨j,lo,hi,hj,rfl,HN,HT,HLO,HHI,HA⟩:=hrel
  by_cases hlt : j < l.length
  ·
   obtain ⟨ae,e,hx0,hx1,hx2⟩:=at_T137 (Kd.C_below HC3.out HN.out) (j : Int) (by omega) (by omega)
   cases e
   rw [Int.toNat_natCast] at hx0 hx1 hx2
   have hmem : rd_T137 l (j : Int) ∈ l:=getD_mem_ hlt
   have HPX:=am (HPK.out _ hmem)
   rw [drop_rd137 hlt] at HA
   obtain ⟨x,hx⟩ : ∃ x,x = rd_T137 l (j : Int):=⟨_,rfl⟩
   rw [← hx] at hx0 hx1 hx2 HA HPX
   clear hx hmem
   have HT1:=am (blk_alloc HT.out (.cells #[.int .i64 x.f0,.int .i64 x.f1.f0,.int .i64 x.f1.f1] 137))
   have HN1:=am (below_alloc HN.out (.cells #[.int .i64 x.f0,.int .i64 x.f1.f0,.int .i64 x.f1.f1] 137))
   have HX:=am (blk_new wr (.cells #[.int .i64 x.f0,.int .i64 x.f1.f0,.int .i64 x.f1.f1] 137))
   go_wp2_with fail
   refine (find_calls (HY3.out.move (below_alloc HN.out (.cells #[.int .i64 x.f0,.int .i64 x.f1.f0,.int .i64 x.f1.f1] 137))) HW.out (by omega) x.f0).mono ?_
   rintro e w5 ⟨hb,h⟩
   have HT2:=am (blk_below HT1.out hb)
   have HN2:=am (below_then HN1.out (below_size HN1.out) hb)
   have HX1:=am (blk_below HX.out hb)
   clear hb hx0 hx1 hx2
   rcases h with ⟨hno,_⟩|⟨b,A3,c3,hfd,rfl,hl3,hF3⟩
   ·exact absurd (HPX.out.1.symm.trans hno) (by simp)
   have HBO:=am (HW.out.barrows b (List.mem_of_find?_eq_some hfd))
   have HBD:=am (show barrowD Y x.f0 = b by unfold barrowD;rw [hfd];rfl)
   have HL3:=am hl3
   have HG:=am (Kd.F_now hF3)
   have HT3:=am (blk_alloc HT2.out (.cells #[.int .i64 b.f0,.int .i64 b.f1,.int .i64 b.f2,.slice A3 b.f3.length c3] 167))
   have HN3:=am (below_alloc HN2.out (.cells #[.int .i64 b.f0,.int .i64 b.f1,.int .i64 b.f2,.slice A3 b.f3.length c3] 167))
   have HX2:=am (blk_alloc HX1.out (.cells #[.int .i64 b.f0,.int .i64 b.f1,.int .i64 b.f2,.slice A3 b.f3.length c3] 167))
   have HG1:=am (Kd.C_alloc HG.out (.cells #[.int .i64 b.f0,.int .i64 b.f1,.int .i64 b.f2,.slice A3 b.f3.length c3] 167))
   clear hfd hl3 hF3
   have HSS:=am (share_some HBO.out pour)
   have HSB:=am (shareP_bnd HBO.out pour)
   obtain ⟨s,hs⟩ : ∃ s,s = shareP b pour:=⟨_,rfl⟩
   rw [← hs] at HSS HSB
   have HS:=am (show shareP (barrowD Y x.f0) pour = s by rw [HBD.out,hs])
   clear hs
   go_wp2_with fail
   refine (pit_barrow_share.calls FU _ _ _ _ _ _ _ _ _ _ HG1.out HL3.out HSS.out).mono ?_
   rintro e w6 ⟨rfl,hb⟩
   have HT4:=am (blk_below HT3.out hb)
   have HN4:=am (below_then HN3.out (below_size HN3.out) hb)
   have HX3:=am (blk_below HX2.out hb)
   clear hb
   have HT5:=am (blk_alloc HT4.out (.cells #[.int .i64 s.f0,.int .i64 s.f1] 43))
   have HN5:=am (below_alloc HN4.out (.cells #[.int .i64 s.f0,.int .i64 s.f1] 43))
   have HX4:=am (blk_alloc HX3.out (.cells #[.int .i64 s.f0,.int .i64 s.f1] 43))
   have HE:=am (blk_new w6 (.cells #[.int .i64 s.f0,.int .i64 s.f1] 43))
   by_cases hs0 : s.f0 = 0
   ·
    rw [hs0] at HT5 HN5 HX4 HE
    have g1:=bd HX4.out 1
    by_cases hx0 : x.f1.f0 > 0
    ·
     have HR9:=am (blk_below HR2.out HN5.out)
     have HB9:=am (below_then HB3.out (below_size HB3.out) HN5.out)
     have HE9:=am (show q = (⟨0,⟨0,0⟩,⟨0,0⟩⟩,(j : Int),false) by rw [HA.out];simp only [blameL];rw [HS.out,if_pos hs0,if_pos hx0])
     have u0:=bd HR9.out 0
     have fu0:=blk_frozen HR9.out 0
     have u1:=bd HR9.out 1
     have fu1:=blk_frozen HR9.out 1
     have u2:=bd HR9.out 2
     have fu2:=blk_frozen HR9.out 2
     have u3:=bd HR9.out 3
     have fu3:=blk_frozen HR9.out 3
     have u4:=bd HR9.out 4
     have fu4:=blk_frozen HR9.out 4
     go_wp2
     rw [HE9.out]
     have bz:=blk_put (cs':=#[.int .i64 0,.int .i64 0,.int .i64 0,.int .i64 0,.int .i64 0]) (blk_put (cs':=#[.int .i64 0,.int .i64 0,.int .i64 0,.int .i64 0,.int .i64 0]) (blk_put (cs':=#[.int .i64 0,.int .i64 0,.int .i64 0,.int .i64 0,.int .i64 0]) (blk_put (cs':=#[.int .i64 0,.int .i64 0,.int .i64 0,.int .i64 0,.int .i64 0]) (blk_put (cs':=#[.int .i64 0,.int .i64 0,.int .i64 0,.int .i64 0,.int .i64 0]) (HR9.out) 0 (.int .i64 0) rfl) 1 (.int .i64 0) rfl) 2 (.int .i64 0) rfl) 3 (.int .i64 0) rfl) 4 (.int .i64 0) rfl
     have z0:=bd bz 0
     have z1:=bd bz 1
     have z2:=bd bz 2
     have z3:=bd bz 3
     have z4:=bd bz 4
     exact bodyPost_ret (v:=.tuple #[.agg #[.int .i64 0,.int .i64 0,.int .i64 0,.int .i64 0,.int .i64 0],.int .i64 (j : Int),.bool false]) (by simp [results,Tryz.results132,go_sem,z0,z1,z2,z3,z4,hu139,hu43]) rfl ⟨rfl,(((((HB9.out).setCell (p:=⟨W.heap.size,0,none⟩) (by first|(simp;done)|(simp;omega)) (.int .i64 0)).setCell (p:=⟨W.heap.size,1,none⟩) (by first|(simp;done)|(simp;omega)) (.int .i64 0)).setCell (p:=⟨W.heap.size,2,none⟩) (by first|(simp;done)|(simp;omega)) (.int .i64 0)).setCell (p:=⟨W.heap.size,3,none⟩) (by first|(simp;done)|(simp;omega)) (.int .i64 0)).setCell (p:=⟨W.heap.size,4,none⟩) (by first|(simp;done)|(simp;omega)) (.int .i64 0)⟩
    ·
     go_wp2
     go_roundw
     case rel => exact ⟨j + 1,lo,hi,by omega,by go_num,HN5,HT5,HLO,HHI,⟨by rw [HA.out];simp only [blameL];rw [HS.out,if_pos hs0,if_neg (by omega)];rfl⟩⟩
     case measure => simp [intOf];omega
   ·
    have hs1 : 1 ≤ s.f0:=by have:=HSB.out.1.1;omega
    obtain ⟨hm0,hm1,hm2,hm3⟩:=milleP_of HPX.out.2
    obtain ⟨ha1,ha2,ha3,ha4⟩:=endP_ok hm0 hm1 HSB.out.1 HSB.out.2.1 HSB.out.2.2 hs1
    obtain ⟨hb1,hb2,hb3,hb4⟩:=endP_ok hm2 hm3 HSB.out.1 HSB.out.2.1 HSB.out.2.2 hs1
    have hwa : IntKind.i64.wrap (x.f1.f0 * s.f1) = x.f1.f0 * s.f1:=IntWalk.i64_in _ (by omega)
    have hwb : IntKind.i64.wrap (x.f1.f1 * s.f1) = x.f1.f1 * s.f1:=IntWalk.i64_in _ (by omega)
    obtain ⟨a,ha⟩ : ∃ a,a = endP x.f1.f0 s:=⟨_,rfl⟩
    obtain ⟨z,hz⟩ : ∃ z,z = endP x.f1.f1 s:=⟨_,rfl⟩
    rw [← ha] at ha1 ha4
    rw [← hz] at hb1 hb4
    have HAE:=am ha
    have HZE:=am hz
    have HA1:=am ha1
    have HA4:=am ha4
    have HZ1:=am hb1
    have HZ4:=am hb4
    clear ha hz ha1 ha2 ha3 ha4 hb1 hb2 hb3 hb4 hm0 hm1 hm2 hm3
    have HA2:=am (show q = if cmpP (maxR a lo) (minR z hi) > 0 then (⟨0,⟨0,0⟩,⟨0,0⟩⟩,(j : Int),false) else blameL Y pour (maxR a lo) (minR z hi) ((j : Int) + 1) (l.drop (j + 1)) by rw [HA.out];simp only [blameL];rw [HS.out,if_neg hs0,← HAE.out,← HZE.out])
    have HT6:=am (blk_drew HT5.out)
    have HN6:=am (below_drew HN5.out)
    have HX5:=am (blk_drew HX4.out)
    have HE1:=am (blk_drew HE.out)
    go_wp2
    refine start_ (n:=22) (S:=fun w' => w'.cell? ⟨wr.heap.size,1,none⟩ = some (.int .i64 x.f1.f0) ∧ w'.cell? ⟨wr.heap.size,2,none⟩ = some (.int .i64 x.f1.f1) ∧ w'.cell? ⟨w6.heap.size,0,none⟩ = some (.int .i64 s.f0) ∧ w'.cell? ⟨w6.heap.size,1,none⟩ = some (.int .i64 s.f1)) (ds:=[20,21]) (ab 22 0) kr rfl kr ⟨(blk_cell HX5.out 1).trans rfl,(blk_cell HX5.out 2).trans rfl,(blk_cell HE1.out 0).trans rfl,(blk_cell HE1.out 1).trans rfl⟩ (fun hHeld => ?_);refine with_tabW R132_10.tab R132_10.bits (fun HT_ HW_ => ?_)
    generalize ((w6.alloc (.cells #[.int .i64 s.f0,.int .i64 s.f1] 43))).drew = wd at HT6 HN6 HX5 HE1 hHeld ⊢
    refine qA 0 (some 47) ?_;refine qA 1 (some 48) ?_;refine qT 2 (some 49) ?_;refine qA 3 (some 50) ?_;refine qT 4 (some 51) ?_;refine qA 5 (some 52) ?_;refine qA 6 (some 53) ?_;refine qT 7 (some 54) ?_;refine qA 9 (some 56) ?_;refine qA 10 (some 57) ?_;refine qT 11 (some 58) ?_;refine qA 12 (some 59) ?_;refine qT 13 (some 60) ?_;refine qA 14 (some 61) ?_;refine qA 15 (some 62) ?_;refine qT 16 (some 63) ?_
    refine join_ (σ:=Nat × Nat) 2 (ab 22 1048575) (fun x => [(55,.agg #[.int .i64 a.f0,.int .i64 a.f1]),(64,.agg #[.int .i64 z.f0,.int .i64 z.f1]),(15,.pointer (some ⟨x.1,0,none⟩)),(16,.pointer (some ⟨x.2,0,none⟩))]) (fun x w' => Below wd.heap.size wd w' ∧ w'.heap[x.1]? = some (.cells #[.int .i64 0,.int .i64 0] 43 (0,0)) ∧ w'.heap[x.2]? = some (.cells #[.int .i64 0,.int .i64 0] 43 (0,0)) ∧ x.1 ≠ x.2 ∧ wd.heap.size ≤ x.1 ∧ wd.heap.size ≤ x.2) ?_ ?_
    rotate_left
    ·intro hCont
     refine three_ (i:=8) (j:=18) (k:=19) (Ni:=some 55) (Nj:=some 15) (Nk:=some 16) (ab 22 131071) (ab 22 392959) (ab 22 655103) rfl rfl rfl rfl rfl rfl (three_of HT_.out kr) (by decide) (by decide) (by decide) (fun K hK => ?_) (fun K hK => ?_) (fun K hK => ?_)
     ·skip
      refine gC Tryz.func157 #[.int .i64 (x.f1.f0 * s.f1),.int .i64 s.f0] ?_
      refine (pit_ratio.calls FU _ _ _ _ _ HA4.out).mono ?_
      rintro e wf1 ⟨rfl,hb⟩
      have hB_wf1 : Below wd.heap.size wd wf1:=below_then (Below.refl wd.heap.size wd) (below_size (Below.refl wd.heap.size wd)) hb
      refine ⟨_,rfl,?_⟩
      refine hK.out _ _ ⟨(blk_cell (blk_below HX5.out hB_wf1) 1).trans rfl,(blk_cell (blk_below HX5.out hB_wf1) 2).trans rfl,(blk_cell (blk_below HE1.out hB_wf1) 0).trans rfl,(blk_cell (blk_below HE1.out hB_wf1) 1).trans rfl⟩ (fun hHeld => ?_)
      clear hK K
      refine qN (some 55) ?_
      refine three_ (i:=17) (j:=18) (k:=19) (Ni:=some 64) (Nj:=some 15) (Nk:=some 16) (ab 22 262143) (ab 22 393215) (ab 22 655359) rfl rfl rfl rfl rfl rfl (three_of HT_.out kr) (by decide) (by decide) (by decide) (fun K hK => ?_) (fun K hK => ?_) (fun K hK => ?_)
      ·skip
       refine gC Tryz.func157 #[.int .i64 (x.f1.f1 * s.f1),.int .i64 s.f0] ?_
       refine (pit_ratio.calls FU _ _ _ _ _ HZ4.out).mono ?_
       rintro e wf2 ⟨rfl,hb⟩
       have hB_wf2 : Below wd.heap.size wd wf2:=below_then (hB_wf1) (below_size (hB_wf1)) hb
       refine ⟨_,rfl,?_⟩
       refine hK.out _ _ ⟨(blk_cell (blk_below HX5.out hB_wf2) 1).trans rfl,(blk_cell (blk_below HX5.out hB_wf2) 2).trans rfl,(blk_cell (blk_below HE1.out hB_wf2) 0).trans rfl,(blk_cell (blk_below HE1.out hB_wf2) 1).trans rfl⟩ (fun hHeld => ?_)
       clear hK K
       refine qN (some 64) ?_
       refine two_ (i:=18) (j:=19) (Ni:=some 15) (Nj:=some 16) (ab 22 524287) (ab 22 786431) rfl rfl rfl rfl (two_of HT_.out kr) (by decide) (by decide) (fun K hK => ?_) (fun K hK => ?_)
       ·skip
        refine value_ (w1:=?_) (v:=?_) (by rfl) rfl ?_ ?_
        rotate_left 2
        ·go_simp
         constructor
         ·rfl
         ·rfl
        refine hK.out _ _ ⟨(blk_cell (blk_below HX5.out (below_alloc (hB_wf2) (.cells #[.int .i64 0,.int .i64 0] 43))) 1).trans rfl,(blk_cell (blk_below HX5.out (below_alloc (hB_wf2) (.cells #[.int .i64 0,.int .i64 0] 43))) 2).trans rfl,(blk_cell (blk_below HE1.out (below_alloc (hB_wf2) (.cells #[.int .i64 0,.int .i64 0] 43))) 0).trans rfl,(blk_cell (blk_below HE1.out (below_alloc (hB_wf2) (.cells #[.int .i64 0,.int .i64 0] 43))) 1).trans rfl⟩ (fun hHeld => ?_)
        clear hK K
        refine qN (some 15) ?_
        refine one_ (i:=19) (N:=some 16) (ab 22 1048575) rfl rfl (one_of HT_.out kr) (by decide) (fun K hK => ?_)
        refine value_ (w1:=?_) (v:=?_) (by rfl) rfl ?_ ?_
        rotate_left 2
        ·go_simp
         constructor
         ·rfl
         ·rfl
        refine hK.out _ _ ⟨(blk_cell (blk_below HX5.out (below_alloc ((below_alloc (hB_wf2) (.cells #[.int .i64 0,.int .i64 0] 43))) (.cells #[.int .i64 0,.int .i64 0] 43))) 1).trans rfl,(blk_cell (blk_below HX5.out (below_alloc ((below_alloc (hB_wf2) (.cells #[.int .i64 0,.int .i64 0] 43))) (.cells #[.int .i64 0,.int .i64 0] 43))) 2).trans rfl,(blk_cell (blk_below HE1.out (below_alloc ((below_alloc (hB_wf2) (.cells #[.int .i64 0,.int .i64 0] 43))) (.cells #[.int .i64 0,.int .i64 0] 43))) 0).trans rfl,(blk_cell (blk_below HE1.out (below_alloc ((below_alloc (hB_wf2) (.cells #[.int .i64 0,.int .i64 0] 43))) (.cells #[.int .i64 0,.int .i64 0] 43))) 1).trans rfl⟩ (fun hHeld => ?_)
        clear hK K
        refine qN (some 16) ?_
        exact norm_ (by first|(simp only [putAll,Act.put,List.setIfInBounds_toArray,List.set_cons_zero,List.set_cons_succ,i64_w,i32_w];done)|(simp only [putAll,Act.put,List.setIfInBounds_toArray,List.set_cons_zero,List.set_cons_succ,i64_w,i32_w];rfl)) (hCont ⟨wf2.heap.size,wf2.heap.size + 1⟩ _ ⟨(below_alloc ((below_alloc (hB_wf2) (.cells #[.int .i64 0,.int .i64 0] 43))) (.cells #[.int .i64 0,.int .i64 0] 43)),(blk_alloc ((blk_new' wf2 (.cells #[.int .i64 0,.int .i64 0] 43) (wf2.heap.size) (by simp))) (.cells #[.int .i64 0,.int .i64 0] 43)),(blk_new' (wf2.alloc (.cells #[.int .i64 0,.int .i64 0] 43)) (.cells #[.int .i64 0,.int .i64 0] 43) (wf2.heap.size + 1) (by simp)),(by have h:=blk_lt ((blk_new' wf2 (.cells #[.int .i64 0,.int .i64 0] 43) (wf2.heap.size) (by simp)));first|omega|(simp at h;omega)),(by have h:=(hB_wf2).size;first|(simp;done)|simpa using h),(by have h:=((below_alloc (hB_wf2) (.cells #[.int .i64 0,.int .i64 0] 43))).size;first|(simp;done)|simpa using h)⟩)
       ·skip
        refine value_ (w1:=?_) (v:=?_) (by rfl) rfl ?_ ?_
        rotate_left 2
        ·go_simp
         constructor
         ·rfl
         ·rfl
        refine hK.out _ _ ⟨(blk_cell (blk_below HX5.out (below_alloc (hB_wf2) (.cells #[.int .i64 0,.int .i64 0] 43))) 1).trans rfl,(blk_cell (blk_below HX5.out (below_alloc (hB_wf2) (.cells #[.int .i64 0,.int .i64 0] 43))) 2).trans rfl,(blk_cell (blk_below HE1.out (below_alloc (hB_wf2) (.cells #[.int .i64 0,.int .i64 0] 43))) 0).trans rfl,(blk_cell (blk_below HE1.out (below_alloc (hB_wf2) (.cells #[.int .i64 0,.int .i64 0] 43))) 1).trans rfl⟩ (fun hHeld => ?_)
        clear hK K
        refine qN (some 16) ?_
        refine one_ (i:=18) (N:=some 15) (ab 22 1048575) rfl rfl (one_of HT_.out kr) (by decide) (fun K hK => ?_)
        refine value_ (w1:=?_) (v:=?_) (by rfl) rfl ?_ ?_
        rotate_left 2
        ·go_simp
         constructor
         ·rfl
         ·rfl
        refine hK.out _ _ ⟨(blk_cell (blk_below HX5.out (below_alloc ((below_alloc (hB_wf2) (.cells #[.int .i64 0,.int .i64 0] 43))) (.cells #[.int .i64 0,.int .i64 0] 43))) 1).trans rfl,(blk_cell (blk_below HX5.out (below_alloc ((below_alloc (hB_wf2) (.cells #[.int .i64 0,.int .i64 0] 43))) (.cells #[.int .i64 0,.int .i64 0] 43))) 2).trans rfl,(blk_cell (blk_below HE1.out (below_alloc ((below_alloc (hB_wf2) (.cells #[.int .i64 0,.int .i64 0] 43))) (.cells #[.int .i64 0,.int .i64 0] 43))) 0).trans rfl,(blk_cell (blk_below HE1.out (below_alloc ((below_alloc (hB_wf2) (.cells #[.int .i64 0,.int .i64 0] 43))) (.cells #[.int .i64 0,.int .i64 0] 43))) 1).trans rfl⟩ (fun hHeld => ?_)
        clear hK K
        refine qN (some 15) ?_
        exact norm_ (by first|(simp only [putAll,Act.put,List.setIfInBounds_toArray,List.set_cons_zero,List.set_cons_succ,i64_w,i32_w];done)|(simp only [putAll,Act.put,List.setIfInBounds_toArray,List.set_cons_zero,List.set_cons_succ,i64_w,i32_w];rfl)) (hCont ⟨wf2.heap.size + 1,wf2.heap.size⟩ _ ⟨(below_alloc ((below_alloc (hB_wf2) (.cells #[.int .i64 0,.int .i64 0] 43))) (.cells #[.int .i64 0,.int .i64 0] 43)),(blk_new' (wf2.alloc (.cells #[.int .i64 0,.int .i64 0] 43)) (.cells #[.int .i64 0,.int .i64 0] 43) (wf2.heap.size + 1) (by simp)),(blk_alloc ((blk_new' wf2 (.cells #[.int .i64 0,.int .i64 0] 43) (wf2.heap.size) (by simp))) (.cells #[.int .i64 0,.int .i64 0] 43)),(by have h:=blk_lt ((blk_new' wf2 (.cells #[.int .i64 0,.int .i64 0] 43) (wf2.heap.size) (by simp)));first|omega|(simp at h;omega)),(by have h:=((below_alloc (hB_wf2) (.cells #[.int .i64 0,.int .i64 0] 43))).size;first|(simp;done)|simpa using h),(by have h:=(hB_wf2).size;first|(simp;done)|simpa using h)⟩)
      ·skip
       refine value_ (w1:=?_) (v:=?_) (by rfl) rfl ?_ ?_
       rotate_left 2
       ·go_simp
        constructor
        ·rfl
        ·rfl
       refine hK.out _ _ ⟨(blk_cell (blk_below HX5.out (below_alloc (hB_wf1) (.cells #[.int .i64 0,.int .i64 0] 43))) 1).trans rfl,(blk_cell (blk_below HX5.out (below_alloc (hB_wf1) (.cells #[.int .i64 0,.int .i64 0] 43))) 2).trans rfl,(blk_cell (blk_below HE1.out (below_alloc (hB_wf1) (.cells #[.int .i64 0,.int .i64 0] 43))) 0).trans rfl,(blk_cell (blk_below HE1.out (below_alloc (hB_wf1) (.cells #[.int .i64 0,.int .i64 0] 43))) 1).trans rfl⟩ (fun hHeld => ?_)
       clear hK K
       refine qN (some 15) ?_
       refine two_ (i:=17) (j:=19) (Ni:=some 64) (Nj:=some 16) (ab 22 524287) (ab 22 917503) rfl rfl rfl rfl (two_of HT_.out kr) (by decide) (by decide) (fun K hK => ?_) (fun K hK => ?_)
       ·skip
        refine gC Tryz.func157 #[.int .i64 (x.f1.f1 * s.f1),.int .i64 s.f0] ?_
        refine (pit_ratio.calls FU _ _ _ _ _ HZ4.out).mono ?_
        rintro e wf3 ⟨rfl,hb⟩
        have hB_wf3 : Below wd.heap.size wd wf3:=below_then ((below_alloc (hB_wf1) (.cells #[.int .i64 0,.int .i64 0] 43))) (below_size ((below_alloc (hB_wf1) (.cells #[.int .i64 0,.int .i64 0] 43)))) hb
        have hb15_wf3:=blk_below ((blk_new' wf1 (.cells #[.int .i64 0,.int .i64 0] 43) (wf1.heap.size) (by simp))) hb
        refine ⟨_,rfl,?_⟩
        refine hK.out _ _ ⟨(blk_cell (blk_below HX5.out hB_wf3) 1).trans rfl,(blk_cell (blk_below HX5.out hB_wf3) 2).trans rfl,(blk_cell (blk_below HE1.out hB_wf3) 0).trans rfl,(blk_cell (blk_below HE1.out hB_wf3) 1).trans rfl⟩ (fun hHeld => ?_)
        clear hK K
        refine qN (some 64) ?_
        refine one_ (i:=19) (N:=some 16) (ab 22 1048575) rfl rfl (one_of HT_.out kr) (by decide) (fun K hK => ?_)
        refine value_ (w1:=?_) (v:=?_) (by rfl) rfl ?_ ?_
        rotate_left 2
        ·go_simp
         constructor
         ·rfl
         ·rfl
        refine hK.out _ _ ⟨(blk_cell (blk_below HX5.out (below_alloc (hB_wf3) (.cells #[.int .i64 0,.int .i64 0] 43))) 1).trans rfl,(blk_cell (blk_below HX5.out (below_alloc (hB_wf3) (.cells #[.int .i64 0,.int .i64 0] 43))) 2).trans rfl,(blk_cell (blk_below HE1.out (below_alloc (hB_wf3) (.cells #[.int .i64 0,.int .i64 0] 43))) 0).trans rfl,(blk_cell (blk_below HE1.out (below_alloc (hB_wf3) (.cells #[.int .i64 0,.int .i64 0] 43))) 1).trans rfl⟩ (fun hHeld => ?_)
        clear hK K
        refine qN (some 16) ?_
        exact norm_ (by first|(simp only [putAll,Act.put,List.setIfInBounds_toArray,List.set_cons_zero,List.set_cons_succ,i64_w,i32_w];done)|(simp only [putAll,Act.put,List.setIfInBounds_toArray,List.set_cons_zero,List.set_cons_succ,i64_w,i32_w];rfl)) (hCont ⟨wf1.heap.size,wf3.heap.size⟩ _ ⟨(below_alloc (hB_wf3) (.cells #[.int .i64 0,.int .i64 0] 43)),(blk_alloc (hb15_wf3) (.cells #[.int .i64 0,.int .i64 0] 43)),(blk_new' wf3 (.cells #[.int .i64 0,.int .i64 0] 43) (wf3.heap.size) (by simp)),(by have h:=blk_lt (hb15_wf3);first|omega|(simp at h;omega)),(by have h:=(hB_wf1).size;first|(simp;done)|simpa using h),(by have h:=(hB_wf3).size;first|(simp;done)|simpa using h)⟩)
       ·skip
        refine value_ (w1:=?_) (v:=?_) (by rfl) rfl ?_ ?_
        rotate_left 2
        ·go_simp
         constructor
         ·rfl
         ·rfl
        refine hK.out _ _ ⟨(blk_cell (blk_below HX5.out (below_alloc ((below_alloc (hB_wf1) (.cells #[.int .i64 0,.int .i64 0] 43))) (.cells #[.int .i64 0,.int .i64 0] 43))) 1).trans rfl,(blk_cell (blk_below HX5.out (below_alloc ((below_alloc (hB_wf1) (.cells #[.int .i64 0,.int .i64 0] 43))) (.cells #[.int .i64 0,.int .i64 0] 43))) 2).trans rfl,(blk_cell (blk_below HE1.out (below_alloc ((below_alloc (hB_wf1) (.cells #[.int .i64 0,.int .i64 0] 43))) (.cells #[.int .i64 0,.int .i64 0] 43))) 0).trans rfl,(blk_cell (blk_below HE1.out (below_alloc ((below_alloc (hB_wf1) (.cells #[.int .i64 0,.int .i64 0] 43))) (.cells #[.int .i64 0,.int .i64 0] 43))) 1).trans rfl⟩ (fun hHeld => ?_)
        clear hK K
        refine qN (some 16) ?_
        refine one_ (i:=17) (N:=some 64) (ab 22 1048575) rfl rfl (one_of HT_.out kr) (by decide) (fun K hK => ?_)
        refine gC Tryz.func157 #[.int .i64 (x.f1.f1 * s.f1),.int .i64 s.f0] ?_
        refine (pit_ratio.calls FU _ _ _ _ _ HZ4.out).mono ?_
        rintro e wf4 ⟨rfl,hb⟩
        have hB_wf4 : Below wd.heap.size wd wf4:=below_then ((below_alloc ((below_alloc (hB_wf1) (.cells #[.int .i64 0,.int .i64 0] 43))) (.cells #[.int .i64 0,.int .i64 0] 43))) (below_size ((below_alloc ((below_alloc (hB_wf1) (.cells #[.int .i64 0,.int .i64 0] 43))) (.cells #[.int .i64 0,.int .i64 0] 43)))) hb
        have hb15_wf4:=blk_below ((blk_alloc ((blk_new' wf1 (.cells #[.int .i64 0,.int .i64 0] 43) (wf1.heap.size) (by simp))) (.cells #[.int .i64 0,.int .i64 0] 43))) hb
        have hb16_wf4:=blk_below ((blk_new' (wf1.alloc (.cells #[.int .i64 0,.int .i64 0] 43)) (.cells #[.int .i64 0,.int .i64 0] 43) (wf1.heap.size + 1) (by simp))) hb
        refine ⟨_,rfl,?_⟩
        refine hK.out _ _ ⟨(blk_cell (blk_below HX5.out hB_wf4) 1).trans rfl,(blk_cell (blk_below HX5.out hB_wf4) 2).trans rfl,(blk_cell (blk_below HE1.out hB_wf4) 0).trans rfl,(blk_cell (blk_below HE1.out hB_wf4) 1).trans rfl⟩ (fun hHeld => ?_)
        clear hK K
        refine qN (some 64) ?_
        exact norm_ (by first|(simp only [putAll,Act.put,List.setIfInBounds_toArray,List.set_cons_zero,List.set_cons_succ,i64_w,i32_w];done)|(simp only [putAll,Act.put,List.setIfInBounds_toArray,List.set_cons_zero,List.set_cons_succ,i64_w,i32_w];rfl)) (hCont ⟨wf1.heap.size,wf1.heap.size + 1⟩ _ ⟨hB_wf4,hb15_wf4,hb16_wf4,(by have h:=blk_lt ((blk_new' wf1 (.cells #[.int .i64 0,.int .i64 0] 43) (wf1.heap.size) (by simp)));first|omega|(simp at h;omega)),(by have h:=(hB_wf1).size;first|(simp;done)|simpa using h),(by have h:=((below_alloc (hB_wf1) (.cells #[.int .i64 0,.int .i64 0] 43))).size;first|(simp;done)|simpa using h)⟩)
      ·skip
       refine value_ (w1:=?_) (v:=?_) (by rfl) rfl ?_ ?_
       rotate_left 2
       ·go_simp
        constructor
        ·rfl
        ·rfl
       refine hK.out _ _ ⟨(blk_cell (blk_below HX5.out (below_alloc (hB_wf1) (.cells #[.int .i64 0,.int .i64 0] 43))) 1).trans rfl,(blk_cell (blk_below HX5.out (below_alloc (hB_wf1) (.cells #[.int .i64 0,.int .i64 0] 43))) 2).trans rfl,(blk_cell (blk_below HE1.out (below_alloc (hB_wf1) (.cells #[.int .i64 0,.int .i64 0] 43))) 0).trans rfl,(blk_cell (blk_below HE1.out (below_alloc (hB_wf1) (.cells #[.int .i64 0,.int .i64 0] 43))) 1).trans rfl⟩ (fun hHeld => ?_)
       clear hK K
       refine qN (some 16) ?_
       refine two_ (i:=17) (j:=18) (Ni:=some 64) (Nj:=some 15) (ab 22 786431) (ab 22 917503) rfl rfl rfl rfl (two_of HT_.out kr) (by decide) (by decide) (fun K hK => ?_) (fun K hK => ?_)
       ·skip
        refine gC Tryz.func157 #[.int .i64 (x.f1.f1 * s.f1),.int .i64 s.f0] ?_
        refine (pit_ratio.calls FU _ _ _ _ _ HZ4.out).mono ?_
        rintro e wf5 ⟨rfl,hb⟩
        have hB_wf5 : Below wd.heap.size wd wf5:=below_then ((below_alloc (hB_wf1) (.cells #[.int .i64 0,.int .i64 0] 43))) (below_size ((below_alloc (hB_wf1) (.cells #[.int .i64 0,.int .i64 0] 43)))) hb
        have hb16_wf5:=blk_below ((blk_new' wf1 (.cells #[.int .i64 0,.int .i64 0] 43) (wf1.heap.size) (by simp))) hb
        refine ⟨_,rfl,?_⟩
        refine hK.out _ _ ⟨(blk_cell (blk_below HX5.out hB_wf5) 1).trans rfl,(blk_cell (blk_below HX5.out hB_wf5) 2).trans rfl,(blk_cell (blk_below HE1.out hB_wf5) 0).trans rfl,(blk_cell (blk_below HE1.out hB_wf5) 1).trans rfl⟩ (fun hHeld => ?_)
        clear hK K
        refine qN (some 64) ?_
        refine one_ (i:=18) (N:=some 15) (ab 22 1048575) rfl rfl (one_of HT_.out kr) (by decide) (fun K hK => ?_)
        refine value_ (w1:=?_) (v:=?_) (by rfl) rfl ?_ ?_
        rotate_left 2
        ·go_simp
         constructor
         ·rfl
         ·rfl
        refine hK.out _ _ ⟨(blk_cell (blk_below HX5.out (below_alloc (hB_wf5) (.cells #[.int .i64 0,.int .i64 0] 43))) 1).trans rfl,(blk_cell (blk_below HX5.out (below_alloc (hB_wf5) (.cells #[.int .i64 0,.int .i64 0] 43))) 2).trans rfl,(blk_cell (blk_below HE1.out (below_alloc (hB_wf5) (.cells #[.int .i64 0,.int .i64 0] 43))) 0).trans rfl,(blk_cell (blk_below HE1.out (below_alloc (hB_wf5) (.cells #[.int .i64 0,.int .i64 0] 43))) 1).trans rfl⟩ (fun hHeld => ?_)
        clear hK K
        refine qN (some 15) ?_
        exact norm_ (by first|(simp only [putAll,Act.put,List.setIfInBounds_toArray,List.set_cons_zero,List.set_cons_succ,i64_w,i32_w];done)|(simp only [putAll,Act.put,List.setIfInBounds_toArray,List.set_cons_zero,List.set_cons_succ,i64_w,i32_w];rfl)) (hCont ⟨wf5.heap.size,wf1.heap.size⟩ _ ⟨(below_alloc (hB_wf5) (.cells #[.int .i64 0,.int .i64 0] 43)),(blk_new' wf5 (.cells #[.int .i64 0,.int .i64 0] 43) (wf5.heap.size) (by simp)),(blk_alloc (hb16_wf5) (.cells #[.int .i64 0,.int .i64 0] 43)),(by have h:=blk_lt (hb16_wf5);first|omega|(simp at h;omega)),(by have h:=(hB_wf5).size;first|(simp;done)|simpa using h),(by have h:=(hB_wf1).size;first|(simp;done)|simpa using h)⟩)
       ·skip
        refine value_ (w1:=?_) (v:=?_) (by rfl) rfl ?_ ?_
        rotate_left 2
        ·go_simp
         constructor
         ·rfl
         ·rfl
        refine hK.out _ _ ⟨(blk_cell (blk_below HX5.out (below_alloc ((below_alloc (hB_wf1) (.cells #[.int .i64 0,.int .i64 0] 43))) (.cells #[.int .i64 0,.int .i64 0] 43))) 1).trans rfl,(blk_cell (blk_below HX5.out (below_alloc ((below_alloc (hB_wf1) (.cells #[.int .i64 0,.int .i64 0] 43))) (.cells #[.int .i64 0,.int .i64 0] 43))) 2).trans rfl,(blk_cell (blk_below HE1.out (below_alloc ((below_alloc (hB_wf1) (.cells #[.int .i64 0,.int .i64 0] 43))) (.cells #[.int .i64 0,.int .i64 0] 43))) 0).trans rfl,(blk_cell (blk_below HE1.out (below_alloc ((below_alloc (hB_wf1) (.cells #[.int .i64 0,.int .i64 0] 43))) (.cells #[.int .i64 0,.int .i64 0] 43))) 1).trans rfl⟩ (fun hHeld => ?_)
        clear hK K
        refine qN (some 15) ?_
        refine one_ (i:=17) (N:=some 64) (ab 22 1048575) rfl rfl (one_of HT_.out kr) (by decide) (fun K hK => ?_)
        refine gC Tryz.func157 #[.int .i64 (x.f1.f1 * s.f1),.int .i64 s.f0] ?_
        refine (pit_ratio.calls FU _ _ _ _ _ HZ4.out).mono ?_
        rintro e wf6 ⟨rfl,hb⟩
        have hB_wf6 : Below wd.heap.size wd wf6:=below_then ((below_alloc ((below_alloc (hB_wf1) (.cells #[.int .i64 0,.int .i64 0] 43))) (.cells #[.int .i64 0,.int .i64 0] 43))) (below_size ((below_alloc ((below_alloc (hB_wf1) (.cells #[.int .i64 0,.int .i64 0] 43))) (.cells #[.int .i64 0,.int .i64 0] 43)))) hb
        have hb15_wf6:=blk_below ((blk_new' (wf1.alloc (.cells #[.int .i64 0,.int .i64 0] 43)) (.cells #[.int .i64 0,.int .i64 0] 43) (wf1.heap.size + 1) (by simp))) hb
        have hb16_wf6:=blk_below ((blk_alloc ((blk_new' wf1 (.cells #[.int .i64 0,.int .i64 0] 43) (wf1.heap.size) (by simp))) (.cells #[.int .i64 0,.int .i64 0] 43))) hb
        refine ⟨_,rfl,?_⟩
        refine hK.out _ _ ⟨(blk_cell (blk_below HX5.out hB_wf6) 1).trans rfl,(blk_cell (blk_below HX5.out hB_wf6) 2).trans rfl,(blk_cell (blk_below HE1.out hB_wf6) 0).trans rfl,(blk_cell (blk_below HE1.out hB_wf6) 1).trans rfl⟩ (fun hHeld => ?_)
        clear hK K
        refine qN (some 64) ?_
        exact norm_ (by first|(simp only [putAll,Act.put,List.setIfInBounds_toArray,List.set_cons_zero,List.set_cons_succ,i64_w,i32_w];done)|(simp only [putAll,Act.put,List.setIfInBounds_toArray,List.set_cons_zero,List.set_cons_succ,i64_w,i32_w];rfl)) (hCont ⟨wf1.heap.size + 1,wf1.heap.size⟩ _ ⟨hB_wf6,hb15_wf6,hb16_wf6,(by have h:=blk_lt ((blk_new' wf1 (.cells #[.int .i64 0,.int .i64 0] 43) (wf1.heap.size) (by simp)));first|omega|(simp at h;omega)),(by have h:=((below_alloc (hB_wf1) (.cells #[.int .i64 0,.int .i64 0] 43))).size;first|(simp;done)|simpa using h),(by have h:=(hB_wf1).size;first|(simp;done)|simpa using h)⟩)
     ·skip
      refine value_ (w1:=?_) (v:=?_) (by rfl) rfl ?_ ?_
      rotate_left 2
      ·go_simp
       constructor
       ·rfl
       ·rfl
      refine hK.out _ _ ⟨(blk_cell (blk_below HX5.out (below_alloc (Below.refl wd.heap.size wd) (.cells #[.int .i64 0,.int .i64 0] 43))) 1).trans rfl,(blk_cell (blk_below HX5.out (below_alloc (Below.refl wd.heap.size wd) (.cells #[.int .i64 0,.int .i64 0] 43))) 2).trans rfl,(blk_cell (blk_below HE1.out (below_alloc (Below.refl wd.heap.size wd) (.cells #[.int .i64 0,.int .i64 0] 43))) 0).trans rfl,(blk_cell (blk_below HE1.out (below_alloc (Below.refl wd.heap.size wd) (.cells #[.int .i64 0,.int .i64 0] 43))) 1).trans rfl⟩ (fun hHeld => ?_)
      clear hK K
      refine qN (some 15) ?_
      refine two_ (i:=8) (j:=19) (Ni:=some 55) (Nj:=some 16) (ab 22 393215) (ab 22 917247) rfl rfl rfl rfl (two_of HT_.out kr) (by decide) (by decide) (fun K hK => ?_) (fun K hK => ?_)
      ·skip
       refine gC Tryz.func157 #[.int .i64 (x.f1.f0 * s.f1),.int .i64 s.f0] ?_
       refine (pit_ratio.calls FU _ _ _ _ _ HA4.out).mono ?_
       rintro e wf7 ⟨rfl,hb⟩
       have hB_wf7 : Below wd.heap.size wd wf7:=below_then ((below_alloc (Below.refl wd.heap.size wd) (.cells #[.int .i64 0,.int .i64 0] 43))) (below_size ((below_alloc (Below.refl wd.heap.size wd) (.cells #[.int .i64 0,.int .i64 0] 43)))) hb
       have hb15_wf7:=blk_below ((blk_new' wd (.cells #[.int .i64 0,.int .i64 0] 43) (wd.heap.size) (by simp))) hb
       refine ⟨_,rfl,?_⟩
       refine hK.out _ _ ⟨(blk_cell (blk_below HX5.out hB_wf7) 1).trans rfl,(blk_cell (blk_below HX5.out hB_wf7) 2).trans rfl,(blk_cell (blk_below HE1.out hB_wf7) 0).trans rfl,(blk_cell (blk_below HE1.out hB_wf7) 1).trans rfl⟩ (fun hHeld => ?_)
       clear hK K
       refine qN (some 55) ?_
       refine two_ (i:=17) (j:=19) (Ni:=some 64) (Nj:=some 16) (ab 22 524287) (ab 22 917503) rfl rfl rfl rfl (two_of HT_.out kr) (by decide) (by decide) (fun K hK => ?_) (fun K hK => ?_)
       ·skip
        refine gC Tryz.func157 #[.int .i64 (x.f1.f1 * s.f1),.int .i64 s.f0] ?_
        refine (pit_ratio.calls FU _ _ _ _ _ HZ4.out).mono ?_
        rintro e wf8 ⟨rfl,hb⟩
        have hB_wf8 : Below wd.heap.size wd wf8:=below_then (hB_wf7) (below_size (hB_wf7)) hb
        have hb15_wf8:=blk_below (hb15_wf7) hb
        refine ⟨_,rfl,?_⟩
        refine hK.out _ _ ⟨(blk_cell (blk_below HX5.out hB_wf8) 1).trans rfl,(blk_cell (blk_below HX5.out hB_wf8) 2).trans rfl,(blk_cell (blk_below HE1.out hB_wf8) 0).trans rfl,(blk_cell (blk_below HE1.out hB_wf8) 1).trans rfl⟩ (fun hHeld => ?_)
        clear hK K
        refine qN (some 64) ?_
        refine one_ (i:=19) (N:=some 16) (ab 22 1048575) rfl rfl (one_of HT_.out kr) (by decide) (fun K hK => ?_)
        refine value_ (w1:=?_) (v:=?_) (by rfl) rfl ?_ ?_
        rotate_left 2
        ·go_simp
         constructor
         ·rfl
         ·rfl
        refine hK.out _ _ ⟨(blk_cell (blk_below HX5.out (below_alloc (hB_wf8) (.cells #[.int .i64 0,.int .i64 0] 43))) 1).trans rfl,(blk_cell (blk_below HX5.out (below_alloc (hB_wf8) (.cells #[.int .i64 0,.int .i64 0] 43))) 2).trans rfl,(blk_cell (blk_below HE1.out (below_alloc (hB_wf8) (.cells #[.int .i64 0,.int .i64 0] 43))) 0).trans rfl,(blk_cell (blk_below HE1.out (below_alloc (hB_wf8) (.cells #[.int .i64 0,.int .i64 0] 43))) 1).trans rfl⟩ (fun hHeld => ?_)
        clear hK K
        refine qN (some 16) ?_
        exact norm_ (by first|(simp only [putAll,Act.put,List.setIfInBounds_toArray,List.set_cons_zero,List.set_cons_succ,i64_w,i32_w];done)|(simp only [putAll,Act.put,List.setIfInBounds_toArray,List.set_cons_zero,List.set_cons_succ,i64_w,i32_w];rfl)) (hCont ⟨wd.heap.size,wf8.heap.size⟩ _ ⟨(below_alloc (hB_wf8) (.cells #[.int .i64 0,.int .i64 0] 43)),(blk_alloc (hb15_wf8) (.cells #[.int .i64 0,.int .i64 0] 43)),(blk_new' wf8 (.cells #[.int .i64 0,.int .i64 0] 43) (wf8.heap.size) (by simp)),(by have h:=blk_lt (hb15_wf8);first|omega|(simp at h;omega)),(by have h:=(Below.refl wd.heap.size wd).size;first|(simp;done)|simpa using h),(by have h:=(hB_wf8).size;first|(simp;done)|simpa using h)⟩)
       ·skip
        refine value_ (w1:=?_) (v:=?_) (by rfl) rfl ?_ ?_
        rotate_left 2
        ·go_simp
         constructor
         ·rfl
         ·rfl
        refine hK.out _ _ ⟨(blk_cell (blk_below HX5.out (below_alloc (hB_wf7) (.cells #[.int .i64 0,.int .i64 0] 43))) 1).trans rfl,(blk_cell (blk_below HX5.out (below_alloc (hB_wf7) (.cells #[.int .i64 0,.int .i64 0] 43))) 2).trans rfl,(blk_cell (blk_below HE1.out (below_alloc (hB_wf7) (.cells #[.int .i64 0,.int .i64 0] 43))) 0).trans rfl,(blk_cell (blk_below HE1.out (below_alloc (hB_wf7) (.cells #[.int .i64 0,.int .i64 0] 43))) 1).trans rfl⟩ (fun hHeld => ?_)
        clear hK K
        refine qN (some 16) ?_
        refine one_ (i:=17) (N:=some 64) (ab 22 1048575) rfl rfl (one_of HT_.out kr) (by decide) (fun K hK => ?_)
        refine gC Tryz.func157 #[.int .i64 (x.f1.f1 * s.f1),.int .i64 s.f0] ?_
        refine (pit_ratio.calls FU _ _ _ _ _ HZ4.out).mono ?_
        rintro e wf9 ⟨rfl,hb⟩
        have hB_wf9 : Below wd.heap.size wd wf9:=below_then ((below_alloc (hB_wf7) (.cells #[.int .i64 0,.int .i64 0] 43))) (below_size ((below_alloc (hB_wf7) (.cells #[.int .i64 0,.int .i64 0] 43)))) hb
        have hb15_wf9:=blk_below ((blk_alloc (hb15_wf7) (.cells #[.int .i64 0,.int .i64 0] 43))) hb
        have hb16_wf9:=blk_below ((blk_new' wf7 (.cells #[.int .i64 0,.int .i64 0] 43) (wf7.heap.size) (by simp))) hb
        refine ⟨_,rfl,?_⟩
        refine hK.out _ _ ⟨(blk_cell (blk_below HX5.out hB_wf9) 1).trans rfl,(blk_cell (blk_below HX5.out hB_wf9) 2).trans rfl,(blk_cell (blk_below HE1.out hB_wf9) 0).trans rfl,(blk_cell (blk_below HE1.out hB_wf9) 1).trans rfl⟩ (fun hHeld => ?_)
        clear hK K
        refine qN (some 64) ?_
        exact norm_ (by first|(simp only [putAll,Act.put,List.setIfInBounds_toArray,List.set_cons_zero,List.set_cons_succ,i64_w,i32_w];done)|(simp only [putAll,Act.put,List.setIfInBounds_toArray,List.set_cons_zero,List.set_cons_succ,i64_w,i32_w];rfl)) (hCont ⟨wd.heap.size,wf7.heap.size⟩ _ ⟨hB_wf9,hb15_wf9,hb16_wf9,(by have h:=blk_lt (hb15_wf7);first|omega|(simp at h;omega)),(by have h:=(Below.refl wd.heap.size wd).size;first|(simp;done)|simpa using h),(by have h:=(hB_wf7).size;first|(simp;done)|simpa using h)⟩)
      ·skip
       refine value_ (w1:=?_) (v:=?_) (by rfl) rfl ?_ ?_
       rotate_left 2
       ·go_simp
        constructor
        ·rfl
        ·rfl
       refine hK.out _ _ ⟨(blk_cell (blk_below HX5.out (below_alloc ((below_alloc (Below.refl wd.heap.size wd) (.cells #[.int .i64 0,.int .i64 0] 43))) (.cells #[.int .i64 0,.int .i64 0] 43))) 1).trans rfl,(blk_cell (blk_below HX5.out (below_alloc ((below_alloc (Below.refl wd.heap.size wd) (.cells #[.int .i64 0,.int .i64 0] 43))) (.cells #[.int .i64 0,.int .i64 0] 43))) 2).trans rfl,(blk_cell (blk_below HE1.out (below_alloc ((below_alloc (Below.refl wd.heap.size wd) (.cells #[.int .i64 0,.int .i64 0] 43))) (.cells #[.int .i64 0,.int .i64 0] 43))) 0).trans rfl,(blk_cell (blk_below HE1.out (below_alloc ((below_alloc (Below.refl wd.heap.size wd) (.cells #[.int .i64 0,.int .i64 0] 43))) (.cells #[.int .i64 0,.int .i64 0] 43))) 1).trans rfl⟩ (fun hHeld => ?_)
       clear hK K
       refine qN (some 16) ?_
       refine one_ (i:=8) (N:=some 55) (ab 22 917503) rfl rfl (one_of HT_.out kr) (by decide) (fun K hK => ?_)
       refine gC Tryz.func157 #[.int .i64 (x.f1.f0 * s.f1),.int .i64 s.f0] ?_
       refine (pit_ratio.calls FU _ _ _ _ _ HA4.out).mono ?_
       rintro e wf10 ⟨rfl,hb⟩
       have hB_wf10 : Below wd.heap.size wd wf10:=below_then ((below_alloc ((below_alloc (Below.refl wd.heap.size wd) (.cells #[.int .i64 0,.int .i64 0] 43))) (.cells #[.int .i64 0,.int .i64 0] 43))) (below_size ((below_alloc ((below_alloc (Below.refl wd.heap.size wd) (.cells #[.int .i64 0,.int .i64 0] 43))) (.cells #[.int .i64 0,.int .i64 0] 43)))) hb
       have hb15_wf10:=blk_below ((blk_alloc ((blk_new' wd (.cells #[.int .i64 0,.int .i64 0] 43) (wd.heap.size) (by simp))) (.cells #[.int .i64 0,.int .i64 0] 43))) hb
       have hb16_wf10:=blk_below ((blk_new' (wd.alloc (.cells #[.int .i64 0,.int .i64 0] 43)) (.cells #[.int .i64 0,.int .i64 0] 43) (wd.heap.size + 1) (by simp))) hb
       refine ⟨_,rfl,?_⟩
       refine hK.out _ _ ⟨(blk_cell (blk_below HX5.out hB_wf10) 1).trans rfl,(blk_cell (blk_below HX5.out hB_wf10) 2).trans rfl,(blk_cell (blk_below HE1.out hB_wf10) 0).trans rfl,(blk_cell (blk_below HE1.out hB_wf10) 1).trans rfl⟩ (fun hHeld => ?_)
       clear hK K
       refine qN (some 55) ?_
       refine one_ (i:=17) (N:=some 64) (ab 22 1048575) rfl rfl (one_of HT_.out kr) (by decide) (fun K hK => ?_)
       refine gC Tryz.func157 #[.int .i64 (x.f1.f1 * s.f1),.int .i64 s.f0] ?_
       refine (pit_ratio.calls FU _ _ _ _ _ HZ4.out).mono ?_
       rintro e wf11 ⟨rfl,hb⟩
       have hB_wf11 : Below wd.heap.size wd wf11:=below_then (hB_wf10) (below_size (hB_wf10)) hb
       have hb15_wf11:=blk_below (hb15_wf10) hb
       have hb16_wf11:=blk_below (hb16_wf10) hb
       refine ⟨_,rfl,?_⟩
       refine hK.out _ _ ⟨(blk_cell (blk_below HX5.out hB_wf11) 1).trans rfl,(blk_cell (blk_below HX5.out hB_wf11) 2).trans rfl,(blk_cell (blk_below HE1.out hB_wf11) 0).trans rfl,(blk_cell (blk_below HE1.out hB_wf11) 1).trans rfl⟩ (fun hHeld => ?_)
       clear hK K
       refine qN (some 64) ?_
       exact norm_ (by first|(simp only [putAll,Act.put,List.setIfInBounds_toArray,List.set_cons_zero,List.set_cons_succ,i64_w,i32_w];done)|(simp only [putAll,Act.put,List.setIfInBounds_toArray,List.set_cons_zero,List.set_cons_succ,i64_w,i32_w];rfl)) (hCont ⟨wd.heap.size,wd.heap.size + 1⟩ _ ⟨hB_wf11,hb15_wf11,hb16_wf11,(by have h:=blk_lt ((blk_new' wd (.cells #[.int .i64 0,.int .i64 0] 43) (wd.heap.size) (by simp)));first|omega|(simp at h;omega)),(by have h:=(Below.refl wd.heap.size wd).size;first|(simp;done)|simpa using h),(by have h:=((below_alloc (Below.refl wd.heap.size wd) (.cells #[.int .i64 0,.int .i64 0] 43))).size;first|(simp;done)|simpa using h)⟩)
     ·skip
      refine value_ (w1:=?_) (v:=?_) (by rfl) rfl ?_ ?_
      rotate_left 2
      ·go_simp
       constructor
       ·rfl
       ·rfl
      refine hK.out _ _ ⟨(blk_cell (blk_below HX5.out (below_alloc (Below.refl wd.heap.size wd) (.cells #[.int .i64 0,.int .i64 0] 43))) 1).trans rfl,(blk_cell (blk_below HX5.out (below_alloc (Below.refl wd.heap.size wd) (.cells #[.int .i64 0,.int .i64 0] 43))) 2).trans rfl,(blk_cell (blk_below HE1.out (below_alloc (Below.refl wd.heap.size wd) (.cells #[.int .i64 0,.int .i64 0] 43))) 0).trans rfl,(blk_cell (blk_below HE1.out (below_alloc (Below.refl wd.heap.size wd) (.cells #[.int .i64 0,.int .i64 0] 43))) 1).trans rfl⟩ (fun hHeld => ?_)
      clear hK K
      refine qN (some 16) ?_
      refine two_ (i:=8) (j:=18) (Ni:=some 55) (Nj:=some 15) (ab 22 655359) (ab 22 917247) rfl rfl rfl rfl (two_of HT_.out kr) (by decide) (by decide) (fun K hK => ?_) (fun K hK => ?_)
      ·skip
       refine gC Tryz.func157 #[.int .i64 (x.f1.f0 * s.f1),.int .i64 s.f0] ?_
       refine (pit_ratio.calls FU _ _ _ _ _ HA4.out).mono ?_
       rintro e wf12 ⟨rfl,hb⟩
       have hB_wf12 : Below wd.heap.size wd wf12:=below_then ((below_alloc (Below.refl wd.heap.size wd) (.cells #[.int .i64 0,.int .i64 0] 43))) (below_size ((below_alloc (Below.refl wd.heap.size wd) (.cells #[.int .i64 0,.int .i64 0] 43)))) hb
       have hb16_wf12:=blk_below ((blk_new' wd (.cells #[.int .i64 0,.int .i64 0] 43) (wd.heap.size) (by simp))) hb
       refine ⟨_,rfl,?_⟩
       refine hK.out _ _ ⟨(blk_cell (blk_below HX5.out hB_wf12) 1).trans rfl,(blk_cell (blk_below HX5.out hB_wf12) 2).trans rfl,(blk_cell (blk_below HE1.out hB_wf12) 0).trans rfl,(blk_cell (blk_below HE1.out hB_wf12) 1).trans rfl⟩ (fun hHeld => ?_)
       clear hK K
       refine qN (some 55) ?_
       refine two_ (i:=17) (j:=18) (Ni:=some 64) (Nj:=some 15) (ab 22 786431) (ab 22 917503) rfl rfl rfl rfl (two_of HT_.out kr) (by decide) (by decide) (fun K hK => ?_) (fun K hK => ?_)
       ·skip
        refine gC Tryz.func157 #[.int .i64 (x.f1.f1 * s.f1),.int .i64 s.f0] ?_
        refine (pit_ratio.calls FU _ _ _ _ _ HZ4.out).mono ?_
        rintro e wf13 ⟨rfl,hb⟩
        have hB_wf13 : Below wd.heap.size wd wf13:=below_then (hB_wf12) (below_size (hB_wf12)) hb
        have hb16_wf13:=blk_below (hb16_wf12) hb
        refine ⟨_,rfl,?_⟩
        refine hK.out _ _ ⟨(blk_cell (blk_below HX5.out hB_wf13) 1).trans rfl,(blk_cell (blk_below HX5.out hB_wf13) 2).trans rfl,(blk_cell (blk_below HE1.out hB_wf13) 0).trans rfl,(blk_cell (blk_below HE1.out hB_wf13) 1).trans rfl⟩ (fun hHeld => ?_)
        clear hK K
        refine qN (some 64) ?_
        refine one_ (i:=18) (N:=some 15) (ab 22 1048575) rfl rfl (one_of HT_.out kr) (by decide) (fun K hK => ?_)
        refine value_ (w1:=?_) (v:=?_) (by rfl) rfl ?_ ?_
        rotate_left 2
        ·go_simp
         constructor
         ·rfl
         ·rfl
        refine hK.out _ _ ⟨(blk_cell (blk_below HX5.out (below_alloc (hB_wf13) (.cells #[.int .i64 0,.int .i64 0] 43))) 1).trans rfl,(blk_cell (blk_below HX5.out (below_alloc (hB_wf13) (.cells #[.int .i64 0,.int .i64 0] 43))) 2).trans rfl,(blk_cell (blk_below HE1.out (below_alloc (hB_wf13) (.cells #[.int .i64 0,.int .i64 0] 43))) 0).trans rfl,(blk_cell (blk_below HE1.out (below_alloc (hB_wf13) (.cells #[.int .i64 0,.int .i64 0] 43))) 1).trans rfl⟩ (fun hHeld => ?_)
        clear hK K
        refine qN (some 15) ?_
        exact norm_ (by first|(simp only [putAll,Act.put,List.setIfInBounds_toArray,List.set_cons_zero,List.set_cons_succ,i64_w,i32_w];done)|(simp only [putAll,Act.put,List.setIfInBounds_toArray,List.set_cons_zero,List.set_cons_succ,i64_w,i32_w];rfl)) (hCont ⟨wf13.heap.size,wd.heap.size⟩ _ ⟨(below_alloc (hB_wf13) (.cells #[.int .i64 0,.int .i64 0] 43)),(blk_new' wf13 (.cells #[.int .i64 0,.int .i64 0] 43) (wf13.heap.size) (by simp)),(blk_alloc (hb16_wf13) (.cells #[.int .i64 0,.int .i64 0] 43)),(by have h:=blk_lt (hb16_wf13);first|omega|(simp at h;omega)),(by have h:=(hB_wf13).size;first|(simp;done)|simpa using h),(by have h:=(Below.refl wd.heap.size wd).size;first|(simp;done)|simpa using h)⟩)
       ·skip
        refine value_ (w1:=?_) (v:=?_) (by rfl) rfl ?_ ?_
        rotate_left 2
        ·go_simp
         constructor
         ·rfl
         ·rfl
        refine hK.out _ _ ⟨(blk_cell (blk_below HX5.out (below_alloc (hB_wf12) (.cells #[.int .i64 0,.int .i64 0] 43))) 1).trans rfl,(blk_cell (blk_below HX5.out (below_alloc (hB_wf12) (.cells #[.int .i64 0,.int .i64 0] 43))) 2).trans rfl,(blk_cell (blk_below HE1.out (below_alloc (hB_wf12) (.cells #[.int .i64 0,.int .i64 0] 43))) 0).trans rfl,(blk_cell (blk_below HE1.out (below_alloc (hB_wf12) (.cells #[.int .i64 0,.int .i64 0] 43))) 1).trans rfl⟩ (fun hHeld => ?_)
        clear hK K
        refine qN (some 15) ?_
        refine one_ (i:=17) (N:=some 64) (ab 22 1048575) rfl rfl (one_of HT_.out kr) (by decide) (fun K hK => ?_)
        refine gC Tryz.func157 #[.int .i64 (x.f1.f1 * s.f1),.int .i64 s.f0] ?_
        refine (pit_ratio.calls FU _ _ _ _ _ HZ4.out).mono ?_
        rintro e wf14 ⟨rfl,hb⟩
        have hB_wf14 : Below wd.heap.size wd wf14:=below_then ((below_alloc (hB_wf12) (.cells #[.int .i64 0,.int .i64 0] 43))) (below_size ((below_alloc (hB_wf12) (.cells #[.int .i64 0,.int .i64 0] 43)))) hb
        have hb15_wf14:=blk_below ((blk_new' wf12 (.cells #[.int .i64 0,.int .i64 0] 43) (wf12.heap.size) (by simp))) hb
        have hb16_wf14:=blk_below ((blk_alloc (hb16_wf12) (.cells #[.int .i64 0,.int .i64 0] 43))) hb
        refine ⟨_,rfl,?_⟩
        refine hK.out _ _ ⟨(blk_cell (blk_below HX5.out hB_wf14) 1).trans rfl,(blk_cell (blk_below HX5.out hB_wf14) 2).trans rfl,(blk_cell (blk_below HE1.out hB_wf14) 0).trans rfl,(blk_cell (blk_below HE1.out hB_wf14) 1).trans rfl⟩ (fun hHeld => ?_)
        clear hK K
        refine qN (some 64) ?_
        exact norm_ (by first|(simp only [putAll,Act.put,List.setIfInBounds_toArray,List.set_cons_zero,List.set_cons_succ,i64_w,i32_w];done)|(simp only [putAll,Act.put,List.setIfInBounds_toArray,List.set_cons_zero,List.set_cons_succ,i64_w,i32_w];rfl)) (hCont ⟨wf12.heap.size,wd.heap.size⟩ _ ⟨hB_wf14,hb15_wf14,hb16_wf14,(by have h:=blk_lt (hb16_wf12);first|omega|(simp at h;omega)),(by have h:=(hB_wf12).size;first|(simp;done)|simpa using h),(by have h:=(Below.refl wd.heap.size wd).size;first|(simp;done)|simpa using h)⟩)
      ·skip
       refine value_ (w1:=?_) (v:=?_) (by rfl) rfl ?_ ?_
       rotate_left 2
       ·go_simp
        constructor
        ·rfl
        ·rfl
       refine hK.out _ _ ⟨(blk_cell (blk_below HX5.out (below_alloc ((below_alloc (Below.refl wd.heap.size wd) (.cells #[.int .i64 0,.int .i64 0] 43))) (.cells #[.int .i64 0,.int .i64 0] 43))) 1).trans rfl,(blk_cell (blk_below HX5.out (below_alloc ((below_alloc (Below.refl wd.heap.size wd) (.cells #[.int .i64 0,.int .i64 0] 43))) (.cells #[.int .i64 0,.int .i64 0] 43))) 2).trans rfl,(blk_cell (blk_below HE1.out (below_alloc ((below_alloc (Below.refl wd.heap.size wd) (.cells #[.int .i64 0,.int .i64 0] 43))) (.cells #[.int .i64 0,.int .i64 0] 43))) 0).trans rfl,(blk_cell (blk_below HE1.out (below_alloc ((below_alloc (Below.refl wd.heap.size wd) (.cells #[.int .i64 0,.int .i64 0] 43))) (.cells #[.int .i64 0,.int .i64 0] 43))) 1).trans rfl⟩ (fun hHeld => ?_)
       clear hK K
       refine qN (some 15) ?_
       refine one_ (i:=8) (N:=some 55) (ab 22 917503) rfl rfl (one_of HT_.out kr) (by decide) (fun K hK => ?_)
       refine gC Tryz.func157 #[.int .i64 (x.f1.f0 * s.f1),.int .i64 s.f0] ?_
       refine (pit_ratio.calls FU _ _ _ _ _ HA4.out).mono ?_
       rintro e wf15 ⟨rfl,hb⟩
       have hB_wf15 : Below wd.heap.size wd wf15:=below_then ((below_alloc ((below_alloc (Below.refl wd.heap.size wd) (.cells #[.int .i64 0,.int .i64 0] 43))) (.cells #[.int .i64 0,.int .i64 0] 43))) (below_size ((below_alloc ((below_alloc (Below.refl wd.heap.size wd) (.cells #[.int .i64 0,.int .i64 0] 43))) (.cells #[.int .i64 0,.int .i64 0] 43)))) hb
       have hb15_wf15:=blk_below ((blk_new' (wd.alloc (.cells #[.int .i64 0,.int .i64 0] 43)) (.cells #[.int .i64 0,.int .i64 0] 43) (wd.heap.size + 1) (by simp))) hb
       have hb16_wf15:=blk_below ((blk_alloc ((blk_new' wd (.cells #[.int .i64 0,.int .i64 0] 43) (wd.heap.size) (by simp))) (.cells #[.int .i64 0,.int .i64 0] 43))) hb
       refine ⟨_,rfl,?_⟩
       refine hK.out _ _ ⟨(blk_cell (blk_below HX5.out hB_wf15) 1).trans rfl,(blk_cell (blk_below HX5.out hB_wf15) 2).trans rfl,(blk_cell (blk_below HE1.out hB_wf15) 0).trans rfl,(blk_cell (blk_below HE1.out hB_wf15) 1).trans rfl⟩ (fun hHeld => ?_)
       clear hK K
       refine qN (some 55) ?_
       refine one_ (i:=17) (N:=some 64) (ab 22 1048575) rfl rfl (one_of HT_.out kr) (by decide) (fun K hK => ?_)
       refine gC Tryz.func157 #[.int .i64 (x.f1.f1 * s.f1),.int .i64 s.f0] ?_
       refine (pit_ratio.calls FU _ _ _ _ _ HZ4.out).mono ?_
       rintro e wf16 ⟨rfl,hb⟩
       have hB_wf16 : Below wd.heap.size wd wf16:=below_then (hB_wf15) (below_size (hB_wf15)) hb
       have hb15_wf16:=blk_below (hb15_wf15) hb
       have hb16_wf16:=blk_below (hb16_wf15) hb
       refine ⟨_,rfl,?_⟩
       refine hK.out _ _ ⟨(blk_cell (blk_below HX5.out hB_wf16) 1).trans rfl,(blk_cell (blk_below HX5.out hB_wf16) 2).trans rfl,(blk_cell (blk_below HE1.out hB_wf16) 0).trans rfl,(blk_cell (blk_below HE1.out hB_wf16) 1).trans rfl⟩ (fun hHeld => ?_)
       clear hK K
       refine qN (some 64) ?_
       exact norm_ (by first|(simp only [putAll,Act.put,List.setIfInBounds_toArray,List.set_cons_zero,List.set_cons_succ,i64_w,i32_w];done)|(simp only [putAll,Act.put,List.setIfInBounds_toArray,List.set_cons_zero,List.set_cons_succ,i64_w,i32_w];rfl)) (hCont ⟨wd.heap.size + 1,wd.heap.size⟩ _ ⟨hB_wf16,hb15_wf16,hb16_wf16,(by have h:=blk_lt ((blk_new' wd (.cells #[.int .i64 0,.int .i64 0] 43) (wd.heap.size) (by simp)));first|omega|(simp at h;omega)),(by have h:=((below_alloc (Below.refl wd.heap.size wd) (.cells #[.int .i64 0,.int .i64 0] 43))).size;first|(simp;done)|simpa using h),(by have h:=(Below.refl wd.heap.size wd).size;first|(simp;done)|simpa using h)⟩)
    rintro ⟨p,y⟩ w7 ⟨hb,hp,hy,hne,hlp,hly⟩
    have HI:=am (show wr.heap.size < wd.heap.size ∧ w2.heap.size < wr.heap.size from ⟨blk_lt HX5.out,Nat.lt_of_lt_of_le (blk_lt HT.out) (Nat.le_refl _)⟩)
    have HIX:=am (show p ≠ y ∧ wd.heap.size ≤ p ∧ wd.heap.size ≤ y from ⟨hne,hlp,hly⟩)
    have HT7:=am (blk_below HT6.out hb)
    have HN7:=am (below_then HN6.out (below_size HN6.out) hb)
    have H15:=am (hp)
    have H16:=am (hy)
    clear hb hp hy hne hlp hly
    refine norm_ (a':=?_) ?_ ?_
    rotate_left
    ·simp only [putAll,Act.put,List.setIfInBounds_toArray,List.set_cons_zero,List.set_cons_succ]
     rfl
    refine last_ (i:=20) (N:=none) (ab 22 2097151) rfl rfl (one_of HT_.out kr) (by decide) (fun K hK => ?_)
    have u0:=bd H15.out 0
    have fu0:=blk_frozen H15.out 0
    have u1:=bd H15.out 1
    have fu1:=blk_frozen H15.out 1
    refine skip_ (w1:=?_) (by rfl) rfl ?_ ?_
    rotate_left
    ·go_simp
     rfl
    have HT8:=am (blk_far (p:=⟨p,1,none⟩) (blk_far (p:=⟨p,0,none⟩) (HT7.out) (by have h1:=HI.out;have h2:=HIX.out;(try dsimp only);omega) (.int .i64 a.f0)) (by have h1:=HI.out;have h2:=HIX.out;(try dsimp only);omega) (.int .i64 a.f1))
    have HN8:=am (((HN7.out).setCell (p:=⟨p,0,none⟩) (by have h1:=HI.out;have h2:=HIX.out;(try dsimp only);omega) (.int .i64 a.f0)).setCell (p:=⟨p,1,none⟩) (by have h1:=HI.out;have h2:=HIX.out;(try dsimp only);omega) (.int .i64 a.f1))
    have H161:=am (blk_far (p:=⟨p,1,none⟩) (blk_far (p:=⟨p,0,none⟩) (H16.out) (by have h1:=HI.out;have h2:=HIX.out;(try dsimp only);omega) (.int .i64 a.f0)) (by have h1:=HI.out;have h2:=HIX.out;(try dsimp only);omega) (.int .i64 a.f1))
    have H151:=am (blk_put (cs':=#[.int .i64 a.f0,.int .i64 a.f1]) (blk_put (cs':=#[.int .i64 a.f0,.int .i64 0]) (H15.out) 0 (.int .i64 a.f0) rfl) 1 (.int .i64 a.f1) rfl)
    refine hK.out _ _ ?_
    clear hK K
    refine last_ (i:=21) (N:=none) (ab 22 4194303) rfl rfl (one_of HT_.out kr) (by decide) (fun K hK => ?_)
    have v0:=bd H161.out 0
    have fv0:=blk_frozen H161.out 0
    have v1:=bd H161.out 1
    have fv1:=blk_frozen H161.out 1
    refine skip_ (w1:=?_) (by rfl) rfl ?_ ?_
    rotate_left
    ·go_simp
     rfl
    refine hK.out _ _ ?_
    clear hK K
    refine done_ (done_of HT_.out kr) ?_
    have HT9:=am (blk_far (p:=⟨y,1,none⟩) (blk_far (p:=⟨y,0,none⟩) (HT8.out) (by have h1:=HI.out;have h2:=HIX.out;(try dsimp only);omega) (.int .i64 z.f0)) (by have h1:=HI.out;have h2:=HIX.out;(try dsimp only);omega) (.int .i64 z.f1))
    have HN9:=am (((HN8.out).setCell (p:=⟨y,0,none⟩) (by have h1:=HI.out;have h2:=HIX.out;(try dsimp only);omega) (.int .i64 z.f0)).setCell (p:=⟨y,1,none⟩) (by have h1:=HI.out;have h2:=HIX.out;(try dsimp only);omega) (.int .i64 z.f1))
    have H152:=am (blk_far (p:=⟨y,1,none⟩) (blk_far (p:=⟨y,0,none⟩) (H151.out) (by have h1:=HI.out;have h2:=HIX.out;(try dsimp only);omega) (.int .i64 z.f0)) (by have h1:=HI.out;have h2:=HIX.out;(try dsimp only);omega) (.int .i64 z.f1))
    have H162:=am (blk_put (cs':=#[.int .i64 z.f0,.int .i64 z.f1]) (blk_put (cs':=#[.int .i64 z.f0,.int .i64 0]) (H161.out) 0 (.int .i64 z.f0) rfl) 1 (.int .i64 z.f1) rfl)
    clear u0 u1 fu0 fu1 v0 v1 fv0 fv1 hwa hwb
    generalize ((((w7.setCell ⟨p,0,none⟩ (.int .i64 a.f0)).setCell ⟨p,1,none⟩ (.int .i64 a.f1)).setCell ⟨y,0,none⟩ (.int .i64 z.f0)).setCell ⟨y,1,none⟩ (.int .i64 z.f1)) = w9 at HT9 HN9 H152 H162 ⊢
    have g0:=bd H152.out 0
    have g1:=bd H152.out 1
    have k1:=bd HT9.out 1
    have k2:=bd HT9.out 2
    go_wp2_with fail
    refine (pit_compare.calls _ _ _ _ _ _ (cmp_end HA1.out HLO.out)).mono ?_
    rintro e w10 ⟨rfl,hb⟩
    have HT10:=am (blk_below HT9.out hb)
    have HN10:=am (below_then HN9.out (below_size HN9.out) hb)
    have H153:=am (blk_below H152.out hb)
    have H163:=am (blk_below H162.out hb)
    clear hb g0 g1 k1 k2
    obtain ⟨c1,hc1⟩ : ∃ c1,c1 = cmpP a lo:=⟨_,rfl⟩
    rw [← hc1]
    by_cases h1 : c1 > 0
    ·
     have p0_:=bd H153.out 0
     have p1_:=bd H153.out 1
     have u1:=bd HT10.out 1
     have fu1:=blk_frozen HT10.out 1
     have u2:=bd HT10.out 2
     have fu2:=blk_frozen HT10.out 2
     have HN11:=am (((HN10.out).setCell (p:=⟨w2.heap.size,1,none⟩) (Nat.le_refl _) (.int .i64 a.f0)).setCell (p:=⟨w2.heap.size,2,none⟩) (Nat.le_refl _) (.int .i64 a.f1))
     have H154:=am (blk_far (p:=⟨w2.heap.size,2,none⟩) (blk_far (p:=⟨w2.heap.size,1,none⟩) (H153.out) (by have h1:=HI.out;have h2:=HIX.out;(try dsimp only);omega) (.int .i64 a.f0)) (by have h1:=HI.out;have h2:=HIX.out;(try dsimp only);omega) (.int .i64 a.f1))
     have H164:=am (blk_far (p:=⟨w2.heap.size,2,none⟩) (blk_far (p:=⟨w2.heap.size,1,none⟩) (H163.out) (by have h1:=HI.out;have h2:=HIX.out;(try dsimp only);omega) (.int .i64 a.f0)) (by have h1:=HI.out;have h2:=HIX.out;(try dsimp only);omega) (.int .i64 a.f1))
     have HT11:=am (blk_put (cs':=#[.int .i64 pour,.int .i64 a.f0,.int .i64 a.f1,.int .i64 hi.f0,.int .i64 hi.f1]) (blk_put (cs':=#[.int .i64 pour,.int .i64 a.f0,.int .i64 lo.f1,.int .i64 hi.f0,.int .i64 hi.f1]) (HT10.out) 1 (.int .i64 a.f0) rfl) 2 (.int .i64 a.f1) rfl)
     have g0:=bd H164.out 0
     have g1:=bd H164.out 1
     have k3:=bd HT11.out 3
     have k4:=bd HT11.out 4
     go_wp2_with fail
     refine (pit_compare.calls _ _ _ _ _ _ (cmp_end HZ1.out HHI.out)).mono ?_
     rintro e w11 ⟨rfl,hb⟩
     have HT12:=am (blk_below HT11.out hb)
     have HN12:=am (below_then HN11.out (below_size HN11.out) hb)
     have H155:=am (blk_below H154.out hb)
     have H165:=am (blk_below H164.out hb)
     clear hb g0 g1 k3 k4 u1 u2 fu1 fu2 p0_ p1_
     obtain ⟨c2,hc2⟩ : ∃ c2,c2 = cmpP z hi:=⟨_,rfl⟩
     rw [← hc2]
     by_cases h2 : c2 < 0
     ·
      have g0:=bd H165.out 0
      have g1:=bd H165.out 1
      have u3:=bd HT12.out 3
      have fu3:=blk_frozen HT12.out 3
      have u4:=bd HT12.out 4
      have fu4:=blk_frozen HT12.out 4
      have HN13:=am (((HN12.out).setCell (p:=⟨w2.heap.size,3,none⟩) (Nat.le_refl _) (.int .i64 z.f0)).setCell (p:=⟨w2.heap.size,4,none⟩) (Nat.le_refl _) (.int .i64 z.f1))
      have H156:=am (blk_far (p:=⟨w2.heap.size,4,none⟩) (blk_far (p:=⟨w2.heap.size,3,none⟩) (H155.out) (by have h1:=HI.out;have h2:=HIX.out;(try dsimp only);omega) (.int .i64 z.f0)) (by have h1:=HI.out;have h2:=HIX.out;(try dsimp only);omega) (.int .i64 z.f1))
      have H166:=am (blk_far (p:=⟨w2.heap.size,4,none⟩) (blk_far (p:=⟨w2.heap.size,3,none⟩) (H165.out) (by have h1:=HI.out;have h2:=HIX.out;(try dsimp only);omega) (.int .i64 z.f0)) (by have h1:=HI.out;have h2:=HIX.out;(try dsimp only);omega) (.int .i64 z.f1))
      have HT13:=am (blk_put (cs':=#[.int .i64 pour,.int .i64 a.f0,.int .i64 a.f1,.int .i64 z.f0,.int .i64 z.f1]) (blk_put (cs':=#[.int .i64 pour,.int .i64 a.f0,.int .i64 a.f1,.int .i64 z.f0,.int .i64 hi.f1]) (HT12.out) 3 (.int .i64 z.f0) rfl) 4 (.int .i64 z.f1) rfl)
      skip
      have HQ9:=am (show q = if cmpP a z > 0 then (⟨0,⟨0,0⟩,⟨0,0⟩⟩,(j : Int),false) else blameL Y pour a z ((j : Int) + 1) (l.drop (j + 1)) by rw [HA2.out,show maxR a lo = a from if_pos (by rw [← hc1];omega),show minR z hi = z from if_pos (by rw [← hc2];omega)])
      have r1:=bd HT13.out 1
      have r2:=bd HT13.out 2
      have r3:=bd HT13.out 3
      have r4:=bd HT13.out 4
      go_wp2_with fail
      refine (pit_compare.calls _ _ _ _ _ _ (cmp_end HA1.out HZ1.out)).mono ?_
      rintro e w13 ⟨rfl,hb⟩
      have HT14:=am (blk_below HT13.out hb)
      have HN14:=am (below_then HN13.out (below_size HN13.out) hb)
      clear hb r1 r2 r3 r4 g0 g1 u3 u4 fu3 fu4
      obtain ⟨c3,hc3⟩ : ∃ c3,c3 = cmpP a z:=⟨_,rfl⟩
      rw [← hc3] at HQ9 ⊢
      by_cases h3 : c3 > 0
      ·
       have HR9:=am (blk_below HR2.out HN14.out)
       have HB9:=am (below_then HB3.out (below_size HB3.out) HN14.out)
       have HE9:=am (show q = (⟨0,⟨0,0⟩,⟨0,0⟩⟩,(j : Int),false) by rw [HQ9.out,if_pos (by omega)])
       have u0:=bd HR9.out 0
       have fu0:=blk_frozen HR9.out 0
       have u1:=bd HR9.out 1
       have fu1:=blk_frozen HR9.out 1
       have u2:=bd HR9.out 2
       have fu2:=blk_frozen HR9.out 2
       have u3:=bd HR9.out 3
       have fu3:=blk_frozen HR9.out 3
       have u4:=bd HR9.out 4
       have fu4:=blk_frozen HR9.out 4
       go_wp2
       rw [HE9.out]
       have bz:=blk_put (cs':=#[.int .i64 0,.int .i64 0,.int .i64 0,.int .i64 0,.int .i64 0]) (blk_put (cs':=#[.int .i64 0,.int .i64 0,.int .i64 0,.int .i64 0,.int .i64 0]) (blk_put (cs':=#[.int .i64 0,.int .i64 0,.int .i64 0,.int .i64 0,.int .i64 0]) (blk_put (cs':=#[.int .i64 0,.int .i64 0,.int .i64 0,.int .i64 0,.int .i64 0]) (blk_put (cs':=#[.int .i64 0,.int .i64 0,.int .i64 0,.int .i64 0,.int .i64 0]) (HR9.out) 0 (.int .i64 0) rfl) 1 (.int .i64 0) rfl) 2 (.int .i64 0) rfl) 3 (.int .i64 0) rfl) 4 (.int .i64 0) rfl
       have z0:=bd bz 0
       have z1:=bd bz 1
       have z2:=bd bz 2
       have z3:=bd bz 3
       have z4:=bd bz 4
       exact bodyPost_ret (v:=.tuple #[.agg #[.int .i64 0,.int .i64 0,.int .i64 0,.int .i64 0,.int .i64 0],.int .i64 (j : Int),.bool false]) (by simp [results,Tryz.results132,go_sem,z0,z1,z2,z3,z4,hu139,hu43]) rfl ⟨rfl,(((((HB9.out).setCell (p:=⟨W.heap.size,0,none⟩) (by first|(simp;done)|(simp;omega)) (.int .i64 0)).setCell (p:=⟨W.heap.size,1,none⟩) (by first|(simp;done)|(simp;omega)) (.int .i64 0)).setCell (p:=⟨W.heap.size,2,none⟩) (by first|(simp;done)|(simp;omega)) (.int .i64 0)).setCell (p:=⟨W.heap.size,3,none⟩) (by first|(simp;done)|(simp;omega)) (.int .i64 0)).setCell (p:=⟨W.heap.size,4,none⟩) (by first|(simp;done)|(simp;omega)) (.int .i64 0)⟩
      ·
       go_wp2
       go_roundw
       case rel => exact ⟨j + 1,a,z,by omega,by go_num,HN14,HT14,HA1,HZ1,⟨by rw [HQ9.out,if_neg (by omega)];rfl⟩⟩
       case measure => simp [intOf];omega
     ·
      have HQ9:=am (show q = if cmpP a hi > 0 then (⟨0,⟨0,0⟩,⟨0,0⟩⟩,(j : Int),false) else blameL Y pour a hi ((j : Int) + 1) (l.drop (j + 1)) by rw [HA2.out,show maxR a lo = a from if_pos (by rw [← hc1];omega),show minR z hi = hi from if_neg (by rw [← hc2];omega)])
      have r1:=bd HT12.out 1
      have r2:=bd HT12.out 2
      have r3:=bd HT12.out 3
      have r4:=bd HT12.out 4
      go_wp2_with fail
      refine (pit_compare.calls _ _ _ _ _ _ (cmp_end HA1.out HHI.out)).mono ?_
      rintro e w13 ⟨rfl,hb⟩
      have HT13:=am (blk_below HT12.out hb)
      have HN13:=am (below_then HN12.out (below_size HN12.out) hb)
      have H156:=am (blk_below H155.out hb)
      have H166:=am (blk_below H165.out hb)
      clear hb r1 r2 r3 r4
      obtain ⟨c3,hc3⟩ : ∃ c3,c3 = cmpP a hi:=⟨_,rfl⟩
      rw [← hc3] at HQ9 ⊢
      by_cases h3 : c3 > 0
      ·
       have HR9:=am (blk_below HR2.out HN13.out)
       have HB9:=am (below_then HB3.out (below_size HB3.out) HN13.out)
       have HE9:=am (show q = (⟨0,⟨0,0⟩,⟨0,0⟩⟩,(j : Int),false) by rw [HQ9.out,if_pos (by omega)])
       have u0:=bd HR9.out 0
       have fu0:=blk_frozen HR9.out 0
       have u1:=bd HR9.out 1
       have fu1:=blk_frozen HR9.out 1
       have u2:=bd HR9.out 2
       have fu2:=blk_frozen HR9.out 2
       have u3:=bd HR9.out 3
       have fu3:=blk_frozen HR9.out 3
       have u4:=bd HR9.out 4
       have fu4:=blk_frozen HR9.out 4
       go_wp2
       rw [HE9.out]
       have bz:=blk_put (cs':=#[.int .i64 0,.int .i64 0,.int .i64 0,.int .i64 0,.int .i64 0]) (blk_put (cs':=#[.int .i64 0,.int .i64 0,.int .i64 0,.int .i64 0,.int .i64 0]) (blk_put (cs':=#[.int .i64 0,.int .i64 0,.int .i64 0,.int .i64 0,.int .i64 0]) (blk_put (cs':=#[.int .i64 0,.int .i64 0,.int .i64 0,.int .i64 0,.int .i64 0]) (blk_put (cs':=#[.int .i64 0,.int .i64 0,.int .i64 0,.int .i64 0,.int .i64 0]) (HR9.out) 0 (.int .i64 0) rfl) 1 (.int .i64 0) rfl) 2 (.int .i64 0) rfl) 3 (.int .i64 0) rfl) 4 (.int .i64 0) rfl
       have z0:=bd bz 0
       have z1:=bd bz 1
       have z2:=bd bz 2
       have z3:=bd bz 3
       have z4:=bd bz 4
       exact bodyPost_ret (v:=.tuple #[.agg #[.int .i64 0,.int .i64 0,.int .i64 0,.int .i64 0,.int .i64 0],.int .i64 (j : Int),.bool false]) (by simp [results,Tryz.results132,go_sem,z0,z1,z2,z3,z4,hu139,hu43]) rfl ⟨rfl,(((((HB9.out).setCell (p:=⟨W.heap.size,0,none⟩) (by first|(simp;done)|(simp;omega)) (.int .i64 0)).setCell (p:=⟨W.heap.size,1,none⟩) (by first|(simp;done)|(simp;omega)) (.int .i64 0)).setCell (p:=⟨W.heap.size,2,none⟩) (by first|(simp;done)|(simp;omega)) (.int .i64 0)).setCell (p:=⟨W.heap.size,3,none⟩) (by first|(simp;done)|(simp;omega)) (.int .i64 0)).setCell (p:=⟨W.heap.size,4,none⟩) (by first|(simp;done)|(simp;omega)) (.int .i64 0)⟩
      ·
       go_wp2
       go_roundw
       case rel => exact ⟨j + 1,a,hi,by omega,by go_num,HN13,HT13,HA1,HHI,⟨by rw [HQ9.out,if_neg (by omega)];rfl⟩⟩
       case measure => simp [intOf];omega
    ·
     have g0:=bd H163.out 0
     have g1:=bd H163.out 1
     have k3:=bd HT10.out 3
     have k4:=bd HT10.out 4
     go_wp2_with fail
     refine (pit_compare.calls _ _ _ _ _ _ (cmp_end HZ1.out HHI.out)).mono ?_
     rintro e w11 ⟨rfl,hb⟩
     have HT11:=am (blk_below HT10.out hb)
     have HN11:=am (below_then HN10.out (below_size HN10.out) hb)
     have H154:=am (blk_below H153.out hb)
     have H164:=am (blk_below H163.out hb)
     clear hb g0 g1 k3 k4
     obtain ⟨c2,hc2⟩ : ∃ c2,c2 = cmpP z hi:=⟨_,rfl⟩
     rw [← hc2]
     by_cases h2 : c2 < 0
     ·
      have g0:=bd H164.out 0
      have g1:=bd H164.out 1
      have u3:=bd HT11.out 3
      have fu3:=blk_frozen HT11.out 3
      have u4:=bd HT11.out 4
      have fu4:=blk_frozen HT11.out 4
      have HN12:=am (((HN11.out).setCell (p:=⟨w2.heap.size,3,none⟩) (Nat.le_refl _) (.int .i64 z.f0)).setCell (p:=⟨w2.heap.size,4,none⟩) (Nat.le_refl _) (.int .i64 z.f1))
      have H155:=am (blk_far (p:=⟨w2.heap.size,4,none⟩) (blk_far (p:=⟨w2.heap.size,3,none⟩) (H154.out) (by have h1:=HI.out;have h2:=HIX.out;(try dsimp only);omega) (.int .i64 z.f0)) (by have h1:=HI.out;have h2:=HIX.out;(try dsimp only);omega) (.int .i64 z.f1))
      have H165:=am (blk_far (p:=⟨w2.heap.size,4,none⟩) (blk_far (p:=⟨w2.heap.size,3,none⟩) (H164.out) (by have h1:=HI.out;have h2:=HIX.out;(try dsimp only);omega) (.int .i64 z.f0)) (by have h1:=HI.out;have h2:=HIX.out;(try dsimp only);omega) (.int .i64 z.f1))
      have HT12:=am (blk_put (cs':=#[.int .i64 pour,.int .i64 lo.f0,.int .i64 lo.f1,.int .i64 z.f0,.int .i64 z.f1]) (blk_put (cs':=#[.int .i64 pour,.int .i64 lo.f0,.int .i64 lo.f1,.int .i64 z.f0,.int .i64 hi.f1]) (HT11.out) 3 (.int .i64 z.f0) rfl) 4 (.int .i64 z.f1) rfl)
      skip
      have HQ9:=am (show q = if cmpP lo z > 0 then (⟨0,⟨0,0⟩,⟨0,0⟩⟩,(j : Int),false) else blameL Y pour lo z ((j : Int) + 1) (l.drop (j + 1)) by rw [HA2.out,show maxR a lo = lo from if_neg (by rw [← hc1];omega),show minR z hi = z from if_pos (by rw [← hc2];omega)])
      have r1:=bd HT12.out 1
      have r2:=bd HT12.out 2
      have r3:=bd HT12.out 3
      have r4:=bd HT12.out 4
      go_wp2_with fail
      refine (pit_compare.calls _ _ _ _ _ _ (cmp_end HLO.out HZ1.out)).mono ?_
      rintro e w13 ⟨rfl,hb⟩
      have HT13:=am (blk_below HT12.out hb)
      have HN13:=am (below_then HN12.out (below_size HN12.out) hb)
      have H156:=am (blk_below H155.out hb)
      have H166:=am (blk_below H165.out hb)
      clear hb r1 r2 r3 r4 g0 g1 u3 u4 fu3 fu4
      obtain ⟨c3,hc3⟩ : ∃ c3,c3 = cmpP lo z:=⟨_,rfl⟩
      rw [← hc3] at HQ9 ⊢
      by_cases h3 : c3 > 0
      ·
       have HR9:=am (blk_below HR2.out HN13.out)
       have HB9:=am (below_then HB3.out (below_size HB3.out) HN13.out)
       have HE9:=am (show q = (⟨0,⟨0,0⟩,⟨0,0⟩⟩,(j : Int),false) by rw [HQ9.out,if_pos (by omega)])
       have u0:=bd HR9.out 0
       have fu0:=blk_frozen HR9.out 0
       have u1:=bd HR9.out 1
       have fu1:=blk_frozen HR9.out 1
       have u2:=bd HR9.out 2
       have fu2:=blk_frozen HR9.out 2
       have u3:=bd HR9.out 3
       have fu3:=blk_frozen HR9.out 3
       have u4:=bd HR9.out 4
       have fu4:=blk_frozen HR9.out 4
       go_wp2
       rw [HE9.out]
       have bz:=blk_put (cs':=#[.int .i64 0,.int .i64 0,.int .i64 0,.int .i64 0,.int .i64 0]) (blk_put (cs':=#[.int .i64 0,.int .i64 0,.int .i64 0,.int .i64 0,.int .i64 0]) (blk_put (cs':=#[.int .i64 0,.int .i64 0,.int .i64 0,.int .i64 0,.int .i64 0]) (blk_put (cs':=#[.int .i64 0,.int .i64 0,.int .i64 0,.int .i64 0,.int .i64 0]) (blk_put (cs':=#[.int .i64 0,.int .i64 0,.int .i64 0,.int .i64 0,.int .i64 0]) (HR9.out) 0 (.int .i64 0) rfl) 1 (.int .i64 0) rfl) 2 (.int .i64 0) rfl) 3 (.int .i64 0) rfl) 4 (.int .i64 0) rfl
       have z0:=bd bz 0
       have z1:=bd bz 1
       have z2:=bd bz 2
       have z3:=bd bz 3
       have z4:=bd bz 4
       exact bodyPost_ret (v:=.tuple #[.agg #[.int .i64 0,.int .i64 0,.int .i64 0,.int .i64 0,.int .i64 0],.int .i64 (j : Int),.bool false]) (by simp [results,Tryz.results132,go_sem,z0,z1,z2,z3,z4,hu139,hu43]) rfl ⟨rfl,(((((HB9.out).setCell (p:=⟨W.heap.size,0,none⟩) (by first|(simp;done)|(simp;omega)) (.int .i64 0)).setCell (p:=⟨W.heap.size,1,none⟩) (by first|(simp;done)|(simp;omega)) (.int .i64 0)).setCell (p:=⟨W.heap.size,2,none⟩) (by first|(simp;done)|(simp;omega)) (.int .i64 0)).setCell (p:=⟨W.heap.size,3,none⟩) (by first|(simp;done)|(simp;omega)) (.int .i64 0)).setCell (p:=⟨W.heap.size,4,none⟩) (by first|(simp;done)|(simp;omega)) (.int .i64 0)⟩
      ·
       go_wp2
       go_roundw
       case rel => exact ⟨j + 1,lo,z,by omega,by go_num,HN13,HT13,HLO,HZ1,⟨by rw [HQ9.out,if_neg (by omega)];rfl⟩⟩
       case measure => simp [intOf];omega
     ·
      have HQ9:=am (show q = if cmpP lo hi > 0 then (⟨0,⟨0,0⟩,⟨0,0⟩⟩,(j : Int),false) else blameL Y pour lo hi ((j : Int) + 1) (l.drop (j + 1)) by rw [HA2.out,show maxR a lo = lo from if_neg (by rw [← hc1];omega),show minR z hi = hi from if_neg (by rw [← hc2];omega)])
      have r1:=bd HT11.out 1
      have r2:=bd HT11.out 2
      have r3:=bd HT11.out 3
      have r4:=bd HT11.out 4
      go_wp2_with fail
      refine (pit_compare.calls _ _ _ _ _ _ (cmp_end HLO.out HHI.out)).mono ?_
      rintro e w13 ⟨rfl,hb⟩
      have HT12:=am (blk_below HT11.out hb)
      have HN12:=am (below_then HN11.out (below_size HN11.out) hb)
      have H155:=am (blk_below H154.out hb)
      have H165:=am (blk_below H164.out hb)
      clear hb r1 r2 r3 r4
      obtain ⟨c3,hc3⟩ : ∃ c3,c3 = cmpP lo hi:=⟨_,rfl⟩
      rw [← hc3] at HQ9 ⊢
      by_cases h3 : c3 > 0
      ·
       have HR9:=am (blk_below HR2.out HN12.out)
       have HB9:=am (below_then HB3.out (below_size HB3.out) HN12.out)
       have HE9:=am (show q = (⟨0,⟨0,0⟩,⟨0,0⟩⟩,(j : Int),false) by rw [HQ9.out,if_pos (by omega)])
       have u0:=bd HR9.out 0
       have fu0:=blk_frozen HR9.out 0
       have u1:=bd HR9.out 1
       have fu1:=blk_frozen HR9.out 1
       have u2:=bd HR9.out 2
       have fu2:=blk_frozen HR9.out 2
       have u3:=bd HR9.out 3
       have fu3:=blk_frozen HR9.out 3
       have u4:=bd HR9.out 4
       have fu4:=blk_frozen HR9.out 4
       go_wp2
       rw [HE9.out]
       have bz:=blk_put (cs':=#[.int .i64 0,.int .i64 0,.int .i64 0,.int .i64 0,.int .i64 0]) (blk_put (cs':=#[.int .i64 0,.int .i64 0,.int .i64 0,.int .i64 0,.int .i64 0]) (blk_put (cs':=#[.int .i64 0,.int .i64 0,.int .i64 0,.int .i64 0,.int .i64 0]) (blk_put (cs':=#[.int .i64 0,.int .i64 0,.int .i64 0,.int .i64 0,.int .i64 0]) (blk_put (cs':=#[.int .i64 0,.int .i64 0,.int .i64 0,.int .i64 0,.int .i64 0]) (HR9.out) 0 (.int .i64 0) rfl) 1 (.int .i64 0) rfl) 2 (.int .i64 0) rfl) 3 (.int .i64 0) rfl) 4 (.int .i64 0) rfl
       have z0:=bd bz 0
       have z1:=bd bz 1
       have z2:=bd bz 2
       have z3:=bd bz 3
       have z4:=bd bz 4
       exact bodyPost_ret (v:=.tuple #[.agg #[.int .i64 0,.int .i64 0,.int .i64 0,.int .i64 0,.int .i64 0],.int .i64 (j : Int),.bool false]) (by simp [results,Tryz.results132,go_sem,z0,z1,z2,z3,z4,hu139,hu43]) rfl ⟨rfl,(((((HB9.out).setCell (p:=⟨W.heap.size,0,none⟩) (by first|(simp;done)|(simp;omega)) (.int .i64 0)).setCell (p:=⟨W.heap.size,1,none⟩) (by first|(simp;done)|(simp;omega)) (.int .i64 0)).setCell (p:=⟨W.heap.size,2,none⟩) (by first|(simp;done)|(simp;omega)) (.int .i64 0)).setCell (p:=⟨W.heap.size,3,none⟩) (by first|(simp;done)|(simp;omega)) (.int .i64 0)).setCell (p:=⟨W.heap.size,4,none⟩) (by first|(simp;done)|(simp;omega)) (.int .i64 0)⟩
      ·
       go_wp2
       go_roundw
       case rel => exact ⟨j + 1,lo,hi,by omega,by go_num,HN12,HT12,HLO,HHI,⟨by rw [HQ9.out,if_neg (by omega)];rfl⟩⟩
       case measure => simp [intOf];omega
  ·
   have HE9:=am (show q = (⟨pour,lo,hi⟩,0,true) by rw [HA.out,List.drop_eq_nil_of_le (by omega)];rfl)
   have HR9:=am (blk_below HR2.out HN.out)
   have HB9:=am (below_then HB3.out (below_size HB3.out) HN.out)
   have g0:=bd HT.out 0
   have g1:=bd HT.out 1
   have g2:=bd HT.out 2
   have g3:=bd HT.out 3
   have g4:=bd HT.out 4
   have u0:=bd HR9.out 0
   have fu0:=blk_frozen HR9.out 0
   have u1:=bd HR9.out 1
   have fu1:=blk_frozen HR9.out 1
   have u2:=bd HR9.out 2
   have fu2:=blk_frozen HR9.out 2
   have u3:=bd HR9.out 3
   have fu3:=blk_frozen HR9.out 3
   have u4:=bd HR9.out 4
   have fu4:=blk_frozen HR9.out 4
   go_wp2
   rw [HE9.out]
   have bz:=blk_put (cs':=#[.int .i64 pour,.int .i64 lo.f0,.int .i64 lo.f1,.int .i64 hi.f0,.int .i64 hi.f1]) (blk_put (cs':=#[.int .i64 pour,.int .i64 lo.f0,.int .i64 lo.f1,.int .i64 hi.f0,.int .i64 0]) (blk_put (cs':=#[.int .i64 pour,.int .i64 lo.f0,.int .i64 lo.f1,.int .i64 0,.int .i64 0]) (blk_put (cs':=#[.int .i64 pour,.int .i64 lo.f0,.int .i64 0,.int .i64 0,.int .i64 0]) (blk_put (cs':=#[.int .i64 pour,.int .i64 0,.int .i64 0,.int .i64 0,.int .i64 0]) (HR9.out) 0 (.int .i64 pour) rfl) 1 (.int .i64 lo.f0) rfl) 2 (.int .i64 lo.f1) rfl) 3 (.int .i64 hi.f0) rfl) 4 (.int .i64 hi.f1) rfl
   have z0:=bd bz 0
   have z1:=bd bz 1
   have z2:=bd bz 2
   have z3:=bd bz 3
   have z4:=bd bz 4
   exact bodyPost_ret (v:=.tuple #[.agg #[.int .i64 pour,.int .i64 lo.f0,.int .i64 lo.f1,.int .i64 hi.f0,.int .i64 hi.f1],.int .i64 0,.bool true]) (by simp [results,Tryz.results132,go_sem,z0,z1,z2,z3,z4,hu139,hu43]) rfl ⟨rfl,(((((HB9.out).setCell (p:=⟨W.heap.size,0,none⟩) (by first|(simp;done)|(simp;omega)) (.int .i64 pour)).setCell (p:=⟨W.heap.size,1,none⟩) (by first|(simp;done)|(simp;omega)) (.int .i64 lo.f0)).setCell (p:=⟨W.heap.size,2,none⟩) (by first|(simp;done)|(simp;omega)) (.int .i64 lo.f1)).setCell (p:=⟨W.heap.size,3,none⟩) (by first|(simp;done)|(simp;omega)) (.int .i64 hi.f0)).setCell (p:=⟨W.heap.size,4,none⟩) (by first|(simp;done)|(simp;omega)) (.int .i64 hi.f1)⟩
theorem info139_ : (Tryz.prog.info? 139).map (fun i => (i.zero,i.size,i.bytes)) = some (some (.agg #[.int .i64 0,.int .i64 0,.int .i64 0,.int .i64 0,.int .i64 0]),k139.sz,40):=by kernel_rfl
theorem endOk_valid {r : S43} (h : EndOk r) : validP r = true:=validP_of h.1 (by have:=h.2.1;omega) (by have:=h.2.2;omega)
theorem maxR_ok {a b : S43} (ha : EndOk a) (hb : EndOk b) : EndOk (maxR a b):=by unfold maxR;split <;> assumption
theorem minR_ok {a b : S43} (ha : EndOk a) (hb : EndOk b) : EndOk (minR a b):=by unfold minR;split <;> assumption
theorem barrowD_ok {n : Nat} {Y : Yd} (hw : Wf n Y) {id : Int} (h : Y.barrows.any (isId id) = true) : BarrowOk n Y.pours (barrowD Y id):=by
 obtain ⟨b,hb,hp⟩:=List.any_eq_true.1 h
 unfold barrowD
 cases hf : Y.barrows.find? (isId id) with
|none => exact absurd hp (List.find?_eq_none.1 hf b hb)
|some c => exact hw.barrows c (List.mem_of_find?_eq_some hf)
theorem blameL_ok {n : Nat} {Y : Yd} (hw : Wf n Y) (pour : Int) : ∀ (l : List S137) (lo hi : S43) (i : Int),(∀ x ∈ l,Y.barrows.any (isId x.f0) = true ∧ milleP x.f1 = true) → EndOk lo → EndOk hi →
  (blameL Y pour lo hi i l).2.2 = true → (blameL Y pour lo hi i l).1.f0 = pour ∧ EndOk (blameL Y pour lo hi i l).1.f1 ∧ EndOk (blameL Y pour lo hi i l).1.f2
|[],lo,hi,i,_,h1,h2,_ => ⟨rfl,h1,h2⟩
|x :: r,lo,hi,i,hp,h1,h2,h => by
  have hx:=hp x List.mem_cons_self
  have hr : ∀ y ∈ r,Y.barrows.any (isId y.f0) = true ∧ milleP y.f1 = true:=fun y hy => hp y (List.mem_cons_of_mem _ hy)
  obtain ⟨s1,s2,s3⟩:=shareP_bnd (barrowD_ok hw hx.1) pour
  simp only [blameL] at h ⊢
  split at h
  ·rename_i hz
   rw [if_pos hz]
   split at h
   ·cases h
   ·rename_i hm
    rw [if_neg hm]
    exact blameL_ok hw pour r lo hi (i + 1) hr h1 h2 h
  ·rename_i hz
   rw [if_neg hz]
   obtain ⟨m0,m1,m2,m3⟩:=milleP_of hx.2
   have hs1 : 1 ≤ (shareP (barrowD Y x.f0) pour).f0:=by have:=s1.1;omega
   have e1:=(endP_ok m0 m1 s1 s2 s3 hs1).1
   have e2:=(endP_ok m2 m3 s1 s2 s3 hs1).1
   split at h
   ·cases h
   ·rename_i hc
    rw [if_neg hc]
    exact blameL_ok hw pour r _ _ (i + 1) hr (maxR_ok e1 h1) (minR_ok e2 h2) h
theorem blamedP_ok {n : Nat} {Y : Yd} (hw : Wf n Y) {pour : Int} {l : List S137} (hp : ∀ x ∈ l,Y.barrows.any (isId x.f0) = true ∧ milleP x.f1 = true) (h : (blamedP Y l pour).2.2 = true) :
  (blamedP Y l pour).1.f0 = pour ∧ EndOk (blamedP Y l pour).1.f1 ∧ EndOk (blamedP Y l pour).1.f2 :=
 blameL_ok hw pour l _ _ 0 hp ⟨wholeP_ok (by decide),by decide,by decide⟩ ⟨wholeP_ok (by decide),by decide,by decide⟩ h
theorem probesE_ok {Y : Yd} {l : List S137} (h : probesE Y l = 0) : l.length ≤ 20 ∧ ∀ x ∈ l,Y.barrows.any (isId x.f0) = true ∧ milleP x.f1 = true:=by
 unfold probesE at h
 split at h
 ·rename_i h1
  exact ⟨h1,fun g hg => askL_mille h g hg⟩
 ·cases h
def culpP (Y : Yd) (l : List S137) (ps : List Int) : List S139:=(ps.filter fun p => (blamedP Y l p).2.2).map fun p => (blamedP Y l p).1
theorem culpP_snoc {Y : Yd} {l : List S137} {ps : List Int} {j : Nat} (h : j < ps.length) : culpP Y l (ps.take (j + 1)) = culpP Y l (ps.take j) ++ (if (blamedP Y l (rd ps (j : Int))).2.2 = true then [(blamedP Y l (rd ps (j : Int))).1] else []):=by
 rw [List.take_succ_eq_append_getElem h]
 have hrd : rd ps (j : Int) = ps[j]:=by unfold rd;rw [Int.toNat_natCast,List.getD_eq_getElem?_getD,List.getElem?_eq_getElem h];rfl
 rw [hrd]
 unfold culpP
 rw [List.filter_append,List.map_append,List.filter_cons,List.filter_nil]
 split <;> rfl
def CulpPost (W : World) (r : Except (Int × Int) Yd) (l : List S137) (e : Ending) (W' : World) : Prop :=
 Below W.heap.size W W' ∧ (match r with
 |.error x => e = .returned (.tuple #[.slice none 0 0,.int .i64 x.1])
 |.ok Y => if probesE Y l = 0 then ∃ (A3 : Option Addr) (c3 : Nat),e = .returned (.tuple #[.slice A3 (culpP Y l Y.pours).length c3,.int .i64 0]) ∧ (culpP Y l Y.pours).length ≤ c3 ∧ Kd.C k139 W' A3 (culpP Y l Y.pours).length (culpP Y l Y.pours)
   else e = .returned (.tuple #[.slice none 0 0,.int .i64 (probesE Y l)]))
set_option maxRecDepth 100000 in
set_option maxHeartbeats 2000000 in
theorem culprits_calls (A A2 : Option Addr) (c c2 : Nat) (rooms : List Int) (stirs : List S84) (W : World) (lo : Nat) (hlo : lo ≤ W.heap.size) (hC : Kd.F (Kd.int .i64) W (fun k => k < lo) A rooms.length rooms) (hc : rooms.length ≤ c) (hS : Kd.C k84 W A2 stirs.length stirs) (hc2 : stirs.length ≤ c2) (B : Option Addr) (cb : Nat) (l : List S137) (hL : Kd.C k137 W B l.length l) (hlb : l.length ≤ cb) :
  Calls Tryz.prog 56 #[.agg #[.slice A rooms.length c,.slice A2 stirs.length c2],.slice B l.length cb] W fun e W' => CulpPost W (playedP rooms stirs stirs.length) l e W':=by
 have hu:=Tryz.underlying32
 have hu139:=Tryz.underlying139
 have hu43:=Tryz.underlying43
 have HC:=am (hC)
 have HS:=am (hS)
 have HL:=am (hL)
 have HB:=am (Below.refl W.heap.size W)
 have HC1:=am (Kd.F_alloc HC.out (.cells #[.slice A rooms.length c,.slice A2 stirs.length c2] 32))
 have HS1:=am (Kd.C_alloc HS.out (.cells #[.slice A rooms.length c,.slice A2 stirs.length c2] 32))
 have HL1:=am (Kd.C_alloc HL.out (.cells #[.slice A rooms.length c,.slice A2 stirs.length c2] 32))
 have HB1:=am (below_alloc HB.out (.cells #[.slice A rooms.length c,.slice A2 stirs.length c2] 32))
 clear hC hS hL
 obtain ⟨r,hr⟩ : ∃ r,r = playedP rooms stirs stirs.length:=⟨_,rfl⟩
 rw [← hr]
 have HQP:=am hr.symm
 clear hr
 go_enter Tryz.func56,Tryz.ntmps56
 go_wp2_with fail
 refine (probed_calls A A2 c c2 rooms stirs _ lo (Nat.le_trans hlo (by simp)) HC1.out hc HS1.out hc2 B cb l HL1.out hlb).mono ?_
 rintro e w1 ⟨hb,h⟩
 rw [HQP.out] at h
 have HL2:=am (Kd.C_below HL1.out hb)
 have HB2:=am (below_then HB1.out (below_size HB1.out) hb)
 clear hb
 cases r with
|error x =>
  subst h
  have hx : ¬ x.1 = 0:=playedP_code HQP.out
  go_wp2
  go_ret2
  exact ⟨HB2.out,rfl⟩
|ok Y =>
  dsimp only at h
  by_cases hg0 : ¬ probesE Y l = 0
  ·
   rw [if_neg hg0] at h
   subst h
   obtain ⟨ge,hge⟩ : ∃ ge,ge = probesE Y l:=⟨_,rfl⟩
   rw [← hge] at hg0 ⊢
   have HGE:=am hge
   clear hge
   have HG0:=am hg0
   go_wp2
   go_ret2
   refine ⟨HB2.out,?_⟩
   dsimp only
   rw [← HGE.out,if_neg HG0.out]
   rfl
  ·
   have hg0:=Decidable.not_not.1 hg0
   rw [if_pos hg0] at h
   have HG0:=am hg0
   have HPK:=am (probesE_ok hg0).2
   clear hg0
   obtain ⟨L,base,hbase,hbad,rfl,hY⟩:=h
   have HWF:=am (played_wf HQP.out)
   have HSL:=am (played_ok HQP.out).2.1
   obtain ⟨Ao,co,ho,hlo',hCo⟩:=Kd.R_reads hY.pours
   have hBg:=hY.blk
   rw [ho] at hBg
   have hnp:=HWF.out.npours
   have hsl:=HSL.out
   have HO:=am (hCo)
   have HY:=am (hY)
   have BG:=am (hBg)
   have g2:=bd BG.out 2
   clear hY ho hCo hBg hbase hbad
   go_wp2
   clear g2
   go_loopw [8,28] (fun v8 v28 wr => ∃ (j : Nat),j ≤ Y.pours.length ∧ v28 = .int .i64 (j : Int) ∧ Aside0 (Below w1.heap.size w1 wr) ∧ Aside0 (k139.R 139 wr w1.heap.size (fun _ => True) v8 (culpP Y l (Y.pours.take j)))) (fun _ v28 _ => Y.pours.length - (intOf v28).toNat)
   case atStart => exact ⟨0,Nat.zero_le _,rfl,⟨Below.refl _ _⟩,⟨Kd.R_nil _ _ _ _ _⟩⟩
   case round =>
    obtain ⟨j,hj,rfl,HN,HV⟩:=hrel
    obtain ⟨qq,hqq⟩ : ∃ qq,qq = culpP Y l (Y.pours.take j):=⟨_,rfl⟩
    have hql : qq.length ≤ j:=by rw [hqq];unfold culpP;rw [List.length_map];exact Nat.le_trans (List.length_filter_le _ _) (by rw [List.length_take];omega)
    rw [← hqq] at HV
    have HQQ:=am hqq
    clear hqq
    obtain ⟨Av,cv,rfl⟩:=Kd.R_slice HV.out
    by_cases hlt : j < Y.pours.length
    ·
     have HT:=am (culpP_snoc (Y:=Y) (l:=l) hlt)
     rw [← HQQ.out] at HT
     obtain ⟨ae,e,hx0⟩:=Kd.at_int (Kd.C_below HO.out HN.out) (j : Int) (by omega) (by omega)
     cases e
     rw [Int.toNat_natCast] at hx0
     obtain ⟨p,hp⟩ : ∃ p,p = rd Y.pours (j : Int):=⟨_,rfl⟩
     rw [← hp] at hx0 HT
     clear hp
     have HQL:=am hql
     clear hql
     go_wp2_with fail
     refine (blamed_calls (HY.out.move HN.out) HWF.out HSL.out B cb l (Kd.C_below HL2.out HN.out) hlb HPK.out p).mono ?_
     rintro e w5 ⟨rfl,hb⟩
     have HN1:=am (below_then HN.out (below_size HN.out) hb)
     have HV1:=am (Kd.R_below HV.out hb)
     clear hb hx0
     obtain ⟨bl,hbl⟩ : ∃ bl,bl = blamedP Y l p:=⟨_,rfl⟩
     rw [← hbl] at HT ⊢
     have HBL:=am hbl
     clear hbl
     obtain ⟨b,i,is⟩:=bl
     cases is with
    |false =>
      have HN2:=am (below_alloc HN1.out (.cells #[.int .i64 b.f0,.int .i64 b.f1.f0,.int .i64 b.f1.f1,.int .i64 b.f2.f0,.int .i64 b.f2.f1] 139))
      have HV2:=am (Kd.R_alloc HV1.out (.cells #[.int .i64 b.f0,.int .i64 b.f1.f0,.int .i64 b.f1.f1,.int .i64 b.f2.f0,.int .i64 b.f2.f1] 139))
      go_wp2
      go_roundw
      case rel => exact ⟨j + 1,by omega,by go_num,HN2,⟨by rw [HT.out,if_neg (by simp),List.append_nil];exact HV2.out⟩⟩
      case measure => simp [intOf];omega
    |true =>
      have hok:=blamedP_ok HWF.out HPK.out (pour:=p) (by rw [← HBL.out])
      rw [← HBL.out] at hok
      have HVA:=am (show pit_valid.f FU b.f1.f0 b.f1.f1 = some true by rw [valid_some];exact congrArg some (endOk_valid hok.2.1))
      have HVB:=am (show pit_valid.f FU b.f2.f0 b.f2.f1 = some true by rw [valid_some];exact congrArg some (endOk_valid hok.2.2))
      clear hok
      have HN2:=am (below_alloc HN1.out (.cells #[.int .i64 b.f0,.int .i64 b.f1.f0,.int .i64 b.f1.f1,.int .i64 b.f2.f0,.int .i64 b.f2.f1] 139))
      have HV2:=am (Kd.R_alloc HV1.out (.cells #[.int .i64 b.f0,.int .i64 b.f1.f0,.int .i64 b.f1.f1,.int .i64 b.f2.f0,.int .i64 b.f2.f1] 139))
      have HX:=am (blk_new w5 (.cells #[.int .i64 b.f0,.int .i64 b.f1.f0,.int .i64 b.f1.f1,.int .i64 b.f2.f0,.int .i64 b.f2.f1] 139))
      go_wp2_with fail
      refine (pit_valid.calls FU _ _ _ _ HVA.out).mono ?_
      rintro e w6 ⟨rfl,hb⟩
      have HN3:=am (below_then HN2.out (below_size HN2.out) hb)
      have HV3:=am (Kd.R_below HV2.out hb)
      have HX1:=am (blk_below HX.out hb)
      clear hb
      have g3:=bd HX1.out 3
      have g4:=bd HX1.out 4
      go_wp2_with fail
      refine (pit_valid.calls FU _ _ _ _ HVB.out).mono ?_
      rintro e w7 ⟨rfl,hb⟩
      have HN4:=am (below_then HN3.out (below_size HN3.out) hb)
      have HV4:=am (Kd.R_below HV3.out hb)
      have HX2:=am (blk_below HX1.out hb)
      clear hb g3 g4
      have k0:=bd HX2.out 0
      have k1:=bd HX2.out 1
      have k2:=bd HX2.out 2
      have k3:=bd HX2.out 3
      have k4:=bd HX2.out 4
      have HZ:=am (HN4.out.size)
      go_wp2_with (at_builtin;refine Kd.R_append k139 (w0:=w1) w1.heap.size rfl _ _ 117 139 (.agg #[.int .i64 0,.int .i64 0,.int .i64 0,.int .i64 0,.int .i64 0]) 40 rfl Tryz.underlying117 info139_ rfl (by decide) (by decide) (.slice Av qq.length cv) qq b [.int .i64 b.f0,.int .i64 b.f1.f0,.int .i64 b.f1.f1,.int .i64 b.f2.f0,.int .i64 b.f2.f1] (fun _ => True) (fun _ => False) rfl rfl (k139_mkM _ _ _ b) (fun _ h => h.elim) (fun _ _ => trivial) HV4.out HN4.out HZ.out (by have:=HQL.out;omega) ?_;intro v3 w8 hr3 hb3 hg3 hat3;have HR3:=am hr3;have HB3:=am hb3;clear hr3 hb3 hg3 hat3 k0 k1 k2 k3 k4)
      go_roundw
      case rel => exact ⟨j + 1,by omega,by go_num,HB3,⟨by rw [HT.out];simp only [if_true];exact HR3.out⟩⟩
      case measure => simp [intOf];omega
    ·
     have hje : j = Y.pours.length:=by omega
     have HE:=am (show qq = culpP Y l Y.pours by rw [HQQ.out,hje,List.take_length])
     have HB9:=am (below_then HB2.out (below_size HB2.out) HN.out)
     go_wp2
     go_ret2
     refine ⟨HB9.out,?_⟩
     dsimp only
     rw [if_pos HG0.out,← HE.out]
     exact ⟨Av,cv,rfl,(Kd.R_reads' HV.out).2.1,(Kd.R_reads' HV.out).2.2⟩
theorem eqA43 (d : Nat) (w : World) (x0 y0 : Int) (x1 y1 : Int) :
  (Op.equalIn (d + 2) 43 (.agg #[.int .i64 x0,.int .i64 x1]) (.agg #[.int .i64 y0,.int .i64 y1])).run Tryz.prog w = .ok (x0 == y0 && (x1 == y1)) w:=by
 refine eqA_of Tryz.underlying43 kr ?_
 refine eqf_cons (by rfl) (by go_simp;rfl) (by go_simp;rfl) (by go_simp) ?_
 exact eqf_last (by rfl) (by go_simp;rfl) (by go_simp;rfl) (by go_simp)
theorem eqA89 (d : Nat) (w : World) (x0 y0 : Int) (x1 y1 : Int) (x2 y2 : Int) :
  (Op.equalIn (d + 3) 89 (.agg #[.int .i64 x0,.int .i64 x1,.int .i64 x2]) (.agg #[.int .i64 y0,.int .i64 y1,.int .i64 y2])).run Tryz.prog w = .ok (x0 == y0 && ((x1 == y1 && (x2 == y2)))) w:=by
 refine eqA_of Tryz.underlying89 kr ?_
 refine eqf_cons (by rfl) (by go_simp;rfl) (by go_simp;rfl) (by go_simp) ?_
 exact eqf_last (by rfl) (by go_simp) (by go_simp) (eqA43 (d + 0) w _ _ _ _)
set_option maxRecDepth 100000 in
theorem has226_calls (A : Option Addr) (c : Nat) (l : List S89) (p : S89 → Bool) (K : Nat) (caps : Array Value) (Inv : World → Prop) (W : World) (hr : Kd.C k89 W A l.length l) (hc : l.length ≤ c)
  (ek : ∀ args w,(callFunc K args).run Tryz.prog w = .ok (.enter K args) w) (hi0 : Inv W) (hi1 : ∀ w w',Inv w → Below w.heap.size w w' → Inv w')
  (hcl : ∀ (x : S89) (w : World),x ∈ l → Inv w → Calls Tryz.prog K (#[.agg #[.int .i64 x.f0,.int .i64 x.f1.f0,.int .i64 x.f1.f1]] ++ caps) w fun e w' => e = .returned (.bool (p x)) ∧ Below w.heap.size w w') :
  Calls Tryz.prog 226 #[.slice A l.length c,.func (.func K) #[] caps] W fun e W' => e = .returned (.bool (l.any p)) ∧ Below W.heap.size W W':=by
 have HC:=am (idx167_calls A c l p K caps Inv W hr hc ek hi0 hi1 hcl)
 clear hr hc hi0 hi1 hcl
 go_enter Tryz.func226,Tryz.ntmps226
 go_wp2_with fail
 refine HC.out.mono ?_
 rintro e w' ⟨rfl,hd⟩
 have HD:=am hd
 clear hd
 go_wp2
 go_ret
 exact ⟨by rw [← idxP_nn];rfl,HD.out⟩
section
def R246_4.T : Bool × List (List Nat × List Nat):=(true,[([],[]),([],[]),([],[]),([1,2],[1,2]),([3],[3]),([0,4],[0,4])])
def R246_4.B : List Nat:=[0,0,0,6,14,31]
theorem R246_4.tab : rtab .any (opsOf Tryz.f246 4) = R246_4.T:=by kernel_rfl
theorem R246_4.bits : waitsOk R246_4.T.2 R246_4.B = true:=by kernel_rfl
attribute [local go_sem high] eqA89
def eq89 (x y : S89) : Bool:=x.f0 == y.f0 && (x.f1.f0 == y.f1.f0 && x.f1.f1 == y.f1.f1)
def sameP (a b : List S89) : Bool:=decide (a.length = b.length) && !(a.any fun x => !(b.any fun y => eq89 x y))
set_option maxRecDepth 100000 in
set_option maxHeartbeats 2000000 in
theorem idx246_calls (A : Option Addr) (c : Nat) (l : List S89) (a : S89) (W : World) (hr : Kd.C k89 W A l.length l) (hc : l.length ≤ c) :
  Calls Tryz.prog 246 #[.slice A l.length c,.agg #[.int .i64 a.f0,.int .i64 a.f1.f0,.int .i64 a.f1.f1]] W fun e W' => e = .returned (.int .i64 (idxP (eq89 a) l)) ∧ Below W.heap.size W W':=by
 have hu89:=Tryz.underlying89
 have hu43:=Tryz.underlying43
 have hmx:=hr.2.1
 have HC:=am hr
 clear hr
 have HB:=am (Below.refl W.heap.size W)
 have HB1:=am (below_alloc HB.out (.cells #[.int .i64 a.f0,.int .i64 a.f1.f0,.int .i64 a.f1.f1] 89))
 have HX:=am (blk_new W (.cells #[.int .i64 a.f0,.int .i64 a.f1.f0,.int .i64 a.f1.f1] 89))
 go_enter Tryz.func246,Tryz.ntmps246
 go_wp2
 go_loopw [8] (fun v8 wr => ∃ j : Nat,j ≤ l.length ∧ v8 = .int .i64 (j : Int) ∧ Aside0 (∀ i (hi : i < l.length),i < j → eq89 a l[i] = false) ∧ Aside0 (Below (W.alloc (.cells #[.int .i64 a.f0,.int .i64 a.f1.f0,.int .i64 a.f1.f1] 89)).heap.size (W.alloc (.cells #[.int .i64 a.f0,.int .i64 a.f1.f0,.int .i64 a.f1.f1] 89)) wr)) (fun v8 _ => l.length - (intOf v8).toNat)
 case atStart => exact ⟨0,Nat.zero_le _,rfl,⟨fun i _ hi => absurd hi (Nat.not_lt_zero _)⟩,⟨Below.refl _ _⟩⟩
 case round =>
  obtain ⟨j,hj,rfl,HP,HN⟩:=hrel
  by_cases hlt : j < l.length
  ·
   obtain ⟨ad,e,hx0,hx1,hx2⟩:=at_T89 (Kd.C_below (Kd.C_alloc HC.out (.cells #[.int .i64 a.f0,.int .i64 a.f1.f0,.int .i64 a.f1.f1] 89)) HN.out) (j : Int) (by omega) (by omega)
   cases e
   rw [Int.toNat_natCast] at hx0 hx1 hx2
   have hx : rd_T89 l (j : Int) = l[j]:=by unfold rd_T89;rw [Int.toNat_natCast,List.getD_eq_getElem?_getD,List.getElem?_eq_getElem hlt];rfl
   obtain ⟨x,hxx⟩ : ∃ x,x = rd_T89 l (j : Int):=⟨_,rfl⟩
   rw [← hxx] at hx0 hx1 hx2 hx
   have HX0:=am hx
   have HXW:=am (blk_drew (blk_below HX.out HN.out))
   have HND:=am (below_drew HN.out)
   have HE0:=am (pw_cell_below (below_drew (Below.refl _ _)) hx0)
   have HE1:=am (pw_cell_below (below_drew (Below.refl _ _)) hx1)
   have HE2:=am (pw_cell_below (below_drew (Below.refl _ _)) hx2)
   clear hx hxx hx0 hx1 hx2
   obtain ⟨k,hk⟩ : ∃ k,k = eq89 a x:=⟨_,rfl⟩
   have HK:=am hk
   have hk2 : (a.f0 == x.f0 && (a.f1.f0 == x.f1.f0 && a.f1.f1 == x.f1.f1)) = k:=hk.symm
   clear hk
   cases k
   ·skip
    go_wp2
    refine start_ (n:=6) (S:=fun w' => w'.cell? ⟨W.heap.size,0,none⟩ = some (.int .i64 a.f0) ∧ w'.cell? ⟨W.heap.size,1,none⟩ = some (.int .i64 a.f1.f0) ∧ w'.cell? ⟨W.heap.size,2,none⟩ = some (.int .i64 a.f1.f1) ∧ w'.cell? (ad.add (j * 3)) = some (.int .i64 x.f0) ∧ w'.cell? ⟨(ad.add (j * 3)).block,(ad.add (j * 3)).off + 1,none⟩ = some (.int .i64 x.f1.f0) ∧ w'.cell? ⟨(ad.add (j * 3)).block,(ad.add (j * 3)).off + 2,none⟩ = some (.int .i64 x.f1.f1)) (ds:=[]) (ab 6 0) kr rfl kr ⟨(blk_cell HXW.out 0).trans rfl,(blk_cell HXW.out 1).trans rfl,(blk_cell HXW.out 2).trans rfl,HE0.out,HE1.out,HE2.out⟩ (fun hHeld => ?_);refine with_tabW R246_4.tab R246_4.bits (fun HT_ HW_ => ?_)
    generalize (wr).drew = wd at HXW HND HE0 HE1 HE2 hHeld ⊢
    refine qT 0 (some 11) ?_;refine qA 1 (some 12) ?_;refine qA 2 (some 13) ?_;refine qA 3 (some 14) ?_;refine qT 4 (some 15) ?_;refine qA 5 (some 16) ?_
    refine done_ (done_of HT_.out kr) ?_
    go_wp2
    go_roundw
    case rel =>
     refine ⟨j + 1,by omega,by go_num,⟨fun i hi hij => ?_⟩,HND⟩
     by_cases ei : i = j
     ·subst ei;rw [← HX0.out];exact HK.out.symm
     ·exact HP.out i hi (by omega)
    case measure => simp [intOf];omega
   ·skip
    go_wp2
    refine start_ (n:=6) (S:=fun w' => w'.cell? ⟨W.heap.size,0,none⟩ = some (.int .i64 a.f0) ∧ w'.cell? ⟨W.heap.size,1,none⟩ = some (.int .i64 a.f1.f0) ∧ w'.cell? ⟨W.heap.size,2,none⟩ = some (.int .i64 a.f1.f1) ∧ w'.cell? (ad.add (j * 3)) = some (.int .i64 x.f0) ∧ w'.cell? ⟨(ad.add (j * 3)).block,(ad.add (j * 3)).off + 1,none⟩ = some (.int .i64 x.f1.f0) ∧ w'.cell? ⟨(ad.add (j * 3)).block,(ad.add (j * 3)).off + 2,none⟩ = some (.int .i64 x.f1.f1)) (ds:=[]) (ab 6 0) kr rfl kr ⟨(blk_cell HXW.out 0).trans rfl,(blk_cell HXW.out 1).trans rfl,(blk_cell HXW.out 2).trans rfl,HE0.out,HE1.out,HE2.out⟩ (fun hHeld => ?_);refine with_tabW R246_4.tab R246_4.bits (fun HT_ HW_ => ?_)
    generalize (wr).drew = wd at HXW HND HE0 HE1 HE2 hHeld ⊢
    refine qT 0 (some 11) ?_;refine qA 1 (some 12) ?_;refine qA 2 (some 13) ?_;refine qA 3 (some 14) ?_;refine qT 4 (some 15) ?_;refine qA 5 (some 16) ?_
    refine done_ (done_of HT_.out kr) ?_
    go_wp2
    go_ret
    exact ⟨by rw [idxP_found (p:=eq89 a) hlt (by rw [← HX0.out];exact HK.out.symm) HP.out];rfl,below_then HB1.out (below_size HB1.out) HND.out⟩
  ·
   go_wp2
   go_ret
   exact ⟨by rw [idxP_none (p:=eq89 a) (fun i hi => HP.out i hi (by omega))];rfl,below_then HB1.out (below_size HB1.out) HN.out⟩
set_option maxRecDepth 100000 in
set_option maxHeartbeats 2000000 in
theorem cont228_calls (A : Option Addr) (c : Nat) (l : List S89) (a : S89) (W : World) (hr : Kd.C k89 W A l.length l) (hc : l.length ≤ c) :
  Calls Tryz.prog 228 #[.slice A l.length c,.agg #[.int .i64 a.f0,.int .i64 a.f1.f0,.int .i64 a.f1.f1]] W fun e W' => e = .returned (.bool (l.any (eq89 a))) ∧ Below W.heap.size W W':=by
 have hu89:=Tryz.underlying89
 have hu43:=Tryz.underlying43
 have HC:=am (Kd.C_alloc hr (.cells #[.int .i64 a.f0,.int .i64 a.f1.f0,.int .i64 a.f1.f1] 89))
 have HB:=am (below_alloc (Below.refl W.heap.size W) (.cells #[.int .i64 a.f0,.int .i64 a.f1.f0,.int .i64 a.f1.f1] 89))
 clear hr
 have hnn:=idxP_nn (p:=eq89 a) (l:=l)
 obtain ⟨i,hi⟩ : ∃ i,i = idxP (eq89 a) l:=⟨_,rfl⟩
 rw [← hi] at hnn
 have HI:=am hi.symm
 have HNN:=am hnn
 clear hi hnn
 go_enter Tryz.func228,Tryz.ntmps228
 go_wp2_with fail
 refine (idx246_calls A c l a _ HC.out hc).mono ?_
 rintro e w1 ⟨rfl,hb⟩
 rw [HI.out]
 have HB1:=am (below_then HB.out (below_size HB.out) hb)
 clear hb
 go_wp2
 go_ret
 exact ⟨by rw [← HNN.out];rfl,HB1.out⟩
set_option maxRecDepth 100000 in
set_option maxHeartbeats 2000000 in
theorem cl227_calls (B : Option Addr) (c : Nat) (l : List S89) (gb : Nat) (x : S89) (w : World) (hr : Kd.C k89 w B l.length l) (hc : l.length ≤ c) (hgb : w.heap[gb]? = some (.cells #[.slice B l.length c] 55 (0,0))) :
  Calls Tryz.prog 227 (#[.agg #[.int .i64 x.f0,.int .i64 x.f1.f0,.int .i64 x.f1.f1]] ++ #[.pointer (some ⟨gb,0,none⟩)]) w fun e w' => e = .returned (.bool (!(l.any (eq89 x)))) ∧ Below w.heap.size w w':=by
 have hu89:=Tryz.underlying89
 have hu43:=Tryz.underlying43
 have HC:=am (Kd.C_alloc hr (.cells #[.int .i64 x.f0,.int .i64 x.f1.f0,.int .i64 x.f1.f1] 89))
 have HB:=am (below_alloc (Below.refl w.heap.size w) (.cells #[.int .i64 x.f0,.int .i64 x.f1.f0,.int .i64 x.f1.f1] 89))
 have g0 : (w.alloc (.cells #[.int .i64 x.f0,.int .i64 x.f1.f0,.int .i64 x.f1.f1] 89)).cell? ⟨gb,0,none⟩ = some (.slice B l.length c):=(blk_cell (blk_alloc hgb (.cells #[.int .i64 x.f0,.int .i64 x.f1.f0,.int .i64 x.f1.f1] 89)) 0).trans rfl
 clear hr hgb
 obtain ⟨k,hk⟩ : ∃ k,k = l.any (eq89 x):=⟨_,rfl⟩
 have HK:=am hk
 rw [← hk]
 clear hk
 go_enter Tryz.func227,Tryz.ntmps227
 go_wp2_with fail
 refine (cont228_calls B c l x _ HC.out hc).mono ?_
 rintro e w1 ⟨rfl,hb⟩
 rw [← HK.out]
 have HB1:=am (below_then HB.out (below_size HB.out) hb)
 clear hb
 go_wp2
 go_ret
 exact ⟨rfl,HB1.out⟩
set_option maxRecDepth 100000 in
set_option maxHeartbeats 2000000 in
theorem same_calls (A B : Option Addr) (c d : Nat) (l m : List S89) (W : World) (hr : Kd.C k89 W A l.length l) (hc : l.length ≤ c) (hs : Kd.C k89 W B m.length m) (hd : m.length ≤ d) :
  Calls Tryz.prog 178 #[.slice A l.length c,.slice B m.length d] W fun e W' => e = .returned (.bool (sameP l m)) ∧ Below W.heap.size W W':=by
 have hmf : ∀ (fn : Fn) (first cap : Array Value) (w : World),(Instr.makeFunc fn first cap).run Tryz.prog w = .ok (.func fn first cap) w:=fun _ _ _ _ => rfl
 have hmx:=hr.2.1
 have hmy:=hs.2.1
 have HC:=am (hr)
 have HD:=am (hs)
 have HB:=am (Below.refl W.heap.size W)
 have HC1:=am (Kd.C_alloc HC.out (.cells #[.slice B m.length d] 55))
 have HD1:=am (Kd.C_alloc HD.out (.cells #[.slice B m.length d] 55))
 have HB1:=am (below_alloc HB.out (.cells #[.slice B m.length d] 55))
 have HX:=am (blk_new W (.cells #[.slice B m.length d] 55))
 clear hr hs
 obtain ⟨k,hk⟩ : ∃ k,k = l.any (fun x => !(m.any (eq89 x))):=⟨_,rfl⟩
 have HS:=am (show sameP l m = (decide (l.length = m.length) && !k) by rw [hk];rfl)
 have HH:=am (has226_calls A c l (fun x => !(m.any (eq89 x))) 227 #[.pointer (some ⟨W.heap.size,0,none⟩)] (fun w => Below (W.alloc (.cells #[.slice B m.length d] 55)).heap.size (W.alloc (.cells #[.slice B m.length d] 55)) w) (W.alloc (.cells #[.slice B m.length d] 55)) HC1.out hc (enters_of Tryz.func227 kr rfl) (Below.refl _ _) (fun w w' h hb => below_then h (below_size h) hb) (fun x w _ h => cl227_calls B d m W.heap.size x w (Kd.C_below HD1.out h) hd (blk_below HX.out h)))
 rw [← hk] at HH
 clear hk
 go_enter Tryz.func178,Tryz.ntmps178
 by_cases hlen : l.length = m.length
 ·
  have HE:=am (show sameP l m = !k by rw [HS.out,decide_eq_true hlen,Bool.true_and])
  have hq : ((l.length : Int) == (m.length : Int)) = true:=by simp [hlen]
  clear hlen
  go_wp2_with fail
  refine HH.out.mono ?_
  rintro e w1 ⟨rfl,hb⟩
  have HB9:=am (below_then HB1.out (below_size HB1.out) hb)
  clear hb
  go_wp2
  go_ret
  exact ⟨by rw [HE.out];rfl,HB9.out⟩
 ·
  have HE:=am (show sameP l m = false by rw [HS.out,decide_eq_false hlen,Bool.false_and])
  have hq : ((l.length : Int) == (m.length : Int)) = false:=by simp;omega
  clear hlen
  go_wp2
  go_ret
  exact ⟨by rw [HE.out];rfl,HB1.out⟩
end
def eqPar (x y : S212) : Bool:=decide (x.f0 = y.f0) && sameP x.f1 y.f1
def eqAll {α : Type} (p : α → α → Bool) : List α → List α → Bool
|[],[] => true
|x :: a,y :: b => p x y && eqAll p a b
|_,_ => false
theorem eqAll_len {α : Type} {p : α → α → Bool} : ∀ {a b : List α},a.length ≠ b.length → eqAll p a b = false
|[],[],h => absurd rfl h
|[],_ :: _,_ => rfl
|_ :: _,[],_ => rfl
|x :: a,y :: b,h => by
  simp only [eqAll]
  rw [eqAll_len (a:=a) (b:=b) (by simpa using h),Bool.and_false]
set_option maxRecDepth 100000 in
set_option maxHeartbeats 2000000 in
theorem cl182_calls (A B : Option Addr) (c d : Nat) (x y : S212) (W : World) (hr : Kd.C k89 W A x.f1.length x.f1) (hc : x.f1.length ≤ c) (hs : Kd.C k89 W B y.f1.length y.f1) (hd : y.f1.length ≤ d) :
  Calls Tryz.prog 182 #[.agg #[.int .i64 x.f0,.slice A x.f1.length c],.agg #[.int .i64 y.f0,.slice B y.f1.length d]] W fun e W' => e = .returned (.bool (eqPar x y)) ∧ Below W.heap.size W W':=by
 have hu212:=Tryz.underlying212
 have HC:=am (hr)
 have HD:=am (hs)
 have HB:=am (Below.refl W.heap.size W)
 have HC1:=am (Kd.C_alloc HC.out (.cells #[.int .i64 x.f0,.slice A x.f1.length c] 212))
 have HD1:=am (Kd.C_alloc HD.out (.cells #[.int .i64 x.f0,.slice A x.f1.length c] 212))
 have HB1:=am (below_alloc HB.out (.cells #[.int .i64 x.f0,.slice A x.f1.length c] 212))
 have HC2:=am (Kd.C_alloc HC1.out (.cells #[.int .i64 y.f0,.slice B y.f1.length d] 212))
 have HD2:=am (Kd.C_alloc HD1.out (.cells #[.int .i64 y.f0,.slice B y.f1.length d] 212))
 have HB2:=am (below_alloc HB1.out (.cells #[.int .i64 y.f0,.slice B y.f1.length d] 212))
 have HX:=am (blk_alloc (blk_new W (.cells #[.int .i64 x.f0,.slice A x.f1.length c] 212)) (.cells #[.int .i64 y.f0,.slice B y.f1.length d] 212))
 clear hr hs
 have hx0:=bd HX.out 0
 have hx1:=bd HX.out 1
 by_cases h0 : x.f0 = y.f0
 ·
  have hq : (x.f0 == y.f0) = true:=by simp [h0]
  have HE:=am (show eqPar x y = sameP x.f1 y.f1 by unfold eqPar;rw [decide_eq_true h0,Bool.true_and])
  clear h0
  go_enter Tryz.func182,Tryz.ntmps182
  go_wp2_with fail
  refine (same_calls A B c d x.f1 y.f1 _ HC2.out hc HD2.out hd).mono ?_
  rintro e w1 ⟨rfl,hb⟩
  have HB9:=am (below_then HB2.out (below_size HB2.out) hb)
  clear hb
  obtain ⟨k,hk⟩ : ∃ k,k = sameP x.f1 y.f1:=⟨_,rfl⟩
  rw [← hk] at HE ⊢
  clear hk hx0 hx1
  go_wp2
  go_ret
  exact ⟨by rw [HE.out];rfl,HB9.out⟩
 ·
  have hq : (x.f0 == y.f0) = false:=by simpa using h0
  have HE:=am (show eqPar x y = false by unfold eqPar;rw [decide_eq_false h0,Bool.false_and])
  clear h0
  go_enter Tryz.func182,Tryz.ntmps182
  go_wp2
  go_ret
  exact ⟨by rw [HE.out];rfl,HB2.out⟩
theorem drop_rd212 {l : List S212} {j : Nat} (h : j < l.length) : l.drop j = rd_T212 l (j : Int) :: l.drop (j + 1):=by
 rw [List.drop_eq_getElem_cons h];unfold rd_T212;rw [Int.toNat_natCast,List.getD_eq_getElem?_getD,List.getElem?_eq_getElem h];rfl
set_option maxRecDepth 100000 in
set_option maxHeartbeats 2000000 in
theorem eq181_calls (A B : Option Addr) (c d : Nat) (l m : List S212) (W : World) (hr : Kd.C k212 W A l.length l) (hc : l.length ≤ c) (hs : Kd.C k212 W B m.length m) (hd : m.length ≤ d) :
  Calls Tryz.prog 181 #[.slice A l.length c,.slice B m.length d,.func (.func 182) #[] #[]] W fun e W' => e = .returned (.bool (eqAll eqPar l m)) ∧ Below W.heap.size W W':=by
 have hu212:=Tryz.underlying212
 have hmx:=hr.2.1
 have HC:=am hr
 have HD:=am hs
 clear hr hs
 have ek182 : ∀ args w,(callFunc 182 args).run Tryz.prog w = .ok (.enter 182 args) w:=enters_of Tryz.func182 kr rfl
 go_enter Tryz.func181,Tryz.ntmps181
 by_cases hlen : l.length = m.length
 ·
  have hq : ((l.length : Int) == (m.length : Int)) = true:=by simp [hlen]
  have hq2 : ((l.length : Int) != (m.length : Int)) = false:=by simp [hlen]
  have HLN:=am hlen
  have hmc : l.length ≤ d:=by omega
  clear hlen
  obtain ⟨q,hqq⟩ : ∃ q,q = eqAll eqPar l m:=⟨_,rfl⟩
  rw [← hqq]
  have HQ:=am hqq
  clear hqq
  go_wp2
  clear hq hq2
  go_loopw [17] (fun v17 wr => ∃ j : Nat,j ≤ l.length ∧ v17 = .int .i64 (j : Int) ∧ Aside0 (q = eqAll eqPar (l.drop j) (m.drop j)) ∧ Aside0 (Below W.heap.size W wr)) (fun v17 _ => l.length - (intOf v17).toNat)
  case atStart => exact ⟨0,Nat.zero_le _,rfl,⟨HQ.out⟩,⟨Below.refl _ _⟩⟩
  case round =>
   obtain ⟨j,hj,rfl,HA,HN⟩:=hrel
   by_cases hlt : j < l.length
   ·
    have hltm : j < m.length:=by have:=HLN.out;omega
    obtain ⟨ae,A1,c1,e,hx0,hx1,hl1,hC1⟩:=at_T212 (Kd.C_below HC.out HN.out) (j : Int) (by omega) (by omega)
    cases e
    obtain ⟨be,B1,d1,e,hy0,hy1,hl2,hC2⟩:=at_T212 (Kd.C_below HD.out HN.out) (j : Int) (by omega) (by omega)
    cases e
    rw [Int.toNat_natCast] at hx0 hx1 hy0 hy1
    rw [drop_rd212 hlt,drop_rd212 hltm] at HA
    obtain ⟨x,hx⟩ : ∃ x,x = rd_T212 l (j : Int):=⟨_,rfl⟩
    obtain ⟨y,hy⟩ : ∃ y,y = rd_T212 m (j : Int):=⟨_,rfl⟩
    rw [← hx] at hx0 hx1 hl1 hC1 HA
    rw [← hy] at hy0 hy1 hl2 hC2 HA
    clear hx hy
    have hltd:=hltm
    clear hltm
    have hjm : (j : Int) < (m.length : Int):=by omega
    have H1:=am (hC1)
    have H2:=am (hC2)
    have HL1:=am hl1
    have HL2:=am hl2
    clear hC1 hC2 hl1 hl2
    have hz0:=pw_cell_below (below_alloc (Below.refl _ _) (.cells #[.int .i64 x.f0,.slice A1 x.f1.length c1] 212)) hy0
    have hz1:=pw_cell_below (below_alloc (Below.refl _ _) (.cells #[.int .i64 x.f0,.slice A1 x.f1.length c1] 212)) hy1
    have HN1:=am (below_alloc HN.out (.cells #[.int .i64 x.f0,.slice A1 x.f1.length c1] 212))
    have H11:=am (Kd.C_alloc H1.out (.cells #[.int .i64 x.f0,.slice A1 x.f1.length c1] 212))
    have H21:=am (Kd.C_alloc H2.out (.cells #[.int .i64 x.f0,.slice A1 x.f1.length c1] 212))
    have HX:=am (blk_new wr (.cells #[.int .i64 x.f0,.slice A1 x.f1.length c1] 212))
    have HN2:=am (below_alloc HN1.out (.cells #[.int .i64 y.f0,.slice B1 y.f1.length d1] 212))
    have H12:=am (Kd.C_alloc H11.out (.cells #[.int .i64 y.f0,.slice B1 y.f1.length d1] 212))
    have H22:=am (Kd.C_alloc H21.out (.cells #[.int .i64 y.f0,.slice B1 y.f1.length d1] 212))
    have HX1:=am (blk_alloc HX.out (.cells #[.int .i64 y.f0,.slice B1 y.f1.length d1] 212))
    have g0:=bd HX1.out 0
    have g1:=bd HX1.out 1
    obtain ⟨k,hk⟩ : ∃ k,k = eqPar x y:=⟨_,rfl⟩
    have HK:=am hk
    clear hk
    go_wp2_with fail
    refine (cl182_calls A1 B1 c1 d1 x y _ H12.out HL1.out H22.out HL2.out).mono ?_
    rintro e w5 ⟨rfl,hb⟩
    rw [← HK.out]
    have HN3:=am (below_then HN2.out (below_size HN2.out) hb)
    clear hb g0 g1 hx0 hx1 hy0 hy1 hz0 hz1
    cases k with
   |false =>
     go_wp2
     go_ret
     exact ⟨by rw [HA.out];simp only [eqAll];rw [← HK.out];rfl,HN3.out⟩
   |true =>
     go_wp2
     go_roundw
     case rel => exact ⟨j + 1,by omega,by go_num,⟨by rw [HA.out];simp only [eqAll];rw [← HK.out,Bool.true_and]⟩,HN3⟩
     case measure => simp [intOf];omega
   ·
    have HE:=am (show q = true by rw [HA.out,List.drop_eq_nil_of_le (by omega),List.drop_eq_nil_of_le (by have:=HLN.out;omega)];rfl)
    go_wp2
    go_ret
    exact ⟨by rw [HE.out];rfl,HN.out⟩
 ·
  have hq2 : ((l.length : Int) != (m.length : Int)) = true:=by simp;omega
  have HE:=am (eqAll_len (p:=eqPar) hlen)
  clear hlen
  go_wp2
  go_ret
  exact ⟨by rw [HE.out];rfl,Below.refl _ _⟩
set_option maxRecDepth 100000 in
set_option maxHeartbeats 2000000 in
theorem cl180_calls (A B : Option Addr) (c d : Nat) (l m : List S212) (W : World) (hr : Kd.C k212 W A l.length l) (hc : l.length ≤ c) (hs : Kd.C k212 W B m.length m) (hd : m.length ≤ d) :
  Calls Tryz.prog 180 #[.slice A l.length c,.slice B m.length d] W fun e W' => e = .returned (.bool (eqAll eqPar l m)) ∧ Below W.heap.size W W':=by
 have HH:=am (eq181_calls A B c d l m W hr hc hs hd)
 clear hr hs
 go_enter Tryz.func180,Tryz.ntmps180
 go_wp2_with fail
 refine HH.out.mono ?_
 rintro e w1 ⟨rfl,hb⟩
 have HB:=am hb
 clear hb
 go_wp2
 go_ret
 exact ⟨rfl,HB.out⟩
def R125_8.T : Bool × List (List Nat × List Nat):=(true,[([],[]),([0],[0]),([1],[1]),([2],[2]),([],[]),([4],[4]),([5],[5]),([6],[6]),([3,7],[3,7]),([8,8,0,1,2,3,4,5,6,7,8],[8])])
def R125_8.B : List Nat:=[0,1,3,7,0,16,48,112,255,511]
theorem R125_8.tab : rtab .any (opsOf Tryz.f125 8) = R125_8.T:=by kernel_rfl
theorem R125_8.bits : waitsOk R125_8.T.2 R125_8.B = true:=by kernel_rfl
theorem at_pit {w : World} {A : Option Addr} {n : Nat} {xs : List (List S212)} (h : Kd.C (Kd.slice 212 k212) w A n xs) (i : Int) (h0 : 0 ≤ i) (h1 : i < n) : ∃ ad A1 c1,A = some ad ∧ w.cell? (ad.add i.toNat) = some (.slice A1 (xs.getD i.toNat []).length c1) ∧ (xs.getD i.toNat []).length ≤ c1 ∧ Kd.C k212 w A1 (xs.getD i.toNat []).length (xs.getD i.toNat []):=by
 obtain ⟨ad,cs,e,_,hK,hcc⟩:=Kd.C_get h [] i h0 h1
 obtain ⟨A1,c1,rfl,hl,hC⟩:=hK
 have hc:=hcc 0 _ rfl
 have e1 : i.toNat * (Kd.slice 212 k212).sz + 0 = i.toNat:=by show i.toNat * 1 + 0 = _;omega
 rw [e1] at hc
 exact ⟨ad,A1,c1,e,hc,hl,hC⟩
theorem drop_pit {l : List (List S212)} {j : Nat} (h : j < l.length) : l.drop j = l.getD j [] :: l.drop (j + 1):=by
 rw [List.drop_eq_getElem_cons h,List.getD_eq_getElem?_getD,List.getElem?_eq_getElem h];rfl
def alikeOne (b : Yd) (x : S167) : Bool:=match b.barrows.find? (isId x.f0) with
|none => false
|some y => sameP x.f3 y.f3
def alikeP (a b : Yd) : Bool:=a.barrows.all (alikeOne b) && eqAll (eqAll eqPar) a.pits b.pits
theorem drop_rd167 {l : List S167} {j : Nat} (h : j < l.length) : l.drop j = rd_T167 l (j : Int) :: l.drop (j + 1):=by
 rw [List.drop_eq_getElem_cons h];unfold rd_T167;rw [Int.toNat_natCast,List.getD_eq_getElem?_getD,List.getElem?_eq_getElem h];rfl
theorem YardAt.pits_C {W : World} {base : Nat} {L : Loc} {Y : Yd} (h : YardAt W base L Y) : Kd.C (Kd.slice 212 k212) W (some ⟨L.gp,0,none⟩) Y.pits.length Y.pits:=by
 obtain ⟨A,c,e,hl,hC⟩:=Kd.R_reads h.pits
 injection e with e1 e2 e3
 rw [e1]
 exact hC.imp_ (Below.refl _ _) fun _ _ hp => Foot.now hp
set_option maxRecDepth 100000 in
set_option maxHeartbeats 2000000 in
theorem eq179_calls (A B : Option Addr) (c d : Nat) (l m : List (List S212)) (W : World) (hr : Kd.C (Kd.slice 212 k212) W A l.length l) (hc : l.length ≤ c) (hs : Kd.C (Kd.slice 212 k212) W B m.length m) (hd : m.length ≤ d) :
  Calls Tryz.prog 179 #[.slice A l.length c,.slice B m.length d,.func (.func 180) #[] #[]] W fun e W' => e = .returned (.bool (eqAll (eqAll eqPar) l m)) ∧ Below W.heap.size W W':=by
 have hmx:=hr.2.1
 have HC:=am hr
 have HD:=am hs
 clear hr hs
 have ek180 : ∀ args w,(callFunc 180 args).run Tryz.prog w = .ok (.enter 180 args) w:=enters_of Tryz.func180 kr rfl
 go_enter Tryz.func179,Tryz.ntmps179
 by_cases hlen : l.length = m.length
 ·
  have hq : ((l.length : Int) == (m.length : Int)) = true:=by simp [hlen]
  have hq2 : ((l.length : Int) != (m.length : Int)) = false:=by simp [hlen]
  have HLN:=am hlen
  have hmc : l.length ≤ d:=by omega
  clear hlen
  obtain ⟨q,hqq⟩ : ∃ q,q = eqAll (eqAll eqPar) l m:=⟨_,rfl⟩
  rw [← hqq]
  have HQ:=am hqq
  clear hqq
  go_wp2
  clear hq hq2
  go_loopw [17] (fun v17 wr => ∃ j : Nat,j ≤ l.length ∧ v17 = .int .i64 (j : Int) ∧ Aside0 (q = eqAll (eqAll eqPar) (l.drop j) (m.drop j)) ∧ Aside0 (Below W.heap.size W wr)) (fun v17 _ => l.length - (intOf v17).toNat)
  case atStart => exact ⟨0,Nat.zero_le _,rfl,⟨HQ.out⟩,⟨Below.refl _ _⟩⟩
  case round =>
   obtain ⟨j,hj,rfl,HA,HN⟩:=hrel
   by_cases hlt : j < l.length
   ·
    have hltm : j < m.length:=by have:=HLN.out;omega
    obtain ⟨ae,A1,c1,e,hx0,hl1,hC1⟩:=at_pit (Kd.C_below HC.out HN.out) (j : Int) (by omega) (by omega)
    cases e
    obtain ⟨be,B1,d1,e,hy0,hl2,hC2⟩:=at_pit (Kd.C_below HD.out HN.out) (j : Int) (by omega) (by omega)
    cases e
    rw [Int.toNat_natCast] at hx0 hl1 hC1 hy0 hl2 hC2
    rw [drop_pit hlt,drop_pit hltm] at HA
    obtain ⟨x,hx⟩ : ∃ x,x = l.getD j []:=⟨_,rfl⟩
    obtain ⟨y,hy⟩ : ∃ y,y = m.getD j []:=⟨_,rfl⟩
    rw [← hx] at hx0 hl1 hC1 HA
    rw [← hy] at hy0 hl2 hC2 HA
    clear hx hy
    have hjm : (j : Int) < (m.length : Int):=by omega
    have H1:=am (hC1)
    have H2:=am (hC2)
    have HL1:=am hl1
    have HL2:=am hl2
    clear hC1 hC2 hl1 hl2
    obtain ⟨k,hk⟩ : ∃ k,k = eqAll eqPar x y:=⟨_,rfl⟩
    have HK:=am hk
    clear hk
    go_wp2_with fail
    refine (cl180_calls A1 B1 c1 d1 x y _ H1.out HL1.out H2.out HL2.out).mono ?_
    rintro e w5 ⟨rfl,hb⟩
    rw [← HK.out]
    have HN1:=am (below_then HN.out (below_size HN.out) hb)
    clear hb hx0 hy0
    cases k with
   |false =>
     go_wp2
     go_ret
     exact ⟨by rw [HA.out];simp only [eqAll];rw [← HK.out];rfl,HN1.out⟩
   |true =>
     go_wp2
     go_roundw
     case rel => exact ⟨j + 1,by omega,by go_num,⟨by rw [HA.out];simp only [eqAll];rw [← HK.out,Bool.true_and]⟩,HN1⟩
     case measure => simp [intOf];omega
   ·
    have HE:=am (show q = true by rw [HA.out,List.drop_eq_nil_of_le (by omega),List.drop_eq_nil_of_le (by have:=HLN.out;omega)];rfl)
    go_wp2
    go_ret
    exact ⟨by rw [HE.out];rfl,HN.out⟩
 ·
  have hq2 : ((l.length : Int) != (m.length : Int)) = true:=by simp;omega
  have HE:=am (eqAll_len (p:=eqAll eqPar) hlen)
  clear hlen
  go_wp2
  go_ret
  exact ⟨by rw [HE.out];rfl,Below.refl _ _⟩
set_option maxRecDepth 100000 in
set_option maxHeartbeats 2000000 in
theorem alike_calls {W : World} {base base2 n : Nat} {L M : Loc} {Y Z : Yd} (ha : YardAt W base L Y) (hz : YardAt W base2 M Z) (hw2 : Wf n Z) (hn : n ≤ 60) :
  Calls Tryz.prog 125 #[.pointer (some ⟨L.g,0,none⟩),.pointer (some ⟨M.g,0,none⟩)] W fun e W' => e = .returned (.bool (alikeP Y Z)) ∧ Below W.heap.size W W':=by
 have hu167:=Tryz.underlying167
 obtain ⟨Ab,cb,hb,hlb,hCb⟩:=Kd.R_reads ha.barrows
 have hCb' : Kd.C k167 W Ab Y.barrows.length Y.barrows:=hCb.imp_ (Below.refl _ _) fun _ _ hp => Foot.now hp
 have hB:=ha.blk
 rw [hb] at hB
 have hmx:=hCb.2.1
 have hpl:=ha.plen
 have hpz:=hz.plen
 have g4:=bd hB 4
 have HW2:=am hw2
 have HC:=am (hCb')
 have HA:=am (ha)
 have HZ:=am (hz)
 clear ha hz hb hCb hCb' hB hw2
 obtain ⟨q,hqq⟩ : ∃ q,q = alikeP Y Z:=⟨_,rfl⟩
 rw [← hqq]
 have HQ:=am (show q = (Y.barrows.all (alikeOne Z) && eqAll (eqAll eqPar) Y.pits Z.pits) from hqq)
 clear hqq
 go_enter Tryz.func125,Tryz.ntmps125
 go_wp2
 clear g4
 go_loopw [14] (fun v14 wr => ∃ j : Nat,j ≤ Y.barrows.length ∧ v14 = .int .i64 (j : Int) ∧ Aside0 (q = ((Y.barrows.drop j).all (alikeOne Z) && eqAll (eqAll eqPar) Y.pits Z.pits)) ∧ Aside0 (Below W.heap.size W wr)) (fun v14 _ => Y.barrows.length - (intOf v14).toNat)
 case atStart => exact ⟨0,Nat.zero_le _,rfl,⟨HQ.out⟩,⟨Below.refl _ _⟩⟩
 case round =>
  obtain ⟨j,hj,rfl,HT,HN⟩:=hrel
  by_cases hlt : j < Y.barrows.length
  ·
   obtain ⟨ae,A3,c3,e,hx0,hx1,hx2,hx3,hl3,hC3⟩:=at_T167 (Kd.C_below HC.out HN.out) (j : Int) (by omega) (by omega)
   cases e
   rw [Int.toNat_natCast] at hx0 hx1 hx2 hx3
   rw [drop_rd167 hlt,List.all_cons] at HT
   obtain ⟨b,hb⟩ : ∃ b,b = rd_T167 Y.barrows (j : Int):=⟨_,rfl⟩
   rw [← hb] at hx0 hx1 hx2 hx3 hl3 hC3 HT
   clear hb
   have H3:=am (hC3)
   have HL3:=am hl3
   clear hC3 hl3
   have HN1:=am (below_alloc HN.out (.cells #[.int .i64 b.f0,.int .i64 b.f1,.int .i64 b.f2,.slice A3 b.f3.length c3] 167))
   have H31:=am (Kd.C_alloc H3.out (.cells #[.int .i64 b.f0,.int .i64 b.f1,.int .i64 b.f2,.slice A3 b.f3.length c3] 167))
   have HX:=am (blk_new wr (.cells #[.int .i64 b.f0,.int .i64 b.f1,.int .i64 b.f2,.slice A3 b.f3.length c3] 167))
   go_wp2_with fail
   refine (find_calls (HZ.out.move HN1.out) HW2.out hn b.f0).mono ?_
   rintro e w5 ⟨hb,h⟩
   have HN2:=am (below_then HN1.out (below_size HN1.out) hb)
   have H32:=am (Kd.C_below H31.out hb)
   have HX1:=am (blk_below HX.out hb)
   clear hb hx0 hx1 hx2 hx3
   rcases h with ⟨hno,rfl⟩|⟨z,A4,c4,hfd,rfl,hl4,hF4⟩
   ·
    have HE:=am (show q = false by rw [HT.out];unfold alikeOne;rw [find_none_of hno];rfl)
    clear hno
    have HN3:=am (below_alloc HN2.out (.cells #[.int .i64 0,.int .i64 0,.int .i64 0,.slice none 0 0] 167))
    have H33:=am (Kd.C_alloc H32.out (.cells #[.int .i64 0,.int .i64 0,.int .i64 0,.slice none 0 0] 167))
    have HX2:=am (blk_alloc HX1.out (.cells #[.int .i64 0,.int .i64 0,.int .i64 0,.slice none 0 0] 167))
    go_wp2
    go_ret
    exact ⟨by rw [HE.out];rfl,HN3.out⟩
   ·
    have HAO:=am (show alikeOne Z b = sameP b.f3 z.f3 by unfold alikeOne;rw [hfd])
    have HL4:=am hl4
    have H4:=am (Kd.F_now hF4)
    clear hfd hl4 hF4
    have HN3:=am (below_alloc HN2.out (.cells #[.int .i64 z.f0,.int .i64 z.f1,.int .i64 z.f2,.slice A4 z.f3.length c4] 167))
    have H33:=am (Kd.C_alloc H32.out (.cells #[.int .i64 z.f0,.int .i64 z.f1,.int .i64 z.f2,.slice A4 z.f3.length c4] 167))
    have HX2:=am (blk_alloc HX1.out (.cells #[.int .i64 z.f0,.int .i64 z.f1,.int .i64 z.f2,.slice A4 z.f3.length c4] 167))
    have H41:=am (Kd.C_alloc H4.out (.cells #[.int .i64 z.f0,.int .i64 z.f1,.int .i64 z.f2,.slice A4 z.f3.length c4] 167))
    have g3:=bd HX2.out 3
    obtain ⟨k,hk⟩ : ∃ k,k = sameP b.f3 z.f3:=⟨_,rfl⟩
    rw [← hk] at HAO
    have HK:=am hk
    clear hk
    go_wp2_with fail
    refine (same_calls A3 A4 c3 c4 b.f3 z.f3 _ H33.out HL3.out H41.out HL4.out).mono ?_
    rintro e w6 ⟨rfl,hb⟩
    rw [← HK.out]
    have HN4:=am (below_then HN3.out (below_size HN3.out) hb)
    clear hb g3
    cases k with
   |false =>
     go_wp2
     go_ret
     exact ⟨by rw [HT.out,HAO.out];rfl,HN4.out⟩
   |true =>
     go_wp2
     go_roundw
     case rel => exact ⟨j + 1,by omega,by go_num,⟨by rw [HT.out,HAO.out,Bool.true_and]⟩,HN4⟩
     case measure => simp [intOf];omega
  ·
   have HE:=am (show q = eqAll (eqAll eqPar) Y.pits Z.pits by rw [HT.out,List.drop_eq_nil_of_le (by omega)];rfl)
   have HBD:=am (below_drew HN.out)
   have HA9:=am (HA.out.move (below_drew HN.out))
   have HZ9:=am (HZ.out.move (below_drew HN.out))
   go_wp2
   refine start_ (n:=10) (S:=fun w' => w'.cell? ⟨L.g,1,none⟩ = some (.slice (some ⟨L.gp,0,none⟩) Y.rooms.length Y.rooms.length) ∧ w'.cell? ⟨M.g,1,none⟩ = some (.slice (some ⟨M.gp,0,none⟩) Z.rooms.length Z.rooms.length)) (ds:=[]) (ab 10 0) kr rfl kr ⟨(blk_cell HA9.out.blk 1).trans rfl,(blk_cell HZ9.out.blk 1).trans rfl⟩ (fun hHeld => ?_);refine with_tabW R125_8.tab R125_8.bits (fun HT_ HW_ => ?_)
   generalize (wr).drew = wd at HBD HA9 HZ9 hHeld ⊢
   refine qA 0 (some 36) ?_;refine qA 1 (some 37) ?_;refine qA 2 (some 38) ?_;refine qT 3 (some 39) ?_;refine qA 4 (some 40) ?_;refine qA 5 (some 41) ?_;refine qA 6 (some 42) ?_;refine qT 7 (some 43) ?_
   refine qE 8 (some 44) fun K hK => ?_
   refine gC Tryz.func179 #[.slice (some ⟨L.gp,0,none⟩) Y.rooms.length Y.rooms.length,.slice (some ⟨M.gp,0,none⟩) Z.rooms.length Z.rooms.length,.func (.func 180) #[] #[]] ?_
   have hh:=eq179_calls (some ⟨L.gp,0,none⟩) (some ⟨M.gp,0,none⟩) Y.rooms.length Z.rooms.length Y.pits Z.pits wd HA9.out.pits_C (by omega) HZ9.out.pits_C (by omega)
   rw [hpl,hpz] at hh
   refine hh.mono ?_
   rintro e w6 ⟨rfl,hb⟩
   have HB6:=am (below_then HBD.out (below_size HBD.out) hb)
   have HA6:=am (HA9.out.move hb)
   have HZ6:=am (HZ9.out.move hb)
   clear hb
   rw [← HE.out]
   refine ⟨_,rfl,?_⟩
   refine hK.out _ _ ⟨(blk_cell HA6.out.blk 1).trans rfl,(blk_cell HZ6.out.blk 1).trans rfl⟩ (fun hHeld => ?_)
   clear hK K
   refine qN (some 44) ?_
   refine qA 9 (some 4) ?_
   refine done_ (done_of HT_.out kr) ?_
   go_wp2
   go_ret
   exact ⟨rfl,HB6.out⟩
theorem at_pitF {W0 w : World} {ok0 : Nat → Prop} {A : Option Addr} {n : Nat} {xs : List (List S212)} (h : Kd.C (ft (Kd.slice 212 k212) W0 ok0) w A n xs) (i : Int) (h0 : 0 ≤ i) (h1 : i < n) : ∃ ad A1 c1,A = some ad ∧ w.cell? (ad.add i.toNat) = some (.slice A1 (xs.getD i.toNat []).length c1) ∧ (xs.getD i.toNat []).length ≤ c1 ∧ Kd.F k212 W0 ok0 A1 (xs.getD i.toNat []).length (xs.getD i.toNat []):=by
 obtain ⟨ad,cs,e,_,hK,hcc⟩:=Kd.C_get h [] i h0 h1
 have hM : Kd.FK (Kd.slice 212 k212) W0 ok0 (xs.getD i.toNat []) cs:=hK
 obtain ⟨A1,c1,e1,hl,_⟩:=Foot.now hM
 subst e1
 have hc:=hcc 0 _ rfl
 have e2 : i.toNat * (ft (Kd.slice 212 k212) W0 ok0).sz + 0 = i.toNat:=by show i.toNat * 1 + 0 = _;omega
 rw [e2] at hc
 refine ⟨ad,A1,c1,e,hc,hl,fun W2 hW => ?_⟩
 obtain ⟨A',c',e',_,hC⟩:=hM W2 hW
 injection e' with e' _
 injection e' with ea _ _
 rw [ea]
 exact hC
theorem flat_take {l : List (List S212)} {j : Nat} (h : j < l.length) : (l.take (j + 1)).flatten = (l.take j).flatten ++ l.getD j []:=by
 rw [List.take_succ_eq_append_getElem h,List.flatten_append,List.getD_eq_getElem?_getD,List.getElem?_eq_getElem h]
 simp
theorem flat_le (l : List (List S212)) (j : Nat) : (l.take j).flatten.length ≤ l.flatten.length:=by
 have:=congrArg (fun x => x.flatten.length) (List.take_append_drop j l)
 simp only [List.flatten_append,List.length_append] at this
 omega
theorem under3 : Tryz.prog.underlying 3 = some (.int .i64):=by kernel_rfl
set_option maxRecDepth 100000 in
set_option maxHeartbeats 2000000 in
theorem grow_calls (n : Int) (h0 : 0 ≤ n) (h1 : n ≤ 1000000) (W W0 : World) (ok : Nat → Prop) :
  Calls Tryz.prog 171 #[.slice none 0 0,.int .i64 n] W fun e W' => ∃ v,e = .returned v ∧ Below W.heap.size W W' ∧ (ft k212 W0 ok).R 212 W' W.heap.size (fun _ => True) v []:=by
 have hu131:=Tryz.underlying131
 go_enter Tryz.func171,Tryz.ntmps171
 by_cases hn : 0 < n
 ·
  have HH:=am (Kd.R_nil (ft k212 W0 ok) 212 W W.heap.size (fun _ => True))
  have hw0 : IntKind.i64.wrap n = n:=IntWalk.i64_in _ (by omega)
  have hw1 : IntKind.i64.wrap (n - 0) = n:=by rw [IntWalk.i64_in _ (by omega)];omega
  skip
  go_wp2_with (at_builtin;refine Kd.R_append_zeros (ft k212 W0 ok) (w0:=W) W.heap.size rfl _ _ 131 3 212 (.agg #[.int .i64 0,.slice none 0 0]) 32 rfl Tryz.underlying131 under3 info212_ rfl (by show 0 < (k212 : Kd _).sz;decide) (by decide) (.slice none 0 0) [] z212 n (fun _ => True) rfl rfl (k212_mkF W0 ok z212 (A1:=none) (c1:=0) (Nat.le_refl 0) (fun _ _ => Kd.C_nil k89 _)) (fun _ _ => trivial) HH.out h0 (Below.refl _ _) (Nat.le_refl _) (by simp;omega) ?_;intro v1 w1 hr1 hb1 hg1 hat1;obtain ⟨A1,c1,rfl⟩:=Kd.R_slice hr1;have HR1:=am hr1;have HB1:=am hb1;clear hr1 hb1 hg1 hat1)
  go_ret
  exact ⟨_,rfl,HB1.out,by have h:=Kd.R_take HR1.out (m:=0) (Nat.zero_le _);rw [List.take_zero] at h;exact h⟩
 ·
  have hz : n = 0:=by omega
  subst hz
  go_wp2
  go_ret
  exact ⟨_,rfl,Below.refl _ _,Kd.R_nil _ _ _ _ _⟩
set_option maxRecDepth 100000 in
set_option maxHeartbeats 2000000 in
theorem concat_calls (A : Option Addr) (c : Nat) (l : List (List S212)) (W : World) (ok : Nat → Prop) (hC : Kd.C (ft (Kd.slice 212 k212) W ok) W A l.length l) (hc : l.length ≤ c) (hlen : l.flatten.length ≤ 1000000) :
  Calls Tryz.prog 116 #[.slice A l.length c] W fun e W' => ∃ v,e = .returned v ∧ Below W.heap.size W W' ∧ (ft k212 W ok).R 212 W' W.heap.size (fun _ => True) v l.flatten:=by
 have hmx:=hC.2.1
 have HC:=am hC
 have HLN:=am hlen
 clear hC hlen
 go_enter Tryz.func116,Tryz.ntmps116
 go_wp2
 go_loopw [3,11] (fun v3 v11 wr => ∃ (j : Nat),j ≤ l.length ∧ v3 = .int .i64 ((l.take j).flatten.length : Int) ∧ v11 = .int .i64 (j : Int) ∧ Aside0 (Below W.heap.size W wr)) (fun _ v11 _ => l.length - (intOf v11).toNat)
 case atStart => exact ⟨0,Nat.zero_le _,rfl,rfl,⟨Below.refl _ _⟩⟩
 case round =>
  obtain ⟨j,hj,rfl,rfl,HN⟩:=hrel
  by_cases hlt : j < l.length
  ·
   obtain ⟨ae,A1,c1,e,hx0,hl1,hF1⟩:=at_pitF (Kd.C_below HC.out HN.out) (j : Int) (by omega) (by omega)
   cases e
   rw [Int.toNat_natCast] at hx0 hl1 hF1
   have hs:=congrArg List.length (flat_take hlt)
   rw [List.length_append] at hs
   have hfl:=flat_le l (j + 1)
   have hln:=HLN.out
   obtain ⟨p,hp⟩ : ∃ p,p = l.getD j []:=⟨_,rfl⟩
   rw [← hp] at hx0 hs
   obtain ⟨m,hm⟩ : ∃ m,m = (l.take j).flatten.length:=⟨_,rfl⟩
   obtain ⟨m2,hm2⟩ : ∃ m2,m2 = (l.take (j + 1)).flatten.length:=⟨_,rfl⟩
   rw [← hm,← hm2] at hs
   rw [← hm2] at hfl
   have hmb : m2 ≤ 1000000:=by omega
   have HM2:=am hm2
   have hww : IntKind.i64.wrap ((m : Int) + (p.length : Int)) = (m2 : Int):=by rw [IntWalk.i64_in _ (by omega)];omega
   rw [← hm]
   have hm20 : ¬ ((m2 : Int) < 0):=by omega
   clear hm hm2 hs hfl hl1 hF1 hp hln
   go_wp2
   go_roundw
   case rel => exact ⟨j + 1,by omega,by rw [HM2.out],by go_num,HN⟩
   case measure => simp [intOf];omega
  ·
   have hje : j = l.length:=by omega
   subst hje
   have htk : l.take l.length = l:=List.take_length
   rw [htk]
   obtain ⟨m,hm⟩ : ∃ m,m = l.flatten.length:=⟨_,rfl⟩
   rw [← hm]
   have hmb : m ≤ 1000000:=by have:=HLN.out;omega
   clear htk hm hj hlt
   go_wp2_with fail
   refine (grow_calls (m : Int) (by omega) (by omega) wr W ok).mono ?_
   rintro e w1 ⟨v,rfl,hb,hR⟩
   have HN1:=am (below_then HN.out (below_size HN.out) hb)
   have HV0:=am (Kd.R_lower hR (below_size HN.out))
   clear hb hR
   go_wp2
   go_loopw [6,27] (fun v6 v27 wr => ∃ (j : Nat),j ≤ l.length ∧ v27 = .int .i64 (j : Int) ∧ Aside0 (Below W.heap.size W wr) ∧ Aside0 ((ft k212 W ok).R 212 wr W.heap.size (fun _ => True) v6 (l.take j).flatten)) (fun _ v27 _ => l.length - (intOf v27).toNat)
   case atStart => exact ⟨0,Nat.zero_le _,rfl,HN1,HV0⟩
   case round =>
    clear HN HN1 HV0
    obtain ⟨j,hj,rfl,HN,HV⟩:=hrel
    obtain ⟨q,hq⟩ : ∃ q,q = (l.take j).flatten:=⟨_,rfl⟩
    rw [← hq] at HV
    have HQ:=am hq
    clear hq
    obtain ⟨Av,cv,rfl⟩:=Kd.R_slice HV.out
    by_cases hlt : j < l.length
    ·
     obtain ⟨ae,A1,c1,e,hx0,hl1,hF1⟩:=at_pitF (Kd.C_below HC.out HN.out) (j : Int) (by omega) (by omega)
     cases e
     rw [Int.toNat_natCast] at hx0 hl1 hF1
     have HT:=am (flat_take hlt)
     obtain ⟨p,hp⟩ : ∃ p,p = l.getD j []:=⟨_,rfl⟩
     rw [← hp] at hx0 hl1 hF1 HT
     rw [← HQ.out] at HT
     have HPL:=am (show q.length + p.length ≤ 1000000 from by
      have h1:=flat_le l (j + 1)
      rw [HT.out,List.length_append] at h1
      have:=HLN.out
      omega)
     have HX:=am (ReadsRow.imp_ (Kd.F_rows hF1) HN.out (fun _ _ h => h))
     clear hp hl1 hF1
     go_wp2_with (at_builtin;go_loud (refine Kd.R_append_rows (ft k212 W ok) (Rr:=fun x c => Kd.FK k212 W ok x c) (w0:=W) (W:=wr) W.heap.size rfl _ _ 131 212 (.agg #[.int .i64 0,.slice none 0 0]) 32 rfl Tryz.underlying131 info212_ rfl (by show 0 < (k212 : Kd _).sz;decide) (by decide) (.slice Av q.length cv) q p A1 p.length c1 (fun _ => True) (fun _ => False) rfl rfl HV.out HX.out (fun _ _ h => h) (fun _ h => h.elim) (fun _ _ => trivial) HN.out (below_size HN.out) (by have:=HPL.out;omega) ?_;intro v1 w2 hs1 hb1 hg1 hat1;have HS1:=am hs1;have HB1:=am hb1;clear hs1 hb1 hg1 hat1))
     go_roundw
     case rel => exact ⟨j + 1,by omega,by go_num,HB1,⟨by rw [HT.out];exact HS1.out⟩⟩
     case measure => simp [intOf];omega
    ·
     have hq : q = l.flatten:=by rw [HQ.out,List.take_of_length_le (by omega)]
     have HQ2:=am hq
     clear hq
     go_wp2
     go_ret
     exact ⟨_,rfl,HN.out,by rw [← HQ2.out];exact HV.out⟩
def pit_own.f (a0_0 : Int) (a0_1 : Int) : Option (Int × Int):=some (a0_0,a0_1)
set_option maxHeartbeats 8000000 in
set_option maxRecDepth 100000 in
theorem pit_own.calls (a0_0 : Int) (a0_1 : Int) (r1 : Int) (r2 : Int) (w : World) (h : pit_own.f a0_0 a0_1 = some (r1,r2)) :
  Calls Tryz.prog 117 #[.agg #[.int .i64 a0_0,.int .i64 a0_1]] w fun e w' => e = .returned (.agg #[.int .i64 r1,.int .i64 r2]) ∧ Below w.heap.size w w':=by
 have hu43:=Tryz.underlying43
 have HB:=am (Below.refl w.heap.size w)
 have H : (some (a0_0,a0_1)) = some (r1,r2):=h
 clear h
 simp only [Option.some.injEq,Prod.mk.injEq] at H
 obtain ⟨rfl,rfl⟩:=H
 go_enter Tryz.func117,Tryz.ntmps117
 go_wp2_with (first|(refine bE 1 #[.int .i64 a0_0,.int .i64 a0_1] 43 ?_;intro gb101 hg w2 hbox hb;have BK101:=am (hbox);have GW101:=am (lg hg (below_size (v0 HB.out)) : w.heap.size ≤ gb101);have GE101:=GW101;replace HB:=am (below_step (v0 HB.out) hb);clear hb hbox hg)|(refine bE 2 #[.int .i64 0,.int .i64 0] 43 ?_;intro gb102 hg w3 hbox hb;have BK102:=am (hbox);have GW102:=am (lg hg (below_size (v1 HB.out GE101.out)) : w.heap.size ≤ gb102);have GE102:=GW102;have NB101_102:=am (nl hg (vb BK101.out));have NB102_101:=am ((nl hg (vb BK101.out)).symm);replace BK101:=am (blk_below (vb BK101.out) hb);replace HB:=am (below_step (v1 HB.out GE101.out) hb);clear hb hbox hg;have hnb4:=NB101_102.out;have hnc4:=NB102_101.out;have hcz5_0:=bd BK101.out 0;have hcz5_1:=bd BK101.out 1;have hfz5_0:=blk_frozen BK101.out 0;have hfz5_1:=blk_frozen BK101.out 1;have hcz6_0:=bd BK102.out 0;have hcz6_1:=bd BK102.out 1;have hfz6_0:=blk_frozen BK102.out 0;have hfz6_1:=blk_frozen BK102.out 1))
 refine bodyPost_ret (results_cell_row rfl _ _ gb102 43 #[.int .i64 a0_0,.int .i64 a0_1] (0,0) _ rfl (by (with_reducible repeat (first|refine blk_drewN ?_ _|refine blk_drew ?_|refine blk_alloc ?_ _));refine blk_put (cs:=#[.int .i64 a0_0,.int .i64 0]) ?_ 1 _ rfl;(with_reducible repeat (first|refine blk_drewN ?_ _|refine blk_drew ?_|refine blk_alloc ?_ _));refine blk_put (cs:=#[.int .i64 0,.int .i64 0]) ?_ 0 _ rfl;(with_reducible repeat (first|refine blk_drewN ?_ _|refine blk_drew ?_|refine blk_alloc ?_ _));exact BK102.out) Tryz.underlying43 rfl kr) rfl ?_
 exact ⟨vf,v2 HB.out GE101.out GE102.out⟩
set_option maxRecDepth 100000 in
set_option maxHeartbeats 2000000 in
theorem total114_calls (A : Option Addr) (c : Nat) (l : List S43) (g : S43 → S43) (K : Nat) (caps : Array Value) (Inv : World → Prop) (W : World) (hr : Kd.C k43 W A l.length l) (hc : l.length ≤ c)
  (ek : ∀ args w,(callFunc K args).run Tryz.prog w = .ok (.enter K args) w) (hi0 : Inv W) (hi1 : ∀ w w',Inv w → Below w.heap.size w w' → Inv w')
  (hcl : ∀ (x : S43) (w : World),x ∈ l → Inv w → Calls Tryz.prog K (#[.agg #[.int .i64 x.f0,.int .i64 x.f1]] ++ caps) w fun e w' => e = .returned (.agg #[.int .i64 (g x).f0,.int .i64 (g x).f1]) ∧ Below w.heap.size w w') :
  Calls Tryz.prog 114 #[.slice A l.length c,.func (.func K) #[] caps,.func (.func 89) #[] #[]] W fun e W' => e = totalE (totalP g l) ∧ Below W.heap.size W W':=by
 have hu43:=Tryz.underlying43
 have ek89 : ∀ args w,(callFunc 89 args).run Tryz.prog w = .ok (.enter 89 args) w:=enters_of Tryz.func89 kr rfl
 have hm:=hr.2.1
 have HCL:=am hcl
 have HJ:=am hi1
 have HC:=am (hr)
 have HB:=am (Below.refl W.heap.size W)
 have HI:=am (hi1 _ _ hi0 (below_alloc (Below.refl W.heap.size W) (.cells #[.int .i64 0,.int .i64 0] 43)))
 have HC1:=am (Kd.C_alloc HC.out (.cells #[.int .i64 0,.int .i64 0] 43))
 have HB1:=am (below_alloc HB.out (.cells #[.int .i64 0,.int .i64 0] 43))
 have HR:=am (blk_new W (.cells #[.int .i64 0,.int .i64 0] 43))
 obtain ⟨q,hq⟩ : ∃ q,q = totalP g l:=⟨_,rfl⟩
 rw [← hq]
 have HQ:=am hq
 clear hq hr hc hcl hi0 hi1
 go_enter Tryz.func114,Tryz.ntmps114
 go_wp2_with fail
 refine (pit_whole.calls 0 0 1 _ rfl).mono ?_
 rintro e w1 ⟨rfl,hb⟩
 have HC2:=am (Kd.C_below HC1.out hb)
 have HB2:=am (below_then HB1.out (below_size HB1.out) hb)
 have HR1:=am (blk_below HR.out hb)
 have HI1:=am (HJ.out _ _ HI.out hb)
 clear hb
 go_wp2
 go_loopw [15] (fun v15 wr => ∃ (j : Nat) (a : S43),j ≤ l.length ∧ v15 = .int .i64 (j : Int) ∧ Aside0 (Below w1.heap.size w1 wr) ∧ Aside0 (wr.heap[w1.heap.size]? = some (.cells #[.int .i64 a.f0,.int .i64 a.f1] 43 (0,0))) ∧ Aside0 (q = totalL g a (l.drop j)) ∧ Aside0 (validP a = true)) (fun v15 _ => l.length - (intOf v15).toNat)
 case atStart => exact ⟨0,wholeP 0,Nat.zero_le _,rfl,⟨below_alloc (Below.refl _ _) _⟩,⟨blk_new _ _⟩,⟨by rw [HQ.out];rfl⟩,⟨rfl⟩⟩
 case round =>
  obtain ⟨j,a,hj,rfl,HN,HT,HA,HV⟩:=hrel
  by_cases hlt : j < l.length
  ·
   obtain ⟨ae,e,hx0,hx1⟩:=at_T43 (Kd.C_below HC2.out HN.out) (j : Int) (by omega) (by omega)
   cases e
   rw [Int.toNat_natCast] at hx0 hx1
   have hmem : rd_T43 l (j : Int) ∈ l:=getD_mem_ hlt
   have HD:=am (show l.drop j = rd_T43 l (j : Int) :: l.drop (j + 1) by rw [List.drop_eq_getElem_cons hlt];unfold rd_T43;rw [Int.toNat_natCast,List.getD_eq_getElem?_getD,List.getElem?_eq_getElem hlt];rfl)
   have HCX:=am (HCL.out (rd_T43 l (j : Int)) (wr.alloc (.cells #[.int .i64 (rd_T43 l (j : Int)).f0,.int .i64 (rd_T43 l (j : Int)).f1] 43)) hmem (HJ.out _ _ HI1.out (below_alloc HN.out _)))
   obtain ⟨x,hx⟩ : ∃ x,x = rd_T43 l (j : Int):=⟨_,rfl⟩
   rw [← hx] at hx0 hx1 HCX HD
   clear hmem hx
   rw [HD.out] at HA
   obtain ⟨y,hy⟩ : ∃ y,y = g x:=⟨_,rfl⟩
   rw [← hy] at HCX
   have HY:=am hy
   clear hy
   have HT1:=am (blk_alloc HT.out (.cells #[.int .i64 x.f0,.int .i64 x.f1] 43))
   have HN1:=am (below_alloc HN.out (.cells #[.int .i64 x.f0,.int .i64 x.f1] 43))
   go_wp2_with fail
   refine HCX.out.mono ?_
   rintro e w5 ⟨rfl,hb⟩
   have HT2:=am (blk_below HT1.out hb)
   have HN2:=am (below_then HN1.out (below_size HN1.out) hb)
   have HT3:=am (blk_alloc HT2.out (.cells #[.int .i64 y.f0,.int .i64 y.f1] 43))
   have HN3:=am (below_alloc HN2.out (.cells #[.int .i64 y.f0,.int .i64 y.f1] 43))
   have HE:=am (blk_new w5 (.cells #[.int .i64 y.f0,.int .i64 y.f1] 43))
   clear hb hx0 hx1
   obtain ⟨k1,hk1⟩ : ∃ k1,k1 = validP y:=⟨_,rfl⟩
   have HV1:=am (show pit_valid.f FU y.f0 y.f1 = some k1 by rw [hk1];exact valid_some y)
   have HK1:=am hk1
   clear hk1
   go_wp2_with fail
   refine (pit_valid.calls FU _ _ _ _ HV1.out).mono ?_
   rintro e w6 ⟨rfl,hb⟩
   have HT4:=am (blk_below HT3.out hb)
   have HN4:=am (below_then HN3.out (below_size HN3.out) hb)
   have HE1:=am (blk_below HE.out hb)
   clear hb
   cases k1 with
  |false =>
    have HR9:=am (blk_below HR1.out HN4.out)
    have HB9:=am (below_then HB2.out (below_size HB2.out) HN4.out)
    have u0:=bd HR9.out 0
    have fu0:=blk_frozen HR9.out 0
    have u1:=bd HR9.out 1
    have fu1:=blk_frozen HR9.out 1
    go_wp2
    rw [show q = none from by rw [HA.out];exact totalL_no1 (by rw [← HY.out];exact HK1.out.symm)]
    have bz:=blk_put (cs':=#[.int .i64 0,.int .i64 0]) (blk_put (cs':=#[.int .i64 0,.int .i64 0]) (HR9.out) 0 (.int .i64 0) rfl) 1 (.int .i64 0) rfl
    have z0:=bd bz 0
    have z1:=bd bz 1
    exact bodyPost_ret (v:=.tuple #[.agg #[.int .i64 0,.int .i64 0],.bool false]) (by simp [results,Tryz.results114,go_sem,z0,z1,hu43]) rfl ⟨rfl,((HB9.out).setCell (p:=⟨W.heap.size,0,none⟩) (by simp) (.int .i64 0)).setCell (p:=⟨W.heap.size,1,none⟩) (by simp) (.int .i64 0)⟩
  |true =>
    have HAD:=am (add_valid HV.out HK1.out.symm)
    obtain ⟨s,hs⟩ : ∃ s,s = addP a y:=⟨_,rfl⟩
    rw [← hs] at HAD
    have HS:=am hs
    clear hs
    have g0:=bd HT4.out 0
    have g1:=bd HT4.out 1
    have k0:=bd HE1.out 0
    have k1:=bd HE1.out 1
    go_wp2_with fail
    refine (pit_add.calls FU _ _ _ _ _ _ _ HAD.out).mono ?_
    rintro e w7 ⟨rfl,hb⟩
    have HT5:=am (blk_below HT4.out hb)
    have HN5:=am (below_then HN4.out (below_size HN4.out) hb)
    clear hb g0 g1 k0 k1
    have u0:=bd HT5.out 0
    have fu0:=blk_frozen HT5.out 0
    have u1:=bd HT5.out 1
    have fu1:=blk_frozen HT5.out 1
    obtain ⟨k2,hk2⟩ : ∃ k2,k2 = validP s:=⟨_,rfl⟩
    have HV2:=am (show pit_valid.f FU s.f0 s.f1 = some k2 by rw [hk2];exact valid_some s)
    have HK2:=am hk2
    clear hk2
    have HN6:=am (((HN5.out).setCell (p:=⟨w1.heap.size,0,none⟩) (by simp) (.int .i64 s.f0)).setCell (p:=⟨w1.heap.size,1,none⟩) (by simp) (.int .i64 s.f1))
    have HT6:=am (blk_put (cs':=#[.int .i64 s.f0,.int .i64 s.f1]) (blk_put (cs':=#[.int .i64 s.f0,.int .i64 a.f1]) (HT5.out) 0 (.int .i64 s.f0) rfl) 1 (.int .i64 s.f1) rfl)
    go_wp2_with fail
    refine (pit_valid.calls FU _ _ _ _ HV2.out).mono ?_
    rintro e w8 ⟨rfl,hb⟩
    have HT7:=am (blk_below HT6.out hb)
    have HN7:=am (below_then HN6.out (below_size HN6.out) hb)
    clear hb u0 u1 fu0 fu1
    cases k2 with
   |false =>
     have HR9:=am (blk_below HR1.out HN7.out)
     have HB9:=am (below_then HB2.out (below_size HB2.out) HN7.out)
     have u0:=bd HR9.out 0
     have fu0:=blk_frozen HR9.out 0
     have u1:=bd HR9.out 1
     have fu1:=blk_frozen HR9.out 1
     go_wp2
     rw [show q = none from by rw [HA.out];exact totalL_no2 (by rw [← HY.out,← HS.out];exact HK2.out.symm)]
     have bz:=blk_put (cs':=#[.int .i64 0,.int .i64 0]) (blk_put (cs':=#[.int .i64 0,.int .i64 0]) (HR9.out) 0 (.int .i64 0) rfl) 1 (.int .i64 0) rfl
     have z0:=bd bz 0
     have z1:=bd bz 1
     exact bodyPost_ret (v:=.tuple #[.agg #[.int .i64 0,.int .i64 0],.bool false]) (by simp [results,Tryz.results114,go_sem,z0,z1,hu43]) rfl ⟨rfl,((HB9.out).setCell (p:=⟨W.heap.size,0,none⟩) (by simp) (.int .i64 0)).setCell (p:=⟨W.heap.size,1,none⟩) (by simp) (.int .i64 0)⟩
   |true =>
     go_wp2
     go_roundw
     case rel => exact ⟨j + 1,s,by omega,by go_num,HN7,HT7,⟨by rw [HA.out,HS.out,HY.out];exact totalL_go (by rw [← HY.out];exact HK1.out.symm) (by rw [← HY.out,← HS.out];exact HK2.out.symm)⟩,⟨HK2.out.symm⟩⟩
     case measure => simp [intOf];omega
  ·
   have HE:=am (show q = some a by rw [HA.out,List.drop_eq_nil_of_le (by omega)];rfl)
   have HR9:=am (blk_below HR1.out HN.out)
   have HB9:=am (below_then HB2.out (below_size HB2.out) HN.out)
   have g0:=bd HT.out 0
   have g1:=bd HT.out 1
   have u0:=bd HR9.out 0
   have fu0:=blk_frozen HR9.out 0
   have u1:=bd HR9.out 1
   have fu1:=blk_frozen HR9.out 1
   go_wp2
   rw [HE.out]
   have bz:=blk_put (cs':=#[.int .i64 a.f0,.int .i64 a.f1]) (blk_put (cs':=#[.int .i64 a.f0,.int .i64 0]) (HR9.out) 0 (.int .i64 a.f0) rfl) 1 (.int .i64 a.f1) rfl
   have z0:=bd bz 0
   have z1:=bd bz 1
   exact bodyPost_ret (v:=.tuple #[.agg #[.int .i64 a.f0,.int .i64 a.f1],.bool true]) (by simp [results,Tryz.results114,go_sem,z0,z1,hu43]) rfl ⟨rfl,((HB9.out).setCell (p:=⟨W.heap.size,0,none⟩) (by simp) (.int .i64 a.f0)).setCell (p:=⟨W.heap.size,1,none⟩) (by simp) (.int .i64 a.f1)⟩
def R36_18.T : Bool × List (List Nat × List Nat):=(true,[([],[]),([],[]),([],[]),([0,0],[0]),([1,3,0,1,3],[1]),([2,4,0,1,2,3,4],[2]),([5,0,1,2,3,4,5],[])])
def R36_18.B : List Nat:=[0,0,0,1,11,31,63]
theorem R36_18.tab : rtab .any (opsOf Tryz.f36 18) = R36_18.T:=by kernel_rfl
theorem R36_18.bits : waitsOk R36_18.T.2 R36_18.B = true:=by kernel_rfl
def wentP (bs : List S167) (pour : Int) : List S89:=(bs.filter fun b => decide ((partP b pour).f0 > 0)).map fun b => ⟨b.f0,partP b pour⟩
theorem wentP_snoc {bs : List S167} {pour : Int} {j : Nat} (h : j < bs.length) : wentP (bs.take (j + 1)) pour = wentP (bs.take j) pour ++ (if (partP (rd_T167 bs (j : Int)) pour).f0 > 0 then [⟨(rd_T167 bs (j : Int)).f0,partP (rd_T167 bs (j : Int)) pour⟩] else []):=by
 rw [List.take_succ_eq_append_getElem h]
 have hrd : rd_T167 bs (j : Int) = bs[j]:=by unfold rd_T167;rw [Int.toNat_natCast,List.getD_eq_getElem?_getD,List.getElem?_eq_getElem h];rfl
 rw [hrd]
 unfold wentP
 rw [List.filter_append,List.map_append,List.filter_cons,List.filter_nil]
 by_cases hp : (partP bs[j] pour).f0 > 0
 ·simp [hp]
 ·simp [hp]
theorem wentP_len (bs : List S167) (pour : Int) : (wentP bs pour).length ≤ bs.length:=by unfold wentP;rw [List.length_map];exact List.length_filter_le _ _
def idR (r : S43) : S43:=r
def leftP (Y : Yd) (pour : Int) : Option S43:=totalP idR (ofL pour (partsP Y.pits.flatten))
def lostP (Y : Yd) (pour : Int) : Option S43:=totalP idR (ofL pour (partsP Y.lost))
def fateE (r : Except (Int × Int) Yd) (pour : Int) : List S89 × S43 × S43 × Int:=match r with
|.error x => ([],⟨0,0⟩,⟨0,0⟩,x.1)
|.ok Y => if pour ∈ Y.pours then (if (leftP Y pour).isSome = true then (if (lostP Y pour).isSome = true then (wentP Y.barrows pour,(leftP Y pour).getD ⟨0,0⟩,(lostP Y pour).getD ⟨0,0⟩,0) else ([],⟨0,0⟩,⟨0,0⟩,3)) else ([],⟨0,0⟩,⟨0,0⟩,3)) else ([],⟨0,0⟩,⟨0,0⟩,5)
def FatePost (W : World) (q : List S89 × S43 × S43 × Int) (e : Ending) (W' : World) : Prop :=
 Below W.heap.size W W' ∧ ∃ (A3 : Option Addr) (c3 : Nat),e = .returned (.tuple #[.slice A3 q.1.length c3,.agg #[.int .i64 q.2.1.f0,.int .i64 q.2.1.f1],.agg #[.int .i64 q.2.2.1.f0,.int .i64 q.2.2.1.f1],.int .i64 q.2.2.2]) ∧ q.1.length ≤ c3 ∧ Kd.F k89 W' (fun k => W.heap.size ≤ k) A3 q.1.length q.1
theorem flat_len : ∀ (l : List (List S212)),(∀ p ∈ l,p.length ≤ 4096) → l.flatten.length ≤ 4096 * l.length
|[],_ => by simp
|p :: l,h => by
  have h1:=h p List.mem_cons_self
  have h2:=flat_len l fun q hq => h q (List.mem_cons_of_mem _ hq)
  simp only [List.flatten_cons,List.length_append,List.length_cons]
  omega
theorem Wf.flat {n : Nat} {Y : Yd} (hw : Wf n Y) : Y.pits.flatten.length ≤ 24576 ∧ ∀ p ∈ Y.pits.flatten,ParcelOk Y.pours p:=by
 have h1 : ∀ p ∈ Y.pits,p.length ≤ 4096:=by
  intro p hp
  obtain ⟨i,hi,rfl⟩:=List.getElem_of_mem hp
  have hr : i < Y.rooms.length:=by rw [← hw.plen];exact hi
  have h2:=hw.held i hr
  rw [List.getD_eq_getElem?_getD,List.getElem?_eq_getElem hi] at h2
  have h3:=heldP_nonneg (l:=Y.pits[i]) fun p hp => (hw.parcels _ (List.getElem_mem hi) p hp).lo
  have h4:=(hw.rooms (Y.rooms.getD i 0) (getD_mem_ hr)).2
  simp only [Option.getD_some] at h2
  omega
 have h5:=flat_len Y.pits h1
 have h6:=hw.plen
 have h7:=hw.r6
 refine ⟨by omega,fun p hp => ?_⟩
 obtain ⟨q,hq,hpq⟩:=List.mem_flatten.1 hp
 exact hw.parcels q hq p hpq
theorem own_calls (r : S43) (w : World) : Calls Tryz.prog 117 (#[.agg #[.int .i64 r.f0,.int .i64 r.f1]] ++ #[]) w fun e w' => e = .returned (.agg #[.int .i64 (idR r).f0,.int .i64 (idR r).f1]) ∧ Below w.heap.size w w':=pit_own.calls r.f0 r.f1 _ _ w rfl
theorem C_of_ft {α : Type} {d : Kd α} {W w : World} {ok : Nat → Prop} {A : Option Addr} {n : Nat} {xs : List α} (h : Kd.C (ft d W ok) w A n xs) (hm : ∀ k,ok k → k < W.heap.size → w.heap[k]? = W.heap[k]?) : Kd.C d w A n xs :=
 ReadsRow.imp_ h (Below.refl _ _) (fun _ _ (hp : Kd.FK d W ok _ _) => hp w hm)
theorem R89_far {w : World} {N : Nat} {ok : Nat → Prop} {v : Value} {l : List S89} (h : k89.R 89 w N ok v l) (p : Addr) (hp : p.block < N) (u : Value) : k89.R 89 (w.setCell p u) N ok v l :=
 R_own_move rfl h fun k hk => Below.heap_setCell w p u k (fun e => by have:=Kd.R_base h k hk;omega)
set_option maxRecDepth 100000 in
set_option maxHeartbeats 1000000 in
theorem fate_calls (A A2 : Option Addr) (c c2 : Nat) (rooms : List Int) (stirs : List S84) (W : World) (lo : Nat) (hlo : lo ≤ W.heap.size) (hC : Kd.F (Kd.int .i64) W (fun k => k < lo) A rooms.length rooms) (hc : rooms.length ≤ c) (hS : Kd.C k84 W A2 stirs.length stirs) (hc2 : stirs.length ≤ c2) (pour : Int) :
  Calls Tryz.prog 36 #[.agg #[.slice A rooms.length c,.slice A2 stirs.length c2],.int .i64 pour] W fun e W' => FatePost W (fateE (playedP rooms stirs stirs.length) pour) e W':=by
 have hu:=Tryz.underlying32
 have hu167:=Tryz.underlying167
 have hu43:=Tryz.underlying43
 have hu89:=Tryz.underlying89
 have ek117 : ∀ args w,(callFunc 117 args).run Tryz.prog w = .ok (.enter 117 args) w:=enters_of Tryz.func117 kr rfl
 have HC:=am (hC)
 have HS:=am (hS)
 have HB:=am (Below.refl W.heap.size W)
 have HC1:=am (Kd.F_alloc HC.out (.cells #[.slice A rooms.length c,.slice A2 stirs.length c2] 32))
 have HS1:=am (Kd.C_alloc HS.out (.cells #[.slice A rooms.length c,.slice A2 stirs.length c2] 32))
 have HB1:=am (below_alloc HB.out (.cells #[.slice A rooms.length c,.slice A2 stirs.length c2] 32))
 have HC2:=am (Kd.F_alloc HC1.out (.cells #[.int .i64 0,.int .i64 0] 43))
 have HS2:=am (Kd.C_alloc HS1.out (.cells #[.int .i64 0,.int .i64 0] 43))
 have HB2:=am (below_alloc HB1.out (.cells #[.int .i64 0,.int .i64 0] 43))
 have HR:=am (blk_new' (W.alloc (.cells #[.slice A rooms.length c,.slice A2 stirs.length c2] 32)) (.cells #[.int .i64 0,.int .i64 0] 43) (W.heap.size + 1) (by simp))
 have HC3:=am (Kd.F_alloc HC2.out (.cells #[.int .i64 0,.int .i64 0] 43))
 have HS3:=am (Kd.C_alloc HS2.out (.cells #[.int .i64 0,.int .i64 0] 43))
 have HB3:=am (below_alloc HB2.out (.cells #[.int .i64 0,.int .i64 0] 43))
 have HR1:=am (blk_alloc HR.out (.cells #[.int .i64 0,.int .i64 0] 43))
 have HT:=am (blk_new' ((W.alloc (.cells #[.slice A rooms.length c,.slice A2 stirs.length c2] 32)).alloc (.cells #[.int .i64 0,.int .i64 0] 43)) (.cells #[.int .i64 0,.int .i64 0] 43) (W.heap.size + 1 + 1) (by simp))
 clear hC hS
 obtain ⟨r,hr⟩ : ∃ r,r = playedP rooms stirs stirs.length:=⟨_,rfl⟩
 rw [← hr]
 have HQP:=am hr.symm
 clear hr
 obtain ⟨q,hq⟩ : ∃ q,q = fateE r pour:=⟨_,rfl⟩
 rw [← hq]
 have HQ:=am hq
 clear hq
 go_enter Tryz.func36,Tryz.ntmps36
 go_wp2_with fail
 refine (all_calls A A2 c c2 rooms stirs _ lo (Nat.le_trans hlo (by simp;omega)) HC3.out hc HS3.out hc2).mono ?_
 rintro e w1 ⟨hb,h⟩
 rw [HQP.out] at h
 have HB4:=am (below_then HB3.out (below_size HB3.out) hb)
 have HR2:=am (blk_below HR1.out hb)
 have HT1:=am (blk_below HT.out hb)
 clear hb
 cases r with
|error x =>
  subst h
  have hx : ¬ x.1 = 0:=playedP_code HQP.out
  have HE:=am (show q = ([],⟨0,0⟩,⟨0,0⟩,x.1) by rw [HQ.out];rfl)
  have u0:=bd HR2.out 0
  have fu0:=blk_frozen HR2.out 0
  have u1:=bd HR2.out 1
  have fu1:=blk_frozen HR2.out 1
  have v0:=bd HT1.out 0
  have fv0:=blk_frozen HT1.out 0
  have v1:=bd HT1.out 1
  have fv1:=blk_frozen HT1.out 1
  go_wp2
  rw [HE.out]
  have by_:=blk_far (p:=⟨W.heap.size + 1 + 1,1,none⟩) (blk_far (p:=⟨W.heap.size + 1 + 1,0,none⟩) (blk_put (cs':=#[.int .i64 0,.int .i64 0]) (blk_put (cs':=#[.int .i64 0,.int .i64 0]) (HR2.out) 0 (.int .i64 0) rfl) 1 (.int .i64 0) rfl) (by simp) (.int .i64 0)) (by simp) (.int .i64 0)
  have bz:=blk_put (cs':=#[.int .i64 0,.int .i64 0]) (blk_put (cs':=#[.int .i64 0,.int .i64 0]) (blk_far (p:=⟨W.heap.size + 1,1,none⟩) (blk_far (p:=⟨W.heap.size + 1,0,none⟩) (HT1.out) (by simp) (.int .i64 0)) (by simp) (.int .i64 0)) 0 (.int .i64 0) rfl) 1 (.int .i64 0) rfl
  have y0:=bd by_ 0
  have y1:=bd by_ 1
  have z0:=bd bz 0
  have z1:=bd bz 1
  exact bodyPost_ret (v:=.tuple #[.slice none 0 0,.agg #[.int .i64 0,.int .i64 0],.agg #[.int .i64 0,.int .i64 0],.int .i64 x.1]) (by simp [results,Tryz.results36,go_sem,y0,y1,z0,z1,hu43]) rfl ⟨((((HB4.out).setCell (p:=⟨W.heap.size + 1,0,none⟩) (by first|(simp;done)|(simp;omega)) (.int .i64 0)).setCell (p:=⟨W.heap.size + 1,1,none⟩) (by first|(simp;done)|(simp;omega)) (.int .i64 0)).setCell (p:=⟨W.heap.size + 1 + 1,0,none⟩) (by first|(simp;done)|(simp;omega)) (.int .i64 0)).setCell (p:=⟨W.heap.size + 1 + 1,1,none⟩) (by first|(simp;done)|(simp;omega)) (.int .i64 0),none,0,rfl,Nat.le_refl 0,Kd.F_nil k89 _ _⟩
|ok Y =>
  obtain ⟨L,base,hbase,hbad,rfl,hY⟩:=h
  have HWF:=am (played_wf HQP.out)
  have HSL:=am (played_ok HQP.out).2.1
  have HY:=am (hY)
  clear hbase hbad hY
  obtain ⟨k,hk⟩ : ∃ k,k = decide (pour ∈ Y.pours):=⟨_,rfl⟩
  have HK:=am hk
  clear hk
  go_wp2_with fail
  refine (known_calls HY.out HWF.out HSL.out pour).mono ?_
  rintro e w2 ⟨rfl,hb⟩
  rw [← HK.out]
  have HB5:=am (below_then HB4.out (below_size HB4.out) hb)
  have HR3:=am (blk_below HR2.out hb)
  have HT2:=am (blk_below HT1.out hb)
  have HY1:=am (HY.out.move hb)
  clear hb
  cases k with
 |false =>
   have HE:=am (show q = ([],⟨0,0⟩,⟨0,0⟩,5) by rw [HQ.out];unfold fateE;simp only [];rw [if_neg (of_decide_eq_false HK.out.symm)])
   have u0:=bd HR3.out 0
   have fu0:=blk_frozen HR3.out 0
   have u1:=bd HR3.out 1
   have fu1:=blk_frozen HR3.out 1
   have v0:=bd HT2.out 0
   have fv0:=blk_frozen HT2.out 0
   have v1:=bd HT2.out 1
   have fv1:=blk_frozen HT2.out 1
   go_wp2
   rw [HE.out]
   have by_:=blk_far (p:=⟨W.heap.size + 1 + 1,1,none⟩) (blk_far (p:=⟨W.heap.size + 1 + 1,0,none⟩) (blk_put (cs':=#[.int .i64 0,.int .i64 0]) (blk_put (cs':=#[.int .i64 0,.int .i64 0]) (HR3.out) 0 (.int .i64 0) rfl) 1 (.int .i64 0) rfl) (by simp) (.int .i64 0)) (by simp) (.int .i64 0)
   have bz:=blk_put (cs':=#[.int .i64 0,.int .i64 0]) (blk_put (cs':=#[.int .i64 0,.int .i64 0]) (blk_far (p:=⟨W.heap.size + 1,1,none⟩) (blk_far (p:=⟨W.heap.size + 1,0,none⟩) (HT2.out) (by simp) (.int .i64 0)) (by simp) (.int .i64 0)) 0 (.int .i64 0) rfl) 1 (.int .i64 0) rfl
   have y0:=bd by_ 0
   have y1:=bd by_ 1
   have z0:=bd bz 0
   have z1:=bd bz 1
   exact bodyPost_ret (v:=.tuple #[.slice none 0 0,.agg #[.int .i64 0,.int .i64 0],.agg #[.int .i64 0,.int .i64 0],.int .i64 5]) (by simp [results,Tryz.results36,go_sem,y0,y1,z0,z1,hu43]) rfl ⟨((((HB5.out).setCell (p:=⟨W.heap.size + 1,0,none⟩) (by first|(simp;done)|(simp;omega)) (.int .i64 0)).setCell (p:=⟨W.heap.size + 1,1,none⟩) (by first|(simp;done)|(simp;omega)) (.int .i64 0)).setCell (p:=⟨W.heap.size + 1 + 1,0,none⟩) (by first|(simp;done)|(simp;omega)) (.int .i64 0)).setCell (p:=⟨W.heap.size + 1 + 1,1,none⟩) (by first|(simp;done)|(simp;omega)) (.int .i64 0),none,0,rfl,Nat.le_refl 0,Kd.F_nil k89 _ _⟩
 |true =>
   have HQ1:=am (show q = (if (leftP Y pour).isSome = true then (if (lostP Y pour).isSome = true then (wentP Y.barrows pour,(leftP Y pour).getD ⟨0,0⟩,(lostP Y pour).getD ⟨0,0⟩,0) else ([],⟨0,0⟩,⟨0,0⟩,3)) else ([],⟨0,0⟩,⟨0,0⟩,3)) by rw [HQ.out];unfold fateE;simp only [];rw [if_pos (of_decide_eq_true HK.out.symm)])
   obtain ⟨Ab,cb,hb,hlb,hCb⟩:=Kd.R_reads HY1.out.barrows
   have HCB:=am (show Kd.C k167 w2 Ab Y.barrows.length Y.barrows from hCb.imp_ (Below.refl _ _) fun _ _ hp => Foot.now hp)
   have hmb:=hCb.2.1
   have g4 : w2.cell? ⟨L.g,4,none⟩ = some (.slice Ab Y.barrows.length cb):=(blk_cell HY1.out.blk 4).trans (by rw [← hb];rfl)
   clear hb hlb hCb
   have HLW:=am (blk_lt HT2.out)
   have hnb:=HWF.out.nbarrows
   have hsl:=HSL.out
   go_wp2
   clear g4
   go_loopw [10,39] (fun v10 v39 wr => ∃ (j : Nat),j ≤ Y.barrows.length ∧ v39 = .int .i64 (j : Int) ∧ Aside0 (Below w2.heap.size w2 wr) ∧ Aside0 (k89.R 89 wr w2.heap.size (fun _ => True) v10 (wentP (Y.barrows.take j) pour))) (fun _ v39 _ => Y.barrows.length - (intOf v39).toNat)
   case atStart => exact ⟨0,Nat.zero_le _,rfl,⟨Below.refl _ _⟩,⟨Kd.R_nil _ _ _ _ _⟩⟩
   case round =>
    obtain ⟨j,hj,rfl,HN,HV⟩:=hrel
    obtain ⟨qq,hqq⟩ : ∃ qq,qq = wentP (Y.barrows.take j) pour:=⟨_,rfl⟩
    have hql : qq.length ≤ j:=by rw [hqq];exact Nat.le_trans (wentP_len _ _) (by rw [List.length_take];omega)
    rw [← hqq] at HV
    have HQQ:=am hqq
    clear hqq
    obtain ⟨Av,cv,rfl⟩:=Kd.R_slice HV.out
    have HQL:=am hql
    clear hql
    by_cases hlt : j < Y.barrows.length
    ·
     have HT9:=am (wentP_snoc (pour:=pour) hlt)
     rw [← HQQ.out] at HT9
     obtain ⟨ae,A3,c3,e,hx0,hx1,hx2,hx3,hl3,hC3⟩:=at_T167 (Kd.C_below HCB.out HN.out) (j : Int) (by omega) (by omega)
     cases e
     rw [Int.toNat_natCast] at hx0 hx1 hx2 hx3
     have hmem : rd_T167 Y.barrows (j : Int) ∈ Y.barrows:=getD_mem_ hlt
     have HBL:=am (show (rd_T167 Y.barrows (j : Int)).f3.length ≤ 60 from (HWF.out.barrows _ hmem).par.len)
     obtain ⟨b,hb⟩ : ∃ b,b = rd_T167 Y.barrows (j : Int):=⟨_,rfl⟩
     rw [← hb] at hx0 hx1 hx2 hx3 hl3 hC3 HT9 HBL
     clear hb hmem
     have HG:=am (hC3)
     have HL3:=am hl3
     clear hC3 hl3
     have HPS:=am (part_some b pour (by have:=HBL.out;omega))
     obtain ⟨n,hn⟩ : ∃ n,n = partP b pour:=⟨_,rfl⟩
     rw [← hn] at HPS HT9
     clear hn
     have HN1:=am (below_alloc HN.out (.cells #[.int .i64 b.f0,.int .i64 b.f1,.int .i64 b.f2,.slice A3 b.f3.length c3] 167))
     have HV1:=am (Kd.R_alloc HV.out (.cells #[.int .i64 b.f0,.int .i64 b.f1,.int .i64 b.f2,.slice A3 b.f3.length c3] 167))
     have HG1:=am (Kd.C_alloc HG.out (.cells #[.int .i64 b.f0,.int .i64 b.f1,.int .i64 b.f2,.slice A3 b.f3.length c3] 167))
     have HX:=am (blk_new wr (.cells #[.int .i64 b.f0,.int .i64 b.f1,.int .i64 b.f2,.slice A3 b.f3.length c3] 167))
     go_wp2_with fail
     refine (pit_barrow_part.calls FU _ _ _ _ _ _ _ _ _ _ HG1.out HL3.out HPS.out).mono ?_
     rintro e w5 ⟨rfl,hb⟩
     have HN2:=am (below_then HN1.out (below_size HN1.out) hb)
     have HV2:=am (Kd.R_below HV1.out hb)
     have HX1:=am (blk_below HX.out hb)
     clear hb hx0 hx1 hx2 hx3
     have HN3:=am (below_alloc HN2.out (.cells #[.int .i64 n.f0,.int .i64 n.f1] 43))
     have HV3:=am (Kd.R_alloc HV2.out (.cells #[.int .i64 n.f0,.int .i64 n.f1] 43))
     have HX2:=am (blk_alloc HX1.out (.cells #[.int .i64 n.f0,.int .i64 n.f1] 43))
     by_cases hn0 : n.f0 > 0
     ·
      have g0:=bd HX2.out 0
      have HZ:=am (HN3.out.size)
      have HGT:=am hn0
      go_wp2_with (at_builtin;refine Kd.R_append k89 (w0:=w2) w2.heap.size rfl _ _ 55 89 (.agg #[.int .i64 0,.int .i64 0,.int .i64 0]) 24 rfl Tryz.underlying55 info89 rfl (by decide) (by decide) (.slice Av qq.length cv) qq ⟨b.f0,n⟩ [.int .i64 b.f0,.int .i64 n.f0,.int .i64 n.f1] (fun _ => True) (fun _ => False) rfl (by rw [show (w5.alloc (.cells #[.int .i64 n.f0,.int .i64 n.f1] 43)).heap.size = w5.heap.size + 1 by simp];rfl) (k89_mkM _ _ _ ⟨b.f0,n⟩) (fun _ h => h.elim) (fun _ _ => trivial) HV3.out HN3.out HZ.out (by have:=HQL.out;omega) ?_;intro v3 w8 hr3 hb3 hg3 hat3;have HR3:=am hr3;have HB3:=am hb3;clear hr3 hb3 hg3 hat3 g0)
      go_roundw
      case rel => exact ⟨j + 1,by omega,by go_num,HB3,⟨by rw [HT9.out,if_pos HGT.out];exact HR3.out⟩⟩
      case measure => simp [intOf];omega
     ·
      have HGT:=am hn0
      go_wp2
      go_roundw
      case rel => exact ⟨j + 1,by omega,by go_num,HN3,⟨by rw [HT9.out,if_neg (by have:=HGT.out;omega),List.append_nil];exact HV3.out⟩⟩
      case measure => simp [intOf];omega
    ·
     have hje : j = Y.barrows.length:=by omega
     have HW9:=am (show qq = wentP Y.barrows pour by rw [HQQ.out,hje,List.take_length])
     have HR9:=am (blk_below HR3.out HN.out)
     have HT9:=am (blk_below HT2.out HN.out)
     have HB9:=am (below_then HB5.out (below_size HB5.out) HN.out)
     have HY9:=am (HY1.out.move HN.out)
     have HV9:=am HV.out
     clear HN HV hje
     have HPF:=am HWF.out.flat
     have HL0:=am (show (partsP Y.pits.flatten).length ≤ 10000000 from by have h1:=partsP_len HPF.out.2;have h2:=HPF.out.1;omega)
     obtain ⟨Ap,cp,hp,hlp,hCp⟩:=Kd.R_reads HY9.out.pits
     have g1 : wr.cell? ⟨L.g,1,none⟩ = some (.slice Ap Y.pits.length cp):=(blk_cell HY9.out.blk 1).trans (by rw [← hp];rfl)
     have HCP:=am hCp
     have HLP:=am hlp
     clear hp hlp hCp
     go_wp2_with fail
     refine (concat_calls Ap cp Y.pits wr L.Not HCP.out HLP.out (by have:=HPF.out.1;omega)).mono ?_
     rintro e w6 ⟨v,rfl,hb,hR⟩
     obtain ⟨fl,hfl⟩ : ∃ fl,fl = Y.pits.flatten:=⟨_,rfl⟩
     rw [← hfl] at hR HPF HL0
     have HFL:=am hfl
     clear hfl
     obtain ⟨A6,c6,rfl⟩:=Kd.R_slice hR
     have HC6:=am (C_of_ft (Kd.R_reads' hR).2.2 (fun k _ hlt => hb.block k hlt))
     have HL6:=am (Kd.R_reads' hR).2.1
     have HR91:=am (blk_below HR9.out hb)
     have HT91:=am (blk_below HT9.out hb)
     have HB91:=am (below_then HB9.out (below_size HB9.out) hb)
     have HY91:=am (HY9.out.move hb)
     have HV91:=am (Kd.R_below HV9.out hb)
     clear hb hR g1
     go_wp2_with fail
     refine (of_calls w6 A6 c6 fl pour HC6.out HL6.out HL0.out).mono ?_
     rintro e w7 ⟨hb,A7,c7,rfl,hl7,hC7⟩
     have HC7:=am hC7
     have HL7:=am hl7
     have HR92:=am (blk_below HR91.out hb)
     have HT92:=am (blk_below HT91.out hb)
     have HB92:=am (below_then HB91.out (below_size HB91.out) hb)
     have HY92:=am (HY91.out.move hb)
     have HV92:=am (Kd.R_below HV91.out hb)
     clear hb hC7 hl7
     go_wp2_with fail
     refine (total114_calls A7 c7 (ofL pour (partsP fl)) idR 117 #[] (fun _ => True) w7 HC7.out HL7.out ek117 trivial (fun _ _ _ _ => trivial) (fun r w _ _ => own_calls r w)).mono ?_
     rintro e w8 ⟨rfl,hb⟩
     rw [totalE_eq]
     have HR93:=am (blk_below HR92.out hb)
     have HT93:=am (blk_below HT92.out hb)
     have HB93:=am (below_then HB92.out (below_size HB92.out) hb)
     have HY93:=am (HY92.out.move hb)
     have HV93:=am (Kd.R_below HV92.out hb)
     clear hb
     have HSZ8:=am (show W.heap.size + 1 + 1 < w8.heap.size from blk_lt HT93.out)
     obtain ⟨n1,hn1⟩ : ∃ n1,n1 = (leftP Y pour).getD ⟨0,0⟩:=⟨_,rfl⟩
     obtain ⟨k1,hk1⟩ : ∃ k1,k1 = (leftP Y pour).isSome:=⟨_,rfl⟩
     rw [show (totalP idR (ofL pour (partsP fl))).getD ⟨0,0⟩ = n1 from by rw [HFL.out];exact hn1.symm,show (totalP idR (ofL pour (partsP fl))).isSome = k1 from by rw [HFL.out];exact hk1.symm]
     have HN1:=am hn1
     have HK1:=am hk1
     clear hn1 hk1
     have HR94:=am (blk_alloc HR93.out (.cells #[.int .i64 n1.f0,.int .i64 n1.f1] 43))
     have HT94:=am (blk_alloc HT93.out (.cells #[.int .i64 n1.f0,.int .i64 n1.f1] 43))
     have HB94:=am (below_alloc HB93.out (.cells #[.int .i64 n1.f0,.int .i64 n1.f1] 43))
     have HY94:=am (HY93.out.move (below_alloc (Below.refl _ _) (.cells #[.int .i64 n1.f0,.int .i64 n1.f1] 43)))
     have HV94:=am (Kd.R_alloc HV93.out (.cells #[.int .i64 n1.f0,.int .i64 n1.f1] 43))
     have HP:=am (blk_new w8 (.cells #[.int .i64 n1.f0,.int .i64 n1.f1] 43))
     obtain ⟨Aq,cq,hp,hlp,hCq⟩:=Kd.R_reads HY94.out.lost
     have g5 : (w8.alloc (.cells #[.int .i64 n1.f0,.int .i64 n1.f1] 43)).cell? ⟨L.g,5,none⟩ = some (.slice Aq Y.lost.length cq):=(blk_cell HY94.out.blk 5).trans (by rw [← hp];rfl)
     have HCQ:=am (show Kd.C k212 (w8.alloc (.cells #[.int .i64 n1.f0,.int .i64 n1.f1] 43)) Aq Y.lost.length Y.lost from hCq.imp_ (Below.refl _ _) fun _ _ hp => Foot.now hp)
     have HLQ:=am hlp
     clear hp hlp hCq
     have HLO:=am (show (partsP Y.lost).length ≤ 10000000 from by have h1:=partsP_len HWF.out.lost;have h2:=HWF.out.nlost;have h3:=HSL.out;omega)
     go_wp2_with fail
     refine (of_calls (w8.alloc (.cells #[.int .i64 n1.f0,.int .i64 n1.f1] 43)) Aq cq Y.lost pour HCQ.out HLQ.out HLO.out).mono ?_
     rintro e w9 ⟨hb,A8,c8,rfl,hl8,hC8⟩
     have HC8:=am hC8
     have HL8:=am hl8
     have HR95:=am (blk_below HR94.out hb)
     have HT95:=am (blk_below HT94.out hb)
     have HB95:=am (below_then HB94.out (below_size HB94.out) hb)
     have HV95:=am (Kd.R_below HV94.out hb)
     have HP1:=am (blk_below HP.out hb)
     clear hb hC8 hl8 g5
     go_wp2_with fail
     refine (total114_calls A8 c8 (ofL pour (partsP Y.lost)) idR 117 #[] (fun _ => True) w9 HC8.out HL8.out ek117 trivial (fun _ _ _ _ => trivial) (fun r w _ _ => own_calls r w)).mono ?_
     rintro e w10 ⟨rfl,hb⟩
     rw [totalE_eq]
     have HR96:=am (blk_below HR95.out hb)
     have HT96:=am (blk_below HT95.out hb)
     have HB96:=am (below_then HB95.out (below_size HB95.out) hb)
     have HV96:=am (Kd.R_below HV95.out hb)
     have HP2:=am (blk_below HP1.out hb)
     clear hb
     have HSZ9:=am (show w8.heap.size < w10.heap.size from blk_lt HP2.out)
     obtain ⟨n2,hn2⟩ : ∃ n2,n2 = (lostP Y pour).getD ⟨0,0⟩:=⟨_,rfl⟩
     obtain ⟨k2,hk2⟩ : ∃ k2,k2 = (lostP Y pour).isSome:=⟨_,rfl⟩
     rw [show (totalP idR (ofL pour (partsP Y.lost))).getD ⟨0,0⟩ = n2 from hn2.symm,show (totalP idR (ofL pour (partsP Y.lost))).isSome = k2 from hk2.symm]
     have HN2:=am hn2
     have HK2:=am hk2
     clear hn2 hk2
     have HR97:=am (blk_alloc HR96.out (.cells #[.int .i64 n2.f0,.int .i64 n2.f1] 43))
     have HT97:=am (blk_alloc HT96.out (.cells #[.int .i64 n2.f0,.int .i64 n2.f1] 43))
     have HB97:=am (below_alloc HB96.out (.cells #[.int .i64 n2.f0,.int .i64 n2.f1] 43))
     have HV97:=am (Kd.R_alloc HV96.out (.cells #[.int .i64 n2.f0,.int .i64 n2.f1] 43))
     have HP3:=am (blk_alloc HP2.out (.cells #[.int .i64 n2.f0,.int .i64 n2.f1] 43))
     have HH:=am (blk_new w10 (.cells #[.int .i64 n2.f0,.int .i64 n2.f1] 43))
     cases k1 with
    |false =>
      have HE:=am (show q = ([],⟨0,0⟩,⟨0,0⟩,3) by rw [HQ1.out];rw [if_neg (by rw [← HK1.out];simp)])
      have u0:=bd HR97.out 0
      have fu0:=blk_frozen HR97.out 0
      have u1:=bd HR97.out 1
      have fu1:=blk_frozen HR97.out 1
      have v0:=bd HT97.out 0
      have fv0:=blk_frozen HT97.out 0
      have v1:=bd HT97.out 1
      have fv1:=blk_frozen HT97.out 1
      go_wp2
      rw [HE.out]
      have by_:=blk_far (p:=⟨W.heap.size + 1 + 1,1,none⟩) (blk_far (p:=⟨W.heap.size + 1 + 1,0,none⟩) (blk_put (cs':=#[.int .i64 0,.int .i64 0]) (blk_put (cs':=#[.int .i64 0,.int .i64 0]) (HR97.out) 0 (.int .i64 0) rfl) 1 (.int .i64 0) rfl) (by simp) (.int .i64 0)) (by simp) (.int .i64 0)
      have bz:=blk_put (cs':=#[.int .i64 0,.int .i64 0]) (blk_put (cs':=#[.int .i64 0,.int .i64 0]) (blk_far (p:=⟨W.heap.size + 1,1,none⟩) (blk_far (p:=⟨W.heap.size + 1,0,none⟩) (HT97.out) (by simp) (.int .i64 0)) (by simp) (.int .i64 0)) 0 (.int .i64 0) rfl) 1 (.int .i64 0) rfl
      have y0:=bd by_ 0
      have y1:=bd by_ 1
      have z0:=bd bz 0
      have z1:=bd bz 1
      exact bodyPost_ret (v:=.tuple #[.slice none 0 0,.agg #[.int .i64 0,.int .i64 0],.agg #[.int .i64 0,.int .i64 0],.int .i64 3]) (by simp [results,Tryz.results36,go_sem,y0,y1,z0,z1,hu43]) rfl ⟨((((HB97.out).setCell (p:=⟨W.heap.size + 1,0,none⟩) (by first|(simp;done)|(simp;omega)) (.int .i64 0)).setCell (p:=⟨W.heap.size + 1,1,none⟩) (by first|(simp;done)|(simp;omega)) (.int .i64 0)).setCell (p:=⟨W.heap.size + 1 + 1,0,none⟩) (by first|(simp;done)|(simp;omega)) (.int .i64 0)).setCell (p:=⟨W.heap.size + 1 + 1,1,none⟩) (by first|(simp;done)|(simp;omega)) (.int .i64 0),none,0,rfl,Nat.le_refl 0,Kd.F_nil k89 _ _⟩
    |true =>
      cases k2 with
     |false =>
       have HE:=am (show q = ([],⟨0,0⟩,⟨0,0⟩,3) by rw [HQ1.out];rw [if_pos HK1.out.symm,if_neg (by rw [← HK2.out];simp)])
       have u0:=bd HR97.out 0
       have fu0:=blk_frozen HR97.out 0
       have u1:=bd HR97.out 1
       have fu1:=blk_frozen HR97.out 1
       have v0:=bd HT97.out 0
       have fv0:=blk_frozen HT97.out 0
       have v1:=bd HT97.out 1
       have fv1:=blk_frozen HT97.out 1
       go_wp2
       rw [HE.out]
       have by_:=blk_far (p:=⟨W.heap.size + 1 + 1,1,none⟩) (blk_far (p:=⟨W.heap.size + 1 + 1,0,none⟩) (blk_put (cs':=#[.int .i64 0,.int .i64 0]) (blk_put (cs':=#[.int .i64 0,.int .i64 0]) (HR97.out) 0 (.int .i64 0) rfl) 1 (.int .i64 0) rfl) (by simp) (.int .i64 0)) (by simp) (.int .i64 0)
       have bz:=blk_put (cs':=#[.int .i64 0,.int .i64 0]) (blk_put (cs':=#[.int .i64 0,.int .i64 0]) (blk_far (p:=⟨W.heap.size + 1,1,none⟩) (blk_far (p:=⟨W.heap.size + 1,0,none⟩) (HT97.out) (by simp) (.int .i64 0)) (by simp) (.int .i64 0)) 0 (.int .i64 0) rfl) 1 (.int .i64 0) rfl
       have y0:=bd by_ 0
       have y1:=bd by_ 1
       have z0:=bd bz 0
       have z1:=bd bz 1
       exact bodyPost_ret (v:=.tuple #[.slice none 0 0,.agg #[.int .i64 0,.int .i64 0],.agg #[.int .i64 0,.int .i64 0],.int .i64 3]) (by simp [results,Tryz.results36,go_sem,y0,y1,z0,z1,hu43]) rfl ⟨((((HB97.out).setCell (p:=⟨W.heap.size + 1,0,none⟩) (by first|(simp;done)|(simp;omega)) (.int .i64 0)).setCell (p:=⟨W.heap.size + 1,1,none⟩) (by first|(simp;done)|(simp;omega)) (.int .i64 0)).setCell (p:=⟨W.heap.size + 1 + 1,0,none⟩) (by first|(simp;done)|(simp;omega)) (.int .i64 0)).setCell (p:=⟨W.heap.size + 1 + 1,1,none⟩) (by first|(simp;done)|(simp;omega)) (.int .i64 0),none,0,rfl,Nat.le_refl 0,Kd.F_nil k89 _ _⟩
     |true =>
       have HE:=am (show q = (qq,n1,n2,0) by rw [HQ1.out,if_pos HK1.out.symm,if_pos HK2.out.symm,← HN1.out,← HN2.out,← HW9.out])
       have HS1:=am (show W.heap.size + 1 + 1 < w8.heap.size ∧ w8.heap.size < w10.heap.size from ⟨HSZ8.out,HSZ9.out⟩)
       have HR98:=am (blk_drew HR97.out)
       have HT98:=am (blk_drew HT97.out)
       have HB98:=am (below_drew HB97.out)
       have HV98:=am (Kd.R_drew HV97.out)
       have HP4:=am (blk_drew HP3.out)
       have HH1:=am (blk_drew HH.out)
       go_wp2
       refine start_ (n:=7) (S:=fun w' => w'.cell? ⟨w8.heap.size,0,none⟩ = some (.int .i64 n1.f0) ∧ w'.cell? ⟨w8.heap.size,1,none⟩ = some (.int .i64 n1.f1) ∧ w'.cell? ⟨w10.heap.size,0,none⟩ = some (.int .i64 n2.f0) ∧ w'.cell? ⟨w10.heap.size,1,none⟩ = some (.int .i64 n2.f1)) (ds:=[5]) (ab 7 0) kr rfl kr ⟨(blk_cell HP4.out 0).trans rfl,(blk_cell HP4.out 1).trans rfl,(blk_cell HH1.out 0).trans rfl,(blk_cell HH1.out 1).trans rfl⟩ (fun hHeld => ?_);refine with_tabW R36_18.tab R36_18.bits (fun HT_ HW_ => ?_)
       generalize ((w10.alloc (.cells #[.int .i64 n2.f0,.int .i64 n2.f1] 43))).drew = wd at HR98 HT98 HB98 HV98 HP4 HH1 hHeld ⊢
       refine qA 0 (some 86) ?_;refine qT 1 (some 87) ?_;refine qT 2 (some 88) ?_;refine qA 3 (some 4) ?_
       refine qE 4 (none) fun K hK => ?_
       have u0:=bd HR98.out 0
       have fu0:=blk_frozen HR98.out 0
       have u1:=bd HR98.out 1
       have fu1:=blk_frozen HR98.out 1
       refine skip_ (w1:=?_) (by rfl) rfl ?_ ?_
       rotate_left
       ·go_simp
        rfl
       have HT99:=am (blk_far (p:=⟨W.heap.size + 1,1,none⟩) (blk_far (p:=⟨W.heap.size + 1,0,none⟩) (HT98.out) (by have h1:=HS1.out;(try dsimp only);omega) (.int .i64 n1.f0)) (by have h1:=HS1.out;(try dsimp only);omega) (.int .i64 n1.f1))
       have HP5:=am (blk_far (p:=⟨W.heap.size + 1,1,none⟩) (blk_far (p:=⟨W.heap.size + 1,0,none⟩) (HP4.out) (by have h1:=HS1.out;(try dsimp only);omega) (.int .i64 n1.f0)) (by have h1:=HS1.out;(try dsimp only);omega) (.int .i64 n1.f1))
       have HH2:=am (blk_far (p:=⟨W.heap.size + 1,1,none⟩) (blk_far (p:=⟨W.heap.size + 1,0,none⟩) (HH1.out) (by have h1:=HS1.out;(try dsimp only);omega) (.int .i64 n1.f0)) (by have h1:=HS1.out;(try dsimp only);omega) (.int .i64 n1.f1))
       refine hK.out _ _ ⟨(blk_cell HP5.out 0).trans rfl,(blk_cell HP5.out 1).trans rfl,(blk_cell HH2.out 0).trans rfl,(blk_cell HH2.out 1).trans rfl⟩ (fun hHeld => ?_)
       clear hK K
       refine qL 5 (none) fun K hK => ?_
       have v0:=bd HT99.out 0
       have fv0:=blk_frozen HT99.out 0
       have v1:=bd HT99.out 1
       have fv1:=blk_frozen HT99.out 1
       refine skip_ (w1:=?_) (by rfl) rfl ?_ ?_
       rotate_left
       ·go_simp
        rfl
       refine hK.out _ _ ?_
       clear hK K
       refine qA 6 (some 7) ?_
       refine done_ (done_of HT_.out kr) ?_
       go_wp2
       rw [HE.out]
       have HVZ:=am (R89_far (R89_far (R89_far (R89_far (HV98.out) ⟨W.heap.size + 1,0,none⟩ (by have h1:=HLW.out;(try dsimp only);omega) (.int .i64 n1.f0)) ⟨W.heap.size + 1,1,none⟩ (by have h1:=HLW.out;(try dsimp only);omega) (.int .i64 n1.f1)) ⟨W.heap.size + 1 + 1,0,none⟩ (by have h1:=HLW.out;(try dsimp only);omega) (.int .i64 n2.f0)) ⟨W.heap.size + 1 + 1,1,none⟩ (by have h1:=HLW.out;(try dsimp only);omega) (.int .i64 n2.f1))
       have by_:=blk_far (p:=⟨W.heap.size + 1 + 1,1,none⟩) (blk_far (p:=⟨W.heap.size + 1 + 1,0,none⟩) (blk_put (cs':=#[.int .i64 n1.f0,.int .i64 n1.f1]) (blk_put (cs':=#[.int .i64 n1.f0,.int .i64 0]) (HR98.out) 0 (.int .i64 n1.f0) rfl) 1 (.int .i64 n1.f1) rfl) (by simp) (.int .i64 n2.f0)) (by simp) (.int .i64 n2.f1)
       have bz:=blk_put (cs':=#[.int .i64 n2.f0,.int .i64 n2.f1]) (blk_put (cs':=#[.int .i64 n2.f0,.int .i64 0]) (blk_far (p:=⟨W.heap.size + 1,1,none⟩) (blk_far (p:=⟨W.heap.size + 1,0,none⟩) (HT98.out) (by simp) (.int .i64 n1.f0)) (by simp) (.int .i64 n1.f1)) 0 (.int .i64 n2.f0) rfl) 1 (.int .i64 n2.f1) rfl
       have y0:=bd by_ 0
       have y1:=bd by_ 1
       have z0:=bd bz 0
       have z1:=bd bz 1
       exact bodyPost_ret (v:=.tuple #[.slice Av qq.length cv,.agg #[.int .i64 n1.f0,.int .i64 n1.f1],.agg #[.int .i64 n2.f0,.int .i64 n2.f1],.int .i64 0]) (by simp [results,Tryz.results36,go_sem,y0,y1,z0,z1,hu43]) rfl ⟨((((HB98.out).setCell (p:=⟨W.heap.size + 1,0,none⟩) (by first|(simp;done)|(simp;omega)) (.int .i64 n1.f0)).setCell (p:=⟨W.heap.size + 1,1,none⟩) (by first|(simp;done)|(simp;omega)) (.int .i64 n1.f1)).setCell (p:=⟨W.heap.size + 1 + 1,0,none⟩) (by first|(simp;done)|(simp;omega)) (.int .i64 n2.f0)).setCell (p:=⟨W.heap.size + 1 + 1,1,none⟩) (by first|(simp;done)|(simp;omega)) (.int .i64 n2.f1),Av,cv,rfl,(Kd.R_reads' HVZ.out).2.1,Kd.R_F (Kd.R_reok rfl HVZ.out fun k hk => by have h1:=Kd.R_base HVZ.out k hk;have h2:=HLW.out;omega)⟩
theorem info84_ : (Tryz.prog.info? 84).map (fun i => (i.zero,i.size,i.bytes)) = some (some (.agg #[.int .i64 0,.int .i64 0,.int .i64 0,.int .i64 0,.int .i64 0,.int .i64 0]),k84.sz,48):=by kernel_rfl
set_option maxRecDepth 100000 in
set_option maxHeartbeats 1000000 in
theorem clone124_calls (A : Option Addr) (c : Nat) (l : List S84) (W : World) (ok : Nat → Prop) (hF : Kd.F k84 W ok A l.length l) (hc : l.length ≤ c) (hm : l.length ≤ 100000000) :
  Calls Tryz.prog 124 #[.slice A l.length c] W fun e W' => ∃ v,e = .returned v ∧ Below W.heap.size W W' ∧ (ft k84 W ok).R 84 W' W.heap.size (fun _ => True) v l:=by
 have q : ∀ (w : World) (a : Option Addr) (n c n' c' : Nat),(binOp .eql 30 (.slice a n c) (.slice none n' c')).run Tryz.prog w = .ok (.bool a.isNone) w:=fun w a n c n' c' => Lib.run_eql_slice_nil w _ _ a n c n' c' Tryz.underlying30
 have HF:=am hF
 have HC:=(Kd.F_now hF).2.2
 clear hF
 rcases A with _|ad
 ·have hl : l = []:=by
   rcases Nat.eq_zero_or_pos l.length with h|h
   ·exact List.eq_nil_of_length_eq_zero h
   ·obtain ⟨ad,h,_⟩:=HC h;cases h
  subst hl
  clear HC
  go_enter Tryz.func124,Tryz.ntmps124
  go_wp2
  go_ret
  exact ⟨_,rfl,Below.refl _ _,Kd.R_nil _ _ _ _ _⟩
 ·clear HC
  have HO:=am (show (ft k84 W ok).R 84 (W.alloc (.cells #[] 84)) W.heap.size (fun _ => True) (.slice (some ⟨W.heap.size,0,none⟩) 0 0) [] from ⟨fun _ _ => trivial,OwnRow.lit (ps:=[]) W W.heap.size (inner:=[]) (Reps.none _ _) (Nat.le_refl _) (by simp)⟩)
  have HB:=am (below_alloc (Below.refl W.heap.size W) (.cells #[] 84))
  have HX:=am (ReadsRow.imp_ (Kd.F_rows HF.out) (below_alloc (Below.refl _ _) (.cells #[] 84)) (fun _ _ h => h))
  go_enter Tryz.func124,Tryz.ntmps124
  go_wp2_with (at_builtin;go_loud (refine Kd.R_append_rows (ft k84 W ok) (Rr:=fun x c => Kd.FK k84 W ok x c) (w0:=W) (W:=W.alloc (.cells #[] 84)) W.heap.size rfl _ _ 30 84 (.agg #[.int .i64 0,.int .i64 0,.int .i64 0,.int .i64 0,.int .i64 0,.int .i64 0]) 48 rfl Tryz.underlying30 info84_ rfl (by show 0 < (k84 : Kd _).sz;decide) (by decide) (.slice (some ⟨W.heap.size,0,none⟩) 0 0) [] l (some ad) l.length c (fun _ => True) (fun _ => False) rfl rfl HO.out HX.out (fun _ _ h => h) (fun _ h => h.elim) (fun _ _ => trivial) HB.out (below_size HB.out) (by simp;omega) ?_;intro v1 w1 hs1 hb1 hg1 hat1;have HS1:=am hs1;have HB1:=am hb1;clear hs1 hb1 hg1 hat1))
  go_ret
  exact ⟨_,rfl,HB1.out,HS1.out⟩
theorem info3_ : (Tryz.prog.info? 3).map (fun i => (i.zero,i.size,i.bytes)) = some (some (.int .i64 0),(Kd.int .i64).sz,8):=by kernel_rfl
set_option maxRecDepth 100000 in
set_option maxHeartbeats 1000000 in
theorem clone78_calls (A : Option Addr) (c : Nat) (l : List Int) (W : World) (ok : Nat → Prop) (hF : Kd.F (Kd.int .i64) W ok A l.length l) (hc : l.length ≤ c) (hm : l.length ≤ 100000000) :
  Calls Tryz.prog 78 #[.slice A l.length c] W fun e W' => ∃ v,e = .returned v ∧ Below W.heap.size W W' ∧ (ft (Kd.int .i64) W ok).R 3 W' W.heap.size (fun _ => True) v l:=by
 have q : ∀ (w : World) (a : Option Addr) (n c n' c' : Nat),(binOp .eql 27 (.slice a n c) (.slice none n' c')).run Tryz.prog w = .ok (.bool a.isNone) w:=fun w a n c n' c' => Lib.run_eql_slice_nil w _ _ a n c n' c' Tryz.underlying27
 have HF:=am hF
 have HC:=(Kd.F_now hF).2.2
 clear hF
 rcases A with _|ad
 ·have hl : l = []:=by
   rcases Nat.eq_zero_or_pos l.length with h|h
   ·exact List.eq_nil_of_length_eq_zero h
   ·obtain ⟨ad,h,_⟩:=HC h;cases h
  subst hl
  clear HC
  go_enter Tryz.func78,Tryz.ntmps78
  go_wp2
  go_ret
  exact ⟨_,rfl,Below.refl _ _,Kd.R_nil _ _ _ _ _⟩
 ·clear HC
  have HO:=am (show (ft (Kd.int .i64) W ok).R 3 (W.alloc (.cells #[] 3)) W.heap.size (fun _ => True) (.slice (some ⟨W.heap.size,0,none⟩) 0 0) [] from ⟨fun _ _ => trivial,OwnRow.lit (ps:=[]) W W.heap.size (inner:=[]) (Reps.none _ _) (Nat.le_refl _) (by simp)⟩)
  have HB:=am (below_alloc (Below.refl W.heap.size W) (.cells #[] 3))
  have HX:=am (ReadsRow.imp_ (Kd.F_rows HF.out) (below_alloc (Below.refl _ _) (.cells #[] 3)) (fun _ _ h => h))
  go_enter Tryz.func78,Tryz.ntmps78
  go_wp2_with (at_builtin;go_loud (refine Kd.R_append_rows (ft (Kd.int .i64) W ok) (Rr:=fun x c => Kd.FK (Kd.int .i64) W ok x c) (w0:=W) (W:=W.alloc (.cells #[] 3)) W.heap.size rfl _ _ 27 3 (.int .i64 0) 8 rfl Tryz.underlying27 info3_ rfl (by show 0 < ((Kd.int .i64) : Kd _).sz;decide) (by decide) (.slice (some ⟨W.heap.size,0,none⟩) 0 0) [] l (some ad) l.length c (fun _ => True) (fun _ => False) rfl rfl HO.out HX.out (fun _ _ h => h) (fun _ h => h.elim) (fun _ _ => trivial) HB.out (below_size HB.out) (by simp;omega) ?_;intro v1 w1 hs1 hb1 hg1 hat1;have HS1:=am hs1;have HB1:=am hb1;clear hs1 hb1 hg1 hat1))
  go_ret
  exact ⟨_,rfl,HB1.out,HS1.out⟩
section
def cells84 (x : S84) : List Value:=[.int .i64 x.f0,.int .i64 x.f1,.int .i64 x.f2,.int .i64 x.f3,.int .i64 x.f4,.int .i64 x.f5]
theorem size84_ : (Tryz.prog.info? 84).map (·.size) = some 6:=by kernel_rfl
theorem exec_store {P : Program} {ρ : Operand → Value} {oi : Oper} {t : TypeId} {p q : Operand} {u v : Value} {w w1 : World} (ho : oi.op = .store t p q) (hp : ρ p = u) (hq : ρ q = v) (hrun : (Instr.storeAt t u v).run P w = .ok () w1) : (execOp ρ oi).run P w = .ok .skip w1:=by
 unfold execOp
 simp only [ho,hp,hq,Sem.run_bind,Sem.run_pure,Result.andThen_ok,hrun]
theorem below_grown {N : Nat} {w0 w w1 : World} {g : Nat} (h : Below N w0 w) (hN : N ≤ w.heap.size) (hg : w.grownBy w1 (some g)) (hb : N ≤ g) : Below N w0 w1 :=
 h.trans ⟨hg.os,hg.tape,hg.output,hg.size,fun k hk => hg.block k (Nat.lt_of_lt_of_le hk hN) (fun e => by injection e with e;omega)⟩
theorem R84_of_ft {W w : World} {okf ok : Nat → Prop} {N : Nat} {v : Value} {l : List S84} (h : (ft k84 W okf).R 84 w N ok v l) : k84.R 84 w N ok v l :=
 ⟨h.1,h.2.imp_ (fun x cs (hp : Kd.FK k84 W okf x cs) => by
  obtain rfl:=k84_open (Foot.now hp)
  exact k84_mkM _ _ _ x)⟩
theorem R3_of_ft {W w : World} {okf ok : Nat → Prop} {N : Nat} {v : Value} {l : List Int} (h : (ft (Kd.int .i64) W okf).R 3 w N ok v l) : (Kd.int .i64).R 3 w N ok v l :=
 ⟨h.1,h.2.imp_ (fun x cs (hp : Kd.FK (Kd.int .i64) W okf x cs) => Foot.now hp)⟩
section
variable {w : World} {N g n cap i : Nat} {ok : Nat → Prop} {ls : List S84}
set_option maxRecDepth 100000 in
theorem row84_set (HO : k84.R 84 w N ok (.slice (some ⟨g,0,none⟩) n cap) ls) (hi : i < n) (x : S84) :
  (Instr.storeAt 84 (.pointer (some ⟨g,i * 6,none⟩)) (.agg #[.int .i64 x.f0,.int .i64 x.f1,.int .i64 x.f2,.int .i64 x.f3,.int .i64 x.f4,.int .i64 x.f5])).run Tryz.prog w = .ok () (w.setCells g (i * 6) (cells84 x)) ∧ k84.R 84 (w.setCells g (i * 6) (cells84 x)) N ok (.slice (some ⟨g,0,none⟩) n cap) (ls.set i x) ∧ w.grownBy (w.setCells g (i * 6) (cells84 x)) (some g):=by
 obtain ⟨cc,hcl,hM,hcc,hfr⟩:=Kd.R_elem HO z84 (i : Int) (by omega) (by omega)
 have hseg:=Kd.R_seg HO (i : Int) (by omega) (by omega) (c:=cc) (seg:=cells84 x) (j:=0) hcl hcc (Nat.le_refl 6) (x':=x) (okp:=fun _ => False) (by
  rw [List.take_zero,List.nil_append,List.drop_eq_nil_of_le (by rw [hcl];exact Nat.le_refl 6),List.append_nil]
  exact k84_mkM w N _ x) (fun k hk => hk.elim)
 rw [Int.toNat_natCast] at hseg
 refine ⟨?_,hseg.1,hseg.2⟩
 have hnx : n = ls.length:=(Kd.R_reads' HO).1
 obtain ⟨_,inner,hown,hr⟩:=HO
 rcases hown.2 with ⟨hv,_⟩|⟨g',cap',cur,hv,hb,hh,hnc,hcm,hcs,_⟩
 ·cases hv
 injection hv with ha _ hc
 injection ha with ha
 injection ha with hg'
 subst hg'
 subst hc
 have hcs' : cur.size = cap * 6:=hcs
 refine run_store_run (e:=84) 84 _ (cells84 x) hh rfl size84_ ?_ ?_
 ·have h2 : i * 6 + 6 ≤ n * 6:=by omega
  have h3 : n * 6 ≤ cap * 6:=Nat.mul_le_mul_right _ (by omega)
  show i * 6 + 6 ≤ _
  omega
 ·intro q hq
  unfold cells84 at hq
  simp only [List.mem_cons,List.not_mem_nil,or_false] at hq
  rcases hq with rfl|rfl|rfl|rfl|rfl|rfl <;> rfl
theorem row84_day (HO : k84.R 84 w N ok (.slice (some ⟨g,0,none⟩) n cap) ls) (hi : i < n) (d : Int) :
  k84.R 84 (w.setCell ⟨g,i * 6 + 2,none⟩ (.int .i64 d)) N ok (.slice (some ⟨g,0,none⟩) n cap) (ls.set i { ls.getD i z84 with f2:=d }) ∧ w.grownBy (w.setCell ⟨g,i * 6 + 2,none⟩ (.int .i64 d)) (some g) ∧ w.cell? ⟨g,i * 6 + 2,none⟩ = some (.int .i64 (ls.getD i z84).f2) ∧ w.frozen? ⟨g,i * 6 + 2,none⟩ = false:=by
 obtain ⟨cc,hcl,hM,hcc,hfr⟩:=Kd.R_elem HO z84 (i : Int) (by omega) (by omega)
 rw [Int.toNat_natCast] at hM hcc hfr
 obtain ⟨x,hx⟩ : ∃ x,x = ls.getD i z84:=⟨_,rfl⟩
 rw [← hx] at hM ⊢
 obtain rfl:=k84_openM hM
 have hseg:=Kd.R_seg HO (i : Int) (by omega) (by omega) (seg:=[.int .i64 d]) (j:=2) hcl (by rw [Int.toNat_natCast];exact hcc) (show 2 + 1 ≤ 6 by omega) (x':={ x with f2:=d }) (okp:=fun _ => False) (k84_mkM w N _ { x with f2:=d }) (fun k hk => hk.elim)
 rw [Int.toNat_natCast] at hseg
 exact ⟨hseg.1,hseg.2,hcc 2 _ rfl,hfr 2⟩
end
def swapP (l : List S84) (k : Nat) : List S84:=(l.set k { rd_T84 l ((k + 1 : Nat) : Int) with f2:=(rd_T84 l (k : Int)).f2 }).set (k + 1) { rd_T84 l (k : Int) with f2:=(rd_T84 l ((k + 1 : Nat) : Int)).f2 }
theorem getD84_set {l : List S84} {i t : Nat} (x : S84) (hi : i < l.length) : (l.set i x).getD t z84 = if t = i then x else l.getD t z84:=getD_set_ l i t x z84 hi
theorem swap_steps {l : List S84} {k : Nat} (h : k + 1 < l.length) (s0 s1 : S84) (h0 : s0 = rd_T84 l (k : Int)) (h1 : s1 = rd_T84 l ((k + 1 : Nat) : Int)) :
  ((((l.set k s1).set (k + 1) s0).set k { ((l.set k s1).set (k + 1) s0).getD k z84 with f2:=s0.f2 }).set (k + 1) { (((l.set k s1).set (k + 1) s0).set k { ((l.set k s1).set (k + 1) s0).getD k z84 with f2:=s0.f2 }).getD (k + 1) z84 with f2:=s1.f2 }) = swapP l k:=by
 have e1 : ((l.set k s1).set (k + 1) s0).getD k z84 = s1:=by
  rw [getD84_set s0 (by rw [List.length_set];omega),if_neg (by omega),getD84_set s1 (by omega),if_pos rfl]
 rw [e1]
 have e2 : ∀ y,(((l.set k s1).set (k + 1) s0).set k y).getD (k + 1) z84 = s0:=by
  intro y
  rw [getD84_set y (by rw [List.length_set,List.length_set];omega),if_neg (by omega),getD84_set s0 (by rw [List.length_set];omega),if_pos rfl]
 rw [e2]
 unfold swapP
 rw [← h0,← h1]
 apply List.ext_getElem?
 intro t
 simp only [List.getElem?_set,List.length_set]
 by_cases ht1 : k + 1 = t
 ·subst ht1;simp
 ·by_cases ht0 : k = t
  ·subst ht0;simp
  ·simp [ht1,ht0]
theorem swapP_length (l : List S84) (k : Nat) : (swapP l k).length = l.length:=by unfold swapP;rw [List.length_set,List.length_set]
end
def R44_6.T : Bool × List (List Nat × List Nat):=(true,[([],[]),([0],[0]),([1],[1]),([],[]),([3],[3]),([4,2],[4]),([2,5],[2,5]),([],[]),([7,6,5,0,1,2,3,4,5,6,7],[6,7])])
def R44_6.B : List Nat:=[0,1,3,0,8,31,63,0,255]
theorem R44_6.tab : rtab .any (opsOf Tryz.f44 6) = R44_6.T:=by kernel_rfl
theorem R44_6.bits : waitsOk R44_6.T.2 R44_6.B = true:=by kernel_rfl
def R44_7.T : Bool × List (List Nat × List Nat):=(true,[([],[]),([0],[0]),([],[]),([2],[2]),([1,3],[1,3]),([],[]),([5],[5]),([],[]),([6,7],[6,7]),([4,0,1,2,3,4],[4]),([8,9,0,1,2,3,4,5,6,7,8,9],[8])])
def R44_7.B : List Nat:=[0,1,0,4,15,0,32,0,224,31,1023]
theorem R44_7.tab : rtab .any (opsOf Tryz.f44 7) = R44_7.T:=by kernel_rfl
theorem R44_7.bits : waitsOk R44_7.T.2 R44_7.B = true:=by kernel_rfl
def R44_8.T : Bool × List (List Nat × List Nat):=(true,[([],[]),([],[]),([],[]),([2],[2]),([3],[3]),([],[]),([5],[5]),([6],[6]),([0,0,2,3,4,7],[0]),([8,4,0,2,3,4,7],[4,8]),([1,0,1,2,3,4,5,6,7,8,9],[1]),([10,7,9,0,1,2,3,4,5,6,7,8,9],[7,10])])
def R44_8.B : List Nat:=[0,0,0,4,12,0,32,96,253,509,1023,2047]
theorem R44_8.tab : rtab .any (opsOf Tryz.f44 8) = R44_8.T:=by kernel_rfl
theorem R44_8.bits : waitsOk R44_8.T.2 R44_8.B = true:=by kernel_rfl
def R44_9.T : Bool × List (List Nat × List Nat):=(true,[([],[]),([],[]),([],[]),([2],[2]),([3],[3]),([4],[4]),([],[]),([6],[6]),([7],[7]),([8],[8]),([0,0,2,3,4,5,9],[0]),([10,0,2,3,4,5,9],[10]),([11,5,0,2,3,4,5,9],[5,11]),([1,0,1,2,3,4,5,6,7,8,9,10,11,12],[1]),([13,0,1,2,3,4,5,6,7,8,9,10,11,12],[13]),([14,9,12,0,1,2,3,4,5,6,7,8,9,10,11,12],[9,14])])
def R44_9.B : List Nat:=[0,0,0,4,12,28,0,64,192,448,1021,2045,4093,8191,16383,32767]
theorem R44_9.tab : rtab .any (opsOf Tryz.f44 9) = R44_9.T:=by kernel_rfl
theorem R44_9.bits : waitsOk R44_9.T.2 R44_9.B = true:=by kernel_rfl
def R44_13.T : Bool × List (List Nat × List Nat):=(true,[([],[]),([],[]),([],[]),([1,2],[1,2]),([0,3,0],[0]),([3,4,0,1,2,3,4],[3]),([5,0,1,2,3,4,5],[])])
def R44_13.B : List Nat:=[0,0,0,6,15,31,63]
theorem R44_13.tab : rtab .any (opsOf Tryz.f44 13) = R44_13.T:=by kernel_rfl
theorem R44_13.bits : waitsOk R44_13.T.2 R44_13.B = true:=by kernel_rfl
theorem heap84 : Kd.Heap k84:=Kd.heap_iso _ (Kd.heap_pair (Kd.heap_int _) (Kd.heap_pair (Kd.heap_int _) (Kd.heap_pair (Kd.heap_int _) (Kd.heap_pair (Kd.heap_int _) (Kd.heap_pair (Kd.heap_int _) (Kd.heap_int _))))))
def swapR (rooms : List Int) (stirs : List S84) (step : Int) : Except (Int × Int) Yd:=playedP rooms (swapP stirs (step.toNat - 1)) (swapP stirs (step.toNat - 1)).length
def SwapPost (W : World) (rooms : List Int) (stirs : List S84) (step : Int) (e : Ending) (W' : World) : Prop :=
 Below W.heap.size W W' ∧ (match playedP rooms stirs stirs.length with
 |.error x => e = .returned (.tuple #[.agg #[.slice none 0 0,.slice none 0 0],.bool false,.int .i64 x.1])
 |.ok Y => if inP step 1 ((stirs.length : Int) - 1) = true then (match swapR rooms stirs step with
   |.error x => e = .returned (.tuple #[.agg #[.slice none 0 0,.slice none 0 0],.bool false,.int .i64 x.1])
   |.ok Z => ∃ (A5 A6 : Option Addr) (c5 c6 : Nat),e = .returned (.tuple #[.agg #[.slice A5 rooms.length c5,.slice A6 stirs.length c6],.bool (alikeP Y Z),.int .i64 0]) ∧ rooms.length ≤ c5 ∧ stirs.length ≤ c6 ∧ Kd.F (Kd.int .i64) W' (fun k => W.heap.size ≤ k) A5 rooms.length rooms ∧ Kd.C k84 W' A6 stirs.length (swapP stirs (step.toNat - 1)))
   else e = .returned (.tuple #[.agg #[.slice none 0 0,.slice none 0 0],.bool false,.int .i64 1]))
set_option maxRecDepth 100000 in
set_option maxHeartbeats 800000 in
theorem swap_calls (A A2 : Option Addr) (c c2 : Nat) (rooms : List Int) (stirs : List S84) (W : World) (lo : Nat) (hlo : lo ≤ W.heap.size) (hC : Kd.F (Kd.int .i64) W (fun k => k < lo) A rooms.length rooms) (hc : rooms.length ≤ c) (hS : Kd.C k84 W A2 stirs.length stirs) (hc2 : stirs.length ≤ c2) (step : Int) :
  Calls Tryz.prog 44 #[.agg #[.slice A rooms.length c,.slice A2 stirs.length c2],.int .i64 step] W fun e W' => SwapPost W rooms stirs step e W':=by
 have hu:=Tryz.underlying32
 have hu84:=Tryz.underlying84
 have hsm:=hS.2.1
 have hrm:=(Kd.F_now hC).2.1
 have HC:=am (hC)
 have HS:=am (hS)
 have HB:=am (Below.refl W.heap.size W)
 have HC1:=am (Kd.F_alloc HC.out (.cells #[.slice A rooms.length c,.slice A2 stirs.length c2] 32))
 have HS1:=am (Kd.C_alloc HS.out (.cells #[.slice A rooms.length c,.slice A2 stirs.length c2] 32))
 have HB1:=am (below_alloc HB.out (.cells #[.slice A rooms.length c,.slice A2 stirs.length c2] 32))
 have HP:=am (blk_new W (.cells #[.slice A rooms.length c,.slice A2 stirs.length c2] 32))
 have HC2:=am (Kd.F_alloc HC1.out (.cells #[.slice none 0 0,.slice none 0 0] 32))
 have HS2:=am (Kd.C_alloc HS1.out (.cells #[.slice none 0 0,.slice none 0 0] 32))
 have HB2:=am (below_alloc HB1.out (.cells #[.slice none 0 0,.slice none 0 0] 32))
 have HP1:=am (blk_alloc HP.out (.cells #[.slice none 0 0,.slice none 0 0] 32))
 have HR:=am (blk_new' (W.alloc (.cells #[.slice A rooms.length c,.slice A2 stirs.length c2] 32)) (.cells #[.slice none 0 0,.slice none 0 0] 32) (W.heap.size + 1) (by simp))
 clear hC hS
 obtain ⟨r,hr⟩ : ∃ r,r = playedP rooms stirs stirs.length:=⟨_,rfl⟩
 have HQP:=am hr.symm
 clear hr
 go_enter Tryz.func44,Tryz.ntmps44
 go_wp2_with fail
 refine (all_calls A A2 c c2 rooms stirs _ lo (Nat.le_trans hlo (by simp;omega)) HC2.out hc HS2.out hc2).mono ?_
 rintro e w1 ⟨hb,h⟩
 rw [HQP.out] at h
 have HC3:=am (Kd.F_below HC2.out hb)
 have HS3:=am (Kd.C_below HS2.out hb)
 have HB3:=am (below_then HB2.out (below_size HB2.out) hb)
 have HP2:=am (blk_below HP1.out hb)
 have HR1:=am (blk_below HR.out hb)
 clear hb
 cases r with
|error x =>
  subst h
  have hx : ¬ x.1 = 0:=playedP_code HQP.out
  have u0:=bd HR1.out 0
  have fu0:=blk_frozen HR1.out 0
  have u1:=bd HR1.out 1
  have fu1:=blk_frozen HR1.out 1
  go_wp2
  have bz:=blk_put (cs':=#[.slice none 0 0,.slice none 0 0]) (blk_put (cs':=#[.slice none 0 0,.slice none 0 0]) (HR1.out) 0 (.slice none 0 0) rfl) 1 (.slice none 0 0) rfl
  have z0:=bd bz 0
  have z1:=bd bz 1
  exact bodyPost_ret (v:=.tuple #[.agg #[.slice none 0 0,.slice none 0 0],.bool false,.int .i64 x.1]) (by simp [results,Tryz.results44,go_sem,z0,z1,hu]) rfl ⟨((HB3.out).setCell (p:=⟨W.heap.size + 1,0,none⟩) (by first|(simp;done)|(simp;omega)) (.slice none 0 0)).setCell (p:=⟨W.heap.size + 1,1,none⟩) (by first|(simp;done)|(simp;omega)) (.slice none 0 0),by rw [HQP.out]⟩
|ok Y =>
  obtain ⟨L,base,hbase,hbad,rfl,hY⟩:=h
  have HY:=am (hY)
  clear hbase hbad hY
  obtain ⟨k1,hk1⟩ : ∃ k1,k1 = inP step 1 ((stirs.length : Int) - 1):=⟨_,rfl⟩
  have HK:=am hk1
  have HWI:=am (show pit_within.f step 1 ((stirs.length : Int) - 1) = some k1 by rw [within_some,hk1];rfl)
  clear hk1
  have hwl : IntKind.i64.wrap ((stirs.length : Int) - 1) = (stirs.length : Int) - 1:=IntWalk.i64_in _ (by omega)
  have g1:=bd HP2.out 1
  go_wp2_with fail
  refine (pit_within.calls _ _ _ _ _ HWI.out).mono ?_
  rintro e w2 ⟨rfl,m,rfl⟩
  have HC4:=am (Kd.F_drewN HC3.out m)
  have HS4:=am (Kd.C_drewN HS3.out m)
  have HB4:=am (pw_below_drewN HB3.out m)
  have HP3:=am (blk_drewN HP2.out m)
  have HR2:=am (blk_drewN HR1.out m)
  have HY1:=am (HY.out.move (pw_below_drewN (Below.refl _ _) m))
  clear g1 hwl
  generalize w1.drewN m = w2 at HC4 HS4 HB4 HP3 HR2 HY1 ⊢
  cases k1 with
 |false =>
   have u0:=bd HR2.out 0
   have fu0:=blk_frozen HR2.out 0
   have u1:=bd HR2.out 1
   have fu1:=blk_frozen HR2.out 1
   go_wp2
   have bz:=blk_put (cs':=#[.slice none 0 0,.slice none 0 0]) (blk_put (cs':=#[.slice none 0 0,.slice none 0 0]) (HR2.out) 0 (.slice none 0 0) rfl) 1 (.slice none 0 0) rfl
   have z0:=bd bz 0
   have z1:=bd bz 1
   exact bodyPost_ret (v:=.tuple #[.agg #[.slice none 0 0,.slice none 0 0],.bool false,.int .i64 1]) (by simp [results,Tryz.results44,go_sem,z0,z1,hu]) rfl ⟨((HB4.out).setCell (p:=⟨W.heap.size + 1,0,none⟩) (by first|(simp;done)|(simp;omega)) (.slice none 0 0)).setCell (p:=⟨W.heap.size + 1,1,none⟩) (by first|(simp;done)|(simp;omega)) (.slice none 0 0),by rw [HQP.out];dsimp only;rw [if_neg (by rw [← HK.out];simp)]⟩
 |true =>
   obtain ⟨k,hk,hkl⟩ : ∃ k : Nat,step = ((k + 1 : Nat) : Int) ∧ k + 1 < stirs.length:=by
    have h:=HK.out
    unfold inP at h
    have h:=of_decide_eq_true h.symm
    exact ⟨step.toNat - 1,by omega,by omega⟩
   subst hk
   have HC5:=am (Kd.F_drew HC4.out)
   have HS5:=am (Kd.C_drew HS4.out)
   have HB5:=am (below_drew HB4.out)
   have HP4:=am (blk_drew HP3.out)
   have HR3:=am (blk_drew HR2.out)
   have HY2:=am (HY1.out.move (below_drew (Below.refl _ _)))
   have HR6:=am (show rooms.length ≤ 100000000 by have h:=(played_ok HQP.out).2.2;have:=h.1.r6;rw [h.2] at this;omega)
   have HS6:=am (show stirs.length ≤ 100000000 by have:=(played_ok HQP.out).2.1;omega)
   go_wp2
   refine start_ (n:=9) (S:=fun w' => w'.cell? ⟨W.heap.size,0,none⟩ = some (.slice A rooms.length c) ∧ w'.cell? ⟨W.heap.size,1,none⟩ = some (.slice A2 stirs.length c2)) (ds:=[8]) (ab 9 0) kr rfl kr ⟨(blk_cell HP4.out 0).trans rfl,(blk_cell HP4.out 1).trans rfl⟩ (fun hHeld => ?_);refine with_tabW R44_6.tab R44_6.bits (fun HT_ HW_ => ?_)
   generalize (w2).drew = wd at HC5 HS5 HB5 HP4 HR3 HY2 hHeld ⊢
   refine pure_ (i:=0) (N:=(some 30)) (v:=?_) (a':=?_) (ab 9 1) rfl rfl (any_of HT_.out kr) (fun _ _ _ h => h) (Or.inl ⟨by rfl,?_⟩) ?_ ?_
   rotate_left
   ·intro w'
    go_simp
    with_reducible rfl
   rotate_left
   ·exact vs
   refine take_ (i:=1) (N:=(some 31)) (v:=?_) (a':=?_) (ab 9 3) rfl rfl (take_ofW HT_.out HW_.out kr) (fun _ _ _ h => h) (Or.inl ⟨by rfl,?_⟩) hHeld ?_ ?_
   rotate_left
   ·rintro w' ⟨s0,s1⟩
    go_simp
    with_reducible rfl
   rotate_left
   ·exact vs
   refine pure_ (i:=3) (N:=(some 33)) (v:=?_) (a':=?_) (ab 9 11) rfl rfl (any_of HT_.out kr) (fun _ _ _ h => h) (Or.inl ⟨by rfl,?_⟩) ?_ ?_
   rotate_left
   ·intro w'
    go_simp
    with_reducible rfl
   rotate_left
   ·exact vs
   refine take_ (i:=4) (N:=(some 34)) (v:=?_) (a':=?_) (ab 9 27) rfl rfl (take_ofW HT_.out HW_.out kr) (fun _ _ _ h => h) (Or.inl ⟨by rfl,?_⟩) hHeld ?_ ?_
   rotate_left
   ·rintro w' ⟨s0,s1⟩
    go_simp
    with_reducible rfl
   rotate_left
   ·exact vs
   refine join_ (σ:=Value × Value × Nat) 1 (ab 9 255) (fun x => [(32,x.1),(35,x.2.1),(36,.agg #[x.1,x.2.1]),(9,.pointer (some ⟨x.2.2,0,none⟩))]) (fun x w' => Below wd.heap.size wd w' ∧ (Kd.int .i64).R 3 w' wd.heap.size (fun _ => True) x.1 rooms ∧ k84.R 84 w' wd.heap.size (fun _ => True) x.2.1 stirs ∧ w'.heap[x.2.2]? = some (.cells #[.slice none 0 0,.slice none 0 0] 32 (0,0)) ∧ wd.heap.size ≤ x.2.2) ?_ ?_
   rotate_left
   ·intro hCont
    refine two_ (i:=2) (j:=7) (Ni:=some 32) (Nj:=some 9) (ab 9 31) (ab 9 155) rfl rfl rfl rfl  (two_of HT_.out kr) (by decide) (by decide) (fun K hK => ?_) (fun K hK => ?_)
    ·skip
     refine gC Tryz.func78 #[.slice A rooms.length c] ?_
     refine (clone78_calls A c rooms _ _ (Kd.F_below HC5.out (Below.refl wd.heap.size wd)) hc HR6.out).mono ?_
     rintro e wf1 ⟨v1,rfl,hb,hR⟩
     have hB_wf1 : Below wd.heap.size wd wf1:=below_then (Below.refl wd.heap.size wd) (below_size (Below.refl wd.heap.size wd)) hb
     have hR_wf1:=R3_of_ft hR
     have hRb_wf1:=Kd.R_lower (base':=wd.heap.size) hR_wf1 (by have h:=(Below.refl wd.heap.size wd).size;first|exact h|first|(simp;done)|simpa using h)
     obtain ⟨B_wf1,b_wf1,rfl⟩:=Kd.R_slice hRb_wf1
     refine ⟨_,rfl,?_⟩
     refine hK.out _ _ ⟨(blk_cell (blk_below HP4.out hB_wf1) 0).trans rfl,(blk_cell (blk_below HP4.out hB_wf1) 1).trans rfl⟩ (fun hHeld => ?_)
     clear hK K
     refine qN (some 32) ?_
     refine two_ (i:=5) (j:=7) (Ni:=some 35) (Nj:=some 9) (ab 9 63) (ab 9 159) rfl rfl rfl rfl  (two_of HT_.out kr) (by decide) (by decide) (fun K hK => ?_) (fun K hK => ?_)
     ·skip
      refine gC Tryz.func124 #[.slice A2 stirs.length c2] ?_
      refine (clone124_calls A2 c2 stirs _ (fun k => k < wf1.heap.size) (Kd.C_F heap84 (Kd.C_below HS5.out (hB_wf1))) hc2 HS6.out).mono ?_
      rintro e wf2 ⟨v2,rfl,hb,hR⟩
      have hB_wf2 : Below wd.heap.size wd wf2:=below_then (hB_wf1) (below_size (hB_wf1)) hb
      have hR_wf2:=R84_of_ft hR
      have hRb_wf2:=Kd.R_lower (base':=wd.heap.size) hR_wf2 (by have h:=(hB_wf1).size;first|exact h|first|(simp;done)|simpa using h)
      obtain ⟨B_wf2,b_wf2,rfl⟩:=Kd.R_slice hRb_wf2
      have hr2_wf2:=Kd.R_below (hRb_wf1) hb
      refine ⟨_,rfl,?_⟩
      refine hK.out _ _ ⟨(blk_cell (blk_below HP4.out hB_wf2) 0).trans rfl,(blk_cell (blk_below HP4.out hB_wf2) 1).trans rfl⟩ (fun hHeld => ?_)
      clear hK K
      refine qN (some 35) ?_
      refine pure_ (i:=6) (N:=(some 36)) (v:=?_) (a':=?_) (ab 9 127) rfl rfl (any_of HT_.out kr) (fun _ _ _ h => h) (Or.inl ⟨by rfl,?_⟩) ?_ ?_
      rotate_left
      ·intro w'
       go_simp
       with_reducible rfl
      rotate_left
      ·exact vs
      refine one_ (i:=7) (N:=some 9) (ab 9 255) rfl rfl  (one_of HT_.out kr) (by decide) (fun K hK => ?_)
      refine value_ (w1:=?_) (v:=?_) (by rfl) rfl ?_ ?_
      rotate_left 2
      ·go_simp
       constructor
       ·rfl
       ·rfl
      refine hK.out _ _ ⟨(blk_cell (blk_below HP4.out (below_alloc (hB_wf2) (.cells #[.slice none 0 0,.slice none 0 0] 32))) 0).trans rfl,(blk_cell (blk_below HP4.out (below_alloc (hB_wf2) (.cells #[.slice none 0 0,.slice none 0 0] 32))) 1).trans rfl⟩ (fun hHeld => ?_)
      clear hK K
      refine qN (some 9) ?_
      exact norm_ (by first|(simp only [putAll,Act.put,List.setIfInBounds_toArray,List.set_cons_zero,List.set_cons_succ,i64_w,i32_w];done)|(simp only [putAll,Act.put,List.setIfInBounds_toArray,List.set_cons_zero,List.set_cons_succ,i64_w,i32_w];rfl)) (hCont ⟨(.slice B_wf1 rooms.length b_wf1),(.slice B_wf2 stirs.length b_wf2),wf2.heap.size⟩ _ ⟨(below_alloc (hB_wf2) (.cells #[.slice none 0 0,.slice none 0 0] 32)),(Kd.R_alloc (hr2_wf2) (.cells #[.slice none 0 0,.slice none 0 0] 32)),(Kd.R_alloc (hRb_wf2) (.cells #[.slice none 0 0,.slice none 0 0] 32)),(blk_new' wf2 (.cells #[.slice none 0 0,.slice none 0 0] 32) (wf2.heap.size) (by simp)),(by have h:=(hB_wf2).size;first|(simp;done)|simpa using h)⟩)
     ·skip
      refine value_ (w1:=?_) (v:=?_) (by rfl) rfl ?_ ?_
      rotate_left 2
      ·go_simp
       constructor
       ·rfl
       ·rfl
      refine hK.out _ _ ⟨(blk_cell (blk_below HP4.out (below_alloc (hB_wf1) (.cells #[.slice none 0 0,.slice none 0 0] 32))) 0).trans rfl,(blk_cell (blk_below HP4.out (below_alloc (hB_wf1) (.cells #[.slice none 0 0,.slice none 0 0] 32))) 1).trans rfl⟩ (fun hHeld => ?_)
      clear hK K
      refine qN (some 9) ?_
      refine one_ (i:=5) (N:=some 35) (ab 9 191) rfl rfl  (one_of HT_.out kr) (by decide) (fun K hK => ?_)
      refine gC Tryz.func124 #[.slice A2 stirs.length c2] ?_
      refine (clone124_calls A2 c2 stirs _ (fun k => k < (wf1.alloc (.cells #[.slice none 0 0,.slice none 0 0] 32)).heap.size) (Kd.C_F heap84 (Kd.C_below HS5.out ((below_alloc (hB_wf1) (.cells #[.slice none 0 0,.slice none 0 0] 32))))) hc2 HS6.out).mono ?_
      rintro e wf3 ⟨v3,rfl,hb,hR⟩
      have hB_wf3 : Below wd.heap.size wd wf3:=below_then ((below_alloc (hB_wf1) (.cells #[.slice none 0 0,.slice none 0 0] 32))) (below_size ((below_alloc (hB_wf1) (.cells #[.slice none 0 0,.slice none 0 0] 32)))) hb
      have hR_wf3:=R84_of_ft hR
      have hRb_wf3:=Kd.R_lower (base':=wd.heap.size) hR_wf3 (by have h:=((below_alloc (hB_wf1) (.cells #[.slice none 0 0,.slice none 0 0] 32))).size;first|exact h|first|(simp;done)|simpa using h)
      obtain ⟨B_wf3,b_wf3,rfl⟩:=Kd.R_slice hRb_wf3
      have hr2_wf3:=Kd.R_below ((Kd.R_alloc (hRb_wf1) (.cells #[.slice none 0 0,.slice none 0 0] 32))) hb
      have hp_wf3:=blk_below ((blk_new' wf1 (.cells #[.slice none 0 0,.slice none 0 0] 32) (wf1.heap.size) (by simp))) hb
      refine ⟨_,rfl,?_⟩
      refine hK.out _ _ ⟨(blk_cell (blk_below HP4.out hB_wf3) 0).trans rfl,(blk_cell (blk_below HP4.out hB_wf3) 1).trans rfl⟩ (fun hHeld => ?_)
      clear hK K
      refine qN (some 35) ?_
      refine pure_ (i:=6) (N:=(some 36)) (v:=?_) (a':=?_) (ab 9 255) rfl rfl (any_of HT_.out kr) (fun _ _ _ h => h) (Or.inl ⟨by rfl,?_⟩) ?_ ?_
      rotate_left
      ·intro w'
       go_simp
       with_reducible rfl
      rotate_left
      ·exact vs
      exact norm_ (by first|(simp only [putAll,Act.put,List.setIfInBounds_toArray,List.set_cons_zero,List.set_cons_succ,i64_w,i32_w];done)|(simp only [putAll,Act.put,List.setIfInBounds_toArray,List.set_cons_zero,List.set_cons_succ,i64_w,i32_w];rfl)) (hCont ⟨(.slice B_wf1 rooms.length b_wf1),(.slice B_wf3 stirs.length b_wf3),wf1.heap.size⟩ _ ⟨hB_wf3,hr2_wf3,hRb_wf3,hp_wf3,(by have h:=(hB_wf1).size;first|(simp;done)|simpa using h)⟩)
    ·skip
     refine value_ (w1:=?_) (v:=?_) (by rfl) rfl ?_ ?_
     rotate_left 2
     ·go_simp
      constructor
      ·rfl
      ·rfl
     refine hK.out _ _ ⟨(blk_cell (blk_below HP4.out (below_alloc (Below.refl wd.heap.size wd) (.cells #[.slice none 0 0,.slice none 0 0] 32))) 0).trans rfl,(blk_cell (blk_below HP4.out (below_alloc (Below.refl wd.heap.size wd) (.cells #[.slice none 0 0,.slice none 0 0] 32))) 1).trans rfl⟩ (fun hHeld => ?_)
     clear hK K
     refine qN (some 9) ?_
     refine one_ (i:=2) (N:=some 32) (ab 9 159) rfl rfl  (one_of HT_.out kr) (by decide) (fun K hK => ?_)
     refine gC Tryz.func78 #[.slice A rooms.length c] ?_
     refine (clone78_calls A c rooms _ _ (Kd.F_below HC5.out ((below_alloc (Below.refl wd.heap.size wd) (.cells #[.slice none 0 0,.slice none 0 0] 32)))) hc HR6.out).mono ?_
     rintro e wf4 ⟨v4,rfl,hb,hR⟩
     have hB_wf4 : Below wd.heap.size wd wf4:=below_then ((below_alloc (Below.refl wd.heap.size wd) (.cells #[.slice none 0 0,.slice none 0 0] 32))) (below_size ((below_alloc (Below.refl wd.heap.size wd) (.cells #[.slice none 0 0,.slice none 0 0] 32)))) hb
     have hR_wf4:=R3_of_ft hR
     have hRb_wf4:=Kd.R_lower (base':=wd.heap.size) hR_wf4 (by have h:=((below_alloc (Below.refl wd.heap.size wd) (.cells #[.slice none 0 0,.slice none 0 0] 32))).size;first|exact h|first|(simp;done)|simpa using h)
     obtain ⟨B_wf4,b_wf4,rfl⟩:=Kd.R_slice hRb_wf4
     have hp_wf4:=blk_below ((blk_new' wd (.cells #[.slice none 0 0,.slice none 0 0] 32) (wd.heap.size) (by simp))) hb
     refine ⟨_,rfl,?_⟩
     refine hK.out _ _ ⟨(blk_cell (blk_below HP4.out hB_wf4) 0).trans rfl,(blk_cell (blk_below HP4.out hB_wf4) 1).trans rfl⟩ (fun hHeld => ?_)
     clear hK K
     refine qN (some 32) ?_
     refine one_ (i:=5) (N:=some 35) (ab 9 191) rfl rfl  (one_of HT_.out kr) (by decide) (fun K hK => ?_)
     refine gC Tryz.func124 #[.slice A2 stirs.length c2] ?_
     refine (clone124_calls A2 c2 stirs _ (fun k => k < wf4.heap.size) (Kd.C_F heap84 (Kd.C_below HS5.out (hB_wf4))) hc2 HS6.out).mono ?_
     rintro e wf5 ⟨v5,rfl,hb,hR⟩
     have hB_wf5 : Below wd.heap.size wd wf5:=below_then (hB_wf4) (below_size (hB_wf4)) hb
     have hR_wf5:=R84_of_ft hR
     have hRb_wf5:=Kd.R_lower (base':=wd.heap.size) hR_wf5 (by have h:=(hB_wf4).size;first|exact h|first|(simp;done)|simpa using h)
     obtain ⟨B_wf5,b_wf5,rfl⟩:=Kd.R_slice hRb_wf5
     have hr2_wf5:=Kd.R_below (hRb_wf4) hb
     have hp_wf5:=blk_below (hp_wf4) hb
     refine ⟨_,rfl,?_⟩
     refine hK.out _ _ ⟨(blk_cell (blk_below HP4.out hB_wf5) 0).trans rfl,(blk_cell (blk_below HP4.out hB_wf5) 1).trans rfl⟩ (fun hHeld => ?_)
     clear hK K
     refine qN (some 35) ?_
     refine pure_ (i:=6) (N:=(some 36)) (v:=?_) (a':=?_) (ab 9 255) rfl rfl (any_of HT_.out kr) (fun _ _ _ h => h) (Or.inl ⟨by rfl,?_⟩) ?_ ?_
     rotate_left
     ·intro w'
      go_simp
      with_reducible rfl
     rotate_left
     ·exact vs
     exact norm_ (by first|(simp only [putAll,Act.put,List.setIfInBounds_toArray,List.set_cons_zero,List.set_cons_succ,i64_w,i32_w];done)|(simp only [putAll,Act.put,List.setIfInBounds_toArray,List.set_cons_zero,List.set_cons_succ,i64_w,i32_w];rfl)) (hCont ⟨(.slice B_wf4 rooms.length b_wf4),(.slice B_wf5 stirs.length b_wf5),wd.heap.size⟩ _ ⟨hB_wf5,hr2_wf5,hRb_wf5,hp_wf5,(by have h:=(Below.refl wd.heap.size wd).size;first|(simp;done)|simpa using h)⟩)
   rintro ⟨v5,v6,p9⟩ w7 ⟨hb,hr5,hr6,hp9,hl9⟩
   obtain ⟨A5,c5,rfl⟩:=Kd.R_slice hr5
   obtain ⟨A6,c6,rfl⟩:=Kd.R_slice hr6
   obtain ⟨g,hg⟩ : ∃ g,A6 = some ⟨g,0,none⟩:=by
    obtain ⟨_,inner,hown,hr⟩:=hr6
    rcases hown.2 with ⟨hv,hnil⟩|⟨g',cap',cur,hv,_⟩
    ·injection hv with _ hl0 _
     omega
    ·injection hv with ha _ _
     exact ⟨g',ha⟩
   subst hg
   have HGN:=am (Kd.R_base hr6 g rfl)
   have HL9:=am hl9
   have HN:=am hb
   have HH5:=am hr5
   have HH6:=am hr6
   have H9:=am hp9
   have HNE:=am (show p9 ≠ g from fun e => R_offg hr6 hp9 (by decide) (by rw [e];rfl))
   clear hb hr5 hr6 hp9 hl9
   refine norm_ (a':=?_) ?_ ?_
   rotate_left
   ·simp only [putAll,Act.put,List.setIfInBounds_toArray,List.set_cons_zero,List.set_cons_succ]
    rfl
   refine last_ (i:=8) (N:=none) (ab 9 511) rfl rfl (one_of HT_.out kr) (by decide) (fun K hK => ?_)
   have u0:=bd H9.out 0
   have fu0:=blk_frozen H9.out 0
   have u1:=bd H9.out 1
   have fu1:=blk_frozen H9.out 1
   refine skip_ (w1:=?_) (by rfl) rfl ?_ ?_
   rotate_left
   ·go_simp
    rfl
   refine hK.out _ _ ?_
   clear hK K
   refine done_ (done_of HT_.out kr) ?_
   clear u0 u1 fu0 fu1
   have HN1:=am ((HN.out.setCell (p:=⟨p9,0,none⟩) HL9.out (.slice A5 rooms.length c5)).setCell (p:=⟨p9,1,none⟩) HL9.out (.slice (some ⟨g,0,none⟩) stirs.length c6))
   have H91:=am (blk_put (cs':=#[.slice A5 rooms.length c5,.slice (some ⟨g,0,none⟩) stirs.length c6]) (blk_put (cs':=#[.slice A5 rooms.length c5,.slice none 0 0]) H9.out 0 (.slice A5 rooms.length c5) rfl) 1 (.slice (some ⟨g,0,none⟩) stirs.length c6) rfl)
   have HH51:=am (Kd.R_set (Kd.R_set HH5.out H9.out (by decide) 0 (.slice A5 rooms.length c5)) (blk_put (cs':=#[.slice A5 rooms.length c5,.slice none 0 0]) H9.out 0 (.slice A5 rooms.length c5) rfl) (by decide) 1 (.slice (some ⟨g,0,none⟩) stirs.length c6))
   have HH61:=am (Kd.R_set (Kd.R_set HH6.out H9.out (by decide) 0 (.slice A5 rooms.length c5)) (blk_put (cs':=#[.slice A5 rooms.length c5,.slice none 0 0]) H9.out 0 (.slice A5 rooms.length c5) rfl) (by decide) 1 (.slice (some ⟨g,0,none⟩) stirs.length c6))
   generalize ((w7.setCell ⟨p9,0,none⟩ (.slice A5 rooms.length c5)).setCell ⟨p9,1,none⟩ (.slice (some ⟨g,0,none⟩) stirs.length c6)) = w8 at HN1 H91 HH51 HH61 ⊢
   obtain ⟨ad,had⟩ : ∃ ad : Addr,ad = ⟨g,0,none⟩:=⟨_,rfl⟩
   have HAD:=am had
   rw [← had] at H91
   have hw0 : wrap64 (k : Int) = (k : Int):=wrap_in (by omega) (by omega)
   have hkt : ((k : Int) + 1).toNat = k + 1:=by omega
   have hk0 : (0 : Int) ≤ (k : Int) + 1:=by omega
   have hk00 : (0 : Int) ≤ (k : Int):=by omega
   clear had HN H9 HH5 HH6
   have hkn : (k : Int) < (stirs.length : Int):=by omega
   have hkn1 : (k : Int) + 1 < (stirs.length : Int):=by omega
   have HN2:=am (below_drew HN1.out)
   have H92:=am (blk_drew H91.out)
   have HH52:=am (Kd.R_drew HH51.out)
   have HH62:=am (Kd.R_drew HH61.out)
   go_wp2
   refine start_ (n:=11) (S:=fun w' => w'.cell? ⟨p9,1,none⟩ = some (.slice (some ad) stirs.length c6)) (ds:=[]) (ab 11 0) kr rfl kr ((blk_cell H92.out 1).trans rfl) (fun hHeld => ?_);refine with_tabW R44_7.tab R44_7.bits (fun HT_ HW_ => ?_)
   generalize (w8).drew = w9 at HN2 H92 HH52 HH62 hHeld ⊢
   refine pure_ (i:=0) (N:=(some 37)) (v:=?_) (a':=?_) (ab 11 1) rfl rfl (any_of HT_.out kr) (fun _ _ _ h => h) (Or.inl ⟨by rfl,?_⟩) ?_ ?_
   rotate_left
   ·intro w'
    go_simp
    with_reducible rfl
   rotate_left
   ·exact vs
   refine take_ (i:=1) (N:=(some 38)) (v:=?_) (a':=?_) (ab 11 3) rfl rfl (take_ofW HT_.out HW_.out kr) (fun _ _ _ h => h) (Or.inl ⟨by rfl,?_⟩) hHeld ?_ ?_
   rotate_left
   ·rintro w' s0
    go_simp
    with_reducible rfl
   rotate_left
   ·exact vs
   refine pure_ (i:=2) (N:=(some 39)) (v:=?_) (a':=?_) (ab 11 7) rfl rfl (any_of HT_.out kr) (fun _ _ _ h => h) (Or.inl ⟨by rfl,?_⟩) ?_ ?_
   rotate_left
   ·intro w'
    go_simp
    with_reducible rfl
   rotate_left
   ·exact vs
   refine pure_ (i:=3) (N:=(some 40)) (v:=?_) (a':=?_) (ab 11 15) rfl rfl (any_of HT_.out kr) (fun _ _ _ h => h) (Or.inl ⟨by rfl,?_⟩) ?_ ?_
   rotate_left
   ·intro w'
    go_simp
    with_reducible rfl
   rotate_left
   ·exact vs
   refine pure_ (i:=4) (N:=(some 41)) (v:=?_) (a':=?_) (ab 11 31) rfl rfl (any_of HT_.out kr) (fun _ _ _ h => h) (Or.inl ⟨by rfl,?_⟩) ?_ ?_
   rotate_left
   ·intro w'
    go_simp
    with_reducible rfl
   rotate_left
   ·exact vs
   refine pure_ (i:=5) (N:=(some 42)) (v:=?_) (a':=?_) (ab 11 63) rfl rfl (any_of HT_.out kr) (fun _ _ _ h => h) (Or.inl ⟨by rfl,?_⟩) ?_ ?_
   rotate_left
   ·intro w'
    go_simp
    with_reducible rfl
   rotate_left
   ·exact vs
   refine take_ (i:=6) (N:=(some 43)) (v:=?_) (a':=?_) (ab 11 127) rfl rfl (take_ofW HT_.out HW_.out kr) (fun _ _ _ h => h) (Or.inl ⟨by rfl,?_⟩) hHeld ?_ ?_
   rotate_left
   ·rintro w' s0
    go_simp
    with_reducible rfl
   rotate_left
   ·exact vs
   refine pure_ (i:=7) (N:=(some 44)) (v:=?_) (a':=?_) (ab 11 255) rfl rfl (any_of HT_.out kr) (fun _ _ _ h => h) (Or.inl ⟨by rfl,?_⟩) ?_ ?_
   rotate_left
   ·intro w'
    go_simp
    with_reducible rfl
   rotate_left
   ·exact vs
   refine pure_ (i:=8) (N:=(some 45)) (v:=?_) (a':=?_) (ab 11 511) rfl rfl (any_of HT_.out kr) (fun _ _ _ h => h) (Or.inl ⟨by rfl,?_⟩) ?_ ?_
   rotate_left
   ·intro w'
    go_simp
    with_reducible rfl
   rotate_left
   ·exact vs
   refine pure_ (i:=9) (N:=(some 10)) (v:=?_) (a':=?_) (ab 11 1023) rfl rfl (any_of HT_.out kr) (fun _ _ _ h => h) (Or.inl ⟨by rfl,?_⟩) ?_ ?_
   rotate_left
   ·intro w'
    go_simp
    with_reducible rfl
   rotate_left
   ·exact vs
   refine pure_ (i:=10) (N:=(some 11)) (v:=?_) (a':=?_) (ab 11 2047) rfl rfl (any_of HT_.out kr) (fun _ _ _ h => h) (Or.inl ⟨by rfl,?_⟩) ?_ ?_
   rotate_left
   ·intro w'
    go_simp
    with_reducible rfl
   rotate_left
   ·exact vs
   refine done_ (done_of HT_.out kr) ?_
   clear HN1 H91 HH51 HH61
   obtain ⟨s0,hs0⟩ : ∃ s0,s0 = rd_T84 stirs (k : Int):=⟨_,rfl⟩
   obtain ⟨s1,hs1⟩ : ∃ s1,s1 = rd_T84 stirs ((k + 1 : Nat) : Int):=⟨_,rfl⟩
   have HS0:=am hs0
   have HS1:=am hs1
   have HN3:=am (below_drew HN2.out)
   have H93:=am (blk_drew H92.out)
   have HH53:=am (Kd.R_drew HH52.out)
   have HH63:=am (Kd.R_drew HH62.out)
   have HCE:=am (show (w9.drew.cell? (ad.add (k * 6)) = some (.int .i64 s0.f0) ∧ w9.drew.cell? ⟨(ad.add (k * 6)).block,(ad.add (k * 6)).off + 1,none⟩ = some (.int .i64 s0.f1) ∧ w9.drew.cell? ⟨(ad.add (k * 6)).block,(ad.add (k * 6)).off + 2,none⟩ = some (.int .i64 s0.f2) ∧ w9.drew.cell? ⟨(ad.add (k * 6)).block,(ad.add (k * 6)).off + 3,none⟩ = some (.int .i64 s0.f3) ∧ w9.drew.cell? ⟨(ad.add (k * 6)).block,(ad.add (k * 6)).off + 4,none⟩ = some (.int .i64 s0.f4) ∧ w9.drew.cell? ⟨(ad.add (k * 6)).block,(ad.add (k * 6)).off + 5,none⟩ = some (.int .i64 s0.f5)) ∧ w9.drew.cell? (ad.add ((k + 1) * 6)) = some (.int .i64 s1.f0) ∧ w9.drew.cell? ⟨(ad.add ((k + 1) * 6)).block,(ad.add ((k + 1) * 6)).off + 1,none⟩ = some (.int .i64 s1.f1) ∧ w9.drew.cell? ⟨(ad.add ((k + 1) * 6)).block,(ad.add ((k + 1) * 6)).off + 2,none⟩ = some (.int .i64 s1.f2) ∧ w9.drew.cell? ⟨(ad.add ((k + 1) * 6)).block,(ad.add ((k + 1) * 6)).off + 3,none⟩ = some (.int .i64 s1.f3) ∧ w9.drew.cell? ⟨(ad.add ((k + 1) * 6)).block,(ad.add ((k + 1) * 6)).off + 4,none⟩ = some (.int .i64 s1.f4) ∧ w9.drew.cell? ⟨(ad.add ((k + 1) * 6)).block,(ad.add ((k + 1) * 6)).off + 5,none⟩ = some (.int .i64 s1.f5) from by
    have hC:=(Kd.R_reads' HH63.out).2.2
    rw [← HAD.out] at hC
    obtain ⟨a1,e1,q0,q1,q2,q3,q4,q5⟩:=at_T84 hC (k : Int) (by omega) (by omega)
    obtain ⟨a2,e2,r0,r1,r2,r3,r4,r5⟩:=at_T84 hC ((k + 1 : Nat) : Int) (by omega) (by omega)
    cases e1
    cases e2
    rw [Int.toNat_natCast,← hs0] at q0 q1 q2 q3 q4 q5
    rw [Int.toNat_natCast,← hs1] at r0 r1 r2 r3 r4 r5
    exact ⟨⟨q0,q1,q2,q3,q4,q5⟩,r0,r1,r2,r3,r4,r5⟩)
   clear hs0 hs1
   go_wp2
   refine start_ (n:=12) (S:=fun w' => (w'.cell? (ad.add (k * 6)) = some (.int .i64 s0.f0) ∧ w'.cell? ⟨(ad.add (k * 6)).block,(ad.add (k * 6)).off + 1,none⟩ = some (.int .i64 s0.f1) ∧ w'.cell? ⟨(ad.add (k * 6)).block,(ad.add (k * 6)).off + 2,none⟩ = some (.int .i64 s0.f2) ∧ w'.cell? ⟨(ad.add (k * 6)).block,(ad.add (k * 6)).off + 3,none⟩ = some (.int .i64 s0.f3) ∧ w'.cell? ⟨(ad.add (k * 6)).block,(ad.add (k * 6)).off + 4,none⟩ = some (.int .i64 s0.f4) ∧ w'.cell? ⟨(ad.add (k * 6)).block,(ad.add (k * 6)).off + 5,none⟩ = some (.int .i64 s0.f5)) ∧ w'.cell? (ad.add ((k + 1) * 6)) = some (.int .i64 s1.f0) ∧ w'.cell? ⟨(ad.add ((k + 1) * 6)).block,(ad.add ((k + 1) * 6)).off + 1,none⟩ = some (.int .i64 s1.f1) ∧ w'.cell? ⟨(ad.add ((k + 1) * 6)).block,(ad.add ((k + 1) * 6)).off + 2,none⟩ = some (.int .i64 s1.f2) ∧ w'.cell? ⟨(ad.add ((k + 1) * 6)).block,(ad.add ((k + 1) * 6)).off + 3,none⟩ = some (.int .i64 s1.f3) ∧ w'.cell? ⟨(ad.add ((k + 1) * 6)).block,(ad.add ((k + 1) * 6)).off + 4,none⟩ = some (.int .i64 s1.f4) ∧ w'.cell? ⟨(ad.add ((k + 1) * 6)).block,(ad.add ((k + 1) * 6)).off + 5,none⟩ = some (.int .i64 s1.f5)) (ds:=[9,11]) (ab 12 0) kr rfl kr HCE.out (fun hHeld => ?_);refine with_tabW R44_8.tab R44_8.bits (fun HT_ HW_ => ?_)
   generalize (w9).drew = wx at HN3 H93 HH53 HH63 HCE hHeld ⊢
   refine pure_ (i:=0) (N:=(some 46)) (v:=?_) (a':=?_) (ab 12 1) rfl rfl (any_of HT_.out kr) (fun _ _ _ h => h) (Or.inl ⟨by rfl,?_⟩) ?_ ?_
   rotate_left
   ·intro w'
    go_simp
    with_reducible rfl
   rotate_left
   ·exact vs
   refine pure_ (i:=1) (N:=(some 47)) (v:=?_) (a':=?_) (ab 12 3) rfl rfl (any_of HT_.out kr) (fun _ _ _ h => h) (Or.inl ⟨by rfl,?_⟩) ?_ ?_
   rotate_left
   ·intro w'
    go_simp
    with_reducible rfl
   rotate_left
   ·exact vs
   refine pure_ (i:=2) (N:=(some 48)) (v:=?_) (a':=?_) (ab 12 7) rfl rfl (any_of HT_.out kr) (fun _ _ _ h => h) (Or.inl ⟨by rfl,?_⟩) ?_ ?_
   rotate_left
   ·intro w'
    go_simp
    with_reducible rfl
   rotate_left
   ·exact vs
   refine pure_ (i:=3) (N:=(some 49)) (v:=?_) (a':=?_) (ab 12 15) rfl rfl (any_of HT_.out kr) (fun _ _ _ h => h) (Or.inl ⟨by rfl,?_⟩) ?_ ?_
   rotate_left
   ·intro w'
    go_simp
    with_reducible rfl
   rotate_left
   ·exact vs
   refine take_ (i:=4) (N:=(some 50)) (v:=?_) (a':=?_) (ab 12 31) rfl rfl (take_ofW HT_.out HW_.out kr) (fun _ _ _ h => h) (Or.inl ⟨by rfl,?_⟩) hHeld ?_ ?_
   rotate_left
   ·rintro w' ⟨⟨q0,q1,q2,q3,q4,q5⟩,r0,r1,r2,r3,r4,r5⟩
    go_simp
    with_reducible rfl
   rotate_left
   ·exact vs
   refine pure_ (i:=5) (N:=(some 51)) (v:=?_) (a':=?_) (ab 12 63) rfl rfl (any_of HT_.out kr) (fun _ _ _ h => h) (Or.inl ⟨by rfl,?_⟩) ?_ ?_
   rotate_left
   ·intro w'
    go_simp
    with_reducible rfl
   rotate_left
   ·exact vs
   refine pure_ (i:=6) (N:=(some 52)) (v:=?_) (a':=?_) (ab 12 127) rfl rfl (any_of HT_.out kr) (fun _ _ _ h => h) (Or.inl ⟨by rfl,?_⟩) ?_ ?_
   rotate_left
   ·intro w'
    go_simp
    with_reducible rfl
   rotate_left
   ·exact vs
   refine take_ (i:=7) (N:=(some 53)) (v:=?_) (a':=?_) (ab 12 255) rfl rfl (take_ofW HT_.out HW_.out kr) (fun _ _ _ h => h) (Or.inl ⟨by rfl,?_⟩) hHeld ?_ ?_
   rotate_left
   ·rintro w' ⟨⟨q0,q1,q2,q3,q4,q5⟩,r0,r1,r2,r3,r4,r5⟩
    go_simp
    with_reducible rfl
   rotate_left
   ·exact vs
   refine pure_ (i:=8) (N:=(some 54)) (v:=?_) (a':=?_) (ab 12 511) rfl rfl (any_of HT_.out kr) (fun _ _ _ h => h) (Or.inl ⟨by rfl,?_⟩) ?_ ?_
   rotate_left
   ·intro w'
    go_simp
    with_reducible rfl
   rotate_left
   ·exact vs
   refine last_ (i:=9) (N:=none) (ab 12 1023) rfl rfl (one_of HT_.out kr) (by decide) (fun K hK => ?_)
   have hx:=row84_set HH63.out (i:=k) (Nat.lt_of_succ_lt hkl) s1
   obtain ⟨wa,hwa⟩ : ∃ wa,wa = wx.setCells g (k * 6) (cells84 s1):=⟨_,rfl⟩
   rw [← hwa] at hx
   have hr : (Instr.storeAt 84 (.pointer (some (ad.add (k * 6)))) (.agg #[.int .i64 s1.f0,.int .i64 s1.f1,.int .i64 s1.f2,.int .i64 s1.f3,.int .i64 s1.f4,.int .i64 s1.f5])).run Tryz.prog wx = .ok () wa:=by
    rw [HAD.out,add_plain]
    exact hx.1
   have x2:=hx.2.1
   have x3:=hx.2.2
   clear hx hwa
   refine skip_ (w1:=wa) ?ha ?hb ?hrun ?hrest
   case ha => rfl
   case hb => rfl
   case hrun => exact exec_store (t:=84) (p:=.tmp 54) (q:=.tmp 50) rfl rfl rfl hr
   clear hr
   have HN4:=am (below_grown HN3.out HN3.out.size x3 HGN.out)
   have H94:=am (blk_grown H93.out x3 (by intro e;injection e with e;exact HNE.out e))
   have HH54:=am (R_own_move rfl HH53.out (fun k hk => x3.block k (Kd.R_lt HH53.out k hk) (fun e => by rw [e] at hk;exact R_off HH53.out HH63.out (by decide) g hk rfl)))
   have HH64:=am (x2)
   clear x2 x3
   refine hK.out _ _ ?_
   clear hK K
   refine pure_ (i:=10) (N:=(some 55)) (v:=?_) (a':=?_) (ab 12 2047) rfl rfl (any_of HT_.out kr) (fun _ _ _ h => h) (Or.inl ⟨by rfl,?_⟩) ?_ ?_
   rotate_left
   ·intro w'
    go_simp
    with_reducible rfl
   rotate_left
   ·exact vs
   refine last_ (i:=11) (N:=none) (ab 12 4095) rfl rfl (one_of HT_.out kr) (by decide) (fun K hK => ?_)
   have hx:=row84_set HH64.out (i:=k + 1) hkl s0
   obtain ⟨wb,hwb⟩ : ∃ wb,wb = wa.setCells g ((k + 1) * 6) (cells84 s0):=⟨_,rfl⟩
   rw [← hwb] at hx
   have hr : (Instr.storeAt 84 (.pointer (some (ad.add ((k + 1) * 6)))) (.agg #[.int .i64 s0.f0,.int .i64 s0.f1,.int .i64 s0.f2,.int .i64 s0.f3,.int .i64 s0.f4,.int .i64 s0.f5])).run Tryz.prog wa = .ok () wb:=by
    rw [HAD.out,add_plain]
    exact hx.1
   have x2:=hx.2.1
   have x3:=hx.2.2
   clear hx hwb
   refine skip_ (w1:=wb) ?ha2 ?hb2 ?hrun2 ?hrest2
   case ha2 => rfl
   case hb2 => rfl
   case hrun2 => exact exec_store (t:=84) (p:=.tmp 55) (q:=.tmp 53) rfl rfl rfl hr
   clear hr
   refine hK.out _ _ ?_
   clear hK K
   refine done_ (done_of HT_.out kr) ?_
   have HN5:=am (below_grown HN4.out HN4.out.size x3 HGN.out)
   have H95:=am (blk_grown H94.out x3 (by intro e;injection e with e;exact HNE.out e))
   have HH55:=am (R_own_move rfl HH54.out (fun k hk => x3.block k (Kd.R_lt HH54.out k hk) (fun e => by rw [e] at hk;exact R_off HH54.out HH64.out (by decide) g hk rfl)))
   have HH65:=am (x2)
   clear x2 x3 HN2 H92 HH52 HH62 HN3 H93 HH53 HH63 HN4 H94 HH54 HH64 HCE
   have HN6:=am (below_drew HN5.out)
   have H96:=am (blk_drew H95.out)
   have HH56:=am (Kd.R_drew HH55.out)
   have HH66:=am (Kd.R_drew HH65.out)
   obtain ⟨ls,hls⟩ : ∃ ls,ls = (stirs.set k s1).set (k + 1) s0:=⟨_,rfl⟩
   rw [← hls] at HH66
   have HLS:=am hls
   have HE0:=am (show (ls.getD k z84).f2 = s1.f2 by rw [hls,getD84_set s0 (by rw [List.length_set];omega),if_neg (by omega),getD84_set s1 (by omega),if_pos rfl])
   have HE1:=am (show (ls.getD (k + 1) z84).f2 = s0.f2 by rw [hls,getD84_set s0 (by rw [List.length_set];omega),if_pos rfl])
   clear hls HN5 H95 HH55 HH65
   have HCE:=am (show wb.drew.cell? ⟨(ad.add (k * 6)).block,(ad.add (k * 6)).off + 2,none⟩ = some (.int .i64 s1.f2) ∧ wb.drew.cell? ⟨(ad.add ((k + 1) * 6)).block,(ad.add ((k + 1) * 6)).off + 2,none⟩ = some (.int .i64 s0.f2) from by
    rw [HAD.out,add_plain,add_plain]
    exact ⟨by rw [← HE0.out];exact (row84_day HH66.out (i:=k) (Nat.lt_of_succ_lt hkl) 0).2.2.1,by rw [← HE1.out];exact (row84_day HH66.out (i:=k + 1) hkl 0).2.2.1⟩)
   go_wp2
   refine start_ (n:=16) (S:=fun w' => w'.cell? ⟨(ad.add (k * 6)).block,(ad.add (k * 6)).off + 2,none⟩ = some (.int .i64 s1.f2) ∧ w'.cell? ⟨(ad.add ((k + 1) * 6)).block,(ad.add ((k + 1) * 6)).off + 2,none⟩ = some (.int .i64 s0.f2)) (ds:=[12,15]) (ab 16 0) kr rfl kr HCE.out (fun hHeld => ?_);refine with_tabW R44_9.tab R44_9.bits (fun HT_ HW_ => ?_)
   generalize (wb).drew = wx at HN6 H96 HH56 HH66 HCE hHeld ⊢
   refine pure_ (i:=0) (N:=(some 56)) (v:=?_) (a':=?_) (ab 16 1) rfl rfl (any_of HT_.out kr) (fun _ _ _ h => h) (Or.inl ⟨by rfl,?_⟩) ?_ ?_
   rotate_left
   ·intro w'
    go_simp
    with_reducible rfl
   rotate_left
   ·exact vs
   refine pure_ (i:=1) (N:=(some 57)) (v:=?_) (a':=?_) (ab 16 3) rfl rfl (any_of HT_.out kr) (fun _ _ _ h => h) (Or.inl ⟨by rfl,?_⟩) ?_ ?_
   rotate_left
   ·intro w'
    go_simp
    with_reducible rfl
   rotate_left
   ·exact vs
   refine pure_ (i:=2) (N:=(some 58)) (v:=?_) (a':=?_) (ab 16 7) rfl rfl (any_of HT_.out kr) (fun _ _ _ h => h) (Or.inl ⟨by rfl,?_⟩) ?_ ?_
   rotate_left
   ·intro w'
    go_simp
    with_reducible rfl
   rotate_left
   ·exact vs
   refine pure_ (i:=3) (N:=(some 59)) (v:=?_) (a':=?_) (ab 16 15) rfl rfl (any_of HT_.out kr) (fun _ _ _ h => h) (Or.inl ⟨by rfl,?_⟩) ?_ ?_
   rotate_left
   ·intro w'
    go_simp
    with_reducible rfl
   rotate_left
   ·exact vs
   refine pure_ (i:=4) (N:=(some 60)) (v:=?_) (a':=?_) (ab 16 31) rfl rfl (any_of HT_.out kr) (fun _ _ _ h => h) (Or.inl ⟨by rfl,?_⟩) ?_ ?_
   rotate_left
   ·intro w'
    go_simp
    with_reducible rfl
   rotate_left
   ·exact vs
   refine take_ (i:=5) (N:=(some 61)) (v:=?_) (a':=?_) (ab 16 63) rfl rfl (take_ofW HT_.out HW_.out kr) (fun _ _ _ h => h) (Or.inl ⟨by rfl,?_⟩) hHeld ?_ ?_
   rotate_left
   ·rintro w' ⟨q0,q1⟩
    go_simp
    with_reducible rfl
   rotate_left
   ·exact vs
   refine pure_ (i:=6) (N:=(some 62)) (v:=?_) (a':=?_) (ab 16 127) rfl rfl (any_of HT_.out kr) (fun _ _ _ h => h) (Or.inl ⟨by rfl,?_⟩) ?_ ?_
   rotate_left
   ·intro w'
    go_simp
    with_reducible rfl
   rotate_left
   ·exact vs
   refine pure_ (i:=7) (N:=(some 63)) (v:=?_) (a':=?_) (ab 16 255) rfl rfl (any_of HT_.out kr) (fun _ _ _ h => h) (Or.inl ⟨by rfl,?_⟩) ?_ ?_
   rotate_left
   ·intro w'
    go_simp
    with_reducible rfl
   rotate_left
   ·exact vs
   refine pure_ (i:=8) (N:=(some 64)) (v:=?_) (a':=?_) (ab 16 511) rfl rfl (any_of HT_.out kr) (fun _ _ _ h => h) (Or.inl ⟨by rfl,?_⟩) ?_ ?_
   rotate_left
   ·intro w'
    go_simp
    with_reducible rfl
   rotate_left
   ·exact vs
   refine take_ (i:=9) (N:=(some 65)) (v:=?_) (a':=?_) (ab 16 1023) rfl rfl (take_ofW HT_.out HW_.out kr) (fun _ _ _ h => h) (Or.inl ⟨by rfl,?_⟩) hHeld ?_ ?_
   rotate_left
   ·rintro w' ⟨q0,q1⟩
    go_simp
    with_reducible rfl
   rotate_left
   ·exact vs
   refine pure_ (i:=10) (N:=(some 66)) (v:=?_) (a':=?_) (ab 16 2047) rfl rfl (any_of HT_.out kr) (fun _ _ _ h => h) (Or.inl ⟨by rfl,?_⟩) ?_ ?_
   rotate_left
   ·intro w'
    go_simp
    with_reducible rfl
   rotate_left
   ·exact vs
   refine pure_ (i:=11) (N:=(some 67)) (v:=?_) (a':=?_) (ab 16 4095) rfl rfl (any_of HT_.out kr) (fun _ _ _ h => h) (Or.inl ⟨by rfl,?_⟩) ?_ ?_
   rotate_left
   ·intro w'
    go_simp
    with_reducible rfl
   rotate_left
   ·exact vs
   refine last_ (i:=12) (N:=none) (ab 16 8191) rfl rfl (one_of HT_.out kr) (by decide) (fun K hK => ?_)
   have hx:=row84_day HH66.out (i:=k) (Nat.lt_of_succ_lt hkl) s0.f2
   have x2:=hx.1
   have x3:=hx.2.1
   have x4:=hx.2.2.1
   have x5:=hx.2.2.2
   clear hx
   have u0 : wx.cell? ⟨(ad.add (k * 6)).block,(ad.add (k * 6)).off + 2,none⟩ = some (.int .i64 (ls.getD k z84).f2):=by rw [HAD.out,add_plain];exact x4
   have f0 : wx.frozen? ⟨(ad.add (k * 6)).block,(ad.add (k * 6)).off + 2,none⟩ = false:=by rw [HAD.out,add_plain];exact x5
   refine skip_ (w1:=?_) (by rfl) rfl ?_ ?_
   rotate_left
   ·go_simp
    rfl
   rw [show wx.setCell ⟨(ad.add (k * 6)).block,(ad.add (k * 6)).off + 2,none⟩ (.int .i64 s0.f2) = wx.setCell ⟨g,k * 6 + 2,none⟩ (.int .i64 s0.f2) by rw [HAD.out,add_plain]]
   have HN7:=am (below_grown HN6.out HN6.out.size x3 HGN.out)
   have H97:=am (blk_grown H96.out x3 (by intro e;injection e with e;exact HNE.out e))
   have HH57:=am (R_own_move rfl HH56.out (fun k hk => x3.block k (Kd.R_lt HH56.out k hk) (fun e => by rw [e] at hk;exact R_off HH56.out HH66.out (by decide) g hk rfl)))
   have HH67:=am (x2)
   clear x2 x3 x4 x5 u0 f0
   refine hK.out _ _ ?_
   clear hK K
   refine pure_ (i:=13) (N:=(some 68)) (v:=?_) (a':=?_) (ab 16 16383) rfl rfl (any_of HT_.out kr) (fun _ _ _ h => h) (Or.inl ⟨by rfl,?_⟩) ?_ ?_
   rotate_left
   ·intro w'
    go_simp
    with_reducible rfl
   rotate_left
   ·exact vs
   refine pure_ (i:=14) (N:=(some 69)) (v:=?_) (a':=?_) (ab 16 32767) rfl rfl (any_of HT_.out kr) (fun _ _ _ h => h) (Or.inl ⟨by rfl,?_⟩) ?_ ?_
   rotate_left
   ·intro w'
    go_simp
    with_reducible rfl
   rotate_left
   ·exact vs
   refine last_ (i:=15) (N:=none) (ab 16 65535) rfl rfl (one_of HT_.out kr) (by decide) (fun K hK => ?_)
   have hx:=row84_day HH67.out (i:=k + 1) hkl s1.f2
   have x2:=hx.1
   have x3:=hx.2.1
   have x4:=hx.2.2.1
   have x5:=hx.2.2.2
   clear hx
   have u0 : (wx.setCell ⟨g,k * 6 + 2,none⟩ (.int .i64 s0.f2)).cell? ⟨(ad.add ((k + 1) * 6)).block,(ad.add ((k + 1) * 6)).off + 2,none⟩ = some (.int .i64 ((ls.set k { ls.getD k z84 with f2:=s0.f2 }).getD (k + 1) z84).f2):=by rw [HAD.out,add_plain];exact x4
   have f0 : (wx.setCell ⟨g,k * 6 + 2,none⟩ (.int .i64 s0.f2)).frozen? ⟨(ad.add ((k + 1) * 6)).block,(ad.add ((k + 1) * 6)).off + 2,none⟩ = false:=by rw [HAD.out,add_plain];exact x5
   refine skip_ (w1:=?_) (by rfl) rfl ?_ ?_
   rotate_left
   ·go_simp
    rfl
   rw [show (wx.setCell ⟨g,k * 6 + 2,none⟩ (.int .i64 s0.f2)).setCell ⟨(ad.add ((k + 1) * 6)).block,(ad.add ((k + 1) * 6)).off + 2,none⟩ (.int .i64 s1.f2) = (wx.setCell ⟨g,k * 6 + 2,none⟩ (.int .i64 s0.f2)).setCell ⟨g,(k + 1) * 6 + 2,none⟩ (.int .i64 s1.f2) by rw [HAD.out,add_plain]]
   refine hK.out _ _ ?_
   clear hK K
   refine done_ (done_of HT_.out kr) ?_
   have HN8:=am (below_grown HN7.out HN7.out.size x3 HGN.out)
   have H98:=am (blk_grown H97.out x3 (by intro e;injection e with e;exact HNE.out e))
   have HH58:=am (R_own_move rfl HH57.out (fun k hk => x3.block k (Kd.R_lt HH57.out k hk) (fun e => by rw [e] at hk;exact R_off HH57.out HH67.out (by decide) g hk rfl)))
   have HH68:=am (x2)
   clear x2 x3 x4 x5 u0 f0 HN6 H96 HH56 HH66 HN7 H97 HH57 HH67 HCE
   generalize (wx.setCell ⟨g,k * 6 + 2,none⟩ (.int .i64 s0.f2)).setCell ⟨g,(k + 1) * 6 + 2,none⟩ (.int .i64 s1.f2) = w11 at HN8 H98 HH58 HH68 ⊢
   obtain ⟨ns,hns⟩ : ∃ ns,ns = swapP stirs k:=⟨_,rfl⟩
   have HNS:=am hns
   have HH69:=am (show k84.R 84 w11 wd.heap.size (fun _ => True) (.slice (some ⟨g,0,none⟩) stirs.length c6) ns from by
    have h:=HH68.out
    rw [HLS.out,swap_steps hkl s0 s1 HS0.out HS1.out,← hns] at h
    exact h)
   have hnl : ns.length = stirs.length:=by rw [hns,swapP_length]
   clear hns HH68 HLS HE0 HE1 HS0 HS1
   have HF5:=am (show Kd.F (Kd.int .i64) w11 (fun k => k < w11.heap.size) A5 rooms.length rooms from Kd.F_mono (Kd.R_F (Kd.R_bound HH58.out)) (fun k hk => hk.2.2.1))
   have HF9:=am (show Kd.F (Kd.int .i64) w11 (fun k => wd.heap.size ≤ k) A5 rooms.length rooms from Kd.F_mono (Kd.R_F (Kd.R_bound HH58.out)) (fun k hk => hk.2.1))
   have HFS0:=am (show Kd.F k84 w11 (fun k => wd.heap.size ≤ k) (some ad) stirs.length ns from by have h:=Kd.F_mono (Kd.R_F (Kd.R_bound HH69.out)) (fun k hk => hk.2.1);rw [HAD.out];exact h)
   have HC6:=am (show Kd.C k84 w11 (some ⟨g,0,none⟩) ns.length ns from (Kd.R_reads' HH69.out).2.2)
   have HL5:=am (Kd.R_reads' HH58.out).2.1
   have HL6:=am (Kd.R_reads' HH69.out).2.1
   have HNL:=am hnl
   clear HH58 HH69 hnl
   obtain ⟨r2,hr2⟩ : ∃ r2,r2 = playedP rooms ns ns.length:=⟨_,rfl⟩
   have HQ2:=am hr2.symm
   clear hr2
   rw [← HAD.out] at HC6
   have hall:=all_calls A5 (some ad) c5 c6 rooms ns w11 w11.heap.size (Nat.le_refl _) HF5.out HL5.out HC6.out (by rw [HNL.out];exact HL6.out)
   rw [HNL.out] at hall
   have HALL:=am hall
   clear hall
   have g0:=bd H98.out 0
   have g1:=bd H98.out 1
   go_wp2_with fail
   refine HALL.out.mono ?_
   rintro e w12 ⟨hb,h⟩
   rw [← HNL.out,HQ2.out] at h
   have HN9:=am (below_then HN8.out HN8.out.size hb)
   have H99:=am (blk_below H98.out hb)
   have HF6:=am (Kd.F_below HF9.out hb)
   have HFS:=am (Kd.F_below HFS0.out hb)
   clear hb g0 g1 HALL
   have HRZ:=am (blk_below HR3.out HN9.out)
   have HBZ:=am (below_then HB5.out (below_size HB5.out) HN9.out)
   have HYZ:=am (HY2.out.move HN9.out)
   have hsw : swapR rooms stirs ((k + 1 : Nat) : Int) = r2:=by unfold swapR;rw [Int.toNat_natCast,show k + 1 - 1 = k by omega,← HNS.out];exact HQ2.out
   have HSW:=am hsw
   clear hsw
   cases r2 with
  |error x =>
    subst h
    have hx : ¬ x.1 = 0:=playedP_code HQ2.out
    have u0:=bd HRZ.out 0
    have fu0:=blk_frozen HRZ.out 0
    have u1:=bd HRZ.out 1
    have fu1:=blk_frozen HRZ.out 1
    go_wp2
    have bz:=blk_put (cs':=#[.slice none 0 0,.slice none 0 0]) (blk_put (cs':=#[.slice none 0 0,.slice none 0 0]) (HRZ.out) 0 (.slice none 0 0) rfl) 1 (.slice none 0 0) rfl
    have z0:=bd bz 0
    have z1:=bd bz 1
    exact bodyPost_ret (v:=.tuple #[.agg #[.slice none 0 0,.slice none 0 0],.bool false,.int .i64 x.1]) (by simp [results,Tryz.results44,go_sem,z0,z1,hu]) rfl ⟨((HBZ.out).setCell (p:=⟨W.heap.size + 1,0,none⟩) (by first|(simp;done)|(simp;omega)) (.slice none 0 0)).setCell (p:=⟨W.heap.size + 1,1,none⟩) (by first|(simp;done)|(simp;omega)) (.slice none 0 0),by rw [HQP.out];dsimp only;rw [if_pos HK.out.symm,HSW.out]⟩
  |ok Z =>
    obtain ⟨M,base2,hbase2,hbad2,rfl,hZ⟩:=h
    have HZZ:=am (hZ)
    have HWZ:=am (played_ok HQ2.out).2.2.1
    clear hbase2 hbad2 hZ
    have HSZ:=am (show W.heap.size ≤ wd.heap.size from HB5.out.size)
    have HLTW:=am (show W.heap.size + 1 < wd.heap.size from blk_lt HR3.out)
    have HRZ1:=am (blk_drew HRZ.out)
    have HBZ1:=am (below_drew HBZ.out)
    have HYZ1:=am (HYZ.out.move (below_drew (Below.refl _ _)))
    have H991:=am (blk_drew H99.out)
    have HF61:=am (Kd.F_drew HF6.out)
    have HFS1:=am (Kd.F_drew HFS.out)
    have HZZ1:=am (HZZ.out.move (below_drew (Below.refl _ _)))
    go_wp2
    refine start_ (n:=7) (S:=fun w' => w'.cell? ⟨p9,0,none⟩ = some (.slice A5 rooms.length c5) ∧ w'.cell? ⟨p9,1,none⟩ = some (.slice (some ad) stirs.length c6)) (ds:=[4]) (ab 7 0) kr rfl kr ⟨(blk_cell H991.out 0).trans rfl,(blk_cell H991.out 1).trans rfl⟩ (fun hHeld => ?_);refine with_tabW R44_13.tab R44_13.bits (fun HT_ HW_ => ?_)
    generalize (w12).drew = wx at HRZ1 HBZ1 HYZ1 H991 HF61 HFS1 HZZ1 hHeld ⊢
    refine take_ (i:=0) (N:=(some 79)) (v:=?_) (a':=?_) (ab 7 1) rfl rfl (take_ofW HT_.out HW_.out kr) (fun _ _ _ h => h) (Or.inl ⟨by rfl,?_⟩) hHeld ?_ ?_
    rotate_left
    ·rintro w' ⟨q0,q1⟩
     go_simp
     with_reducible rfl
    rotate_left
    ·exact vs
    refine pure_ (i:=1) (N:=(some 80)) (v:=?_) (a':=?_) (ab 7 3) rfl rfl (any_of HT_.out kr) (fun _ _ _ h => h) (Or.inl ⟨by rfl,?_⟩) ?_ ?_
    rotate_left
    ·intro w'
     go_simp
     with_reducible rfl
    rotate_left
    ·exact vs
    refine pure_ (i:=2) (N:=(some 81)) (v:=?_) (a':=?_) (ab 7 7) rfl rfl (any_of HT_.out kr) (fun _ _ _ h => h) (Or.inl ⟨by rfl,?_⟩) ?_ ?_
    rotate_left
    ·intro w'
     go_simp
     with_reducible rfl
    rotate_left
    ·exact vs
    refine one_ (i:=3) (N:=(some 82)) (ab 7 15) rfl rfl (one_of HT_.out kr) (by decide) (fun K hK => ?_)
    refine gC Tryz.func125 #[.pointer (some ⟨L.g,0,none⟩),.pointer (some ⟨M.g,0,none⟩)] ?_
    refine (alike_calls HYZ1.out HZZ1.out HWZ.out (Nat.le_refl _)).mono ?_
    rintro e w13 ⟨rfl,hb⟩
    have HRZ2:=am (blk_below HRZ1.out hb)
    have HBZ2:=am (below_then HBZ1.out (below_size HBZ1.out) hb)
    have H992:=am (blk_below H991.out hb)
    have HF62:=am (Kd.F_below HF61.out hb)
    have HFS2:=am (Kd.F_below HFS1.out hb)
    clear hb
    refine ⟨_,rfl,?_⟩
    refine hK.out _ _ ⟨(blk_cell H992.out 0).trans rfl,(blk_cell H992.out 1).trans rfl⟩ (fun hHeld => ?_)
    clear hK K
    refine qN (some 82) ?_
    refine last_ (i:=4) (N:=none) (ab 7 31) rfl rfl (one_of HT_.out kr) (by decide) (fun K hK => ?_)
    have u0:=bd HRZ2.out 0
    have fu0:=blk_frozen HRZ2.out 0
    have u1:=bd HRZ2.out 1
    have fu1:=blk_frozen HRZ2.out 1
    refine skip_ (w1:=?_) (by rfl) rfl ?_ ?_
    rotate_left
    ·go_simp
     rfl
    refine hK.out _ _ ?_
    clear hK K
    refine pure_ (i:=5) (N:=(some 5)) (v:=?_) (a':=?_) (ab 7 63) rfl rfl (any_of HT_.out kr) (fun _ _ _ h => h) (Or.inl ⟨by rfl,?_⟩) ?_ ?_
    rotate_left
    ·intro w'
     go_simp
     with_reducible rfl
    rotate_left
    ·exact vs
    refine pure_ (i:=6) (N:=(some 6)) (v:=?_) (a':=?_) (ab 7 127) rfl rfl (any_of HT_.out kr) (fun _ _ _ h => h) (Or.inl ⟨by rfl,?_⟩) ?_ ?_
    rotate_left
    ·intro w'
     go_simp
     with_reducible rfl
    rotate_left
    ·exact vs
    refine done_ (done_of HT_.out kr) ?_
    go_wp2
    have HF7:=am (Kd.F_far (Kd.F_far HF62.out (p:=⟨W.heap.size + 1,0,none⟩) (fun k hk => by have h:=HLTW.out;(try dsimp only);omega) (.slice A5 rooms.length c5)) (p:=⟨W.heap.size + 1,1,none⟩) (fun k hk => by have h:=HLTW.out;(try dsimp only);omega) (.slice (some ad) stirs.length c6))
    have HC8:=am (Kd.F_now (Kd.F_far (Kd.F_far HFS2.out (p:=⟨W.heap.size + 1,0,none⟩) (fun k hk => by have h:=HLTW.out;(try dsimp only);omega) (.slice A5 rooms.length c5)) (p:=⟨W.heap.size + 1,1,none⟩) (fun k hk => by have h:=HLTW.out;(try dsimp only);omega) (.slice (some ad) stirs.length c6)))
    have bz:=blk_put (cs':=#[.slice A5 rooms.length c5,.slice (some ad) stirs.length c6]) (blk_put (cs':=#[.slice A5 rooms.length c5,.slice none 0 0]) (HRZ2.out) 0 (.slice A5 rooms.length c5) rfl) 1 (.slice (some ad) stirs.length c6) rfl
    have z0:=bd bz 0
    have z1:=bd bz 1
    exact bodyPost_ret (v:=.tuple #[.agg #[.slice A5 rooms.length c5,.slice (some ad) stirs.length c6],.bool (alikeP Y Z),.int .i64 0]) (by simp [results,Tryz.results44,go_sem,z0,z1,hu]) rfl ⟨((HBZ2.out).setCell (p:=⟨W.heap.size + 1,0,none⟩) (by first|(simp;done)|(simp;omega)) (.slice A5 rooms.length c5)).setCell (p:=⟨W.heap.size + 1,1,none⟩) (by first|(simp;done)|(simp;omega)) (.slice (some ad) stirs.length c6),by
     rw [HQP.out]
     dsimp only
     rw [if_pos HK.out.symm,HSW.out]
     exact ⟨A5,some ad,c5,c6,rfl,HL5.out,HL6.out,Kd.F_mono HF7.out (fun k hk => Nat.le_trans HSZ.out hk),by rw [Int.toNat_natCast,show k + 1 - 1 = k by omega,← HNS.out];exact HC8.out⟩⟩
end Go.Proofs.YtjjfpmapjjemcaaGreat.B
end
