import Derived.Test.YtjjfpmapjjemcaaGreatQ35
import Derived.Test.YtjjfpmapjjemcaaGreatQ7
set_option linter.unusedVariables false
set_option linter.unusedSimpArgs false
section
namespace Go.Proofs.YtjjfpmapjjemcaaGreat.B
open Go.RowKit Go.Proofs.YtjjfpmapjjemcaaGreatW.PrintWords Go.Proofs.YtjjfpmapjjemcaaGreatW.PrintLast Go.Proofs.YtjjfpmapjjemcaaGreatW.PrintMore
attribute [local go_sem] max2_int min2_int max_two min_two max_three min_three max_four min_four
set_option maxRecDepth 100000 in
set_option maxHeartbeats 2000000 in
theorem share_calls (A A2 : Option Addr) (c c2 : Nat) (rooms : List Int) (stirs : List S84) (W : World) (lo : Nat) (hlo : lo ≤ W.heap.size) (hC : Kd.F (Kd.int .i64) W (fun k => k < lo) A rooms.length rooms) (hc : rooms.length ≤ c) (hS : Kd.C k84 W A2 stirs.length stirs) (hc2 : stirs.length ≤ c2) (id pour : Int) :
  Calls Tryz.prog 30 #[.agg #[.slice A rooms.length c,.slice A2 stirs.length c2],ii id,ii pour] W fun e W' => e = .returned (.tuple #[.agg #[ii (shareE (playedP rooms stirs stirs.length) id pour).1.f0,ii (shareE (playedP rooms stirs stirs.length) id pour).1.f1],ii (shareE (playedP rooms stirs stirs.length) id pour).2]) ∧ Below W.heap.size W W':=by
 have hu:=Tryz.underlying32
 have hu167:=Tryz.underlying167
 have hu43:=Tryz.underlying43
 have HC:=am (hC)
 have HS:=am (hS)
 have HB:=am (Below.refl W.heap.size W)
 have HC1:=am (Kd.F_alloc HC.out (.cells #[.slice A rooms.length c,.slice A2 stirs.length c2] 32))
 have HS1:=am (Kd.C_alloc HS.out (.cells #[.slice A rooms.length c,.slice A2 stirs.length c2] 32))
 have HB1:=am (below_alloc HB.out (.cells #[.slice A rooms.length c,.slice A2 stirs.length c2] 32))
 have HC2:=am (Kd.F_alloc HC1.out (.cells #[ii 0,ii 0] 43))
 have HS2:=am (Kd.C_alloc HS1.out (.cells #[ii 0,ii 0] 43))
 have HB2:=am (below_alloc HB1.out (.cells #[ii 0,ii 0] 43))
 have HR:=am (blk_new' (W.alloc (.cells #[.slice A rooms.length c,.slice A2 stirs.length c2] 32)) (.cells #[ii 0,ii 0] 43) (W.heap.size + 1) (by simp))
 clear hC hS
 obtain ⟨r,hr⟩ : ∃ r,r = playedP rooms stirs stirs.length:=⟨_,rfl⟩
 rw [← hr]
 have HP:=am hr.symm
 clear hr
 obtain ⟨q,hq⟩ : ∃ q,q = shareE r id pour:=⟨_,rfl⟩
 rw [← hq]
 have HQ:=am hq
 clear hq
 go_enter Tryz.func30,Tryz.ntmps30
 go_wp2_with fail
 refine (barrowOf_calls A A2 c c2 rooms stirs _ lo (Nat.le_trans hlo (by simp;omega)) HC2.out hc HS2.out hc2 id).mono ?_
 rintro e w1 ⟨hb,h⟩
 rw [HP.out] at h
 have HB3:=am (below_then HB2.out (below_size HB2.out) hb)
 have HR1:=am (blk_below HR.out hb)
 clear hb
 cases r with
|error x =>
  subst h
  have hx : ¬ x.1 = 0:=playedP_code HP.out
  have HE:=am (show q = (⟨0,0⟩,x.1) from HQ.out)
  have HB4:=am (below_alloc HB3.out (.cells #[ii 0,ii 0,ii 0,.slice none 0 0] 167))
  have HR2:=am (blk_alloc HR1.out (.cells #[ii 0,ii 0,ii 0,.slice none 0 0] 167))
  have g0:=bd HR2.out 0
  have fg0:=blk_frozen HR2.out 0
  have g1:=bd HR2.out 1
  have fg1:=blk_frozen HR2.out 1
  go_wp2
  rw [HE.out]
  have bz:=blk_put (cs':=#[ii 0,ii 0]) (blk_put (cs':=#[ii 0,ii 0]) (HR2.out) 0 (ii 0) rfl) 1 (ii 0) rfl
  have z0:=bd bz 0
  have z1:=bd bz 1
  exact bodyPost_ret (v:=.tuple #[.agg #[ii 0,ii 0],ii x.1]) (by simp [results,Tryz.results30,go_sem,z0,z1,hu43]) rfl ⟨rfl,((HB4.out).setCell (p:=⟨W.heap.size + 1,0,none⟩) (by simp) (ii 0)).setCell (p:=⟨W.heap.size + 1,1,none⟩) (by simp) (ii 0)⟩
|ok Y =>
  cases hf : Y.barrows.find? (isId id) with
 |none =>
   have HE:=am (show q = (⟨0,0⟩,5) by rw [HQ.out];unfold shareE;simp only [hf])
   simp only [hf] at h
   clear hf
   subst h
   have HB4:=am (below_alloc HB3.out (.cells #[ii 0,ii 0,ii 0,.slice none 0 0] 167))
   have HR2:=am (blk_alloc HR1.out (.cells #[ii 0,ii 0,ii 0,.slice none 0 0] 167))
   have g0:=bd HR2.out 0
   have fg0:=blk_frozen HR2.out 0
   have g1:=bd HR2.out 1
   have fg1:=blk_frozen HR2.out 1
   go_wp2
   rw [HE.out]
   have bz:=blk_put (cs':=#[ii 0,ii 0]) (blk_put (cs':=#[ii 0,ii 0]) (HR2.out) 0 (ii 0) rfl) 1 (ii 0) rfl
   have z0:=bd bz 0
   have z1:=bd bz 1
   exact bodyPost_ret (v:=.tuple #[.agg #[ii 0,ii 0],ii 5]) (by simp [results,Tryz.results30,go_sem,z0,z1,hu43]) rfl ⟨rfl,((HB4.out).setCell (p:=⟨W.heap.size + 1,0,none⟩) (by simp) (ii 0)).setCell (p:=⟨W.heap.size + 1,1,none⟩) (by simp) (ii 0)⟩
 |some b =>
   have HF:=am hf
   have HQ1:=am (show q = if pour ∈ Y.pours then resultP (shareP b pour) else (⟨0,0⟩,5) by rw [HQ.out];unfold shareE;simp only [hf])
   simp only [hf] at h
   clear hf
   obtain ⟨L,base,A3,c3,hbase,hbad,rfl,hY,hl3,hF3⟩:=h
   have HWF:=am (played_ok HP.out).2.2.1
   have HBO:=am (HWF.out.barrows b (List.mem_of_find?_eq_some HF.out))
   have HL3:=am hl3
   have HY:=am (hY)
   have HG:=am (Kd.F_now hF3)
   have HB4:=am (below_alloc HB3.out (.cells #[ii b.f0,ii b.f1,ii b.f2,.slice A3 b.f3.length c3] 167))
   have HR2:=am (blk_alloc HR1.out (.cells #[ii b.f0,ii b.f1,ii b.f2,.slice A3 b.f3.length c3] 167))
   have HY1:=am (HY.out.move (below_alloc (Below.refl _ _) (.cells #[ii b.f0,ii b.f1,ii b.f2,.slice A3 b.f3.length c3] 167)))
   have HG1:=am (Kd.C_alloc HG.out (.cells #[ii b.f0,ii b.f1,ii b.f2,.slice A3 b.f3.length c3] 167))
   have HX:=am (blk_new w1 (.cells #[ii b.f0,ii b.f1,ii b.f2,.slice A3 b.f3.length c3] 167))
   clear hbase hbad hY hl3 hF3
   obtain ⟨k,hk⟩ : ∃ k,k = decide (pour ∈ Y.pours):=⟨_,rfl⟩
   have HK:=am hk
   clear hk
   go_wp2_with fail
   refine (known_calls HY1.out HWF.out (by decide) pour).mono ?_
   rintro e w2 ⟨rfl,hb⟩
   rw [← HK.out]
   have HB5:=am (below_then HB4.out (below_size HB4.out) hb)
   have HR3:=am (blk_below HR2.out hb)
   have HG2:=am (Kd.C_below HG1.out hb)
   have HX1:=am (blk_below HX.out hb)
   clear hb
   cases k with
  |false =>
    have HE:=am (show q = (⟨0,0⟩,5) by rw [HQ1.out];exact if_neg (of_decide_eq_false HK.out.symm))
    have g0:=bd HR3.out 0
    have fg0:=blk_frozen HR3.out 0
    have g1:=bd HR3.out 1
    have fg1:=blk_frozen HR3.out 1
    go_wp2
    rw [HE.out]
    have bz:=blk_put (cs':=#[ii 0,ii 0]) (blk_put (cs':=#[ii 0,ii 0]) (HR3.out) 0 (ii 0) rfl) 1 (ii 0) rfl
    have z0:=bd bz 0
    have z1:=bd bz 1
    exact bodyPost_ret (v:=.tuple #[.agg #[ii 0,ii 0],ii 5]) (by simp [results,Tryz.results30,go_sem,z0,z1,hu43]) rfl ⟨rfl,((HB5.out).setCell (p:=⟨W.heap.size + 1,0,none⟩) (by simp) (ii 0)).setCell (p:=⟨W.heap.size + 1,1,none⟩) (by simp) (ii 0)⟩
  |true =>
    have HE:=am (show q = resultP (shareP b pour) by rw [HQ1.out];exact if_pos (of_decide_eq_true HK.out.symm))
    have HS1:=am (share_some HBO.out pour)
    have HS2:=am (result_some (shareP b pour))
    rw [← HE.out] at HS2
    have g0:=bd HX1.out 0
    have g1:=bd HX1.out 1
    have g2:=bd HX1.out 2
    have g3:=bd HX1.out 3
    go_wp2_with fail
    refine (pit_barrow_share.calls FU _ _ _ _ _ _ _ _ _ _ HG2.out HL3.out HS1.out).mono ?_
    rintro e w3 ⟨rfl,hb⟩
    have HB6:=am (below_then HB5.out (below_size HB5.out) hb)
    have HR4:=am (blk_below HR3.out hb)
    clear hb
    go_wp2_with fail
    refine (pit_result.calls FU _ _ _ _ _ _ HS2.out).mono ?_
    rintro e w4 ⟨rfl,hb⟩
    have HB7:=am (below_then HB6.out (below_size HB6.out) hb)
    have HR5:=am (blk_below HR4.out hb)
    clear hb
    have u0:=bd HR5.out 0
    have fu0:=blk_frozen HR5.out 0
    have u1:=bd HR5.out 1
    have fu1:=blk_frozen HR5.out 1
    go_wp2
    have bz:=blk_put (cs':=#[ii q.1.f0,ii q.1.f1]) (blk_put (cs':=#[ii q.1.f0,ii 0]) (HR5.out) 0 (ii q.1.f0) rfl) 1 (ii q.1.f1) rfl
    have z0:=bd bz 0
    have z1:=bd bz 1
    exact bodyPost_ret (v:=.tuple #[.agg #[ii q.1.f0,ii q.1.f1],ii q.2]) (by simp [results,Tryz.results30,go_sem,z0,z1,hu43]) rfl ⟨rfl,((HB7.out).setCell (p:=⟨W.heap.size + 1,0,none⟩) (by simp) (ii q.1.f0)).setCell (p:=⟨W.heap.size + 1,1,none⟩) (by simp) (ii q.1.f1)⟩
end Go.Proofs.YtjjfpmapjjemcaaGreat.B
end
