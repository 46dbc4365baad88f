import Derived.Test.YtjjfpmapjjemcaaGreatQ38
import Derived.Test.YtjjfpmapjjemcaaGreatQ7
set_option linter.unusedVariables false
set_option linter.unusedSimpArgs false
section
namespace Go.Proofs.YtjjfpmapjjemcaaGreat.B
open Go.RowKit Go.Proofs.YtjjfpmapjjemcaaGreatW.PrintWords Go.Proofs.YtjjfpmapjjemcaaGreatW.PrintLast Go.Proofs.YtjjfpmapjjemcaaGreatW.PrintMore
attribute [local go_sem] max2_int min2_int max_two min_two max_three min_three max_four min_four
set_option maxRecDepth 100000 in
set_option maxHeartbeats 2000000 in
theorem total114_calls (A : Option Addr) (c : Nat) (l : List S43) (g : S43 → S43) (K : Nat) (caps : Array Value) (Inv : World → Prop) (W : World) (hr : Kd.C k43 W A l.length l) (hc : l.length ≤ c)
  (ek : ∀ args w,(callFunc K args).run Tryz.prog w = .ok (.enter K args) w) (hi0 : Inv W) (hi1 : ∀ w w',Inv w → Below w.heap.size w w' → Inv w')
  (hcl : ∀ (x : S43) (w : World),x ∈ l → Inv w → Calls Tryz.prog K (#[.agg #[ii x.f0,ii x.f1]] ++ caps) w fun e w' => e = .returned (.agg #[ii (g x).f0,ii (g x).f1]) ∧ Below w.heap.size w w') :
  Calls Tryz.prog 114 #[.slice A l.length c,.func (.func K) #[] caps,.func (.func 89) #[] #[]] W fun e W' => e = totalE (totalP g l) ∧ Below W.heap.size W W':=by
 have hu43:=Tryz.underlying43
 have ek89 : ∀ args w,(callFunc 89 args).run Tryz.prog w = .ok (.enter 89 args) w:=enters_of Tryz.func89 kr rfl
 have hm:=hr.2.1
 have HCL:=am hcl
 have HJ:=am hi1
 have HC:=am (hr)
 have HB:=am (Below.refl W.heap.size W)
 have HI:=am (hi1 _ _ hi0 (below_alloc (Below.refl W.heap.size W) (.cells #[ii 0,ii 0] 43)))
 have HC1:=am (Kd.C_alloc HC.out (.cells #[ii 0,ii 0] 43))
 have HB1:=am (below_alloc HB.out (.cells #[ii 0,ii 0] 43))
 have HR:=am (blk_new W (.cells #[ii 0,ii 0] 43))
 obtain ⟨q,hq⟩ : ∃ q,q = totalP g l:=⟨_,rfl⟩
 rw [← hq]
 have HQ:=am hq
 clear hq hr hc hcl hi0 hi1
 go_enter Tryz.func114,Tryz.ntmps114
 go_wp2_with fail
 refine (pit_whole.calls 0 0 1 _ rfl).mono ?_
 rintro e w1 ⟨rfl,hb⟩
 have HC2:=am (Kd.C_below HC1.out hb)
 have HB2:=am (below_then HB1.out (below_size HB1.out) hb)
 have HR1:=am (blk_below HR.out hb)
 have HI1:=am (HJ.out _ _ HI.out hb)
 clear hb
 go_wp2
 go_loopw [15] (fun v15 wr => ∃ (j : Nat) (a : S43),j ≤ l.length ∧ v15 = ii (j : Int) ∧ Aside0 (Below w1.heap.size w1 wr) ∧ Aside0 (wr.heap[w1.heap.size]? = some (.cells #[ii a.f0,ii a.f1] 43 (0,0))) ∧ Aside0 (q = totalL g a (l.drop j)) ∧ Aside0 (validP a = true)) (fun v15 _ => l.length - (intOf v15).toNat)
 case atStart => exact ⟨0,wholeP 0,Nat.zero_le _,rfl,⟨below_alloc (Below.refl _ _) _⟩,⟨blk_new _ _⟩,⟨by rw [HQ.out];rfl⟩,⟨rfl⟩⟩
 case round =>
  obtain ⟨j,a,hj,rfl,HN,HT,HA,HV⟩:=hrel
  by_cases hlt : j < l.length
  ·
   obtain ⟨ae,e,hx0,hx1⟩:=at_T43 (Kd.C_below HC2.out HN.out) (j : Int) (by omega) (by omega)
   cases e
   rw [Int.toNat_natCast] at hx0 hx1
   have hmem : rd_T43 l (j : Int) ∈ l:=getD_mem_ hlt
   have HD:=am (show l.drop j = rd_T43 l (j : Int) :: l.drop (j + 1) by rw [List.drop_eq_getElem_cons hlt];unfold rd_T43;rw [Int.toNat_natCast,List.getD_eq_getElem?_getD,List.getElem?_eq_getElem hlt];rfl)
   have HCX:=am (HCL.out (rd_T43 l (j : Int)) (wr.alloc (.cells #[ii (rd_T43 l (j : Int)).f0,ii (rd_T43 l (j : Int)).f1] 43)) hmem (HJ.out _ _ HI1.out (below_alloc HN.out _)))
   obtain ⟨x,hx⟩ : ∃ x,x = rd_T43 l (j : Int):=⟨_,rfl⟩
   rw [← hx] at hx0 hx1 HCX HD
   clear hmem hx
   rw [HD.out] at HA
   obtain ⟨y,hy⟩ : ∃ y,y = g x:=⟨_,rfl⟩
   rw [← hy] at HCX
   have HY:=am hy
   clear hy
   have HT1:=am (blk_alloc HT.out (.cells #[ii x.f0,ii x.f1] 43))
   have HN1:=am (below_alloc HN.out (.cells #[ii x.f0,ii x.f1] 43))
   go_wp2_with fail
   refine HCX.out.mono ?_
   rintro e w5 ⟨rfl,hb⟩
   have HT2:=am (blk_below HT1.out hb)
   have HN2:=am (below_then HN1.out (below_size HN1.out) hb)
   have HT3:=am (blk_alloc HT2.out (.cells #[ii y.f0,ii y.f1] 43))
   have HN3:=am (below_alloc HN2.out (.cells #[ii y.f0,ii y.f1] 43))
   have HE:=am (blk_new w5 (.cells #[ii y.f0,ii y.f1] 43))
   clear hb hx0 hx1
   obtain ⟨k1,hk1⟩ : ∃ k1,k1 = validP y:=⟨_,rfl⟩
   have HV1:=am (show pit_valid.f FU y.f0 y.f1 = some k1 by rw [hk1];exact valid_some y)
   have HK1:=am hk1
   clear hk1
   go_wp2_with fail
   refine (pit_valid.calls FU _ _ _ _ HV1.out).mono ?_
   rintro e w6 ⟨rfl,hb⟩
   have HT4:=am (blk_below HT3.out hb)
   have HN4:=am (below_then HN3.out (below_size HN3.out) hb)
   have HE1:=am (blk_below HE.out hb)
   clear hb
   cases k1 with
  |false =>
    have HR9:=am (blk_below HR1.out HN4.out)
    have HB9:=am (below_then HB2.out (below_size HB2.out) HN4.out)
    have u0:=bd HR9.out 0
    have fu0:=blk_frozen HR9.out 0
    have u1:=bd HR9.out 1
    have fu1:=blk_frozen HR9.out 1
    go_wp2
    rw [show q = none from by rw [HA.out];exact totalL_no1 (by rw [← HY.out];exact HK1.out.symm)]
    have bz:=blk_put (cs':=#[ii 0,ii 0]) (blk_put (cs':=#[ii 0,ii 0]) (HR9.out) 0 (ii 0) rfl) 1 (ii 0) rfl
    have z0:=bd bz 0
    have z1:=bd bz 1
    exact bodyPost_ret (v:=.tuple #[.agg #[ii 0,ii 0],.bool false]) (by simp [results,Tryz.results114,go_sem,z0,z1,hu43]) rfl ⟨rfl,((HB9.out).setCell (p:=⟨W.heap.size,0,none⟩) (by simp) (ii 0)).setCell (p:=⟨W.heap.size,1,none⟩) (by simp) (ii 0)⟩
  |true =>
    have HAD:=am (add_valid HV.out HK1.out.symm)
    obtain ⟨s,hs⟩ : ∃ s,s = addP a y:=⟨_,rfl⟩
    rw [← hs] at HAD
    have HS:=am hs
    clear hs
    have g0:=bd HT4.out 0
    have g1:=bd HT4.out 1
    have k0:=bd HE1.out 0
    have k1:=bd HE1.out 1
    go_wp2_with fail
    refine (pit_add.calls FU _ _ _ _ _ _ _ HAD.out).mono ?_
    rintro e w7 ⟨rfl,hb⟩
    have HT5:=am (blk_below HT4.out hb)
    have HN5:=am (below_then HN4.out (below_size HN4.out) hb)
    clear hb g0 g1 k0 k1
    have u0:=bd HT5.out 0
    have fu0:=blk_frozen HT5.out 0
    have u1:=bd HT5.out 1
    have fu1:=blk_frozen HT5.out 1
    obtain ⟨k2,hk2⟩ : ∃ k2,k2 = validP s:=⟨_,rfl⟩
    have HV2:=am (show pit_valid.f FU s.f0 s.f1 = some k2 by rw [hk2];exact valid_some s)
    have HK2:=am hk2
    clear hk2
    have HN6:=am (((HN5.out).setCell (p:=⟨w1.heap.size,0,none⟩) (by simp) (ii s.f0)).setCell (p:=⟨w1.heap.size,1,none⟩) (by simp) (ii s.f1))
    have HT6:=am (blk_put (cs':=#[ii s.f0,ii s.f1]) (blk_put (cs':=#[ii s.f0,ii a.f1]) (HT5.out) 0 (ii s.f0) rfl) 1 (ii s.f1) rfl)
    go_wp2_with fail
    refine (pit_valid.calls FU _ _ _ _ HV2.out).mono ?_
    rintro e w8 ⟨rfl,hb⟩
    have HT7:=am (blk_below HT6.out hb)
    have HN7:=am (below_then HN6.out (below_size HN6.out) hb)
    clear hb u0 u1 fu0 fu1
    cases k2 with
   |false =>
     have HR9:=am (blk_below HR1.out HN7.out)
     have HB9:=am (below_then HB2.out (below_size HB2.out) HN7.out)
     have u0:=bd HR9.out 0
     have fu0:=blk_frozen HR9.out 0
     have u1:=bd HR9.out 1
     have fu1:=blk_frozen HR9.out 1
     go_wp2
     rw [show q = none from by rw [HA.out];exact totalL_no2 (by rw [← HY.out,← HS.out];exact HK2.out.symm)]
     have bz:=blk_put (cs':=#[ii 0,ii 0]) (blk_put (cs':=#[ii 0,ii 0]) (HR9.out) 0 (ii 0) rfl) 1 (ii 0) rfl
     have z0:=bd bz 0
     have z1:=bd bz 1
     exact bodyPost_ret (v:=.tuple #[.agg #[ii 0,ii 0],.bool false]) (by simp [results,Tryz.results114,go_sem,z0,z1,hu43]) rfl ⟨rfl,((HB9.out).setCell (p:=⟨W.heap.size,0,none⟩) (by simp) (ii 0)).setCell (p:=⟨W.heap.size,1,none⟩) (by simp) (ii 0)⟩
   |true =>
     go_wp2
     go_roundw
     case rel => exact ⟨j + 1,s,by omega,by go_num,HN7,HT7,⟨by rw [HA.out,HS.out,HY.out];exact totalL_go (by rw [← HY.out];exact HK1.out.symm) (by rw [← HY.out,← HS.out];exact HK2.out.symm)⟩,⟨HK2.out.symm⟩⟩
     case measure => simp [intOf];omega
  ·
   have HE:=am (show q = some a by rw [HA.out,List.drop_eq_nil_of_le (by omega)];rfl)
   have HR9:=am (blk_below HR1.out HN.out)
   have HB9:=am (below_then HB2.out (below_size HB2.out) HN.out)
   have g0:=bd HT.out 0
   have g1:=bd HT.out 1
   have u0:=bd HR9.out 0
   have fu0:=blk_frozen HR9.out 0
   have u1:=bd HR9.out 1
   have fu1:=blk_frozen HR9.out 1
   go_wp2
   rw [HE.out]
   have bz:=blk_put (cs':=#[ii a.f0,ii a.f1]) (blk_put (cs':=#[ii a.f0,ii 0]) (HR9.out) 0 (ii a.f0) rfl) 1 (ii a.f1) rfl
   have z0:=bd bz 0
   have z1:=bd bz 1
   exact bodyPost_ret (v:=.tuple #[.agg #[ii a.f0,ii a.f1],.bool true]) (by simp [results,Tryz.results114,go_sem,z0,z1,hu43]) rfl ⟨rfl,((HB9.out).setCell (p:=⟨W.heap.size,0,none⟩) (by simp) (ii a.f0)).setCell (p:=⟨W.heap.size,1,none⟩) (by simp) (ii a.f1)⟩
end Go.Proofs.YtjjfpmapjjemcaaGreat.B
end
