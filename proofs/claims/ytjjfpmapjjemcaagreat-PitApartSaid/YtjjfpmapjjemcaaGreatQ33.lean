import Derived.Test.YtjjfpmapjjemcaaGreatQ30
import Derived.Test.YtjjfpmapjjemcaaGreatQ7
set_option linter.unusedVariables false
set_option linter.unusedSimpArgs false
section
namespace Go.Proofs.YtjjfpmapjjemcaaGreat.B
open Go.RowKit Go.Proofs.YtjjfpmapjjemcaaGreatW.PrintWords Go.Proofs.YtjjfpmapjjemcaaGreatW.PrintLast Go.Proofs.YtjjfpmapjjemcaaGreatW.PrintMore
attribute [local go_sem] max2_int min2_int max_two min_two max_three min_three max_four min_four
def R223_3.T : Bool × List (List Nat × List Nat):=(true,[([],[]),([0],[0]),([1],[1]),([2],[2]),([],[]),([4],[4]),([],[]),([],[]),([],[]),([8],[8]),([9],[9]),([10],[10]),([],[]),([12],[12]),([11,13],[11,13]),([14],[14]),([7,15],[7,15]),([6,16],[6,16]),([17],[17]),([3,5,0,1,2,3,4,5,6,7,8,9,10,11,12,13,14,15,16,17,18],[3,5]),([19,18,16,0,1,2,3,4,5,6,7,8,9,10,11,12,13,14,15,16,17,18],[18,19])])
def R223_3.B : List Nat:=[0,1,3,7,0,16,0,0,0,256,768,1792,0,4096,16128,32512,65408,131008,262080,524287,1048575]
theorem R223_3.tab : rtab .any (opsOf Tryz.f223 3) = R223_3.T:=by kernel_rfl
theorem R223_3.bits : waitsOk R223_3.T.2 R223_3.B = true:=by kernel_rfl
theorem turnP_none {Y : Yd} {s : S84} (h : ¬ 0 < heldP (pitP Y s.f3)) : turnP Y s = .ok Y:=by unfold turnP;rw [if_neg h]
theorem turnP_sum {Y : Yd} {s : S84} (h : 0 < heldP (pitP Y s.f3)) (h2 : summedP Y.pours (pitP Y s.f3) = none) : turnP Y s = .error 3:=by unfold turnP;rw [if_pos h,h2]
theorem turnP_ok {Y : Yd} {s : S84} (h : 0 < heldP (pitP Y s.f3)) {ps : List S89} (h2 : summedP Y.pours (pitP Y s.f3) = some ps) : turnP Y s = .ok { Y with pits:=Y.pits.set s.f3.toNat [⟨heldP (pitP Y s.f3),ps⟩] }:=by unfold turnP;rw [if_pos h,h2];rfl
set_option maxRecDepth 100000 in
set_option maxHeartbeats 4000000 in
theorem turn_calls {W : World} {base m : Nat} {L : Loc} {Y : Yd} (hY : YardAt W base L Y) (hw : Wf m Y) (hm : m ≤ 60) (s : S84) (step : Int) (h0 : 0 ≤ s.f3) (h1 : s.f3 < Y.rooms.length) :
  Calls Tryz.prog 223 #[.pointer (some ⟨L.g,0,none⟩),.agg #[ii s.f0,ii s.f1,ii s.f2,ii s.f3,ii s.f4,ii s.f5],ii step] W fun e W' => StepPost W base L (turnP Y s) e W':=by
 have hu:=Tryz.underlying84
 obtain ⟨p1,p2,p3,p4⟩:=hw.pitOk h0 h1
 have HY:=am hY
 have HW:=am hw
 have HP1:=am p1
 have HHM:=am (show heldP (pitP Y s.f3) ≤ 4096 by omega)
 have HY1:=am (hY.move (below_alloc (Below.refl W.heap.size W) (.cells #[ii s.f0,ii s.f1,ii s.f2,ii s.f3,ii s.f4,ii s.f5] 84)))
 have HB1:=am (below_alloc (Below.refl W.heap.size W) (.cells #[ii s.f0,ii s.f1,ii s.f2,ii s.f3,ii s.f4,ii s.f5] 84))
 have HX1:=am (blk_new W (.cells #[ii s.f0,ii s.f1,ii s.f2,ii s.f3,ii s.f4,ii s.f5] 84))
 have hbw : base ≤ W.heap.size:=by have:=hY.gLt;omega
 clear hY hw p1 p2 p3 p4
 by_cases hpos : 0 < heldP (pitP Y s.f3)
 ·cases hsm : summedP Y.pours (pitP Y s.f3) with
 |none =>
   have HSM:=am hsm
   clear hsm
   rw [turnP_sum hpos HSM.out]
   go_enter Tryz.func223,Tryz.ntmps223
   go_wp2_with fail
   refine (held_calls HY1.out HW.out s.f3 h0 h1).mono ?_
   rintro e w1 ⟨rfl,hd⟩
   have HB2:=am (below_then HB1.out (below_size HB1.out) hd)
   have HX2:=am (blk_below HX1.out hd)
   have HY2:=am (HY1.out.move hd)
   clear hd
   obtain ⟨A2,c2,y1,y2,y3,y4⟩:=HY2.out.pit_at h0 h1
   have hql : (pitP Y s.f3).length ≤ 4096:=by have:=held_ge HP1.out;have:=HHM.out;omega
   obtain ⟨hh,hhh⟩ : ∃ hh,hh = heldP (pitP Y s.f3):=⟨_,rfl⟩
   rw [← hhh] at hpos ⊢
   have HHE:=am hhh
   clear hhh
   have HPQ:=am HP1.out
   clear HP1 HHM
   obtain ⟨q,hq⟩ : ∃ q,q = pitP Y s.f3:=⟨_,rfl⟩
   rw [← hq] at y1 y2 y3 hql HPQ HSM
   have HQ:=am hq
   have HQL:=am hql
   have HL2:=am y2
   clear hq hql y2
   obtain ⟨ad,had⟩ : ∃ ad : Addr,ad = ⟨L.gp,0,none⟩:=⟨_,rfl⟩
   have HAD:=am had
   have e2 : ad.add s.f3.toNat = ⟨L.gp,s.f3.toNat,none⟩:=by rw [had,add_plain]
   rw [← e2] at y1 y4
   have HPC:=am ((show w1.drew.cell? (ad.add s.f3.toNat) = w1.cell? (ad.add s.f3.toNat) from rfl).trans y1)
   have HX5:=am (blk_drew HX2.out)
   have HY5:=am (HY2.out.move (below_drew (Below.refl _ w1)))
   have HG5:=am (Kd.F_drew y3)
   have HB5:=am (below_drew HB2.out)
   have HE2:=am e2
   clear had e2 y1 y3 y4
   go_wp2
   refine start_ (n:=21) (S:=fun w' => w'.cell? ⟨L.g,1,none⟩ = some (.slice (some ad) Y.rooms.length Y.rooms.length) ∧ w'.cell? ⟨W.heap.size,3,none⟩ = some (ii s.f3) ∧ w'.cell? (ad.add s.f3.toNat) = some (.slice A2 q.length c2)) (ds:=[20]) (ab 21 0) kr rfl kr ⟨(blk_cell HY5.out.blk 1).trans (by rw [HAD.out];rfl),(blk_cell HX5.out 3).trans rfl,HPC.out⟩ (fun hHeld => ?_);refine with_tabW R223_3.tab R223_3.bits (fun HT_ HW_ => ?_)
   generalize (w1).drew = wd at HPC HX5 HY5 HG5 HB5 hHeld ⊢
   refine qA 0 (some 13) ?_;refine qA 1 (some 14) ?_;refine qA 2 (some 15) ?_;refine qT 3 (some 16) ?_;refine qA 4 (some 17) ?_;refine qT 5 (some 18) ?_;refine qA 6 (some 19) ?_;refine qA 7 (some 20) ?_;refine qA 8 (some 21) ?_;refine qA 9 (some 22) ?_;refine qA 10 (some 23) ?_;refine qT 11 (some 24) ?_;refine qA 12 (some 25) ?_;refine qT 13 (some 26) ?_;refine qA 14 (some 27) ?_;refine qT 15 (some 28) ?_
   refine qE 16 (some 29) fun K hK => ?_
   refine goesP_ Tryz.func245 kr rfl #[.pointer (some ⟨L.g,0,none⟩),.slice A2 q.length c2] (by rfl) rfl vn ?_
   refine (callsIn_wide.1 (summed_in 3 (Nat.le_refl 3) HY5.out HW.out.pid HW.out.npours hm A2 c2 q HPQ.out HQL.out (Kd.F_now HG5.out) HL2.out)).mono ?_
   rintro e w5 ⟨hB5,h⟩
   rcases h with ⟨_,rfl⟩|⟨ps,Ap,cp,h,_⟩
   ·exact ⟨_,rfl,rfl,StepPost.err0 HY.out (below_then HB5.out (below_size HB5.out) hB5)⟩
   ·rw [HSM.out] at h;cases h
 |some ps =>
   have HSM:=am hsm
   clear hsm
   rw [turnP_ok hpos HSM.out]
   go_enter Tryz.func223,Tryz.ntmps223
   go_wp2_with fail
   refine (held_calls HY1.out HW.out s.f3 h0 h1).mono ?_
   rintro e w1 ⟨rfl,hd⟩
   have HB2:=am (below_then HB1.out (below_size HB1.out) hd)
   have HX2:=am (blk_below HX1.out hd)
   have HY2:=am (HY1.out.move hd)
   clear hd
   obtain ⟨A2,c2,y1,y2,y3,y4⟩:=HY2.out.pit_at h0 h1
   have hql : (pitP Y s.f3).length ≤ 4096:=by have:=held_ge HP1.out;have:=HHM.out;omega
   obtain ⟨hh,hhh⟩ : ∃ hh,hh = heldP (pitP Y s.f3):=⟨_,rfl⟩
   rw [← hhh] at hpos ⊢
   have HHE:=am hhh
   clear hhh
   have HPQ:=am HP1.out
   clear HP1 HHM
   obtain ⟨q,hq⟩ : ∃ q,q = pitP Y s.f3:=⟨_,rfl⟩
   rw [← hq] at y1 y2 y3 hql HPQ HSM
   have HQ:=am hq
   have HQL:=am hql
   have HL2:=am y2
   clear hq hql y2
   obtain ⟨ad,had⟩ : ∃ ad : Addr,ad = ⟨L.gp,0,none⟩:=⟨_,rfl⟩
   have HAD:=am had
   have e2 : ad.add s.f3.toNat = ⟨L.gp,s.f3.toNat,none⟩:=by rw [had,add_plain]
   rw [← e2] at y1 y4
   have HPC:=am ((show w1.drew.cell? (ad.add s.f3.toNat) = w1.cell? (ad.add s.f3.toNat) from rfl).trans y1)
   have HX5:=am (blk_drew HX2.out)
   have HY5:=am (HY2.out.move (below_drew (Below.refl _ w1)))
   have HG5:=am (Kd.F_drew y3)
   have HB5:=am (below_drew HB2.out)
   have HE2:=am e2
   clear had e2 y1 y3 y4
   go_wp2
   refine start_ (n:=21) (S:=fun w' => w'.cell? ⟨L.g,1,none⟩ = some (.slice (some ad) Y.rooms.length Y.rooms.length) ∧ w'.cell? ⟨W.heap.size,3,none⟩ = some (ii s.f3) ∧ w'.cell? (ad.add s.f3.toNat) = some (.slice A2 q.length c2)) (ds:=[20]) (ab 21 0) kr rfl kr ⟨(blk_cell HY5.out.blk 1).trans (by rw [HAD.out];rfl),(blk_cell HX5.out 3).trans rfl,HPC.out⟩ (fun hHeld => ?_);refine with_tabW R223_3.tab R223_3.bits (fun HT_ HW_ => ?_)
   generalize (w1).drew = wd at HPC HX5 HY5 HG5 HB5 hHeld ⊢
   refine qA 0 (some 13) ?_;refine qA 1 (some 14) ?_;refine qA 2 (some 15) ?_;refine qT 3 (some 16) ?_;refine qA 4 (some 17) ?_;refine qT 5 (some 18) ?_;refine qA 6 (some 19) ?_;refine qA 7 (some 20) ?_;refine qA 8 (some 21) ?_;refine qA 9 (some 22) ?_;refine qA 10 (some 23) ?_;refine qT 11 (some 24) ?_;refine qA 12 (some 25) ?_;refine qT 13 (some 26) ?_;refine qA 14 (some 27) ?_;refine qT 15 (some 28) ?_
   refine qE 16 (some 29) fun K hK => ?_
   refine gC Tryz.func245 #[.pointer (some ⟨L.g,0,none⟩),.slice A2 q.length c2] ?_
   refine (callsIn_wide.1 (summed_in 3 (Nat.le_refl 3) HY5.out HW.out.pid HW.out.npours hm A2 c2 q HPQ.out HQL.out (Kd.F_now HG5.out) HL2.out)).mono ?_
   rintro e w5 ⟨hB5,h⟩
   rcases h with ⟨h,_⟩|⟨ps',Ap,cp,h,rfl,hlp,hFp⟩
   ·rw [HSM.out] at h;cases h
   have hpe : ps = ps':=by rw [HSM.out] at h;injection h
   subst hpe
   have HY6:=am (HY5.out.move hB5)
   have HX6:=am (blk_below HX5.out hB5)
   have HB6:=am (below_then HB5.out (below_size HB5.out) hB5)
   have HPC6:=am (pw_cell_below hB5 HPC.out)
   have HK6:=am (k212_mkF w5 (fun k => wd.heap.size ≤ k) ⟨hh,ps⟩ hlp hFp)
   have HS6:=am hB5.size
   clear hB5 h hlp hFp
   refine ⟨_,rfl,?_⟩
   refine hK.out _ _ ⟨(blk_cell HY6.out.blk 1).trans (by rw [HAD.out];rfl),(blk_cell HX6.out 3).trans rfl,HPC6.out⟩ (fun hHeld => ?_)
   clear hK K
   refine qN (some 29) ?_
   refine qA 17 (some 30) ?_
   refine qE 18 (some 31) fun K hK => ?_
   refine Kd.N_lit_step k212 (w0:=w5) w5.heap.size 212 (by rfl) rfl (xs:=[⟨hh,ps⟩]) (inner:=[ii hh,.slice Ap ps.length cp]) (ok:=L.Not) (okp:=fun k => wd.heap.size ≤ k) ?run ?rep ?ok ?fr (Below.refl _ _) (Nat.le_refl _) (by simp) ?_
   case run => go_simp
   case rep => exact (Reps.none _ _).snoc HK6.out rfl
   case ok => exact fun k hk => HY5.out.not_new hk
   case fr => exact HY6.out.not_new (Nat.le_refl _)
   intro v6 w6 hn6 hb6 hg6 hat6
   obtain ⟨A6,c6,rfl⟩:=Kd.N_slice hn6
   have HY7:=am (HY6.out.move hb6)
   have HX7:=am (blk_below HX6.out hb6)
   have HPC7:=am (pw_cell_below hb6 HPC6.out)
   have hF7:=Kd.N_F hn6
   obtain ⟨s1,s2,s3⟩:=HY7.out.set_pit h0 h1 (Kd.N_reads' hn6).2.1 hF7
   obtain ⟨_,_,z1,_,_,z4⟩:=HY7.out.pit_at h0 h1
   have z5 : w6.frozen? (ad.add s.f3.toNat) = false:=by rw [HE2.out];exact z4
   have z6:=HPC7.out
   have HY8:=am s1
   have HR8:=am ((Fr.of_below L (below_then HB6.out (below_size HB6.out) hb6)).trans s2)
   have HB8:=am (((below_then HB6.out (below_size HB6.out) hb6).mono hbw).trans s3)
   clear hn6 hb6 hg6 hat6 hF7 s1 s2 s3 z1 z4
   refine hK.out _ _ ⟨(blk_cell HY7.out.blk 1).trans (by rw [HAD.out];rfl),(blk_cell HX7.out 3).trans rfl,HPC7.out⟩ (fun hHeld => ?_)
   clear hK K
   refine qN (some 31) ?_
   refine qA 19 (some 32) ?_
   refine qL 20 (none) fun K hK => ?_
   refine skip_ (w1:=?_) (by rfl) rfl ?_ ?_
   rotate_left
   ·go_simp
    rfl
   refine hK.out _ _ ?_
   clear hK K
   refine done_ (done_of HT_.out kr) ?_
   go_wp2
   go_end0
   rw [HE2.out]
   have e0:=HHE.out
   subst e0
   exact StepPost.done HB8.out rfl HR8.out HY8.out
 ·rw [turnP_none hpos]
  go_enter Tryz.func223,Tryz.ntmps223
  go_wp2_with fail
  refine (held_calls HY1.out HW.out s.f3 h0 h1).mono ?_
  rintro e w1 ⟨rfl,hd⟩
  have HB2:=am (below_then HB1.out (below_size HB1.out) hd)
  have HX2:=am (blk_below HX1.out hd)
  have HY2:=am (HY1.out.move hd)
  clear hd
  obtain ⟨hh,hhh⟩ : ∃ hh,hh = heldP (pitP Y s.f3):=⟨_,rfl⟩
  rw [← hhh] at hpos ⊢
  go_wp2
  go_end0
  exact StepPost.done (HB2.out.mono hbw) rfl (Fr.of_below L HB2.out) HY2.out
end Go.Proofs.YtjjfpmapjjemcaaGreat.B
end
