import Derived.Test.YtjjfpmapjjemcaaGreatQ24
import Derived.Test.YtjjfpmapjjemcaaGreatQ30
import Derived.Test.YtjjfpmapjjemcaaGreatQ7
set_option linter.unusedVariables false
set_option linter.unusedSimpArgs false
section
namespace Go.Proofs.YtjjfpmapjjemcaaGreat.B
open Go.RowKit Go.Proofs.YtjjfpmapjjemcaaGreatW.PrintWords Go.Proofs.YtjjfpmapjjemcaaGreatW.PrintLast Go.Proofs.YtjjfpmapjjemcaaGreatW.PrintMore
attribute [local go_sem] max2_int min2_int max_two min_two max_three min_three max_four min_four
def R224_4.T : Bool × List (List Nat × List Nat):=(true,[([],[]),([0],[0]),([1],[1]),([2],[2]),([],[]),([4],[4]),([],[]),([6],[6]),([7],[7]),([8],[8]),([],[]),([10],[10]),([9,11],[9,11]),([12],[12]),([13],[13]),([],[]),([14,15,14],[14,15]),([3,5,0,1,2,3,4,5,6,7,8,9,10,11,12,13,14,15,16],[3,5]),([17,16,16,0,1,2,3,4,5,6,7,8,9,10,11,12,13,14,15,16],[16,17])])
def R224_4.B : List Nat:=[0,1,3,7,0,16,0,64,192,448,0,1024,4032,8128,16320,0,65472,131071,262143]
theorem R224_4.tab : rtab .any (opsOf Tryz.f224 4) = R224_4.T:=by kernel_rfl
theorem R224_4.bits : waitsOk R224_4.T.2 R224_4.B = true:=by kernel_rfl
theorem moveP_little {Y : Yd} {s : S84} (h2 : ¬ s.f5 ≤ heldP (pitP Y s.f3)) : moveP Y s = .error 4:=by unfold moveP;rw [if_neg h2]
theorem moveP_full {Y : Yd} {s : S84} (h2 : s.f5 ≤ heldP (pitP Y s.f3)) (h : ¬ heldP (pitP Y s.f4) + s.f5 ≤ roomP Y s.f4) : moveP Y s = .error 2:=by unfold moveP;rw [if_pos h2,if_neg h]
theorem moveP_ahead {Y : Yd} {s : S84} (h2 : s.f5 ≤ heldP (pitP Y s.f3)) (h : heldP (pitP Y s.f4) + s.f5 ≤ roomP Y s.f4) (h3 : aheadP (pitP Y s.f3) s.f5 = none) : moveP Y s = .error 3:=by unfold moveP;rw [if_pos h2,if_pos h,h3]
theorem moveP_ok {Y : Yd} {s : S84} (h2 : s.f5 ≤ heldP (pitP Y s.f3)) (h : heldP (pitP Y s.f4) + s.f5 ≤ roomP Y s.f4) {a b : List S212} (h3 : aheadP (pitP Y s.f3) s.f5 = some (a,b)) : moveP Y s = .ok { Y with pits:=(Y.pits.set s.f3.toNat b).set s.f4.toNat ((Y.pits.set s.f3.toNat b).getD s.f4.toNat [] ++ a) }:=by unfold moveP;rw [if_pos h2,if_pos h,h3]
set_option maxRecDepth 100000 in
set_option maxHeartbeats 4000000 in
theorem move_calls {W : World} {base m : Nat} {L : Loc} {Y : Yd} (hY : YardAt W base L Y) (hw : Wf m Y) (hm : m ≤ 60) (s : S84) (step : Int) (h0 : 0 ≤ s.f3) (h1 : s.f3 < Y.rooms.length) (hn1 : 1 ≤ s.f5) (hn2 : s.f5 ≤ 1000) (t0 : 0 ≤ s.f4) (t1 : s.f4 < Y.rooms.length) (hne : s.f4 ≠ s.f3) :
  Calls Tryz.prog 224 #[.pointer (some ⟨L.g,0,none⟩),.agg #[ii s.f0,ii s.f1,ii s.f2,ii s.f3,ii s.f4,ii s.f5],ii step] W fun e W' => StepPost W base L (moveP Y s) e W':=by
 have hu:=Tryz.underlying84
 obtain ⟨p1,p2,p3,p4⟩:=hw.pitOk h0 h1
 have HY:=am hY
 have HW:=am hw
 have HP1:=am p1
 have HY1:=am (hY.move (below_alloc (Below.refl W.heap.size W) (.cells #[ii s.f0,ii s.f1,ii s.f2,ii s.f3,ii s.f4,ii s.f5] 84)))
 have HB1:=am (below_alloc (Below.refl W.heap.size W) (.cells #[ii s.f0,ii s.f1,ii s.f2,ii s.f3,ii s.f4,ii s.f5] 84))
 have HX1:=am (blk_new W (.cells #[ii s.f0,ii s.f1,ii s.f2,ii s.f3,ii s.f4,ii s.f5] 84))
 have HNX:=am (hY.not_new (Nat.le_refl W.heap.size))
 have hbw : base ≤ W.heap.size:=by have:=hY.gLt;omega
 clear hY hw p1 p2 p3 p4
 by_cases hen : s.f5 ≤ heldP (pitP Y s.f3)
 ·have HEN:=am hen
  clear hen
  by_cases hro : heldP (pitP Y s.f4) + s.f5 ≤ roomP Y s.f4
  ·have HRO:=am hro
   clear hro
   cases hah : aheadP (pitP Y s.f3) s.f5 with
  |none =>
    have HAH:=am hah
    clear hah
    rw [moveP_ahead HEN.out HRO.out HAH.out]
    go_enter Tryz.func224,Tryz.ntmps224
    go_wp2_with fail
    refine (enough_calls HY1.out HW.out s h0 h1).mono ?_
    rintro e w1 ⟨rfl,hd⟩
    rw [show enoughE Y s.f3 s.f5 = .returned (.tuple #[]) from if_pos HEN.out]
    have HB2:=am (below_then HB1.out (below_size HB1.out) hd)
    have HX2:=am (blk_below HX1.out hd)
    have HY2:=am (HY1.out.move hd)
    clear hd
    have g0a:=bd HX2.out 0
    have g1a:=bd HX2.out 1
    have g2a:=bd HX2.out 2
    have g3a:=bd HX2.out 3
    have g4a:=bd HX2.out 4
    have g5a:=bd HX2.out 5
    go_wp2_with fail
    refine (room_calls HY2.out HW.out s.f4 s.f5 t0 t1 (by omega) hn2).mono ?_
    rintro e w2 ⟨rfl,hd⟩
    rw [show roomE Y s.f4 s.f5 = .returned (.tuple #[]) from if_pos HRO.out]
    have HB3:=am (below_then HB2.out (below_size HB2.out) hd)
    have HX3:=am (blk_below HX2.out hd)
    have HY3:=am (HY2.out.move hd)
    clear hd g0a g1a g2a g3a g4a g5a
    have g0b:=bd HX3.out 0
    have g1b:=bd HX3.out 1
    have g2b:=bd HX3.out 2
    have g3b:=bd HX3.out 3
    have g4b:=bd HX3.out 4
    have g5b:=bd HX3.out 5
    go_wp2_with fail
    refine (ahead_calls HY3.out HW.out s.f3 s.f5 h0 h1 hn1 hn2 HEN.out).mono ?_
    rintro e w3 ⟨hd,h⟩
    rcases h with ⟨_,rfl,hd2⟩|⟨a,b,A,c,h,_⟩
    ·have HD:=am hd2
     clear hd hd2
     unfold Pan
     go_wp2
     exact ⟨rfl,StepPost.err0 HY.out (below_then HB3.out (below_size HB3.out) HD.out)⟩
    ·rw [HAH.out] at h;cases h
  |some x =>
    obtain ⟨a,b⟩:=x
    have HAH:=am hah
    clear hah
    have hsp:=aheadP_spec Y.pours (pitP Y s.f3) s.f5 HP1.out (by omega) HEN.out a b HAH.out
    have HLA:=am (show a.length ≤ 4096 by have:=held_ge hsp.1;have:=hsp.2.2.1;omega)
    clear hsp
    rw [moveP_ok HEN.out HRO.out HAH.out]
    go_enter Tryz.func224,Tryz.ntmps224
    go_wp2_with fail
    refine (enough_calls HY1.out HW.out s h0 h1).mono ?_
    rintro e w1 ⟨rfl,hd⟩
    rw [show enoughE Y s.f3 s.f5 = .returned (.tuple #[]) from if_pos HEN.out]
    have HB2:=am (below_then HB1.out (below_size HB1.out) hd)
    have HX2:=am (blk_below HX1.out hd)
    have HY2:=am (HY1.out.move hd)
    clear hd
    have g0a:=bd HX2.out 0
    have g1a:=bd HX2.out 1
    have g2a:=bd HX2.out 2
    have g3a:=bd HX2.out 3
    have g4a:=bd HX2.out 4
    have g5a:=bd HX2.out 5
    go_wp2_with fail
    refine (room_calls HY2.out HW.out s.f4 s.f5 t0 t1 (by omega) hn2).mono ?_
    rintro e w2 ⟨rfl,hd⟩
    rw [show roomE Y s.f4 s.f5 = .returned (.tuple #[]) from if_pos HRO.out]
    have HB3:=am (below_then HB2.out (below_size HB2.out) hd)
    have HX3:=am (blk_below HX2.out hd)
    have HY3:=am (HY2.out.move hd)
    clear hd g0a g1a g2a g3a g4a g5a
    have g0b:=bd HX3.out 0
    have g1b:=bd HX3.out 1
    have g2b:=bd HX3.out 2
    have g3b:=bd HX3.out 3
    have g4b:=bd HX3.out 4
    have g5b:=bd HX3.out 5
    go_wp2_with fail
    refine (ahead_calls HY3.out HW.out s.f3 s.f5 h0 h1 hn1 hn2 HEN.out).mono ?_
    rintro e w3 ⟨hd,h⟩
    rcases h with ⟨h,_⟩|⟨a',b',A,c,h,rfl,hlc,hY4,hfr,hFa⟩
    ·rw [HAH.out] at h;cases h
    rw [HAH.out] at h
    injection h with h
    injection h with ha hb
    subst ha
    subst hb
    have HX4:=am ((hfr.keep W.heap.size (blk_lt HX3.out) HNX.out).1.trans HX3.out)
    have HY4:=am hY4
    have HF4:=am hFa
    have HR4:=am ((Fr.of_below L HB3.out).trans hfr)
    have HB4:=am ((HB3.out.mono hbw).trans hd)
    have HLC:=am hlc
    clear hd hlc hY4 hfr hFa g0b g1b g2b g3b g4b g5b
    obtain ⟨A2,c2,y1,y2,y3,y4⟩:=HY4.out.pit_at t0 t1
    obtain ⟨q,hq⟩ : ∃ q,q = pitP ({ Y with pits:=Y.pits.set s.f3.toNat b } : Yd) s.f4:=⟨_,rfl⟩
    rw [← hq] at y1 y2 y3
    have hql : q.length ≤ 4096:=by
     have e : q = pitP Y s.f4:=by
      rw [hq]
      unfold pitP
      rw [List.getD_eq_getElem?_getD,List.getD_eq_getElem?_getD,List.getElem?_set_ne (by omega)]
     obtain ⟨p1,p2,p3,p4⟩:=HW.out.pitOk t0 t1
     have:=held_ge p1
     rw [e]
     omega
    have HQ:=am hq
    have HQL:=am hql
    have HL2:=am y2
    clear hq hql y2
    obtain ⟨ad,had⟩ : ∃ ad : Addr,ad = ⟨L.gp,0,none⟩:=⟨_,rfl⟩
    have HAD:=am had
    have e2 : ad.add s.f4.toNat = ⟨L.gp,s.f4.toNat,none⟩:=by rw [had,add_plain]
    rw [← e2] at y1 y4
    have HPC:=am ((show w3.drew.cell? (ad.add s.f4.toNat) = w3.cell? (ad.add s.f4.toNat) from rfl).trans y1)
    have HX5:=am (blk_drew HX4.out)
    have HY5:=am (HY4.out.move (below_drew (Below.refl _ w3)))
    have HF5:=am (Kd.F_drew HF4.out)
    have HG5:=am (Kd.F_drew y3)
    have HR5:=am (HR4.out.trans (Fr.of_below L (below_drew (Below.refl _ w3))))
    have HB5:=am (below_drew HB4.out)
    have HE2:=am e2
    clear had e2 y1 y3 y4
    go_wp2
    refine start_ (n:=19) (S:=fun w' => w'.cell? ⟨L.g,1,none⟩ = some (.slice (some ad) Y.rooms.length Y.rooms.length) ∧ w'.cell? ⟨W.heap.size,4,none⟩ = some (ii s.f4) ∧ w'.cell? (ad.add s.f4.toNat) = some (.slice A2 q.length c2)) (ds:=[18]) (ab 19 0) kr rfl kr ⟨(blk_cell HY5.out.blk 1).trans (by rw [HAD.out];rfl),(blk_cell HX5.out 4).trans rfl,HPC.out⟩ (fun hHeld => ?_);refine with_tabW R224_4.tab R224_4.bits (fun HT_ HW_ => ?_)
    generalize (w3).drew = wd at HPC HX5 HY5 HF5 HG5 HR5 HB5 hHeld ⊢
    refine qA 0 (some 22) ?_;refine qA 1 (some 23) ?_;refine qA 2 (some 24) ?_;refine qT 3 (some 25) ?_;refine qA 4 (some 26) ?_;refine qT 5 (some 27) ?_;refine qA 6 (some 28) ?_;refine qA 7 (some 29) ?_;refine qA 8 (some 30) ?_;refine qT 9 (some 31) ?_;refine qA 10 (some 32) ?_;refine qT 11 (some 33) ?_;refine qA 12 (some 34) ?_;refine qT 13 (some 35) ?_;refine qA 15 (some 37) ?_
    refine qE 14 (some 36) fun K hK => ?_
    refine gC Tryz.func242 #[.slice A2 q.length c2] ?_
    refine (clone242_calls A2 c2 q _ L.Not HG5.out HL2.out (by have:=HQL.out;omega)).mono ?_
    rintro e w5 ⟨v,rfl,hB5,hRv⟩
    obtain ⟨A5,c5,rfl⟩:=Kd.R_slice hRv
    have HY6:=am (HY5.out.move hB5)
    have HX6:=am (blk_below HX5.out hB5)
    have HD6:=am hB5
    have HV6:=am hRv
    have HPC6:=am (pw_cell_below hB5 HPC.out)
    have HRW:=am (ReadsRow.imp_ (Kd.F_rows HF5.out) HD6.out (fun _ _ h => h))
    clear hB5 hRv
    refine ⟨_,rfl,?_⟩
    refine hK.out _ _ ⟨(blk_cell HY6.out.blk 1).trans (by rw [HAD.out];rfl),(blk_cell HX6.out 4).trans rfl,HPC6.out⟩ (fun hHeld => ?_)
    clear hK K
    refine qN (some 36) ?_
    refine qE 16 (some 38) fun K hK => ?_
    refine Kd.R_append_rows_step (ft k212 wd L.Not) (Rr:=fun x c => Kd.FK k212 wd L.Not x c) (w0:=wd) wd.heap.size (by rfl) (.tmp 36) (.tmp 37) 131 212 (.agg #[ii 0,.slice none 0 0]) 32 rfl Tryz.underlying131 info212 rfl (by show 0 < (k212 : Kd _).sz;decide) (by decide) (.slice A5 q.length c5) q a A a.length c (fun _ => True) (fun k => some k ≠ (Value.slice A5 q.length c5).ownBlock) rfl rfl HV6.out HRW.out (fun _ _ h => h) (fun k hk => ⟨trivial,hk⟩) (fun _ _ => trivial) HD6.out HD6.out.size ?aL ?_
    case aL => have:=HQL.out;have:=HLA.out;omega
    intro v1 w7 hr hb hg hat
    obtain ⟨A7,c7,rfl⟩:=Kd.R_slice hr
    have HV7:=am (Kd.R_reads' hr).2.1
    rw [List.length_append] at hr hat ⊢
    have HY7:=am (HY5.out.move hb)
    have HX7:=am (blk_below HX5.out hb)
    have HPC7:=am (pw_cell_below hb HPC.out)
    have hF7 : Kd.F k212 w7 L.Not A7 (q ++ a).length (q ++ a):=by
     rw [List.length_append]
     exact ft_F hr (fun k _ hlt => hb.block k hlt) (fun k hk => HY5.out.not_new (Kd.R_base hr k hk))
    obtain ⟨s1,s2,s3⟩:=HY7.out.set_pit t0 t1 HV7.out hF7
    obtain ⟨_,_,z1,_,_,z4⟩:=HY7.out.pit_at t0 t1
    rw [List.length_append] at s1 s2 s3
    have z5 : w7.frozen? (ad.add s.f4.toNat) = false:=by rw [HE2.out];exact z4
    have z6:=HPC7.out
    have HY8:=am s1
    have HR8:=am ((HR5.out.trans (Fr.of_below L hb)).trans s2)
    have HB8:=am ((HB5.out.trans (hb.mono (Nat.le_trans hbw HB5.out.size))).trans s3)
    clear hr hb hg hat hF7 s1 s2 s3 z1 z4
    refine hK.out _ _ ⟨(blk_cell HY7.out.blk 1).trans (by rw [HAD.out];rfl),(blk_cell HX7.out 4).trans rfl,HPC7.out⟩ (fun hHeld => ?_)
    clear hK K
    refine qN (some 38) ?_
    refine qA 17 (some 39) ?_
    refine qL 18 (none) fun K hK => ?_
    refine skip_ (w1:=?_) (by rfl) rfl ?_ ?_
    rotate_left
    ·go_simp
     rfl
    refine hK.out _ _ ?_
    clear hK K
    refine done_ (done_of HT_.out kr) ?_
    go_wp2
    go_end0
    rw [HE2.out]
    rw [HQ.out] at HB8 HR8 HY8 ⊢
    exact StepPost.done HB8.out rfl HR8.out HY8.out
  ·have HRO:=am hro
   clear hro
   rw [moveP_full HEN.out (by have:=HRO.out;omega)]
   go_enter Tryz.func224,Tryz.ntmps224
   go_wp2_with fail
   refine (enough_calls HY1.out HW.out s h0 h1).mono ?_
   rintro e w1 ⟨rfl,hd⟩
   rw [show enoughE Y s.f3 s.f5 = .returned (.tuple #[]) from if_pos HEN.out]
   have HB2:=am (below_then HB1.out (below_size HB1.out) hd)
   have HX2:=am (blk_below HX1.out hd)
   have HY2:=am (HY1.out.move hd)
   clear hd
   have g0a:=bd HX2.out 0
   have g1a:=bd HX2.out 1
   have g2a:=bd HX2.out 2
   have g3a:=bd HX2.out 3
   have g4a:=bd HX2.out 4
   have g5a:=bd HX2.out 5
   go_wp2_with fail
   refine (room_calls HY2.out HW.out s.f4 s.f5 t0 t1 (by omega) hn2).mono ?_
   rintro e w2 ⟨rfl,hd⟩
   rw [show roomE Y s.f4 s.f5 = Pan 2 from if_neg (by have:=HRO.out;omega)]
   have HD:=am hd
   clear hd
   unfold Pan
   go_wp2
   exact ⟨rfl,StepPost.err0 HY.out (below_then HB2.out (below_size HB2.out) HD.out)⟩
 ·have HEN:=am hen
  clear hen
  rw [moveP_little (by have:=HEN.out;omega)]
  go_enter Tryz.func224,Tryz.ntmps224
  go_wp2_with fail
  refine (enough_calls HY1.out HW.out s h0 h1).mono ?_
  rintro e w1 ⟨rfl,hd⟩
  rw [show enoughE Y s.f3 s.f5 = Pan 4 from if_neg (by have:=HEN.out;omega)]
  have HD:=am hd
  clear hd
  unfold Pan
  go_wp2
  exact ⟨rfl,StepPost.err0 HY.out (below_then HB1.out (below_size HB1.out) HD.out)⟩
end Go.Proofs.YtjjfpmapjjemcaaGreat.B
end
