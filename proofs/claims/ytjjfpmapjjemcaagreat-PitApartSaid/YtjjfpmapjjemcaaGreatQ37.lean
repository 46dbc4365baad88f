import Derived.Test.YtjjfpmapjjemcaaGreatQ24
import Derived.Test.YtjjfpmapjjemcaaGreatQ30
import Derived.Test.YtjjfpmapjjemcaaGreatQ35
import Derived.Test.YtjjfpmapjjemcaaGreatQ7
set_option linter.unusedVariables false
set_option linter.unusedSimpArgs false
section
namespace Go.Proofs.YtjjfpmapjjemcaaGreat.B
open Go.RowKit Go.Proofs.YtjjfpmapjjemcaaGreatW.PrintWords Go.Proofs.YtjjfpmapjjemcaaGreatW.PrintLast Go.Proofs.YtjjfpmapjjemcaaGreatW.PrintMore
attribute [local go_sem] max2_int min2_int max_two min_two max_three min_three max_four min_four
def R135_5.T : Bool × List (List Nat × List Nat):=(true,[([],[]),([],[]),([1],[1]),([],[]),([3],[3]),([4],[4]),([2,5],[2,5]),([6],[6]),([0,7,5],[0,7]),([8,8,0,1,2,3,4,5,6,7,8],[0,8])])
def R135_5.B : List Nat:=[0,0,2,0,8,24,62,126,255,511]
theorem R135_5.tab : rtab .any (opsOf Tryz.f135 5) = R135_5.T:=by kernel_rfl
theorem R135_5.bits : waitsOk R135_5.T.2 R135_5.B = true:=by kernel_rfl
theorem heap89 : Kd.Heap k89:=Kd.heap_iso _ (Kd.heap_pair (Kd.heap_int _) (Kd.heap_iso _ (Kd.heap_pair (Kd.heap_int _) (Kd.heap_int _))))
theorem R89_of_ft {W w : World} {okf ok : Nat → Prop} {N : Nat} {v : Value} {l : List S89} (h : (ft k89 W okf).R 89 w N ok v l) : k89.R 89 w N ok v l :=
 ⟨h.1,h.2.imp_ (fun x cs (hp : Kd.FK k89 W okf x cs) => by
  obtain rfl:=k89_open (Foot.now hp)
  exact k89_mkM _ _ _ x)⟩
theorem rd212_take {l : List S212} {j : Nat} (h : j < l.length) : l.take (j + 1) = l.take j ++ [rd_T212 l (j : Int)]:=by
 rw [List.take_succ_eq_append_getElem h]
 unfold rd_T212
 rw [Int.toNat_natCast,List.getD_eq_getElem?_getD,List.getElem?_eq_getElem h]
 rfl
set_option maxRecDepth 100000 in
set_option maxHeartbeats 2000000 in
theorem copied_calls (A : Option Addr) (c : Nat) (l : List S212) (W : World) (hr : Kd.C k212 W A l.length l) (hc : l.length ≤ c) (hlen : l.length ≤ 100000000) (hlx : ∀ x ∈ l,x.f1.length ≤ 100) :
  Calls Tryz.prog 135 #[.slice A l.length c] W fun e W' => ∃ v,e = .returned v ∧ Below W.heap.size W W' ∧ k212.R 212 W' W.heap.size (fun _ => True) v l:=by
 have hmx:=hr.2.1
 have HLX:=am hlx
 have HLN:=am hlen
 have HC:=am (hr)
 clear hr hlx hlen
 go_enter Tryz.func135,Tryz.ntmps135
 go_wp2
 go_loopw [3,8] (fun v3 v8 wr => ∃ (j : Nat),j ≤ l.length ∧ v8 = ii (j : Int) ∧ Aside0 (Below W.heap.size W wr) ∧ Aside0 (k212.R 212 wr W.heap.size (fun _ => True) v3 (l.take j))) (fun _ v8 _ => l.length - (intOf v8).toNat)
 case atStart => exact ⟨0,Nat.zero_le _,rfl,⟨Below.refl _ _⟩,⟨Kd.R_nil _ _ _ _ _⟩⟩
 case round =>
  obtain ⟨j,hj,rfl,HN,HV⟩:=hrel
  obtain ⟨q,hq⟩ : ∃ q,q = l.take j:=⟨_,rfl⟩
  rw [← hq] at HV
  have HQ:=am hq
  clear hq
  obtain ⟨A3,c3,rfl⟩:=Kd.R_slice HV.out
  by_cases hlt : j < l.length
  ·
   have HC1:=am (Kd.C_below HC.out HN.out)
   have hx':=at_T212 HC1.out (j : Int) (by omega) (by omega)
   obtain ⟨ae,A1,c1,e,hx0,hx1,hl1,hC1⟩:=hx'
   cases e
   rw [Int.toNat_natCast] at hx0 hx1
   have HXM:=am (show rd_T212 l (j : Int) ∈ l from getD_mem_ hlt)
   obtain ⟨x,hx⟩ : ∃ x,x = rd_T212 l (j : Int):=⟨_,rfl⟩
   rw [← hx] at hx0 hx1 hl1 hC1 HXM
   have HXX:=am hx
   have HL1:=am hl1
   have HXL:=am (HLX.out x HXM.out)
   have H1:=am (hC1)
   clear hx hl1 hC1
   have HV1:=am (Kd.R_alloc HV.out (.cells #[ii x.f0,.slice A1 x.f1.length c1] 212))
   have HN1:=am (below_alloc HN.out (.cells #[ii x.f0,.slice A1 x.f1.length c1] 212))
   have H11:=am (Kd.C_alloc H1.out (.cells #[ii x.f0,.slice A1 x.f1.length c1] 212))
   have HX:=am (blk_new wr (.cells #[ii x.f0,.slice A1 x.f1.length c1] 212))
   have HV2:=am (Kd.R_drew HV1.out)
   have HN2:=am (below_drew HN1.out)
   have H12:=am (Kd.C_drew H11.out)
   have HX1:=am (blk_drew HX.out)
   go_wp2
   clear hx0 hx1
   refine start_ (n:=10) (S:=fun w' => w'.cell? ⟨wr.heap.size,0,none⟩ = some (ii x.f0) ∧ w'.cell? ⟨wr.heap.size,1,none⟩ = some (.slice A1 x.f1.length c1)) (ds:=[]) (ab 10 0) kr rfl kr ⟨(blk_cell HX1.out 0).trans rfl,(blk_cell HX1.out 1).trans rfl⟩ (fun hHeld => ?_);refine with_tabW R135_5.tab R135_5.bits (fun HT_ HW_ => ?_)
   generalize ((wr.alloc (.cells #[ii x.f0,.slice A1 x.f1.length c1] 212))).drew = wd at HV2 HN2 H12 HX1 hHeld ⊢
   refine qA 0 (some 12) ?_;refine qA 1 (some 13) ?_;refine qT 2 (some 14) ?_;refine qA 3 (some 15) ?_;refine qT 4 (some 16) ?_
   refine qE 5 (some 17) fun K hK => ?_
   refine gC Tryz.func97 #[.slice A1 x.f1.length c1] ?_
   refine (clone97_calls A1 c1 x.f1 _ (fun k => k < wd.heap.size) (Kd.C_F heap89 H12.out) HL1.out (by have:=HXL.out;omega)).mono ?_
   rintro e w2 ⟨v5,rfl,hb,hR5⟩
   have HOW:=am (fun k hk => Kd.R_lt HV2.out k hk)
   have HV3:=am (Kd.R_below HV2.out hb)
   have HN3:=am (below_then HN2.out (below_size HN2.out) hb)
   have HX2:=am (blk_below HX1.out hb)
   obtain ⟨A5,c5,rfl⟩:=Kd.R_slice hR5
   have H5:=am (Kd.R_lower (Kd.R_mono (Kd.R_bound (R89_of_ft hR5)) (ok':=fun k => wd.heap.size ≤ k) (fun k hk => hk.2.1)) (below_size HN2.out))
   clear hb hR5
   refine ⟨_,rfl,?_⟩
   refine hK.out _ _ ⟨(blk_cell HX2.out 0).trans rfl,(blk_cell HX2.out 1).trans rfl⟩ (fun hHeld => ?_)
   clear hK K
   refine qN (some 17) ?_
   refine qA 6 (some 18) ?_
   refine qE 7 (some 19) fun K hK => ?_
   refine value_ (w1:=?_) (v:=?_) (by rfl) rfl ?_ ?_
   rotate_left 2
   ·go_simp
    constructor
    ·rfl
    ·rfl
   have HX3:=am (blk_alloc HX2.out (.cells #[ii x.f0,.slice A5 x.f1.length c5] 212))
   refine hK.out _ _ ⟨(blk_cell HX3.out 0).trans rfl,(blk_cell HX3.out 1).trans rfl⟩ (fun hHeld => ?_)
   clear hK K
   refine qN (some 19) ?_
   refine qE 8 (some 20) fun K hK => ?_
   have hql : q.length = j:=by rw [HQ.out,List.length_take];omega
   refine Kd.R_append_step k212 (w0:=W) (W:=w2) W.heap.size (by rfl) (.tmp 12) (.tmp 19) 131 212 (.agg #[ii 0,.slice none 0 0]) 32 rfl Tryz.underlying131 info212 rfl (by show 0 < (k212 : Kd _).sz;decide) (by decide) (.slice A3 q.length c3) q x [ii x.f0,.slice A5 x.f1.length c5] (fun _ => True) (fun k => wd.heap.size ≤ k) rfl rfl (k212_mkM _ _ _ x H5.out) (fun k hk => ⟨trivial,fun e => by have:=HOW.out k e.symm;omega⟩) (fun _ _ => trivial) HV3.out HN3.out (below_size HN3.out) (by have:=HLN.out;omega) ?_
   intro v1 w5 hr5 hb5 hg5 hat5
   obtain ⟨A7,c7,rfl⟩:=Kd.R_slice hr5
   have hqz : (q ++ [x]).length = j + 1:=by rw [List.length_append,List.length_singleton,hql]
   rw [hqz] at hr5 ⊢
   clear hqz
   have HR7:=am hr5
   have HB7:=am hb5
   have HSP:=am (show w5.cell? ⟨wr.heap.size,0,none⟩ = some (ii x.f0) ∧ w5.cell? ⟨wr.heap.size,1,none⟩ = some (.slice A1 x.f1.length c1) from by
    have hblk:=(hg5.block wr.heap.size (blk_lt HX2.out) (fun e => by have h1:=Kd.R_lt HV.out _ e.symm;omega)).trans HX2.out
    exact ⟨(blk_cell hblk 0).trans rfl,(blk_cell hblk 1).trans rfl⟩)
   clear hr5 hb5 hg5 hat5
   refine hK.out _ _ HSP.out (fun hHeld => ?_)
   clear hK K
   refine qN (some 20) ?_
   refine qA 9 (some 3) ?_
   refine done_ (done_of HT_.out kr) ?_
   go_wp2
   go_roundw
   case rel => exact ⟨j + 1,by omega,by go_num,HB7,⟨by rw [rd212_take hlt,← HXX.out,← HQ.out];exact HR7.out⟩⟩
   case measure => simp [intOf];omega
  ·
   have hje : j = l.length:=by omega
   subst hje
   have hqe : q = l:=by rw [HQ.out,List.take_length]
   go_wp2
   go_ret
   exact ⟨_,rfl,HN.out,by rw [← hqe];exact HV.out⟩
def contentE (rooms : List Int) (stirs : List S84) (pit step : Int) : List S212 × Int:=match playedP rooms stirs stirs.length with
|.error x => ([],x.1)
|.ok _ => if (inP pit 0 ((rooms.length : Int) - 1) && inP step 0 (stirs.length : Int)) = true then (match playedP rooms stirs step.toNat with
  |.error x => ([],x.1)
  |.ok Y => (pitP Y pit,0))
  else ([],1)
def ContPost (W : World) (q : List S212 × Int) (e : Ending) (W' : World) : Prop:=Below W.heap.size W W' ∧ ∃ v,e = .returned (.tuple #[v,ii q.2]) ∧ k212.R 212 W' W.heap.size (fun _ => True) v q.1
set_option maxRecDepth 100000 in
set_option maxHeartbeats 2000000 in
theorem content_calls (A A2 : Option Addr) (c c2 : Nat) (rooms : List Int) (stirs : List S84) (W : World) (lo : Nat) (hlo : lo ≤ W.heap.size) (hC : Kd.F (Kd.int .i64) W (fun k => k < lo) A rooms.length rooms) (hc : rooms.length ≤ c) (hS : Kd.C k84 W A2 stirs.length stirs) (hc2 : stirs.length ≤ c2) (pit step : Int) :
  Calls Tryz.prog 64 #[.agg #[.slice A rooms.length c,.slice A2 stirs.length c2],ii pit,ii step] W fun e W' => ContPost W (contentE rooms stirs pit step) e W':=by
 have hu:=Tryz.underlying32
 have HC:=am (hC)
 have HS:=am (hS)
 have HB:=am (Below.refl W.heap.size W)
 have HC1:=am (Kd.F_alloc HC.out (.cells #[.slice A rooms.length c,.slice A2 stirs.length c2] 32))
 have HS1:=am (Kd.C_alloc HS.out (.cells #[.slice A rooms.length c,.slice A2 stirs.length c2] 32))
 have HB1:=am (below_alloc HB.out (.cells #[.slice A rooms.length c,.slice A2 stirs.length c2] 32))
 clear hC hS
 obtain ⟨r,hr⟩ : ∃ r,r = playedP rooms stirs stirs.length:=⟨_,rfl⟩
 have HQP:=am hr.symm
 clear hr
 obtain ⟨q,hq⟩ : ∃ q,q = contentE rooms stirs pit step:=⟨_,rfl⟩
 rw [← hq]
 have HQ:=am hq
 clear hq
 go_enter Tryz.func64,Tryz.ntmps64
 go_wp2_with fail
 refine (behind_calls A A2 c c2 rooms stirs _ lo (Nat.le_trans hlo (by simp)) HC1.out hc HS1.out hc2 pit step).mono ?_
 rintro e w1 ⟨hb,h⟩
 rw [HQP.out] at h
 have HB2:=am (below_then HB1.out (below_size HB1.out) hb)
 clear hb
 cases r with
|error x =>
  subst h
  have hx : ¬ x.1 = 0:=playedP_code HQP.out
  have HE:=am (show q = ([],x.1) by rw [HQ.out];unfold contentE;rw [HQP.out];try rfl)
  go_wp2
  rw [HE.out]
  go_ret2
  exact ⟨HB2.out,_,rfl,Kd.R_nil _ _ _ _ _⟩
|ok Y =>
  dsimp only at h
  by_cases hin : (inP pit 0 ((rooms.length : Int) - 1) && inP step 0 (stirs.length : Int)) = true
  ·
   rw [if_pos hin] at h
   have HIN:=am hin
   obtain ⟨Y2,L,base,hp2,hbase,hbad,rfl,hY⟩:=h
   have HWF:=am (played_ok hp2).2.2.1
   have HRM:=am (played_ok hp2).2.2.2
   have HE:=am (show q = (pitP Y2 pit,0) by rw [HQ.out];unfold contentE;rw [HQP.out];dsimp only;rw [if_pos HIN.out,hp2])
   have h01 : 0 ≤ pit ∧ pit < (rooms.length : Int):=by
    have h1:=(Bool.and_eq_true_iff.1 hin).1
    unfold inP at h1
    have:=of_decide_eq_true h1
    omega
   obtain ⟨h0,h1⟩:=h01
   clear hin
   have h1' : pit < (Y2.rooms.length : Int):=by rw [HRM.out];exact h1
   obtain ⟨A6,c6,z1,z2,z3,z4⟩:=hY.pit_at h0 h1'
   have HP6:=am (show Kd.C k212 w1 A6 (pitP Y2 pit).length (pitP Y2 pit) from Kd.F_now z3)
   have HL6:=am z2
   have hyb:=bd hY.blk 1
   obtain ⟨n,hn⟩ : ∃ n,n = Y2.rooms.length:=⟨_,rfl⟩
   rw [← hn] at hyb h1'
   obtain ⟨p1,p2,p3,p4⟩:=HWF.out.pitOk h0 (by rw [← hn];exact h1')
   have HPL:=am (show (pitP Y2 pit).length ≤ 100000000 by have:=held_ge p1;omega)
   have HPX:=am (show ∀ x ∈ pitP Y2 pit,x.f1.length ≤ 100 from fun x hx => by have:=(p1 x hx).len;omega)
   obtain ⟨m,hm⟩ : ∃ m,m = pitP Y2 pit:=⟨_,rfl⟩
   rw [← hm] at HP6 HL6 HPL HPX HE z1
   clear hm hn p1 p2 p3 p4 z2 z3 z4 hY hbase hbad hp2 h1
   obtain ⟨ad,had⟩ : ∃ ad : Addr,ad = ⟨L.gp,0,none⟩:=⟨_,rfl⟩
   have e2 : ad.add pit.toNat = ⟨L.gp,pit.toNat,none⟩:=by rw [had,add_plain]
   rw [← e2] at z1
   rw [← had] at hyb
   clear had e2
   go_wp2_with fail
   refine (copied_calls A6 c6 m w1 HP6.out HL6.out HPL.out HPX.out).mono ?_
   rintro e w2 ⟨v,rfl,hb,hR⟩
   have HSW:=am (below_size HB2.out)
   have HB3:=am (below_then HB2.out (below_size HB2.out) hb)
   have HV:=am (Kd.R_lower hR HSW.out)
   clear hb hR hyb z1
   go_wp2
   rw [HE.out]
   go_ret2
   exact ⟨HB3.out,_,rfl,HV.out⟩
  ·
   rw [if_neg hin] at h
   subst h
   have HIN:=am hin
   clear hin
   have HE:=am (show q = ([],1) by rw [HQ.out];unfold contentE;rw [HQP.out];dsimp only;rw [if_neg HIN.out])
   go_wp2
   rw [HE.out]
   go_ret2
   exact ⟨HB2.out,_,rfl,Kd.R_nil _ _ _ _ _⟩
end Go.Proofs.YtjjfpmapjjemcaaGreat.B
end
