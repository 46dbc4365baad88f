import Derived.Test.YtjjfpmapjjemcaaGreatQ31
import Derived.Test.YtjjfpmapjjemcaaGreatQ7
set_option linter.unusedVariables false
set_option linter.unusedSimpArgs false
section
namespace Go.Proofs.YtjjfpmapjjemcaaGreat.B
open Go.RowKit Go.Proofs.YtjjfpmapjjemcaaGreatW.PrintWords Go.Proofs.YtjjfpmapjjemcaaGreatW.PrintLast Go.Proofs.YtjjfpmapjjemcaaGreatW.PrintMore
attribute [local go_sem] max2_int min2_int max_two min_two max_three min_three max_four min_four
set_option maxRecDepth 100000 in
set_option maxHeartbeats 2000000 in
theorem share_calls (A A2 : Option Addr) (c c2 : Nat) (rooms : List Int) (stirs : List S84) (W : World) (lo : Nat) (hlo : lo ≤ W.heap.size) (hC : Kd.F (Kd.int .i64) W (fun k => k < lo) A rooms.length rooms) (hc : rooms.length ≤ c) (hS : Kd.C k84 W A2 stirs.length stirs) (hc2 : stirs.length ≤ c2) (id pour : Int) :
  Calls Tryz.prog 30 #[.agg #[.slice A rooms.length c,.slice A2 stirs.length c2],ii id,ii pour] W fun e W' => e = .returned (.tuple #[.agg #[ii (shareE (playedP rooms stirs stirs.length) id pour).1.f0,ii (shareE (playedP rooms stirs stirs.length) id pour).1.f1],ii (shareE (playedP rooms stirs stirs.length) id pour).2]) ∧ Below W.heap.size W W':=by
 have hu:=Tryz.underlying32
 have hu167:=Tryz.underlying167
 have hu43:=Tryz.underlying43
 have HC:=am (hC)
 have HS:=am (hS)
 have HB:=am (Below.refl W.heap.size W)
 have HC1:=am (Kd.F_alloc HC.out (.cells #[.slice A rooms.length c,.slice A2 stirs.length c2] 32))
 have HS1:=am (Kd.C_alloc HS.out (.cells #[.slice A rooms.length c,.slice A2 stirs.length c2] 32))
 have HB1:=am (below_alloc HB.out (.cells #[.slice A rooms.length c,.slice A2 stirs.length c2] 32))
 have HC2:=am (Kd.F_alloc HC1.out (.cells #[ii 0,ii 0] 43))
 have HS2:=am (Kd.C_alloc HS1.out (.cells #[ii 0,ii 0] 43))
 have HB2:=am (below_alloc HB1.out (.cells #[ii 0,ii 0] 43))
 have HR:=am (blk_new' (W.alloc (.cells #[.slice A rooms.length c,.slice A2 stirs.length c2] 32)) (.cells #[ii 0,ii 0] 43) (W.heap.size + 1) (by simp))
 clear hC hS
 obtain ⟨r,hr⟩ : ∃ r,r = playedP rooms stirs stirs.length:=⟨_,rfl⟩
 rw [← hr]
 have HP:=am hr.symm
 clear hr
 obtain ⟨q,hq⟩ : ∃ q,q = shareE r id pour:=⟨_,rfl⟩
 rw [← hq]
 have HQ:=am hq
 clear hq
 go_enter Tryz.func30,Tryz.ntmps30
 go_wp2_with fail
 refine (barrowOf_calls A A2 c c2 rooms stirs _ lo (Nat.le_trans hlo (by simp;omega)) HC2.out hc HS2.out hc2 id).mono ?_
 rintro e w1 ⟨hb,h⟩
 rw [HP.out] at h
 have HB3:=am (below_then HB2.out (below_size HB2.out) hb)
 have HR1:=am (blk_below HR.out hb)
 clear hb
 cases r with
|error x =>
  subst h
  have hx : ¬ x.1 = 0:=playedP_code HP.out
  have HE:=am (show q = (⟨0,0⟩,x.1) from HQ.out)
  have HB4:=am (below_alloc HB3.out (.cells #[ii 0,ii 0,ii 0,.slice none 0 0] 167))
  have HR2:=am (blk_alloc HR1.out (.cells #[ii 0,ii 0,ii 0,.slice none 0 0] 167))
  have g0:=bd HR2.out 0
  have fg0:=blk_frozen HR2.out 0
  have g1:=bd HR2.out 1
  have fg1:=blk_frozen HR2.out 1
  go_wp2
  rw [HE.out]
  have bz:=blk_put (cs':=#[ii 0,ii 0]) (blk_put (cs':=#[ii 0,ii 0]) (HR2.out) 0 (ii 0) rfl) 1 (ii 0) rfl
  have z0:=bd bz 0
  have z1:=bd bz 1
  exact bodyPost_ret (v:=.tuple #[.agg #[ii 0,ii 0],ii x.1]) (by simp [results,Tryz.results30,go_sem,z0,z1,hu43]) rfl ⟨rfl,((HB4.out).setCell (p:=⟨W.heap.size + 1,0,none⟩) (by simp) (ii 0)).setCell (p:=⟨W.heap.size + 1,1,none⟩) (by simp) (ii 0)⟩
|ok Y =>
  cases hf : Y.barrows.find? (isId id) with
 |none =>
   have HE:=am (show q = (⟨0,0⟩,5) by rw [HQ.out];unfold shareE;simp only [hf])
   simp only [hf] at h
   clear hf
   subst h
   have HB4:=am (below_alloc HB3.out (.cells #[ii 0,ii 0,ii 0,.slice none 0 0] 167))
   have HR2:=am (blk_alloc HR1.out (.cells #[ii 0,ii 0,ii 0,.slice none 0 0] 167))
   have g0:=bd HR2.out 0
   have fg0:=blk_frozen HR2.out 0
   have g1:=bd HR2.out 1
   have fg1:=blk_frozen HR2.out 1
   go_wp2
   rw [HE.out]
   have bz:=blk_put (cs':=#[ii 0,ii 0]) (blk_put (cs':=#[ii 0,ii 0]) (HR2.out) 0 (ii 0) rfl) 1 (ii 0) rfl
   have z0:=bd bz 0
   have z1:=bd bz 1
   exact bodyPost_ret (v:=.tuple #[.agg #[ii 0,ii 0],ii 5]) (by simp [results,Tryz.results30,go_sem,z0,z1,hu43]) rfl ⟨rfl,((HB4.out).setCell (p:=⟨W.heap.size + 1,0,none⟩) (by simp) (ii 0)).setCell (p:=⟨W.heap.size + 1,1,none⟩) (by simp) (ii 0)⟩
 |some b =>
   have HF:=am hf
   have HQ1:=am (show q = if pour ∈ Y.pours then resultP (shareP b pour) else (⟨0,0⟩,5) by rw [HQ.out];unfold shareE;simp only [hf])
   simp only [hf] at h
   clear hf
   obtain ⟨L,base,A3,c3,hbase,hbad,rfl,hY,hl3,hF3⟩:=h
   have HWF:=am (played_ok HP.out).2.2.1
   have HBO:=am (HWF.out.barrows b (List.mem_of_find?_eq_some HF.out))
   have HL3:=am hl3
   have HY:=am (hY)
   have HG:=am (Kd.F_now hF3)
   have HB4:=am (below_alloc HB3.out (.cells #[ii b.f0,ii b.f1,ii b.f2,.slice A3 b.f3.length c3] 167))
   have HR2:=am (blk_alloc HR1.out (.cells #[ii b.f0,ii b.f1,ii b.f2,.slice A3 b.f3.length c3] 167))
   have HY1:=am (HY.out.move (below_alloc (Below.refl _ _) (.cells #[ii b.f0,ii b.f1,ii b.f2,.slice A3 b.f3.length c3] 167)))
   have HG1:=am (Kd.C_alloc HG.out (.cells #[ii b.f0,ii b.f1,ii b.f2,.slice A3 b.f3.length c3] 167))
   have HX:=am (blk_new w1 (.cells #[ii b.f0,ii b.f1,ii b.f2,.slice A3 b.f3.length c3] 167))
   clear hbase hbad hY hl3 hF3
   obtain ⟨k,hk⟩ : ∃ k,k = decide (pour ∈ Y.pours):=⟨_,rfl⟩
   have HK:=am hk
   clear hk
   go_wp2_with fail
   refine (known_calls HY1.out HWF.out (by decide) pour).mono ?_
   rintro e w2 ⟨rfl,hb⟩
   rw [← HK.out]
   have HB5:=am (below_then HB4.out (below_size HB4.out) hb)
   have HR3:=am (blk_below HR2.out hb)
   have HG2:=am (Kd.C_below HG1.out hb)
   have HX1:=am (blk_below HX.out hb)
   clear hb
   cases k with
  |false =>
    have HE:=am (show q = (⟨0,0⟩,5) by rw [HQ1.out];exact if_neg (of_decide_eq_false HK.out.symm))
    have g0:=bd HR3.out 0
    have fg0:=blk_frozen HR3.out 0
    have g1:=bd HR3.out 1
    have fg1:=blk_frozen HR3.out 1
    go_wp2
    rw [HE.out]
    have bz:=blk_put (cs':=#[ii 0,ii 0]) (blk_put (cs':=#[ii 0,ii 0]) (HR3.out) 0 (ii 0) rfl) 1 (ii 0) rfl
    have z0:=bd bz 0
    have z1:=bd bz 1
    exact bodyPost_ret (v:=.tuple #[.agg #[ii 0,ii 0],ii 5]) (by simp [results,Tryz.results30,go_sem,z0,z1,hu43]) rfl ⟨rfl,((HB5.out).setCell (p:=⟨W.heap.size + 1,0,none⟩) (by simp) (ii 0)).setCell (p:=⟨W.heap.size + 1,1,none⟩) (by simp) (ii 0)⟩
  |true =>
    have HE:=am (show q = resultP (shareP b pour) by rw [HQ1.out];exact if_pos (of_decide_eq_true HK.out.symm))
    have HS1:=am (share_some HBO.out pour)
    have HS2:=am (result_some (shareP b pour))
    rw [← HE.out] at HS2
    have g0:=bd HX1.out 0
    have g1:=bd HX1.out 1
    have g2:=bd HX1.out 2
    have g3:=bd HX1.out 3
    go_wp2_with fail
    refine (pit_barrow_share.calls FU _ _ _ _ _ _ _ _ _ _ HG2.out HL3.out HS1.out).mono ?_
    rintro e w3 ⟨rfl,hb⟩
    have HB6:=am (below_then HB5.out (below_size HB5.out) hb)
    have HR4:=am (blk_below HR3.out hb)
    clear hb
    go_wp2_with fail
    refine (pit_result.calls FU _ _ _ _ _ _ HS2.out).mono ?_
    rintro e w4 ⟨rfl,hb⟩
    have HB7:=am (below_then HB6.out (below_size HB6.out) hb)
    have HR5:=am (blk_below HR4.out hb)
    clear hb
    have u0:=bd HR5.out 0
    have fu0:=blk_frozen HR5.out 0
    have u1:=bd HR5.out 1
    have fu1:=blk_frozen HR5.out 1
    go_wp2
    have bz:=blk_put (cs':=#[ii q.1.f0,ii q.1.f1]) (blk_put (cs':=#[ii q.1.f0,ii 0]) (HR5.out) 0 (ii q.1.f0) rfl) 1 (ii q.1.f1) rfl
    have z0:=bd bz 0
    have z1:=bd bz 1
    exact bodyPost_ret (v:=.tuple #[.agg #[ii q.1.f0,ii q.1.f1],ii q.2]) (by simp [results,Tryz.results30,go_sem,z0,z1,hu43]) rfl ⟨rfl,((HB7.out).setCell (p:=⟨W.heap.size + 1,0,none⟩) (by simp) (ii q.1.f0)).setCell (p:=⟨W.heap.size + 1,1,none⟩) (by simp) (ii q.1.f1)⟩
def R104_1.T : Bool × List (List Nat × List Nat):=(true,[([],[]),([0],[0]),([],[]),([2],[2]),([1,3],[1,3]),([4],[4]),([5],[5]),([],[]),([7],[7]),([8],[8]),([9],[9]),([],[]),([11],[11]),([12],[12]),([13],[13]),([],[]),([14,15],[14,15]),([10,16],[10,16]),([17],[17]),([6,18],[6,18]),([19,16,0,1,2,3,4,5,6,7,8,9,10,11,12,13,14,15,16,17,18,19],[19])])
def R104_1.B : List Nat:=[0,1,0,4,15,31,63,0,128,384,896,0,2048,6144,14336,0,63488,130944,262016,524287,1048575]
theorem R104_1.tab : rtab .any (opsOf Tryz.f104 1) = R104_1.T:=by kernel_rfl
theorem R104_1.bits : waitsOk R104_1.T.2 R104_1.B = true:=by kernel_rfl
theorem goP_formed : ∀ (l : List S84) (Y Y' : Yd) (day i : Int),0 ≤ day → goP Y day i l = .ok Y' → ∀ s ∈ l,0 ≤ s.f2 ∧ s.f2 ≤ 682
|[],_,_,_,_,_,_ => by simp
|s :: r,Y,Y',day,i,hd,h => by
  cases hf : formedP Y.rooms.length s day with
 |false => rw [goP_bad hf] at h;cases h
 |true =>
   obtain ⟨h1,h2⟩:=formed_of hd hf
   cases hs : stepP Y s i with
  |error c => rw [goP_err hf hs] at h;cases h
  |ok Y1 =>
    rw [goP_next hf hs] at h
    intro x hx
    rcases List.mem_cons.1 hx with rfl|hx
    ·exact h1.day
    ·exact goP_formed r Y1 Y' s.f2 (i + 1) h1.day.1 h x hx
theorem playedP_days {rooms : List Int} {stirs : List S84} {k : Nat} {Y : Yd} (h : playedP rooms stirs k = .ok Y) : ∀ s ∈ stirs.take k,0 ≤ s.f2 ∧ s.f2 ≤ 682:=by
 obtain ⟨h1,h2,_⟩:=played_ok h
 rw [playedP_go h1 h2] at h
 exact goP_formed _ _ _ _ _ (Int.le_refl 0) h
def dayP (Y : Yd) (pour : Int) : Int:=rd Y.days (Y.pours.idxOf pour : Int)
def ageP (stirs : List S84) (Y : Yd) (b : S167) (pour : Int) : Int:=(rd_T84 stirs b.f1).f2 - dayP Y pour
theorem dayP_ok {n : Nat} {Y : Yd} (hw : Wf n Y) {pour : Int} (hp : pour ∈ Y.pours) : 0 ≤ dayP Y pour ∧ dayP Y pour ≤ 682:=by
 have h:=List.idxOf_lt_length_of_mem hp
 unfold dayP rd
 rw [Int.toNat_natCast]
 exact hw.dayok _ (getD_mem_ (by rw [hw.days];exact h))
set_option maxRecDepth 100000 in
set_option maxHeartbeats 2000000 in
theorem age_calls {W : World} {base n : Nat} {L : Loc} {Y : Yd} (hY : YardAt W base L Y) (hw : Wf n Y) (hn : n ≤ 60) (A : Option Addr) (R c : Nat) (A2 : Option Addr) (c2 : Nat) (stirs : List S84) (hS : Kd.C k84 W A2 stirs.length stirs) (b : S167) (A3 : Option Addr) (c3 : Nat) (hb0 : 0 ≤ b.f1) (hb1 : b.f1 < stirs.length) (hday : 0 ≤ (rd_T84 stirs b.f1).f2 ∧ (rd_T84 stirs b.f1).f2 ≤ 682) (pour : Int) (hp : pour ∈ Y.pours) :
  Calls Tryz.prog 104 #[.pointer (some ⟨L.g,0,none⟩),.agg #[.slice A R c,.slice A2 stirs.length c2],.agg #[ii b.f0,ii b.f1,ii b.f2,.slice A3 b.f3.length c3],ii pour] W fun e W' => e = .returned (ii (ageP stirs Y b pour)) ∧ Below W.heap.size W W':=by
 have hu:=Tryz.underlying32
 have hu167:=Tryz.underlying167
 have hu84:=Tryz.underlying84
 have hidx:=List.idxOf_lt_length_of_mem hp
 obtain ⟨hq0,hq1⟩:=dayP_ok hw hp
 obtain ⟨Ao,co,ho,hlo,hCo⟩:=Kd.R_reads hY.pours
 obtain ⟨Ad,cd,hd,hld,hCd⟩:=Kd.R_reads hY.days
 obtain ⟨j,hj⟩ : ∃ j : Nat,j = Y.pours.idxOf pour:=⟨_,rfl⟩
 have hjl : j < Y.pours.length:=by rw [hj];exact hidx
 obtain ⟨ae,e,hx⟩:=Kd.at_int hCd (j : Int) (by omega) (by rw [hw.days];omega)
 subst e
 obtain ⟨ad,e,_,_,hx2,_⟩:=at_T84 hS b.f1 hb0 hb1
 subst e
 have hB:=hY.blk
 rw [ho,hd] at hB
 have HI:=am (show slices_Index_int_int.f FU Y.pours pour = some (j : Int) by rw [indexOf_some pour (by have:=hw.npours;omega),if_pos hp,hj])
 have hrd : rd Y.days (j : Int) = dayP Y pour:=by rw [hj];rfl
 rw [hrd] at hx
 have hdl : j < Y.days.length:=by rw [hw.days];exact hjl
 rw [Int.toNat_natCast] at hx
 have HLo:=am hlo
 have HX2:=am (pw_cell_below (below_drew (below_alloc (below_alloc (Below.refl W.heap.size W) (.cells #[.slice A R c,.slice (some ad) stirs.length c2] 32)) (.cells #[ii b.f0,ii b.f1,ii b.f2,.slice A3 b.f3.length c3] 167))) hx2)
 have HXD:=am (pw_cell_below (below_drew (below_alloc (below_alloc (Below.refl W.heap.size W) (.cells #[.slice A R c,.slice (some ad) stirs.length c2] 32)) (.cells #[ii b.f0,ii b.f1,ii b.f2,.slice A3 b.f3.length c3] 167))) hx)
 unfold ageP
 obtain ⟨d,hd'⟩ : ∃ d,d = (rd_T84 stirs b.f1).f2:=⟨_,rfl⟩
 rw [← hd'] at hday HX2 ⊢
 obtain ⟨z,hz⟩ : ∃ z,z = dayP Y pour:=⟨_,rfl⟩
 rw [← hz] at hq0 hq1 HXD ⊢
 have hwr : IntKind.i64.wrap (d - z) = d - z:=IntWalk.i64_in _ (by omega)
 have BG:=am (hB)
 have HC:=am (hCo)
 have HB:=am (Below.refl W.heap.size W)
 have BG1:=am (blk_alloc BG.out (.cells #[.slice A R c,.slice (some ad) stirs.length c2] 32))
 have HC1:=am (Kd.C_alloc HC.out (.cells #[.slice A R c,.slice (some ad) stirs.length c2] 32))
 have HB1:=am (below_alloc HB.out (.cells #[.slice A R c,.slice (some ad) stirs.length c2] 32))
 have BP:=am (blk_new W (.cells #[.slice A R c,.slice (some ad) stirs.length c2] 32))
 have BG2:=am (blk_alloc BG1.out (.cells #[ii b.f0,ii b.f1,ii b.f2,.slice A3 b.f3.length c3] 167))
 have HC2:=am (Kd.C_alloc HC1.out (.cells #[ii b.f0,ii b.f1,ii b.f2,.slice A3 b.f3.length c3] 167))
 have HB2:=am (below_alloc HB1.out (.cells #[ii b.f0,ii b.f1,ii b.f2,.slice A3 b.f3.length c3] 167))
 have BP1:=am (blk_alloc BP.out (.cells #[ii b.f0,ii b.f1,ii b.f2,.slice A3 b.f3.length c3] 167))
 have BB:=am (blk_new' (W.alloc (.cells #[.slice A R c,.slice (some ad) stirs.length c2] 32)) (.cells #[ii b.f0,ii b.f1,ii b.f2,.slice A3 b.f3.length c3] 167) (W.heap.size + 1) (by simp))
 have BG3:=am (blk_drew BG2.out)
 have HC3:=am (Kd.C_drew HC2.out)
 have HB3:=am (below_drew HB2.out)
 have BP2:=am (blk_drew BP1.out)
 have BB1:=am (blk_drew BB.out)
 obtain ⟨m,hm⟩ : ∃ m : Nat,m = Y.pours.length:=⟨_,rfl⟩
 obtain ⟨md,hmd⟩ : ∃ m : Nat,m = Y.days.length:=⟨_,rfl⟩
 obtain ⟨mr,hmr⟩ : ∃ m : Nat,m = Y.rooms.length:=⟨_,rfl⟩
 clear hx hx2 hrd hd' hz hj hidx hp hw ho hd hlo hld hCo hCd hY hS hB hm hmd hmr
 go_enter Tryz.func104,Tryz.ntmps104
 go_wp2
 refine start_ (n:=21) (S:=fun w' => w'.cell? ⟨W.heap.size,1,none⟩ = some (.slice (some ad) stirs.length c2) ∧ w'.cell? ⟨W.heap.size + 1,1,none⟩ = some (ii b.f1) ∧ w'.cell? ⟨(ad.add (b.f1.toNat * 6)).block,(ad.add (b.f1.toNat * 6)).off + 2,none⟩ = some (ii d) ∧ w'.cell? ⟨L.g,3,none⟩ = some (.slice (some ae) Y.days.length cd) ∧ w'.cell? ⟨L.g,2,none⟩ = some (.slice Ao Y.pours.length co) ∧ w'.cell? (ae.add j) = some (ii z)) (ds:=[]) (ab 21 0) kr rfl kr ⟨(blk_cell BP2.out 1).trans rfl,(blk_cell BB1.out 1).trans rfl,HX2.out,(blk_cell BG3.out 3).trans rfl,(blk_cell BG3.out 2).trans rfl,HXD.out⟩ (fun hHeld => ?_);refine with_tabW R104_1.tab R104_1.bits (fun HT_ HW_ => ?_)
 generalize (((W.alloc (.cells #[.slice A R c,.slice (some ad) stirs.length c2] 32)).alloc (.cells #[ii b.f0,ii b.f1,ii b.f2,.slice A3 b.f3.length c3] 167))).drew = wd at BG3 HC3 HB3 BP2 BB1 HX2 HXD hHeld ⊢
 refine qA 0 (some 9) ?_;refine qT 1 (some 10) ?_;refine qA 2 (some 11) ?_;refine qT 3 (some 12) ?_;refine qA 4 (some 13) ?_;refine qA 5 (some 14) ?_;refine qT 6 (some 15) ?_;refine qA 7 (some 16) ?_;refine qA 8 (some 17) ?_;refine qA 9 (some 18) ?_;refine qT 10 (some 19) ?_;refine qA 11 (some 20) ?_;refine qA 12 (some 21) ?_;refine qA 13 (some 22) ?_;refine qT 14 (some 23) ?_;refine qA 15 (some 24) ?_
 refine qE 16 (some 25) fun K hK => ?_
 refine gC Tryz.func166 #[.slice Ao Y.pours.length co,ii pour] ?_
 refine (slices_Index_int_int.calls FU _ _ _ _ _ _ HC3.out HLo.out HI.out).mono ?_
 rintro e w1 ⟨rfl,m,rfl⟩
 have BG4:=am (blk_drewN BG3.out m)
 have HB4:=am (pw_below_drewN HB3.out m)
 have BP3:=am (blk_drewN BP2.out m)
 have BB2:=am (blk_drewN BB1.out m)
 have HX3:=am (pw_cell_below (pw_below_drewN (Below.refl _ _) m) HX2.out)
 have HXE:=am (pw_cell_below (pw_below_drewN (Below.refl _ _) m) HXD.out)
 refine ⟨_,rfl,?_⟩
 refine hK.out _ _ ⟨(blk_cell BP3.out 1).trans rfl,(blk_cell BB2.out 1).trans rfl,HX3.out,(blk_cell BG4.out 3).trans rfl,(blk_cell BG4.out 2).trans rfl,HXE.out⟩ (fun hHeld => ?_)
 clear hK K
 refine qN (some 25) ?_
 refine qA 17 (some 26) ?_;refine qT 18 (some 27) ?_;refine qA 19 (some 28) ?_;refine qA 20 (some 8) ?_
 refine done_ (done_of HT_.out kr) ?_
 go_wp2
 go_ret
 exact ⟨rfl,HB4.out⟩
end Go.Proofs.YtjjfpmapjjemcaaGreat.B
end
