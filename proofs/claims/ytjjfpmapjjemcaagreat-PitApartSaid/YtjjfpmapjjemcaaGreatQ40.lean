import Derived.Test.YtjjfpmapjjemcaaGreatQ39
import Derived.Test.YtjjfpmapjjemcaaGreatQ7
set_option linter.unusedVariables false
set_option linter.unusedSimpArgs false
section
namespace Go.Proofs.YtjjfpmapjjemcaaGreat.B
open Go.RowKit Go.Proofs.YtjjfpmapjjemcaaGreatW.PrintWords Go.Proofs.YtjjfpmapjjemcaaGreatW.PrintLast Go.Proofs.YtjjfpmapjjemcaaGreatW.PrintMore
attribute [local go_sem] max2_int min2_int max_two min_two max_three min_three max_four min_four
def R104_1.T : Bool × List (List Nat × List Nat):=(true,[([],[]),([0],[0]),([],[]),([2],[2]),([1,3],[1,3]),([4],[4]),([5],[5]),([],[]),([7],[7]),([8],[8]),([9],[9]),([],[]),([11],[11]),([12],[12]),([13],[13]),([],[]),([14,15],[14,15]),([10,16],[10,16]),([17],[17]),([6,18],[6,18]),([19,16,0,1,2,3,4,5,6,7,8,9,10,11,12,13,14,15,16,17,18,19],[19])])
def R104_1.B : List Nat:=[0,1,0,4,15,31,63,0,128,384,896,0,2048,6144,14336,0,63488,130944,262016,524287,1048575]
theorem R104_1.tab : rtab .any (opsOf Tryz.f104 1) = R104_1.T:=by kernel_rfl
theorem R104_1.bits : waitsOk R104_1.T.2 R104_1.B = true:=by kernel_rfl
theorem goP_formed : ∀ (l : List S84) (Y Y' : Yd) (day i : Int),0 ≤ day → goP Y day i l = .ok Y' → ∀ s ∈ l,0 ≤ s.f2 ∧ s.f2 ≤ 682
|[],_,_,_,_,_,_ => by simp
|s :: r,Y,Y',day,i,hd,h => by
  cases hf : formedP Y.rooms.length s day with
 |false => rw [goP_bad hf] at h;cases h
 |true =>
   obtain ⟨h1,h2⟩:=formed_of hd hf
   cases hs : stepP Y s i with
  |error c => rw [goP_err hf hs] at h;cases h
  |ok Y1 =>
    rw [goP_next hf hs] at h
    intro x hx
    rcases List.mem_cons.1 hx with rfl|hx
    ·exact h1.day
    ·exact goP_formed r Y1 Y' s.f2 (i + 1) h1.day.1 h x hx
theorem playedP_days {rooms : List Int} {stirs : List S84} {k : Nat} {Y : Yd} (h : playedP rooms stirs k = .ok Y) : ∀ s ∈ stirs.take k,0 ≤ s.f2 ∧ s.f2 ≤ 682:=by
 obtain ⟨h1,h2,_⟩:=played_ok h
 rw [playedP_go h1 h2] at h
 exact goP_formed _ _ _ _ _ (Int.le_refl 0) h
def dayP (Y : Yd) (pour : Int) : Int:=rd Y.days (Y.pours.idxOf pour : Int)
def ageP (stirs : List S84) (Y : Yd) (b : S167) (pour : Int) : Int:=(rd_T84 stirs b.f1).f2 - dayP Y pour
theorem dayP_ok {n : Nat} {Y : Yd} (hw : Wf n Y) {pour : Int} (hp : pour ∈ Y.pours) : 0 ≤ dayP Y pour ∧ dayP Y pour ≤ 682:=by
 have h:=List.idxOf_lt_length_of_mem hp
 unfold dayP rd
 rw [Int.toNat_natCast]
 exact hw.dayok _ (getD_mem_ (by rw [hw.days];exact h))
set_option maxRecDepth 100000 in
set_option maxHeartbeats 2000000 in
theorem age_calls {W : World} {base n : Nat} {L : Loc} {Y : Yd} (hY : YardAt W base L Y) (hw : Wf n Y) (hn : n ≤ 60) (A : Option Addr) (R c : Nat) (A2 : Option Addr) (c2 : Nat) (stirs : List S84) (hS : Kd.C k84 W A2 stirs.length stirs) (b : S167) (A3 : Option Addr) (c3 : Nat) (hb0 : 0 ≤ b.f1) (hb1 : b.f1 < stirs.length) (hday : 0 ≤ (rd_T84 stirs b.f1).f2 ∧ (rd_T84 stirs b.f1).f2 ≤ 682) (pour : Int) (hp : pour ∈ Y.pours) :
  Calls Tryz.prog 104 #[.pointer (some ⟨L.g,0,none⟩),.agg #[.slice A R c,.slice A2 stirs.length c2],.agg #[ii b.f0,ii b.f1,ii b.f2,.slice A3 b.f3.length c3],ii pour] W fun e W' => e = .returned (ii (ageP stirs Y b pour)) ∧ Below W.heap.size W W':=by
 have hu:=Tryz.underlying32
 have hu167:=Tryz.underlying167
 have hu84:=Tryz.underlying84
 have hidx:=List.idxOf_lt_length_of_mem hp
 obtain ⟨hq0,hq1⟩:=dayP_ok hw hp
 obtain ⟨Ao,co,ho,hlo,hCo⟩:=Kd.R_reads hY.pours
 obtain ⟨Ad,cd,hd,hld,hCd⟩:=Kd.R_reads hY.days
 obtain ⟨j,hj⟩ : ∃ j : Nat,j = Y.pours.idxOf pour:=⟨_,rfl⟩
 have hjl : j < Y.pours.length:=by rw [hj];exact hidx
 obtain ⟨ae,e,hx⟩:=Kd.at_int hCd (j : Int) (by omega) (by rw [hw.days];omega)
 subst e
 obtain ⟨ad,e,_,_,hx2,_⟩:=at_T84 hS b.f1 hb0 hb1
 subst e
 have hB:=hY.blk
 rw [ho,hd] at hB
 have HI:=am (show slices_Index_int_int.f FU Y.pours pour = some (j : Int) by rw [indexOf_some pour (by have:=hw.npours;omega),if_pos hp,hj])
 have hrd : rd Y.days (j : Int) = dayP Y pour:=by rw [hj];rfl
 rw [hrd] at hx
 have hdl : j < Y.days.length:=by rw [hw.days];exact hjl
 rw [Int.toNat_natCast] at hx
 have HLo:=am hlo
 have HX2:=am (pw_cell_below (below_drew (below_alloc (below_alloc (Below.refl W.heap.size W) (.cells #[.slice A R c,.slice (some ad) stirs.length c2] 32)) (.cells #[ii b.f0,ii b.f1,ii b.f2,.slice A3 b.f3.length c3] 167))) hx2)
 have HXD:=am (pw_cell_below (below_drew (below_alloc (below_alloc (Below.refl W.heap.size W) (.cells #[.slice A R c,.slice (some ad) stirs.length c2] 32)) (.cells #[ii b.f0,ii b.f1,ii b.f2,.slice A3 b.f3.length c3] 167))) hx)
 unfold ageP
 obtain ⟨d,hd'⟩ : ∃ d,d = (rd_T84 stirs b.f1).f2:=⟨_,rfl⟩
 rw [← hd'] at hday HX2 ⊢
 obtain ⟨z,hz⟩ : ∃ z,z = dayP Y pour:=⟨_,rfl⟩
 rw [← hz] at hq0 hq1 HXD ⊢
 have hwr : IntKind.i64.wrap (d - z) = d - z:=IntWalk.i64_in _ (by omega)
 have BG:=am (hB)
 have HC:=am (hCo)
 have HB:=am (Below.refl W.heap.size W)
 have BG1:=am (blk_alloc BG.out (.cells #[.slice A R c,.slice (some ad) stirs.length c2] 32))
 have HC1:=am (Kd.C_alloc HC.out (.cells #[.slice A R c,.slice (some ad) stirs.length c2] 32))
 have HB1:=am (below_alloc HB.out (.cells #[.slice A R c,.slice (some ad) stirs.length c2] 32))
 have BP:=am (blk_new W (.cells #[.slice A R c,.slice (some ad) stirs.length c2] 32))
 have BG2:=am (blk_alloc BG1.out (.cells #[ii b.f0,ii b.f1,ii b.f2,.slice A3 b.f3.length c3] 167))
 have HC2:=am (Kd.C_alloc HC1.out (.cells #[ii b.f0,ii b.f1,ii b.f2,.slice A3 b.f3.length c3] 167))
 have HB2:=am (below_alloc HB1.out (.cells #[ii b.f0,ii b.f1,ii b.f2,.slice A3 b.f3.length c3] 167))
 have BP1:=am (blk_alloc BP.out (.cells #[ii b.f0,ii b.f1,ii b.f2,.slice A3 b.f3.length c3] 167))
 have BB:=am (blk_new' (W.alloc (.cells #[.slice A R c,.slice (some ad) stirs.length c2] 32)) (.cells #[ii b.f0,ii b.f1,ii b.f2,.slice A3 b.f3.length c3] 167) (W.heap.size + 1) (by simp))
 have BG3:=am (blk_drew BG2.out)
 have HC3:=am (Kd.C_drew HC2.out)
 have HB3:=am (below_drew HB2.out)
 have BP2:=am (blk_drew BP1.out)
 have BB1:=am (blk_drew BB.out)
 obtain ⟨m,hm⟩ : ∃ m : Nat,m = Y.pours.length:=⟨_,rfl⟩
 obtain ⟨md,hmd⟩ : ∃ m : Nat,m = Y.days.length:=⟨_,rfl⟩
 obtain ⟨mr,hmr⟩ : ∃ m : Nat,m = Y.rooms.length:=⟨_,rfl⟩
 clear hx hx2 hrd hd' hz hj hidx hp hw ho hd hlo hld hCo hCd hY hS hB hm hmd hmr
 go_enter Tryz.func104,Tryz.ntmps104
 go_wp2
 refine start_ (n:=21) (S:=fun w' => w'.cell? ⟨W.heap.size,1,none⟩ = some (.slice (some ad) stirs.length c2) ∧ w'.cell? ⟨W.heap.size + 1,1,none⟩ = some (ii b.f1) ∧ w'.cell? ⟨(ad.add (b.f1.toNat * 6)).block,(ad.add (b.f1.toNat * 6)).off + 2,none⟩ = some (ii d) ∧ w'.cell? ⟨L.g,3,none⟩ = some (.slice (some ae) Y.days.length cd) ∧ w'.cell? ⟨L.g,2,none⟩ = some (.slice Ao Y.pours.length co) ∧ w'.cell? (ae.add j) = some (ii z)) (ds:=[]) (ab 21 0) kr rfl kr ⟨(blk_cell BP2.out 1).trans rfl,(blk_cell BB1.out 1).trans rfl,HX2.out,(blk_cell BG3.out 3).trans rfl,(blk_cell BG3.out 2).trans rfl,HXD.out⟩ (fun hHeld => ?_);refine with_tabW R104_1.tab R104_1.bits (fun HT_ HW_ => ?_)
 generalize (((W.alloc (.cells #[.slice A R c,.slice (some ad) stirs.length c2] 32)).alloc (.cells #[ii b.f0,ii b.f1,ii b.f2,.slice A3 b.f3.length c3] 167))).drew = wd at BG3 HC3 HB3 BP2 BB1 HX2 HXD hHeld ⊢
 refine qA 0 (some 9) ?_;refine qT 1 (some 10) ?_;refine qA 2 (some 11) ?_;refine qT 3 (some 12) ?_;refine qA 4 (some 13) ?_;refine qA 5 (some 14) ?_;refine qT 6 (some 15) ?_;refine qA 7 (some 16) ?_;refine qA 8 (some 17) ?_;refine qA 9 (some 18) ?_;refine qT 10 (some 19) ?_;refine qA 11 (some 20) ?_;refine qA 12 (some 21) ?_;refine qA 13 (some 22) ?_;refine qT 14 (some 23) ?_;refine qA 15 (some 24) ?_
 refine qE 16 (some 25) fun K hK => ?_
 refine gC Tryz.func166 #[.slice Ao Y.pours.length co,ii pour] ?_
 refine (slices_Index_int_int.calls FU _ _ _ _ _ _ HC3.out HLo.out HI.out).mono ?_
 rintro e w1 ⟨rfl,m,rfl⟩
 have BG4:=am (blk_drewN BG3.out m)
 have HB4:=am (pw_below_drewN HB3.out m)
 have BP3:=am (blk_drewN BP2.out m)
 have BB2:=am (blk_drewN BB1.out m)
 have HX3:=am (pw_cell_below (pw_below_drewN (Below.refl _ _) m) HX2.out)
 have HXE:=am (pw_cell_below (pw_below_drewN (Below.refl _ _) m) HXD.out)
 refine ⟨_,rfl,?_⟩
 refine hK.out _ _ ⟨(blk_cell BP3.out 1).trans rfl,(blk_cell BB2.out 1).trans rfl,HX3.out,(blk_cell BG4.out 3).trans rfl,(blk_cell BG4.out 2).trans rfl,HXE.out⟩ (fun hHeld => ?_)
 clear hK K
 refine qN (some 25) ?_
 refine qA 17 (some 26) ?_;refine qT 18 (some 27) ?_;refine qA 19 (some 28) ?_;refine qA 20 (some 8) ?_
 refine done_ (done_of HT_.out kr) ?_
 go_wp2
 go_ret
 exact ⟨rfl,HB4.out⟩
theorem played_wf {rooms : List Int} {stirs : List S84} {Y : Yd} (h : playedP rooms stirs stirs.length = .ok Y) : Wf stirs.length Y:=by
 obtain ⟨c1,c2,_⟩:=played_ok h
 rw [playedP_go c1 c2,List.take_length] at h
 have:=(go_ok stirs 0 _ Y 0 (empty_ok c1) (Int.le_refl _) (by omega) h).1
 rw [Nat.zero_add] at this
 exact this
def mnP (x y : Int) : Int:=if y < x then y else x
def mxP (x y : Int) : Int:=if y > x then y else x
def agesL (stirs : List S84) (Y : Yd) (b : S167) : List S89 → Int × Int
|l => l.foldl (fun s x => (mnP s.1 (ageP stirs Y b x.f0),mxP s.2 (ageP stirs Y b x.f0))) (682,0)
def agesE (stirs : List S84) (r : Except (Int × Int) Yd) (id : Int) : (Int × Int) × Int:=match r with
|.error x => ((0,0),x.1)
|.ok Y => (match Y.barrows.find? (isId id) with
 |none => ((0,0),5)
 |some b => (agesL stirs Y b b.f3,0))
theorem agesL_snoc {stirs : List S84} {Y : Yd} {b : S167} {l : List S89} {j : Nat} (h : j < l.length) : agesL stirs Y b (l.take (j + 1)) = (mnP (agesL stirs Y b (l.take j)).1 (ageP stirs Y b (rd_T89 l (j : Int)).f0),mxP (agesL stirs Y b (l.take j)).2 (ageP stirs Y b (rd_T89 l (j : Int)).f0)):=by
 rw [List.take_succ_eq_append_getElem h]
 unfold agesL rd_T89
 rw [List.foldl_append,Int.toNat_natCast,List.getD_eq_getElem?_getD,List.getElem?_eq_getElem h]
 rfl
set_option maxRecDepth 100000 in
set_option maxHeartbeats 2000000 in
theorem ages_calls (A A2 : Option Addr) (c c2 : Nat) (rooms : List Int) (stirs : List S84) (W : World) (lo : Nat) (hlo : lo ≤ W.heap.size) (hC : Kd.F (Kd.int .i64) W (fun k => k < lo) A rooms.length rooms) (hc : rooms.length ≤ c) (hS : Kd.C k84 W A2 stirs.length stirs) (hc2 : stirs.length ≤ c2) (id : Int) :
  Calls Tryz.prog 32 #[.agg #[.slice A rooms.length c,.slice A2 stirs.length c2],ii id] W fun e W' => e = .returned (.tuple #[.agg #[ii (agesE stirs (playedP rooms stirs stirs.length) id).1.1,ii (agesE stirs (playedP rooms stirs stirs.length) id).1.2],ii (agesE stirs (playedP rooms stirs stirs.length) id).2]) ∧ Below W.heap.size W W':=by
 have hu:=Tryz.underlying32
 have hu167:=Tryz.underlying167
 have hu66:=Tryz.underlying66
 have hu89:=Tryz.underlying89
 have hu43:=Tryz.underlying43
 have HC:=am (hC)
 have HS:=am (hS)
 have HB:=am (Below.refl W.heap.size W)
 have HC1:=am (Kd.F_alloc HC.out (.cells #[.slice A rooms.length c,.slice A2 stirs.length c2] 32))
 have HS1:=am (Kd.C_alloc HS.out (.cells #[.slice A rooms.length c,.slice A2 stirs.length c2] 32))
 have HB1:=am (below_alloc HB.out (.cells #[.slice A rooms.length c,.slice A2 stirs.length c2] 32))
 have HP:=am (blk_new W (.cells #[.slice A rooms.length c,.slice A2 stirs.length c2] 32))
 have HC2:=am (Kd.F_alloc HC1.out (.cells #[ii 0,ii 0] 66))
 have HS2:=am (Kd.C_alloc HS1.out (.cells #[ii 0,ii 0] 66))
 have HB2:=am (below_alloc HB1.out (.cells #[ii 0,ii 0] 66))
 have HP1:=am (blk_alloc HP.out (.cells #[ii 0,ii 0] 66))
 have HR:=am (blk_new' (W.alloc (.cells #[.slice A rooms.length c,.slice A2 stirs.length c2] 32)) (.cells #[ii 0,ii 0] 66) (W.heap.size + 1) (by simp))
 clear hC hS
 obtain ⟨r,hr⟩ : ∃ r,r = playedP rooms stirs stirs.length:=⟨_,rfl⟩
 rw [← hr]
 have HQP:=am hr.symm
 clear hr
 obtain ⟨q,hq⟩ : ∃ q,q = agesE stirs r id:=⟨_,rfl⟩
 rw [← hq]
 have HQ:=am hq
 clear hq
 go_enter Tryz.func32,Tryz.ntmps32
 go_wp2_with fail
 refine (barrowOf_calls A A2 c c2 rooms stirs _ lo (Nat.le_trans hlo (by simp;omega)) HC2.out hc HS2.out hc2 id).mono ?_
 rintro e w1 ⟨hb,h⟩
 rw [HQP.out] at h
 have HS3:=am (Kd.C_below HS2.out hb)
 have HB3:=am (below_then HB2.out (below_size HB2.out) hb)
 have HP2:=am (blk_below HP1.out hb)
 have HR1:=am (blk_below HR.out hb)
 clear hb
 cases r with
|error x =>
  subst h
  have hx : ¬ x.1 = 0:=playedP_code HQP.out
  have HE:=am (show q = ((0,0),x.1) from HQ.out)
  have HS4:=am (Kd.C_alloc HS3.out (.cells #[ii 0,ii 0,ii 0,.slice none 0 0] 167))
  have HB4:=am (below_alloc HB3.out (.cells #[ii 0,ii 0,ii 0,.slice none 0 0] 167))
  have HP3:=am (blk_alloc HP2.out (.cells #[ii 0,ii 0,ii 0,.slice none 0 0] 167))
  have HR2:=am (blk_alloc HR1.out (.cells #[ii 0,ii 0,ii 0,.slice none 0 0] 167))
  have g0:=bd HR2.out 0
  have fg0:=blk_frozen HR2.out 0
  have g1:=bd HR2.out 1
  have fg1:=blk_frozen HR2.out 1
  go_wp2
  rw [HE.out]
  have bz:=blk_put (cs':=#[ii 0,ii 0]) (blk_put (cs':=#[ii 0,ii 0]) (HR2.out) 0 (ii 0) rfl) 1 (ii 0) rfl
  have z0:=bd bz 0
  have z1:=bd bz 1
  exact bodyPost_ret (v:=.tuple #[.agg #[ii 0,ii 0],ii x.1]) (by simp [results,Tryz.results32,go_sem,z0,z1,hu66]) rfl ⟨rfl,((HB4.out).setCell (p:=⟨W.heap.size + 1,0,none⟩) (by simp) (ii 0)).setCell (p:=⟨W.heap.size + 1,1,none⟩) (by simp) (ii 0)⟩
|ok Y =>
  cases hf : Y.barrows.find? (isId id) with
 |none =>
   have HE:=am (show q = ((0,0),5) by rw [HQ.out];unfold agesE;simp only [hf])
   simp only [hf] at h
   clear hf
   subst h
   have HS4:=am (Kd.C_alloc HS3.out (.cells #[ii 0,ii 0,ii 0,.slice none 0 0] 167))
   have HB4:=am (below_alloc HB3.out (.cells #[ii 0,ii 0,ii 0,.slice none 0 0] 167))
   have HP3:=am (blk_alloc HP2.out (.cells #[ii 0,ii 0,ii 0,.slice none 0 0] 167))
   have HR2:=am (blk_alloc HR1.out (.cells #[ii 0,ii 0,ii 0,.slice none 0 0] 167))
   have g0:=bd HR2.out 0
   have fg0:=blk_frozen HR2.out 0
   have g1:=bd HR2.out 1
   have fg1:=blk_frozen HR2.out 1
   go_wp2
   rw [HE.out]
   have bz:=blk_put (cs':=#[ii 0,ii 0]) (blk_put (cs':=#[ii 0,ii 0]) (HR2.out) 0 (ii 0) rfl) 1 (ii 0) rfl
   have z0:=bd bz 0
   have z1:=bd bz 1
   exact bodyPost_ret (v:=.tuple #[.agg #[ii 0,ii 0],ii 5]) (by simp [results,Tryz.results32,go_sem,z0,z1,hu66]) rfl ⟨rfl,((HB4.out).setCell (p:=⟨W.heap.size + 1,0,none⟩) (by simp) (ii 0)).setCell (p:=⟨W.heap.size + 1,1,none⟩) (by simp) (ii 0)⟩
 |some b =>
   have HF:=am hf
   have HQ1:=am (show q = (agesL stirs Y b b.f3,0) by rw [HQ.out];unfold agesE;simp only [hf])
   simp only [hf] at h
   clear hf
   obtain ⟨L,base,A3,c3,hbase,hbad,rfl,hY,hl3,hF3⟩:=h
   have HWF:=am (played_wf HQP.out)
   have HSL:=am (played_ok HQP.out).2.1
   have HDY:=am (playedP_days HQP.out)
   have HBO:=am (HWF.out.barrows b (List.mem_of_find?_eq_some HF.out))
   have HL3:=am hl3
   have hlen : b.f3.length ≤ 60:=HBO.out.par.len
   have HY:=am (hY)
   have HG:=am (Kd.F_now hF3)
   have HS4:=am (Kd.C_alloc HS3.out (.cells #[ii b.f0,ii b.f1,ii b.f2,.slice A3 b.f3.length c3] 167))
   have HB4:=am (below_alloc HB3.out (.cells #[ii b.f0,ii b.f1,ii b.f2,.slice A3 b.f3.length c3] 167))
   have HP3:=am (blk_alloc HP2.out (.cells #[ii b.f0,ii b.f1,ii b.f2,.slice A3 b.f3.length c3] 167))
   have HR2:=am (blk_alloc HR1.out (.cells #[ii b.f0,ii b.f1,ii b.f2,.slice A3 b.f3.length c3] 167))
   have HY1:=am (HY.out.move (below_alloc (Below.refl _ _) (.cells #[ii b.f0,ii b.f1,ii b.f2,.slice A3 b.f3.length c3] 167)))
   have HG1:=am (Kd.C_alloc HG.out (.cells #[ii b.f0,ii b.f1,ii b.f2,.slice A3 b.f3.length c3] 167))
   have HX:=am (blk_new w1 (.cells #[ii b.f0,ii b.f1,ii b.f2,.slice A3 b.f3.length c3] 167))
   clear hbase hbad hY hl3 hF3
   go_wp2
   go_loopw [28] (fun v28 wr => ∃ (j : Nat) (l1 l2 : Int),j ≤ b.f3.length ∧ v28 = ii (j : Int) ∧ Aside0 (Below (w1.alloc (.cells #[ii b.f0,ii b.f1,ii b.f2,.slice A3 b.f3.length c3] 167)).heap.size (w1.alloc (.cells #[ii b.f0,ii b.f1,ii b.f2,.slice A3 b.f3.length c3] 167)) wr) ∧ Aside0 (wr.heap[w1.heap.size + 1]? = some (.cells #[ii l1,ii l2] 66 (0,0))) ∧ Aside0 (agesL stirs Y b (b.f3.take j) = (l1,l2))) (fun v28 _ => b.f3.length - (intOf v28).toNat)
   case atStart => exact ⟨0,682,0,Nat.zero_le _,rfl,⟨below_alloc (Below.refl _ _) _⟩,⟨blk_new' _ _ _ (by simp)⟩,⟨rfl⟩⟩
   case round =>
    obtain ⟨j,l1,l2,hj,rfl,HN,HT,HA⟩:=hrel
    have hbn:=HN.out
    have HS5:=am (Kd.C_below HS4.out hbn)
    have HB5:=am (below_then HB4.out (below_size HB4.out) hbn)
    have HP4:=am (blk_below HP3.out hbn)
    have HR3:=am (blk_below HR2.out hbn)
    have HY2:=am (HY1.out.move hbn)
    have HG2:=am (Kd.C_below HG1.out hbn)
    have HX1:=am (blk_below HX.out hbn)
    clear hbn
    by_cases hlt : j < b.f3.length
    ·
     obtain ⟨ae,e,hx0,hx1,hx2⟩:=at_T89 HG2.out (j : Int) (by omega) (by omega)
     cases e
     rw [Int.toNat_natCast] at hx0 hx1 hx2
     have hmem : rd_T89 b.f3 (j : Int) ∈ b.f3:=getD_mem_ hlt
     have HPX:=am (HBO.out.par.parts _ hmem).2.2
     have HA2:=am (agesL_snoc (stirs:=stirs) (Y:=Y) (b:=b) hlt)
     rw [HA.out] at HA2
     obtain ⟨y,hy⟩ : ∃ y,y = rd_T89 b.f3 (j : Int):=⟨_,rfl⟩
     rw [← hy] at hx0 hx1 hx2 HPX HA2
     clear hmem hy
     have HS6:=am (Kd.C_alloc HS5.out (.cells #[ii y.f0,ii y.f1.f0,ii y.f1.f1] 89))
     have HP5:=am (blk_alloc HP4.out (.cells #[ii y.f0,ii y.f1.f0,ii y.f1.f1] 89))
     have HY3:=am (HY2.out.move (below_alloc (Below.refl _ _) (.cells #[ii y.f0,ii y.f1.f0,ii y.f1.f1] 89)))
     have HX2:=am (blk_alloc HX1.out (.cells #[ii y.f0,ii y.f1.f0,ii y.f1.f1] 89))
     have HT1:=am (blk_alloc HT.out (.cells #[ii y.f0,ii y.f1.f0,ii y.f1.f1] 89))
     have HN1:=am (below_alloc HN.out (.cells #[ii y.f0,ii y.f1.f0,ii y.f1.f1] 89))
     have g0:=bd HP5.out 0
     have g1:=bd HP5.out 1
     have k0:=bd HX2.out 0
     have k1:=bd HX2.out 1
     have k2:=bd HX2.out 2
     have k3:=bd HX2.out 3
     have HD:=am (HDY.out (rd_T84 stirs b.f1) (by rw [List.take_length];exact getD_mem_ (by have:=HBO.out.step0;have:=HBO.out.step1;omega)))
     go_wp2_with fail
     refine (age_calls HY3.out HWF.out HSL.out A rooms.length c A2 c2 stirs HS6.out b (some ae) c3 HBO.out.step0 HBO.out.step1 HD.out y.f0 HPX.out).mono ?_
     rintro e w5 ⟨rfl,hb⟩
     have HT2:=am (blk_below HT1.out hb)
     have HN2:=am (below_then HN1.out (below_size HN1.out) hb)
     obtain ⟨d,hd⟩ : ∃ d,d = ageP stirs Y b y.f0:=⟨_,rfl⟩
     rw [← hd] at HA2 ⊢
     clear hb hd g0 g1 k0 k1 k2 k3 hx0 hx1 hx2
     obtain ⟨m1,hm1⟩ : ∃ m1,m1 = mnP l1 d:=⟨_,rfl⟩
     obtain ⟨m2,hm2⟩ : ∃ m2,m2 = mxP l2 d:=⟨_,rfl⟩
     rw [← hm1,← hm2] at HA2
     have hn1 : (if d < l1 then d else l1) = m1:=hm1.symm
     have hn2 : (if d > l2 then d else l2) = m2:=hm2.symm
     clear hm1 hm2
     have u0:=bd HT2.out 0
     have fu0:=blk_frozen HT2.out 0
     have u1:=bd HT2.out 1
     have fu1:=blk_frozen HT2.out 1
     go_wp2
     go_roundw
     case rel => exact ⟨j + 1,m1,m2,by omega,by go_num,⟨(HN2.out.setCell (by simp) _).setCell (by simp) _⟩,⟨blk_put (cs':=#[ii m1,ii m2]) (blk_put (cs':=#[ii m1,ii l2]) HT2.out 0 _ rfl) 1 _ rfl⟩,HA2⟩
     case measure => simp [intOf];omega
    ·
     have hje : j = b.f3.length:=by omega
     subst hje
     have hfold:=HA.out
     rw [List.take_length] at hfold
     have HE:=am (show q = ((l1,l2),0) by rw [HQ1.out,hfold])
     clear hfold
     have g0:=bd HT.out 0
     have g1:=bd HT.out 1
     have u0:=bd HR3.out 0
     have fu0:=blk_frozen HR3.out 0
     have u1:=bd HR3.out 1
     have fu1:=blk_frozen HR3.out 1
     go_wp2
     rw [HE.out]
     have bz:=blk_put (cs':=#[ii l1,ii l2]) (blk_put (cs':=#[ii l1,ii 0]) (HR3.out) 0 (ii l1) rfl) 1 (ii l2) rfl
     have z0:=bd bz 0
     have z1:=bd bz 1
     exact bodyPost_ret (v:=.tuple #[.agg #[ii l1,ii l2],ii 0]) (by simp [results,Tryz.results32,go_sem,z0,z1,hu66]) rfl ⟨rfl,((HB5.out).setCell (p:=⟨W.heap.size + 1,0,none⟩) (by simp) (ii l1)).setCell (p:=⟨W.heap.size + 1,1,none⟩) (by simp) (ii l2)⟩
end Go.Proofs.YtjjfpmapjjemcaaGreat.B
end
