import Derived.Test.YtjjfpmapjjemcaaGreatQ12
import Derived.Test.YtjjfpmapjjemcaaGreatQ24
import Derived.Test.YtjjfpmapjjemcaaGreatQ35
import Derived.Test.YtjjfpmapjjemcaaGreatQ40
import Derived.Test.YtjjfpmapjjemcaaGreatQ7
set_option linter.unusedVariables false
set_option linter.unusedSimpArgs false
section
namespace Go.Proofs.YtjjfpmapjjemcaaGreat.B
open Go.RowKit Go.Proofs.YtjjfpmapjjemcaaGreatW.PrintWords Go.Proofs.YtjjfpmapjjemcaaGreatW.PrintLast Go.Proofs.YtjjfpmapjjemcaaGreatW.PrintMore
attribute [local go_sem] max2_int min2_int max_two min_two max_three min_three max_four min_four
theorem info139_ : (Tryz.prog.info? 139).map (fun i => (i.zero,i.size,i.bytes)) = some (some (.agg #[ii 0,ii 0,ii 0,ii 0,ii 0]),k139.sz,40):=by kernel_rfl
theorem endOk_valid {r : S43} (h : EndOk r) : validP r = true:=validP_of h.1 (by have:=h.2.1;omega) (by have:=h.2.2;omega)
theorem maxR_ok {a b : S43} (ha : EndOk a) (hb : EndOk b) : EndOk (maxR a b):=by unfold maxR;split <;> assumption
theorem minR_ok {a b : S43} (ha : EndOk a) (hb : EndOk b) : EndOk (minR a b):=by unfold minR;split <;> assumption
theorem barrowD_ok {n : Nat} {Y : Yd} (hw : Wf n Y) {id : Int} (h : Y.barrows.any (isId id) = true) : BarrowOk n Y.pours (barrowD Y id):=by
 obtain ⟨b,hb,hp⟩:=List.any_eq_true.1 h
 unfold barrowD
 cases hf : Y.barrows.find? (isId id) with
|none => exact absurd hp (List.find?_eq_none.1 hf b hb)
|some c => exact hw.barrows c (List.mem_of_find?_eq_some hf)
theorem blameL_ok {n : Nat} {Y : Yd} (hw : Wf n Y) (pour : Int) : ∀ (l : List S137) (lo hi : S43) (i : Int),(∀ x ∈ l,Y.barrows.any (isId x.f0) = true ∧ milleP x.f1 = true) → EndOk lo → EndOk hi →
  (blameL Y pour lo hi i l).2.2 = true → (blameL Y pour lo hi i l).1.f0 = pour ∧ EndOk (blameL Y pour lo hi i l).1.f1 ∧ EndOk (blameL Y pour lo hi i l).1.f2
|[],lo,hi,i,_,h1,h2,_ => ⟨rfl,h1,h2⟩
|x :: r,lo,hi,i,hp,h1,h2,h => by
  have hx:=hp x List.mem_cons_self
  have hr : ∀ y ∈ r,Y.barrows.any (isId y.f0) = true ∧ milleP y.f1 = true:=fun y hy => hp y (List.mem_cons_of_mem _ hy)
  obtain ⟨s1,s2,s3⟩:=shareP_bnd (barrowD_ok hw hx.1) pour
  simp only [blameL] at h ⊢
  split at h
  ·rename_i hz
   rw [if_pos hz]
   split at h
   ·cases h
   ·rename_i hm
    rw [if_neg hm]
    exact blameL_ok hw pour r lo hi (i + 1) hr h1 h2 h
  ·rename_i hz
   rw [if_neg hz]
   obtain ⟨m0,m1,m2,m3⟩:=milleP_of hx.2
   have hs1 : 1 ≤ (shareP (barrowD Y x.f0) pour).f0:=by have:=s1.1;omega
   have e1:=(endP_ok m0 m1 s1 s2 s3 hs1).1
   have e2:=(endP_ok m2 m3 s1 s2 s3 hs1).1
   split at h
   ·cases h
   ·rename_i hc
    rw [if_neg hc]
    exact blameL_ok hw pour r _ _ (i + 1) hr (maxR_ok e1 h1) (minR_ok e2 h2) h
theorem blamedP_ok {n : Nat} {Y : Yd} (hw : Wf n Y) {pour : Int} {l : List S137} (hp : ∀ x ∈ l,Y.barrows.any (isId x.f0) = true ∧ milleP x.f1 = true) (h : (blamedP Y l pour).2.2 = true) :
  (blamedP Y l pour).1.f0 = pour ∧ EndOk (blamedP Y l pour).1.f1 ∧ EndOk (blamedP Y l pour).1.f2 :=
 blameL_ok hw pour l _ _ 0 hp ⟨wholeP_ok (by decide),by decide,by decide⟩ ⟨wholeP_ok (by decide),by decide,by decide⟩ h
theorem probesE_ok {Y : Yd} {l : List S137} (h : probesE Y l = 0) : l.length ≤ 20 ∧ ∀ x ∈ l,Y.barrows.any (isId x.f0) = true ∧ milleP x.f1 = true:=by
 unfold probesE at h
 split at h
 ·rename_i h1
  exact ⟨h1,fun g hg => askL_mille h g hg⟩
 ·cases h
def culpP (Y : Yd) (l : List S137) (ps : List Int) : List S139:=(ps.filter fun p => (blamedP Y l p).2.2).map fun p => (blamedP Y l p).1
theorem culpP_snoc {Y : Yd} {l : List S137} {ps : List Int} {j : Nat} (h : j < ps.length) : culpP Y l (ps.take (j + 1)) = culpP Y l (ps.take j) ++ (if (blamedP Y l (rd ps (j : Int))).2.2 = true then [(blamedP Y l (rd ps (j : Int))).1] else []):=by
 rw [List.take_succ_eq_append_getElem h]
 have hrd : rd ps (j : Int) = ps[j]:=by unfold rd;rw [Int.toNat_natCast,List.getD_eq_getElem?_getD,List.getElem?_eq_getElem h];rfl
 rw [hrd]
 unfold culpP
 rw [List.filter_append,List.map_append,List.filter_cons,List.filter_nil]
 split <;> rfl
def CulpPost (W : World) (r : Except (Int × Int) Yd) (l : List S137) (e : Ending) (W' : World) : Prop :=
 Below W.heap.size W W' ∧ (match r with
 |.error x => e = .returned (.tuple #[.slice none 0 0,ii x.1])
 |.ok Y => if probesE Y l = 0 then ∃ (A3 : Option Addr) (c3 : Nat),e = .returned (.tuple #[.slice A3 (culpP Y l Y.pours).length c3,ii 0]) ∧ (culpP Y l Y.pours).length ≤ c3 ∧ Kd.F k139 W' (fun k => W.heap.size ≤ k) A3 (culpP Y l Y.pours).length (culpP Y l Y.pours)
   else e = .returned (.tuple #[.slice none 0 0,ii (probesE Y l)]))
set_option maxRecDepth 100000 in
set_option maxHeartbeats 2000000 in
theorem culprits_calls (A A2 : Option Addr) (c c2 : Nat) (rooms : List Int) (stirs : List S84) (W : World) (lo : Nat) (hlo : lo ≤ W.heap.size) (hC : Kd.F (Kd.int .i64) W (fun k => k < lo) A rooms.length rooms) (hc : rooms.length ≤ c) (hS : Kd.C k84 W A2 stirs.length stirs) (hc2 : stirs.length ≤ c2) (B : Option Addr) (cb : Nat) (l : List S137) (hL : Kd.C k137 W B l.length l) (hlb : l.length ≤ cb) :
  Calls Tryz.prog 56 #[.agg #[.slice A rooms.length c,.slice A2 stirs.length c2],.slice B l.length cb] W fun e W' => CulpPost W (playedP rooms stirs stirs.length) l e W':=by
 have hu:=Tryz.underlying32
 have hu139:=Tryz.underlying139
 have hu43:=Tryz.underlying43
 have HC:=am (hC)
 have HS:=am (hS)
 have HL:=am (hL)
 have HB:=am (Below.refl W.heap.size W)
 have HC1:=am (Kd.F_alloc HC.out (.cells #[.slice A rooms.length c,.slice A2 stirs.length c2] 32))
 have HS1:=am (Kd.C_alloc HS.out (.cells #[.slice A rooms.length c,.slice A2 stirs.length c2] 32))
 have HL1:=am (Kd.C_alloc HL.out (.cells #[.slice A rooms.length c,.slice A2 stirs.length c2] 32))
 have HB1:=am (below_alloc HB.out (.cells #[.slice A rooms.length c,.slice A2 stirs.length c2] 32))
 clear hC hS hL
 obtain ⟨r,hr⟩ : ∃ r,r = playedP rooms stirs stirs.length:=⟨_,rfl⟩
 rw [← hr]
 have HQP:=am hr.symm
 clear hr
 go_enter Tryz.func56,Tryz.ntmps56
 go_wp2_with fail
 refine (probed_calls A A2 c c2 rooms stirs _ lo (Nat.le_trans hlo (by simp)) HC1.out hc HS1.out hc2 B cb l HL1.out hlb).mono ?_
 rintro e w1 ⟨hb,h⟩
 rw [HQP.out] at h
 have HL2:=am (Kd.C_below HL1.out hb)
 have HB2:=am (below_then HB1.out (below_size HB1.out) hb)
 clear hb
 cases r with
|error x =>
  subst h
  have hx : ¬ x.1 = 0:=playedP_code HQP.out
  go_wp2
  go_ret2
  exact ⟨HB2.out,rfl⟩
|ok Y =>
  dsimp only at h
  by_cases hg0 : ¬ probesE Y l = 0
  ·
   rw [if_neg hg0] at h
   subst h
   obtain ⟨ge,hge⟩ : ∃ ge,ge = probesE Y l:=⟨_,rfl⟩
   rw [← hge] at hg0 ⊢
   have HGE:=am hge
   clear hge
   have HG0:=am hg0
   go_wp2
   go_ret2
   refine ⟨HB2.out,?_⟩
   dsimp only
   rw [← HGE.out,if_neg HG0.out]
   rfl
  ·
   have hg0:=Decidable.not_not.1 hg0
   rw [if_pos hg0] at h
   have HG0:=am hg0
   have HPK:=am (probesE_ok hg0).2
   clear hg0
   obtain ⟨L,base,hbase,hbad,rfl,hY⟩:=h
   have HWF:=am (played_wf HQP.out)
   have HSL:=am (played_ok HQP.out).2.1
   obtain ⟨Ao,co,ho,hlo',hCo⟩:=Kd.R_reads hY.pours
   have hBg:=hY.blk
   rw [ho] at hBg
   have hnp:=HWF.out.npours
   have hsl:=HSL.out
   have HO:=am (hCo)
   have HY:=am (hY)
   have BG:=am (hBg)
   have g2:=bd BG.out 2
   clear hY ho hCo hBg hbase hbad
   go_wp2
   clear g2
   go_loopw [8,28] (fun v8 v28 wr => ∃ (j : Nat),j ≤ Y.pours.length ∧ v28 = ii (j : Int) ∧ Aside0 (Below w1.heap.size w1 wr) ∧ Aside0 (k139.R 139 wr w1.heap.size (fun _ => True) v8 (culpP Y l (Y.pours.take j)))) (fun _ v28 _ => Y.pours.length - (intOf v28).toNat)
   case atStart => exact ⟨0,Nat.zero_le _,rfl,⟨Below.refl _ _⟩,⟨Kd.R_nil _ _ _ _ _⟩⟩
   case round =>
    obtain ⟨j,hj,rfl,HN,HV⟩:=hrel
    obtain ⟨qq,hqq⟩ : ∃ qq,qq = culpP Y l (Y.pours.take j):=⟨_,rfl⟩
    have hql : qq.length ≤ j:=by rw [hqq];unfold culpP;rw [List.length_map];exact Nat.le_trans (List.length_filter_le _ _) (by rw [List.length_take];omega)
    rw [← hqq] at HV
    have HQQ:=am hqq
    clear hqq
    obtain ⟨Av,cv,rfl⟩:=Kd.R_slice HV.out
    by_cases hlt : j < Y.pours.length
    ·
     have HT:=am (culpP_snoc (Y:=Y) (l:=l) hlt)
     rw [← HQQ.out] at HT
     obtain ⟨ae,e,hx0⟩:=Kd.at_int (Kd.C_below HO.out HN.out) (j : Int) (by omega) (by omega)
     cases e
     rw [Int.toNat_natCast] at hx0
     obtain ⟨p,hp⟩ : ∃ p,p = rd Y.pours (j : Int):=⟨_,rfl⟩
     rw [← hp] at hx0 HT
     clear hp
     have HQL:=am hql
     clear hql
     go_wp2_with fail
     refine (blamed_calls (HY.out.move HN.out) HWF.out HSL.out B cb l (Kd.C_below HL2.out HN.out) hlb HPK.out p).mono ?_
     rintro e w5 ⟨rfl,hb⟩
     have HN1:=am (below_then HN.out (below_size HN.out) hb)
     have HV1:=am (Kd.R_below HV.out hb)
     clear hb hx0
     obtain ⟨bl,hbl⟩ : ∃ bl,bl = blamedP Y l p:=⟨_,rfl⟩
     rw [← hbl] at HT ⊢
     have HBL:=am hbl
     clear hbl
     obtain ⟨b,i,is⟩:=bl
     cases is with
    |false =>
      have HN2:=am (below_alloc HN1.out (.cells #[ii b.f0,ii b.f1.f0,ii b.f1.f1,ii b.f2.f0,ii b.f2.f1] 139))
      have HV2:=am (Kd.R_alloc HV1.out (.cells #[ii b.f0,ii b.f1.f0,ii b.f1.f1,ii b.f2.f0,ii b.f2.f1] 139))
      go_wp2
      go_roundw
      case rel => exact ⟨j + 1,by omega,by go_num,HN2,⟨by rw [HT.out,if_neg (by simp),List.append_nil];exact HV2.out⟩⟩
      case measure => simp [intOf];omega
    |true =>
      have hok:=blamedP_ok HWF.out HPK.out (pour:=p) (by rw [← HBL.out])
      rw [← HBL.out] at hok
      have HVA:=am (show pit_valid.f FU b.f1.f0 b.f1.f1 = some true by rw [valid_some];exact congrArg some (endOk_valid hok.2.1))
      have HVB:=am (show pit_valid.f FU b.f2.f0 b.f2.f1 = some true by rw [valid_some];exact congrArg some (endOk_valid hok.2.2))
      clear hok
      have HN2:=am (below_alloc HN1.out (.cells #[ii b.f0,ii b.f1.f0,ii b.f1.f1,ii b.f2.f0,ii b.f2.f1] 139))
      have HV2:=am (Kd.R_alloc HV1.out (.cells #[ii b.f0,ii b.f1.f0,ii b.f1.f1,ii b.f2.f0,ii b.f2.f1] 139))
      have HX:=am (blk_new w5 (.cells #[ii b.f0,ii b.f1.f0,ii b.f1.f1,ii b.f2.f0,ii b.f2.f1] 139))
      go_wp2_with fail
      refine (pit_valid.calls FU _ _ _ _ HVA.out).mono ?_
      rintro e w6 ⟨rfl,hb⟩
      have HN3:=am (below_then HN2.out (below_size HN2.out) hb)
      have HV3:=am (Kd.R_below HV2.out hb)
      have HX1:=am (blk_below HX.out hb)
      clear hb
      have g3:=bd HX1.out 3
      have g4:=bd HX1.out 4
      go_wp2_with fail
      refine (pit_valid.calls FU _ _ _ _ HVB.out).mono ?_
      rintro e w7 ⟨rfl,hb⟩
      have HN4:=am (below_then HN3.out (below_size HN3.out) hb)
      have HV4:=am (Kd.R_below HV3.out hb)
      have HX2:=am (blk_below HX1.out hb)
      clear hb g3 g4
      have k0:=bd HX2.out 0
      have k1:=bd HX2.out 1
      have k2:=bd HX2.out 2
      have k3:=bd HX2.out 3
      have k4:=bd HX2.out 4
      have HZ:=am (HN4.out.size)
      go_wp2_with (at_builtin;refine Kd.R_append k139 (w0:=w1) w1.heap.size rfl _ _ 117 139 (.agg #[ii 0,ii 0,ii 0,ii 0,ii 0]) 40 rfl Tryz.underlying117 info139_ rfl (by decide) (by decide) (.slice Av qq.length cv) qq b [ii b.f0,ii b.f1.f0,ii b.f1.f1,ii b.f2.f0,ii b.f2.f1] (fun _ => True) (fun _ => False) rfl rfl (k139_mkM _ _ _ b) (fun _ h => h.elim) (fun _ _ => trivial) HV4.out HN4.out HZ.out (by have:=HQL.out;omega) ?_;intro v3 w8 hr3 hb3 hg3 hat3;have HR3:=am hr3;have HB3:=am hb3;clear hr3 hb3 hg3 hat3 k0 k1 k2 k3 k4)
      go_roundw
      case rel => exact ⟨j + 1,by omega,by go_num,HB3,⟨by rw [HT.out];simp only [if_true];exact HR3.out⟩⟩
      case measure => simp [intOf];omega
    ·
     have hje : j = Y.pours.length:=by omega
     have HE:=am (show qq = culpP Y l Y.pours by rw [HQQ.out,hje,List.take_length])
     have HB9:=am (below_then HB2.out (below_size HB2.out) HN.out)
     go_wp2
     go_ret2
     refine ⟨HB9.out,?_⟩
     dsimp only
     rw [if_pos HG0.out,← HE.out]
     exact ⟨Av,cv,rfl,(Kd.R_reads' HV.out).2.1,Kd.R_F (Kd.R_reok rfl HV.out fun k hk => by have h1:=Kd.R_base HV.out k hk;have h2:=below_size HB2.out;omega)⟩
section
def R246_4.T : Bool × List (List Nat × List Nat):=(true,[([],[]),([],[]),([],[]),([1,2],[1,2]),([3],[3]),([0,4],[0,4])])
def R246_4.B : List Nat:=[0,0,0,6,14,31]
theorem R246_4.tab : rtab .any (opsOf Tryz.f246 4) = R246_4.T:=by kernel_rfl
theorem R246_4.bits : waitsOk R246_4.T.2 R246_4.B = true:=by kernel_rfl
attribute [local go_sem high] eqA89
def eq89 (x y : S89) : Bool:=x.f0 == y.f0 && (x.f1.f0 == y.f1.f0 && x.f1.f1 == y.f1.f1)
def sameP (a b : List S89) : Bool:=decide (a.length = b.length) && !(a.any fun x => !(b.any fun y => eq89 x y))
set_option maxRecDepth 100000 in
set_option maxHeartbeats 2000000 in
theorem idx246_calls (A : Option Addr) (c : Nat) (l : List S89) (a : S89) (W : World) (hr : Kd.C k89 W A l.length l) (hc : l.length ≤ c) :
  Calls Tryz.prog 246 #[.slice A l.length c,.agg #[ii a.f0,ii a.f1.f0,ii a.f1.f1]] W fun e W' => e = .returned (ii (idxP (eq89 a) l)) ∧ Below W.heap.size W W':=by
 have hu89:=Tryz.underlying89
 have hu43:=Tryz.underlying43
 have hmx:=hr.2.1
 have HC:=am hr
 clear hr
 have HB:=am (Below.refl W.heap.size W)
 have HB1:=am (below_alloc HB.out (.cells #[ii a.f0,ii a.f1.f0,ii a.f1.f1] 89))
 have HX:=am (blk_new W (.cells #[ii a.f0,ii a.f1.f0,ii a.f1.f1] 89))
 go_enter Tryz.func246,Tryz.ntmps246
 go_wp2
 go_loopw [8] (fun v8 wr => ∃ j : Nat,j ≤ l.length ∧ v8 = ii (j : Int) ∧ Aside0 (∀ i (hi : i < l.length),i < j → eq89 a l[i] = false) ∧ Aside0 (Below (W.alloc (.cells #[ii a.f0,ii a.f1.f0,ii a.f1.f1] 89)).heap.size (W.alloc (.cells #[ii a.f0,ii a.f1.f0,ii a.f1.f1] 89)) wr)) (fun v8 _ => l.length - (intOf v8).toNat)
 case atStart => exact ⟨0,Nat.zero_le _,rfl,⟨fun i _ hi => absurd hi (Nat.not_lt_zero _)⟩,⟨Below.refl _ _⟩⟩
 case round =>
  obtain ⟨j,hj,rfl,HP,HN⟩:=hrel
  by_cases hlt : j < l.length
  ·
   obtain ⟨ad,e,hx0,hx1,hx2⟩:=at_T89 (Kd.C_below (Kd.C_alloc HC.out (.cells #[ii a.f0,ii a.f1.f0,ii a.f1.f1] 89)) HN.out) (j : Int) (by omega) (by omega)
   cases e
   rw [Int.toNat_natCast] at hx0 hx1 hx2
   have hx : rd_T89 l (j : Int) = l[j]:=by unfold rd_T89;rw [Int.toNat_natCast,List.getD_eq_getElem?_getD,List.getElem?_eq_getElem hlt];rfl
   obtain ⟨x,hxx⟩ : ∃ x,x = rd_T89 l (j : Int):=⟨_,rfl⟩
   rw [← hxx] at hx0 hx1 hx2 hx
   have HX0:=am hx
   have HXW:=am (blk_drew (blk_below HX.out HN.out))
   have HND:=am (below_drew HN.out)
   have HE0:=am (pw_cell_below (below_drew (Below.refl _ _)) hx0)
   have HE1:=am (pw_cell_below (below_drew (Below.refl _ _)) hx1)
   have HE2:=am (pw_cell_below (below_drew (Below.refl _ _)) hx2)
   clear hx hxx hx0 hx1 hx2
   obtain ⟨k,hk⟩ : ∃ k,k = eq89 a x:=⟨_,rfl⟩
   have HK:=am hk
   have hk2 : (a.f0 == x.f0 && (a.f1.f0 == x.f1.f0 && a.f1.f1 == x.f1.f1)) = k:=hk.symm
   clear hk
   cases k
   ·skip
    go_wp2
    refine start_ (n:=6) (S:=fun w' => w'.cell? ⟨W.heap.size,0,none⟩ = some (ii a.f0) ∧ w'.cell? ⟨W.heap.size,1,none⟩ = some (ii a.f1.f0) ∧ w'.cell? ⟨W.heap.size,2,none⟩ = some (ii a.f1.f1) ∧ w'.cell? (ad.add (j * 3)) = some (ii x.f0) ∧ w'.cell? ⟨(ad.add (j * 3)).block,(ad.add (j * 3)).off + 1,none⟩ = some (ii x.f1.f0) ∧ w'.cell? ⟨(ad.add (j * 3)).block,(ad.add (j * 3)).off + 2,none⟩ = some (ii x.f1.f1)) (ds:=[]) (ab 6 0) kr rfl kr ⟨(blk_cell HXW.out 0).trans rfl,(blk_cell HXW.out 1).trans rfl,(blk_cell HXW.out 2).trans rfl,HE0.out,HE1.out,HE2.out⟩ (fun hHeld => ?_);refine with_tabW R246_4.tab R246_4.bits (fun HT_ HW_ => ?_)
    generalize (wr).drew = wd at HXW HND HE0 HE1 HE2 hHeld ⊢
    refine qT 0 (some 11) ?_;refine qA 1 (some 12) ?_;refine qA 2 (some 13) ?_;refine qA 3 (some 14) ?_;refine qT 4 (some 15) ?_;refine qA 5 (some 16) ?_
    refine done_ (done_of HT_.out kr) ?_
    go_wp2
    go_roundw
    case rel =>
     refine ⟨j + 1,by omega,by go_num,⟨fun i hi hij => ?_⟩,HND⟩
     by_cases ei : i = j
     ·subst ei;rw [← HX0.out];exact HK.out.symm
     ·exact HP.out i hi (by omega)
    case measure => simp [intOf];omega
   ·skip
    go_wp2
    refine start_ (n:=6) (S:=fun w' => w'.cell? ⟨W.heap.size,0,none⟩ = some (ii a.f0) ∧ w'.cell? ⟨W.heap.size,1,none⟩ = some (ii a.f1.f0) ∧ w'.cell? ⟨W.heap.size,2,none⟩ = some (ii a.f1.f1) ∧ w'.cell? (ad.add (j * 3)) = some (ii x.f0) ∧ w'.cell? ⟨(ad.add (j * 3)).block,(ad.add (j * 3)).off + 1,none⟩ = some (ii x.f1.f0) ∧ w'.cell? ⟨(ad.add (j * 3)).block,(ad.add (j * 3)).off + 2,none⟩ = some (ii x.f1.f1)) (ds:=[]) (ab 6 0) kr rfl kr ⟨(blk_cell HXW.out 0).trans rfl,(blk_cell HXW.out 1).trans rfl,(blk_cell HXW.out 2).trans rfl,HE0.out,HE1.out,HE2.out⟩ (fun hHeld => ?_);refine with_tabW R246_4.tab R246_4.bits (fun HT_ HW_ => ?_)
    generalize (wr).drew = wd at HXW HND HE0 HE1 HE2 hHeld ⊢
    refine qT 0 (some 11) ?_;refine qA 1 (some 12) ?_;refine qA 2 (some 13) ?_;refine qA 3 (some 14) ?_;refine qT 4 (some 15) ?_;refine qA 5 (some 16) ?_
    refine done_ (done_of HT_.out kr) ?_
    go_wp2
    go_ret
    exact ⟨by rw [idxP_found (p:=eq89 a) hlt (by rw [← HX0.out];exact HK.out.symm) HP.out];rfl,below_then HB1.out (below_size HB1.out) HND.out⟩
  ·
   go_wp2
   go_ret
   exact ⟨by rw [idxP_none (p:=eq89 a) (fun i hi => HP.out i hi (by omega))];rfl,below_then HB1.out (below_size HB1.out) HN.out⟩
set_option maxRecDepth 100000 in
set_option maxHeartbeats 2000000 in
theorem cont228_calls (A : Option Addr) (c : Nat) (l : List S89) (a : S89) (W : World) (hr : Kd.C k89 W A l.length l) (hc : l.length ≤ c) :
  Calls Tryz.prog 228 #[.slice A l.length c,.agg #[ii a.f0,ii a.f1.f0,ii a.f1.f1]] W fun e W' => e = .returned (.bool (l.any (eq89 a))) ∧ Below W.heap.size W W':=by
 have hu89:=Tryz.underlying89
 have hu43:=Tryz.underlying43
 have HC:=am (Kd.C_alloc hr (.cells #[ii a.f0,ii a.f1.f0,ii a.f1.f1] 89))
 have HB:=am (below_alloc (Below.refl W.heap.size W) (.cells #[ii a.f0,ii a.f1.f0,ii a.f1.f1] 89))
 clear hr
 have hnn:=idxP_nn (p:=eq89 a) (l:=l)
 obtain ⟨i,hi⟩ : ∃ i,i = idxP (eq89 a) l:=⟨_,rfl⟩
 rw [← hi] at hnn
 have HI:=am hi.symm
 have HNN:=am hnn
 clear hi hnn
 go_enter Tryz.func228,Tryz.ntmps228
 go_wp2_with fail
 refine (idx246_calls A c l a _ HC.out hc).mono ?_
 rintro e w1 ⟨rfl,hb⟩
 rw [HI.out]
 have HB1:=am (below_then HB.out (below_size HB.out) hb)
 clear hb
 go_wp2
 go_ret
 exact ⟨by rw [← HNN.out];rfl,HB1.out⟩
set_option maxRecDepth 100000 in
set_option maxHeartbeats 2000000 in
theorem cl227_calls (B : Option Addr) (c : Nat) (l : List S89) (gb : Nat) (x : S89) (w : World) (hr : Kd.C k89 w B l.length l) (hc : l.length ≤ c) (hgb : w.heap[gb]? = some (.cells #[.slice B l.length c] 55 (0,0))) :
  Calls Tryz.prog 227 (#[.agg #[ii x.f0,ii x.f1.f0,ii x.f1.f1]] ++ #[.pointer (some ⟨gb,0,none⟩)]) w fun e w' => e = .returned (.bool (!(l.any (eq89 x)))) ∧ Below w.heap.size w w':=by
 have hu89:=Tryz.underlying89
 have hu43:=Tryz.underlying43
 have HC:=am (Kd.C_alloc hr (.cells #[ii x.f0,ii x.f1.f0,ii x.f1.f1] 89))
 have HB:=am (below_alloc (Below.refl w.heap.size w) (.cells #[ii x.f0,ii x.f1.f0,ii x.f1.f1] 89))
 have g0 : (w.alloc (.cells #[ii x.f0,ii x.f1.f0,ii x.f1.f1] 89)).cell? ⟨gb,0,none⟩ = some (.slice B l.length c):=(blk_cell (blk_alloc hgb (.cells #[ii x.f0,ii x.f1.f0,ii x.f1.f1] 89)) 0).trans rfl
 clear hr hgb
 obtain ⟨k,hk⟩ : ∃ k,k = l.any (eq89 x):=⟨_,rfl⟩
 have HK:=am hk
 rw [← hk]
 clear hk
 go_enter Tryz.func227,Tryz.ntmps227
 go_wp2_with fail
 refine (cont228_calls B c l x _ HC.out hc).mono ?_
 rintro e w1 ⟨rfl,hb⟩
 rw [← HK.out]
 have HB1:=am (below_then HB.out (below_size HB.out) hb)
 clear hb
 go_wp2
 go_ret
 exact ⟨rfl,HB1.out⟩
set_option maxRecDepth 100000 in
set_option maxHeartbeats 2000000 in
theorem same_calls (A B : Option Addr) (c d : Nat) (l m : List S89) (W : World) (hr : Kd.C k89 W A l.length l) (hc : l.length ≤ c) (hs : Kd.C k89 W B m.length m) (hd : m.length ≤ d) :
  Calls Tryz.prog 178 #[.slice A l.length c,.slice B m.length d] W fun e W' => e = .returned (.bool (sameP l m)) ∧ Below W.heap.size W W':=by
 have hmf : ∀ (fn : Fn) (first cap : Array Value) (w : World),(Instr.makeFunc fn first cap).run Tryz.prog w = .ok (.func fn first cap) w:=fun _ _ _ _ => rfl
 have hmx:=hr.2.1
 have hmy:=hs.2.1
 have HC:=am (hr)
 have HD:=am (hs)
 have HB:=am (Below.refl W.heap.size W)
 have HC1:=am (Kd.C_alloc HC.out (.cells #[.slice B m.length d] 55))
 have HD1:=am (Kd.C_alloc HD.out (.cells #[.slice B m.length d] 55))
 have HB1:=am (below_alloc HB.out (.cells #[.slice B m.length d] 55))
 have HX:=am (blk_new W (.cells #[.slice B m.length d] 55))
 clear hr hs
 obtain ⟨k,hk⟩ : ∃ k,k = l.any (fun x => !(m.any (eq89 x))):=⟨_,rfl⟩
 have HS:=am (show sameP l m = (decide (l.length = m.length) && !k) by rw [hk];rfl)
 have HH:=am (has226_calls A c l (fun x => !(m.any (eq89 x))) 227 #[.pointer (some ⟨W.heap.size,0,none⟩)] (fun w => Below (W.alloc (.cells #[.slice B m.length d] 55)).heap.size (W.alloc (.cells #[.slice B m.length d] 55)) w) (W.alloc (.cells #[.slice B m.length d] 55)) HC1.out hc (enters_of Tryz.func227 kr rfl) (Below.refl _ _) (fun w w' h hb => below_then h (below_size h) hb) (fun x w _ h => cl227_calls B d m W.heap.size x w (Kd.C_below HD1.out h) hd (blk_below HX.out h)))
 rw [← hk] at HH
 clear hk
 go_enter Tryz.func178,Tryz.ntmps178
 by_cases hlen : l.length = m.length
 ·
  have HE:=am (show sameP l m = !k by rw [HS.out,decide_eq_true hlen,Bool.true_and])
  have hq : ((l.length : Int) == (m.length : Int)) = true:=by simp [hlen]
  clear hlen
  go_wp2_with fail
  refine HH.out.mono ?_
  rintro e w1 ⟨rfl,hb⟩
  have HB9:=am (below_then HB1.out (below_size HB1.out) hb)
  clear hb
  go_wp2
  go_ret
  exact ⟨by rw [HE.out];rfl,HB9.out⟩
 ·
  have HE:=am (show sameP l m = false by rw [HS.out,decide_eq_false hlen,Bool.false_and])
  have hq : ((l.length : Int) == (m.length : Int)) = false:=by simp;omega
  clear hlen
  go_wp2
  go_ret
  exact ⟨by rw [HE.out];rfl,HB1.out⟩
end
def eqPar (x y : S212) : Bool:=decide (x.f0 = y.f0) && sameP x.f1 y.f1
def eqAll {α : Type} (p : α → α → Bool) : List α → List α → Bool
|[],[] => true
|x :: a,y :: b => p x y && eqAll p a b
|_,_ => false
theorem eqAll_len {α : Type} {p : α → α → Bool} : ∀ {a b : List α},a.length ≠ b.length → eqAll p a b = false
|[],[],h => absurd rfl h
|[],_ :: _,_ => rfl
|_ :: _,[],_ => rfl
|x :: a,y :: b,h => by
  simp only [eqAll]
  rw [eqAll_len (a:=a) (b:=b) (by simpa using h),Bool.and_false]
set_option maxRecDepth 100000 in
set_option maxHeartbeats 2000000 in
theorem cl182_calls (A B : Option Addr) (c d : Nat) (x y : S212) (W : World) (hr : Kd.C k89 W A x.f1.length x.f1) (hc : x.f1.length ≤ c) (hs : Kd.C k89 W B y.f1.length y.f1) (hd : y.f1.length ≤ d) :
  Calls Tryz.prog 182 #[.agg #[ii x.f0,.slice A x.f1.length c],.agg #[ii y.f0,.slice B y.f1.length d]] W fun e W' => e = .returned (.bool (eqPar x y)) ∧ Below W.heap.size W W':=by
 have hu212:=Tryz.underlying212
 have HC:=am (hr)
 have HD:=am (hs)
 have HB:=am (Below.refl W.heap.size W)
 have HC1:=am (Kd.C_alloc HC.out (.cells #[ii x.f0,.slice A x.f1.length c] 212))
 have HD1:=am (Kd.C_alloc HD.out (.cells #[ii x.f0,.slice A x.f1.length c] 212))
 have HB1:=am (below_alloc HB.out (.cells #[ii x.f0,.slice A x.f1.length c] 212))
 have HC2:=am (Kd.C_alloc HC1.out (.cells #[ii y.f0,.slice B y.f1.length d] 212))
 have HD2:=am (Kd.C_alloc HD1.out (.cells #[ii y.f0,.slice B y.f1.length d] 212))
 have HB2:=am (below_alloc HB1.out (.cells #[ii y.f0,.slice B y.f1.length d] 212))
 have HX:=am (blk_alloc (blk_new W (.cells #[ii x.f0,.slice A x.f1.length c] 212)) (.cells #[ii y.f0,.slice B y.f1.length d] 212))
 clear hr hs
 have hx0:=bd HX.out 0
 have hx1:=bd HX.out 1
 by_cases h0 : x.f0 = y.f0
 ·
  have hq : (x.f0 == y.f0) = true:=by simp [h0]
  have HE:=am (show eqPar x y = sameP x.f1 y.f1 by unfold eqPar;rw [decide_eq_true h0,Bool.true_and])
  clear h0
  go_enter Tryz.func182,Tryz.ntmps182
  go_wp2_with fail
  refine (same_calls A B c d x.f1 y.f1 _ HC2.out hc HD2.out hd).mono ?_
  rintro e w1 ⟨rfl,hb⟩
  have HB9:=am (below_then HB2.out (below_size HB2.out) hb)
  clear hb
  obtain ⟨k,hk⟩ : ∃ k,k = sameP x.f1 y.f1:=⟨_,rfl⟩
  rw [← hk] at HE ⊢
  clear hk hx0 hx1
  go_wp2
  go_ret
  exact ⟨by rw [HE.out];rfl,HB9.out⟩
 ·
  have hq : (x.f0 == y.f0) = false:=by simpa using h0
  have HE:=am (show eqPar x y = false by unfold eqPar;rw [decide_eq_false h0,Bool.false_and])
  clear h0
  go_enter Tryz.func182,Tryz.ntmps182
  go_wp2
  go_ret
  exact ⟨by rw [HE.out];rfl,HB2.out⟩
theorem drop_rd212 {l : List S212} {j : Nat} (h : j < l.length) : l.drop j = rd_T212 l (j : Int) :: l.drop (j + 1):=by
 rw [List.drop_eq_getElem_cons h];unfold rd_T212;rw [Int.toNat_natCast,List.getD_eq_getElem?_getD,List.getElem?_eq_getElem h];rfl
set_option maxRecDepth 100000 in
set_option maxHeartbeats 2000000 in
theorem eq181_calls (A B : Option Addr) (c d : Nat) (l m : List S212) (W : World) (hr : Kd.C k212 W A l.length l) (hc : l.length ≤ c) (hs : Kd.C k212 W B m.length m) (hd : m.length ≤ d) :
  Calls Tryz.prog 181 #[.slice A l.length c,.slice B m.length d,.func (.func 182) #[] #[]] W fun e W' => e = .returned (.bool (eqAll eqPar l m)) ∧ Below W.heap.size W W':=by
 have hu212:=Tryz.underlying212
 have hmx:=hr.2.1
 have HC:=am hr
 have HD:=am hs
 clear hr hs
 have ek182 : ∀ args w,(callFunc 182 args).run Tryz.prog w = .ok (.enter 182 args) w:=enters_of Tryz.func182 kr rfl
 go_enter Tryz.func181,Tryz.ntmps181
 by_cases hlen : l.length = m.length
 ·
  have hq : ((l.length : Int) == (m.length : Int)) = true:=by simp [hlen]
  have hq2 : ((l.length : Int) != (m.length : Int)) = false:=by simp [hlen]
  have HLN:=am hlen
  have hmc : l.length ≤ d:=by omega
  clear hlen
  obtain ⟨q,hqq⟩ : ∃ q,q = eqAll eqPar l m:=⟨_,rfl⟩
  rw [← hqq]
  have HQ:=am hqq
  clear hqq
  go_wp2
  clear hq hq2
  go_loopw [17] (fun v17 wr => ∃ j : Nat,j ≤ l.length ∧ v17 = ii (j : Int) ∧ Aside0 (q = eqAll eqPar (l.drop j) (m.drop j)) ∧ Aside0 (Below W.heap.size W wr)) (fun v17 _ => l.length - (intOf v17).toNat)
  case atStart => exact ⟨0,Nat.zero_le _,rfl,⟨HQ.out⟩,⟨Below.refl _ _⟩⟩
  case round =>
   obtain ⟨j,hj,rfl,HA,HN⟩:=hrel
   by_cases hlt : j < l.length
   ·
    have hltm : j < m.length:=by have:=HLN.out;omega
    obtain ⟨ae,A1,c1,e,hx0,hx1,hl1,hC1⟩:=at_T212 (Kd.C_below HC.out HN.out) (j : Int) (by omega) (by omega)
    cases e
    obtain ⟨be,B1,d1,e,hy0,hy1,hl2,hC2⟩:=at_T212 (Kd.C_below HD.out HN.out) (j : Int) (by omega) (by omega)
    cases e
    rw [Int.toNat_natCast] at hx0 hx1 hy0 hy1
    rw [drop_rd212 hlt,drop_rd212 hltm] at HA
    obtain ⟨x,hx⟩ : ∃ x,x = rd_T212 l (j : Int):=⟨_,rfl⟩
    obtain ⟨y,hy⟩ : ∃ y,y = rd_T212 m (j : Int):=⟨_,rfl⟩
    rw [← hx] at hx0 hx1 hl1 hC1 HA
    rw [← hy] at hy0 hy1 hl2 hC2 HA
    clear hx hy
    have hltd:=hltm
    clear hltm
    have hjm : (j : Int) < (m.length : Int):=by omega
    have H1:=am (hC1)
    have H2:=am (hC2)
    have HL1:=am hl1
    have HL2:=am hl2
    clear hC1 hC2 hl1 hl2
    have hz0:=pw_cell_below (below_alloc (Below.refl _ _) (.cells #[ii x.f0,.slice A1 x.f1.length c1] 212)) hy0
    have hz1:=pw_cell_below (below_alloc (Below.refl _ _) (.cells #[ii x.f0,.slice A1 x.f1.length c1] 212)) hy1
    have HN1:=am (below_alloc HN.out (.cells #[ii x.f0,.slice A1 x.f1.length c1] 212))
    have H11:=am (Kd.C_alloc H1.out (.cells #[ii x.f0,.slice A1 x.f1.length c1] 212))
    have H21:=am (Kd.C_alloc H2.out (.cells #[ii x.f0,.slice A1 x.f1.length c1] 212))
    have HX:=am (blk_new wr (.cells #[ii x.f0,.slice A1 x.f1.length c1] 212))
    have HN2:=am (below_alloc HN1.out (.cells #[ii y.f0,.slice B1 y.f1.length d1] 212))
    have H12:=am (Kd.C_alloc H11.out (.cells #[ii y.f0,.slice B1 y.f1.length d1] 212))
    have H22:=am (Kd.C_alloc H21.out (.cells #[ii y.f0,.slice B1 y.f1.length d1] 212))
    have HX1:=am (blk_alloc HX.out (.cells #[ii y.f0,.slice B1 y.f1.length d1] 212))
    have g0:=bd HX1.out 0
    have g1:=bd HX1.out 1
    obtain ⟨k,hk⟩ : ∃ k,k = eqPar x y:=⟨_,rfl⟩
    have HK:=am hk
    clear hk
    go_wp2_with fail
    refine (cl182_calls A1 B1 c1 d1 x y _ H12.out HL1.out H22.out HL2.out).mono ?_
    rintro e w5 ⟨rfl,hb⟩
    rw [← HK.out]
    have HN3:=am (below_then HN2.out (below_size HN2.out) hb)
    clear hb g0 g1 hx0 hx1 hy0 hy1 hz0 hz1
    cases k with
   |false =>
     go_wp2
     go_ret
     exact ⟨by rw [HA.out];simp only [eqAll];rw [← HK.out];rfl,HN3.out⟩
   |true =>
     go_wp2
     go_roundw
     case rel => exact ⟨j + 1,by omega,by go_num,⟨by rw [HA.out];simp only [eqAll];rw [← HK.out,Bool.true_and]⟩,HN3⟩
     case measure => simp [intOf];omega
   ·
    have HE:=am (show q = true by rw [HA.out,List.drop_eq_nil_of_le (by omega),List.drop_eq_nil_of_le (by have:=HLN.out;omega)];rfl)
    go_wp2
    go_ret
    exact ⟨by rw [HE.out];rfl,HN.out⟩
 ·
  have hq2 : ((l.length : Int) != (m.length : Int)) = true:=by simp;omega
  have HE:=am (eqAll_len (p:=eqPar) hlen)
  clear hlen
  go_wp2
  go_ret
  exact ⟨by rw [HE.out];rfl,Below.refl _ _⟩
set_option maxRecDepth 100000 in
set_option maxHeartbeats 2000000 in
theorem cl180_calls (A B : Option Addr) (c d : Nat) (l m : List S212) (W : World) (hr : Kd.C k212 W A l.length l) (hc : l.length ≤ c) (hs : Kd.C k212 W B m.length m) (hd : m.length ≤ d) :
  Calls Tryz.prog 180 #[.slice A l.length c,.slice B m.length d] W fun e W' => e = .returned (.bool (eqAll eqPar l m)) ∧ Below W.heap.size W W':=by
 have HH:=am (eq181_calls A B c d l m W hr hc hs hd)
 clear hr hs
 go_enter Tryz.func180,Tryz.ntmps180
 go_wp2_with fail
 refine HH.out.mono ?_
 rintro e w1 ⟨rfl,hb⟩
 have HB:=am hb
 clear hb
 go_wp2
 go_ret
 exact ⟨rfl,HB.out⟩
def culpE (r : Except (Int × Int) Yd) (l : List S137) : List S139 × Int:=match r with
|.error x => ([],x.1)
|.ok Y => if probesE Y l = 0 then (culpP Y l Y.pours,0) else ([],probesE Y l)
def pit_Culprits.f (l0_0 : List Int) (l0_1 : List S84) (l1 : List S137) : Option (List S139 × Int):=some (culpE (playedP l0_0 l0_1 l0_1.length) l1)
theorem pit_Culprits.calls (A0_0 : Option Addr) (c0_0 : Nat) (l0_0 : List Int) (A0_1 : Option Addr) (c0_1 : Nat) (l0_1 : List S84) (A1 : Option Addr) (c1 : Nat) (l1 : List S137) (r1 : List S139) (r2 : Int) (w : World) (hr0_0 : Kd.C (Kd.int .i64) w A0_0 l0_0.length l0_0) (hc0_0 : l0_0.length ≤ c0_0) (hr0_1 : Kd.C k84 w A0_1 l0_1.length l0_1) (hc0_1 : l0_1.length ≤ c0_1) (hr1 : Kd.C k137 w A1 l1.length l1) (hc1 : l1.length ≤ c1) (h : pit_Culprits.f l0_0 l0_1 l1 = some (r1,r2)) :
  Calls Tryz.prog 56 #[.agg #[.slice A0_0 l0_0.length c0_0,.slice A0_1 l0_1.length c0_1],.slice A1 l1.length c1] w fun e w' => ∃ v_ : Value,e = .returned (.tuple #[v_,ii r2]) ∧ Kd.V k139 139 w' w.heap.size (fun k_ => w.heap.size ≤ k_) v_ r1 ∧ Below w.heap.size w w':=by
 have h':=Option.some.inj h
 refine (culprits_calls A0_0 A0_1 c0_0 c0_1 l0_0 l0_1 w w.heap.size (Nat.le_refl _) (C_lo hr0_0) hc0_0 hr0_1 hc0_1 A1 c1 l1 hr1 hc1).mono ?_
 rintro e w' ⟨hb,hm⟩
 cases hp : playedP l0_0 l0_1 l0_1.length with
|error x =>
  rw [hp] at h' hm
  obtain ⟨rfl,rfl⟩:=Prod.mk.inj h'
  exact ⟨_,hm,Kd.V_nil _ _ _ _ _,hb⟩
|ok Y =>
  rw [hp] at h' hm
  unfold culpE at h'
  dsimp only at h' hm
  by_cases c : probesE Y l1 = 0
  ·rw [if_pos c] at h' hm
   obtain ⟨rfl,rfl⟩:=Prod.mk.inj h'
   obtain ⟨A3,c3,he,hl,hF⟩:=hm
   exact ⟨_,he,Kd.V_mk hl hF,hb⟩
  ·rw [if_neg c] at h' hm
   obtain ⟨rfl,rfl⟩:=Prod.mk.inj h'
   exact ⟨_,hm,Kd.V_nil _ _ _ _ _,hb⟩
def clearsE (r : Except (Int × Int) Yd) (l : List S137) (pour : Int) : Int × Bool × Int:=match r with
|.error x => (0,false,x.1)
|.ok Y => if probesE Y l = 0 then (if pour ∈ Y.pours then ((blamedP Y l pour).2.1,!(blamedP Y l pour).2.2,0) else (0,false,5)) else (0,false,probesE Y l)
def checkE (r : Except (Int × Int) Yd) (l : List S137) (pour : Int) (x : S43) : Int:=match r with
|.error y => y.1
|.ok Y => if probesE Y l = 0 then (if pour ∈ Y.pours then (if validP x = true then (if x.f0 > 1000 * x.f1 then 1 else (if (blamedP Y l pour).2.2 = true then (if cmpP x (blamedP Y l pour).1.f1 < 0 then 8 else (if cmpP x (blamedP Y l pour).1.f2 > 0 then 8 else 0)) else 8)) else 1) else 5) else probesE Y l
theorem cmp_valid2 {a b : S43} (hva : validP a = true) (hvb : validP b = true) : pit_compare.f a.f0 a.f1 b.f0 b.f1 = some (cmpP a b):=by
 obtain ⟨ha,h0,h1⟩:=validP_ok hva
 obtain ⟨hb,h2,h3⟩:=validP_ok hvb
 have k1:=mul_bound ha.1 (show 0 ≤ b.f1 by have:=hb.2.1;omega) h0 h3
 have k2:=mul_bound hb.1 (show 0 ≤ a.f1 by have:=ha.2.1;omega) h2 h1
 exact compare_some ha hb (by omega) (by omega)
set_option maxRecDepth 100000 in
set_option maxHeartbeats 2000000 in
theorem clears_calls (A A2 : Option Addr) (c c2 : Nat) (rooms : List Int) (stirs : List S84) (W : World) (lo : Nat) (hlo : lo ≤ W.heap.size) (hC : Kd.F (Kd.int .i64) W (fun k => k < lo) A rooms.length rooms) (hc : rooms.length ≤ c) (hS : Kd.C k84 W A2 stirs.length stirs) (hc2 : stirs.length ≤ c2) (B : Option Addr) (cb : Nat) (l : List S137) (hL : Kd.C k137 W B l.length l) (hlb : l.length ≤ cb) (pour : Int) :
  Calls Tryz.prog 58 #[.agg #[.slice A rooms.length c,.slice A2 stirs.length c2],.slice B l.length cb,ii pour] W fun e W' => e = .returned (.tuple #[ii (clearsE (playedP rooms stirs stirs.length) l pour).1,.bool (clearsE (playedP rooms stirs stirs.length) l pour).2.1,ii (clearsE (playedP rooms stirs stirs.length) l pour).2.2]) ∧ Below W.heap.size W W':=by
 have hu:=Tryz.underlying32
 have hu139:=Tryz.underlying139
 have hu43:=Tryz.underlying43
 have HC:=am (hC)
 have HS:=am (hS)
 have HL:=am (hL)
 have HB:=am (Below.refl W.heap.size W)
 have HC1:=am (Kd.F_alloc HC.out (.cells #[.slice A rooms.length c,.slice A2 stirs.length c2] 32))
 have HS1:=am (Kd.C_alloc HS.out (.cells #[.slice A rooms.length c,.slice A2 stirs.length c2] 32))
 have HL1:=am (Kd.C_alloc HL.out (.cells #[.slice A rooms.length c,.slice A2 stirs.length c2] 32))
 have HB1:=am (below_alloc HB.out (.cells #[.slice A rooms.length c,.slice A2 stirs.length c2] 32))
 clear hC hS hL
 obtain ⟨r,hr⟩ : ∃ r,r = playedP rooms stirs stirs.length:=⟨_,rfl⟩
 rw [← hr]
 have HQP:=am hr.symm
 clear hr
 obtain ⟨q,hq⟩ : ∃ q,q = clearsE r l pour:=⟨_,rfl⟩
 rw [← hq]
 have HQ:=am hq
 clear hq
 go_enter Tryz.func58,Tryz.ntmps58
 go_wp2_with fail
 refine (probed_calls A A2 c c2 rooms stirs _ lo (Nat.le_trans hlo (by simp)) HC1.out hc HS1.out hc2 B cb l HL1.out hlb).mono ?_
 rintro e w1 ⟨hb,h⟩
 rw [HQP.out] at h
 have HL2:=am (Kd.C_below HL1.out hb)
 have HB2:=am (below_then HB1.out (below_size HB1.out) hb)
 clear hb
 cases r with
|error y =>
  subst h
  have hx : ¬ y.1 = 0:=playedP_code HQP.out
  have HE:=am (show q = (0,false,y.1) by rw [HQ.out];unfold clearsE;simp only [])
  go_wp2
  rw [HE.out]
  exact bodyPost_ret (v:=.tuple #[_,_,_]) (by simp [results,Tryz.results58,go_sem]) rfl ⟨rfl,HB2.out⟩
|ok Y =>
  dsimp only at h
  obtain ⟨ge,hge⟩ : ∃ ge,ge = probesE Y l:=⟨_,rfl⟩
  rw [← hge] at h
  have HGE:=am hge
  clear hge
  by_cases hg0 : ¬ ge = 0
  ·
   rw [if_neg hg0] at h
   subst h
   have HG0:=am hg0
   have HE:=am (show q = (0,false,ge) by rw [HQ.out];unfold clearsE;simp only [];rw [← HGE.out];exact if_neg HG0.out)
   go_wp2
   rw [HE.out]
   exact bodyPost_ret (v:=.tuple #[_,_,_]) (by simp [results,Tryz.results58,go_sem]) rfl ⟨rfl,HB2.out⟩
  ·
   have hg0:=Decidable.not_not.1 hg0
   rw [if_pos hg0] at h
   have HG0:=am (HGE.out.symm.trans hg0)
   have HPK:=am (probesE_ok HG0.out).2
   clear hg0
   obtain ⟨L,base,hbase,hbad,rfl,hY⟩:=h
   have HWF:=am (played_wf HQP.out)
   have HSL:=am (played_ok HQP.out).2.1
   have HY:=am (hY)
   clear hY hbase hbad
   obtain ⟨k,hk⟩ : ∃ k,k = decide (pour ∈ Y.pours):=⟨_,rfl⟩
   have HK:=am hk
   clear hk
   go_wp2_with fail
   refine (known_calls HY.out HWF.out HSL.out pour).mono ?_
   rintro e w2 ⟨rfl,hb⟩
   rw [← HK.out]
   have HL3:=am (Kd.C_below HL2.out hb)
   have HB3:=am (below_then HB2.out (below_size HB2.out) hb)
   have HY1:=am (HY.out.move hb)
   clear hb
   cases k with
  |false =>
    have HE:=am (show q = (0,false,5) by rw [HQ.out];unfold clearsE;simp only [];rw [if_pos HG0.out];exact if_neg (of_decide_eq_false HK.out.symm))
    go_wp2
    rw [HE.out]
    exact bodyPost_ret (v:=.tuple #[_,_,_]) (by simp [results,Tryz.results58,go_sem]) rfl ⟨rfl,HB3.out⟩
  |true =>
    obtain ⟨bl,hbl⟩ : ∃ bl,bl = blamedP Y l pour:=⟨_,rfl⟩
    have HE:=am (show q = (bl.2.1,!bl.2.2,0) by rw [HQ.out,hbl];unfold clearsE;simp only [];exact (if_pos HG0.out).trans (if_pos (of_decide_eq_true HK.out.symm)))
    go_wp2_with fail
    refine (blamed_calls HY1.out HWF.out HSL.out B cb l HL3.out hlb HPK.out pour).mono ?_
    rintro e w5 ⟨rfl,hb⟩
    rw [← hbl]
    clear hbl
    have HB4:=am (below_then HB3.out (below_size HB3.out) hb)
    clear hb
    obtain ⟨b,i,is⟩:=bl
    have HB5:=am (below_alloc HB4.out (.cells #[ii b.f0,ii b.f1.f0,ii b.f1.f1,ii b.f2.f0,ii b.f2.f1] 139))
    go_wp2
    rw [HE.out]
    exact bodyPost_ret (v:=.tuple #[_,_,_]) (by simp [results,Tryz.results58,go_sem]) rfl ⟨rfl,HB5.out⟩
set_option maxRecDepth 100000 in
set_option maxHeartbeats 2000000 in
theorem checkblame_calls (A A2 : Option Addr) (c c2 : Nat) (rooms : List Int) (stirs : List S84) (W : World) (lo : Nat) (hlo : lo ≤ W.heap.size) (hC : Kd.F (Kd.int .i64) W (fun k => k < lo) A rooms.length rooms) (hc : rooms.length ≤ c) (hS : Kd.C k84 W A2 stirs.length stirs) (hc2 : stirs.length ≤ c2) (B : Option Addr) (cb : Nat) (l : List S137) (hL : Kd.C k137 W B l.length l) (hlb : l.length ≤ cb) (pour : Int) (x : S43) :
  Calls Tryz.prog 61 #[.agg #[.slice A rooms.length c,.slice A2 stirs.length c2],.slice B l.length cb,ii pour,.agg #[ii x.f0,ii x.f1]] W fun e W' => e = .returned (ii (checkE (playedP rooms stirs stirs.length) l pour x)) ∧ Below W.heap.size W W':=by
 have hu:=Tryz.underlying32
 have hu139:=Tryz.underlying139
 have hu43:=Tryz.underlying43
 have HC:=am (hC)
 have HS:=am (hS)
 have HL:=am (hL)
 have HB:=am (Below.refl W.heap.size W)
 have HC1:=am (Kd.F_alloc HC.out (.cells #[.slice A rooms.length c,.slice A2 stirs.length c2] 32))
 have HS1:=am (Kd.C_alloc HS.out (.cells #[.slice A rooms.length c,.slice A2 stirs.length c2] 32))
 have HL1:=am (Kd.C_alloc HL.out (.cells #[.slice A rooms.length c,.slice A2 stirs.length c2] 32))
 have HB1:=am (below_alloc HB.out (.cells #[.slice A rooms.length c,.slice A2 stirs.length c2] 32))
 have HC2:=am (Kd.F_alloc HC1.out (.cells #[ii x.f0,ii x.f1] 43))
 have HS2:=am (Kd.C_alloc HS1.out (.cells #[ii x.f0,ii x.f1] 43))
 have HL2:=am (Kd.C_alloc HL1.out (.cells #[ii x.f0,ii x.f1] 43))
 have HB2:=am (below_alloc HB1.out (.cells #[ii x.f0,ii x.f1] 43))
 have HX:=am (blk_new' (W.alloc (.cells #[.slice A rooms.length c,.slice A2 stirs.length c2] 32)) (.cells #[ii x.f0,ii x.f1] 43) (W.heap.size + 1) (by simp))
 clear hC hS hL
 obtain ⟨r,hr⟩ : ∃ r,r = playedP rooms stirs stirs.length:=⟨_,rfl⟩
 rw [← hr]
 have HQP:=am hr.symm
 clear hr
 obtain ⟨q,hq⟩ : ∃ q,q = checkE r l pour x:=⟨_,rfl⟩
 rw [← hq]
 have HQ:=am hq
 clear hq
 go_enter Tryz.func61,Tryz.ntmps61
 go_wp2_with fail
 refine (probed_calls A A2 c c2 rooms stirs _ lo (Nat.le_trans hlo (by simp;omega)) HC2.out hc HS2.out hc2 B cb l HL2.out hlb).mono ?_
 rintro e w1 ⟨hb,h⟩
 rw [HQP.out] at h
 have HL3:=am (Kd.C_below HL2.out hb)
 have HB3:=am (below_then HB2.out (below_size HB2.out) hb)
 have HX1:=am (blk_below HX.out hb)
 clear hb
 cases r with
|error y =>
  subst h
  have hx : ¬ y.1 = 0:=playedP_code HQP.out
  have HE:=am (show q = y.1 by rw [HQ.out];unfold checkE;simp only [])
  go_wp2
  rw [HE.out]
  go_ret
  exact ⟨rfl,HB3.out⟩
|ok Y =>
  dsimp only at h
  obtain ⟨ge,hge⟩ : ∃ ge,ge = probesE Y l:=⟨_,rfl⟩
  rw [← hge] at h
  have HGE:=am hge
  clear hge
  by_cases hg0 : ¬ ge = 0
  ·
   rw [if_neg hg0] at h
   subst h
   have HG0:=am hg0
   have HE:=am (show q = ge by rw [HQ.out];unfold checkE;simp only [];rw [← HGE.out];exact if_neg HG0.out)
   go_wp2
   rw [HE.out]
   go_ret
   exact ⟨rfl,HB3.out⟩
  ·
   have hg0:=Decidable.not_not.1 hg0
   rw [if_pos hg0] at h
   have HG0:=am (HGE.out.symm.trans hg0)
   have HPK:=am (probesE_ok HG0.out).2
   clear hg0
   obtain ⟨L,base,hbase,hbad,rfl,hY⟩:=h
   have HWF:=am (played_wf HQP.out)
   have HSL:=am (played_ok HQP.out).2.1
   have HY:=am (hY)
   clear hY hbase hbad
   obtain ⟨k,hk⟩ : ∃ k,k = decide (pour ∈ Y.pours):=⟨_,rfl⟩
   have HK:=am hk
   clear hk
   go_wp2_with fail
   refine (known_calls HY.out HWF.out HSL.out pour).mono ?_
   rintro e w2 ⟨rfl,hb⟩
   rw [← HK.out]
   have HL4:=am (Kd.C_below HL3.out hb)
   have HB4:=am (below_then HB3.out (below_size HB3.out) hb)
   have HX2:=am (blk_below HX1.out hb)
   have HY1:=am (HY.out.move hb)
   clear hb
   cases k with
  |false =>
    have HE:=am (show q = 5 by rw [HQ.out];unfold checkE;simp only [];rw [if_pos HG0.out];exact if_neg (of_decide_eq_false HK.out.symm))
    go_wp2
    rw [HE.out]
    go_ret
    exact ⟨rfl,HB4.out⟩
  |true =>
    obtain ⟨bl,hbl⟩ : ∃ bl,bl = blamedP Y l pour:=⟨_,rfl⟩
    have HQ1:=am (show q = if validP x = true then (if x.f0 > 1000 * x.f1 then 1 else (if bl.2.2 = true then (if cmpP x bl.1.f1 < 0 then 8 else (if cmpP x bl.1.f2 > 0 then 8 else 0)) else 8)) else 1 by rw [HQ.out,hbl];unfold checkE;simp only [];exact (if_pos HG0.out).trans (if_pos (of_decide_eq_true HK.out.symm)))
    have HBL:=am hbl
    clear hbl
    have g0:=bd HX2.out 0
    have g1:=bd HX2.out 1
    cases hv : validP x with
   |false =>
     have HVX:=am hv
     have HVA:=am (show pit_valid.f FU x.f0 x.f1 = some false by rw [valid_some,hv])
     clear hv
     go_wp2_with fail
     refine (pit_valid.calls FU _ _ _ _ HVA.out).mono ?_
     rintro e w3 ⟨rfl,hb⟩
     have HB5:=am (below_then HB4.out (below_size HB4.out) hb)
     have HX3:=am (blk_below HX2.out hb)
     clear hb g0 g1
     have HE:=am (show q = 1 by rw [HQ1.out];rw [HVX.out];rfl)
     go_wp2
     rw [HE.out]
     go_ret
     exact ⟨rfl,HB5.out⟩
   |true =>
     have HVX:=am hv
     have HVA:=am (show pit_valid.f FU x.f0 x.f1 = some true by rw [valid_some,hv])
     clear hv
     have hvb:=validP_ok HVX.out
     have hwr : wrap64 (1000 * x.f1) = 1000 * x.f1:=wrap_in (by have:=hvb.1.2.1;omega) (by have:=hvb.2.2;omega)
     clear hvb
     go_wp2_with fail
     refine (pit_valid.calls FU _ _ _ _ HVA.out).mono ?_
     rintro e w3 ⟨rfl,hb⟩
     have HL5:=am (Kd.C_below HL4.out hb)
     have HB5:=am (below_then HB4.out (below_size HB4.out) hb)
     have HX3:=am (blk_below HX2.out hb)
     have HY2:=am (HY1.out.move hb)
     clear hb g0 g1
     have g0:=bd HX3.out 0
     have g1:=bd HX3.out 1
     by_cases hgt : x.f0 > 1000 * x.f1
     ·
      have HGT:=am hgt
      have HE:=am (show q = 1 by rw [HQ1.out];rw [if_pos HVX.out];exact if_pos (by have:=HGT.out;omega))
      go_wp2
      rw [HE.out]
      go_ret
      exact ⟨rfl,HB5.out⟩
     ·
      have HGT:=am hgt
      go_wp2_with fail
      refine (blamed_calls HY2.out HWF.out HSL.out B cb l HL5.out hlb HPK.out pour).mono ?_
      rintro e w5 ⟨rfl,hb⟩
      clear g0 g1 hgt hwr
      have HB6:=am (below_then HB5.out (below_size HB5.out) hb)
      have HX4:=am (blk_below HX3.out hb)
      clear hb
      have hok:=blamedP_ok HWF.out HPK.out (pour:=pour)
      rw [← HBL.out] at hok ⊢
      have HOK:=am hok
      clear hok
      obtain ⟨b,i,is⟩:=bl
      have HQ2:=am (show q = if is = true then (if cmpP x b.f1 < 0 then 8 else (if cmpP x b.f2 > 0 then 8 else 0)) else 8 by rw [HQ1.out,if_pos HVX.out];exact if_neg (by have:=HGT.out;omega))
      have HB7:=am (below_alloc HB6.out (.cells #[ii b.f0,ii b.f1.f0,ii b.f1.f1,ii b.f2.f0,ii b.f2.f1] 139))
      have HX5:=am (blk_alloc HX4.out (.cells #[ii b.f0,ii b.f1.f0,ii b.f1.f1,ii b.f2.f0,ii b.f2.f1] 139))
      have HZ:=am (blk_new w5 (.cells #[ii b.f0,ii b.f1.f0,ii b.f1.f1,ii b.f2.f0,ii b.f2.f1] 139))
      cases is with
     |false =>
       have HE:=am (show q = 8 by rw [HQ2.out];rfl)
       go_wp2
       rw [HE.out]
       go_ret
       exact ⟨rfl,HB7.out⟩
     |true =>
       have hok:=HOK.out rfl
       have HV1:=am (cmp_valid2 HVX.out (endOk_valid hok.2.1))
       have HV2:=am (cmp_valid2 HVX.out (endOk_valid hok.2.2))
       clear hok
       have g0:=bd HX5.out 0
       have g1:=bd HX5.out 1
       have k1:=bd HZ.out 1
       have k2:=bd HZ.out 2
       go_wp2_with fail
       refine (pit_compare.calls _ _ _ _ _ _ HV1.out).mono ?_
       rintro e w6 ⟨rfl,hb⟩
       have HB8:=am (below_then HB7.out (below_size HB7.out) hb)
       have HX6:=am (blk_below HX5.out hb)
       have HZ1:=am (blk_below HZ.out hb)
       clear hb g0 g1 k1 k2
       obtain ⟨c1,hc1⟩ : ∃ c1,c1 = cmpP x b.f1:=⟨_,rfl⟩
       rw [← hc1]
       have HC1:=am hc1
       clear hc1
       by_cases h1 : c1 < 0
       ·
        have HH1:=am h1
        have HE:=am (show q = 8 by rw [HQ2.out];refine (if_pos (by first|trivial|rfl)).trans ?_;rw [← HC1.out];exact if_pos HH1.out)
        go_wp2
        rw [HE.out]
        go_ret
        exact ⟨rfl,HB8.out⟩
       ·
        have HH1:=am h1
        have g0:=bd HX6.out 0
        have g1:=bd HX6.out 1
        have k3:=bd HZ1.out 3
        have k4:=bd HZ1.out 4
        go_wp2_with fail
        refine (pit_compare.calls _ _ _ _ _ _ HV2.out).mono ?_
        rintro e w7 ⟨rfl,hb⟩
        have HB9:=am (below_then HB8.out (below_size HB8.out) hb)
        clear hb g0 g1 k3 k4
        obtain ⟨c2,hc2⟩ : ∃ c2,c2 = cmpP x b.f2:=⟨_,rfl⟩
        rw [← hc2]
        have HC2:=am hc2
        clear hc2
        by_cases h2 : c2 > 0
        ·
         have HH2:=am h2
         have HE:=am (show q = 8 by rw [HQ2.out];refine (if_pos (by first|trivial|rfl)).trans ?_;rw [← HC1.out];refine (if_neg (by have:=HH1.out;omega)).trans ?_;rw [← HC2.out];exact if_pos HH2.out)
         go_wp2
         rw [HE.out]
         go_ret
         exact ⟨rfl,HB9.out⟩
        ·
         have HH2:=am h2
         have HE:=am (show q = 0 by rw [HQ2.out];refine (if_pos (by first|trivial|rfl)).trans ?_;rw [← HC1.out];refine (if_neg (by have:=HH1.out;omega)).trans ?_;rw [← HC2.out];exact if_neg (by have:=HH2.out;omega))
         go_wp2
         rw [HE.out]
         go_ret
         exact ⟨rfl,HB9.out⟩
def pit_Clears.f (l0_0 : List Int) (l0_1 : List S84) (l1 : List S137) (a2 : Int) : Option (Int × Bool × Int):=some (clearsE (playedP l0_0 l0_1 l0_1.length) l1 a2)
theorem pit_Clears.calls (A0_0 : Option Addr) (c0_0 : Nat) (l0_0 : List Int) (A0_1 : Option Addr) (c0_1 : Nat) (l0_1 : List S84) (A1 : Option Addr) (c1 : Nat) (l1 : List S137) (a2 : Int) (r1 : Int) (r2 : Bool) (r3 : Int) (w : World) (hr0_0 : Kd.C (Kd.int .i64) w A0_0 l0_0.length l0_0) (hc0_0 : l0_0.length ≤ c0_0) (hr0_1 : Kd.C k84 w A0_1 l0_1.length l0_1) (hc0_1 : l0_1.length ≤ c0_1) (hr1 : Kd.C k137 w A1 l1.length l1) (hc1 : l1.length ≤ c1) (h : pit_Clears.f l0_0 l0_1 l1 a2 = some (r1,r2,r3)) :
  Calls Tryz.prog 58 #[.agg #[.slice A0_0 l0_0.length c0_0,.slice A0_1 l0_1.length c0_1],.slice A1 l1.length c1,ii a2] w fun e w' => e = .returned (.tuple #[ii r1,.bool r2,ii r3]) ∧ Below w.heap.size w w':=by
 have h':=Option.some.inj h
 have hh:=clears_calls A0_0 A0_1 c0_0 c0_1 l0_0 l0_1 w w.heap.size (Nat.le_refl _) (C_lo hr0_0) hc0_0 hr0_1 hc0_1 A1 c1 l1 hr1 hc1 a2
 rw [h'] at hh
 exact hh
def pit_CheckBlame.f (l0_0 : List Int) (l0_1 : List S84) (l1 : List S137) (a2 a3_0 a3_1 : Int) : Option Int:=some (checkE (playedP l0_0 l0_1 l0_1.length) l1 a2 ⟨a3_0,a3_1⟩)
theorem pit_CheckBlame.calls (A0_0 : Option Addr) (c0_0 : Nat) (l0_0 : List Int) (A0_1 : Option Addr) (c0_1 : Nat) (l0_1 : List S84) (A1 : Option Addr) (c1 : Nat) (l1 : List S137) (a2 a3_0 a3_1 : Int) (r : Int) (w : World) (hr0_0 : Kd.C (Kd.int .i64) w A0_0 l0_0.length l0_0) (hc0_0 : l0_0.length ≤ c0_0) (hr0_1 : Kd.C k84 w A0_1 l0_1.length l0_1) (hc0_1 : l0_1.length ≤ c0_1) (hr1 : Kd.C k137 w A1 l1.length l1) (hc1 : l1.length ≤ c1) (h : pit_CheckBlame.f l0_0 l0_1 l1 a2 a3_0 a3_1 = some r) :
  Calls Tryz.prog 61 #[.agg #[.slice A0_0 l0_0.length c0_0,.slice A0_1 l0_1.length c0_1],.slice A1 l1.length c1,ii a2,.agg #[ii a3_0,ii a3_1]] w fun e w' => e = .returned (ii r) ∧ Below w.heap.size w w':=by
 have h':=Option.some.inj h
 have hh:=checkblame_calls A0_0 A0_1 c0_0 c0_1 l0_0 l0_1 w w.heap.size (Nat.le_refl _) (C_lo hr0_0) hc0_0 hr0_1 hc0_1 A1 c1 l1 hr1 hc1 a2 ⟨a3_0,a3_1⟩
 rw [h'] at hh
 exact hh
end Go.Proofs.YtjjfpmapjjemcaaGreat.B
end
