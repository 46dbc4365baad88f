import Derived.Test.YtjjfpmapjjemcaaGreatQ15
import Derived.Test.YtjjfpmapjjemcaaGreatQ24
import Derived.Test.YtjjfpmapjjemcaaGreatQ26
import Derived.Test.YtjjfpmapjjemcaaGreatQ28
import Derived.Test.YtjjfpmapjjemcaaGreatQ46
import Derived.Test.YtjjfpmapjjemcaaGreatQ7
set_option linter.unusedVariables false
set_option linter.unusedSimpArgs false
section
namespace Go.Proofs.YtjjfpmapjjemcaaGreat.B
open Go.RowKit Go.Proofs.YtjjfpmapjjemcaaGreatW.PrintWords Go.Proofs.YtjjfpmapjjemcaaGreatW.PrintLast Go.Proofs.YtjjfpmapjjemcaaGreatW.PrintMore
attribute [local go_sem] max2_int min2_int max_two min_two max_three min_three max_four min_four
theorem info139_ : (Tryz.prog.info? 139).map (fun i => (i.zero,i.size,i.bytes)) = some (some (.agg #[ii 0,ii 0,ii 0,ii 0,ii 0]),k139.sz,40):=by kernel_rfl
theorem endOk_valid {r : S43} (h : EndOk r) : validP r = true:=validP_of h.1 (by have:=h.2.1;omega) (by have:=h.2.2;omega)
theorem maxR_ok {a b : S43} (ha : EndOk a) (hb : EndOk b) : EndOk (maxR a b):=by unfold maxR;split <;> assumption
theorem minR_ok {a b : S43} (ha : EndOk a) (hb : EndOk b) : EndOk (minR a b):=by unfold minR;split <;> assumption
theorem barrowD_ok {n : Nat} {Y : Yd} (hw : Wf n Y) {id : Int} (h : Y.barrows.any (isId id) = true) : BarrowOk n Y.pours (barrowD Y id):=by
 obtain ⟨b,hb,hp⟩:=List.any_eq_true.1 h
 unfold barrowD
 cases hf : Y.barrows.find? (isId id) with
|none => exact absurd hp (List.find?_eq_none.1 hf b hb)
|some c => exact hw.barrows c (List.mem_of_find?_eq_some hf)
theorem blameL_ok {n : Nat} {Y : Yd} (hw : Wf n Y) (pour : Int) : ∀ (l : List S137) (lo hi : S43) (i : Int),(∀ x ∈ l,Y.barrows.any (isId x.f0) = true ∧ milleP x.f1 = true) → EndOk lo → EndOk hi →
  (blameL Y pour lo hi i l).2.2 = true → (blameL Y pour lo hi i l).1.f0 = pour ∧ EndOk (blameL Y pour lo hi i l).1.f1 ∧ EndOk (blameL Y pour lo hi i l).1.f2
|[],lo,hi,i,_,h1,h2,_ => ⟨rfl,h1,h2⟩
|x :: r,lo,hi,i,hp,h1,h2,h => by
  have hx:=hp x List.mem_cons_self
  have hr : ∀ y ∈ r,Y.barrows.any (isId y.f0) = true ∧ milleP y.f1 = true:=fun y hy => hp y (List.mem_cons_of_mem _ hy)
  obtain ⟨s1,s2,s3⟩:=shareP_bnd (barrowD_ok hw hx.1) pour
  simp only [blameL] at h ⊢
  split at h
  ·rename_i hz
   rw [if_pos hz]
   split at h
   ·cases h
   ·rename_i hm
    rw [if_neg hm]
    exact blameL_ok hw pour r lo hi (i + 1) hr h1 h2 h
  ·rename_i hz
   rw [if_neg hz]
   obtain ⟨m0,m1,m2,m3⟩:=milleP_of hx.2
   have hs1 : 1 ≤ (shareP (barrowD Y x.f0) pour).f0:=by have:=s1.1;omega
   have e1:=(endP_ok m0 m1 s1 s2 s3 hs1).1
   have e2:=(endP_ok m2 m3 s1 s2 s3 hs1).1
   split at h
   ·cases h
   ·rename_i hc
    rw [if_neg hc]
    exact blameL_ok hw pour r _ _ (i + 1) hr (maxR_ok e1 h1) (minR_ok e2 h2) h
theorem blamedP_ok {n : Nat} {Y : Yd} (hw : Wf n Y) {pour : Int} {l : List S137} (hp : ∀ x ∈ l,Y.barrows.any (isId x.f0) = true ∧ milleP x.f1 = true) (h : (blamedP Y l pour).2.2 = true) :
  (blamedP Y l pour).1.f0 = pour ∧ EndOk (blamedP Y l pour).1.f1 ∧ EndOk (blamedP Y l pour).1.f2 :=
 blameL_ok hw pour l _ _ 0 hp ⟨wholeP_ok (by decide),by decide,by decide⟩ ⟨wholeP_ok (by decide),by decide,by decide⟩ h
theorem probesE_ok {Y : Yd} {l : List S137} (h : probesE Y l = 0) : l.length ≤ 20 ∧ ∀ x ∈ l,Y.barrows.any (isId x.f0) = true ∧ milleP x.f1 = true:=by
 unfold probesE at h
 split at h
 ·rename_i h1
  exact ⟨h1,fun g hg => askL_mille h g hg⟩
 ·cases h
def culpP (Y : Yd) (l : List S137) (ps : List Int) : List S139:=(ps.filter fun p => (blamedP Y l p).2.2).map fun p => (blamedP Y l p).1
theorem culpP_snoc {Y : Yd} {l : List S137} {ps : List Int} {j : Nat} (h : j < ps.length) : culpP Y l (ps.take (j + 1)) = culpP Y l (ps.take j) ++ (if (blamedP Y l (rd ps (j : Int))).2.2 = true then [(blamedP Y l (rd ps (j : Int))).1] else []):=by
 rw [List.take_succ_eq_append_getElem h]
 have hrd : rd ps (j : Int) = ps[j]:=by unfold rd;rw [Int.toNat_natCast,List.getD_eq_getElem?_getD,List.getElem?_eq_getElem h];rfl
 rw [hrd]
 unfold culpP
 rw [List.filter_append,List.map_append,List.filter_cons,List.filter_nil]
 split <;> rfl
def CulpPost (W : World) (r : Except (Int × Int) Yd) (l : List S137) (e : Ending) (W' : World) : Prop :=
 Below W.heap.size W W' ∧ (match r with
 |.error x => e = .returned (.tuple #[.slice none 0 0,ii x.1])
 |.ok Y => if probesE Y l = 0 then ∃ (A3 : Option Addr) (c3 : Nat),e = .returned (.tuple #[.slice A3 (culpP Y l Y.pours).length c3,ii 0]) ∧ (culpP Y l Y.pours).length ≤ c3 ∧ Kd.F k139 W' (fun k => W.heap.size ≤ k) A3 (culpP Y l Y.pours).length (culpP Y l Y.pours)
   else e = .returned (.tuple #[.slice none 0 0,ii (probesE Y l)]))
set_option maxRecDepth 100000 in
set_option maxHeartbeats 2000000 in
theorem culprits_calls (A A2 : Option Addr) (c c2 : Nat) (rooms : List Int) (stirs : List S84) (W : World) (lo : Nat) (hlo : lo ≤ W.heap.size) (hC : Kd.F (Kd.int .i64) W (fun k => k < lo) A rooms.length rooms) (hc : rooms.length ≤ c) (hS : Kd.C k84 W A2 stirs.length stirs) (hc2 : stirs.length ≤ c2) (B : Option Addr) (cb : Nat) (l : List S137) (hL : Kd.C k137 W B l.length l) (hlb : l.length ≤ cb) :
  Calls Tryz.prog 56 #[.agg #[.slice A rooms.length c,.slice A2 stirs.length c2],.slice B l.length cb] W fun e W' => CulpPost W (playedP rooms stirs stirs.length) l e W':=by
 have hu:=Tryz.underlying32
 have hu139:=Tryz.underlying139
 have hu43:=Tryz.underlying43
 have HC:=am (hC)
 have HS:=am (hS)
 have HL:=am (hL)
 have HB:=am (Below.refl W.heap.size W)
 have HC1:=am (Kd.F_alloc HC.out (.cells #[.slice A rooms.length c,.slice A2 stirs.length c2] 32))
 have HS1:=am (Kd.C_alloc HS.out (.cells #[.slice A rooms.length c,.slice A2 stirs.length c2] 32))
 have HL1:=am (Kd.C_alloc HL.out (.cells #[.slice A rooms.length c,.slice A2 stirs.length c2] 32))
 have HB1:=am (below_alloc HB.out (.cells #[.slice A rooms.length c,.slice A2 stirs.length c2] 32))
 clear hC hS hL
 obtain ⟨r,hr⟩ : ∃ r,r = playedP rooms stirs stirs.length:=⟨_,rfl⟩
 rw [← hr]
 have HQP:=am hr.symm
 clear hr
 go_enter Tryz.func56,Tryz.ntmps56
 go_wp2_with fail
 refine (probed_calls A A2 c c2 rooms stirs _ lo (Nat.le_trans hlo (by simp)) HC1.out hc HS1.out hc2 B cb l HL1.out hlb).mono ?_
 rintro e w1 ⟨hb,h⟩
 rw [HQP.out] at h
 have HL2:=am (Kd.C_below HL1.out hb)
 have HB2:=am (below_then HB1.out (below_size HB1.out) hb)
 clear hb
 cases r with
|error x =>
  subst h
  have hx : ¬ x.1 = 0:=playedP_code HQP.out
  go_wp2
  go_ret2
  exact ⟨HB2.out,rfl⟩
|ok Y =>
  dsimp only at h
  by_cases hg0 : ¬ probesE Y l = 0
  ·
   rw [if_neg hg0] at h
   subst h
   obtain ⟨ge,hge⟩ : ∃ ge,ge = probesE Y l:=⟨_,rfl⟩
   rw [← hge] at hg0 ⊢
   have HGE:=am hge
   clear hge
   have HG0:=am hg0
   go_wp2
   go_ret2
   refine ⟨HB2.out,?_⟩
   dsimp only
   rw [← HGE.out,if_neg HG0.out]
   rfl
  ·
   have hg0:=Decidable.not_not.1 hg0
   rw [if_pos hg0] at h
   have HG0:=am hg0
   have HPK:=am (probesE_ok hg0).2
   clear hg0
   obtain ⟨L,base,hbase,hbad,rfl,hY⟩:=h
   have HWF:=am (played_wf HQP.out)
   have HSL:=am (played_ok HQP.out).2.1
   obtain ⟨Ao,co,ho,hlo',hCo⟩:=Kd.R_reads hY.pours
   have hBg:=hY.blk
   rw [ho] at hBg
   have hnp:=HWF.out.npours
   have hsl:=HSL.out
   have HO:=am (hCo)
   have HY:=am (hY)
   have BG:=am (hBg)
   have g2:=bd BG.out 2
   clear hY ho hCo hBg hbase hbad
   go_wp2
   clear g2
   go_loopw [8,28] (fun v8 v28 wr => ∃ (j : Nat),j ≤ Y.pours.length ∧ v28 = ii (j : Int) ∧ Aside0 (Below w1.heap.size w1 wr) ∧ Aside0 (k139.R 139 wr w1.heap.size (fun _ => True) v8 (culpP Y l (Y.pours.take j)))) (fun _ v28 _ => Y.pours.length - (intOf v28).toNat)
   case atStart => exact ⟨0,Nat.zero_le _,rfl,⟨Below.refl _ _⟩,⟨Kd.R_nil _ _ _ _ _⟩⟩
   case round =>
    obtain ⟨j,hj,rfl,HN,HV⟩:=hrel
    obtain ⟨qq,hqq⟩ : ∃ qq,qq = culpP Y l (Y.pours.take j):=⟨_,rfl⟩
    have hql : qq.length ≤ j:=by rw [hqq];unfold culpP;rw [List.length_map];exact Nat.le_trans (List.length_filter_le _ _) (by rw [List.length_take];omega)
    rw [← hqq] at HV
    have HQQ:=am hqq
    clear hqq
    obtain ⟨Av,cv,rfl⟩:=Kd.R_slice HV.out
    by_cases hlt : j < Y.pours.length
    ·
     have HT:=am (culpP_snoc (Y:=Y) (l:=l) hlt)
     rw [← HQQ.out] at HT
     obtain ⟨ae,e,hx0⟩:=Kd.at_int (Kd.C_below HO.out HN.out) (j : Int) (by omega) (by omega)
     cases e
     rw [Int.toNat_natCast] at hx0
     obtain ⟨p,hp⟩ : ∃ p,p = rd Y.pours (j : Int):=⟨_,rfl⟩
     rw [← hp] at hx0 HT
     clear hp
     have HQL:=am hql
     clear hql
     go_wp2_with fail
     refine (blamed_calls (HY.out.move HN.out) HWF.out HSL.out B cb l (Kd.C_below HL2.out HN.out) hlb HPK.out p).mono ?_
     rintro e w5 ⟨rfl,hb⟩
     have HN1:=am (below_then HN.out (below_size HN.out) hb)
     have HV1:=am (Kd.R_below HV.out hb)
     clear hb hx0
     obtain ⟨bl,hbl⟩ : ∃ bl,bl = blamedP Y l p:=⟨_,rfl⟩
     rw [← hbl] at HT ⊢
     have HBL:=am hbl
     clear hbl
     obtain ⟨b,i,is⟩:=bl
     cases is with
    |false =>
      have HN2:=am (below_alloc HN1.out (.cells #[ii b.f0,ii b.f1.f0,ii b.f1.f1,ii b.f2.f0,ii b.f2.f1] 139))
      have HV2:=am (Kd.R_alloc HV1.out (.cells #[ii b.f0,ii b.f1.f0,ii b.f1.f1,ii b.f2.f0,ii b.f2.f1] 139))
      go_wp2
      go_roundw
      case rel => exact ⟨j + 1,by omega,by go_num,HN2,⟨by rw [HT.out,if_neg (by simp),List.append_nil];exact HV2.out⟩⟩
      case measure => simp [intOf];omega
    |true =>
      have hok:=blamedP_ok HWF.out HPK.out (pour:=p) (by rw [← HBL.out])
      rw [← HBL.out] at hok
      have HVA:=am (show pit_valid.f FU b.f1.f0 b.f1.f1 = some true by rw [valid_some];exact congrArg some (endOk_valid hok.2.1))
      have HVB:=am (show pit_valid.f FU b.f2.f0 b.f2.f1 = some true by rw [valid_some];exact congrArg some (endOk_valid hok.2.2))
      clear hok
      have HN2:=am (below_alloc HN1.out (.cells #[ii b.f0,ii b.f1.f0,ii b.f1.f1,ii b.f2.f0,ii b.f2.f1] 139))
      have HV2:=am (Kd.R_alloc HV1.out (.cells #[ii b.f0,ii b.f1.f0,ii b.f1.f1,ii b.f2.f0,ii b.f2.f1] 139))
      have HX:=am (blk_new w5 (.cells #[ii b.f0,ii b.f1.f0,ii b.f1.f1,ii b.f2.f0,ii b.f2.f1] 139))
      go_wp2_with fail
      refine (pit_valid.calls FU _ _ _ _ HVA.out).mono ?_
      rintro e w6 ⟨rfl,hb⟩
      have HN3:=am (below_then HN2.out (below_size HN2.out) hb)
      have HV3:=am (Kd.R_below HV2.out hb)
      have HX1:=am (blk_below HX.out hb)
      clear hb
      have g3:=bd HX1.out 3
      have g4:=bd HX1.out 4
      go_wp2_with fail
      refine (pit_valid.calls FU _ _ _ _ HVB.out).mono ?_
      rintro e w7 ⟨rfl,hb⟩
      have HN4:=am (below_then HN3.out (below_size HN3.out) hb)
      have HV4:=am (Kd.R_below HV3.out hb)
      have HX2:=am (blk_below HX1.out hb)
      clear hb g3 g4
      have k0:=bd HX2.out 0
      have k1:=bd HX2.out 1
      have k2:=bd HX2.out 2
      have k3:=bd HX2.out 3
      have k4:=bd HX2.out 4
      have HZ:=am (HN4.out.size)
      go_wp2_with (at_builtin;refine Kd.R_append k139 (w0:=w1) w1.heap.size rfl _ _ 117 139 (.agg #[ii 0,ii 0,ii 0,ii 0,ii 0]) 40 rfl Tryz.underlying117 info139_ rfl (by decide) (by decide) (.slice Av qq.length cv) qq b [ii b.f0,ii b.f1.f0,ii b.f1.f1,ii b.f2.f0,ii b.f2.f1] (fun _ => True) (fun _ => False) rfl rfl (k139_mkM _ _ _ b) (fun _ h => h.elim) (fun _ _ => trivial) HV4.out HN4.out HZ.out (by have:=HQL.out;omega) ?_;intro v3 w8 hr3 hb3 hg3 hat3;have HR3:=am hr3;have HB3:=am hb3;clear hr3 hb3 hg3 hat3 k0 k1 k2 k3 k4)
      go_roundw
      case rel => exact ⟨j + 1,by omega,by go_num,HB3,⟨by rw [HT.out];simp only [if_true];exact HR3.out⟩⟩
      case measure => simp [intOf];omega
    ·
     have hje : j = Y.pours.length:=by omega
     have HE:=am (show qq = culpP Y l Y.pours by rw [HQQ.out,hje,List.take_length])
     have HB9:=am (below_then HB2.out (below_size HB2.out) HN.out)
     go_wp2
     go_ret2
     refine ⟨HB9.out,?_⟩
     dsimp only
     rw [if_pos HG0.out,← HE.out]
     exact ⟨Av,cv,rfl,(Kd.R_reads' HV.out).2.1,Kd.R_F (Kd.R_reok rfl HV.out fun k hk => by have h1:=Kd.R_base HV.out k hk;have h2:=below_size HB2.out;omega)⟩
section
def R246_4.T : Bool × List (List Nat × List Nat):=(true,[([],[]),([],[]),([],[]),([1,2],[1,2]),([3],[3]),([0,4],[0,4])])
def R246_4.B : List Nat:=[0,0,0,6,14,31]
theorem R246_4.tab : rtab .any (opsOf Tryz.f246 4) = R246_4.T:=by kernel_rfl
theorem R246_4.bits : waitsOk R246_4.T.2 R246_4.B = true:=by kernel_rfl
attribute [local go_sem high] eqA89
def eq89 (x y : S89) : Bool:=x.f0 == y.f0 && (x.f1.f0 == y.f1.f0 && x.f1.f1 == y.f1.f1)
theorem eq89_iff {x y : S89} : eq89 x y = true ↔ x = y:=by
 obtain ⟨a,b,c⟩:=x
 obtain ⟨d,e,f⟩:=y
 unfold eq89
 simp
def sameP (a b : List S89) : Bool:=decide (a.length = b.length) && !(a.any fun x => !(b.any fun y => eq89 x y))
set_option maxRecDepth 100000 in
set_option maxHeartbeats 2000000 in
theorem idx246_calls (A : Option Addr) (c : Nat) (l : List S89) (a : S89) (W : World) (hr : Kd.C k89 W A l.length l) (hc : l.length ≤ c) :
  Calls Tryz.prog 246 #[.slice A l.length c,.agg #[ii a.f0,ii a.f1.f0,ii a.f1.f1]] W fun e W' => e = .returned (ii (idxP (eq89 a) l)) ∧ Below W.heap.size W W':=by
 have hu89:=Tryz.underlying89
 have hu43:=Tryz.underlying43
 have hmx:=hr.2.1
 have HC:=am hr
 clear hr
 have HB:=am (Below.refl W.heap.size W)
 have HB1:=am (below_alloc HB.out (.cells #[ii a.f0,ii a.f1.f0,ii a.f1.f1] 89))
 have HX:=am (blk_new W (.cells #[ii a.f0,ii a.f1.f0,ii a.f1.f1] 89))
 go_enter Tryz.func246,Tryz.ntmps246
 go_wp2
 go_loopw [8] (fun v8 wr => ∃ j : Nat,j ≤ l.length ∧ v8 = ii (j : Int) ∧ Aside0 (∀ i (hi : i < l.length),i < j → eq89 a l[i] = false) ∧ Aside0 (Below (W.alloc (.cells #[ii a.f0,ii a.f1.f0,ii a.f1.f1] 89)).heap.size (W.alloc (.cells #[ii a.f0,ii a.f1.f0,ii a.f1.f1] 89)) wr)) (fun v8 _ => l.length - (intOf v8).toNat)
 case atStart => exact ⟨0,Nat.zero_le _,rfl,⟨fun i _ hi => absurd hi (Nat.not_lt_zero _)⟩,⟨Below.refl _ _⟩⟩
 case round =>
  obtain ⟨j,hj,rfl,HP,HN⟩:=hrel
  by_cases hlt : j < l.length
  ·
   obtain ⟨ad,e,hx0,hx1,hx2⟩:=at_T89 (Kd.C_below (Kd.C_alloc HC.out (.cells #[ii a.f0,ii a.f1.f0,ii a.f1.f1] 89)) HN.out) (j : Int) (by omega) (by omega)
   cases e
   rw [Int.toNat_natCast] at hx0 hx1 hx2
   have hx : rd_T89 l (j : Int) = l[j]:=by unfold rd_T89;rw [Int.toNat_natCast,List.getD_eq_getElem?_getD,List.getElem?_eq_getElem hlt];rfl
   obtain ⟨x,hxx⟩ : ∃ x,x = rd_T89 l (j : Int):=⟨_,rfl⟩
   rw [← hxx] at hx0 hx1 hx2 hx
   have HX0:=am hx
   have HXW:=am (blk_drew (blk_below HX.out HN.out))
   have HND:=am (below_drew HN.out)
   have HE0:=am (pw_cell_below (below_drew (Below.refl _ _)) hx0)
   have HE1:=am (pw_cell_below (below_drew (Below.refl _ _)) hx1)
   have HE2:=am (pw_cell_below (below_drew (Below.refl _ _)) hx2)
   clear hx hxx hx0 hx1 hx2
   obtain ⟨k,hk⟩ : ∃ k,k = eq89 a x:=⟨_,rfl⟩
   have HK:=am hk
   have hk2 : (a.f0 == x.f0 && (a.f1.f0 == x.f1.f0 && a.f1.f1 == x.f1.f1)) = k:=hk.symm
   clear hk
   cases k
   ·skip
    go_wp2
    refine start_ (n:=6) (S:=fun w' => w'.cell? ⟨W.heap.size,0,none⟩ = some (ii a.f0) ∧ w'.cell? ⟨W.heap.size,1,none⟩ = some (ii a.f1.f0) ∧ w'.cell? ⟨W.heap.size,2,none⟩ = some (ii a.f1.f1) ∧ w'.cell? (ad.add (j * 3)) = some (ii x.f0) ∧ w'.cell? ⟨(ad.add (j * 3)).block,(ad.add (j * 3)).off + 1,none⟩ = some (ii x.f1.f0) ∧ w'.cell? ⟨(ad.add (j * 3)).block,(ad.add (j * 3)).off + 2,none⟩ = some (ii x.f1.f1)) (ds:=[]) (ab 6 0) kr rfl kr ⟨(blk_cell HXW.out 0).trans rfl,(blk_cell HXW.out 1).trans rfl,(blk_cell HXW.out 2).trans rfl,HE0.out,HE1.out,HE2.out⟩ (fun hHeld => ?_);refine with_tabW R246_4.tab R246_4.bits (fun HT_ HW_ => ?_)
    generalize (wr).drew = wd at HXW HND HE0 HE1 HE2 hHeld ⊢
    refine qT 0 (some 11) ?_;refine qA 1 (some 12) ?_;refine qA 2 (some 13) ?_;refine qA 3 (some 14) ?_;refine qT 4 (some 15) ?_;refine qA 5 (some 16) ?_
    refine done_ (done_of HT_.out kr) ?_
    go_wp2
    go_roundw
    case rel =>
     refine ⟨j + 1,by omega,by go_num,⟨fun i hi hij => ?_⟩,HND⟩
     by_cases ei : i = j
     ·subst ei;rw [← HX0.out];exact HK.out.symm
     ·exact HP.out i hi (by omega)
    case measure => simp [intOf];omega
   ·skip
    go_wp2
    refine start_ (n:=6) (S:=fun w' => w'.cell? ⟨W.heap.size,0,none⟩ = some (ii a.f0) ∧ w'.cell? ⟨W.heap.size,1,none⟩ = some (ii a.f1.f0) ∧ w'.cell? ⟨W.heap.size,2,none⟩ = some (ii a.f1.f1) ∧ w'.cell? (ad.add (j * 3)) = some (ii x.f0) ∧ w'.cell? ⟨(ad.add (j * 3)).block,(ad.add (j * 3)).off + 1,none⟩ = some (ii x.f1.f0) ∧ w'.cell? ⟨(ad.add (j * 3)).block,(ad.add (j * 3)).off + 2,none⟩ = some (ii x.f1.f1)) (ds:=[]) (ab 6 0) kr rfl kr ⟨(blk_cell HXW.out 0).trans rfl,(blk_cell HXW.out 1).trans rfl,(blk_cell HXW.out 2).trans rfl,HE0.out,HE1.out,HE2.out⟩ (fun hHeld => ?_);refine with_tabW R246_4.tab R246_4.bits (fun HT_ HW_ => ?_)
    generalize (wr).drew = wd at HXW HND HE0 HE1 HE2 hHeld ⊢
    refine qT 0 (some 11) ?_;refine qA 1 (some 12) ?_;refine qA 2 (some 13) ?_;refine qA 3 (some 14) ?_;refine qT 4 (some 15) ?_;refine qA 5 (some 16) ?_
    refine done_ (done_of HT_.out kr) ?_
    go_wp2
    go_ret
    exact ⟨by rw [idxP_found (p:=eq89 a) hlt (by rw [← HX0.out];exact HK.out.symm) HP.out];rfl,below_then HB1.out (below_size HB1.out) HND.out⟩
  ·
   go_wp2
   go_ret
   exact ⟨by rw [idxP_none (p:=eq89 a) (fun i hi => HP.out i hi (by omega))];rfl,below_then HB1.out (below_size HB1.out) HN.out⟩
set_option maxRecDepth 100000 in
set_option maxHeartbeats 2000000 in
theorem cont228_calls (A : Option Addr) (c : Nat) (l : List S89) (a : S89) (W : World) (hr : Kd.C k89 W A l.length l) (hc : l.length ≤ c) :
  Calls Tryz.prog 228 #[.slice A l.length c,.agg #[ii a.f0,ii a.f1.f0,ii a.f1.f1]] W fun e W' => e = .returned (.bool (l.any (eq89 a))) ∧ Below W.heap.size W W':=by
 have hu89:=Tryz.underlying89
 have hu43:=Tryz.underlying43
 have HC:=am (Kd.C_alloc hr (.cells #[ii a.f0,ii a.f1.f0,ii a.f1.f1] 89))
 have HB:=am (below_alloc (Below.refl W.heap.size W) (.cells #[ii a.f0,ii a.f1.f0,ii a.f1.f1] 89))
 clear hr
 have hnn:=idxP_nn (p:=eq89 a) (l:=l)
 obtain ⟨i,hi⟩ : ∃ i,i = idxP (eq89 a) l:=⟨_,rfl⟩
 rw [← hi] at hnn
 have HI:=am hi.symm
 have HNN:=am hnn
 clear hi hnn
 go_enter Tryz.func228,Tryz.ntmps228
 go_wp2_with fail
 refine (idx246_calls A c l a _ HC.out hc).mono ?_
 rintro e w1 ⟨rfl,hb⟩
 rw [HI.out]
 have HB1:=am (below_then HB.out (below_size HB.out) hb)
 clear hb
 go_wp2
 go_ret
 exact ⟨by rw [← HNN.out];rfl,HB1.out⟩
set_option maxRecDepth 100000 in
set_option maxHeartbeats 2000000 in
theorem cl227_calls (B : Option Addr) (c : Nat) (l : List S89) (gb : Nat) (x : S89) (w : World) (hr : Kd.C k89 w B l.length l) (hc : l.length ≤ c) (hgb : w.heap[gb]? = some (.cells #[.slice B l.length c] 55 (0,0))) :
  Calls Tryz.prog 227 (#[.agg #[ii x.f0,ii x.f1.f0,ii x.f1.f1]] ++ #[.pointer (some ⟨gb,0,none⟩)]) w fun e w' => e = .returned (.bool (!(l.any (eq89 x)))) ∧ Below w.heap.size w w':=by
 have hu89:=Tryz.underlying89
 have hu43:=Tryz.underlying43
 have HC:=am (Kd.C_alloc hr (.cells #[ii x.f0,ii x.f1.f0,ii x.f1.f1] 89))
 have HB:=am (below_alloc (Below.refl w.heap.size w) (.cells #[ii x.f0,ii x.f1.f0,ii x.f1.f1] 89))
 have g0 : (w.alloc (.cells #[ii x.f0,ii x.f1.f0,ii x.f1.f1] 89)).cell? ⟨gb,0,none⟩ = some (.slice B l.length c):=(blk_cell (blk_alloc hgb (.cells #[ii x.f0,ii x.f1.f0,ii x.f1.f1] 89)) 0).trans rfl
 clear hr hgb
 obtain ⟨k,hk⟩ : ∃ k,k = l.any (eq89 x):=⟨_,rfl⟩
 have HK:=am hk
 rw [← hk]
 clear hk
 go_enter Tryz.func227,Tryz.ntmps227
 go_wp2_with fail
 refine (cont228_calls B c l x _ HC.out hc).mono ?_
 rintro e w1 ⟨rfl,hb⟩
 rw [← HK.out]
 have HB1:=am (below_then HB.out (below_size HB.out) hb)
 clear hb
 go_wp2
 go_ret
 exact ⟨rfl,HB1.out⟩
set_option maxRecDepth 100000 in
set_option maxHeartbeats 2000000 in
theorem same_calls (A B : Option Addr) (c d : Nat) (l m : List S89) (W : World) (hr : Kd.C k89 W A l.length l) (hc : l.length ≤ c) (hs : Kd.C k89 W B m.length m) (hd : m.length ≤ d) :
  Calls Tryz.prog 178 #[.slice A l.length c,.slice B m.length d] W fun e W' => e = .returned (.bool (sameP l m)) ∧ Below W.heap.size W W':=by
 have hmf : ∀ (fn : Fn) (first cap : Array Value) (w : World),(Instr.makeFunc fn first cap).run Tryz.prog w = .ok (.func fn first cap) w:=fun _ _ _ _ => rfl
 have hmx:=hr.2.1
 have hmy:=hs.2.1
 have HC:=am (hr)
 have HD:=am (hs)
 have HB:=am (Below.refl W.heap.size W)
 have HC1:=am (Kd.C_alloc HC.out (.cells #[.slice B m.length d] 55))
 have HD1:=am (Kd.C_alloc HD.out (.cells #[.slice B m.length d] 55))
 have HB1:=am (below_alloc HB.out (.cells #[.slice B m.length d] 55))
 have HX:=am (blk_new W (.cells #[.slice B m.length d] 55))
 clear hr hs
 obtain ⟨k,hk⟩ : ∃ k,k = l.any (fun x => !(m.any (eq89 x))):=⟨_,rfl⟩
 have HS:=am (show sameP l m = (decide (l.length = m.length) && !k) by rw [hk];rfl)
 have HH:=am (has226_calls A c l (fun x => !(m.any (eq89 x))) 227 #[.pointer (some ⟨W.heap.size,0,none⟩)] (fun w => Below (W.alloc (.cells #[.slice B m.length d] 55)).heap.size (W.alloc (.cells #[.slice B m.length d] 55)) w) (W.alloc (.cells #[.slice B m.length d] 55)) HC1.out hc (enters_of Tryz.func227 kr rfl) (Below.refl _ _) (fun w w' h hb => below_then h (below_size h) hb) (fun x w _ h => cl227_calls B d m W.heap.size x w (Kd.C_below HD1.out h) hd (blk_below HX.out h)))
 rw [← hk] at HH
 clear hk
 go_enter Tryz.func178,Tryz.ntmps178
 by_cases hlen : l.length = m.length
 ·
  have HE:=am (show sameP l m = !k by rw [HS.out,decide_eq_true hlen,Bool.true_and])
  have hq : ((l.length : Int) == (m.length : Int)) = true:=by simp [hlen]
  clear hlen
  go_wp2_with fail
  refine HH.out.mono ?_
  rintro e w1 ⟨rfl,hb⟩
  have HB9:=am (below_then HB1.out (below_size HB1.out) hb)
  clear hb
  go_wp2
  go_ret
  exact ⟨by rw [HE.out];rfl,HB9.out⟩
 ·
  have HE:=am (show sameP l m = false by rw [HS.out,decide_eq_false hlen,Bool.false_and])
  have hq : ((l.length : Int) == (m.length : Int)) = false:=by simp;omega
  clear hlen
  go_wp2
  go_ret
  exact ⟨by rw [HE.out];rfl,HB1.out⟩
end
def eqPar (x y : S212) : Bool:=decide (x.f0 = y.f0) && sameP x.f1 y.f1
def eqAll {α : Type} (p : α → α → Bool) : List α → List α → Bool
|[],[] => true
|x :: a,y :: b => p x y && eqAll p a b
|_,_ => false
theorem eqAll_len {α : Type} {p : α → α → Bool} : ∀ {a b : List α},a.length ≠ b.length → eqAll p a b = false
|[],[],h => absurd rfl h
|[],_ :: _,_ => rfl
|_ :: _,[],_ => rfl
|x :: a,y :: b,h => by
  simp only [eqAll]
  rw [eqAll_len (a:=a) (b:=b) (by simpa using h),Bool.and_false]
set_option maxRecDepth 100000 in
set_option maxHeartbeats 2000000 in
theorem cl182_calls (A B : Option Addr) (c d : Nat) (x y : S212) (W : World) (hr : Kd.C k89 W A x.f1.length x.f1) (hc : x.f1.length ≤ c) (hs : Kd.C k89 W B y.f1.length y.f1) (hd : y.f1.length ≤ d) :
  Calls Tryz.prog 182 #[.agg #[ii x.f0,.slice A x.f1.length c],.agg #[ii y.f0,.slice B y.f1.length d]] W fun e W' => e = .returned (.bool (eqPar x y)) ∧ Below W.heap.size W W':=by
 have hu212:=Tryz.underlying212
 have HC:=am (hr)
 have HD:=am (hs)
 have HB:=am (Below.refl W.heap.size W)
 have HC1:=am (Kd.C_alloc HC.out (.cells #[ii x.f0,.slice A x.f1.length c] 212))
 have HD1:=am (Kd.C_alloc HD.out (.cells #[ii x.f0,.slice A x.f1.length c] 212))
 have HB1:=am (below_alloc HB.out (.cells #[ii x.f0,.slice A x.f1.length c] 212))
 have HC2:=am (Kd.C_alloc HC1.out (.cells #[ii y.f0,.slice B y.f1.length d] 212))
 have HD2:=am (Kd.C_alloc HD1.out (.cells #[ii y.f0,.slice B y.f1.length d] 212))
 have HB2:=am (below_alloc HB1.out (.cells #[ii y.f0,.slice B y.f1.length d] 212))
 have HX:=am (blk_alloc (blk_new W (.cells #[ii x.f0,.slice A x.f1.length c] 212)) (.cells #[ii y.f0,.slice B y.f1.length d] 212))
 clear hr hs
 have hx0:=bd HX.out 0
 have hx1:=bd HX.out 1
 by_cases h0 : x.f0 = y.f0
 ·
  have hq : (x.f0 == y.f0) = true:=by simp [h0]
  have HE:=am (show eqPar x y = sameP x.f1 y.f1 by unfold eqPar;rw [decide_eq_true h0,Bool.true_and])
  clear h0
  go_enter Tryz.func182,Tryz.ntmps182
  go_wp2_with fail
  refine (same_calls A B c d x.f1 y.f1 _ HC2.out hc HD2.out hd).mono ?_
  rintro e w1 ⟨rfl,hb⟩
  have HB9:=am (below_then HB2.out (below_size HB2.out) hb)
  clear hb
  obtain ⟨k,hk⟩ : ∃ k,k = sameP x.f1 y.f1:=⟨_,rfl⟩
  rw [← hk] at HE ⊢
  clear hk hx0 hx1
  go_wp2
  go_ret
  exact ⟨by rw [HE.out];rfl,HB9.out⟩
 ·
  have hq : (x.f0 == y.f0) = false:=by simpa using h0
  have HE:=am (show eqPar x y = false by unfold eqPar;rw [decide_eq_false h0,Bool.false_and])
  clear h0
  go_enter Tryz.func182,Tryz.ntmps182
  go_wp2
  go_ret
  exact ⟨by rw [HE.out];rfl,HB2.out⟩
theorem drop_rd212 {l : List S212} {j : Nat} (h : j < l.length) : l.drop j = rd_T212 l (j : Int) :: l.drop (j + 1):=by
 rw [List.drop_eq_getElem_cons h];unfold rd_T212;rw [Int.toNat_natCast,List.getD_eq_getElem?_getD,List.getElem?_eq_getElem h];rfl
set_option maxRecDepth 100000 in
set_option maxHeartbeats 2000000 in
theorem eq181_calls (A B : Option Addr) (c d : Nat) (l m : List S212) (W : World) (hr : Kd.C k212 W A l.length l) (hc : l.length ≤ c) (hs : Kd.C k212 W B m.length m) (hd : m.length ≤ d) :
  Calls Tryz.prog 181 #[.slice A l.length c,.slice B m.length d,.func (.func 182) #[] #[]] W fun e W' => e = .returned (.bool (eqAll eqPar l m)) ∧ Below W.heap.size W W':=by
 have hu212:=Tryz.underlying212
 have hmx:=hr.2.1
 have HC:=am hr
 have HD:=am hs
 clear hr hs
 have ek182 : ∀ args w,(callFunc 182 args).run Tryz.prog w = .ok (.enter 182 args) w:=enters_of Tryz.func182 kr rfl
 go_enter Tryz.func181,Tryz.ntmps181
 by_cases hlen : l.length = m.length
 ·
  have hq : ((l.length : Int) == (m.length : Int)) = true:=by simp [hlen]
  have hq2 : ((l.length : Int) != (m.length : Int)) = false:=by simp [hlen]
  have HLN:=am hlen
  have hmc : l.length ≤ d:=by omega
  clear hlen
  obtain ⟨q,hqq⟩ : ∃ q,q = eqAll eqPar l m:=⟨_,rfl⟩
  rw [← hqq]
  have HQ:=am hqq
  clear hqq
  go_wp2
  clear hq hq2
  go_loopw [17] (fun v17 wr => ∃ j : Nat,j ≤ l.length ∧ v17 = ii (j : Int) ∧ Aside0 (q = eqAll eqPar (l.drop j) (m.drop j)) ∧ Aside0 (Below W.heap.size W wr)) (fun v17 _ => l.length - (intOf v17).toNat)
  case atStart => exact ⟨0,Nat.zero_le _,rfl,⟨HQ.out⟩,⟨Below.refl _ _⟩⟩
  case round =>
   obtain ⟨j,hj,rfl,HA,HN⟩:=hrel
   by_cases hlt : j < l.length
   ·
    have hltm : j < m.length:=by have:=HLN.out;omega
    obtain ⟨ae,A1,c1,e,hx0,hx1,hl1,hC1⟩:=at_T212 (Kd.C_below HC.out HN.out) (j : Int) (by omega) (by omega)
    cases e
    obtain ⟨be,B1,d1,e,hy0,hy1,hl2,hC2⟩:=at_T212 (Kd.C_below HD.out HN.out) (j : Int) (by omega) (by omega)
    cases e
    rw [Int.toNat_natCast] at hx0 hx1 hy0 hy1
    rw [drop_rd212 hlt,drop_rd212 hltm] at HA
    obtain ⟨x,hx⟩ : ∃ x,x = rd_T212 l (j : Int):=⟨_,rfl⟩
    obtain ⟨y,hy⟩ : ∃ y,y = rd_T212 m (j : Int):=⟨_,rfl⟩
    rw [← hx] at hx0 hx1 hl1 hC1 HA
    rw [← hy] at hy0 hy1 hl2 hC2 HA
    clear hx hy
    have hltd:=hltm
    clear hltm
    have hjm : (j : Int) < (m.length : Int):=by omega
    have H1:=am (hC1)
    have H2:=am (hC2)
    have HL1:=am hl1
    have HL2:=am hl2
    clear hC1 hC2 hl1 hl2
    have hz0:=pw_cell_below (below_alloc (Below.refl _ _) (.cells #[ii x.f0,.slice A1 x.f1.length c1] 212)) hy0
    have hz1:=pw_cell_below (below_alloc (Below.refl _ _) (.cells #[ii x.f0,.slice A1 x.f1.length c1] 212)) hy1
    have HN1:=am (below_alloc HN.out (.cells #[ii x.f0,.slice A1 x.f1.length c1] 212))
    have H11:=am (Kd.C_alloc H1.out (.cells #[ii x.f0,.slice A1 x.f1.length c1] 212))
    have H21:=am (Kd.C_alloc H2.out (.cells #[ii x.f0,.slice A1 x.f1.length c1] 212))
    have HX:=am (blk_new wr (.cells #[ii x.f0,.slice A1 x.f1.length c1] 212))
    have HN2:=am (below_alloc HN1.out (.cells #[ii y.f0,.slice B1 y.f1.length d1] 212))
    have H12:=am (Kd.C_alloc H11.out (.cells #[ii y.f0,.slice B1 y.f1.length d1] 212))
    have H22:=am (Kd.C_alloc H21.out (.cells #[ii y.f0,.slice B1 y.f1.length d1] 212))
    have HX1:=am (blk_alloc HX.out (.cells #[ii y.f0,.slice B1 y.f1.length d1] 212))
    have g0:=bd HX1.out 0
    have g1:=bd HX1.out 1
    obtain ⟨k,hk⟩ : ∃ k,k = eqPar x y:=⟨_,rfl⟩
    have HK:=am hk
    clear hk
    go_wp2_with fail
    refine (cl182_calls A1 B1 c1 d1 x y _ H12.out HL1.out H22.out HL2.out).mono ?_
    rintro e w5 ⟨rfl,hb⟩
    rw [← HK.out]
    have HN3:=am (below_then HN2.out (below_size HN2.out) hb)
    clear hb g0 g1 hx0 hx1 hy0 hy1 hz0 hz1
    cases k with
   |false =>
     go_wp2
     go_ret
     exact ⟨by rw [HA.out];simp only [eqAll];rw [← HK.out];rfl,HN3.out⟩
   |true =>
     go_wp2
     go_roundw
     case rel => exact ⟨j + 1,by omega,by go_num,⟨by rw [HA.out];simp only [eqAll];rw [← HK.out,Bool.true_and]⟩,HN3⟩
     case measure => simp [intOf];omega
   ·
    have HE:=am (show q = true by rw [HA.out,List.drop_eq_nil_of_le (by omega),List.drop_eq_nil_of_le (by have:=HLN.out;omega)];rfl)
    go_wp2
    go_ret
    exact ⟨by rw [HE.out];rfl,HN.out⟩
 ·
  have hq2 : ((l.length : Int) != (m.length : Int)) = true:=by simp;omega
  have HE:=am (eqAll_len (p:=eqPar) hlen)
  clear hlen
  go_wp2
  go_ret
  exact ⟨by rw [HE.out];rfl,Below.refl _ _⟩
set_option maxRecDepth 100000 in
set_option maxHeartbeats 2000000 in
theorem cl180_calls (A B : Option Addr) (c d : Nat) (l m : List S212) (W : World) (hr : Kd.C k212 W A l.length l) (hc : l.length ≤ c) (hs : Kd.C k212 W B m.length m) (hd : m.length ≤ d) :
  Calls Tryz.prog 180 #[.slice A l.length c,.slice B m.length d] W fun e W' => e = .returned (.bool (eqAll eqPar l m)) ∧ Below W.heap.size W W':=by
 have HH:=am (eq181_calls A B c d l m W hr hc hs hd)
 clear hr hs
 go_enter Tryz.func180,Tryz.ntmps180
 go_wp2_with fail
 refine HH.out.mono ?_
 rintro e w1 ⟨rfl,hb⟩
 have HB:=am hb
 clear hb
 go_wp2
 go_ret
 exact ⟨rfl,HB.out⟩
def R125_8.T : Bool × List (List Nat × List Nat):=(true,[([],[]),([0],[0]),([1],[1]),([2],[2]),([],[]),([4],[4]),([5],[5]),([6],[6]),([3,7],[3,7]),([8,8,0,1,2,3,4,5,6,7,8],[8])])
def R125_8.B : List Nat:=[0,1,3,7,0,16,48,112,255,511]
theorem R125_8.tab : rtab .any (opsOf Tryz.f125 8) = R125_8.T:=by kernel_rfl
theorem R125_8.bits : waitsOk R125_8.T.2 R125_8.B = true:=by kernel_rfl
theorem at_pit {w : World} {A : Option Addr} {n : Nat} {xs : List (List S212)} (h : Kd.C (Kd.slice 212 k212) w A n xs) (i : Int) (h0 : 0 ≤ i) (h1 : i < n) : ∃ ad A1 c1,A = some ad ∧ w.cell? (ad.add i.toNat) = some (.slice A1 (xs.getD i.toNat []).length c1) ∧ (xs.getD i.toNat []).length ≤ c1 ∧ Kd.C k212 w A1 (xs.getD i.toNat []).length (xs.getD i.toNat []):=by
 obtain ⟨ad,cs,e,_,hK,hcc⟩:=Kd.C_get h [] i h0 h1
 obtain ⟨A1,c1,rfl,hl,hC⟩:=hK
 have hc:=hcc 0 _ rfl
 have e1 : i.toNat * (Kd.slice 212 k212).sz + 0 = i.toNat:=by show i.toNat * 1 + 0 = _;omega
 rw [e1] at hc
 exact ⟨ad,A1,c1,e,hc,hl,hC⟩
theorem drop_pit {l : List (List S212)} {j : Nat} (h : j < l.length) : l.drop j = l.getD j [] :: l.drop (j + 1):=by
 rw [List.drop_eq_getElem_cons h,List.getD_eq_getElem?_getD,List.getElem?_eq_getElem h];rfl
def alikeOne (b : Yd) (x : S167) : Bool:=match b.barrows.find? (isId x.f0) with
|none => false
|some y => sameP x.f3 y.f3
def alikeP (a b : Yd) : Bool:=a.barrows.all (alikeOne b) && eqAll (eqAll eqPar) a.pits b.pits
theorem drop_rd167 {l : List S167} {j : Nat} (h : j < l.length) : l.drop j = rd_T167 l (j : Int) :: l.drop (j + 1):=by
 rw [List.drop_eq_getElem_cons h];unfold rd_T167;rw [Int.toNat_natCast,List.getD_eq_getElem?_getD,List.getElem?_eq_getElem h];rfl
theorem YardAt.pits_C {W : World} {base : Nat} {L : Loc} {Y : Yd} (h : YardAt W base L Y) : Kd.C (Kd.slice 212 k212) W (some ⟨L.gp,0,none⟩) Y.pits.length Y.pits:=by
 obtain ⟨A,c,e,hl,hC⟩:=Kd.R_reads h.pits
 injection e with e1 e2 e3
 rw [e1]
 exact hC.imp_ (Below.refl _ _) fun _ _ hp => Foot.now hp
set_option maxRecDepth 100000 in
set_option maxHeartbeats 2000000 in
theorem eq179_calls (A B : Option Addr) (c d : Nat) (l m : List (List S212)) (W : World) (hr : Kd.C (Kd.slice 212 k212) W A l.length l) (hc : l.length ≤ c) (hs : Kd.C (Kd.slice 212 k212) W B m.length m) (hd : m.length ≤ d) :
  Calls Tryz.prog 179 #[.slice A l.length c,.slice B m.length d,.func (.func 180) #[] #[]] W fun e W' => e = .returned (.bool (eqAll (eqAll eqPar) l m)) ∧ Below W.heap.size W W':=by
 have hmx:=hr.2.1
 have HC:=am hr
 have HD:=am hs
 clear hr hs
 have ek180 : ∀ args w,(callFunc 180 args).run Tryz.prog w = .ok (.enter 180 args) w:=enters_of Tryz.func180 kr rfl
 go_enter Tryz.func179,Tryz.ntmps179
 by_cases hlen : l.length = m.length
 ·
  have hq : ((l.length : Int) == (m.length : Int)) = true:=by simp [hlen]
  have hq2 : ((l.length : Int) != (m.length : Int)) = false:=by simp [hlen]
  have HLN:=am hlen
  have hmc : l.length ≤ d:=by omega
  clear hlen
  obtain ⟨q,hqq⟩ : ∃ q,q = eqAll (eqAll eqPar) l m:=⟨_,rfl⟩
  rw [← hqq]
  have HQ:=am hqq
  clear hqq
  go_wp2
  clear hq hq2
  go_loopw [17] (fun v17 wr => ∃ j : Nat,j ≤ l.length ∧ v17 = ii (j : Int) ∧ Aside0 (q = eqAll (eqAll eqPar) (l.drop j) (m.drop j)) ∧ Aside0 (Below W.heap.size W wr)) (fun v17 _ => l.length - (intOf v17).toNat)
  case atStart => exact ⟨0,Nat.zero_le _,rfl,⟨HQ.out⟩,⟨Below.refl _ _⟩⟩
  case round =>
   obtain ⟨j,hj,rfl,HA,HN⟩:=hrel
   by_cases hlt : j < l.length
   ·
    have hltm : j < m.length:=by have:=HLN.out;omega
    obtain ⟨ae,A1,c1,e,hx0,hl1,hC1⟩:=at_pit (Kd.C_below HC.out HN.out) (j : Int) (by omega) (by omega)
    cases e
    obtain ⟨be,B1,d1,e,hy0,hl2,hC2⟩:=at_pit (Kd.C_below HD.out HN.out) (j : Int) (by omega) (by omega)
    cases e
    rw [Int.toNat_natCast] at hx0 hl1 hC1 hy0 hl2 hC2
    rw [drop_pit hlt,drop_pit hltm] at HA
    obtain ⟨x,hx⟩ : ∃ x,x = l.getD j []:=⟨_,rfl⟩
    obtain ⟨y,hy⟩ : ∃ y,y = m.getD j []:=⟨_,rfl⟩
    rw [← hx] at hx0 hl1 hC1 HA
    rw [← hy] at hy0 hl2 hC2 HA
    clear hx hy
    have hjm : (j : Int) < (m.length : Int):=by omega
    have H1:=am (hC1)
    have H2:=am (hC2)
    have HL1:=am hl1
    have HL2:=am hl2
    clear hC1 hC2 hl1 hl2
    obtain ⟨k,hk⟩ : ∃ k,k = eqAll eqPar x y:=⟨_,rfl⟩
    have HK:=am hk
    clear hk
    go_wp2_with fail
    refine (cl180_calls A1 B1 c1 d1 x y _ H1.out HL1.out H2.out HL2.out).mono ?_
    rintro e w5 ⟨rfl,hb⟩
    rw [← HK.out]
    have HN1:=am (below_then HN.out (below_size HN.out) hb)
    clear hb hx0 hy0
    cases k with
   |false =>
     go_wp2
     go_ret
     exact ⟨by rw [HA.out];simp only [eqAll];rw [← HK.out];rfl,HN1.out⟩
   |true =>
     go_wp2
     go_roundw
     case rel => exact ⟨j + 1,by omega,by go_num,⟨by rw [HA.out];simp only [eqAll];rw [← HK.out,Bool.true_and]⟩,HN1⟩
     case measure => simp [intOf];omega
   ·
    have HE:=am (show q = true by rw [HA.out,List.drop_eq_nil_of_le (by omega),List.drop_eq_nil_of_le (by have:=HLN.out;omega)];rfl)
    go_wp2
    go_ret
    exact ⟨by rw [HE.out];rfl,HN.out⟩
 ·
  have hq2 : ((l.length : Int) != (m.length : Int)) = true:=by simp;omega
  have HE:=am (eqAll_len (p:=eqAll eqPar) hlen)
  clear hlen
  go_wp2
  go_ret
  exact ⟨by rw [HE.out];rfl,Below.refl _ _⟩
set_option maxRecDepth 100000 in
set_option maxHeartbeats 2000000 in
theorem alike_calls {W : World} {base base2 n : Nat} {L M : Loc} {Y Z : Yd} (ha : YardAt W base L Y) (hz : YardAt W base2 M Z) (hw2 : Wf n Z) (hn : n ≤ 60) :
  Calls Tryz.prog 125 #[.pointer (some ⟨L.g,0,none⟩),.pointer (some ⟨M.g,0,none⟩)] W fun e W' => e = .returned (.bool (alikeP Y Z)) ∧ Below W.heap.size W W':=by
 have hu167:=Tryz.underlying167
 obtain ⟨Ab,cb,hb,hlb,hCb⟩:=Kd.R_reads ha.barrows
 have hCb' : Kd.C k167 W Ab Y.barrows.length Y.barrows:=hCb.imp_ (Below.refl _ _) fun _ _ hp => Foot.now hp
 have hB:=ha.blk
 rw [hb] at hB
 have hmx:=hCb.2.1
 have hpl:=ha.plen
 have hpz:=hz.plen
 have g4:=bd hB 4
 have HW2:=am hw2
 have HC:=am (hCb')
 have HA:=am (ha)
 have HZ:=am (hz)
 clear ha hz hb hCb hCb' hB hw2
 obtain ⟨q,hqq⟩ : ∃ q,q = alikeP Y Z:=⟨_,rfl⟩
 rw [← hqq]
 have HQ:=am (show q = (Y.barrows.all (alikeOne Z) && eqAll (eqAll eqPar) Y.pits Z.pits) from hqq)
 clear hqq
 go_enter Tryz.func125,Tryz.ntmps125
 go_wp2
 clear g4
 go_loopw [14] (fun v14 wr => ∃ j : Nat,j ≤ Y.barrows.length ∧ v14 = ii (j : Int) ∧ Aside0 (q = ((Y.barrows.drop j).all (alikeOne Z) && eqAll (eqAll eqPar) Y.pits Z.pits)) ∧ Aside0 (Below W.heap.size W wr)) (fun v14 _ => Y.barrows.length - (intOf v14).toNat)
 case atStart => exact ⟨0,Nat.zero_le _,rfl,⟨HQ.out⟩,⟨Below.refl _ _⟩⟩
 case round =>
  obtain ⟨j,hj,rfl,HT,HN⟩:=hrel
  by_cases hlt : j < Y.barrows.length
  ·
   obtain ⟨ae,A3,c3,e,hx0,hx1,hx2,hx3,hl3,hC3⟩:=at_T167 (Kd.C_below HC.out HN.out) (j : Int) (by omega) (by omega)
   cases e
   rw [Int.toNat_natCast] at hx0 hx1 hx2 hx3
   rw [drop_rd167 hlt,List.all_cons] at HT
   obtain ⟨b,hb⟩ : ∃ b,b = rd_T167 Y.barrows (j : Int):=⟨_,rfl⟩
   rw [← hb] at hx0 hx1 hx2 hx3 hl3 hC3 HT
   clear hb
   have H3:=am (hC3)
   have HL3:=am hl3
   clear hC3 hl3
   have HN1:=am (below_alloc HN.out (.cells #[ii b.f0,ii b.f1,ii b.f2,.slice A3 b.f3.length c3] 167))
   have H31:=am (Kd.C_alloc H3.out (.cells #[ii b.f0,ii b.f1,ii b.f2,.slice A3 b.f3.length c3] 167))
   have HX:=am (blk_new wr (.cells #[ii b.f0,ii b.f1,ii b.f2,.slice A3 b.f3.length c3] 167))
   go_wp2_with fail
   refine (find_calls (HZ.out.move HN1.out) HW2.out hn b.f0).mono ?_
   rintro e w5 ⟨hb,h⟩
   have HN2:=am (below_then HN1.out (below_size HN1.out) hb)
   have H32:=am (Kd.C_below H31.out hb)
   have HX1:=am (blk_below HX.out hb)
   clear hb hx0 hx1 hx2 hx3
   rcases h with ⟨hno,rfl⟩|⟨z,A4,c4,hfd,rfl,hl4,hF4⟩
   ·
    have HE:=am (show q = false by rw [HT.out];unfold alikeOne;rw [find_none_of hno];rfl)
    clear hno
    have HN3:=am (below_alloc HN2.out (.cells #[ii 0,ii 0,ii 0,.slice none 0 0] 167))
    have H33:=am (Kd.C_alloc H32.out (.cells #[ii 0,ii 0,ii 0,.slice none 0 0] 167))
    have HX2:=am (blk_alloc HX1.out (.cells #[ii 0,ii 0,ii 0,.slice none 0 0] 167))
    go_wp2
    go_ret
    exact ⟨by rw [HE.out];rfl,HN3.out⟩
   ·
    have HAO:=am (show alikeOne Z b = sameP b.f3 z.f3 by unfold alikeOne;rw [hfd])
    have HL4:=am hl4
    have H4:=am (Kd.F_now hF4)
    clear hfd hl4 hF4
    have HN3:=am (below_alloc HN2.out (.cells #[ii z.f0,ii z.f1,ii z.f2,.slice A4 z.f3.length c4] 167))
    have H33:=am (Kd.C_alloc H32.out (.cells #[ii z.f0,ii z.f1,ii z.f2,.slice A4 z.f3.length c4] 167))
    have HX2:=am (blk_alloc HX1.out (.cells #[ii z.f0,ii z.f1,ii z.f2,.slice A4 z.f3.length c4] 167))
    have H41:=am (Kd.C_alloc H4.out (.cells #[ii z.f0,ii z.f1,ii z.f2,.slice A4 z.f3.length c4] 167))
    have g3:=bd HX2.out 3
    obtain ⟨k,hk⟩ : ∃ k,k = sameP b.f3 z.f3:=⟨_,rfl⟩
    rw [← hk] at HAO
    have HK:=am hk
    clear hk
    go_wp2_with fail
    refine (same_calls A3 A4 c3 c4 b.f3 z.f3 _ H33.out HL3.out H41.out HL4.out).mono ?_
    rintro e w6 ⟨rfl,hb⟩
    rw [← HK.out]
    have HN4:=am (below_then HN3.out (below_size HN3.out) hb)
    clear hb g3
    cases k with
   |false =>
     go_wp2
     go_ret
     exact ⟨by rw [HT.out,HAO.out];rfl,HN4.out⟩
   |true =>
     go_wp2
     go_roundw
     case rel => exact ⟨j + 1,by omega,by go_num,⟨by rw [HT.out,HAO.out,Bool.true_and]⟩,HN4⟩
     case measure => simp [intOf];omega
  ·
   have HE:=am (show q = eqAll (eqAll eqPar) Y.pits Z.pits by rw [HT.out,List.drop_eq_nil_of_le (by omega)];rfl)
   have HBD:=am (below_drew HN.out)
   have HA9:=am (HA.out.move (below_drew HN.out))
   have HZ9:=am (HZ.out.move (below_drew HN.out))
   go_wp2
   refine start_ (n:=10) (S:=fun w' => w'.cell? ⟨L.g,1,none⟩ = some (.slice (some ⟨L.gp,0,none⟩) Y.rooms.length Y.rooms.length) ∧ w'.cell? ⟨M.g,1,none⟩ = some (.slice (some ⟨M.gp,0,none⟩) Z.rooms.length Z.rooms.length)) (ds:=[]) (ab 10 0) kr rfl kr ⟨(blk_cell HA9.out.blk 1).trans rfl,(blk_cell HZ9.out.blk 1).trans rfl⟩ (fun hHeld => ?_);refine with_tabW R125_8.tab R125_8.bits (fun HT_ HW_ => ?_)
   generalize (wr).drew = wd at HBD HA9 HZ9 hHeld ⊢
   refine qA 0 (some 36) ?_;refine qA 1 (some 37) ?_;refine qA 2 (some 38) ?_;refine qT 3 (some 39) ?_;refine qA 4 (some 40) ?_;refine qA 5 (some 41) ?_;refine qA 6 (some 42) ?_;refine qT 7 (some 43) ?_
   refine qE 8 (some 44) fun K hK => ?_
   refine gC Tryz.func179 #[.slice (some ⟨L.gp,0,none⟩) Y.rooms.length Y.rooms.length,.slice (some ⟨M.gp,0,none⟩) Z.rooms.length Z.rooms.length,.func (.func 180) #[] #[]] ?_
   have hh:=eq179_calls (some ⟨L.gp,0,none⟩) (some ⟨M.gp,0,none⟩) Y.rooms.length Z.rooms.length Y.pits Z.pits wd HA9.out.pits_C (by omega) HZ9.out.pits_C (by omega)
   rw [hpl,hpz] at hh
   refine hh.mono ?_
   rintro e w6 ⟨rfl,hb⟩
   have HB6:=am (below_then HBD.out (below_size HBD.out) hb)
   have HA6:=am (HA9.out.move hb)
   have HZ6:=am (HZ9.out.move hb)
   clear hb
   rw [← HE.out]
   refine ⟨_,rfl,?_⟩
   refine hK.out _ _ ⟨(blk_cell HA6.out.blk 1).trans rfl,(blk_cell HZ6.out.blk 1).trans rfl⟩ (fun hHeld => ?_)
   clear hK K
   refine qN (some 44) ?_
   refine qA 9 (some 4) ?_
   refine done_ (done_of HT_.out kr) ?_
   go_wp2
   go_ret
   exact ⟨rfl,HB6.out⟩
theorem at_pitF {W0 w : World} {ok0 : Nat → Prop} {A : Option Addr} {n : Nat} {xs : List (List S212)} (h : Kd.C (ft (Kd.slice 212 k212) W0 ok0) w A n xs) (i : Int) (h0 : 0 ≤ i) (h1 : i < n) : ∃ ad A1 c1,A = some ad ∧ w.cell? (ad.add i.toNat) = some (.slice A1 (xs.getD i.toNat []).length c1) ∧ (xs.getD i.toNat []).length ≤ c1 ∧ Kd.F k212 W0 ok0 A1 (xs.getD i.toNat []).length (xs.getD i.toNat []):=by
 obtain ⟨ad,cs,e,_,hK,hcc⟩:=Kd.C_get h [] i h0 h1
 have hM : Kd.FK (Kd.slice 212 k212) W0 ok0 (xs.getD i.toNat []) cs:=hK
 obtain ⟨A1,c1,e1,hl,_⟩:=Foot.now hM
 subst e1
 have hc:=hcc 0 _ rfl
 have e2 : i.toNat * (ft (Kd.slice 212 k212) W0 ok0).sz + 0 = i.toNat:=by show i.toNat * 1 + 0 = _;omega
 rw [e2] at hc
 refine ⟨ad,A1,c1,e,hc,hl,fun W2 hW => ?_⟩
 obtain ⟨A',c',e',_,hC⟩:=hM W2 hW
 injection e' with e' _
 injection e' with ea _ _
 rw [ea]
 exact hC
theorem flat_take {l : List (List S212)} {j : Nat} (h : j < l.length) : (l.take (j + 1)).flatten = (l.take j).flatten ++ l.getD j []:=by
 rw [List.take_succ_eq_append_getElem h,List.flatten_append,List.getD_eq_getElem?_getD,List.getElem?_eq_getElem h]
 simp
theorem flat_le (l : List (List S212)) (j : Nat) : (l.take j).flatten.length ≤ l.flatten.length:=by
 have:=congrArg (fun x => x.flatten.length) (List.take_append_drop j l)
 simp only [List.flatten_append,List.length_append] at this
 omega
theorem under3 : Tryz.prog.underlying 3 = some (.int .i64):=by kernel_rfl
set_option maxRecDepth 100000 in
set_option maxHeartbeats 2000000 in
theorem grow_calls (n : Int) (h0 : 0 ≤ n) (h1 : n ≤ 1000000) (W W0 : World) (ok : Nat → Prop) :
  Calls Tryz.prog 171 #[.slice none 0 0,ii n] W fun e W' => ∃ v,e = .returned v ∧ Below W.heap.size W W' ∧ (ft k212 W0 ok).R 212 W' W.heap.size (fun _ => True) v []:=by
 have hu131:=Tryz.underlying131
 go_enter Tryz.func171,Tryz.ntmps171
 by_cases hn : 0 < n
 ·
  have HH:=am (Kd.R_nil (ft k212 W0 ok) 212 W W.heap.size (fun _ => True))
  have hw0 : IntKind.i64.wrap n = n:=IntWalk.i64_in _ (by omega)
  have hw1 : IntKind.i64.wrap (n - 0) = n:=by rw [IntWalk.i64_in _ (by omega)];omega
  skip
  go_wp2_with (at_builtin;refine Kd.R_append_zeros (ft k212 W0 ok) (w0:=W) W.heap.size rfl _ _ 131 3 212 (.agg #[ii 0,.slice none 0 0]) 32 rfl Tryz.underlying131 under3 info212_ rfl (by show 0 < (k212 : Kd _).sz;decide) (by decide) (.slice none 0 0) [] z212 n (fun _ => True) rfl rfl (k212_mkF W0 ok z212 (A1:=none) (c1:=0) (Nat.le_refl 0) (fun _ _ => Kd.C_nil k89 _)) (fun _ _ => trivial) HH.out h0 (Below.refl _ _) (Nat.le_refl _) (by simp;omega) ?_;intro v1 w1 hr1 hb1 hg1 hat1;obtain ⟨A1,c1,rfl⟩:=Kd.R_slice hr1;have HR1:=am hr1;have HB1:=am hb1;clear hr1 hb1 hg1 hat1)
  go_ret
  exact ⟨_,rfl,HB1.out,by have h:=Kd.R_take HR1.out (m:=0) (Nat.zero_le _);rw [List.take_zero] at h;exact h⟩
 ·
  have hz : n = 0:=by omega
  subst hz
  go_wp2
  go_ret
  exact ⟨_,rfl,Below.refl _ _,Kd.R_nil _ _ _ _ _⟩
set_option maxRecDepth 100000 in
set_option maxHeartbeats 2000000 in
theorem concat_calls (A : Option Addr) (c : Nat) (l : List (List S212)) (W : World) (ok : Nat → Prop) (hC : Kd.C (ft (Kd.slice 212 k212) W ok) W A l.length l) (hc : l.length ≤ c) (hlen : l.flatten.length ≤ 1000000) :
  Calls Tryz.prog 116 #[.slice A l.length c] W fun e W' => ∃ v,e = .returned v ∧ Below W.heap.size W W' ∧ (ft k212 W ok).R 212 W' W.heap.size (fun _ => True) v l.flatten:=by
 have hmx:=hC.2.1
 have HC:=am hC
 have HLN:=am hlen
 clear hC hlen
 go_enter Tryz.func116,Tryz.ntmps116
 go_wp2
 go_loopw [3,11] (fun v3 v11 wr => ∃ (j : Nat),j ≤ l.length ∧ v3 = ii ((l.take j).flatten.length : Int) ∧ v11 = ii (j : Int) ∧ Aside0 (Below W.heap.size W wr)) (fun _ v11 _ => l.length - (intOf v11).toNat)
 case atStart => exact ⟨0,Nat.zero_le _,rfl,rfl,⟨Below.refl _ _⟩⟩
 case round =>
  obtain ⟨j,hj,rfl,rfl,HN⟩:=hrel
  by_cases hlt : j < l.length
  ·
   obtain ⟨ae,A1,c1,e,hx0,hl1,hF1⟩:=at_pitF (Kd.C_below HC.out HN.out) (j : Int) (by omega) (by omega)
   cases e
   rw [Int.toNat_natCast] at hx0 hl1 hF1
   have hs:=congrArg List.length (flat_take hlt)
   rw [List.length_append] at hs
   have hfl:=flat_le l (j + 1)
   have hln:=HLN.out
   obtain ⟨p,hp⟩ : ∃ p,p = l.getD j []:=⟨_,rfl⟩
   rw [← hp] at hx0 hs
   obtain ⟨m,hm⟩ : ∃ m,m = (l.take j).flatten.length:=⟨_,rfl⟩
   obtain ⟨m2,hm2⟩ : ∃ m2,m2 = (l.take (j + 1)).flatten.length:=⟨_,rfl⟩
   rw [← hm,← hm2] at hs
   rw [← hm2] at hfl
   have hmb : m2 ≤ 1000000:=by omega
   have HM2:=am hm2
   have hww : IntKind.i64.wrap ((m : Int) + (p.length : Int)) = (m2 : Int):=by rw [IntWalk.i64_in _ (by omega)];omega
   rw [← hm]
   have hm20 : ¬ ((m2 : Int) < 0):=by omega
   clear hm hm2 hs hfl hl1 hF1 hp hln
   go_wp2
   go_roundw
   case rel => exact ⟨j + 1,by omega,by rw [HM2.out],by go_num,HN⟩
   case measure => simp [intOf];omega
  ·
   have hje : j = l.length:=by omega
   subst hje
   have htk : l.take l.length = l:=List.take_length
   rw [htk]
   obtain ⟨m,hm⟩ : ∃ m,m = l.flatten.length:=⟨_,rfl⟩
   rw [← hm]
   have hmb : m ≤ 1000000:=by have:=HLN.out;omega
   clear htk hm hj hlt
   go_wp2_with fail
   refine (grow_calls (m : Int) (by omega) (by omega) wr W ok).mono ?_
   rintro e w1 ⟨v,rfl,hb,hR⟩
   have HN1:=am (below_then HN.out (below_size HN.out) hb)
   have HV0:=am (Kd.R_lower hR (below_size HN.out))
   clear hb hR
   go_wp2
   go_loopw [6,27] (fun v6 v27 wr => ∃ (j : Nat),j ≤ l.length ∧ v27 = ii (j : Int) ∧ Aside0 (Below W.heap.size W wr) ∧ Aside0 ((ft k212 W ok).R 212 wr W.heap.size (fun _ => True) v6 (l.take j).flatten)) (fun _ v27 _ => l.length - (intOf v27).toNat)
   case atStart => exact ⟨0,Nat.zero_le _,rfl,HN1,HV0⟩
   case round =>
    clear HN HN1 HV0
    obtain ⟨j,hj,rfl,HN,HV⟩:=hrel
    obtain ⟨q,hq⟩ : ∃ q,q = (l.take j).flatten:=⟨_,rfl⟩
    rw [← hq] at HV
    have HQ:=am hq
    clear hq
    obtain ⟨Av,cv,rfl⟩:=Kd.R_slice HV.out
    by_cases hlt : j < l.length
    ·
     obtain ⟨ae,A1,c1,e,hx0,hl1,hF1⟩:=at_pitF (Kd.C_below HC.out HN.out) (j : Int) (by omega) (by omega)
     cases e
     rw [Int.toNat_natCast] at hx0 hl1 hF1
     have HT:=am (flat_take hlt)
     obtain ⟨p,hp⟩ : ∃ p,p = l.getD j []:=⟨_,rfl⟩
     rw [← hp] at hx0 hl1 hF1 HT
     rw [← HQ.out] at HT
     have HPL:=am (show q.length + p.length ≤ 1000000 from by
      have h1:=flat_le l (j + 1)
      rw [HT.out,List.length_append] at h1
      have:=HLN.out
      omega)
     have HX:=am (ReadsRow.imp_ (Kd.F_rows hF1) HN.out (fun _ _ h => h))
     clear hp hl1 hF1
     go_wp2_with (at_builtin;go_loud (refine Kd.R_append_rows (ft k212 W ok) (Rr:=fun x c => Kd.FK k212 W ok x c) (w0:=W) (W:=wr) W.heap.size rfl _ _ 131 212 (.agg #[ii 0,.slice none 0 0]) 32 rfl Tryz.underlying131 info212_ rfl (by show 0 < (k212 : Kd _).sz;decide) (by decide) (.slice Av q.length cv) q p A1 p.length c1 (fun _ => True) (fun _ => False) rfl rfl HV.out HX.out (fun _ _ h => h) (fun _ h => h.elim) (fun _ _ => trivial) HN.out (below_size HN.out) (by have:=HPL.out;omega) ?_;intro v1 w2 hs1 hb1 hg1 hat1;have HS1:=am hs1;have HB1:=am hb1;clear hs1 hb1 hg1 hat1))
     go_roundw
     case rel => exact ⟨j + 1,by omega,by go_num,HB1,⟨by rw [HT.out];exact HS1.out⟩⟩
     case measure => simp [intOf];omega
    ·
     have hq : q = l.flatten:=by rw [HQ.out,List.take_of_length_le (by omega)]
     have HQ2:=am hq
     clear hq
     go_wp2
     go_ret
     exact ⟨_,rfl,HN.out,by rw [← HQ2.out];exact HV.out⟩
section
def cells84 (x : S84) : List Value:=[ii x.f0,ii x.f1,ii x.f2,ii x.f3,ii x.f4,ii x.f5]
theorem size84_ : (Tryz.prog.info? 84).map (·.size) = some 6:=by kernel_rfl
theorem exec_store {P : Program} {ρ : Operand → Value} {oi : Oper} {t : TypeId} {p q : Operand} {u v : Value} {w w1 : World} (ho : oi.op = .store t p q) (hp : ρ p = u) (hq : ρ q = v) (hrun : (Instr.storeAt t u v).run P w = .ok () w1) : (execOp ρ oi).run P w = .ok .skip w1:=by
 unfold execOp
 simp only [ho,hp,hq,Sem.run_bind,Sem.run_pure,Result.andThen_ok,hrun]
theorem below_grown {N : Nat} {w0 w w1 : World} {g : Nat} (h : Below N w0 w) (hN : N ≤ w.heap.size) (hg : w.grownBy w1 (some g)) (hb : N ≤ g) : Below N w0 w1 :=
 h.trans ⟨hg.os,hg.tape,hg.output,hg.size,fun k hk => hg.block k (Nat.lt_of_lt_of_le hk hN) (fun e => by injection e with e;omega)⟩
theorem R84_of_ft {W w : World} {okf ok : Nat → Prop} {N : Nat} {v : Value} {l : List S84} (h : (ft k84 W okf).R 84 w N ok v l) : k84.R 84 w N ok v l :=
 ⟨h.1,h.2.imp_ (fun x cs (hp : Kd.FK k84 W okf x cs) => by
  obtain rfl:=k84_open (Foot.now hp)
  exact k84_mkM _ _ _ x)⟩
theorem R3_of_ft {W w : World} {okf ok : Nat → Prop} {N : Nat} {v : Value} {l : List Int} (h : (ft (Kd.int .i64) W okf).R 3 w N ok v l) : (Kd.int .i64).R 3 w N ok v l :=
 ⟨h.1,h.2.imp_ (fun x cs (hp : Kd.FK (Kd.int .i64) W okf x cs) => Foot.now hp)⟩
section
variable {w : World} {N g n cap i : Nat} {ok : Nat → Prop} {ls : List S84}
set_option maxRecDepth 100000 in
theorem row84_set (HO : k84.R 84 w N ok (.slice (some ⟨g,0,none⟩) n cap) ls) (hi : i < n) (x : S84) :
  (Instr.storeAt 84 (.pointer (some ⟨g,i * 6,none⟩)) (.agg #[ii x.f0,ii x.f1,ii x.f2,ii x.f3,ii x.f4,ii x.f5])).run Tryz.prog w = .ok () (w.setCells g (i * 6) (cells84 x)) ∧ k84.R 84 (w.setCells g (i * 6) (cells84 x)) N ok (.slice (some ⟨g,0,none⟩) n cap) (ls.set i x) ∧ w.grownBy (w.setCells g (i * 6) (cells84 x)) (some g):=by
 obtain ⟨cc,hcl,hM,hcc,hfr⟩:=Kd.R_elem HO z84 (i : Int) (by omega) (by omega)
 have hseg:=Kd.R_seg HO (i : Int) (by omega) (by omega) (c:=cc) (seg:=cells84 x) (j:=0) hcl hcc (Nat.le_refl 6) (x':=x) (okp:=fun _ => False) (by
  rw [List.take_zero,List.nil_append,List.drop_eq_nil_of_le (by rw [hcl];exact Nat.le_refl 6),List.append_nil]
  exact k84_mkM w N _ x) (fun k hk => hk.elim)
 rw [Int.toNat_natCast] at hseg
 refine ⟨?_,hseg.1,hseg.2⟩
 have hnx : n = ls.length:=(Kd.R_reads' HO).1
 obtain ⟨_,inner,hown,hr⟩:=HO
 rcases hown.2 with ⟨hv,_⟩|⟨g',cap',cur,hv,hb,hh,hnc,hcm,hcs,_⟩
 ·cases hv
 injection hv with ha _ hc
 injection ha with ha
 injection ha with hg'
 subst hg'
 subst hc
 have hcs' : cur.size = cap * 6:=hcs
 refine run_store_run (e:=84) 84 _ (cells84 x) hh rfl size84_ ?_ ?_
 ·have h2 : i * 6 + 6 ≤ n * 6:=by omega
  have h3 : n * 6 ≤ cap * 6:=Nat.mul_le_mul_right _ (by omega)
  show i * 6 + 6 ≤ _
  omega
 ·intro q hq
  unfold cells84 at hq
  simp only [List.mem_cons,List.not_mem_nil,or_false] at hq
  rcases hq with rfl|rfl|rfl|rfl|rfl|rfl <;> rfl
theorem row84_day (HO : k84.R 84 w N ok (.slice (some ⟨g,0,none⟩) n cap) ls) (hi : i < n) (d : Int) :
  k84.R 84 (w.setCell ⟨g,i * 6 + 2,none⟩ (ii d)) N ok (.slice (some ⟨g,0,none⟩) n cap) (ls.set i { ls.getD i z84 with f2:=d }) ∧ w.grownBy (w.setCell ⟨g,i * 6 + 2,none⟩ (ii d)) (some g) ∧ w.cell? ⟨g,i * 6 + 2,none⟩ = some (ii (ls.getD i z84).f2) ∧ w.frozen? ⟨g,i * 6 + 2,none⟩ = false:=by
 obtain ⟨cc,hcl,hM,hcc,hfr⟩:=Kd.R_elem HO z84 (i : Int) (by omega) (by omega)
 rw [Int.toNat_natCast] at hM hcc hfr
 obtain ⟨x,hx⟩ : ∃ x,x = ls.getD i z84:=⟨_,rfl⟩
 rw [← hx] at hM ⊢
 obtain rfl:=k84_openM hM
 have hseg:=Kd.R_seg HO (i : Int) (by omega) (by omega) (seg:=[ii d]) (j:=2) hcl (by rw [Int.toNat_natCast];exact hcc) (show 2 + 1 ≤ 6 by omega) (x':={ x with f2:=d }) (okp:=fun _ => False) (k84_mkM w N _ { x with f2:=d }) (fun k hk => hk.elim)
 rw [Int.toNat_natCast] at hseg
 exact ⟨hseg.1,hseg.2,hcc 2 _ rfl,hfr 2⟩
end
def swapP (l : List S84) (k : Nat) : List S84:=(l.set k { rd_T84 l ((k + 1 : Nat) : Int) with f2:=(rd_T84 l (k : Int)).f2 }).set (k + 1) { rd_T84 l (k : Int) with f2:=(rd_T84 l ((k + 1 : Nat) : Int)).f2 }
theorem rd84_get {l : List S84} {k : Nat} (h : k < l.length) : rd_T84 l (k : Int) = l[k]:=by unfold rd_T84;rw [Int.toNat_natCast,List.getD_eq_getElem?_getD,List.getElem?_eq_getElem h];rfl
theorem getD84_set {l : List S84} {i t : Nat} (x : S84) (hi : i < l.length) : (l.set i x).getD t z84 = if t = i then x else l.getD t z84:=getD_set_ l i t x z84 hi
theorem swap_steps {l : List S84} {k : Nat} (h : k + 1 < l.length) (s0 s1 : S84) (h0 : s0 = rd_T84 l (k : Int)) (h1 : s1 = rd_T84 l ((k + 1 : Nat) : Int)) :
  ((((l.set k s1).set (k + 1) s0).set k { ((l.set k s1).set (k + 1) s0).getD k z84 with f2:=s0.f2 }).set (k + 1) { (((l.set k s1).set (k + 1) s0).set k { ((l.set k s1).set (k + 1) s0).getD k z84 with f2:=s0.f2 }).getD (k + 1) z84 with f2:=s1.f2 }) = swapP l k:=by
 have e1 : ((l.set k s1).set (k + 1) s0).getD k z84 = s1:=by
  rw [getD84_set s0 (by rw [List.length_set];omega),if_neg (by omega),getD84_set s1 (by omega),if_pos rfl]
 rw [e1]
 have e2 : ∀ y,(((l.set k s1).set (k + 1) s0).set k y).getD (k + 1) z84 = s0:=by
  intro y
  rw [getD84_set y (by rw [List.length_set,List.length_set];omega),if_neg (by omega),getD84_set s0 (by rw [List.length_set];omega),if_pos rfl]
 rw [e2]
 unfold swapP
 rw [← h0,← h1]
 apply List.ext_getElem?
 intro t
 simp only [List.getElem?_set,List.length_set]
 by_cases ht1 : k + 1 = t
 ·subst ht1;simp
 ·by_cases ht0 : k = t
  ·subst ht0;simp
  ·simp [ht1,ht0]
theorem swapP_length (l : List S84) (k : Nat) : (swapP l k).length = l.length:=by unfold swapP;rw [List.length_set,List.length_set]
end
end Go.Proofs.YtjjfpmapjjemcaaGreat.B
end
