import Derived.Test.YtjjfpmapjjemcaaGreatQ27
import Derived.Test.YtjjfpmapjjemcaaGreatQ31
import Derived.Test.YtjjfpmapjjemcaaGreatQ7
set_option linter.unusedVariables false
set_option linter.unusedSimpArgs false
section
namespace Go.Proofs.YtjjfpmapjjemcaaGreat.B
open Go.RowKit Go.Proofs.YtjjfpmapjjemcaaGreatW.PrintWords Go.Proofs.YtjjfpmapjjemcaaGreatW.PrintLast Go.Proofs.YtjjfpmapjjemcaaGreatW.PrintMore
attribute [local go_sem] max2_int min2_int max_two min_two max_three min_three max_four min_four
def idsE (f : Yd → List Int) (r : Except (Int × Int) Yd) : List Int × Int:=match r with
|.error x => ([],x.1)
|.ok Y => (f Y,0)
theorem C_lo {w : World} {A : Option Addr} {rooms : List Int} (h : Kd.C (Kd.int .i64) w A rooms.length rooms) : Kd.F (Kd.int .i64) w (fun k => k < w.heap.size) A rooms.length rooms:=Kd.C_F (Kd.heap_int .i64) h
def pit_Pours.f (l0_0 : List Int) (l0_1 : List S84) : Option (List Int × Int):=some (idsE (fun Y => Y.pours) (playedP l0_0 l0_1 l0_1.length))
theorem pit_Pours.calls (A0_0 : Option Addr) (c0_0 : Nat) (l0_0 : List Int) (A0_1 : Option Addr) (c0_1 : Nat) (l0_1 : List S84) (r1 : List Int) (r2 : Int) (w : World) (hr0_0 : Kd.C (Kd.int .i64) w A0_0 l0_0.length l0_0) (hc0_0 : l0_0.length ≤ c0_0) (hr0_1 : Kd.C k84 w A0_1 l0_1.length l0_1) (hc0_1 : l0_1.length ≤ c0_1) (h : pit_Pours.f l0_0 l0_1 = some (r1,r2)) :
  Calls Tryz.prog 19 #[.agg #[.slice A0_0 l0_0.length c0_0,.slice A0_1 l0_1.length c0_1]] w fun e w' => ∃ v_ : Value,e = .returned (.tuple #[v_,ii r2]) ∧ Kd.V (Kd.int .i64) 3 w' w.heap.size (fun k_ => w.heap.size ≤ k_) v_ r1 ∧ Below w.heap.size w w':=by
 have h':=Option.some.inj h
 refine (pours_calls A0_0 A0_1 c0_0 c0_1 l0_0 l0_1 w w.heap.size (Nat.le_refl _) (C_lo hr0_0) hc0_0 hr0_1 hc0_1).mono ?_
 rintro e w' ⟨hb,hm⟩
 cases hp : playedP l0_0 l0_1 l0_1.length with
|error x =>
  rw [hp] at h' hm
  obtain ⟨rfl,rfl⟩:=Prod.mk.inj h'
  exact ⟨_,hm,Kd.V_nil _ _ _ _ _,hb⟩
|ok Y =>
  rw [hp] at h' hm
  obtain ⟨rfl,rfl⟩:=Prod.mk.inj h'
  obtain ⟨A3,c3,he,hl,hF⟩:=hm
  exact ⟨_,he,Kd.V_mk hl hF,hb⟩
set_option maxRecDepth 100000 in
set_option maxHeartbeats 2000000 in
theorem barrows_calls (A A2 : Option Addr) (c c2 : Nat) (rooms : List Int) (stirs : List S84) (W : World) (lo : Nat) (hlo : lo ≤ W.heap.size) (hC : Kd.F (Kd.int .i64) W (fun k => k < lo) A rooms.length rooms) (hc : rooms.length ≤ c) (hS : Kd.C k84 W A2 stirs.length stirs) (hc2 : stirs.length ≤ c2) :
  Calls Tryz.prog 18 #[.agg #[.slice A rooms.length c,.slice A2 stirs.length c2]] W fun e W' => IntsPost W (playedP rooms stirs stirs.length) (fun Y => Y.barrows.map (·.f0)) e W':=by
 have hu:=Tryz.underlying32
 have HC1:=am (Kd.F_alloc hC (.cells #[.slice A rooms.length c,.slice A2 stirs.length c2] 32))
 have HS1:=am (Kd.C_alloc hS (.cells #[.slice A rooms.length c,.slice A2 stirs.length c2] 32))
 have HB1:=am (below_alloc (Below.refl W.heap.size W) (.cells #[.slice A rooms.length c,.slice A2 stirs.length c2] 32))
 clear hC hS
 obtain ⟨r,hr⟩ : ∃ r,r = playedP rooms stirs stirs.length:=⟨_,rfl⟩
 rw [← hr]
 have HP:=am hr.symm
 clear hr
 go_enter Tryz.func18,Tryz.ntmps18
 go_wp2_with fail
 refine (all_calls A A2 c c2 rooms stirs _ lo (Nat.le_trans hlo (by simp)) HC1.out hc HS1.out hc2).mono ?_
 rintro e w1 ⟨hb,h⟩
 rw [HP.out] at h
 have HB2:=am (below_then HB1.out (below_size HB1.out) hb)
 clear hb
 cases r with
|error x =>
  subst h
  have hx : ¬ x.1 = 0:=playedP_code HP.out
  go_wp2
  go_ret2
  exact ⟨HB2.out,rfl⟩
|ok Y =>
  obtain ⟨L,base,hbase,hbad,rfl,hY⟩:=h
  have HWF:=am (played_ok HP.out).2.2.1
  obtain ⟨A3,c3,e3,hl3,hC3⟩:=Kd.R_reads hY.barrows
  have HC3:=am (show Kd.C k167 w1 A3 Y.barrows.length Y.barrows from hC3.imp_ (Below.refl _ _) fun _ _ hp => Foot.now hp)
  have hm:=hC3.2.1
  have g4 : w1.cell? ⟨L.g,4,none⟩ = some (.slice A3 Y.barrows.length c3):=(blk_cell hY.blk 4).trans (by rw [← e3];rfl)
  have hn:=HWF.out.nbarrows
  clear hbase hbad hY e3 hC3
  go_wp2
  go_loopw [6,22] (fun v6 v22 wr => ∃ (j : Nat),j ≤ Y.barrows.length ∧ v22 = ii (j : Int) ∧ Aside0 (Below w1.heap.size w1 wr) ∧ Aside0 ((Kd.int .i64).R 3 wr w1.heap.size (fun _ => True) v6 ((Y.barrows.take j).map (·.f0)))) (fun _ v22 _ => Y.barrows.length - (intOf v22).toNat)
  case atStart => exact ⟨0,Nat.zero_le _,rfl,⟨Below.refl _ _⟩,⟨Kd.R_nil _ _ _ _ _⟩⟩
  case round =>
   clear g4
   obtain ⟨j,hj,rfl,HB,HV⟩:=hrel
   have hql : ((Y.barrows.take j).map (·.f0)).length = j:=by simp;omega
   obtain ⟨Av,cv,rfl⟩:=Kd.R_slice HV.out
   rw [hql] at HV ⊢
   by_cases hlt : j < Y.barrows.length
   ·obtain ⟨ad,A4,c4,e,hx0,hx1,hx2,hx3,hl4,hC4⟩:=at_T167 (Kd.C_below HC3.out HB.out) (j : Int) (by omega) (by omega)
    cases e
    rw [Int.toNat_natCast] at hx0 hx1 hx2 hx3
    have HT:=am (show (Y.barrows.take (j + 1)).map (·.f0) = (Y.barrows.take j).map (·.f0) ++ [(rd_T167 Y.barrows (j : Int)).f0] by
     rw [List.take_succ_eq_append_getElem hlt,List.map_append]
     unfold rd_T167
     rw [Int.toNat_natCast,List.getD_eq_getElem?_getD,List.getElem?_eq_getElem hlt]
     rfl)
    obtain ⟨b,hb⟩ : ∃ b,b = rd_T167 Y.barrows (j : Int):=⟨_,rfl⟩
    rw [← hb] at hx0 hx1 hx2 hx3 HT
    clear hb hl4 hC4
    obtain ⟨q,hq⟩ : ∃ q,q = (Y.barrows.take j).map (·.f0):=⟨_,rfl⟩
    rw [← hq] at HV HT hql
    clear hq
    have HQ:=am hql
    clear hql
    have HV1:=am (show (Kd.int .i64).R 3 (wr.alloc (.cells #[ii b.f0,ii b.f1,ii b.f2,.slice A4 b.f3.length c4] 167)) w1.heap.size (fun _ => True) (.slice Av j cv) q from Kd.R_alloc HV.out _)
    have HB1:=am (below_alloc HB.out (.cells #[ii b.f0,ii b.f1,ii b.f2,.slice A4 b.f3.length c4] 167))
    have g0 : (wr.alloc (.cells #[ii b.f0,ii b.f1,ii b.f2,.slice A4 b.f3.length c4] 167)).cell? ⟨wr.heap.size,0,none⟩ = some (ii b.f0):=(blk_cell (blk_new wr _) 0).trans rfl
    go_wp2_with (at_builtin;refine Kd.R_append (Kd.int .i64) (w0:=w1) w1.heap.size rfl _ _ 27 3 (ii 0) 8 rfl Tryz.underlying27 info3 rfl (by decide) (by decide) (.slice Av j cv) q b.f0 [ii b.f0] (fun _ => True) (fun _ => False) rfl (by rw [show (wr.alloc (.cells #[ii b.f0,ii b.f1,ii b.f2,.slice A4 b.f3.length c4] 167)).heap.size = wr.heap.size + 1 by simp];rfl) rfl (fun _ h => h.elim) (fun _ _ => trivial) HV1.out HB1.out HB1.out.size (by have:=HQ.out;omega) ?_;intro v3 w3 hr3 hb3 hg3 hat3;have HR3:=am hr3;have HB3:=am hb3;clear hr3 hb3 hg3 hat3)
    go_roundw
    case rel => exact ⟨j + 1,by omega,by go_num,HB3,⟨by rw [HT.out];exact HR3.out⟩⟩
    case measure => simp [intOf];omega
   ·have hje : j = Y.barrows.length:=by omega
    have HE:=am (show Y.barrows.take j = Y.barrows by rw [hje];exact List.take_length)
    subst hje
    have HV2:=am (show (Kd.int .i64).R 3 wr w1.heap.size (fun _ => True) (.slice Av (Y.barrows.map (·.f0)).length cv) (Y.barrows.map (·.f0)) by
     have h:=HV.out
     rw [HE.out] at h
     rw [List.length_map]
     exact h)
    have HB4:=am (below_then HB2.out (below_size HB2.out) HB.out)
    go_wp2
    go_ret2
    exact ⟨HB4.out,Av,cv,by rw [List.length_map];rfl,(Kd.R_reads' HV2.out).2.1,Kd.R_F (Kd.R_reok rfl HV2.out fun k hk => by have h1:=Kd.R_base HV2.out k hk;have h2:=below_size HB2.out;omega)⟩
end Go.Proofs.YtjjfpmapjjemcaaGreat.B
end
