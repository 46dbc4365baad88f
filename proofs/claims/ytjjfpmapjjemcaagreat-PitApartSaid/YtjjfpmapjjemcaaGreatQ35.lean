import Derived.Test.YtjjfpmapjjemcaaGreatQ13
import Derived.Test.YtjjfpmapjjemcaaGreatQ19
import Derived.Test.YtjjfpmapjjemcaaGreatQ23
import Derived.Test.YtjjfpmapjjemcaaGreatQ24
import Derived.Test.YtjjfpmapjjemcaaGreatQ25
import Derived.Test.YtjjfpmapjjemcaaGreatQ26
import Derived.Test.YtjjfpmapjjemcaaGreatQ28
import Derived.Test.YtjjfpmapjjemcaaGreatQ30
import Derived.Test.YtjjfpmapjjemcaaGreatQ34
import Derived.Test.YtjjfpmapjjemcaaGreatQ7
set_option linter.unusedVariables false
set_option linter.unusedSimpArgs false
section
namespace Go.Proofs.YtjjfpmapjjemcaaGreat.B
open Go.RowKit Go.Proofs.YtjjfpmapjjemcaaGreatW.PrintWords Go.Proofs.YtjjfpmapjjemcaaGreatW.PrintLast Go.Proofs.YtjjfpmapjjemcaaGreatW.PrintMore
attribute [local go_sem] max2_int min2_int max_two min_two max_three min_three max_four min_four
theorem cl174 (x : Int) (w : World) : Calls Tryz.prog 174 (#[ii x] ++ #[]) w fun e w' => e = .returned (.bool (!decide (1 ≤ x ∧ x ≤ 4096))) ∧ Below w.heap.size w w':=by
 simp only [List.append_toArray,List.cons_append,List.nil_append,Array.append_empty]
 go_enter Tryz.func174,Tryz.ntmps174
 go_wp2_with fail
 obtain ⟨r,hr⟩ : ∃ r,r = decide (1 ≤ x ∧ x ≤ 4096):=⟨_,rfl⟩
 have HR:=am hr
 clear hr
 refine (pit_within.calls _ _ _ r _ (by rw [within_some,HR.out])).mono ?_
 rintro e w1 ⟨rfl,m,rfl⟩
 go_wp2
 go_ret
 exact ⟨by rw [← HR.out];rfl,pw_below_drewN (Below.refl _ _) m⟩
def PlayedPost (W : World) (lo : Nat) (r : Except (Int × Int) Yd) (e : Ending) (W' : World) : Prop :=
 Below W.heap.size W W' ∧ (match r with
 |.ok Y => ∃ (L : Loc) (base : Nat),W.heap.size ≤ base ∧ (∀ k,lo ≤ k → k < W.heap.size → L.bad k) ∧ e = .returned (.tuple #[.pointer (some ⟨L.g,0,none⟩),ii 0,ii 0]) ∧ YardAt W' base L Y
 |.error x => e = .returned (.tuple #[.pointer none,ii x.1,ii x.2]))
theorem playedP_rooms {rooms : List Int} {stirs : List S84} {k : Nat} (h : roomsOk rooms = false) : playedP rooms stirs k = .error (1,0):=by unfold playedP;rw [if_neg (by rw [h];simp)]
theorem playedP_many {rooms : List Int} {stirs : List S84} {k : Nat} (h : roomsOk rooms = true) (h2 : ¬ stirs.length ≤ 60) : playedP rooms stirs k = .error (2,0):=by unfold playedP;rw [if_pos h,if_neg h2]
theorem playedP_go {rooms : List Int} {stirs : List S84} {k : Nat} (h : roomsOk rooms = true) (h2 : stirs.length ≤ 60) : playedP rooms stirs k = goP (emptyP rooms) 0 0 (stirs.take k):=by unfold playedP;rw [if_pos h,if_pos h2]
theorem any_not_all (l : List Int) : (l.any fun x => !decide (1 ≤ x ∧ x ≤ 4096)) = !(l.all fun n => inP n 1 4096):=by
 induction l with
|nil => rfl
|cons x r ih => rw [List.any_cons,List.all_cons,ih];unfold inP;cases decide (1 ≤ x ∧ x ≤ 4096) <;> simp
theorem goP_bad {Y : Yd} {day i : Int} {s : S84} {r : List S84} (h : formedP Y.rooms.length s day = false) : goP Y day i (s :: r) = .error (7,i + 1):=by simp only [goP];rw [if_neg (by rw [h];simp)]
theorem goP_err {Y : Yd} {day i : Int} {s : S84} {r : List S84} (h : formedP Y.rooms.length s day = true) {c : Int} (h2 : stepP Y s i = .error c) : goP Y day i (s :: r) = .error (c,i + 1):=by simp only [goP];rw [if_pos h,h2]
theorem goP_next {Y Y' : Yd} {day i : Int} {s : S84} {r : List S84} (h : formedP Y.rooms.length s day = true) (h2 : stepP Y s i = .ok Y') : goP Y day i (s :: r) = goP Y' s.f2 (i + 1) r:=by simp only [goP];rw [if_pos h,h2]
theorem drop_rd84 {l : List S84} {j : Nat} (h : j < l.length) : l.drop j = rd_T84 l (j : Int) :: l.drop (j + 1):=by
 rw [List.drop_eq_getElem_cons h];unfold rd_T84;rw [Int.toNat_natCast,List.getD_eq_getElem?_getD,List.getElem?_eq_getElem h];rfl
theorem stepP_code {Y : Yd} {s : S84} {k c : Int} (h : stepP Y s k = .error c) : c = 2 ∨ c = 3 ∨ c = 4 ∨ c = 6:=by
 unfold stepP pourP takeP turnP moveP spillP at h
 repeat' split at h
 all_goals first|(injection h with h;omega)|(cases h;done)
set_option maxRecDepth 100000 in
set_option maxHeartbeats 4000000 in
theorem played_calls (A A2 : Option Addr) (c c2 : Nat) (rooms : List Int) (stirs : List S84) (k : Nat) (W : World) (lo : Nat) (hlo : lo ≤ W.heap.size) (hC : Kd.F (Kd.int .i64) W (fun k => k < lo) A rooms.length rooms) (hc : rooms.length ≤ c) (hS : Kd.C k84 W A2 stirs.length stirs) (hc2 : stirs.length ≤ c2) (hk : k ≤ stirs.length) :
  Calls Tryz.prog 123 #[.agg #[.slice A rooms.length c,.slice A2 stirs.length c2],ii (k : Int)] W fun e W' => PlayedPost W lo (playedP rooms stirs k) e W':=by
 have hmf : ∀ (fn : Fn) (first cap : Array Value) (w : World),(Instr.makeFunc fn first cap).run Tryz.prog w = .ok (.func fn first cap) w:=fun _ _ _ _ => rfl
 have hu:=Tryz.underlying32
 have hu84:=Tryz.underlying84
 have HB1:=am (below_alloc (Below.refl W.heap.size W) (.cells #[.slice A rooms.length c,.slice A2 stirs.length c2] 32))
 have HX1:=am (blk_new W (.cells #[.slice A rooms.length c,.slice A2 stirs.length c2] 32))
 have HC:=am (Kd.F_now hC)
 have HCF:=am hC
 have HS:=am hS
 have hrm:=(Kd.F_now hC).2.1
 have hsm:=hS.2.1
 clear hC hS
 obtain ⟨b1,hb1⟩ : ∃ b1,b1 = decide (1 ≤ (rooms.length : Int) ∧ (rooms.length : Int) ≤ 6):=⟨_,rfl⟩
 obtain ⟨b2,hb2⟩ : ∃ b2,b2 = rooms.any fun x => !decide (1 ≤ x ∧ x ≤ 4096):=⟨_,rfl⟩
 have HW1:=am (show pit_within.f (rooms.length : Int) 1 6 = some b1 by rw [within_some,hb1])
 have hro : roomsOk rooms = (b1 && !b2):=by
  unfold roomsOk
  rw [hb2,any_not_all,hb1]
  unfold inP
  simp
 have HB2:=am hb2
 have H1:=am hb1
 clear hb1 hb2
 cases b1 with
|false =>
  rw [playedP_rooms (by rw [hro];rfl)]
  clear hro
  go_enter Tryz.func123,Tryz.ntmps123
  go_wp2_with fail
  refine (pit_within.calls _ _ _ _ _ HW1.out).mono ?_
  rintro e w1 ⟨rfl,m,rfl⟩
  go_wp2
  go_ret3
  exact ⟨pw_below_drewN HB1.out m,rfl⟩
|true =>
  cases b2 with
 |true =>
   rw [playedP_rooms (by rw [hro];rfl)]
   clear hro
   go_enter Tryz.func123,Tryz.ntmps123
   go_wp2_with fail
   refine (pit_within.calls _ _ _ _ _ HW1.out).mono ?_
   rintro e w1 ⟨rfl,m,rfl⟩
   have HX2:=am (blk_drewN HX1.out m)
   have HD2:=am (pw_below_drewN HB1.out m)
   have g0:=bd HX2.out 0
   generalize (W.alloc (.cells #[.slice A rooms.length c,.slice A2 stirs.length c2] 32)).drewN m = w2 at HX2 HD2 g0 ⊢
   go_wp2_with fail
   refine (has145_calls A c rooms (fun x => !decide (1 ≤ x ∧ x ≤ 4096)) 174 #[] (fun _ => True) w2 (Kd.C_below HC.out HD2.out) hc (enters_of Tryz.func174 kr rfl) trivial (fun _ _ _ _ => trivial) (fun x w _ _ => cl174 x w)).mono ?_
   rintro e w3 ⟨rfl,hb⟩
   rw [← HB2.out]
   have HD3:=am (below_then HD2.out (below_size HD2.out) hb)
   clear hb g0
   go_wp2
   go_ret3
   exact ⟨HD3.out,rfl⟩
 |false =>
   have HRO:=am (show roomsOk rooms = true by rw [hro];rfl)
   clear hro
   by_cases hl : stirs.length ≤ 60
   ·rw [playedP_go HRO.out hl]
    go_enter Tryz.func123,Tryz.ntmps123
    go_wp2_with fail
    refine (pit_within.calls _ _ _ _ _ HW1.out).mono ?_
    rintro e w1 ⟨rfl,m,rfl⟩
    have HX2:=am (blk_drewN HX1.out m)
    have HD2:=am (pw_below_drewN HB1.out m)
    have g0:=bd HX2.out 0
    generalize (W.alloc (.cells #[.slice A rooms.length c,.slice A2 stirs.length c2] 32)).drewN m = w2 at HX2 HD2 g0 ⊢
    go_wp2_with fail
    refine (has145_calls A c rooms (fun x => !decide (1 ≤ x ∧ x ≤ 4096)) 174 #[] (fun _ => True) w2 (Kd.C_below HC.out HD2.out) hc (enters_of Tryz.func174 kr rfl) trivial (fun _ _ _ _ => trivial) (fun x w _ _ => cl174 x w)).mono ?_
    rintro e w3 ⟨rfl,hb⟩
    rw [← HB2.out]
    have HD3:=am (below_then HD2.out (below_size HD2.out) hb)
    have HX3:=am (blk_below HX2.out hb)
    clear hb g0
    have g0:=bd HX3.out 0
    have g1:=bd HX3.out 1
    have hr6 : rooms.length ≤ 6:=by
     have h:=HRO.out
     unfold roomsOk inP at h
     simp only [Bool.and_eq_true,decide_eq_true_eq] at h
     omega
    go_wp2_with fail
    refine (empty_calls A c rooms w3 lo (Nat.le_trans hlo HD3.out.size) (Kd.F_below HCF.out HD3.out) hc hr6).mono ?_
    rintro e w4 ⟨L,rfl,hY,hbad,hb⟩
    have HBA:=am hbad
    clear hbad
    have HY4:=am hY
    have HD4:=am (below_then HD3.out (below_size HD3.out) hb)
    have HX4:=am (blk_below HX3.out hb)
    have HW0:=am (empty_ok HRO.out)
    have HBX:=am (show W.heap.size < w3.heap.size from blk_lt HX3.out)
    clear hY hb g0 g1
    have g1:=bd HX4.out 1
    have hkc : (k : Int) ≤ (c2 : Int):=by omega
    have hk60 : k ≤ 60:=by omega
    go_wp2
    go_loopw [8,34] (fun v8 v34 wr => ∃ (j : Nat) (Yj : Yd) (Lj : Loc) (day : Int),j ≤ k ∧ v8 = ii day ∧ v34 = ii (j : Int) ∧ 0 ≤ day ∧ day ≤ 682 ∧ Aside0 (YardAt wr w3.heap.size Lj Yj) ∧ Aside0 (Lj.g = L.g) ∧ Aside0 (Lj.bad = L.bad) ∧ Aside0 (Wf j Yj) ∧ Aside0 (Yj.rooms = rooms) ∧ Aside0 (Below W.heap.size W wr) ∧ Aside0 (wr.heap[W.heap.size]? = some (.cells #[.slice A rooms.length c,.slice A2 stirs.length c2] 32 (0,0))) ∧ Aside0 (goP (emptyP rooms) 0 0 (stirs.take k) = goP Yj day (j : Int) ((stirs.take k).drop j))) (fun _ v34 _ => k - (intOf v34).toNat)
    case atStart => exact ⟨0,emptyP rooms,L,0,Nat.zero_le _,rfl,rfl,by omega,by omega,HY4,⟨rfl⟩,⟨rfl⟩,HW0,⟨rfl⟩,HD4,HX4,⟨by simp⟩⟩
    case round =>
     clear HX1 HB1 HX2 HD2 HD3 HX3 HY4 HD4 HX4 HW0 g1
     obtain ⟨j,Yj,Lj,day,hj,rfl,rfl,hd0,hd1,HYj,HGj,HAj,HWj,HRj,HBj,HXj,HGo⟩:=hrel
     by_cases hlt : j < k
     ·obtain ⟨ad,e,hx0,hx1,hx2,hx3,hx4,hx5⟩:=at_T84 (Kd.C_below HS.out HBj.out) (j : Int) (by omega) (by omega)
      cases e
      rw [Int.toNat_natCast] at hx0 hx1 hx2 hx3 hx4 hx5
      have HDR:=am (show (stirs.take k).drop j = rd_T84 stirs (j : Int) :: (stirs.take k).drop (j + 1) by
       rw [drop_rd84 (by rw [List.length_take];omega)]
       unfold rd_T84
       rw [Int.toNat_natCast,List.getD_eq_getElem?_getD,List.getD_eq_getElem?_getD,List.getElem?_take_of_lt hlt])
      obtain ⟨s,hs⟩ : ∃ s,s = rd_T84 stirs (j : Int):=⟨_,rfl⟩
      rw [← hs] at hx0 hx1 hx2 hx3 hx4 hx5 HDR
      clear hs
      have HNj:=am (fun k (hk : wr.heap.size ≤ k) => HYj.out.not_new hk)
      cases hfb : formedP (rooms.length : Int) s day with
     |false =>
       have HFB:=am hfb
       clear hfb
       have HXs:=am (blk_new wr (.cells #[ii s.f0,ii s.f1,ii s.f2,ii s.f3,ii s.f4,ii s.f5] 84))
       have HXb:=am (blk_alloc HXj.out (.cells #[ii s.f0,ii s.f1,ii s.f2,ii s.f3,ii s.f4,ii s.f5] 84))
       have HB5:=am (below_alloc HBj.out (.cells #[ii s.f0,ii s.f1,ii s.f2,ii s.f3,ii s.f4,ii s.f5] 84))
       have HY5:=am (HYj.out.move (below_alloc (Below.refl _ _) (.cells #[ii s.f0,ii s.f1,ii s.f2,ii s.f3,ii s.f4,ii s.f5] 84)))
       have u0:=bd HXb.out 0
       have u1:=bd HXb.out 1
       go_wp2_with fail
       refine (formed_calls A (some ad) rooms.length c stirs.length c2 s day _ hr6).mono ?_
       rintro e w5 ⟨rfl,hb⟩
       rw [HFB.out]
       have HD6:=am (below_then HB5.out (below_size HB5.out) hb)
       have HX6:=am (blk_below HXb.out hb)
       have HS6:=am (blk_below HXs.out hb)
       have HY6:=am (HY5.out.move hb)
       clear hb u0 u1 hx0 hx1 hx2 hx3 hx4 hx5
       go_wp2
       go_ret3
       refine ⟨HD6.out,?_⟩
       rw [HGo.out,HDR.out,goP_bad (by rw [HRj.out];exact HFB.out)]
       rfl
     |true =>
       have HFB:=am hfb
       clear hfb
       have HFo:=am (formed_of hd0 HFB.out)
       cases hst : stepP Yj s (j : Int) with
      |error ec =>
        have HST:=am hst
        have hcode:=stepP_code hst
        clear hst
        have HXs:=am (blk_new wr (.cells #[ii s.f0,ii s.f1,ii s.f2,ii s.f3,ii s.f4,ii s.f5] 84))
        have HXb:=am (blk_alloc HXj.out (.cells #[ii s.f0,ii s.f1,ii s.f2,ii s.f3,ii s.f4,ii s.f5] 84))
        have HB5:=am (below_alloc HBj.out (.cells #[ii s.f0,ii s.f1,ii s.f2,ii s.f3,ii s.f4,ii s.f5] 84))
        have HY5:=am (HYj.out.move (below_alloc (Below.refl _ _) (.cells #[ii s.f0,ii s.f1,ii s.f2,ii s.f3,ii s.f4,ii s.f5] 84)))
        have u0:=bd HXb.out 0
        have u1:=bd HXb.out 1
        go_wp2_with fail
        refine (formed_calls A (some ad) rooms.length c stirs.length c2 s day _ hr6).mono ?_
        rintro e w5 ⟨rfl,hb⟩
        rw [HFB.out]
        have HD6:=am (below_then HB5.out (below_size HB5.out) hb)
        have HX6:=am (blk_below HXb.out hb)
        have HS6:=am (blk_below HXs.out hb)
        have HY6:=am (HY5.out.move hb)
        clear hb u0 u1 hx0 hx1 hx2 hx3 hx4 hx5
        have u0:=bd HS6.out 0
        have u1:=bd HS6.out 1
        have u2:=bd HS6.out 2
        have u3:=bd HS6.out 3
        have u4:=bd HS6.out 4
        have u5:=bd HS6.out 5
        have hdo:=do_calls HY6.out HWj.out (by omega) s (j : Int) (by rw [HRj.out];exact HFo.out.1)
        rw [HGj.out] at hdo
        have HDO:=am hdo
        clear hdo
        go_wp2_with fail
        refine HDO.out.mono ?_
        rintro e w6 ⟨hb,L',hg,hfr,h⟩
        rw [HST.out] at h
        have HD7:=am (HD6.out.trans (hb.mono (Nat.le_of_lt HBX.out)))
        have HX7:=am ((hb.block W.heap.size HBX.out).trans HX6.out)
        have HS7:=am ((hfr.keep wr.heap.size (blk_lt HS6.out) (HNj.out _ (Nat.le_refl _))).1.trans HS6.out)
        have HG7:=am (hg.trans HGj.out);have HA7:=am (hfr.bad.trans HAj.out)
        clear hb hfr hg u0 u1 u2 u3 u4 u5
        subst h
        have hne : ¬ ec = 0:=by omega
        go_wp2
        go_ret3
        refine ⟨HD7.out,?_⟩
        rw [HGo.out,HDR.out,goP_err (by rw [HRj.out];exact HFB.out) HST.out]
        rfl
      |ok Y' =>
        have HST:=am hst
        clear hst
        have HXs:=am (blk_new wr (.cells #[ii s.f0,ii s.f1,ii s.f2,ii s.f3,ii s.f4,ii s.f5] 84))
        have HXb:=am (blk_alloc HXj.out (.cells #[ii s.f0,ii s.f1,ii s.f2,ii s.f3,ii s.f4,ii s.f5] 84))
        have HB5:=am (below_alloc HBj.out (.cells #[ii s.f0,ii s.f1,ii s.f2,ii s.f3,ii s.f4,ii s.f5] 84))
        have HY5:=am (HYj.out.move (below_alloc (Below.refl _ _) (.cells #[ii s.f0,ii s.f1,ii s.f2,ii s.f3,ii s.f4,ii s.f5] 84)))
        have u0:=bd HXb.out 0
        have u1:=bd HXb.out 1
        go_wp2_with fail
        refine (formed_calls A (some ad) rooms.length c stirs.length c2 s day _ hr6).mono ?_
        rintro e w5 ⟨rfl,hb⟩
        rw [HFB.out]
        have HD6:=am (below_then HB5.out (below_size HB5.out) hb)
        have HX6:=am (blk_below HXb.out hb)
        have HS6:=am (blk_below HXs.out hb)
        have HY6:=am (HY5.out.move hb)
        clear hb u0 u1 hx0 hx1 hx2 hx3 hx4 hx5
        have u0:=bd HS6.out 0
        have u1:=bd HS6.out 1
        have u2:=bd HS6.out 2
        have u3:=bd HS6.out 3
        have u4:=bd HS6.out 4
        have u5:=bd HS6.out 5
        have hdo:=do_calls HY6.out HWj.out (by omega) s (j : Int) (by rw [HRj.out];exact HFo.out.1)
        rw [HGj.out] at hdo
        have HDO:=am hdo
        clear hdo
        go_wp2_with fail
        refine HDO.out.mono ?_
        rintro e w6 ⟨hb,L',hg,hfr,h⟩
        rw [HST.out] at h
        have HD7:=am (HD6.out.trans (hb.mono (Nat.le_of_lt HBX.out)))
        have HX7:=am ((hb.block W.heap.size HBX.out).trans HX6.out)
        have HS7:=am ((hfr.keep wr.heap.size (blk_lt HS6.out) (HNj.out _ (Nat.le_refl _))).1.trans HS6.out)
        have HG7:=am (hg.trans HGj.out);have HA7:=am (hfr.bad.trans HAj.out)
        clear hb hfr hg u0 u1 u2 u3 u4 u5
        obtain ⟨rfl,hY'⟩:=h
        have HY7:=am hY'
        clear hY'
        have u2:=bd HS7.out 2
        go_wp2
        go_roundw
        case rel =>
         have hok:=step_ok HWj.out (by omega) (by rw [HRj.out];exact HFo.out.1) HST.out
         exact ⟨j + 1,Y',L',s.f2,by omega,rfl,by go_num,by have:=HFo.out.2;omega,HFo.out.1.day.2,HY7,HG7,HA7,⟨hok.1⟩,⟨hok.2.trans HRj.out⟩,HD7,HX7,⟨by rw [HGo.out,HDR.out,goP_next (by rw [HRj.out];exact HFB.out) HST.out];rfl⟩⟩
        case measure => simp [intOf];omega
     ·have hjk : j = k:=by omega
      have hgo:=HGo.out
      rw [List.drop_eq_nil_of_le (by rw [List.length_take];omega)] at hgo
      have HGO:=am (show goP (emptyP rooms) 0 0 (stirs.take k) = .ok Yj by rw [hgo];rfl)
      clear hgo
      go_wp2
      go_ret3
      refine ⟨HBj.out,?_⟩
      rw [HGO.out]
      exact ⟨Lj,w3.heap.size,Nat.le_of_lt HBX.out,fun k h1 h2 => by rw [HAj.out];exact HBA.out k h1 (Nat.lt_trans h2 HBX.out),by rw [HGj.out];rfl,HYj.out⟩
   ·rw [playedP_many HRO.out hl]
    go_enter Tryz.func123,Tryz.ntmps123
    go_wp2_with fail
    refine (pit_within.calls _ _ _ _ _ HW1.out).mono ?_
    rintro e w1 ⟨rfl,m,rfl⟩
    have HX2:=am (blk_drewN HX1.out m)
    have HD2:=am (pw_below_drewN HB1.out m)
    have g0:=bd HX2.out 0
    generalize (W.alloc (.cells #[.slice A rooms.length c,.slice A2 stirs.length c2] 32)).drewN m = w2 at HX2 HD2 g0 ⊢
    go_wp2_with fail
    refine (has145_calls A c rooms (fun x => !decide (1 ≤ x ∧ x ≤ 4096)) 174 #[] (fun _ => True) w2 (Kd.C_below HC.out HD2.out) hc (enters_of Tryz.func174 kr rfl) trivial (fun _ _ _ _ => trivial) (fun x w _ _ => cl174 x w)).mono ?_
    rintro e w3 ⟨rfl,hb⟩
    rw [← HB2.out]
    have HD3:=am (below_then HD2.out (below_size HD2.out) hb)
    have HX3:=am (blk_below HX2.out hb)
    clear hb g0
    have g1:=bd HX3.out 1
    go_wp2
    go_ret3
    exact ⟨HD3.out,rfl⟩
def AllPost (W : World) (lo : Nat) (r : Except (Int × Int) Yd) (e : Ending) (W' : World) : Prop :=
 Below W.heap.size W W' ∧ (match r with
 |.ok Y => ∃ (L : Loc) (base : Nat),W.heap.size ≤ base ∧ (∀ k,lo ≤ k → k < W.heap.size → L.bad k) ∧ e = .returned (.tuple #[.pointer (some ⟨L.g,0,none⟩),ii 0]) ∧ YardAt W' base L Y
 |.error x => e = .returned (.tuple #[.pointer none,ii x.1]))
def codeOf : Except (Int × Int) Yd → Int × Int
|.ok _ => (0,0)
|.error x => x
set_option maxRecDepth 100000 in
theorem all_calls (A A2 : Option Addr) (c c2 : Nat) (rooms : List Int) (stirs : List S84) (W : World) (lo : Nat) (hlo : lo ≤ W.heap.size) (hC : Kd.F (Kd.int .i64) W (fun k => k < lo) A rooms.length rooms) (hc : rooms.length ≤ c) (hS : Kd.C k84 W A2 stirs.length stirs) (hc2 : stirs.length ≤ c2) :
  Calls Tryz.prog 77 #[.agg #[.slice A rooms.length c,.slice A2 stirs.length c2]] W fun e W' => AllPost W lo (playedP rooms stirs stirs.length) e W':=by
 have hu:=Tryz.underlying32
 have HC1:=am (Kd.F_alloc hC (.cells #[.slice A rooms.length c,.slice A2 stirs.length c2] 32))
 have HS1:=am (Kd.C_alloc hS (.cells #[.slice A rooms.length c,.slice A2 stirs.length c2] 32))
 have HB1:=am (below_alloc (Below.refl W.heap.size W) (.cells #[.slice A rooms.length c,.slice A2 stirs.length c2] 32))
 clear hC hS
 obtain ⟨r,hr⟩ : ∃ r,r = playedP rooms stirs stirs.length:=⟨_,rfl⟩
 rw [← hr]
 cases r with
|error x =>
  have HP:=am hr.symm
  clear hr
  go_enter Tryz.func77,Tryz.ntmps77
  go_wp2_with fail
  refine (played_calls A A2 c c2 rooms stirs stirs.length _ lo (Nat.le_trans hlo (by simp)) HC1.out hc HS1.out hc2 (Nat.le_refl _)).mono ?_
  rintro e w1 ⟨hb,h⟩
  rw [HP.out] at h
  have HB2:=am (below_then HB1.out (below_size HB1.out) hb)
  have HSZ:=am (below_size HB1.out)
  clear hb
  subst h
  go_wp2
  go_ret2
  exact ⟨HB2.out,rfl⟩
|ok Y =>
  have HP:=am hr.symm
  clear hr
  go_enter Tryz.func77,Tryz.ntmps77
  go_wp2_with fail
  refine (played_calls A A2 c c2 rooms stirs stirs.length _ lo (Nat.le_trans hlo (by simp)) HC1.out hc HS1.out hc2 (Nat.le_refl _)).mono ?_
  rintro e w1 ⟨hb,h⟩
  rw [HP.out] at h
  have HB2:=am (below_then HB1.out (below_size HB1.out) hb)
  have HSZ:=am (below_size HB1.out)
  clear hb
  obtain ⟨L,base,hbase,hbad,rfl,hY⟩:=h
  have HBA:=am hbad
  clear hbad
  have HY:=am hY
  clear hY
  go_wp2
  go_ret2
  exact ⟨HB2.out,L,base,Nat.le_trans (by simp) hbase,fun k h1 h2 => HBA.out k h1 (Nat.lt_of_lt_of_le h2 (by simp)),rfl,HY.out⟩
set_option maxRecDepth 100000 in
theorem check_calls (A A2 : Option Addr) (c c2 : Nat) (rooms : List Int) (stirs : List S84) (W : World) (lo : Nat) (hlo : lo ≤ W.heap.size) (hC : Kd.F (Kd.int .i64) W (fun k => k < lo) A rooms.length rooms) (hc : rooms.length ≤ c) (hS : Kd.C k84 W A2 stirs.length stirs) (hc2 : stirs.length ≤ c2) :
  Calls Tryz.prog 40 #[.agg #[.slice A rooms.length c,.slice A2 stirs.length c2]] W fun e W' => e = .returned (.tuple #[ii (codeOf (playedP rooms stirs stirs.length)).1,ii (codeOf (playedP rooms stirs stirs.length)).2]) ∧ Below W.heap.size W W':=by
 have hu:=Tryz.underlying32
 have HC1:=am (Kd.F_alloc hC (.cells #[.slice A rooms.length c,.slice A2 stirs.length c2] 32))
 have HS1:=am (Kd.C_alloc hS (.cells #[.slice A rooms.length c,.slice A2 stirs.length c2] 32))
 have HB1:=am (below_alloc (Below.refl W.heap.size W) (.cells #[.slice A rooms.length c,.slice A2 stirs.length c2] 32))
 clear hC hS
 obtain ⟨r,hr⟩ : ∃ r,r = playedP rooms stirs stirs.length:=⟨_,rfl⟩
 rw [← hr]
 cases r with
|error x =>
  have HP:=am hr.symm
  clear hr
  go_enter Tryz.func40,Tryz.ntmps40
  go_wp2_with fail
  refine (played_calls A A2 c c2 rooms stirs stirs.length _ lo (Nat.le_trans hlo (by simp)) HC1.out hc HS1.out hc2 (Nat.le_refl _)).mono ?_
  rintro e w1 ⟨hb,h⟩
  rw [HP.out] at h
  have HB2:=am (below_then HB1.out (below_size HB1.out) hb)
  have HSZ:=am (below_size HB1.out)
  clear hb
  subst h
  go_wp2
  go_ret2
  exact ⟨rfl,HB2.out⟩
|ok Y =>
  have HP:=am hr.symm
  clear hr
  go_enter Tryz.func40,Tryz.ntmps40
  go_wp2_with fail
  refine (played_calls A A2 c c2 rooms stirs stirs.length _ lo (Nat.le_trans hlo (by simp)) HC1.out hc HS1.out hc2 (Nat.le_refl _)).mono ?_
  rintro e w1 ⟨hb,h⟩
  rw [HP.out] at h
  have HB2:=am (below_then HB1.out (below_size HB1.out) hb)
  have HSZ:=am (below_size HB1.out)
  clear hb
  obtain ⟨L,base,hbase,hbad,rfl,hY⟩:=h
  have HBA:=am hbad
  clear hbad
  have HY:=am hY
  clear hY
  go_wp2
  go_ret2
  exact ⟨rfl,HB2.out⟩
def R83_7.T : Bool × List (List Nat × List Nat):=(true,[([],[]),([],[]),([0,0],[0]),([1,2,0,1,2],[1]),([3,0,1,2,3],[])])
def R83_7.B : List Nat:=[0,0,1,7,15]
theorem R83_7.tab : rtab .any (opsOf Tryz.f83 7) = R83_7.T:=by kernel_rfl
theorem R83_7.bits : waitsOk R83_7.T.2 R83_7.B = true:=by kernel_rfl
theorem find_none_of {α : Type} {p : α → Bool} {l : List α} (h : l.any p = false) : l.find? p = none:=by
 rw [List.find?_eq_none]
 intro x hx hp
 rw [List.any_eq_false] at h
 exact h x hx hp
theorem goP_code : ∀ (l : List S84) (Y : Yd) (day i : Int) (x : Int × Int),goP Y day i l = .error x → x.1 ≠ 0
|[],_,_,_,_,h => by simp [goP] at h
|s :: r,Y,day,i,x,h => by
  cases hf : formedP Y.rooms.length s day with
 |false => rw [goP_bad hf] at h;injection h with h;rw [← h];show (7 : Int) ≠ 0;decide
 |true =>
   cases hs : stepP Y s i with
  |error c => rw [goP_err hf hs] at h;injection h with h;rw [← h];have:=stepP_code hs;show c ≠ 0;omega
  |ok Y' => rw [goP_next hf hs] at h;exact goP_code r Y' s.f2 (i + 1) x h
theorem playedP_code {rooms : List Int} {stirs : List S84} {k : Nat} {x : Int × Int} (h : playedP rooms stirs k = .error x) : x.1 ≠ 0:=by
 unfold playedP at h
 split at h
 ·split at h
  ·exact goP_code _ _ _ _ _ h
  ·injection h with h;rw [← h];decide
 ·injection h with h;rw [← h];decide
def BarrowPost (W : World) (lo : Nat) (r : Except (Int × Int) Yd) (id : Int) (e : Ending) (W' : World) : Prop :=
 Below W.heap.size W W' ∧ (match r with
 |.error x => e = .returned (.tuple #[.pointer none,.agg #[ii 0,ii 0,ii 0,.slice none 0 0],ii x.1])
 |.ok Y => (match Y.barrows.find? (isId id) with
  |none => e = .returned (.tuple #[.pointer none,.agg #[ii 0,ii 0,ii 0,.slice none 0 0],ii 5])
  |some b => ∃ (L : Loc) (base : Nat) (A3 : Option Addr) (c3 : Nat),W.heap.size ≤ base ∧ (∀ k,lo ≤ k → k < W.heap.size → L.bad k) ∧ e = .returned (.tuple #[.pointer (some ⟨L.g,0,none⟩),.agg #[ii b.f0,ii b.f1,ii b.f2,.slice A3 b.f3.length c3],ii 0]) ∧ YardAt W' base L Y ∧ b.f3.length ≤ c3 ∧ Kd.F k89 W' L.Not A3 b.f3.length b.f3))
set_option maxRecDepth 100000 in
set_option maxHeartbeats 2000000 in
theorem barrowOf_calls (A A2 : Option Addr) (c c2 : Nat) (rooms : List Int) (stirs : List S84) (W : World) (lo : Nat) (hlo : lo ≤ W.heap.size) (hC : Kd.F (Kd.int .i64) W (fun k => k < lo) A rooms.length rooms) (hc : rooms.length ≤ c) (hS : Kd.C k84 W A2 stirs.length stirs) (hc2 : stirs.length ≤ c2) (id : Int) :
  Calls Tryz.prog 83 #[.agg #[.slice A rooms.length c,.slice A2 stirs.length c2],ii id] W fun e W' => BarrowPost W lo (playedP rooms stirs stirs.length) id e W':=by
 have hu:=Tryz.underlying32
 have hu167:=Tryz.underlying167
 have HC1:=am (Kd.F_alloc (Kd.F_alloc hC (.cells #[.slice A rooms.length c,.slice A2 stirs.length c2] 32)) (.cells #[ii 0,ii 0,ii 0,.slice none 0 0] 167))
 have HS1:=am (Kd.C_alloc (Kd.C_alloc hS (.cells #[.slice A rooms.length c,.slice A2 stirs.length c2] 32)) (.cells #[ii 0,ii 0,ii 0,.slice none 0 0] 167))
 have HB1:=am (below_alloc (below_alloc (Below.refl W.heap.size W) (.cells #[.slice A rooms.length c,.slice A2 stirs.length c2] 32)) (.cells #[ii 0,ii 0,ii 0,.slice none 0 0] 167))
 have HR1:=am (blk_new' (W.alloc (.cells #[.slice A rooms.length c,.slice A2 stirs.length c2] 32)) (.cells #[ii 0,ii 0,ii 0,.slice none 0 0] 167) (W.heap.size + 1) (by simp))
 clear hC hS
 obtain ⟨r,hr⟩ : ∃ r,r = playedP rooms stirs stirs.length:=⟨_,rfl⟩
 rw [← hr]
 have HP:=am hr.symm
 clear hr
 go_enter Tryz.func83,Tryz.ntmps83
 go_wp2_with fail
 refine (all_calls A A2 c c2 rooms stirs _ lo (Nat.le_trans hlo (by simp;omega)) HC1.out hc HS1.out hc2).mono ?_
 rintro e w1 ⟨hb,h⟩
 rw [HP.out] at h
 have HB2:=am (below_then HB1.out (below_size HB1.out) hb)
 have HR2:=am (blk_below HR1.out hb)
 clear hb
 cases r with
|error x =>
  subst h
  have hx : ¬ x.1 = 0:=playedP_code HP.out
  have u0:=bd HR2.out 0
  have f0:=blk_frozen HR2.out 0
  have u1:=bd HR2.out 1
  have f1:=blk_frozen HR2.out 1
  have u2:=bd HR2.out 2
  have f2:=blk_frozen HR2.out 2
  have u3:=bd HR2.out 3
  have f3:=blk_frozen HR2.out 3
  go_wp2
  have bz:=blk_put (cs':=#[ii 0,ii 0,ii 0,.slice none 0 0]) (blk_put (cs':=#[ii 0,ii 0,ii 0,.slice none 0 0]) (blk_put (cs':=#[ii 0,ii 0,ii 0,.slice none 0 0]) (blk_put (cs':=#[ii 0,ii 0,ii 0,.slice none 0 0]) (HR2.out) 0 (ii 0) rfl) 1 (ii 0) rfl) 2 (ii 0) rfl) 3 (.slice none 0 0) rfl
  have z0:=bd bz 0
  have z1:=bd bz 1
  have z2:=bd bz 2
  have z3:=bd bz 3
  exact bodyPost_ret (v:=.tuple #[.pointer none,.agg #[ii 0,ii 0,ii 0,.slice none 0 0],ii x.1]) (by simp [results,Tryz.results83,go_sem,z0,z1,z2,z3,hu167]) rfl ⟨((((HB2.out).setCell (p:=⟨W.heap.size + 1,0,none⟩) (Nat.le_succ _) (ii 0)).setCell (p:=⟨W.heap.size + 1,1,none⟩) (Nat.le_succ _) (ii 0)).setCell (p:=⟨W.heap.size + 1,2,none⟩) (Nat.le_succ _) (ii 0)).setCell (p:=⟨W.heap.size + 1,3,none⟩) (Nat.le_succ _) (.slice none 0 0),rfl⟩
|ok Y =>
  obtain ⟨L,base,hbase,hbad,rfl,hY⟩:=h
  have HBA:=am hbad
  have HY:=am hY
  have HBS:=am hbase
  have HWF:=am (played_ok HP.out).2.2.1
  clear hbad hY hbase
  go_wp2_with fail
  refine (find_calls HY.out HWF.out (by decide) id).mono ?_
  rintro e w2 ⟨hb,h⟩
  have HB3:=am (below_then HB2.out (below_size HB2.out) hb)
  have HR3:=am (blk_below HR2.out hb)
  have HY3:=am (HY.out.move hb)
  clear hb
  rcases h with ⟨ha,rfl⟩|⟨b,A3,c3,hfd,rfl,hl3,hF3⟩
  ·have HA:=am (find_none_of ha)
   clear ha
   have HR4:=am (blk_alloc HR3.out (.cells #[ii 0,ii 0,ii 0,.slice none 0 0] 167))
   have HB4:=am (below_alloc HB3.out (.cells #[ii 0,ii 0,ii 0,.slice none 0 0] 167))
   have u0:=bd HR4.out 0
   have f0:=blk_frozen HR4.out 0
   have u1:=bd HR4.out 1
   have f1:=blk_frozen HR4.out 1
   have u2:=bd HR4.out 2
   have f2:=blk_frozen HR4.out 2
   have u3:=bd HR4.out 3
   have f3:=blk_frozen HR4.out 3
   go_wp2
   have bz:=blk_put (cs':=#[ii 0,ii 0,ii 0,.slice none 0 0]) (blk_put (cs':=#[ii 0,ii 0,ii 0,.slice none 0 0]) (blk_put (cs':=#[ii 0,ii 0,ii 0,.slice none 0 0]) (blk_put (cs':=#[ii 0,ii 0,ii 0,.slice none 0 0]) (HR4.out) 0 (ii 0) rfl) 1 (ii 0) rfl) 2 (ii 0) rfl) 3 (.slice none 0 0) rfl
   have z0:=bd bz 0
   have z1:=bd bz 1
   have z2:=bd bz 2
   have z3:=bd bz 3
   refine bodyPost_ret (v:=.tuple #[.pointer none,.agg #[ii 0,ii 0,ii 0,.slice none 0 0],ii 5]) (by simp [results,Tryz.results83,go_sem,z0,z1,z2,z3,hu167]) rfl ⟨((((HB4.out).setCell (p:=⟨W.heap.size + 1,0,none⟩) (Nat.le_succ _) (ii 0)).setCell (p:=⟨W.heap.size + 1,1,none⟩) (Nat.le_succ _) (ii 0)).setCell (p:=⟨W.heap.size + 1,2,none⟩) (Nat.le_succ _) (ii 0)).setCell (p:=⟨W.heap.size + 1,3,none⟩) (Nat.le_succ _) (.slice none 0 0),?_⟩
   simp only [HA.out]
  ·have HFD:=am hfd
   have HL3:=am hl3
   have HF3:=am hF3
   clear hfd hl3 hF3
   have HR5:=am (blk_drew (blk_alloc HR3.out (.cells #[ii b.f0,ii b.f1,ii b.f2,.slice A3 b.f3.length c3] 167)))
   have HB5:=am (below_drew (below_alloc HB3.out (.cells #[ii b.f0,ii b.f1,ii b.f2,.slice A3 b.f3.length c3] 167)))
   have HY5:=am ((HY3.out.move (below_alloc (Below.refl _ _) (.cells #[ii b.f0,ii b.f1,ii b.f2,.slice A3 b.f3.length c3] 167))).move (below_drew (Below.refl _ _)))
   have HX5:=am (blk_drew (blk_new w2 (.cells #[ii b.f0,ii b.f1,ii b.f2,.slice A3 b.f3.length c3] 167)))
   have HF5:=am (Kd.F_drew (Kd.F_alloc HF3.out (.cells #[ii b.f0,ii b.f1,ii b.f2,.slice A3 b.f3.length c3] 167)))
   have HBD:=am (HBA.out (W.heap.size + 1) (by omega) (by simp))
   go_wp2
   refine start_ (n:=5) (S:=fun w' => w'.cell? ⟨w2.heap.size,0,none⟩ = some (ii b.f0) ∧ w'.cell? ⟨w2.heap.size,1,none⟩ = some (ii b.f1) ∧ w'.cell? ⟨w2.heap.size,2,none⟩ = some (ii b.f2) ∧ w'.cell? ⟨w2.heap.size,3,none⟩ = some (.slice A3 b.f3.length c3)) (ds:=[3]) (ab 5 0) kr rfl kr ⟨(blk_cell HX5.out 0).trans rfl,(blk_cell HX5.out 1).trans rfl,(blk_cell HX5.out 2).trans rfl,(blk_cell HX5.out 3).trans rfl⟩ (fun hHeld => ?_);refine with_tabW R83_7.tab R83_7.bits (fun HT_ HW_ => ?_)
   generalize ((w2.alloc (.cells #[ii b.f0,ii b.f1,ii b.f2,.slice A3 b.f3.length c3] 167))).drew = wd at HR5 HB5 HY5 HX5 HF5 hHeld ⊢
   refine qA 0 (some 29) ?_;refine qT 1 (some 30) ?_;refine qA 2 (some 4) ?_
   refine qL 3 (none) fun K hK => ?_
   have u0:=bd HR5.out 0
   have f0:=blk_frozen HR5.out 0
   have u1:=bd HR5.out 1
   have f1:=blk_frozen HR5.out 1
   have u2:=bd HR5.out 2
   have f2:=blk_frozen HR5.out 2
   have u3:=bd HR5.out 3
   have f3:=blk_frozen HR5.out 3
   refine skip_ (w1:=?_) (by rfl) rfl ?_ ?_
   rotate_left
   ·go_simp
    rfl
   refine hK.out _ _ ?_
   clear hK K
   refine qA 4 (some 6) ?_
   refine done_ (done_of HT_.out kr) ?_
   go_wp2
   have bz:=blk_put (cs':=#[ii b.f0,ii b.f1,ii b.f2,.slice A3 b.f3.length c3]) (blk_put (cs':=#[ii b.f0,ii b.f1,ii b.f2,.slice none 0 0]) (blk_put (cs':=#[ii b.f0,ii b.f1,ii 0,.slice none 0 0]) (blk_put (cs':=#[ii b.f0,ii 0,ii 0,.slice none 0 0]) (HR5.out) 0 (ii b.f0) rfl) 1 (ii b.f1) rfl) 2 (ii b.f2) rfl) 3 (.slice A3 b.f3.length c3) rfl
   have z0:=bd bz 0
   have z1:=bd bz 1
   have z2:=bd bz 2
   have z3:=bd bz 3
   obtain ⟨y1,r1⟩:=HY5.out.set_bad (j:=0) HBD.out (ii b.f0)
   obtain ⟨y2,r2⟩:=y1.set_bad (j:=1) HBD.out (ii b.f1)
   obtain ⟨y3,r3⟩:=y2.set_bad (j:=2) HBD.out (ii b.f2)
   obtain ⟨y4,r4⟩:=y3.set_bad (j:=3) HBD.out (.slice A3 b.f3.length c3)
   refine bodyPost_ret (v:=.tuple #[.pointer (some ⟨L.g,0,none⟩),.agg #[ii b.f0,ii b.f1,ii b.f2,.slice A3 b.f3.length c3],ii 0]) (by simp [results,Tryz.results83,go_sem,z0,z1,z2,z3,hu167]) rfl ⟨((((HB5.out).setCell (p:=⟨W.heap.size + 1,0,none⟩) (Nat.le_succ _) (ii b.f0)).setCell (p:=⟨W.heap.size + 1,1,none⟩) (Nat.le_succ _) (ii b.f1)).setCell (p:=⟨W.heap.size + 1,2,none⟩) (Nat.le_succ _) (ii b.f2)).setCell (p:=⟨W.heap.size + 1,3,none⟩) (Nat.le_succ _) (.slice A3 b.f3.length c3),?_⟩
   simp only [HFD.out]
   exact ⟨L,base,A3,c3,Nat.le_trans (by simp;omega) HBS.out,fun k h1 h2 => HBA.out k h1 (Nat.lt_of_lt_of_le h2 (by simp;omega)),rfl,y4,HL3.out,Foot_fr HF5.out (((r1.trans r2).trans r3).trans r4)⟩
def PartsPost (W : World) (r : Except (Int × Int) Yd) (id : Int) (e : Ending) (W' : World) : Prop :=
 Below W.heap.size W W' ∧ (match r with
 |.error x => e = .returned (.tuple #[.slice none 0 0,ii x.1])
 |.ok Y => (match Y.barrows.find? (isId id) with
  |none => e = .returned (.tuple #[.slice none 0 0,ii 5])
  |some b => ∃ (A3 : Option Addr) (c3 : Nat),e = .returned (.tuple #[.slice A3 b.f3.length c3,ii 0]) ∧ b.f3.length ≤ c3 ∧ Kd.C k89 W' A3 b.f3.length b.f3))
set_option maxRecDepth 100000 in
set_option maxHeartbeats 2000000 in
theorem barrow_calls (A A2 : Option Addr) (c c2 : Nat) (rooms : List Int) (stirs : List S84) (W : World) (lo : Nat) (hlo : lo ≤ W.heap.size) (hC : Kd.F (Kd.int .i64) W (fun k => k < lo) A rooms.length rooms) (hc : rooms.length ≤ c) (hS : Kd.C k84 W A2 stirs.length stirs) (hc2 : stirs.length ≤ c2) (id : Int) :
  Calls Tryz.prog 28 #[.agg #[.slice A rooms.length c,.slice A2 stirs.length c2],ii id] W fun e W' => PartsPost W (playedP rooms stirs stirs.length) id e W':=by
 have hu:=Tryz.underlying32
 have hu167:=Tryz.underlying167
 have HC1:=am (Kd.F_alloc hC (.cells #[.slice A rooms.length c,.slice A2 stirs.length c2] 32))
 have HS1:=am (Kd.C_alloc hS (.cells #[.slice A rooms.length c,.slice A2 stirs.length c2] 32))
 have HB1:=am (below_alloc (Below.refl W.heap.size W) (.cells #[.slice A rooms.length c,.slice A2 stirs.length c2] 32))
 clear hC hS
 obtain ⟨r,hr⟩ : ∃ r,r = playedP rooms stirs stirs.length:=⟨_,rfl⟩
 rw [← hr]
 have HP:=am hr.symm
 clear hr
 go_enter Tryz.func28,Tryz.ntmps28
 go_wp2_with fail
 refine (barrowOf_calls A A2 c c2 rooms stirs _ lo (Nat.le_trans hlo (by simp)) HC1.out hc HS1.out hc2 id).mono ?_
 rintro e w1 ⟨hb,h⟩
 rw [HP.out] at h
 have HB2:=am (below_then HB1.out (below_size HB1.out) hb)
 clear hb
 cases r with
|error x =>
  subst h
  have hx : ¬ x.1 = 0:=playedP_code HP.out
  go_wp2
  go_ret2
  exact ⟨below_alloc HB2.out _,rfl⟩
|ok Y =>
  cases hf : Y.barrows.find? (isId id) with
 |none =>
   have HF:=am hf
   simp only [hf] at h
   clear hf
   subst h
   go_wp2
   go_ret2
   refine ⟨below_alloc HB2.out _,?_⟩
   simp only [HF.out]
   rfl
 |some b =>
   have HF:=am hf
   simp only [hf] at h
   clear hf
   obtain ⟨L,base,A3,c3,hbase,hbad,rfl,hY,hl3,hF3⟩:=h
   have HWF:=am (played_ok HP.out).2.2.1
   have HLB:=am (show b.f3.length ≤ 60 from by have:=(HWF.out.barrows b (List.mem_of_find?_eq_some HF.out)).par.len;exact this)
   have HY:=am hY
   have HL3:=am hl3
   have HF4:=am (Kd.F_alloc hF3 (.cells #[ii b.f0,ii b.f1,ii b.f2,.slice A3 b.f3.length c3] 167))
   have HB3:=am (below_alloc HB2.out (.cells #[ii b.f0,ii b.f1,ii b.f2,.slice A3 b.f3.length c3] 167))
   have HY4:=am (hY.move (below_alloc (Below.refl _ _) (.cells #[ii b.f0,ii b.f1,ii b.f2,.slice A3 b.f3.length c3] 167)))
   clear hbase hbad hY hl3 hF3
   go_wp2_with fail
   refine (clone97_calls A3 c3 b.f3 _ L.Not HF4.out HL3.out (by have:=HLB.out;omega)).mono ?_
   rintro e w2 ⟨v,rfl,hb,hR⟩
   obtain ⟨A5,c5,rfl⟩:=Kd.R_slice hR
   have HB4:=am (below_then HB3.out (below_size HB3.out) hb)
   have HC5:=am (Kd.F_now (ft_F hR (fun k _ hlt => hb.block k hlt) (fun k hk => HY4.out.not_new (Kd.R_base hR k hk))))
   have HL5:=am (Kd.R_reads' hR).2.1
   clear hb hR
   go_wp2
   go_ret2
   refine ⟨HB4.out,?_⟩
   simp only [HF.out]
   exact ⟨A5,c5,rfl,HL5.out,HC5.out⟩
def partL (l : List S89) (pour : Int) : S43:=match l.find? (fun x => decide (x.f0 = pour)) with
|some x => x.f1
|none => wholeP 0
def partP (b : S167) (pour : Int) : S43:=partL b.f3 pour
def shareP (b : S167) (pour : Int) : S43:=timesP (partP b pour) 1 b.f2
def resultP (r : S43) : S43 × Int:=if validP r = true then (r,0) else (⟨0,0⟩,3)
theorem partL_cons (x : S89) (l : List S89) (pour : Int) : partL (x :: l) pour = if x.f0 = pour then x.f1 else partL l pour:=by
 unfold partL
 rw [List.find?_cons]
 by_cases h : x.f0 = pour
 ·simp [h]
 ·simp [h]
theorem part_l0 : ∀ (d k : Nat) (l : List S89) (pour : Int) (i : Nat),i + d = l.length → d < k → l.length < 9223372036854775807 → pit_barrow_part.l0 k pour l (l.length : Int) (i : Int) = some ((partL (l.drop i) pour).f0,(partL (l.drop i) pour).f1)
|d,0,l,pour,i,_,hk,_ => by omega
|0,k + 1,l,pour,i,hd,hk,hl => by
  simp only [pit_barrow_part.l0]
  rw [if_neg (by omega),List.drop_eq_nil_of_le (by omega)]
  rfl
|d + 1,k + 1,l,pour,i,hd,hk,hl => by
  have hi : i < l.length:=by omega
  simp only [pit_barrow_part.l0]
  rw [if_pos (by omega),if_pos (by omega),if_pos (by omega)]
  have hrd : rd_T89 l (i : Int) = l[i]:=by unfold rd_T89;rw [Int.toNat_natCast,List.getD_eq_getElem?_getD,List.getElem?_eq_getElem hi];rfl
  rw [hrd,List.drop_eq_getElem_cons hi,partL_cons]
  by_cases h : l[i].f0 = pour
  ·rw [if_pos h,if_pos h]
  ·rw [if_neg h,if_neg h,wrap_in (by omega) (by omega),show ((i : Int) + 1) = ((i + 1 : Nat) : Int) by omega,part_l0 d k l pour (i + 1) (by omega) (by omega) hl]
theorem part_some (b : S167) (pour : Int) (hl : b.f3.length < 9223372036854775807) : pit_barrow_part.f FU b.f0 b.f1 b.f2 b.f3 pour = some ((partP b pour).f0,(partP b pour).f1):=by
 unfold pit_barrow_part.f partP
 have:=part_l0 b.f3.length FU b.f3 pour 0 (by omega) (FU_lt (by omega)) hl
 simpa using this
theorem partL_ok {pours : List Int} {l : List S89} (h : ∀ x ∈ l,PartOk pours x) (pour : Int) : Rok (partL l pour) ∧ (partL l pour).f0 ≤ 68719476736 ∧ (partL l pour).f1 ≤ 16384:=by
 induction l with
|nil => exact ⟨wholeP_ok (Int.le_refl 0),(by decide : (0 : Int) ≤ 68719476736),(by decide : (1 : Int) ≤ 16384)⟩
|cons x r ih =>
  rw [partL_cons]
  split
  ·exact fineP_of (h x List.mem_cons_self).1
  ·exact ih fun y hy => h y (List.mem_cons_of_mem _ hy)
theorem partP_ok {n : Nat} {pours : List Int} {b : S167} (h : BarrowOk n pours b) (pour : Int) : Rok (partP b pour) ∧ (partP b pour).f0 ≤ 68719476736 ∧ (partP b pour).f1 ≤ 16384:=partL_ok h.par.parts pour
theorem share_some {n : Nat} {pours : List Int} {b : S167} (h : BarrowOk n pours b) (pour : Int) : pit_barrow_share.f FU b.f0 b.f1 b.f2 b.f3 pour = some ((shareP b pour).f0,(shareP b pour).f1):=by
 obtain ⟨h1,h2,h3⟩:=partP_ok h pour
 have hlen : b.f3.length ≤ 60:=h.par.len
 unfold pit_barrow_share.f
 rw [part_some b pour (by omega)]
 simp only [Option.bind_some]
 have h4:=h.lo
 have h5:=h.hi
 rw [times_some h1 h2 (by omega) (by omega) (by omega) h4 (by omega)]
 rfl
theorem result_some (r : S43) : pit_result.f FU r.f0 r.f1 = some ((resultP r).1.f0,(resultP r).1.f1,(resultP r).2):=by
 unfold pit_result.f resultP
 rw [valid_some]
 simp only [Option.bind_some]
 cases validP r <;> rfl
def shareE (r : Except (Int × Int) Yd) (id pour : Int) : S43 × Int:=match r with
|.error x => (⟨0,0⟩,x.1)
|.ok Y => (match Y.barrows.find? (isId id) with
 |none => (⟨0,0⟩,5)
 |some b => if pour ∈ Y.pours then resultP (shareP b pour) else (⟨0,0⟩,5))
theorem C_lo {w : World} {A : Option Addr} {rooms : List Int} (h : Kd.C (Kd.int .i64) w A rooms.length rooms) : Kd.F (Kd.int .i64) w (fun k => k < w.heap.size) A rooms.length rooms:=Kd.C_F (Kd.heap_int .i64) h
theorem goP_take : ∀ (l : List S84) (k : Nat) (Y : Yd) (day i : Int) (Y' : Yd),goP Y day i l = .ok Y' → ∃ Y2,goP Y day i (l.take k) = .ok Y2
|[],k,Y,_,_,_,_ => ⟨Y,by rw [List.take_nil];rfl⟩
|s :: r,0,Y,_,_,_,_ => ⟨Y,rfl⟩
|s :: r,k + 1,Y,day,i,Y',h => by
  rw [List.take_succ_cons]
  cases hf : formedP Y.rooms.length s day with
 |false => rw [goP_bad hf] at h;cases h
 |true =>
   cases hs : stepP Y s i with
  |error c => rw [goP_err hf hs] at h;cases h
  |ok Y1 =>
    rw [goP_next hf hs] at h ⊢
    exact goP_take r k Y1 s.f2 (i + 1) Y' h
theorem playedP_take {rooms : List Int} {stirs : List S84} {n k : Nat} {Y : Yd} (hk : k ≤ n) (h : playedP rooms stirs n = .ok Y) : ∃ Y2,playedP rooms stirs k = .ok Y2:=by
 obtain ⟨h1,h2,_⟩:=played_ok h
 rw [playedP_go h1 h2] at h ⊢
 obtain ⟨Y2,h3⟩:=goP_take (stirs.take n) k _ _ _ _ h
 rw [List.take_take,Nat.min_eq_left hk] at h3
 exact ⟨Y2,h3⟩
def BehindPost (W : World) (lo : Nat) (rooms : List Int) (stirs : List S84) (pit step : Int) (e : Ending) (W' : World) : Prop :=
 Below W.heap.size W W' ∧ (match playedP rooms stirs stirs.length with
 |.error x => e = .returned (.tuple #[.pointer none,ii x.1])
 |.ok _ => if (inP pit 0 ((rooms.length : Int) - 1) && inP step 0 (stirs.length : Int)) = true then ∃ (Y2 : Yd) (L : Loc) (base : Nat),playedP rooms stirs step.toNat = .ok Y2 ∧ W.heap.size ≤ base ∧ (∀ k,lo ≤ k → k < W.heap.size → L.bad k) ∧ e = .returned (.tuple #[.pointer (some ⟨L.g,0,none⟩),ii 0]) ∧ YardAt W' base L Y2
   else e = .returned (.tuple #[.pointer none,ii 1]))
set_option maxRecDepth 100000 in
set_option maxHeartbeats 2000000 in
theorem behind_calls (A A2 : Option Addr) (c c2 : Nat) (rooms : List Int) (stirs : List S84) (W : World) (lo : Nat) (hlo : lo ≤ W.heap.size) (hC : Kd.F (Kd.int .i64) W (fun k => k < lo) A rooms.length rooms) (hc : rooms.length ≤ c) (hS : Kd.C k84 W A2 stirs.length stirs) (hc2 : stirs.length ≤ c2) (pit step : Int) :
  Calls Tryz.prog 129 #[.agg #[.slice A rooms.length c,.slice A2 stirs.length c2],ii pit,ii step] W fun e W' => BehindPost W lo rooms stirs pit step e W':=by
 have hu:=Tryz.underlying32
 have HC1:=am (Kd.F_alloc hC (.cells #[.slice A rooms.length c,.slice A2 stirs.length c2] 32))
 have HS1:=am (Kd.C_alloc hS (.cells #[.slice A rooms.length c,.slice A2 stirs.length c2] 32))
 have HB1:=am (below_alloc (Below.refl W.heap.size W) (.cells #[.slice A rooms.length c,.slice A2 stirs.length c2] 32))
 have HX1:=am (blk_new W (.cells #[.slice A rooms.length c,.slice A2 stirs.length c2] 32))
 have hrm:=(Kd.F_now hC).2.1
 have hsm:=hS.2.1
 clear hC hS
 unfold BehindPost
 obtain ⟨r,hr⟩ : ∃ r,r = playedP rooms stirs stirs.length:=⟨_,rfl⟩
 rw [← hr]
 have HP:=am hr.symm
 clear hr
 obtain ⟨b1,hb1⟩ : ∃ b1,b1 = inP pit 0 ((rooms.length : Int) - 1):=⟨_,rfl⟩
 obtain ⟨b2,hb2⟩ : ∃ b2,b2 = inP step 0 (stirs.length : Int):=⟨_,rfl⟩
 rw [← hb1,← hb2]
 have HW1:=am (show pit_within.f pit 0 ((rooms.length : Int) - 1) = some b1 by rw [within_some,hb1];rfl)
 have HW2:=am (show pit_within.f step 0 (stirs.length : Int) = some b2 by rw [within_some,hb2];rfl)
 have HT2:=am hb2
 clear hb1 hb2
 go_enter Tryz.func129,Tryz.ntmps129
 cases r with
|error x =>
  have hx : ¬ x.1 = 0:=playedP_code HP.out
  go_wp2_with fail
  refine (all_calls A A2 c c2 rooms stirs _ lo (Nat.le_trans hlo (by simp)) HC1.out hc HS1.out hc2).mono ?_
  rintro e w1 ⟨hb,h⟩
  rw [HP.out] at h
  have HB2:=am (below_then HB1.out (below_size HB1.out) hb)
  have HX2:=am (blk_below HX1.out hb)
  have HC2:=am (Kd.F_below HC1.out hb)
  have HS2:=am (Kd.C_below HS1.out hb)
  clear hb
  subst h
  go_wp2
  go_ret2
  exact ⟨HB2.out,rfl⟩
|ok Y =>
  cases b1 with
 |false =>
   go_wp2_with fail
   refine (all_calls A A2 c c2 rooms stirs _ lo (Nat.le_trans hlo (by simp)) HC1.out hc HS1.out hc2).mono ?_
   rintro e w1 ⟨hb,h⟩
   rw [HP.out] at h
   have HB2:=am (below_then HB1.out (below_size HB1.out) hb)
   have HX2:=am (blk_below HX1.out hb)
   have HC2:=am (Kd.F_below HC1.out hb)
   have HS2:=am (Kd.C_below HS1.out hb)
   clear hb
   obtain ⟨L0,base0,_,_,rfl,_⟩:=h
   have g0:=bd HX2.out 0
   have g1:=bd HX2.out 1
   go_wp2_with fail
   refine (pit_within.calls _ _ _ _ _ HW1.out).mono ?_
   rintro e w2 ⟨rfl,m,rfl⟩
   have HB3:=am (pw_below_drewN HB2.out m)
   have HX3:=am (blk_drewN HX2.out m)
   have HC3:=am (Kd.F_drewN HC2.out m)
   have HS3:=am (Kd.C_drewN HS2.out m)
   generalize w1.drewN m = w2 at HB3 HX3 HC3 HS3 ⊢
   clear g0 g1
   have g0:=bd HX3.out 0
   have g1:=bd HX3.out 1
   go_wp2
   go_ret2
   exact ⟨HB3.out,rfl⟩
 |true =>
   cases b2 with
  |false =>
    go_wp2_with fail
    refine (all_calls A A2 c c2 rooms stirs _ lo (Nat.le_trans hlo (by simp)) HC1.out hc HS1.out hc2).mono ?_
    rintro e w1 ⟨hb,h⟩
    rw [HP.out] at h
    have HB2:=am (below_then HB1.out (below_size HB1.out) hb)
    have HX2:=am (blk_below HX1.out hb)
    have HC2:=am (Kd.F_below HC1.out hb)
    have HS2:=am (Kd.C_below HS1.out hb)
    clear hb
    obtain ⟨L0,base0,_,_,rfl,_⟩:=h
    have g0:=bd HX2.out 0
    have g1:=bd HX2.out 1
    go_wp2_with fail
    refine (pit_within.calls _ _ _ _ _ HW1.out).mono ?_
    rintro e w2 ⟨rfl,m,rfl⟩
    have HB3:=am (pw_below_drewN HB2.out m)
    have HX3:=am (blk_drewN HX2.out m)
    have HC3:=am (Kd.F_drewN HC2.out m)
    have HS3:=am (Kd.C_drewN HS2.out m)
    generalize w1.drewN m = w2 at HB3 HX3 HC3 HS3 ⊢
    clear g0 g1
    have g0:=bd HX3.out 0
    have g1:=bd HX3.out 1
    go_wp2_with fail
    refine (pit_within.calls _ _ _ _ _ HW2.out).mono ?_
    rintro e w3 ⟨rfl,m,rfl⟩
    have HB4:=am (pw_below_drewN HB3.out m)
    have HX4:=am (blk_drewN HX3.out m)
    have HC4:=am (Kd.F_drewN HC3.out m)
    have HS4:=am (Kd.C_drewN HS3.out m)
    generalize w2.drewN m = w3 at HB4 HX4 HC4 HS4 ⊢
    clear g0 g1
    have g0:=bd HX4.out 0
    have g1:=bd HX4.out 1
    go_wp2
    go_ret2
    exact ⟨HB4.out,rfl⟩
  |true =>
    obtain ⟨k,hk,hks⟩ : ∃ k : Nat,step = (k : Int) ∧ k ≤ stirs.length:=by
     have h:=HT2.out
     unfold inP at h
     have h:=of_decide_eq_true h.symm
     exact ⟨step.toNat,by omega,by omega⟩
    subst hk
    obtain ⟨Y2,hY2⟩:=playedP_take hks HP.out
    have HP2:=am hY2
    clear hY2
    go_wp2_with fail
    refine (all_calls A A2 c c2 rooms stirs _ lo (Nat.le_trans hlo (by simp)) HC1.out hc HS1.out hc2).mono ?_
    rintro e w1 ⟨hb,h⟩
    rw [HP.out] at h
    have HB2:=am (below_then HB1.out (below_size HB1.out) hb)
    have HX2:=am (blk_below HX1.out hb)
    have HC2:=am (Kd.F_below HC1.out hb)
    have HS2:=am (Kd.C_below HS1.out hb)
    clear hb
    obtain ⟨L0,base0,_,_,rfl,_⟩:=h
    have g0:=bd HX2.out 0
    have g1:=bd HX2.out 1
    go_wp2_with fail
    refine (pit_within.calls _ _ _ _ _ HW1.out).mono ?_
    rintro e w2 ⟨rfl,m,rfl⟩
    have HB3:=am (pw_below_drewN HB2.out m)
    have HX3:=am (blk_drewN HX2.out m)
    have HC3:=am (Kd.F_drewN HC2.out m)
    have HS3:=am (Kd.C_drewN HS2.out m)
    generalize w1.drewN m = w2 at HB3 HX3 HC3 HS3 ⊢
    clear g0 g1
    have g0:=bd HX3.out 0
    have g1:=bd HX3.out 1
    go_wp2_with fail
    refine (pit_within.calls _ _ _ _ _ HW2.out).mono ?_
    rintro e w3 ⟨rfl,m,rfl⟩
    have HB4:=am (pw_below_drewN HB3.out m)
    have HX4:=am (blk_drewN HX3.out m)
    have HC4:=am (Kd.F_drewN HC3.out m)
    have HS4:=am (Kd.C_drewN HS3.out m)
    generalize w2.drewN m = w3 at HB4 HX4 HC4 HS4 ⊢
    clear g0 g1
    have g0:=bd HX4.out 0
    have g1:=bd HX4.out 1
    go_wp2_with fail
    refine (played_calls A A2 c c2 rooms stirs k _ lo (Nat.le_trans hlo HB4.out.size) HC4.out hc HS4.out hc2 hks).mono ?_
    rintro e w4 ⟨hb,h⟩
    rw [HP2.out] at h
    obtain ⟨L,base,hbase,hbad,rfl,hY⟩:=h
    have HB5:=am (below_then HB4.out (below_size HB4.out) hb)
    have HY:=am hY
    have HBA:=am hbad
    have HBS:=am (Nat.le_trans HB4.out.size hbase)
    have HSZ:=am HB4.out.size
    clear hb hY hbad hbase g0 g1
    go_wp2
    go_ret2
    exact ⟨HB5.out,Y2,HP2.out,L,base,HBS.out,fun k h1 h2 => HBA.out k h1 (Nat.lt_of_lt_of_le h2 HSZ.out),rfl,HY.out⟩
end Go.Proofs.YtjjfpmapjjemcaaGreat.B
end
