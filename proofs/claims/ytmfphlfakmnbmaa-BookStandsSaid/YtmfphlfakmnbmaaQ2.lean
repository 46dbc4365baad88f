import Derived.Test.YtmfphlfakmnbmaaQ1
set_option linter.unusedVariables false
set_option linter.unusedSimpArgs false
section
namespace Go.Proofs.Ytmfphlfakmnbmaa.B
open Go.RowKit Go.Proofs.YtmfphlfakmnbmaaW.PrintWords Go.Proofs.YtmfphlfakmnbmaaW.PrintLast Go.Proofs.YtmfphlfakmnbmaaW.PrintMore
attribute [local go_sem] max2_int min2_int max_two min_two max_three min_three max_four min_four
def book_follows.l0 : Nat → List (S29) → List (S29) → Int → Int → Option (Bool)
|0,_,_,_,_ => none
|k + 1,x0,x5,x6,x7 => if x7 < x6 then (if 0 ≤ x7 then (if x7 < (x5.length : Int) then ((book_right.f ((rd_T29 x5 x7).f0) ((rd_T29 x5 x7).f1) ((rd_T29 x5 x7).f2) ((rd_T29 x5 x7).f3)).bind fun t103 => (if t103 = true then (if x7 > 0 then (if 0 ≤ (wrap64 (x7 - 1)) then (if (wrap64 (x7 - 1)) < (x0.length : Int) then (if ((rd_T29 x5 x7).f0) < ((rd_T29 x0 (wrap64 (x7 - 1))).f0) then (some false) else (book_follows.l0 k x0 x5 x6 (wrap64 (x7 + 1)))) else (none)) else (none)) else (book_follows.l0 k x0 x5 x6 (wrap64 (x7 + 1)))) else (some false))) else (none)) else (none)) else (some true)
def book_follows.f (k : Nat) (l0 : List (S29)) : Option (Bool):=book_follows.l0 k l0 l0 (l0.length : Int) 0
def book_follows.T4 : Bool × List (List Nat × List Nat):=(true,[([],[]),([0],[0]),([1],[1]),([2,1],[2]),([3],[3]),([4,3],[3,4]),([5,3,3],[3,5]),([6],[6]),([7,6],[6,7]),([6],[6]),([6],[6]),([10,6],[6,10]),([9,11,6],[6,9,11]),([12,6],[6,12]),([13,6],[6,13]),([8,14,6],[6,8,14]),([6,15,3],[3,6,15]),([3,16],[3,16])])
def book_follows.B4 : List Nat:=[0,1,3,7,15,31,63,127,255,127,127,1151,3711,7807,15999,32767,65535,131071]
theorem book_follows.tab4 : rtab .any (opsOf Try.f107 4) = book_follows.T4:=by kernel_rfl
theorem book_follows.bits4 : waitsOk book_follows.T4.2 book_follows.B4 = true:=by kernel_rfl
set_option maxHeartbeats 8000000 in
set_option maxRecDepth 100000 in
theorem book_follows.calls (k : Nat) (A0 : Option Addr) (c0 : Nat) (l0 : List (S29)) (r : Bool) (w : World) (hr0 : Kd.C k29 w A0 l0.length l0) (hc0 : l0.length ≤ c0) (h : book_follows.f k l0 = some r) :
  Calls Try.prog 107 #[.slice A0 l0.length c0] w fun e w' => e = .returned (.bool r) ∧ Below w.heap.size w w':=by
 have hu29:=Try.underlying29
 have HR0:=am hr0
 have HC0:=am hc0
 clear hr0 hc0
 have HB:=am (Below.refl w.heap.size w)
 have H : (book_follows.l0 k l0 l0 (l0.length : Int) 0) = some r:=h
 clear h
 have H':=am H
 clear H
 go_enter Try.func107,Try.ntmps107
 go_wp2
 go_loopg [7] k (fun kq v7 w' => ∃ (x7_1 : Int),v7 = .int .i64 x7_1 ∧ Aside0 (book_follows.l0 kq l0 l0 (l0.length : Int) x7_1 = some r) ∧ Aside0 (kq ≤ k) ∧ Aside0 (Below w.heap.size w w'))
 case atStart => exact ⟨(0),ve,H',⟨Nat.le_refl _⟩,⟨v0 HB.out⟩⟩
 case round =>
  clear H'
  try clear c1
  obtain ⟨x7_1,rfl,HA,HK1,HB⟩:=hrel
  cases gk with
 |zero => exact absurd HA.out (by simp [book_follows.l0])
 |succ k1 =>
   have H:=HA.out
   clear HA
   simp only [book_follows.l0] at H
   by_cases c2 : x7_1 < (l0.length : Int)
   ·rw [if_pos c2] at H
    have c2b0 : decide (x7_1 < (l0.length : Int)) = true:=decide_eq_true c2
    clear c2
    by_cases c3 : 0 ≤ x7_1
    ·rw [if_pos c3] at H
     have c3b0 : decide (0 ≤ x7_1) = true:=decide_eq_true c3
     clear c3
     by_cases c4 : x7_1 < (l0.length : Int)
     ·rw [if_pos c4] at H
      have c4b0 : decide (x7_1 < (l0.length : Int)) = true:=decide_eq_true c4
      clear c4
      replace H:=Option.bind_eq_some_iff.mp H
      obtain ⟨t103,A50,H⟩:=H
      replace H : (if t103 = true then (if x7_1 > 0 then (if 0 ≤ (wrap64 (x7_1 - 1)) then (if (wrap64 (x7_1 - 1)) < (l0.length : Int) then (if ((rd_T29 l0 x7_1).f0) < ((rd_T29 l0 (wrap64 (x7_1 - 1))).f0) then (some false) else (book_follows.l0 k1 l0 l0 (l0.length : Int) (wrap64 (x7_1 + 1)))) else (none)) else (none)) else (book_follows.l0 k1 l0 l0 (l0.length : Int) (wrap64 (x7_1 + 1)))) else (some false)) = some r:=H
      have A5:=am A50
      clear A50
      by_cases c6 : t103 = true
      ·subst c6
       have H1 : (if x7_1 > 0 then (if 0 ≤ (wrap64 (x7_1 - 1)) then (if (wrap64 (x7_1 - 1)) < (l0.length : Int) then (if ((rd_T29 l0 x7_1).f0) < ((rd_T29 l0 (wrap64 (x7_1 - 1))).f0) then (some false) else (book_follows.l0 k1 l0 l0 (l0.length : Int) (wrap64 (x7_1 + 1)))) else (none)) else (none)) else (book_follows.l0 k1 l0 l0 (l0.length : Int) (wrap64 (x7_1 + 1)))) = some r:=by rw [if_pos rfl] at H;exact H
       clear H
       have H:=H1
       clear H1
       by_cases c7 : x7_1 > 0
       ·rw [if_pos c7] at H
        have c7b0 : decide (0 < x7_1) = true:=decide_eq_true c7
        clear c7
        obtain ⟨ji8,hji8⟩ : ∃ j_ : Int,(wrap64 (x7_1 - 1)) = j_:=⟨_,rfl⟩
        replace H : (if 0 ≤ (ji8) then (if (ji8) < (l0.length : Int) then (if ((rd_T29 l0 x7_1).f0) < ((rd_T29 l0 (ji8)).f0) then (some false) else (book_follows.l0 k1 l0 l0 (l0.length : Int) (wrap64 (x7_1 + 1)))) else (none)) else (none)) = some r:=by first|(rw [hji8] at H;exact H)|(simp only [hji8] at H ⊢;exact H)
        (try rw [hji8] at A5)
        have hji8w : (IntKind.i64.wrap (x7_1 - 1)) = ji8:=(i64_w _).trans hji8
        by_cases c9 : 0 ≤ (ji8)
        ·rw [if_pos c9] at H
         have c9b0 : decide (0 ≤ (ji8)) = true:=decide_eq_true c9
         clear c9
         by_cases c10 : (ji8) < (l0.length : Int)
         ·rw [if_pos c10] at H
          have c10b0 : decide ((ji8) < (l0.length : Int)) = true:=decide_eq_true c10
          clear c10
          by_cases c11 : ((rd_T29 l0 x7_1).f0) < ((rd_T29 l0 (ji8)).f0)
          ·rw [if_pos c11] at H
           have c11b0 : decide (((rd_T29 l0 x7_1).f0) < ((rd_T29 l0 (ji8)).f0)) = true:=decide_eq_true c11
           clear c11
           obtain rfl:=Option.some.inj H
           have p101 : 0 ≤ (x7_1 : Int):=of_decide_eq_true va
           have q101 : x7_1 < (l0.length : Int):=of_decide_eq_true va
           obtain ⟨ad101,e101,hx101_0,hx101_1,hx101_2,hx101_3⟩:=at_T29 HR0.out x7_1 p101 q101
           cases e101
           replace hx101_0:=(HB.out.cell (wb w _ hx101_0)).trans hx101_0
           replace hx101_1:=(HB.out.cell (wb w _ hx101_1)).trans hx101_1
           replace hx101_2:=(HB.out.cell (wb w _ hx101_2)).trans hx101_2
           replace hx101_3:=(HB.out.cell (wb w _ hx101_3)).trans hx101_3
           replace p101:=eq_true p101
           replace q101:=eq_true q101
           try go_wp2_with (first|((with_reducible refine gate_dst (N:=4) rfl ?_);refine box_event ?hg (N:=4) ?hd (cs:=#[.int .i64 0,.int .i64 0,.int .i64 0,.int .i64 0]) (t:=29) ?hr ?_;(case hd => rfl);(case hg => rfl);(case hr => first|(go_simp;done)|(go_simp;rfl));intro gb102 hg w12 hbox hb;have n0_:=am (below_step (v0 HB.out) hb);have n1_:=am (hbox);have n2_:=am ((by rw [hg];exact (below_size (v0 HB.out)) : w.heap.size ≤ gb102));have n3_:=am ((by rw [hg];exact (below_size (v0 HB.out)) : w.heap.size ≤ gb102));clear HB;have HB:=n0_;have BK102:=n1_;have GW102:=n2_;have GE102:=n3_;clear n0_ n1_ n2_ n3_;clear hb hbox hg;have hcz13_0 : w12.cell? ⟨gb102,0,none⟩ = some (.int .i64 0):=(blk_cell BK102.out 0).trans rfl;have hcz13_1 : w12.cell? ⟨gb102,1,none⟩ = some (.int .i64 0):=(blk_cell BK102.out 1).trans rfl;have hcz13_2 : w12.cell? ⟨gb102,2,none⟩ = some (.int .i64 0):=(blk_cell BK102.out 2).trans rfl;have hcz13_3 : w12.cell? ⟨gb102,3,none⟩ = some (.int .i64 0):=(blk_cell BK102.out 3).trans rfl;have hfz13_0:=blk_frozen BK102.out 0;have hfz13_1:=blk_frozen BK102.out 1;have hfz13_2:=blk_frozen BK102.out 2;have hfz13_3:=blk_frozen BK102.out 3))
           have n0_ : Aside0 (((((w12.setCell ⟨gb102,0,none⟩ (.int .i64 ((rd_T29 l0 x7_1).f0))).setCell ⟨gb102,1,none⟩ (.int .i64 ((rd_T29 l0 x7_1).f1))).setCell ⟨gb102,2,none⟩ (.int .i64 ((rd_T29 l0 x7_1).f2))).setCell ⟨gb102,3,none⟩ (.int .i64 ((rd_T29 l0 x7_1).f3))).heap[gb102]? = some (.cells #[.int .i64 ((rd_T29 l0 x7_1).f0),.int .i64 ((rd_T29 l0 x7_1).f1),.int .i64 ((rd_T29 l0 x7_1).f2),.int .i64 ((rd_T29 l0 x7_1).f3)] 29 (0,0))):=⟨by (with_reducible repeat (first|refine blk_drewN ?_ _|refine blk_drew ?_|refine blk_alloc ?_ _));refine blk_put (cs:=#[.int .i64 ((rd_T29 l0 x7_1).f0),.int .i64 ((rd_T29 l0 x7_1).f1),.int .i64 ((rd_T29 l0 x7_1).f2),.int .i64 0]) ?_ 3 _ rfl;(with_reducible repeat (first|refine blk_drewN ?_ _|refine blk_drew ?_|refine blk_alloc ?_ _));refine blk_put (cs:=#[.int .i64 ((rd_T29 l0 x7_1).f0),.int .i64 ((rd_T29 l0 x7_1).f1),.int .i64 0,.int .i64 0]) ?_ 2 _ rfl;(with_reducible repeat (first|refine blk_drewN ?_ _|refine blk_drew ?_|refine blk_alloc ?_ _));refine blk_put (cs:=#[.int .i64 ((rd_T29 l0 x7_1).f0),.int .i64 0,.int .i64 0,.int .i64 0]) ?_ 1 _ rfl;(with_reducible repeat (first|refine blk_drewN ?_ _|refine blk_drew ?_|refine blk_alloc ?_ _));refine blk_put (cs:=#[.int .i64 0,.int .i64 0,.int .i64 0,.int .i64 0]) ?_ 0 _ rfl;(with_reducible repeat (first|refine blk_drewN ?_ _|refine blk_drew ?_|refine blk_alloc ?_ _));exact BK102.out⟩
           have n1_ : Aside0 (Below w.heap.size w ((((w12.setCell ⟨gb102,0,none⟩ (.int .i64 ((rd_T29 l0 x7_1).f0))).setCell ⟨gb102,1,none⟩ (.int .i64 ((rd_T29 l0 x7_1).f1))).setCell ⟨gb102,2,none⟩ (.int .i64 ((rd_T29 l0 x7_1).f2))).setCell ⟨gb102,3,none⟩ (.int .i64 ((rd_T29 l0 x7_1).f3)))):=⟨v1 HB.out GE102.out⟩
           (try clear BK102)
           (try clear HB)
           generalize ((((w12.setCell ⟨gb102,0,none⟩ (.int .i64 ((rd_T29 l0 x7_1).f0))).setCell ⟨gb102,1,none⟩ (.int .i64 ((rd_T29 l0 x7_1).f1))).setCell ⟨gb102,2,none⟩ (.int .i64 ((rd_T29 l0 x7_1).f2))).setCell ⟨gb102,3,none⟩ (.int .i64 ((rd_T29 l0 x7_1).f3))) = w14 at n0_ n1_ ⊢
           have BK102:=n0_
           have HB:=n1_
           clear n0_ n1_
           have n0_:=am (blk_drew BK102.out)
           have n1_:=am (below_drew1 HB.out)
           clear BK102
           clear HB
           have BK102:=n0_
           have HB:=n1_
           clear n0_ n1_
           have p104 : 0 ≤ ((ji8) : Int):=of_decide_eq_true va
           have q104 : (ji8) < (l0.length : Int):=of_decide_eq_true va
           obtain ⟨ad104,e104,hx104_0,hx104_1,hx104_2,hx104_3⟩:=at_T29 HR0.out (ji8) p104 q104
           have hw104_3:=hx104_3
           have hw104_2:=hx104_2
           have hw104_1:=hx104_1
           have hw104_0:=hx104_0
           obtain rfl : ad101 = ad104:=(by injection e104)
           replace hx104_0:=(HB.out.cell (wb w _ hx104_0)).trans hx104_0
           replace hx104_1:=(HB.out.cell (wb w _ hx104_1)).trans hx104_1
           replace hx104_2:=(HB.out.cell (wb w _ hx104_2)).trans hx104_2
           replace hx104_3:=(HB.out.cell (wb w _ hx104_3)).trans hx104_3
           replace p104:=eq_true p104
           replace q104:=eq_true q104
           refine start_ (n:=18) (S:=fun w' => w'.cell? ⟨gb102,0,none⟩ = some (.int .i64 ((rd_T29 l0 x7_1).f0)) ∧ w'.cell? ⟨gb102,1,none⟩ = some (.int .i64 ((rd_T29 l0 x7_1).f1)) ∧ w'.cell? ⟨gb102,2,none⟩ = some (.int .i64 ((rd_T29 l0 x7_1).f2)) ∧ w'.cell? ⟨gb102,3,none⟩ = some (.int .i64 ((rd_T29 l0 x7_1).f3)) ∧ w'.cell? (ad101.add (((ji8)).toNat * 4)) = some (.int .i64 ((rd_T29 l0 (ji8)).f0)) ∧ w'.cell? ⟨(ad101.add (((ji8)).toNat * 4)).block,(ad101.add (((ji8)).toNat * 4)).off + 1,none⟩ = some (.int .i64 ((rd_T29 l0 (ji8)).f1)) ∧ w'.cell? ⟨(ad101.add (((ji8)).toNat * 4)).block,(ad101.add (((ji8)).toNat * 4)).off + 2,none⟩ = some (.int .i64 ((rd_T29 l0 (ji8)).f2)) ∧ w'.cell? ⟨(ad101.add (((ji8)).toNat * 4)).block,(ad101.add (((ji8)).toNat * 4)).off + 3,none⟩ = some (.int .i64 ((rd_T29 l0 (ji8)).f3))) (ds:=[]) #[false,false,false,false,false,false,false,false,false,false,false,false,false,false,false,false,false,false] kr rfl rfl ⟨(blk_cell BK102.out 0).trans rfl,(blk_cell BK102.out 1).trans rfl,(blk_cell BK102.out 2).trans rfl,(blk_cell BK102.out 3).trans rfl,((HB.out.cell (wb w _ hw104_0)).trans hw104_0),((HB.out.cell (wb w _ hw104_1)).trans hw104_1),((HB.out.cell (wb w _ hw104_2)).trans hw104_2),((HB.out.cell (wb w _ hw104_3)).trans hw104_3)⟩ (fun hHeld => ?_);refine with_tabW book_follows.tab4 book_follows.bits4 (fun HT_ HW_ => ?_)
           generalize w14.drew = w15 at BK102 HB hx104_0 hx104_1 hx104_2 hx104_3 hHeld ⊢
           refine take_ (i:=0) (N:=some 12) (v:=?_) (a':=?_) #[true,false,false,false,false,false,false,false,false,false,false,false,false,false,false,false,false,false] rfl rfl (take_ofW HT_.out HW_.out kr) (fun _ _ _ h => h) (Or.inl ⟨by rfl,?_⟩) hHeld ?_ ?_
           rotate_left
           ·rintro w' ⟨s0,s1,s2,s3,s4,s5,s6,s7⟩
            go_simp
            with_reducible rfl
           rotate_left
           ·exact vs
           refine one_ (i:=1) (N:=some 13) #[true,true,false,false,false,false,false,false,false,false,false,false,false,false,false,false,false,false] rfl rfl (one_of HT_.out kr) (by decide) (fun K hK => ?_)
           refine goes_ Try.func99 kr rfl #[.agg #[.int .i64 ((rd_T29 l0 x7_1).f0),.int .i64 ((rd_T29 l0 x7_1).f1),.int .i64 ((rd_T29 l0 x7_1).f2),.int .i64 ((rd_T29 l0 x7_1).f3)]] (by rfl) rfl rfl (by (try simp only [List.map_toArray,List.map_cons,List.map_nil]);first|done|rfl|(simp only [List.length_drop,List.length_take];rfl)) ?_
           with_reducible refine (book_right.calls ((rd_T29 l0 x7_1).f0) ((rd_T29 l0 x7_1).f1) ((rd_T29 l0 x7_1).f2) ((rd_T29 l0 x7_1).f3) true _ A5.out).mono ?_
           rintro e w16 ⟨rfl,hb⟩
           refine ⟨_,rfl,?_⟩
           have n0_:=am (blk_below (g:=gb102) (o:=.cells #[.int .i64 ((rd_T29 l0 x7_1).f0),.int .i64 ((rd_T29 l0 x7_1).f1),.int .i64 ((rd_T29 l0 x7_1).f2),.int .i64 ((rd_T29 l0 x7_1).f3)] 29 (0,0)) (vb BK102.out) hb)
           have n1_:=am (below_step (v1 HB.out GE102.out) hb)
           clear BK102
           clear HB
           have BK102:=n0_
           have HB:=n1_
           clear n0_ n1_
           (try clear hb)
           (try clear hb2)
           (try clear hk)
           (try clear hi)
           refine hK.out _ _ ⟨(blk_cell BK102.out 0).trans rfl,(blk_cell BK102.out 1).trans rfl,(blk_cell BK102.out 2).trans rfl,(blk_cell BK102.out 3).trans rfl,((HB.out.cell (wb w _ hw104_0)).trans hw104_0),((HB.out.cell (wb w _ hw104_1)).trans hw104_1),((HB.out.cell (wb w _ hw104_2)).trans hw104_2),((HB.out.cell (wb w _ hw104_3)).trans hw104_3)⟩ (fun hHeld => ?_)
           clear hK K
           refine norm_ (a':=?_) ?_ ?_
           rotate_left
           ·show Act.put _ (some 13) _ = _
            simp only [Act.put,List.setIfInBounds_toArray,List.set_cons_zero,List.set_cons_succ,i64_w,i32_w]
            rfl
           refine pure_ (i:=2) (N:=some 14) (v:=?_) (a':=?_) #[true,true,true,false,false,false,false,false,false,false,false,false,false,false,false,false,false,false] rfl rfl (any_of HT_.out kr) (fun _ _ _ h => h) (Or.inl ⟨by rfl,?_⟩) ?_ ?_
           rotate_left
           ·intro w'
            go_simp
            with_reducible rfl
           rotate_left
           ·exact vs
           refine pure_ (i:=3) (N:=some 15) (v:=?_) (a':=?_) #[true,true,true,true,false,false,false,false,false,false,false,false,false,false,false,false,false,false] rfl rfl (any_of HT_.out kr) (fun _ _ _ h => h) (Or.inl ⟨by rfl,?_⟩) ?_ ?_
           rotate_left
           ·intro w'
            go_simp
            with_reducible rfl
           rotate_left
           ·exact vs
           refine pure_ (i:=4) (N:=some 16) (v:=?_) (a':=?_) #[true,true,true,true,true,false,false,false,false,false,false,false,false,false,false,false,false,false] rfl rfl (any_of HT_.out kr) (fun _ _ _ h => h) (Or.inl ⟨by rfl,?_⟩) ?_ ?_
           rotate_left
           ·intro w'
            go_simp
            with_reducible rfl
           rotate_left
           ·exact vs
           refine pure_ (i:=5) (N:=some 17) (v:=?_) (a':=?_) #[true,true,true,true,true,true,false,false,false,false,false,false,false,false,false,false,false,false] rfl rfl (any_of HT_.out kr) (fun _ _ _ h => h) (Or.inl ⟨by rfl,?_⟩) ?_ ?_
           rotate_left
           ·intro w'
            go_simp
            with_reducible rfl
           rotate_left
           ·exact vs
           refine pure_ (i:=6) (N:=some 18) (v:=?_) (a':=?_) #[true,true,true,true,true,true,true,false,false,false,false,false,false,false,false,false,false,false] rfl rfl (any_of HT_.out kr) (fun _ _ _ h => h) (Or.inl ⟨by rfl,?_⟩) ?_ ?_
           rotate_left
           ·intro w'
            go_simp
            with_reducible rfl
           rotate_left
           ·exact vs
           refine pure_ (i:=7) (N:=some 19) (v:=?_) (a':=?_) #[true,true,true,true,true,true,true,true,false,false,false,false,false,false,false,false,false,false] rfl rfl (any_of HT_.out kr) (fun _ _ _ h => h) (Or.inl ⟨by rfl,?_⟩) ?_ ?_
           rotate_left
           ·intro w'
            go_simp
            with_reducible rfl
           rotate_left
           ·exact vs
           refine pure_ (i:=9) (N:=some 21) (v:=?_) (a':=?_) #[true,true,true,true,true,true,true,true,false,true,false,false,false,false,false,false,false,false] rfl rfl (any_of HT_.out kr) (fun _ _ _ h => h) (Or.inl ⟨by rfl,?_⟩) ?_ ?_
           rotate_left
           ·intro w'
            go_simp
            with_reducible rfl
           rotate_left
           ·exact vs
           refine pure_ (i:=10) (N:=some 22) (v:=?_) (a':=?_) #[true,true,true,true,true,true,true,true,false,true,true,false,false,false,false,false,false,false] rfl rfl (any_of HT_.out kr) (fun _ _ _ h => h) (Or.inl ⟨by rfl,?_⟩) ?_ ?_
           rotate_left
           ·intro w'
            go_simp
            with_reducible rfl
           rotate_left
           ·exact vs
           refine pure_ (i:=11) (N:=some 23) (v:=?_) (a':=?_) #[true,true,true,true,true,true,true,true,false,true,true,true,false,false,false,false,false,false] rfl rfl (any_of HT_.out kr) (fun _ _ _ h => h) (Or.inl ⟨by rfl,?_⟩) ?_ ?_
           rotate_left
           ·intro w'
            go_simp
            with_reducible rfl
           rotate_left
           ·exact vs
           refine pure_ (i:=12) (N:=some 24) (v:=?_) (a':=?_) #[true,true,true,true,true,true,true,true,false,true,true,true,true,false,false,false,false,false] rfl rfl (any_of HT_.out kr) (fun _ _ _ h => h) (Or.inl ⟨by rfl,?_⟩) ?_ ?_
           rotate_left
           ·intro w'
            go_simp
            with_reducible rfl
           rotate_left
           ·exact vs
           refine pure_ (i:=13) (N:=some 25) (v:=?_) (a':=?_) #[true,true,true,true,true,true,true,true,false,true,true,true,true,true,false,false,false,false] rfl rfl (any_of HT_.out kr) (fun _ _ _ h => h) (Or.inl ⟨by rfl,?_⟩) ?_ ?_
           rotate_left
           ·intro w'
            go_simp
            with_reducible rfl
           rotate_left
           ·exact vs
           refine take_ (i:=8) (N:=some 20) (v:=?_) (a':=?_) #[true,true,true,true,true,true,true,true,true,true,true,true,true,true,false,false,false,false] rfl rfl (take_ofW HT_.out HW_.out kr) (fun _ _ _ h => h) (Or.inl ⟨by rfl,?_⟩) hHeld ?_ ?_
           rotate_left
           ·rintro w' ⟨s0,s1,s2,s3,s4,s5,s6,s7⟩
            go_simp
            with_reducible rfl
           rotate_left
           ·exact vs
           refine take_ (i:=14) (N:=some 26) (v:=?_) (a':=?_) #[true,true,true,true,true,true,true,true,true,true,true,true,true,true,true,false,false,false] rfl rfl (take_ofW HT_.out HW_.out kr) (fun _ _ _ h => h) (Or.inl ⟨by rfl,?_⟩) hHeld ?_ ?_
           rotate_left
           ·rintro w' ⟨s0,s1,s2,s3,s4,s5,s6,s7⟩
            go_simp
            with_reducible rfl
           rotate_left
           ·exact vs
           refine pure_ (i:=15) (N:=some 27) (v:=?_) (a':=?_) #[true,true,true,true,true,true,true,true,true,true,true,true,true,true,true,true,false,false] rfl rfl (any_of HT_.out kr) (fun _ _ _ h => h) (Or.inl ⟨by rfl,?_⟩) ?_ ?_
           rotate_left
           ·intro w'
            go_simp
            with_reducible rfl
           rotate_left
           ·exact vs
           refine pure_ (i:=16) (N:=some 28) (v:=?_) (a':=?_) #[true,true,true,true,true,true,true,true,true,true,true,true,true,true,true,true,true,false] rfl rfl (any_of HT_.out kr) (fun _ _ _ h => h) (Or.inl ⟨by rfl,?_⟩) ?_ ?_
           rotate_left
           ·intro w'
            go_simp
            with_reducible rfl
           rotate_left
           ·exact vs
           refine pure_ (i:=17) (N:=some 29) (v:=?_) (a':=?_) #[true,true,true,true,true,true,true,true,true,true,true,true,true,true,true,true,true,true] rfl rfl (any_of HT_.out kr) (fun _ _ _ h => h) (Or.inl ⟨by rfl,?_⟩) ?_ ?_
           rotate_left
           ·intro w'
            go_simp
            with_reducible rfl
           rotate_left
           ·exact vs
           refine done_ (done_of HT_.out kr) ?_
           try go_wp2
           go_ret
           exact ⟨by first|rfl|(simp [errW_none,errW_some] <;> rfl)|(simp only [← hji8];first|rfl|(simp [errW_none,errW_some] <;> rfl))|(simp [*,errW_none,errW_some] <;> rfl),v1 HB.out GE102.out⟩
          ·rw [if_neg c11] at H
           have c11b0 : decide (((rd_T29 l0 x7_1).f0) < ((rd_T29 l0 (ji8)).f0)) = false:=decide_eq_false c11
           clear c11
           have H':=am H
           clear H
           have p101 : 0 ≤ (x7_1 : Int):=of_decide_eq_true va
           have q101 : x7_1 < (l0.length : Int):=of_decide_eq_true va
           obtain ⟨ad101,e101,hx101_0,hx101_1,hx101_2,hx101_3⟩:=at_T29 HR0.out x7_1 p101 q101
           cases e101
           replace hx101_0:=(HB.out.cell (wb w _ hx101_0)).trans hx101_0
           replace hx101_1:=(HB.out.cell (wb w _ hx101_1)).trans hx101_1
           replace hx101_2:=(HB.out.cell (wb w _ hx101_2)).trans hx101_2
           replace hx101_3:=(HB.out.cell (wb w _ hx101_3)).trans hx101_3
           replace p101:=eq_true p101
           replace q101:=eq_true q101
           try go_wp2_with (first|((with_reducible refine gate_dst (N:=4) rfl ?_);refine box_event ?hg (N:=4) ?hd (cs:=#[.int .i64 0,.int .i64 0,.int .i64 0,.int .i64 0]) (t:=29) ?hr ?_;(case hd => rfl);(case hg => rfl);(case hr => first|(go_simp;done)|(go_simp;rfl));intro gb102 hg w17 hbox hb;have n0_:=am (below_step (v0 HB.out) hb);have n1_:=am (hbox);have n2_:=am ((by rw [hg];exact (below_size (v0 HB.out)) : w.heap.size ≤ gb102));have n3_:=am ((by rw [hg];exact (below_size (v0 HB.out)) : w.heap.size ≤ gb102));clear HB;have HB:=n0_;have BK102:=n1_;have GW102:=n2_;have GE102:=n3_;clear n0_ n1_ n2_ n3_;clear hb hbox hg;have hcz18_0 : w17.cell? ⟨gb102,0,none⟩ = some (.int .i64 0):=(blk_cell BK102.out 0).trans rfl;have hcz18_1 : w17.cell? ⟨gb102,1,none⟩ = some (.int .i64 0):=(blk_cell BK102.out 1).trans rfl;have hcz18_2 : w17.cell? ⟨gb102,2,none⟩ = some (.int .i64 0):=(blk_cell BK102.out 2).trans rfl;have hcz18_3 : w17.cell? ⟨gb102,3,none⟩ = some (.int .i64 0):=(blk_cell BK102.out 3).trans rfl;have hfz18_0:=blk_frozen BK102.out 0;have hfz18_1:=blk_frozen BK102.out 1;have hfz18_2:=blk_frozen BK102.out 2;have hfz18_3:=blk_frozen BK102.out 3))
           have n0_ : Aside0 (((((w17.setCell ⟨gb102,0,none⟩ (.int .i64 ((rd_T29 l0 x7_1).f0))).setCell ⟨gb102,1,none⟩ (.int .i64 ((rd_T29 l0 x7_1).f1))).setCell ⟨gb102,2,none⟩ (.int .i64 ((rd_T29 l0 x7_1).f2))).setCell ⟨gb102,3,none⟩ (.int .i64 ((rd_T29 l0 x7_1).f3))).heap[gb102]? = some (.cells #[.int .i64 ((rd_T29 l0 x7_1).f0),.int .i64 ((rd_T29 l0 x7_1).f1),.int .i64 ((rd_T29 l0 x7_1).f2),.int .i64 ((rd_T29 l0 x7_1).f3)] 29 (0,0))):=⟨by (with_reducible repeat (first|refine blk_drewN ?_ _|refine blk_drew ?_|refine blk_alloc ?_ _));refine blk_put (cs:=#[.int .i64 ((rd_T29 l0 x7_1).f0),.int .i64 ((rd_T29 l0 x7_1).f1),.int .i64 ((rd_T29 l0 x7_1).f2),.int .i64 0]) ?_ 3 _ rfl;(with_reducible repeat (first|refine blk_drewN ?_ _|refine blk_drew ?_|refine blk_alloc ?_ _));refine blk_put (cs:=#[.int .i64 ((rd_T29 l0 x7_1).f0),.int .i64 ((rd_T29 l0 x7_1).f1),.int .i64 0,.int .i64 0]) ?_ 2 _ rfl;(with_reducible repeat (first|refine blk_drewN ?_ _|refine blk_drew ?_|refine blk_alloc ?_ _));refine blk_put (cs:=#[.int .i64 ((rd_T29 l0 x7_1).f0),.int .i64 0,.int .i64 0,.int .i64 0]) ?_ 1 _ rfl;(with_reducible repeat (first|refine blk_drewN ?_ _|refine blk_drew ?_|refine blk_alloc ?_ _));refine blk_put (cs:=#[.int .i64 0,.int .i64 0,.int .i64 0,.int .i64 0]) ?_ 0 _ rfl;(with_reducible repeat (first|refine blk_drewN ?_ _|refine blk_drew ?_|refine blk_alloc ?_ _));exact BK102.out⟩
           have n1_ : Aside0 (Below w.heap.size w ((((w17.setCell ⟨gb102,0,none⟩ (.int .i64 ((rd_T29 l0 x7_1).f0))).setCell ⟨gb102,1,none⟩ (.int .i64 ((rd_T29 l0 x7_1).f1))).setCell ⟨gb102,2,none⟩ (.int .i64 ((rd_T29 l0 x7_1).f2))).setCell ⟨gb102,3,none⟩ (.int .i64 ((rd_T29 l0 x7_1).f3)))):=⟨v1 HB.out GE102.out⟩
           (try clear BK102)
           (try clear HB)
           generalize ((((w17.setCell ⟨gb102,0,none⟩ (.int .i64 ((rd_T29 l0 x7_1).f0))).setCell ⟨gb102,1,none⟩ (.int .i64 ((rd_T29 l0 x7_1).f1))).setCell ⟨gb102,2,none⟩ (.int .i64 ((rd_T29 l0 x7_1).f2))).setCell ⟨gb102,3,none⟩ (.int .i64 ((rd_T29 l0 x7_1).f3))) = w19 at n0_ n1_ ⊢
           have BK102:=n0_
           have HB:=n1_
           clear n0_ n1_
           have n0_:=am (blk_drew BK102.out)
           have n1_:=am (below_drew1 HB.out)
           clear BK102
           clear HB
           have BK102:=n0_
           have HB:=n1_
           clear n0_ n1_
           have p104 : 0 ≤ ((ji8) : Int):=of_decide_eq_true va
           have q104 : (ji8) < (l0.length : Int):=of_decide_eq_true va
           obtain ⟨ad104,e104,hx104_0,hx104_1,hx104_2,hx104_3⟩:=at_T29 HR0.out (ji8) p104 q104
           have hw104_3:=hx104_3
           have hw104_2:=hx104_2
           have hw104_1:=hx104_1
           have hw104_0:=hx104_0
           obtain rfl : ad101 = ad104:=(by injection e104)
           replace hx104_0:=(HB.out.cell (wb w _ hx104_0)).trans hx104_0
           replace hx104_1:=(HB.out.cell (wb w _ hx104_1)).trans hx104_1
           replace hx104_2:=(HB.out.cell (wb w _ hx104_2)).trans hx104_2
           replace hx104_3:=(HB.out.cell (wb w _ hx104_3)).trans hx104_3
           replace p104:=eq_true p104
           replace q104:=eq_true q104
           refine start_ (n:=18) (S:=fun w' => w'.cell? ⟨gb102,0,none⟩ = some (.int .i64 ((rd_T29 l0 x7_1).f0)) ∧ w'.cell? ⟨gb102,1,none⟩ = some (.int .i64 ((rd_T29 l0 x7_1).f1)) ∧ w'.cell? ⟨gb102,2,none⟩ = some (.int .i64 ((rd_T29 l0 x7_1).f2)) ∧ w'.cell? ⟨gb102,3,none⟩ = some (.int .i64 ((rd_T29 l0 x7_1).f3)) ∧ w'.cell? (ad101.add (((ji8)).toNat * 4)) = some (.int .i64 ((rd_T29 l0 (ji8)).f0)) ∧ w'.cell? ⟨(ad101.add (((ji8)).toNat * 4)).block,(ad101.add (((ji8)).toNat * 4)).off + 1,none⟩ = some (.int .i64 ((rd_T29 l0 (ji8)).f1)) ∧ w'.cell? ⟨(ad101.add (((ji8)).toNat * 4)).block,(ad101.add (((ji8)).toNat * 4)).off + 2,none⟩ = some (.int .i64 ((rd_T29 l0 (ji8)).f2)) ∧ w'.cell? ⟨(ad101.add (((ji8)).toNat * 4)).block,(ad101.add (((ji8)).toNat * 4)).off + 3,none⟩ = some (.int .i64 ((rd_T29 l0 (ji8)).f3))) (ds:=[]) #[false,false,false,false,false,false,false,false,false,false,false,false,false,false,false,false,false,false] kr rfl rfl ⟨(blk_cell BK102.out 0).trans rfl,(blk_cell BK102.out 1).trans rfl,(blk_cell BK102.out 2).trans rfl,(blk_cell BK102.out 3).trans rfl,((HB.out.cell (wb w _ hw104_0)).trans hw104_0),((HB.out.cell (wb w _ hw104_1)).trans hw104_1),((HB.out.cell (wb w _ hw104_2)).trans hw104_2),((HB.out.cell (wb w _ hw104_3)).trans hw104_3)⟩ (fun hHeld => ?_);refine with_tabW book_follows.tab4 book_follows.bits4 (fun HT_ HW_ => ?_)
           generalize w19.drew = w20 at BK102 HB hx104_0 hx104_1 hx104_2 hx104_3 hHeld ⊢
           refine take_ (i:=0) (N:=some 12) (v:=?_) (a':=?_) #[true,false,false,false,false,false,false,false,false,false,false,false,false,false,false,false,false,false] rfl rfl (take_ofW HT_.out HW_.out kr) (fun _ _ _ h => h) (Or.inl ⟨by rfl,?_⟩) hHeld ?_ ?_
           rotate_left
           ·rintro w' ⟨s0,s1,s2,s3,s4,s5,s6,s7⟩
            go_simp
            with_reducible rfl
           rotate_left
           ·exact vs
           refine one_ (i:=1) (N:=some 13) #[true,true,false,false,false,false,false,false,false,false,false,false,false,false,false,false,false,false] rfl rfl (one_of HT_.out kr) (by decide) (fun K hK => ?_)
           refine goes_ Try.func99 kr rfl #[.agg #[.int .i64 ((rd_T29 l0 x7_1).f0),.int .i64 ((rd_T29 l0 x7_1).f1),.int .i64 ((rd_T29 l0 x7_1).f2),.int .i64 ((rd_T29 l0 x7_1).f3)]] (by rfl) rfl rfl (by (try simp only [List.map_toArray,List.map_cons,List.map_nil]);first|done|rfl|(simp only [List.length_drop,List.length_take];rfl)) ?_
           with_reducible refine (book_right.calls ((rd_T29 l0 x7_1).f0) ((rd_T29 l0 x7_1).f1) ((rd_T29 l0 x7_1).f2) ((rd_T29 l0 x7_1).f3) true _ A5.out).mono ?_
           rintro e w21 ⟨rfl,hb⟩
           refine ⟨_,rfl,?_⟩
           have n0_:=am (blk_below (g:=gb102) (o:=.cells #[.int .i64 ((rd_T29 l0 x7_1).f0),.int .i64 ((rd_T29 l0 x7_1).f1),.int .i64 ((rd_T29 l0 x7_1).f2),.int .i64 ((rd_T29 l0 x7_1).f3)] 29 (0,0)) (vb BK102.out) hb)
           have n1_:=am (below_step (v1 HB.out GE102.out) hb)
           clear BK102
           clear HB
           have BK102:=n0_
           have HB:=n1_
           clear n0_ n1_
           (try clear hb)
           (try clear hb2)
           (try clear hk)
           (try clear hi)
           refine hK.out _ _ ⟨(blk_cell BK102.out 0).trans rfl,(blk_cell BK102.out 1).trans rfl,(blk_cell BK102.out 2).trans rfl,(blk_cell BK102.out 3).trans rfl,((HB.out.cell (wb w _ hw104_0)).trans hw104_0),((HB.out.cell (wb w _ hw104_1)).trans hw104_1),((HB.out.cell (wb w _ hw104_2)).trans hw104_2),((HB.out.cell (wb w _ hw104_3)).trans hw104_3)⟩ (fun hHeld => ?_)
           clear hK K
           refine norm_ (a':=?_) ?_ ?_
           rotate_left
           ·show Act.put _ (some 13) _ = _
            simp only [Act.put,List.setIfInBounds_toArray,List.set_cons_zero,List.set_cons_succ,i64_w,i32_w]
            rfl
           refine pure_ (i:=2) (N:=some 14) (v:=?_) (a':=?_) #[true,true,true,false,false,false,false,false,false,false,false,false,false,false,false,false,false,false] rfl rfl (any_of HT_.out kr) (fun _ _ _ h => h) (Or.inl ⟨by rfl,?_⟩) ?_ ?_
           rotate_left
           ·intro w'
            go_simp
            with_reducible rfl
           rotate_left
           ·exact vs
           refine pure_ (i:=3) (N:=some 15) (v:=?_) (a':=?_) #[true,true,true,true,false,false,false,false,false,false,false,false,false,false,false,false,false,false] rfl rfl (any_of HT_.out kr) (fun _ _ _ h => h) (Or.inl ⟨by rfl,?_⟩) ?_ ?_
           rotate_left
           ·intro w'
            go_simp
            with_reducible rfl
           rotate_left
           ·exact vs
           refine pure_ (i:=4) (N:=some 16) (v:=?_) (a':=?_) #[true,true,true,true,true,false,false,false,false,false,false,false,false,false,false,false,false,false] rfl rfl (any_of HT_.out kr) (fun _ _ _ h => h) (Or.inl ⟨by rfl,?_⟩) ?_ ?_
           rotate_left
           ·intro w'
            go_simp
            with_reducible rfl
           rotate_left
           ·exact vs
           refine pure_ (i:=5) (N:=some 17) (v:=?_) (a':=?_) #[true,true,true,true,true,true,false,false,false,false,false,false,false,false,false,false,false,false] rfl rfl (any_of HT_.out kr) (fun _ _ _ h => h) (Or.inl ⟨by rfl,?_⟩) ?_ ?_
           rotate_left
           ·intro w'
            go_simp
            with_reducible rfl
           rotate_left
           ·exact vs
           refine pure_ (i:=6) (N:=some 18) (v:=?_) (a':=?_) #[true,true,true,true,true,true,true,false,false,false,false,false,false,false,false,false,false,false] rfl rfl (any_of HT_.out kr) (fun _ _ _ h => h) (Or.inl ⟨by rfl,?_⟩) ?_ ?_
           rotate_left
           ·intro w'
            go_simp
            with_reducible rfl
           rotate_left
           ·exact vs
           refine pure_ (i:=7) (N:=some 19) (v:=?_) (a':=?_) #[true,true,true,true,true,true,true,true,false,false,false,false,false,false,false,false,false,false] rfl rfl (any_of HT_.out kr) (fun _ _ _ h => h) (Or.inl ⟨by rfl,?_⟩) ?_ ?_
           rotate_left
           ·intro w'
            go_simp
            with_reducible rfl
           rotate_left
           ·exact vs
           refine pure_ (i:=9) (N:=some 21) (v:=?_) (a':=?_) #[true,true,true,true,true,true,true,true,false,true,false,false,false,false,false,false,false,false] rfl rfl (any_of HT_.out kr) (fun _ _ _ h => h) (Or.inl ⟨by rfl,?_⟩) ?_ ?_
           rotate_left
           ·intro w'
            go_simp
            with_reducible rfl
           rotate_left
           ·exact vs
           refine pure_ (i:=10) (N:=some 22) (v:=?_) (a':=?_) #[true,true,true,true,true,true,true,true,false,true,true,false,false,false,false,false,false,false] rfl rfl (any_of HT_.out kr) (fun _ _ _ h => h) (Or.inl ⟨by rfl,?_⟩) ?_ ?_
           rotate_left
           ·intro w'
            go_simp
            with_reducible rfl
           rotate_left
           ·exact vs
           refine pure_ (i:=11) (N:=some 23) (v:=?_) (a':=?_) #[true,true,true,true,true,true,true,true,false,true,true,true,false,false,false,false,false,false] rfl rfl (any_of HT_.out kr) (fun _ _ _ h => h) (Or.inl ⟨by rfl,?_⟩) ?_ ?_
           rotate_left
           ·intro w'
            go_simp
            with_reducible rfl
           rotate_left
           ·exact vs
           refine pure_ (i:=12) (N:=some 24) (v:=?_) (a':=?_) #[true,true,true,true,true,true,true,true,false,true,true,true,true,false,false,false,false,false] rfl rfl (any_of HT_.out kr) (fun _ _ _ h => h) (Or.inl ⟨by rfl,?_⟩) ?_ ?_
           rotate_left
           ·intro w'
            go_simp
            with_reducible rfl
           rotate_left
           ·exact vs
           refine pure_ (i:=13) (N:=some 25) (v:=?_) (a':=?_) #[true,true,true,true,true,true,true,true,false,true,true,true,true,true,false,false,false,false] rfl rfl (any_of HT_.out kr) (fun _ _ _ h => h) (Or.inl ⟨by rfl,?_⟩) ?_ ?_
           rotate_left
           ·intro w'
            go_simp
            with_reducible rfl
           rotate_left
           ·exact vs
           refine take_ (i:=8) (N:=some 20) (v:=?_) (a':=?_) #[true,true,true,true,true,true,true,true,true,true,true,true,true,true,false,false,false,false] rfl rfl (take_ofW HT_.out HW_.out kr) (fun _ _ _ h => h) (Or.inl ⟨by rfl,?_⟩) hHeld ?_ ?_
           rotate_left
           ·rintro w' ⟨s0,s1,s2,s3,s4,s5,s6,s7⟩
            go_simp
            with_reducible rfl
           rotate_left
           ·exact vs
           refine take_ (i:=14) (N:=some 26) (v:=?_) (a':=?_) #[true,true,true,true,true,true,true,true,true,true,true,true,true,true,true,false,false,false] rfl rfl (take_ofW HT_.out HW_.out kr) (fun _ _ _ h => h) (Or.inl ⟨by rfl,?_⟩) hHeld ?_ ?_
           rotate_left
           ·rintro w' ⟨s0,s1,s2,s3,s4,s5,s6,s7⟩
            go_simp
            with_reducible rfl
           rotate_left
           ·exact vs
           refine pure_ (i:=15) (N:=some 27) (v:=?_) (a':=?_) #[true,true,true,true,true,true,true,true,true,true,true,true,true,true,true,true,false,false] rfl rfl (any_of HT_.out kr) (fun _ _ _ h => h) (Or.inl ⟨by rfl,?_⟩) ?_ ?_
           rotate_left
           ·intro w'
            go_simp
            with_reducible rfl
           rotate_left
           ·exact vs
           refine pure_ (i:=16) (N:=some 28) (v:=?_) (a':=?_) #[true,true,true,true,true,true,true,true,true,true,true,true,true,true,true,true,true,false] rfl rfl (any_of HT_.out kr) (fun _ _ _ h => h) (Or.inl ⟨by rfl,?_⟩) ?_ ?_
           rotate_left
           ·intro w'
            go_simp
            with_reducible rfl
           rotate_left
           ·exact vs
           refine pure_ (i:=17) (N:=some 29) (v:=?_) (a':=?_) #[true,true,true,true,true,true,true,true,true,true,true,true,true,true,true,true,true,true] rfl rfl (any_of HT_.out kr) (fun _ _ _ h => h) (Or.inl ⟨by rfl,?_⟩) ?_ ?_
           rotate_left
           ·intro w'
            go_simp
            with_reducible rfl
           rotate_left
           ·exact vs
           refine done_ (done_of HT_.out kr) ?_
           try go_wp2
           go_roundg k1
           case measure => have:=HK1.out;omega
           case rel => exact ⟨(wrap64 (x7_1 + 1)),ve,H',⟨by have:=HK1.out;omega⟩,⟨v1 HB.out GE102.out⟩⟩
         ·rw [if_neg c10] at H
          exact absurd H (by simp)
        ·rw [if_neg c9] at H
         exact absurd H (by simp)
       ·rw [if_neg c7] at H
        have c7b0 : decide (0 < x7_1) = false:=decide_eq_false c7
        clear c7
        have H':=am H
        clear H
        have p101 : 0 ≤ (x7_1 : Int):=of_decide_eq_true va
        have q101 : x7_1 < (l0.length : Int):=of_decide_eq_true va
        obtain ⟨ad101,e101,hx101_0,hx101_1,hx101_2,hx101_3⟩:=at_T29 HR0.out x7_1 p101 q101
        cases e101
        replace hx101_0:=(HB.out.cell (wb w _ hx101_0)).trans hx101_0
        replace hx101_1:=(HB.out.cell (wb w _ hx101_1)).trans hx101_1
        replace hx101_2:=(HB.out.cell (wb w _ hx101_2)).trans hx101_2
        replace hx101_3:=(HB.out.cell (wb w _ hx101_3)).trans hx101_3
        replace p101:=eq_true p101
        replace q101:=eq_true q101
        try go_wp2_with (first|((with_reducible refine gate_dst (N:=4) rfl ?_);refine box_event ?hg (N:=4) ?hd (cs:=#[.int .i64 0,.int .i64 0,.int .i64 0,.int .i64 0]) (t:=29) ?hr ?_;(case hd => rfl);(case hg => rfl);(case hr => first|(go_simp;done)|(go_simp;rfl));intro gb102 hg w22 hbox hb;have n0_:=am (below_step (v0 HB.out) hb);have n1_:=am (hbox);have n2_:=am ((by rw [hg];exact (below_size (v0 HB.out)) : w.heap.size ≤ gb102));have n3_:=am ((by rw [hg];exact (below_size (v0 HB.out)) : w.heap.size ≤ gb102));clear HB;have HB:=n0_;have BK102:=n1_;have GW102:=n2_;have GE102:=n3_;clear n0_ n1_ n2_ n3_;clear hb hbox hg;have hcz23_0 : w22.cell? ⟨gb102,0,none⟩ = some (.int .i64 0):=(blk_cell BK102.out 0).trans rfl;have hcz23_1 : w22.cell? ⟨gb102,1,none⟩ = some (.int .i64 0):=(blk_cell BK102.out 1).trans rfl;have hcz23_2 : w22.cell? ⟨gb102,2,none⟩ = some (.int .i64 0):=(blk_cell BK102.out 2).trans rfl;have hcz23_3 : w22.cell? ⟨gb102,3,none⟩ = some (.int .i64 0):=(blk_cell BK102.out 3).trans rfl;have hfz23_0:=blk_frozen BK102.out 0;have hfz23_1:=blk_frozen BK102.out 1;have hfz23_2:=blk_frozen BK102.out 2;have hfz23_3:=blk_frozen BK102.out 3))
        have n0_ : Aside0 (((((w22.setCell ⟨gb102,0,none⟩ (.int .i64 ((rd_T29 l0 x7_1).f0))).setCell ⟨gb102,1,none⟩ (.int .i64 ((rd_T29 l0 x7_1).f1))).setCell ⟨gb102,2,none⟩ (.int .i64 ((rd_T29 l0 x7_1).f2))).setCell ⟨gb102,3,none⟩ (.int .i64 ((rd_T29 l0 x7_1).f3))).heap[gb102]? = some (.cells #[.int .i64 ((rd_T29 l0 x7_1).f0),.int .i64 ((rd_T29 l0 x7_1).f1),.int .i64 ((rd_T29 l0 x7_1).f2),.int .i64 ((rd_T29 l0 x7_1).f3)] 29 (0,0))):=⟨by (with_reducible repeat (first|refine blk_drewN ?_ _|refine blk_drew ?_|refine blk_alloc ?_ _));refine blk_put (cs:=#[.int .i64 ((rd_T29 l0 x7_1).f0),.int .i64 ((rd_T29 l0 x7_1).f1),.int .i64 ((rd_T29 l0 x7_1).f2),.int .i64 0]) ?_ 3 _ rfl;(with_reducible repeat (first|refine blk_drewN ?_ _|refine blk_drew ?_|refine blk_alloc ?_ _));refine blk_put (cs:=#[.int .i64 ((rd_T29 l0 x7_1).f0),.int .i64 ((rd_T29 l0 x7_1).f1),.int .i64 0,.int .i64 0]) ?_ 2 _ rfl;(with_reducible repeat (first|refine blk_drewN ?_ _|refine blk_drew ?_|refine blk_alloc ?_ _));refine blk_put (cs:=#[.int .i64 ((rd_T29 l0 x7_1).f0),.int .i64 0,.int .i64 0,.int .i64 0]) ?_ 1 _ rfl;(with_reducible repeat (first|refine blk_drewN ?_ _|refine blk_drew ?_|refine blk_alloc ?_ _));refine blk_put (cs:=#[.int .i64 0,.int .i64 0,.int .i64 0,.int .i64 0]) ?_ 0 _ rfl;(with_reducible repeat (first|refine blk_drewN ?_ _|refine blk_drew ?_|refine blk_alloc ?_ _));exact BK102.out⟩
        have n1_ : Aside0 (Below w.heap.size w ((((w22.setCell ⟨gb102,0,none⟩ (.int .i64 ((rd_T29 l0 x7_1).f0))).setCell ⟨gb102,1,none⟩ (.int .i64 ((rd_T29 l0 x7_1).f1))).setCell ⟨gb102,2,none⟩ (.int .i64 ((rd_T29 l0 x7_1).f2))).setCell ⟨gb102,3,none⟩ (.int .i64 ((rd_T29 l0 x7_1).f3)))):=⟨v1 HB.out GE102.out⟩
        (try clear BK102)
        (try clear HB)
        generalize ((((w22.setCell ⟨gb102,0,none⟩ (.int .i64 ((rd_T29 l0 x7_1).f0))).setCell ⟨gb102,1,none⟩ (.int .i64 ((rd_T29 l0 x7_1).f1))).setCell ⟨gb102,2,none⟩ (.int .i64 ((rd_T29 l0 x7_1).f2))).setCell ⟨gb102,3,none⟩ (.int .i64 ((rd_T29 l0 x7_1).f3))) = w24 at n0_ n1_ ⊢
        have BK102:=n0_
        have HB:=n1_
        clear n0_ n1_
        have n0_:=am (blk_drew BK102.out)
        have n1_:=am (below_drew1 HB.out)
        clear BK102
        clear HB
        have BK102:=n0_
        have HB:=n1_
        clear n0_ n1_
        refine start_ (n:=18) (S:=fun w' => w'.cell? ⟨gb102,0,none⟩ = some (.int .i64 ((rd_T29 l0 x7_1).f0)) ∧ w'.cell? ⟨gb102,1,none⟩ = some (.int .i64 ((rd_T29 l0 x7_1).f1)) ∧ w'.cell? ⟨gb102,2,none⟩ = some (.int .i64 ((rd_T29 l0 x7_1).f2)) ∧ w'.cell? ⟨gb102,3,none⟩ = some (.int .i64 ((rd_T29 l0 x7_1).f3))) (ds:=[]) #[false,false,false,false,false,false,false,false,false,false,false,false,false,false,false,false,false,false] kr rfl rfl ⟨(blk_cell BK102.out 0).trans rfl,(blk_cell BK102.out 1).trans rfl,(blk_cell BK102.out 2).trans rfl,(blk_cell BK102.out 3).trans rfl⟩ (fun hHeld => ?_);refine with_tabW book_follows.tab4 book_follows.bits4 (fun HT_ HW_ => ?_)
        generalize w24.drew = w25 at BK102 HB hHeld ⊢
        refine take_ (i:=0) (N:=some 12) (v:=?_) (a':=?_) #[true,false,false,false,false,false,false,false,false,false,false,false,false,false,false,false,false,false] rfl rfl (take_ofW HT_.out HW_.out kr) (fun _ _ _ h => h) (Or.inl ⟨by rfl,?_⟩) hHeld ?_ ?_
        rotate_left
        ·rintro w' ⟨s0,s1,s2,s3⟩
         go_simp
         with_reducible rfl
        rotate_left
        ·exact vs
        refine one_ (i:=1) (N:=some 13) #[true,true,false,false,false,false,false,false,false,false,false,false,false,false,false,false,false,false] rfl rfl (one_of HT_.out kr) (by decide) (fun K hK => ?_)
        refine goes_ Try.func99 kr rfl #[.agg #[.int .i64 ((rd_T29 l0 x7_1).f0),.int .i64 ((rd_T29 l0 x7_1).f1),.int .i64 ((rd_T29 l0 x7_1).f2),.int .i64 ((rd_T29 l0 x7_1).f3)]] (by rfl) rfl rfl (by (try simp only [List.map_toArray,List.map_cons,List.map_nil]);first|done|rfl|(simp only [List.length_drop,List.length_take];rfl)) ?_
        with_reducible refine (book_right.calls ((rd_T29 l0 x7_1).f0) ((rd_T29 l0 x7_1).f1) ((rd_T29 l0 x7_1).f2) ((rd_T29 l0 x7_1).f3) true _ A5.out).mono ?_
        rintro e w26 ⟨rfl,hb⟩
        refine ⟨_,rfl,?_⟩
        have n0_:=am (blk_below (g:=gb102) (o:=.cells #[.int .i64 ((rd_T29 l0 x7_1).f0),.int .i64 ((rd_T29 l0 x7_1).f1),.int .i64 ((rd_T29 l0 x7_1).f2),.int .i64 ((rd_T29 l0 x7_1).f3)] 29 (0,0)) (vb BK102.out) hb)
        have n1_:=am (below_step (v1 HB.out GE102.out) hb)
        clear BK102
        clear HB
        have BK102:=n0_
        have HB:=n1_
        clear n0_ n1_
        (try clear hb)
        (try clear hb2)
        (try clear hk)
        (try clear hi)
        refine hK.out _ _ ⟨(blk_cell BK102.out 0).trans rfl,(blk_cell BK102.out 1).trans rfl,(blk_cell BK102.out 2).trans rfl,(blk_cell BK102.out 3).trans rfl⟩ (fun hHeld => ?_)
        clear hK K
        refine norm_ (a':=?_) ?_ ?_
        rotate_left
        ·show Act.put _ (some 13) _ = _
         simp only [Act.put,List.setIfInBounds_toArray,List.set_cons_zero,List.set_cons_succ,i64_w,i32_w]
         rfl
        refine pure_ (i:=2) (N:=some 14) (v:=?_) (a':=?_) #[true,true,true,false,false,false,false,false,false,false,false,false,false,false,false,false,false,false] rfl rfl (any_of HT_.out kr) (fun _ _ _ h => h) (Or.inl ⟨by rfl,?_⟩) ?_ ?_
        rotate_left
        ·intro w'
         go_simp
         with_reducible rfl
        rotate_left
        ·exact vs
        refine pure_ (i:=3) (N:=some 15) (v:=?_) (a':=?_) #[true,true,true,true,false,false,false,false,false,false,false,false,false,false,false,false,false,false] rfl rfl (any_of HT_.out kr) (fun _ _ _ h => h) (Or.inl ⟨by rfl,?_⟩) ?_ ?_
        rotate_left
        ·intro w'
         go_simp
         with_reducible rfl
        rotate_left
        ·exact vs
        refine pure_ (i:=4) (N:=some 16) (v:=?_) (a':=?_) #[true,true,true,true,true,false,false,false,false,false,false,false,false,false,false,false,false,false] rfl rfl (any_of HT_.out kr) (fun _ _ _ h => h) (Or.inl ⟨by rfl,?_⟩) ?_ ?_
        rotate_left
        ·intro w'
         go_simp
         with_reducible rfl
        rotate_left
        ·exact vs
        refine pure_ (i:=5) (N:=some 17) (v:=?_) (a':=?_) #[true,true,true,true,true,true,false,false,false,false,false,false,false,false,false,false,false,false] rfl rfl (any_of HT_.out kr) (fun _ _ _ h => h) (Or.inl ⟨by rfl,?_⟩) ?_ ?_
        rotate_left
        ·intro w'
         go_simp
         with_reducible rfl
        rotate_left
        ·exact vs
        refine pure_ (i:=6) (N:=some 18) (v:=?_) (a':=?_) #[true,true,true,true,true,true,true,false,false,false,false,false,false,false,false,false,false,false] rfl rfl (any_of HT_.out kr) (fun _ _ _ h => h) (Or.inl ⟨by rfl,?_⟩) ?_ ?_
        rotate_left
        ·intro w'
         go_simp
         with_reducible rfl
        rotate_left
        ·exact vs
        refine pure_ (i:=7) (N:=some 19) (v:=undef) (a':=?_) #[true,true,true,true,true,true,true,true,false,false,false,false,false,false,false,false,false,false] rfl rfl (any_of HT_.out kr) (fun _ _ _ h => h) (Or.inr ⟨by rfl,rfl⟩) ?_ ?_
        rotate_left
        ·exact vs
        refine pure_ (i:=8) (N:=some 20) (v:=undef) (a':=?_) #[true,true,true,true,true,true,true,true,true,false,false,false,false,false,false,false,false,false] rfl rfl (any_of HT_.out kr) (fun _ _ _ h => h) (Or.inr ⟨by rfl,rfl⟩) ?_ ?_
        rotate_left
        ·exact vs
        refine pure_ (i:=9) (N:=some 21) (v:=undef) (a':=?_) #[true,true,true,true,true,true,true,true,true,true,false,false,false,false,false,false,false,false] rfl rfl (any_of HT_.out kr) (fun _ _ _ h => h) (Or.inr ⟨by rfl,rfl⟩) ?_ ?_
        rotate_left
        ·exact vs
        refine pure_ (i:=10) (N:=some 22) (v:=undef) (a':=?_) #[true,true,true,true,true,true,true,true,true,true,true,false,false,false,false,false,false,false] rfl rfl (any_of HT_.out kr) (fun _ _ _ h => h) (Or.inr ⟨by rfl,rfl⟩) ?_ ?_
        rotate_left
        ·exact vs
        refine pure_ (i:=11) (N:=some 23) (v:=undef) (a':=?_) #[true,true,true,true,true,true,true,true,true,true,true,true,false,false,false,false,false,false] rfl rfl (any_of HT_.out kr) (fun _ _ _ h => h) (Or.inr ⟨by rfl,rfl⟩) ?_ ?_
        rotate_left
        ·exact vs
        refine pure_ (i:=12) (N:=some 24) (v:=undef) (a':=?_) #[true,true,true,true,true,true,true,true,true,true,true,true,true,false,false,false,false,false] rfl rfl (any_of HT_.out kr) (fun _ _ _ h => h) (Or.inr ⟨by rfl,rfl⟩) ?_ ?_
        rotate_left
        ·exact vs
        refine pure_ (i:=13) (N:=some 25) (v:=undef) (a':=?_) #[true,true,true,true,true,true,true,true,true,true,true,true,true,true,false,false,false,false] rfl rfl (any_of HT_.out kr) (fun _ _ _ h => h) (Or.inr ⟨by rfl,rfl⟩) ?_ ?_
        rotate_left
        ·exact vs
        refine pure_ (i:=14) (N:=some 26) (v:=undef) (a':=?_) #[true,true,true,true,true,true,true,true,true,true,true,true,true,true,true,false,false,false] rfl rfl (any_of HT_.out kr) (fun _ _ _ h => h) (Or.inr ⟨by rfl,rfl⟩) ?_ ?_
        rotate_left
        ·exact vs
        refine pure_ (i:=15) (N:=some 27) (v:=undef) (a':=?_) #[true,true,true,true,true,true,true,true,true,true,true,true,true,true,true,true,false,false] rfl rfl (any_of HT_.out kr) (fun _ _ _ h => h) (Or.inr ⟨by rfl,rfl⟩) ?_ ?_
        rotate_left
        ·exact vs
        refine pure_ (i:=16) (N:=some 28) (v:=?_) (a':=?_) #[true,true,true,true,true,true,true,true,true,true,true,true,true,true,true,true,true,false] rfl rfl (any_of HT_.out kr) (fun _ _ _ h => h) (Or.inl ⟨by rfl,?_⟩) ?_ ?_
        rotate_left
        ·intro w'
         go_simp
         with_reducible rfl
        rotate_left
        ·exact vs
        refine pure_ (i:=17) (N:=some 29) (v:=?_) (a':=?_) #[true,true,true,true,true,true,true,true,true,true,true,true,true,true,true,true,true,true] rfl rfl (any_of HT_.out kr) (fun _ _ _ h => h) (Or.inl ⟨by rfl,?_⟩) ?_ ?_
        rotate_left
        ·intro w'
         go_simp
         with_reducible rfl
        rotate_left
        ·exact vs
        refine done_ (done_of HT_.out kr) ?_
        try go_wp2
        go_roundg k1
        case measure => have:=HK1.out;omega
        case rel => exact ⟨(wrap64 (x7_1 + 1)),ve,H',⟨by have:=HK1.out;omega⟩,⟨v1 HB.out GE102.out⟩⟩
      ·replace c6:=Bool.eq_false_iff.mpr c6
       subst c6
       have H1 : (some false) = some r:=by rw [if_neg (show ¬ (false = true) by decide)] at H;exact H
       clear H
       have H:=H1
       clear H1
       obtain rfl:=Option.some.inj H
       have p101 : 0 ≤ (x7_1 : Int):=of_decide_eq_true va
       have q101 : x7_1 < (l0.length : Int):=of_decide_eq_true va
       obtain ⟨ad101,e101,hx101_0,hx101_1,hx101_2,hx101_3⟩:=at_T29 HR0.out x7_1 p101 q101
       cases e101
       replace hx101_0:=(HB.out.cell (wb w _ hx101_0)).trans hx101_0
       replace hx101_1:=(HB.out.cell (wb w _ hx101_1)).trans hx101_1
       replace hx101_2:=(HB.out.cell (wb w _ hx101_2)).trans hx101_2
       replace hx101_3:=(HB.out.cell (wb w _ hx101_3)).trans hx101_3
       replace p101:=eq_true p101
       replace q101:=eq_true q101
       try go_wp2_with (first|((with_reducible refine gate_dst (N:=4) rfl ?_);refine box_event ?hg (N:=4) ?hd (cs:=#[.int .i64 0,.int .i64 0,.int .i64 0,.int .i64 0]) (t:=29) ?hr ?_;(case hd => rfl);(case hg => rfl);(case hr => first|(go_simp;done)|(go_simp;rfl));intro gb102 hg w27 hbox hb;have n0_:=am (below_step (v0 HB.out) hb);have n1_:=am (hbox);have n2_:=am ((by rw [hg];exact (below_size (v0 HB.out)) : w.heap.size ≤ gb102));have n3_:=am ((by rw [hg];exact (below_size (v0 HB.out)) : w.heap.size ≤ gb102));clear HB;have HB:=n0_;have BK102:=n1_;have GW102:=n2_;have GE102:=n3_;clear n0_ n1_ n2_ n3_;clear hb hbox hg;have hcz28_0 : w27.cell? ⟨gb102,0,none⟩ = some (.int .i64 0):=(blk_cell BK102.out 0).trans rfl;have hcz28_1 : w27.cell? ⟨gb102,1,none⟩ = some (.int .i64 0):=(blk_cell BK102.out 1).trans rfl;have hcz28_2 : w27.cell? ⟨gb102,2,none⟩ = some (.int .i64 0):=(blk_cell BK102.out 2).trans rfl;have hcz28_3 : w27.cell? ⟨gb102,3,none⟩ = some (.int .i64 0):=(blk_cell BK102.out 3).trans rfl;have hfz28_0:=blk_frozen BK102.out 0;have hfz28_1:=blk_frozen BK102.out 1;have hfz28_2:=blk_frozen BK102.out 2;have hfz28_3:=blk_frozen BK102.out 3))
       have n0_ : Aside0 (((((w27.setCell ⟨gb102,0,none⟩ (.int .i64 ((rd_T29 l0 x7_1).f0))).setCell ⟨gb102,1,none⟩ (.int .i64 ((rd_T29 l0 x7_1).f1))).setCell ⟨gb102,2,none⟩ (.int .i64 ((rd_T29 l0 x7_1).f2))).setCell ⟨gb102,3,none⟩ (.int .i64 ((rd_T29 l0 x7_1).f3))).heap[gb102]? = some (.cells #[.int .i64 ((rd_T29 l0 x7_1).f0),.int .i64 ((rd_T29 l0 x7_1).f1),.int .i64 ((rd_T29 l0 x7_1).f2),.int .i64 ((rd_T29 l0 x7_1).f3)] 29 (0,0))):=⟨by (with_reducible repeat (first|refine blk_drewN ?_ _|refine blk_drew ?_|refine blk_alloc ?_ _));refine blk_put (cs:=#[.int .i64 ((rd_T29 l0 x7_1).f0),.int .i64 ((rd_T29 l0 x7_1).f1),.int .i64 ((rd_T29 l0 x7_1).f2),.int .i64 0]) ?_ 3 _ rfl;(with_reducible repeat (first|refine blk_drewN ?_ _|refine blk_drew ?_|refine blk_alloc ?_ _));refine blk_put (cs:=#[.int .i64 ((rd_T29 l0 x7_1).f0),.int .i64 ((rd_T29 l0 x7_1).f1),.int .i64 0,.int .i64 0]) ?_ 2 _ rfl;(with_reducible repeat (first|refine blk_drewN ?_ _|refine blk_drew ?_|refine blk_alloc ?_ _));refine blk_put (cs:=#[.int .i64 ((rd_T29 l0 x7_1).f0),.int .i64 0,.int .i64 0,.int .i64 0]) ?_ 1 _ rfl;(with_reducible repeat (first|refine blk_drewN ?_ _|refine blk_drew ?_|refine blk_alloc ?_ _));refine blk_put (cs:=#[.int .i64 0,.int .i64 0,.int .i64 0,.int .i64 0]) ?_ 0 _ rfl;(with_reducible repeat (first|refine blk_drewN ?_ _|refine blk_drew ?_|refine blk_alloc ?_ _));exact BK102.out⟩
       have n1_ : Aside0 (Below w.heap.size w ((((w27.setCell ⟨gb102,0,none⟩ (.int .i64 ((rd_T29 l0 x7_1).f0))).setCell ⟨gb102,1,none⟩ (.int .i64 ((rd_T29 l0 x7_1).f1))).setCell ⟨gb102,2,none⟩ (.int .i64 ((rd_T29 l0 x7_1).f2))).setCell ⟨gb102,3,none⟩ (.int .i64 ((rd_T29 l0 x7_1).f3)))):=⟨v1 HB.out GE102.out⟩
       (try clear BK102)
       (try clear HB)
       generalize ((((w27.setCell ⟨gb102,0,none⟩ (.int .i64 ((rd_T29 l0 x7_1).f0))).setCell ⟨gb102,1,none⟩ (.int .i64 ((rd_T29 l0 x7_1).f1))).setCell ⟨gb102,2,none⟩ (.int .i64 ((rd_T29 l0 x7_1).f2))).setCell ⟨gb102,3,none⟩ (.int .i64 ((rd_T29 l0 x7_1).f3))) = w29 at n0_ n1_ ⊢
       have BK102:=n0_
       have HB:=n1_
       clear n0_ n1_
       have n0_:=am (blk_drew BK102.out)
       have n1_:=am (below_drew1 HB.out)
       clear BK102
       clear HB
       have BK102:=n0_
       have HB:=n1_
       clear n0_ n1_
       refine start_ (n:=18) (S:=fun w' => w'.cell? ⟨gb102,0,none⟩ = some (.int .i64 ((rd_T29 l0 x7_1).f0)) ∧ w'.cell? ⟨gb102,1,none⟩ = some (.int .i64 ((rd_T29 l0 x7_1).f1)) ∧ w'.cell? ⟨gb102,2,none⟩ = some (.int .i64 ((rd_T29 l0 x7_1).f2)) ∧ w'.cell? ⟨gb102,3,none⟩ = some (.int .i64 ((rd_T29 l0 x7_1).f3))) (ds:=[]) #[false,false,false,false,false,false,false,false,false,false,false,false,false,false,false,false,false,false] kr rfl rfl ⟨(blk_cell BK102.out 0).trans rfl,(blk_cell BK102.out 1).trans rfl,(blk_cell BK102.out 2).trans rfl,(blk_cell BK102.out 3).trans rfl⟩ (fun hHeld => ?_);refine with_tabW book_follows.tab4 book_follows.bits4 (fun HT_ HW_ => ?_)
       generalize w29.drew = w30 at BK102 HB hHeld ⊢
       refine take_ (i:=0) (N:=some 12) (v:=?_) (a':=?_) #[true,false,false,false,false,false,false,false,false,false,false,false,false,false,false,false,false,false] rfl rfl (take_ofW HT_.out HW_.out kr) (fun _ _ _ h => h) (Or.inl ⟨by rfl,?_⟩) hHeld ?_ ?_
       rotate_left
       ·rintro w' ⟨s0,s1,s2,s3⟩
        go_simp
        with_reducible rfl
       rotate_left
       ·exact vs
       refine one_ (i:=1) (N:=some 13) #[true,true,false,false,false,false,false,false,false,false,false,false,false,false,false,false,false,false] rfl rfl (one_of HT_.out kr) (by decide) (fun K hK => ?_)
       refine goes_ Try.func99 kr rfl #[.agg #[.int .i64 ((rd_T29 l0 x7_1).f0),.int .i64 ((rd_T29 l0 x7_1).f1),.int .i64 ((rd_T29 l0 x7_1).f2),.int .i64 ((rd_T29 l0 x7_1).f3)]] (by rfl) rfl rfl (by (try simp only [List.map_toArray,List.map_cons,List.map_nil]);first|done|rfl|(simp only [List.length_drop,List.length_take];rfl)) ?_
       with_reducible refine (book_right.calls ((rd_T29 l0 x7_1).f0) ((rd_T29 l0 x7_1).f1) ((rd_T29 l0 x7_1).f2) ((rd_T29 l0 x7_1).f3) false _ A5.out).mono ?_
       rintro e w31 ⟨rfl,hb⟩
       refine ⟨_,rfl,?_⟩
       have n0_:=am (blk_below (g:=gb102) (o:=.cells #[.int .i64 ((rd_T29 l0 x7_1).f0),.int .i64 ((rd_T29 l0 x7_1).f1),.int .i64 ((rd_T29 l0 x7_1).f2),.int .i64 ((rd_T29 l0 x7_1).f3)] 29 (0,0)) (vb BK102.out) hb)
       have n1_:=am (below_step (v1 HB.out GE102.out) hb)
       clear BK102
       clear HB
       have BK102:=n0_
       have HB:=n1_
       clear n0_ n1_
       (try clear hb)
       (try clear hb2)
       (try clear hk)
       (try clear hi)
       refine hK.out _ _ ⟨(blk_cell BK102.out 0).trans rfl,(blk_cell BK102.out 1).trans rfl,(blk_cell BK102.out 2).trans rfl,(blk_cell BK102.out 3).trans rfl⟩ (fun hHeld => ?_)
       clear hK K
       refine norm_ (a':=?_) ?_ ?_
       rotate_left
       ·show Act.put _ (some 13) _ = _
        simp only [Act.put,List.setIfInBounds_toArray,List.set_cons_zero,List.set_cons_succ,i64_w,i32_w]
        rfl
       refine pure_ (i:=2) (N:=some 14) (v:=?_) (a':=?_) #[true,true,true,false,false,false,false,false,false,false,false,false,false,false,false,false,false,false] rfl rfl (any_of HT_.out kr) (fun _ _ _ h => h) (Or.inl ⟨by rfl,?_⟩) ?_ ?_
       rotate_left
       ·intro w'
        go_simp
        with_reducible rfl
       rotate_left
       ·exact vs
       refine pure_ (i:=3) (N:=some 15) (v:=?_) (a':=?_) #[true,true,true,true,false,false,false,false,false,false,false,false,false,false,false,false,false,false] rfl rfl (any_of HT_.out kr) (fun _ _ _ h => h) (Or.inl ⟨by rfl,?_⟩) ?_ ?_
       rotate_left
       ·intro w'
        go_simp
        with_reducible rfl
       rotate_left
       ·exact vs
       refine pure_ (i:=4) (N:=some 16) (v:=undef) (a':=?_) #[true,true,true,true,true,false,false,false,false,false,false,false,false,false,false,false,false,false] rfl rfl (any_of HT_.out kr) (fun _ _ _ h => h) (Or.inr ⟨by rfl,rfl⟩) ?_ ?_
       rotate_left
       ·exact vs
       refine pure_ (i:=5) (N:=some 17) (v:=undef) (a':=?_) #[true,true,true,true,true,true,false,false,false,false,false,false,false,false,false,false,false,false] rfl rfl (any_of HT_.out kr) (fun _ _ _ h => h) (Or.inr ⟨by rfl,rfl⟩) ?_ ?_
       rotate_left
       ·exact vs
       refine pure_ (i:=6) (N:=some 18) (v:=undef) (a':=?_) #[true,true,true,true,true,true,true,false,false,false,false,false,false,false,false,false,false,false] rfl rfl (any_of HT_.out kr) (fun _ _ _ h => h) (Or.inr ⟨by rfl,rfl⟩) ?_ ?_
       rotate_left
       ·exact vs
       refine pure_ (i:=7) (N:=some 19) (v:=undef) (a':=?_) #[true,true,true,true,true,true,true,true,false,false,false,false,false,false,false,false,false,false] rfl rfl (any_of HT_.out kr) (fun _ _ _ h => h) (Or.inr ⟨by rfl,rfl⟩) ?_ ?_
       rotate_left
       ·exact vs
       refine pure_ (i:=8) (N:=some 20) (v:=undef) (a':=?_) #[true,true,true,true,true,true,true,true,true,false,false,false,false,false,false,false,false,false] rfl rfl (any_of HT_.out kr) (fun _ _ _ h => h) (Or.inr ⟨by rfl,rfl⟩) ?_ ?_
       rotate_left
       ·exact vs
       refine pure_ (i:=9) (N:=some 21) (v:=undef) (a':=?_) #[true,true,true,true,true,true,true,true,true,true,false,false,false,false,false,false,false,false] rfl rfl (any_of HT_.out kr) (fun _ _ _ h => h) (Or.inr ⟨by rfl,rfl⟩) ?_ ?_
       rotate_left
       ·exact vs
       refine pure_ (i:=10) (N:=some 22) (v:=undef) (a':=?_) #[true,true,true,true,true,true,true,true,true,true,true,false,false,false,false,false,false,false] rfl rfl (any_of HT_.out kr) (fun _ _ _ h => h) (Or.inr ⟨by rfl,rfl⟩) ?_ ?_
       rotate_left
       ·exact vs
       refine pure_ (i:=11) (N:=some 23) (v:=undef) (a':=?_) #[true,true,true,true,true,true,true,true,true,true,true,true,false,false,false,false,false,false] rfl rfl (any_of HT_.out kr) (fun _ _ _ h => h) (Or.inr ⟨by rfl,rfl⟩) ?_ ?_
       rotate_left
       ·exact vs
       refine pure_ (i:=12) (N:=some 24) (v:=undef) (a':=?_) #[true,true,true,true,true,true,true,true,true,true,true,true,true,false,false,false,false,false] rfl rfl (any_of HT_.out kr) (fun _ _ _ h => h) (Or.inr ⟨by rfl,rfl⟩) ?_ ?_
       rotate_left
       ·exact vs
       refine pure_ (i:=13) (N:=some 25) (v:=undef) (a':=?_) #[true,true,true,true,true,true,true,true,true,true,true,true,true,true,false,false,false,false] rfl rfl (any_of HT_.out kr) (fun _ _ _ h => h) (Or.inr ⟨by rfl,rfl⟩) ?_ ?_
       rotate_left
       ·exact vs
       refine pure_ (i:=14) (N:=some 26) (v:=undef) (a':=?_) #[true,true,true,true,true,true,true,true,true,true,true,true,true,true,true,false,false,false] rfl rfl (any_of HT_.out kr) (fun _ _ _ h => h) (Or.inr ⟨by rfl,rfl⟩) ?_ ?_
       rotate_left
       ·exact vs
       refine pure_ (i:=15) (N:=some 27) (v:=undef) (a':=?_) #[true,true,true,true,true,true,true,true,true,true,true,true,true,true,true,true,false,false] rfl rfl (any_of HT_.out kr) (fun _ _ _ h => h) (Or.inr ⟨by rfl,rfl⟩) ?_ ?_
       rotate_left
       ·exact vs
       refine pure_ (i:=16) (N:=some 28) (v:=undef) (a':=?_) #[true,true,true,true,true,true,true,true,true,true,true,true,true,true,true,true,true,false] rfl rfl (any_of HT_.out kr) (fun _ _ _ h => h) (Or.inr ⟨by rfl,rfl⟩) ?_ ?_
       rotate_left
       ·exact vs
       refine pure_ (i:=17) (N:=some 29) (v:=?_) (a':=?_) #[true,true,true,true,true,true,true,true,true,true,true,true,true,true,true,true,true,true] rfl rfl (any_of HT_.out kr) (fun _ _ _ h => h) (Or.inl ⟨by rfl,?_⟩) ?_ ?_
       rotate_left
       ·intro w'
        go_simp
        with_reducible rfl
       rotate_left
       ·exact vs
       refine done_ (done_of HT_.out kr) ?_
       try go_wp2
       go_ret
       exact ⟨vf,v1 HB.out GE102.out⟩
     ·rw [if_neg c4] at H
      exact absurd H (by simp)
    ·rw [if_neg c3] at H
     exact absurd H (by simp)
   ·rw [if_neg c2] at H
    have c2b0 : decide (x7_1 < (l0.length : Int)) = false:=decide_eq_false c2
    clear c2
    obtain rfl:=Option.some.inj H
    go_wp2
    go_ret
    exact ⟨vf,v0 HB.out⟩
def rightP (x : S29) : Bool:=decide (0 ≤ x.f0 ∧ x.f0 ≤ 682) && (decide (0 ≤ x.f1 ∧ x.f1 ≤ 9) && (decide (0 ≤ x.f2 ∧ x.f2 ≤ 1048576) && decide (0 ≤ x.f3 ∧ x.f3 ≤ 1073741824)))
theorem within_some (a b c : Int) : book_within.f a b c = some (decide (b ≤ a ∧ a ≤ c)):=by
 unfold book_within.f
 split
 ·simp [*]
 ·simp [*]
theorem right_some (a b c d : Int) : book_right.f a b c d = some (rightP ⟨a,b,c,d⟩):=by
 unfold book_right.f rightP
 simp only [within_some,Option.bind_some]
 by_cases h1 : 0 ≤ a ∧ a ≤ 682
 ·by_cases h2 : 0 ≤ b ∧ b ≤ 9
  ·by_cases h3 : 0 ≤ c ∧ c ≤ 1048576
   ·simp [h1,h2,h3]
   ·simp [h1,h2,h3]
  ·simp [h1,h2]
 ·simp [h1]
def okAt (l : List S29) (i : Nat) : Bool:=rightP (l.getD i z29) && (decide (i = 0) || decide ((l.getD (i - 1) z29).f0 ≤ (l.getD i z29).f0))
def followsP (l : List S29) : Bool:=(List.range l.length).all (okAt l)
def checkP (l : List S29) : Int:=if 64 < l.length then 2 else if followsP l then 0 else 1
theorem follows_from (l : List S29) (h64 : l.length ≤ 64) (d : Nat) : ∀ (k i : Nat),i ≤ l.length → l.length - i = d → d < k → (∀ j,j < i → okAt l j = true) →
  book_follows.l0 k l l (l.length : Int) (i : Int) = some (followsP l):=by
 induction d with
|zero =>
  intro k i h0 hd hk hall
  obtain ⟨k,rfl⟩ : ∃ m,k = m + 1:=⟨k - 1,by omega⟩
  have e : followsP l = true:=by
   unfold followsP
   rw [List.all_eq_true]
   intro j hj
   exact hall j (by have:=List.mem_range.1 hj;omega)
  simp only [book_follows.l0]
  rw [if_neg (by omega),e]
|succ d ih =>
  intro k i h0 hd hk hall
  obtain ⟨k,rfl⟩ : ∃ m,k = m + 1:=⟨k - 1,by omega⟩
  have hlt : i < l.length:=by omega
  have hrd : rd_T29 l (i : Int) = l.getD i z29:=rfl
  have hbad : okAt l i = false → followsP l = false:=by
   intro h
   unfold followsP
   rw [Bool.eq_false_iff]
   intro hc
   rw [List.all_eq_true] at hc
   rw [hc i (List.mem_range.2 hlt)] at h
   cases h
  have hw : wrap64 ((i : Int) + 1) = ((i + 1 : Nat) : Int):=by unfold wrap64;omega
  have hgo : okAt l i = true → book_follows.l0 k l l (l.length : Int) (wrap64 ((i : Int) + 1)) = some (followsP l):=by
   intro h
   rw [hw]
   refine ih k (i + 1) (by omega) (by omega) (by omega) fun j hj => ?_
   by_cases hji : j = i
   ·subst hji;exact h
   ·exact hall j (by omega)
  simp only [book_follows.l0]
  rw [if_pos (by omega),if_pos (by omega),if_pos (by omega),hrd,right_some]
  simp only [Option.bind_some]
  by_cases hr : rightP (l.getD i z29) = true
  ·rw [if_pos hr]
   by_cases hi : (i : Int) > 0
   ·have hw1 : wrap64 ((i : Int) - 1) = ((i - 1 : Nat) : Int):=by unfold wrap64;omega
    have hrd1 : rd_T29 l ((i - 1 : Nat) : Int) = l.getD (i - 1) z29:=rfl
    rw [if_pos hi,hw1,if_pos (by omega),if_pos (by omega),hrd1]
    by_cases hd1 : (l.getD i z29).f0 < (l.getD (i - 1) z29).f0
    ·rw [if_pos hd1,hbad (by unfold okAt;simp only [hr,Bool.true_and,Bool.or_eq_false_iff,decide_eq_false_iff_not];omega)]
    ·rw [if_neg hd1]
     exact hgo (by unfold okAt;simp only [hr,Bool.true_and,Bool.or_eq_true,decide_eq_true_eq];omega)
   ·rw [if_neg hi]
    exact hgo (by unfold okAt;simp only [hr,Bool.true_and,Bool.or_eq_true,decide_eq_true_eq];omega)
  ·rw [if_neg hr,hbad (by unfold okAt;rw [Bool.eq_false_iff.2 hr];rfl)]
theorem follows_some (l : List S29) (h64 : l.length ≤ 64) : book_follows.f 100 l = some (followsP l) :=
 follows_from l h64 l.length 100 0 (Nat.zero_le _) (by omega) (by omega) (fun j hj => absurd hj (by omega))
def book_Check.f (l0 : List S29) : Option Int:=some (checkP l0)
set_option maxRecDepth 100000 in
theorem book_Check.calls (A0 : Option Addr) (c0 : Nat) (l0 : List S29) (r : Int) (w : World) (hr0 : Kd.C k29 w A0 l0.length l0) (hc0 : l0.length ≤ c0) (h : book_Check.f l0 = some r) :
  Calls Try.prog 42 #[.slice A0 l0.length c0] w fun e w' => e = .returned (.int .i64 r) ∧ Below w.heap.size w w':=by
 obtain rfl:=Option.some.inj h
 clear h
 have HR:=am hr0
 have HC:=am hc0
 clear hr0 hc0
 unfold checkP
 by_cases h64 : 64 < l0.length
 ·have g1 : decide ((64 : Int) < (l0.length : Int)) = true:=by simp;omega
  have g2 : decide (64 < l0.length) = true:=by simp;omega
  rw [if_pos h64]
  clear h64
  go_enter Try.func42,Try.ntmps42
  go_wp2
  go_ret
  exact ⟨rfl,Below.refl _ _⟩
 ·have g1 : decide ((64 : Int) < (l0.length : Int)) = false:=by simp;omega
  have g2 : decide (64 < l0.length) = false:=by simp;omega
  have HF:=am (follows_some l0 (by omega))
  rw [if_neg h64]
  clear h64
  cases hf : followsP l0 with
 |true =>
   rw [hf] at HF
   clear hf
   rw [if_pos rfl]
   go_enter Try.func42,Try.ntmps42
   go_wp2_with (go_at_call 107;refine (book_follows.calls _ _ _ _ _ _ HR.out HC.out HF.out).mono ?_;rintro e w' ⟨rfl,hb⟩;have HB:=am hb;clear hb)
   go_ret
   exact ⟨rfl,HB.out⟩
 |false =>
   rw [hf] at HF
   clear hf
   rw [if_neg (by decide)]
   go_enter Try.func42,Try.ntmps42
   go_wp2_with (go_at_call 107;refine (book_follows.calls _ _ _ _ _ _ HR.out HC.out HF.out).mono ?_;rintro e w' ⟨rfl,hb⟩;have HB:=am hb;clear hb)
   go_ret
   exact ⟨rfl,HB.out⟩
def book_isDigest.f (a0 : Int) : Option (Bool):=(book_within.f a0 0 2147483646).bind fun t101 => (some t101)
set_option maxHeartbeats 8000000 in
set_option maxRecDepth 100000 in
theorem book_isDigest.calls (a0 : Int) (r : Bool) (w : World) (h : book_isDigest.f a0 = some r) :
  Calls Try.prog 92 #[.int .i64 a0] w fun e w' => e = .returned (.bool r) ∧ Drawn0 w w':=by
 have H : ((book_within.f a0 0 2147483646).bind fun t101 => (some t101)) = some r:=h
 clear h
 replace H:=Option.bind_eq_some_iff.mp H
 obtain ⟨t101,A20,H⟩:=H
 replace H : (some t101) = some r:=H
 have A2:=am A20
 clear A20
 obtain rfl:=Option.some.inj H
 go_enter Try.func92,Try.ntmps92
 go_wp2_with (first|((with_reducible refine gate_callee (f:=86) rfl ?_);refine goesL_ (some 4) rfl rfl Try.func86 kr rfl #[.int .i64 a0,.int .i64 0,.int .i64 2147483646] rfl (by (try simp only [List.map_toArray,List.map_cons,List.map_nil]);first|done|rfl|(simp only [List.length_drop,List.length_take];rfl)) ?_;(with_reducible refine (book_within.calls a0 0 2147483646 t101 _ A2.out).mono ?_);rintro e w' ⟨rfl,⟨nd,rfl⟩⟩;refine ⟨_,rfl,?_⟩))
 go_ret
 exact ⟨ve,by repeat (first|exact Drawn0.refl _|apply Drawn0.step)⟩
def digStep (d n : Int) : Int:=Int.tmod (wrap64 (wrap64 (wrap64 (d * 1000003) + n) + 1)) 2147483647
def dig (l : List Int) : Int:=l.foldl digStep 1
theorem digest1_calls (d n : Int) (w : World) : Calls Try.prog 148 #[.int .i64 d,.int .i64 n] w fun e w' => e = .returned (.int .i64 (digStep d n)) ∧ w = w':=by
 go_enter Try.func148,Try.ntmps148
 go_wp2
 go_ret
 exact ⟨rfl,rfl⟩
theorem take_snocI (l : List Int) (j : Nat) (h : j < l.length) : (l.take (j + 1)).foldl digStep 1 = digStep ((l.take j).foldl digStep 1) (l.getD j 0):=by
 rw [List.take_succ_eq_append_getElem h,List.foldl_append]
 simp [List.getD_eq_getElem?_getD,List.getElem?_eq_getElem h]
set_option maxHeartbeats 1000000 in
theorem foldInt_calls (A0 : Option Addr) (c0 : Nat) (l0 : List Int) (w : World) (hr0 : Kd.C (Kd.int .i64) w A0 l0.length l0) (hc0 : l0.length ≤ c0) :
  Calls Try.prog 147 #[.slice A0 l0.length c0,.int .i64 1,.func (.func 148) #[] #[]] w fun e w' => e = .returned (.int .i64 (dig l0)) ∧ w = w':=by
 have HR0:=am hr0
 have hm:=hr0.2.1
 have HC0:=am hc0
 clear hr0 hc0
 go_enter Try.func147,Try.ntmps147
 go_wp2
 go_loop [1,11] (fun v1 v11 => ∃ j : Nat,j ≤ l0.length ∧ v11 = .int .i64 (j : Int) ∧ v1 = .int .i64 ((l0.take j).foldl digStep 1)) (fun _ v11 => l0.length - (intOf v11).toNat)
 case atStart => exact ⟨0,Nat.zero_le _,rfl,rfl⟩
 case round =>
  obtain ⟨j,hj,rfl,rfl⟩:=hrel
  by_cases hlt : j < l0.length
  ·obtain ⟨ad,e,hx⟩:=Kd.at_int HR0.out (j : Int) (by omega) (by omega)
   cases e
   rw [Int.toNat_natCast] at hx
   have HS:=am (take_snocI l0 j hlt)
   go_wp2_with (go_at_call 148;refine (digest1_calls _ _ _).mono ?_;rintro e w' ⟨rfl,rfl⟩)
   go_round
   case rel => exact ⟨j + 1,by omega,by go_num,by rw [HS.out];simp [rd]⟩
   case measure => simp [intOf];omega
  ·go_wp2
   go_ret
   refine ⟨?_,rfl⟩
   rw [List.take_of_length_le (by omega)]
   rfl
def book_digest.f (l0 : List Int) : Option Int:=some (dig l0)
theorem book_digest.calls (A0 : Option Addr) (c0 : Nat) (l0 : List Int) (r : Int) (w : World) (hr0 : Kd.C (Kd.int .i64) w A0 l0.length l0) (hc0 : l0.length ≤ c0) (h : book_digest.f l0 = some r) :
  Calls Try.prog 96 #[.slice A0 l0.length c0] w fun e w' => e = .returned (.int .i64 r) ∧ Drawn0 w w':=by
 obtain rfl:=Option.some.inj h
 clear h
 have HR0:=am hr0
 have HC0:=am hc0
 clear hr0 hc0
 go_enter Try.func96,Try.ntmps96
 go_wp2_with (go_at_call 147;refine (foldInt_calls _ _ _ _ HR0.out HC0.out).mono ?_;rintro e w' ⟨rfl,rfl⟩)
 go_ret
 exact ⟨rfl,Drawn0.refl _⟩
def isDigP (n : Int) : Bool:=decide (0 ≤ n ∧ n ≤ 2147483646)
theorem isDigest_some (n : Int) : book_isDigest.f n = some (isDigP n):=by
 unfold book_isDigest.f isDigP
 rw [within_some]
 rfl
theorem run_not (b : Bool) (w : World) : (Op.unary .not (.bool b)).run Try.prog w = .ok (.bool (!b)) w:=rfl
theorem digest95_calls (n : Int) (w : World) : Calls Try.prog 95 #[.int .i64 n] w fun e w' => e = .returned (.bool (!isDigP n)) ∧ Drawn0 w w':=by
 have hn:=run_not
 go_enter Try.func95,Try.ntmps95
 go_wp2_with (go_at_call 92;refine (book_isDigest.calls _ _ _ (isDigest_some n)).mono ?_;rintro e w' ⟨rfl,nq,rfl⟩)
 go_ret
 exact ⟨rfl,⟨⟨nq,rfl⟩⟩⟩
def badAt (l : List Int) : Int:=match l.findIdx? (fun n => !isDigP n) with|some i => (i : Int)|none => -1
theorem badAt_hit (l : List Int) (j : Nat) (h : j < l.length) (hb : isDigP (l.getD j 0) = false) (hall : ∀ i,i < j → isDigP (l.getD i 0) = true) : badAt l = (j : Int):=by
 unfold badAt
 have : l.findIdx? (fun n => !isDigP n) = some j:=by
  rw [List.findIdx?_eq_some_iff_getElem]
  refine ⟨h,by simpa [List.getD_eq_getElem?_getD,List.getElem?_eq_getElem h] using hb,fun i hi => ?_⟩
  have:=hall i hi
  simpa [List.getD_eq_getElem?_getD,List.getElem?_eq_getElem (Nat.lt_trans hi h)] using this
 rw [this]
theorem badAt_none (l : List Int) (hall : ∀ i,i < l.length → isDigP (l.getD i 0) = true) : badAt l = -1:=by
 unfold badAt
 have : l.findIdx? (fun n => !isDigP n) = none:=by
  rw [List.findIdx?_eq_none_iff]
  intro x hx
  obtain ⟨i,hi,rfl⟩:=List.mem_iff_getElem.1 hx
  have:=hall i hi
  simpa [List.getD_eq_getElem?_getD,List.getElem?_eq_getElem hi] using this
 rw [this]
set_option maxRecDepth 100000 in
set_option maxHeartbeats 1000000 in
theorem index95_calls (A0 : Option Addr) (c0 : Nat) (l0 : List Int) (w : World) (hr0 : Kd.C (Kd.int .i64) w A0 l0.length l0) (hc0 : l0.length ≤ c0) :
  Calls Try.prog 146 #[.slice A0 l0.length c0,.func (.func 95) #[] #[]] w fun e w' => e = .returned (.int .i64 (badAt l0)) ∧ Drawn0 w w':=by
 have HR0:=am hr0
 have hm:=hr0.2.1
 have HC0:=am hc0
 clear hr0 hc0
 go_enter Try.func146,Try.ntmps146
 go_wp2
 go_loopw [8] (fun v8 wr => ∃ j : Nat,j ≤ l0.length ∧ v8 = .int .i64 (j : Int) ∧ Aside0 (∀ i,i < j → isDigP (l0.getD i 0) = true) ∧ Drawn0 w wr) (fun v8 _ => l0.length - (intOf v8).toNat)
 case atStart => exact ⟨0,Nat.zero_le _,rfl,⟨fun i hi => absurd hi (by omega)⟩,Drawn0.refl _⟩
 case round =>
  obtain ⟨j,hj,rfl,HA,⟨mq,rfl⟩⟩:=hrel
  by_cases hlt : j < l0.length
  ·obtain ⟨ad,e,hx0⟩:=Kd.at_int (Kd.C_drewN HR0.out mq) (j : Int) (by omega) (by omega)
   cases e
   rw [Int.toNat_natCast] at hx0
   have hx : ∀ q,(w.drewN q).cell? (ad.add j) = some (.int .i64 (rd l0 (j : Int))):=fun q => hx0
   clear hx0
   cases hb : isDigP (rd l0 (j : Int)) with
  |true =>
    have HB:=am hb
    clear hb
    go_wp2_with (go_at_call 95;refine (digest95_calls _ _).mono ?_;rintro e w' ⟨rfl,nq,rfl⟩;rw [HB.out])
    go_roundw
    case rel => exact ⟨j + 1,by omega,by go_num,⟨fun i hi => if h : i = j then by subst h;exact HB.out else HA.out i (by omega)⟩,by repeat (first|exact Drawn0.refl _|apply Drawn0.step)⟩
    case measure => simp [intOf];omega
  |false =>
    have HB:=am hb
    clear hb
    go_wp2_with (go_at_call 95;refine (digest95_calls _ _).mono ?_;rintro e w' ⟨rfl,nq,rfl⟩;rw [HB.out])
    go_ret
    exact ⟨by rw [badAt_hit l0 j hlt HB.out HA.out];rfl,by repeat (first|exact Drawn0.refl _|apply Drawn0.step)⟩
  ·go_wp2
   go_ret
   exact ⟨by rw [badAt_none l0 (fun i hi => HA.out i (by omega))];rfl,by repeat (first|exact Drawn0.refl _|apply Drawn0.step)⟩
theorem badAt_ge (l : List Int) : decide (0 ≤ badAt l) = l.any (fun n => !isDigP n):=by
 unfold badAt
 cases h : l.findIdx? (fun n => !isDigP n) with
|none =>
  rw [List.findIdx?_eq_none_iff] at h
  symm
  simp only [Int.reduceNeg,Int.reduceLE,decide_false]
  rw [List.any_eq_false]
  intro x hx
  rw [h x hx]
  simp
|some i =>
  rw [List.findIdx?_eq_some_iff_getElem] at h
  obtain ⟨h1,h2,_⟩:=h
  have : l.any (fun n => !isDigP n) = true:=List.any_eq_true.2 ⟨l[i],List.getElem_mem h1,h2⟩
  rw [this]
  simp
set_option maxRecDepth 100000 in
theorem contains95_calls (A0 : Option Addr) (c0 : Nat) (l0 : List Int) (w : World) (hr0 : Kd.C (Kd.int .i64) w A0 l0.length l0) (hc0 : l0.length ≤ c0) :
  Calls Try.prog 94 #[.slice A0 l0.length c0,.func (.func 95) #[] #[]] w fun e w' => e = .returned (.bool (l0.any fun n => !isDigP n)) ∧ Drawn0 w w':=by
 have HR0:=am hr0
 have HC0:=am hc0
 clear hr0 hc0
 have HG:=am (badAt_ge l0)
 go_enter Try.func94,Try.ntmps94
 go_wp2_with (go_at_call 146;refine (index95_calls _ _ _ _ HR0.out HC0.out).mono ?_;rintro e w' ⟨rfl,nq,rfl⟩)
 go_ret
 exact ⟨by rw [← HG.out];rfl,⟨⟨nq,rfl⟩⟩⟩
def digestP (l : List Int) : Int × Int:=if 8 < l.length then (0,2) else if l.any (fun n => !isDigP n) = true then (0,1) else (dig l,0)
def book_Digest.f (l0 : List Int) : Option (Int × Int):=some (digestP l0)
set_option maxRecDepth 100000 in
theorem book_Digest.calls (A0 : Option Addr) (c0 : Nat) (l0 : List Int) (r1 r2 : Int) (w : World) (hr0 : Kd.C (Kd.int .i64) w A0 l0.length l0) (hc0 : l0.length ≤ c0) (h : book_Digest.f l0 = some (r1,r2)) :
  Calls Try.prog 35 #[.slice A0 l0.length c0] w fun e w' => e = .returned (.tuple #[.int .i64 r1,.int .i64 r2]) ∧ Drawn0 w w':=by
 unfold book_Digest.f digestP at h
 have HR0:=am hr0
 have HC0:=am hc0
 clear hr0 hc0
 by_cases h8 : 8 < l0.length
 ·rw [if_pos h8] at h
  simp only [Option.some.injEq,Prod.mk.injEq] at h
  obtain ⟨rfl,rfl⟩:=h
  have g1 : decide ((8 : Int) < (l0.length : Int)) = true:=by simp;omega
  have g2 : decide (8 < l0.length) = true:=by simp;omega
  clear h8
  go_enter Try.func35,Try.ntmps35
  go_wp2
  go_ret2
  exact ⟨rfl,Drawn0.refl _⟩
 ·rw [if_neg h8] at h
  have g1 : decide ((8 : Int) < (l0.length : Int)) = false:=by simp;omega
  have g2 : decide (8 < l0.length) = false:=by simp;omega
  clear h8
  cases hb : l0.any (fun n => !isDigP n) with
 |true =>
   rw [if_pos hb] at h
   simp only [Option.some.injEq,Prod.mk.injEq] at h
   obtain ⟨rfl,rfl⟩:=h
   have HB:=am hb
   clear hb
   go_enter Try.func35,Try.ntmps35
   go_wp2_with (first|(go_at_call 94;refine (contains95_calls _ _ _ _ HR0.out HC0.out).mono ?_;rintro e w' ⟨rfl,nq,rfl⟩;rw [HB.out]))
   go_ret2
   exact ⟨rfl,⟨⟨nq,rfl⟩⟩⟩
 |false =>
   rw [if_neg (by rw [hb];decide)] at h
   simp only [Option.some.injEq,Prod.mk.injEq] at h
   obtain ⟨rfl,rfl⟩:=h
   have HB:=am hb
   clear hb
   go_enter Try.func35,Try.ntmps35
   go_wp2_with (first
   |(go_at_call 94;refine (contains95_calls _ _ _ _ HR0.out HC0.out).mono ?_;rintro e w' ⟨rfl,nq,rfl⟩;rw [HB.out])
   |(go_at_call 96;refine (book_digest.calls _ _ _ _ _ (Kd.C_drewN HR0.out nq) HC0.out rfl).mono ?_;rintro e w' ⟨rfl,hd⟩;have HD:=am hd;clear hd))
   go_ret2
   exact ⟨rfl,⟨by obtain ⟨m,hm⟩:=HD.out.out;exact ⟨nq + m,by rw [hm,World.drewN_drewN]⟩⟩⟩
theorem wrap_nat {i : Nat} (h : i < 4611686018427387904) : wrap64 ((i : Int) + 1) = ((i + 1 : Nat) : Int):=by unfold wrap64;omega
theorem rd_getElem {l : List Int} {i : Nat} (h : i < l.length) : rd l (i : Int) = l[i]:=by unfold rd;simp [List.getD_eq_getElem?_getD,List.getElem?_eq_getElem h]
theorem ref_within (a b c : Int) : calxref08_within.f a b c = some (decide (b ≤ a ∧ a ≤ c)):=by
 unfold calxref08_within.f
 by_cases h : a ≥ b
 ·rw [if_pos h];simp [show b ≤ a from h]
 ·rw [if_neg h];simp;omega
theorem ref_isDigest (n : Int) : calxref08_isDigest.f n = some (isDigP n):=by
 unfold calxref08_isDigest.f isDigP
 rw [ref_within];rfl
def calxref08_Entry.f (a0_0 : Int) (a0_1 : Int) (a0_2 : Int) (a0_3 : Int) : Option (Bool):=(calxref08_within.f a0_0 0 682).bind fun t102 => ((calxref08_within.f a0_1 0 9).bind fun t103 => ((calxref08_within.f a0_2 0 1048576).bind fun t104 => ((calxref08_within.f a0_3 0 1073741824).bind fun t105 => (if t102 = true then (if t103 = true then (if t104 = true then (some t105) else (some false)) else (some false)) else (some false)))))
set_option maxHeartbeats 8000000 in
set_option maxRecDepth 100000 in
theorem calxref08_Entry.calls (a0_0 : Int) (a0_1 : Int) (a0_2 : Int) (a0_3 : Int) (r : Bool) (w : World) (h : calxref08_Entry.f a0_0 a0_1 a0_2 a0_3 = some r) :
  Calls Try.prog 101 #[.agg #[.int .i64 a0_0,.int .i64 a0_1,.int .i64 a0_2,.int .i64 a0_3]] w fun e w' => e = .returned (.bool r) ∧ Below w.heap.size w w':=by
 have hu29:=Try.underlying29
 have HB:=am (Below.refl w.heap.size w)
 have H : ((calxref08_within.f a0_0 0 682).bind fun t102 => ((calxref08_within.f a0_1 0 9).bind fun t103 => ((calxref08_within.f a0_2 0 1048576).bind fun t104 => ((calxref08_within.f a0_3 0 1073741824).bind fun t105 => (if t102 = true then (if t103 = true then (if t104 = true then (some t105) else (some false)) else (some false)) else (some false)))))) = some r:=h
 clear h
 replace H:=Option.bind_eq_some_iff.mp H
 obtain ⟨t102,A20,H⟩:=H
 replace H : ((calxref08_within.f a0_1 0 9).bind fun t103 => ((calxref08_within.f a0_2 0 1048576).bind fun t104 => ((calxref08_within.f a0_3 0 1073741824).bind fun t105 => (if t102 = true then (if t103 = true then (if t104 = true then (some t105) else (some false)) else (some false)) else (some false))))) = some r:=H
 have A2:=am A20
 clear A20
 replace H:=Option.bind_eq_some_iff.mp H
 obtain ⟨t103,A30,H⟩:=H
 replace H : ((calxref08_within.f a0_2 0 1048576).bind fun t104 => ((calxref08_within.f a0_3 0 1073741824).bind fun t105 => (if t102 = true then (if t103 = true then (if t104 = true then (some t105) else (some false)) else (some false)) else (some false)))) = some r:=H
 have A3:=am A30
 clear A30
 replace H:=Option.bind_eq_some_iff.mp H
 obtain ⟨t104,A40,H⟩:=H
 replace H : ((calxref08_within.f a0_3 0 1073741824).bind fun t105 => (if t102 = true then (if t103 = true then (if t104 = true then (some t105) else (some false)) else (some false)) else (some false))) = some r:=H
 have A4:=am A40
 clear A40
 replace H:=Option.bind_eq_some_iff.mp H
 obtain ⟨t105,A50,H⟩:=H
 replace H : (if t102 = true then (if t103 = true then (if t104 = true then (some t105) else (some false)) else (some false)) else (some false)) = some r:=H
 have A5:=am A50
 clear A50
 by_cases c6 : t102 = true
 ·subst c6
  have H1 : (if t103 = true then (if t104 = true then (some t105) else (some false)) else (some false)) = some r:=by rw [if_pos rfl] at H;exact H
  clear H
  have H:=H1
  clear H1
  by_cases c7 : t103 = true
  ·subst c7
   have H1 : (if t104 = true then (some t105) else (some false)) = some r:=by rw [if_pos rfl] at H;exact H
   clear H
   have H:=H1
   clear H1
   by_cases c8 : t104 = true
   ·subst c8
    have H1 : (some t105) = some r:=by rw [if_pos rfl] at H;exact H
    clear H
    have H:=H1
    clear H1
    obtain rfl:=Option.some.inj H
    go_enter Try.func101,Try.ntmps101
    go_wp2_with (first|((with_reducible refine gate_dst (N:=1) rfl ?_);refine box_event ?hg (N:=1) ?hd (cs:=#[.int .i64 a0_0,.int .i64 a0_1,.int .i64 a0_2,.int .i64 a0_3]) (t:=29) ?hr ?_;(case hd => rfl);(case hg => rfl);(case hr => first|(go_simp;done)|(go_simp;rfl));intro gb101 hg w9 hbox hb;have n0_:=am (below_step (v0 HB.out) hb);have n1_:=am (hbox);have n2_:=am ((by rw [hg];exact (below_size (v0 HB.out)) : w.heap.size ≤ gb101));have n3_:=am ((by rw [hg];exact (below_size (v0 HB.out)) : w.heap.size ≤ gb101));clear HB;have HB:=n0_;have BK101:=n1_;have GW101:=n2_;have GE101:=n3_;clear n0_ n1_ n2_ n3_;clear hb hbox hg;have hcz10_0 : w9.cell? ⟨gb101,0,none⟩ = some (.int .i64 a0_0):=(blk_cell BK101.out 0).trans rfl;have hcz10_1 : w9.cell? ⟨gb101,1,none⟩ = some (.int .i64 a0_1):=(blk_cell BK101.out 1).trans rfl;have hcz10_2 : w9.cell? ⟨gb101,2,none⟩ = some (.int .i64 a0_2):=(blk_cell BK101.out 2).trans rfl;have hcz10_3 : w9.cell? ⟨gb101,3,none⟩ = some (.int .i64 a0_3):=(blk_cell BK101.out 3).trans rfl;have hfz10_0:=blk_frozen BK101.out 0;have hfz10_1:=blk_frozen BK101.out 1;have hfz10_2:=blk_frozen BK101.out 2;have hfz10_3:=blk_frozen BK101.out 3)|((with_reducible refine gate_callee (f:=103) rfl ?_);refine goesL_ (some 9) rfl rfl Try.func103 kr rfl #[.int .i64 a0_0,.int .i64 0,.int .i64 682] rfl (by (try simp only [List.map_toArray,List.map_cons,List.map_nil]);first|done|rfl|(simp only [List.length_drop,List.length_take];rfl)) ?_;(with_reducible refine (calxref08_within.calls a0_0 0 682 true _ A2.out).mono ?_);rintro e w' ⟨rfl,⟨nd,rfl⟩⟩;refine ⟨_,rfl,?_⟩)|((with_reducible refine gate_callee (f:=103) rfl ?_);refine goesL_ (some 12) rfl rfl Try.func103 kr rfl #[.int .i64 a0_1,.int .i64 0,.int .i64 9] rfl (by (try simp only [List.map_toArray,List.map_cons,List.map_nil]);first|done|rfl|(simp only [List.length_drop,List.length_take];rfl)) ?_;(with_reducible refine (calxref08_within.calls a0_1 0 9 true _ A3.out).mono ?_);rintro e w' ⟨rfl,⟨nd,rfl⟩⟩;refine ⟨_,rfl,?_⟩)|((with_reducible refine gate_callee (f:=103) rfl ?_);refine goesL_ (some 15) rfl rfl Try.func103 kr rfl #[.int .i64 a0_2,.int .i64 0,.int .i64 1048576] rfl (by (try simp only [List.map_toArray,List.map_cons,List.map_nil]);first|done|rfl|(simp only [List.length_drop,List.length_take];rfl)) ?_;(with_reducible refine (calxref08_within.calls a0_2 0 1048576 true _ A4.out).mono ?_);rintro e w' ⟨rfl,⟨nd,rfl⟩⟩;refine ⟨_,rfl,?_⟩)|((with_reducible refine gate_callee (f:=103) rfl ?_);refine goesL_ (some 18) rfl rfl Try.func103 kr rfl #[.int .i64 a0_3,.int .i64 0,.int .i64 1073741824] rfl (by (try simp only [List.map_toArray,List.map_cons,List.map_nil]);first|done|rfl|(simp only [List.length_drop,List.length_take];rfl)) ?_;(with_reducible refine (calxref08_within.calls a0_3 0 1073741824 t105 _ A5.out).mono ?_);rintro e w' ⟨rfl,⟨nd,rfl⟩⟩;refine ⟨_,rfl,?_⟩))
    go_ret
    exact ⟨vf,v1 HB.out GE101.out⟩
   ·replace c8:=Bool.eq_false_iff.mpr c8
    subst c8
    have H1 : (some false) = some r:=by rw [if_neg (show ¬ (false = true) by decide)] at H;exact H
    clear H
    have H:=H1
    clear H1
    obtain rfl:=Option.some.inj H
    go_enter Try.func101,Try.ntmps101
    go_wp2_with (first|((with_reducible refine gate_dst (N:=1) rfl ?_);refine box_event ?hg (N:=1) ?hd (cs:=#[.int .i64 a0_0,.int .i64 a0_1,.int .i64 a0_2,.int .i64 a0_3]) (t:=29) ?hr ?_;(case hd => rfl);(case hg => rfl);(case hr => first|(go_simp;done)|(go_simp;rfl));intro gb101 hg w11 hbox hb;have n0_:=am (below_step (v0 HB.out) hb);have n1_:=am (hbox);have n2_:=am ((by rw [hg];exact (below_size (v0 HB.out)) : w.heap.size ≤ gb101));have n3_:=am ((by rw [hg];exact (below_size (v0 HB.out)) : w.heap.size ≤ gb101));clear HB;have HB:=n0_;have BK101:=n1_;have GW101:=n2_;have GE101:=n3_;clear n0_ n1_ n2_ n3_;clear hb hbox hg;have hcz12_0 : w11.cell? ⟨gb101,0,none⟩ = some (.int .i64 a0_0):=(blk_cell BK101.out 0).trans rfl;have hcz12_1 : w11.cell? ⟨gb101,1,none⟩ = some (.int .i64 a0_1):=(blk_cell BK101.out 1).trans rfl;have hcz12_2 : w11.cell? ⟨gb101,2,none⟩ = some (.int .i64 a0_2):=(blk_cell BK101.out 2).trans rfl;have hcz12_3 : w11.cell? ⟨gb101,3,none⟩ = some (.int .i64 a0_3):=(blk_cell BK101.out 3).trans rfl;have hfz12_0:=blk_frozen BK101.out 0;have hfz12_1:=blk_frozen BK101.out 1;have hfz12_2:=blk_frozen BK101.out 2;have hfz12_3:=blk_frozen BK101.out 3)|((with_reducible refine gate_callee (f:=103) rfl ?_);refine goesL_ (some 9) rfl rfl Try.func103 kr rfl #[.int .i64 a0_0,.int .i64 0,.int .i64 682] rfl (by (try simp only [List.map_toArray,List.map_cons,List.map_nil]);first|done|rfl|(simp only [List.length_drop,List.length_take];rfl)) ?_;(with_reducible refine (calxref08_within.calls a0_0 0 682 true _ A2.out).mono ?_);rintro e w' ⟨rfl,⟨nd,rfl⟩⟩;refine ⟨_,rfl,?_⟩)|((with_reducible refine gate_callee (f:=103) rfl ?_);refine goesL_ (some 12) rfl rfl Try.func103 kr rfl #[.int .i64 a0_1,.int .i64 0,.int .i64 9] rfl (by (try simp only [List.map_toArray,List.map_cons,List.map_nil]);first|done|rfl|(simp only [List.length_drop,List.length_take];rfl)) ?_;(with_reducible refine (calxref08_within.calls a0_1 0 9 true _ A3.out).mono ?_);rintro e w' ⟨rfl,⟨nd,rfl⟩⟩;refine ⟨_,rfl,?_⟩)|((with_reducible refine gate_callee (f:=103) rfl ?_);refine goesL_ (some 15) rfl rfl Try.func103 kr rfl #[.int .i64 a0_2,.int .i64 0,.int .i64 1048576] rfl (by (try simp only [List.map_toArray,List.map_cons,List.map_nil]);first|done|rfl|(simp only [List.length_drop,List.length_take];rfl)) ?_;(with_reducible refine (calxref08_within.calls a0_2 0 1048576 false _ A4.out).mono ?_);rintro e w' ⟨rfl,⟨nd,rfl⟩⟩;refine ⟨_,rfl,?_⟩)|((with_reducible refine gate_callee (f:=103) rfl ?_);refine goesL_ (some 18) rfl rfl Try.func103 kr rfl #[.int .i64 a0_3,.int .i64 0,.int .i64 1073741824] rfl (by (try simp only [List.map_toArray,List.map_cons,List.map_nil]);first|done|rfl|(simp only [List.length_drop,List.length_take];rfl)) ?_;(with_reducible refine (calxref08_within.calls a0_3 0 1073741824 t105 _ A5.out).mono ?_);rintro e w' ⟨rfl,⟨nd,rfl⟩⟩;refine ⟨_,rfl,?_⟩))
    go_ret
    exact ⟨vf,v1 HB.out GE101.out⟩
  ·replace c7:=Bool.eq_false_iff.mpr c7
   subst c7
   have H1 : (some false) = some r:=by rw [if_neg (show ¬ (false = true) by decide)] at H;exact H
   clear H
   have H:=H1
   clear H1
   obtain rfl:=Option.some.inj H
   go_enter Try.func101,Try.ntmps101
   go_wp2_with (first|((with_reducible refine gate_dst (N:=1) rfl ?_);refine box_event ?hg (N:=1) ?hd (cs:=#[.int .i64 a0_0,.int .i64 a0_1,.int .i64 a0_2,.int .i64 a0_3]) (t:=29) ?hr ?_;(case hd => rfl);(case hg => rfl);(case hr => first|(go_simp;done)|(go_simp;rfl));intro gb101 hg w13 hbox hb;have n0_:=am (below_step (v0 HB.out) hb);have n1_:=am (hbox);have n2_:=am ((by rw [hg];exact (below_size (v0 HB.out)) : w.heap.size ≤ gb101));have n3_:=am ((by rw [hg];exact (below_size (v0 HB.out)) : w.heap.size ≤ gb101));clear HB;have HB:=n0_;have BK101:=n1_;have GW101:=n2_;have GE101:=n3_;clear n0_ n1_ n2_ n3_;clear hb hbox hg;have hcz14_0 : w13.cell? ⟨gb101,0,none⟩ = some (.int .i64 a0_0):=(blk_cell BK101.out 0).trans rfl;have hcz14_1 : w13.cell? ⟨gb101,1,none⟩ = some (.int .i64 a0_1):=(blk_cell BK101.out 1).trans rfl;have hcz14_2 : w13.cell? ⟨gb101,2,none⟩ = some (.int .i64 a0_2):=(blk_cell BK101.out 2).trans rfl;have hcz14_3 : w13.cell? ⟨gb101,3,none⟩ = some (.int .i64 a0_3):=(blk_cell BK101.out 3).trans rfl;have hfz14_0:=blk_frozen BK101.out 0;have hfz14_1:=blk_frozen BK101.out 1;have hfz14_2:=blk_frozen BK101.out 2;have hfz14_3:=blk_frozen BK101.out 3)|((with_reducible refine gate_callee (f:=103) rfl ?_);refine goesL_ (some 9) rfl rfl Try.func103 kr rfl #[.int .i64 a0_0,.int .i64 0,.int .i64 682] rfl (by (try simp only [List.map_toArray,List.map_cons,List.map_nil]);first|done|rfl|(simp only [List.length_drop,List.length_take];rfl)) ?_;(with_reducible refine (calxref08_within.calls a0_0 0 682 true _ A2.out).mono ?_);rintro e w' ⟨rfl,⟨nd,rfl⟩⟩;refine ⟨_,rfl,?_⟩)|((with_reducible refine gate_callee (f:=103) rfl ?_);refine goesL_ (some 12) rfl rfl Try.func103 kr rfl #[.int .i64 a0_1,.int .i64 0,.int .i64 9] rfl (by (try simp only [List.map_toArray,List.map_cons,List.map_nil]);first|done|rfl|(simp only [List.length_drop,List.length_take];rfl)) ?_;(with_reducible refine (calxref08_within.calls a0_1 0 9 false _ A3.out).mono ?_);rintro e w' ⟨rfl,⟨nd,rfl⟩⟩;refine ⟨_,rfl,?_⟩)|((with_reducible refine gate_callee (f:=103) rfl ?_);refine goesL_ (some 15) rfl rfl Try.func103 kr rfl #[.int .i64 a0_2,.int .i64 0,.int .i64 1048576] rfl (by (try simp only [List.map_toArray,List.map_cons,List.map_nil]);first|done|rfl|(simp only [List.length_drop,List.length_take];rfl)) ?_;(with_reducible refine (calxref08_within.calls a0_2 0 1048576 t104 _ A4.out).mono ?_);rintro e w' ⟨rfl,⟨nd,rfl⟩⟩;refine ⟨_,rfl,?_⟩)|((with_reducible refine gate_callee (f:=103) rfl ?_);refine goesL_ (some 18) rfl rfl Try.func103 kr rfl #[.int .i64 a0_3,.int .i64 0,.int .i64 1073741824] rfl (by (try simp only [List.map_toArray,List.map_cons,List.map_nil]);first|done|rfl|(simp only [List.length_drop,List.length_take];rfl)) ?_;(with_reducible refine (calxref08_within.calls a0_3 0 1073741824 t105 _ A5.out).mono ?_);rintro e w' ⟨rfl,⟨nd,rfl⟩⟩;refine ⟨_,rfl,?_⟩))
   go_ret
   exact ⟨vf,v1 HB.out GE101.out⟩
 ·replace c6:=Bool.eq_false_iff.mpr c6
  subst c6
  have H1 : (some false) = some r:=by rw [if_neg (show ¬ (false = true) by decide)] at H;exact H
  clear H
  have H:=H1
  clear H1
  obtain rfl:=Option.some.inj H
  go_enter Try.func101,Try.ntmps101
  go_wp2_with (first|((with_reducible refine gate_dst (N:=1) rfl ?_);refine box_event ?hg (N:=1) ?hd (cs:=#[.int .i64 a0_0,.int .i64 a0_1,.int .i64 a0_2,.int .i64 a0_3]) (t:=29) ?hr ?_;(case hd => rfl);(case hg => rfl);(case hr => first|(go_simp;done)|(go_simp;rfl));intro gb101 hg w15 hbox hb;have n0_:=am (below_step (v0 HB.out) hb);have n1_:=am (hbox);have n2_:=am ((by rw [hg];exact (below_size (v0 HB.out)) : w.heap.size ≤ gb101));have n3_:=am ((by rw [hg];exact (below_size (v0 HB.out)) : w.heap.size ≤ gb101));clear HB;have HB:=n0_;have BK101:=n1_;have GW101:=n2_;have GE101:=n3_;clear n0_ n1_ n2_ n3_;clear hb hbox hg;have hcz16_0 : w15.cell? ⟨gb101,0,none⟩ = some (.int .i64 a0_0):=(blk_cell BK101.out 0).trans rfl;have hcz16_1 : w15.cell? ⟨gb101,1,none⟩ = some (.int .i64 a0_1):=(blk_cell BK101.out 1).trans rfl;have hcz16_2 : w15.cell? ⟨gb101,2,none⟩ = some (.int .i64 a0_2):=(blk_cell BK101.out 2).trans rfl;have hcz16_3 : w15.cell? ⟨gb101,3,none⟩ = some (.int .i64 a0_3):=(blk_cell BK101.out 3).trans rfl;have hfz16_0:=blk_frozen BK101.out 0;have hfz16_1:=blk_frozen BK101.out 1;have hfz16_2:=blk_frozen BK101.out 2;have hfz16_3:=blk_frozen BK101.out 3)|((with_reducible refine gate_callee (f:=103) rfl ?_);refine goesL_ (some 9) rfl rfl Try.func103 kr rfl #[.int .i64 a0_0,.int .i64 0,.int .i64 682] rfl (by (try simp only [List.map_toArray,List.map_cons,List.map_nil]);first|done|rfl|(simp only [List.length_drop,List.length_take];rfl)) ?_;(with_reducible refine (calxref08_within.calls a0_0 0 682 false _ A2.out).mono ?_);rintro e w' ⟨rfl,⟨nd,rfl⟩⟩;refine ⟨_,rfl,?_⟩)|((with_reducible refine gate_callee (f:=103) rfl ?_);refine goesL_ (some 12) rfl rfl Try.func103 kr rfl #[.int .i64 a0_1,.int .i64 0,.int .i64 9] rfl (by (try simp only [List.map_toArray,List.map_cons,List.map_nil]);first|done|rfl|(simp only [List.length_drop,List.length_take];rfl)) ?_;(with_reducible refine (calxref08_within.calls a0_1 0 9 t103 _ A3.out).mono ?_);rintro e w' ⟨rfl,⟨nd,rfl⟩⟩;refine ⟨_,rfl,?_⟩)|((with_reducible refine gate_callee (f:=103) rfl ?_);refine goesL_ (some 15) rfl rfl Try.func103 kr rfl #[.int .i64 a0_2,.int .i64 0,.int .i64 1048576] rfl (by (try simp only [List.map_toArray,List.map_cons,List.map_nil]);first|done|rfl|(simp only [List.length_drop,List.length_take];rfl)) ?_;(with_reducible refine (calxref08_within.calls a0_2 0 1048576 t104 _ A4.out).mono ?_);rintro e w' ⟨rfl,⟨nd,rfl⟩⟩;refine ⟨_,rfl,?_⟩)|((with_reducible refine gate_callee (f:=103) rfl ?_);refine goesL_ (some 18) rfl rfl Try.func103 kr rfl #[.int .i64 a0_3,.int .i64 0,.int .i64 1073741824] rfl (by (try simp only [List.map_toArray,List.map_cons,List.map_nil]);first|done|rfl|(simp only [List.length_drop,List.length_take];rfl)) ?_;(with_reducible refine (calxref08_within.calls a0_3 0 1073741824 t105 _ A5.out).mono ?_);rintro e w' ⟨rfl,⟨nd,rfl⟩⟩;refine ⟨_,rfl,?_⟩))
  go_ret
  exact ⟨vf,v1 HB.out GE101.out⟩
def calxref08_book.l0 : Nat → List (S29) → Int → Option (Bool)
|0,_,_ => none
|k + 1,x0,x3 => if x3 < (x0.length : Int) then (if 0 ≤ x3 then ((calxref08_Entry.f ((rd_T29 x0 x3).f0) ((rd_T29 x0 x3).f1) ((rd_T29 x0 x3).f2) ((rd_T29 x0 x3).f3)).bind fun t102 => (if t102 = true then (if x3 > 0 then (if 0 ≤ (mx 0 (wrap64 (x3 - 1))) then (if (mx 0 (wrap64 (x3 - 1))) < (x0.length : Int) then (if ((rd_T29 x0 x3).f0) < ((rd_T29 x0 (mx 0 (wrap64 (x3 - 1)))).f0) then (some false) else (calxref08_book.l0 k x0 (wrap64 (x3 + 1)))) else (none)) else (none)) else (calxref08_book.l0 k x0 (wrap64 (x3 + 1)))) else (some false))) else (none)) else (some true)
def calxref08_book.f (k : Nat) (l0 : List (S29)) : Option (Bool):=calxref08_book.l0 k l0 0
theorem calxref08_book.mono_l : ∀ k,(∀ y0 y1,LeO (calxref08_book.l0 k y0 y1) (calxref08_book.l0 (k + 1) y0 y1))
|0 => fun _ _ r h => by simp [calxref08_book.l0] at h
|k + 1 => by
  have ih0:=calxref08_book.mono_l k
  ·intro y0 y1
   unfold calxref08_book.l0
   repeat' first
  |(with_reducible exact ih0 _ _)
  |(with_reducible exact LeO.refl _)
  |(with_reducible exact LeO.none _)
  |(with_reducible refine LeO.ite ?_ ?_)
  |(with_reducible refine LeO.bind ?_ (fun _ => ?_))
  |exact ih0 _ _
  |exact LeO.none _
  |refine LeO.ite ?_ ?_
  |refine LeO.bind ?_ (fun _ => ?_)
theorem calxref08_book.mono : ∀ a0 k,LeO (calxref08_book.f k a0) (calxref08_book.f (k + 1) a0):=by
 intro a0 k
 have ih0:=calxref08_book.mono_l k
 unfold calxref08_book.f
 repeat' first
  |(with_reducible exact ih0 _ _)
  |(with_reducible exact LeO.refl _)
  |(with_reducible exact LeO.none _)
  |(with_reducible refine LeO.ite ?_ ?_)
  |(with_reducible refine LeO.bind ?_ (fun _ => ?_))
  |exact ih0 _ _
  |exact LeO.none _
  |refine LeO.ite ?_ ?_
  |refine LeO.bind ?_ (fun _ => ?_)
set_option maxHeartbeats 8000000 in
set_option maxRecDepth 100000 in
theorem calxref08_book.calls (k : Nat) (A0 : Option Addr) (c0 : Nat) (l0 : List (S29)) (r : Bool) (w : World) (hr0 : Kd.C k29 w A0 l0.length l0) (hc0 : l0.length ≤ c0) (h : calxref08_book.f k l0 = some r) :
  Calls Try.prog 108 #[.slice A0 l0.length c0] w fun e w' => e = .returned (.bool r) ∧ Below w.heap.size w w':=by
 have hu29:=Try.underlying29
 have HR0:=am hr0
 have HC0:=am hc0
 clear hr0 hc0
 have HB:=am (Below.refl w.heap.size w)
 have H : (calxref08_book.l0 k l0 0) = some r:=h
 clear h
 have H':=am H
 clear H
 go_enter Try.func108,Try.ntmps108
 go_wp2
 repeat (go_quiet (fail);try go_wp2)
 go_loopg [3] k (fun kq v3 w' => ∃ (x3_1 : Int),v3 = .int .i64 x3_1 ∧ Aside0 (calxref08_book.l0 kq l0 x3_1 = some r) ∧ Aside0 (kq ≤ k) ∧ Aside0 (Below w.heap.size w w'))
 case atStart => exact ⟨(0),ve,H',⟨Nat.le_refl _⟩,⟨v0 HB.out⟩⟩
 case round =>
  clear H'
  try clear c1
  obtain ⟨x3_1,rfl,HA,HK1,HB⟩:=hrel
  cases gk with
 |zero => exact absurd HA.out (by simp [calxref08_book.l0])
 |succ k1 =>
   have H:=HA.out
   clear HA
   simp only [calxref08_book.l0] at H
   by_cases c2 : x3_1 < (l0.length : Int)
   ·rw [if_pos c2] at H
    have c2b0 : decide (x3_1 < (l0.length : Int)) = true:=decide_eq_true c2
    clear c2
    by_cases c3 : 0 ≤ x3_1
    ·rw [if_pos c3] at H
     have c3b0 : decide (0 ≤ x3_1) = true:=decide_eq_true c3
     clear c3
     replace H:=Option.bind_eq_some_iff.mp H
     obtain ⟨t102,A40,H⟩:=H
     replace H : (if t102 = true then (if x3_1 > 0 then (if 0 ≤ (mx 0 (wrap64 (x3_1 - 1))) then (if (mx 0 (wrap64 (x3_1 - 1))) < (l0.length : Int) then (if ((rd_T29 l0 x3_1).f0) < ((rd_T29 l0 (mx 0 (wrap64 (x3_1 - 1)))).f0) then (some false) else (calxref08_book.l0 k1 l0 (wrap64 (x3_1 + 1)))) else (none)) else (none)) else (calxref08_book.l0 k1 l0 (wrap64 (x3_1 + 1)))) else (some false)) = some r:=H
     have A4:=am A40
     clear A40
     by_cases c5 : t102 = true
     ·subst c5
      have H1 : (if x3_1 > 0 then (if 0 ≤ (mx 0 (wrap64 (x3_1 - 1))) then (if (mx 0 (wrap64 (x3_1 - 1))) < (l0.length : Int) then (if ((rd_T29 l0 x3_1).f0) < ((rd_T29 l0 (mx 0 (wrap64 (x3_1 - 1)))).f0) then (some false) else (calxref08_book.l0 k1 l0 (wrap64 (x3_1 + 1)))) else (none)) else (none)) else (calxref08_book.l0 k1 l0 (wrap64 (x3_1 + 1)))) = some r:=by rw [if_pos rfl] at H;exact H
      clear H
      have H:=H1
      clear H1
      by_cases c6 : x3_1 > 0
      ·rw [if_pos c6] at H
       have c6b0 : decide (0 < x3_1) = true:=decide_eq_true c6
       clear c6
       obtain ⟨ji7,hji7⟩ : ∃ j_ : Int,(mx 0 (wrap64 (x3_1 - 1))) = j_:=⟨_,rfl⟩
       replace H : (if 0 ≤ (ji7) then (if (ji7) < (l0.length : Int) then (if ((rd_T29 l0 x3_1).f0) < ((rd_T29 l0 (ji7)).f0) then (some false) else (calxref08_book.l0 k1 l0 (wrap64 (x3_1 + 1)))) else (none)) else (none)) = some r:=by first|(rw [hji7] at H;exact H)|(simp only [hji7] at H ⊢;exact H)
       (try rw [hji7] at A4)
       have hji7_ : (if 0 < (wrap64 (x3_1 - 1)) then (wrap64 (x3_1 - 1)) else 0) = ji7:=hji7
       by_cases c8 : 0 ≤ (ji7)
       ·rw [if_pos c8] at H
        have c8b0 : decide (0 ≤ (ji7)) = true:=decide_eq_true c8
        clear c8
        by_cases c9 : (ji7) < (l0.length : Int)
        ·rw [if_pos c9] at H
         have c9b0 : decide ((ji7) < (l0.length : Int)) = true:=decide_eq_true c9
         clear c9
         by_cases c10 : ((rd_T29 l0 x3_1).f0) < ((rd_T29 l0 (ji7)).f0)
         ·rw [if_pos c10] at H
          have c10b0 : decide (((rd_T29 l0 x3_1).f0) < ((rd_T29 l0 (ji7)).f0)) = true:=decide_eq_true c10
          clear c10
          obtain rfl:=Option.some.inj H
          have p101 : 0 ≤ (x3_1 : Int):=of_decide_eq_true va
          have q101 : x3_1 < (l0.length : Int):=of_decide_eq_true va
          obtain ⟨ad101,e101,hx101_0,hx101_1,hx101_2,hx101_3⟩:=at_T29 HR0.out x3_1 p101 q101
          cases e101
          replace hx101_0:=(HB.out.cell (wb w _ hx101_0)).trans hx101_0
          replace hx101_1:=(HB.out.cell (wb w _ hx101_1)).trans hx101_1
          replace hx101_2:=(HB.out.cell (wb w _ hx101_2)).trans hx101_2
          replace hx101_3:=(HB.out.cell (wb w _ hx101_3)).trans hx101_3
          replace p101:=eq_true p101
          replace q101:=eq_true q101
          go_wp2_with (first|(go_at_call 101;(with_reducible refine (calxref08_Entry.calls ((rd_T29 l0 x3_1).f0) ((rd_T29 l0 x3_1).f1) ((rd_T29 l0 x3_1).f2) ((rd_T29 l0 x3_1).f3) true _ A4.out).mono ?_);rintro e w11 ⟨rfl,hb⟩;have n0_:=am (below_step (v0 HB.out) hb);clear HB;have HB:=n0_;clear n0_;(try clear hb);(try clear hb2);(try clear hk);(try clear hi);have p103 : 0 ≤ (x3_1 : Int):=of_decide_eq_true va;have q103 : x3_1 < (l0.length : Int):=of_decide_eq_true va;obtain ⟨ad103,e103,hx103_0,hx103_1,hx103_2,hx103_3⟩:=at_T29 HR0.out x3_1 p103 q103;obtain rfl : ad101 = ad103:=(by injection e103);replace hx103_0:=(HB.out.cell (wb w _ hx103_0)).trans hx103_0;replace hx103_1:=(HB.out.cell (wb w _ hx103_1)).trans hx103_1;replace hx103_2:=(HB.out.cell (wb w _ hx103_2)).trans hx103_2;replace hx103_3:=(HB.out.cell (wb w _ hx103_3)).trans hx103_3;replace p103:=eq_true p103;replace q103:=eq_true q103;have p104 : 0 ≤ ((ji7) : Int):=of_decide_eq_true va;have q104 : (ji7) < (l0.length : Int):=of_decide_eq_true va;obtain ⟨ad104,e104,hx104_0,hx104_1,hx104_2,hx104_3⟩:=at_T29 HR0.out (ji7) p104 q104;obtain rfl : ad101 = ad104:=(by injection e104);replace hx104_0:=(HB.out.cell (wb w _ hx104_0)).trans hx104_0;replace hx104_1:=(HB.out.cell (wb w _ hx104_1)).trans hx104_1;replace hx104_2:=(HB.out.cell (wb w _ hx104_2)).trans hx104_2;replace hx104_3:=(HB.out.cell (wb w _ hx104_3)).trans hx104_3;replace p104:=eq_true p104;replace q104:=eq_true q104))
          repeat (go_quiet (first|(go_at_call 101;(with_reducible refine (calxref08_Entry.calls ((rd_T29 l0 x3_1).f0) ((rd_T29 l0 x3_1).f1) ((rd_T29 l0 x3_1).f2) ((rd_T29 l0 x3_1).f3) true _ A4.out).mono ?_);rintro e w11 ⟨rfl,hb⟩;have n0_:=am (below_step (v0 HB.out) hb);clear HB;have HB:=n0_;clear n0_;(try clear hb);(try clear hb2);(try clear hk);(try clear hi);have p103 : 0 ≤ (x3_1 : Int):=of_decide_eq_true va;have q103 : x3_1 < (l0.length : Int):=of_decide_eq_true va;obtain ⟨ad103,e103,hx103_0,hx103_1,hx103_2,hx103_3⟩:=at_T29 HR0.out x3_1 p103 q103;obtain rfl : ad101 = ad103:=(by injection e103);replace hx103_0:=(HB.out.cell (wb w _ hx103_0)).trans hx103_0;replace hx103_1:=(HB.out.cell (wb w _ hx103_1)).trans hx103_1;replace hx103_2:=(HB.out.cell (wb w _ hx103_2)).trans hx103_2;replace hx103_3:=(HB.out.cell (wb w _ hx103_3)).trans hx103_3;replace p103:=eq_true p103;replace q103:=eq_true q103;have p104 : 0 ≤ ((ji7) : Int):=of_decide_eq_true va;have q104 : (ji7) < (l0.length : Int):=of_decide_eq_true va;obtain ⟨ad104,e104,hx104_0,hx104_1,hx104_2,hx104_3⟩:=at_T29 HR0.out (ji7) p104 q104;obtain rfl : ad101 = ad104:=(by injection e104);replace hx104_0:=(HB.out.cell (wb w _ hx104_0)).trans hx104_0;replace hx104_1:=(HB.out.cell (wb w _ hx104_1)).trans hx104_1;replace hx104_2:=(HB.out.cell (wb w _ hx104_2)).trans hx104_2;replace hx104_3:=(HB.out.cell (wb w _ hx104_3)).trans hx104_3;replace p104:=eq_true p104;replace q104:=eq_true q104));try go_wp2_with (first|(go_at_call 101;(with_reducible refine (calxref08_Entry.calls ((rd_T29 l0 x3_1).f0) ((rd_T29 l0 x3_1).f1) ((rd_T29 l0 x3_1).f2) ((rd_T29 l0 x3_1).f3) true _ A4.out).mono ?_);rintro e w11 ⟨rfl,hb⟩;have n0_:=am (below_step (v0 HB.out) hb);clear HB;have HB:=n0_;clear n0_;(try clear hb);(try clear hb2);(try clear hk);(try clear hi);have p103 : 0 ≤ (x3_1 : Int):=of_decide_eq_true va;have q103 : x3_1 < (l0.length : Int):=of_decide_eq_true va;obtain ⟨ad103,e103,hx103_0,hx103_1,hx103_2,hx103_3⟩:=at_T29 HR0.out x3_1 p103 q103;obtain rfl : ad101 = ad103:=(by injection e103);replace hx103_0:=(HB.out.cell (wb w _ hx103_0)).trans hx103_0;replace hx103_1:=(HB.out.cell (wb w _ hx103_1)).trans hx103_1;replace hx103_2:=(HB.out.cell (wb w _ hx103_2)).trans hx103_2;replace hx103_3:=(HB.out.cell (wb w _ hx103_3)).trans hx103_3;replace p103:=eq_true p103;replace q103:=eq_true q103;have p104 : 0 ≤ ((ji7) : Int):=of_decide_eq_true va;have q104 : (ji7) < (l0.length : Int):=of_decide_eq_true va;obtain ⟨ad104,e104,hx104_0,hx104_1,hx104_2,hx104_3⟩:=at_T29 HR0.out (ji7) p104 q104;obtain rfl : ad101 = ad104:=(by injection e104);replace hx104_0:=(HB.out.cell (wb w _ hx104_0)).trans hx104_0;replace hx104_1:=(HB.out.cell (wb w _ hx104_1)).trans hx104_1;replace hx104_2:=(HB.out.cell (wb w _ hx104_2)).trans hx104_2;replace hx104_3:=(HB.out.cell (wb w _ hx104_3)).trans hx104_3;replace p104:=eq_true p104;replace q104:=eq_true q104)))
          go_ret
          exact ⟨by first|rfl|(simp [errW_none,errW_some] <;> rfl)|(simp only [← hji7];first|rfl|(simp [errW_none,errW_some] <;> rfl))|(simp [*,errW_none,errW_some] <;> rfl),v0 HB.out⟩
         ·rw [if_neg c10] at H
          have c10b0 : decide (((rd_T29 l0 x3_1).f0) < ((rd_T29 l0 (ji7)).f0)) = false:=decide_eq_false c10
          clear c10
          have H':=am H
          clear H
          have p101 : 0 ≤ (x3_1 : Int):=of_decide_eq_true va
          have q101 : x3_1 < (l0.length : Int):=of_decide_eq_true va
          obtain ⟨ad101,e101,hx101_0,hx101_1,hx101_2,hx101_3⟩:=at_T29 HR0.out x3_1 p101 q101
          cases e101
          replace hx101_0:=(HB.out.cell (wb w _ hx101_0)).trans hx101_0
          replace hx101_1:=(HB.out.cell (wb w _ hx101_1)).trans hx101_1
          replace hx101_2:=(HB.out.cell (wb w _ hx101_2)).trans hx101_2
          replace hx101_3:=(HB.out.cell (wb w _ hx101_3)).trans hx101_3
          replace p101:=eq_true p101
          replace q101:=eq_true q101
          go_wp2_with (first|(go_at_call 101;(with_reducible refine (calxref08_Entry.calls ((rd_T29 l0 x3_1).f0) ((rd_T29 l0 x3_1).f1) ((rd_T29 l0 x3_1).f2) ((rd_T29 l0 x3_1).f3) true _ A4.out).mono ?_);rintro e w12 ⟨rfl,hb⟩;have n0_:=am (below_step (v0 HB.out) hb);clear HB;have HB:=n0_;clear n0_;(try clear hb);(try clear hb2);(try clear hk);(try clear hi);have p103 : 0 ≤ (x3_1 : Int):=of_decide_eq_true va;have q103 : x3_1 < (l0.length : Int):=of_decide_eq_true va;obtain ⟨ad103,e103,hx103_0,hx103_1,hx103_2,hx103_3⟩:=at_T29 HR0.out x3_1 p103 q103;obtain rfl : ad101 = ad103:=(by injection e103);replace hx103_0:=(HB.out.cell (wb w _ hx103_0)).trans hx103_0;replace hx103_1:=(HB.out.cell (wb w _ hx103_1)).trans hx103_1;replace hx103_2:=(HB.out.cell (wb w _ hx103_2)).trans hx103_2;replace hx103_3:=(HB.out.cell (wb w _ hx103_3)).trans hx103_3;replace p103:=eq_true p103;replace q103:=eq_true q103;have p104 : 0 ≤ ((ji7) : Int):=of_decide_eq_true va;have q104 : (ji7) < (l0.length : Int):=of_decide_eq_true va;obtain ⟨ad104,e104,hx104_0,hx104_1,hx104_2,hx104_3⟩:=at_T29 HR0.out (ji7) p104 q104;obtain rfl : ad101 = ad104:=(by injection e104);replace hx104_0:=(HB.out.cell (wb w _ hx104_0)).trans hx104_0;replace hx104_1:=(HB.out.cell (wb w _ hx104_1)).trans hx104_1;replace hx104_2:=(HB.out.cell (wb w _ hx104_2)).trans hx104_2;replace hx104_3:=(HB.out.cell (wb w _ hx104_3)).trans hx104_3;replace p104:=eq_true p104;replace q104:=eq_true q104))
          repeat (go_quiet (first|(go_at_call 101;(with_reducible refine (calxref08_Entry.calls ((rd_T29 l0 x3_1).f0) ((rd_T29 l0 x3_1).f1) ((rd_T29 l0 x3_1).f2) ((rd_T29 l0 x3_1).f3) true _ A4.out).mono ?_);rintro e w12 ⟨rfl,hb⟩;have n0_:=am (below_step (v0 HB.out) hb);clear HB;have HB:=n0_;clear n0_;(try clear hb);(try clear hb2);(try clear hk);(try clear hi);have p103 : 0 ≤ (x3_1 : Int):=of_decide_eq_true va;have q103 : x3_1 < (l0.length : Int):=of_decide_eq_true va;obtain ⟨ad103,e103,hx103_0,hx103_1,hx103_2,hx103_3⟩:=at_T29 HR0.out x3_1 p103 q103;obtain rfl : ad101 = ad103:=(by injection e103);replace hx103_0:=(HB.out.cell (wb w _ hx103_0)).trans hx103_0;replace hx103_1:=(HB.out.cell (wb w _ hx103_1)).trans hx103_1;replace hx103_2:=(HB.out.cell (wb w _ hx103_2)).trans hx103_2;replace hx103_3:=(HB.out.cell (wb w _ hx103_3)).trans hx103_3;replace p103:=eq_true p103;replace q103:=eq_true q103;have p104 : 0 ≤ ((ji7) : Int):=of_decide_eq_true va;have q104 : (ji7) < (l0.length : Int):=of_decide_eq_true va;obtain ⟨ad104,e104,hx104_0,hx104_1,hx104_2,hx104_3⟩:=at_T29 HR0.out (ji7) p104 q104;obtain rfl : ad101 = ad104:=(by injection e104);replace hx104_0:=(HB.out.cell (wb w _ hx104_0)).trans hx104_0;replace hx104_1:=(HB.out.cell (wb w _ hx104_1)).trans hx104_1;replace hx104_2:=(HB.out.cell (wb w _ hx104_2)).trans hx104_2;replace hx104_3:=(HB.out.cell (wb w _ hx104_3)).trans hx104_3;replace p104:=eq_true p104;replace q104:=eq_true q104));try go_wp2_with (first|(go_at_call 101;(with_reducible refine (calxref08_Entry.calls ((rd_T29 l0 x3_1).f0) ((rd_T29 l0 x3_1).f1) ((rd_T29 l0 x3_1).f2) ((rd_T29 l0 x3_1).f3) true _ A4.out).mono ?_);rintro e w12 ⟨rfl,hb⟩;have n0_:=am (below_step (v0 HB.out) hb);clear HB;have HB:=n0_;clear n0_;(try clear hb);(try clear hb2);(try clear hk);(try clear hi);have p103 : 0 ≤ (x3_1 : Int):=of_decide_eq_true va;have q103 : x3_1 < (l0.length : Int):=of_decide_eq_true va;obtain ⟨ad103,e103,hx103_0,hx103_1,hx103_2,hx103_3⟩:=at_T29 HR0.out x3_1 p103 q103;obtain rfl : ad101 = ad103:=(by injection e103);replace hx103_0:=(HB.out.cell (wb w _ hx103_0)).trans hx103_0;replace hx103_1:=(HB.out.cell (wb w _ hx103_1)).trans hx103_1;replace hx103_2:=(HB.out.cell (wb w _ hx103_2)).trans hx103_2;replace hx103_3:=(HB.out.cell (wb w _ hx103_3)).trans hx103_3;replace p103:=eq_true p103;replace q103:=eq_true q103;have p104 : 0 ≤ ((ji7) : Int):=of_decide_eq_true va;have q104 : (ji7) < (l0.length : Int):=of_decide_eq_true va;obtain ⟨ad104,e104,hx104_0,hx104_1,hx104_2,hx104_3⟩:=at_T29 HR0.out (ji7) p104 q104;obtain rfl : ad101 = ad104:=(by injection e104);replace hx104_0:=(HB.out.cell (wb w _ hx104_0)).trans hx104_0;replace hx104_1:=(HB.out.cell (wb w _ hx104_1)).trans hx104_1;replace hx104_2:=(HB.out.cell (wb w _ hx104_2)).trans hx104_2;replace hx104_3:=(HB.out.cell (wb w _ hx104_3)).trans hx104_3;replace p104:=eq_true p104;replace q104:=eq_true q104)))
          go_roundg k1
          case measure => have:=HK1.out;omega
          case rel => exact ⟨(wrap64 (x3_1 + 1)),ve,H',⟨by have:=HK1.out;omega⟩,⟨v0 HB.out⟩⟩
        ·rw [if_neg c9] at H
         exact absurd H (by simp)
       ·rw [if_neg c8] at H
        exact absurd H (by simp)
      ·rw [if_neg c6] at H
       have c6b0 : decide (0 < x3_1) = false:=decide_eq_false c6
       clear c6
       have H':=am H
       clear H
       have p101 : 0 ≤ (x3_1 : Int):=of_decide_eq_true va
       have q101 : x3_1 < (l0.length : Int):=of_decide_eq_true va
       obtain ⟨ad101,e101,hx101_0,hx101_1,hx101_2,hx101_3⟩:=at_T29 HR0.out x3_1 p101 q101
       cases e101
       replace hx101_0:=(HB.out.cell (wb w _ hx101_0)).trans hx101_0
       replace hx101_1:=(HB.out.cell (wb w _ hx101_1)).trans hx101_1
       replace hx101_2:=(HB.out.cell (wb w _ hx101_2)).trans hx101_2
       replace hx101_3:=(HB.out.cell (wb w _ hx101_3)).trans hx101_3
       replace p101:=eq_true p101
       replace q101:=eq_true q101
       go_wp2_with (first|(go_at_call 101;(with_reducible refine (calxref08_Entry.calls ((rd_T29 l0 x3_1).f0) ((rd_T29 l0 x3_1).f1) ((rd_T29 l0 x3_1).f2) ((rd_T29 l0 x3_1).f3) true _ A4.out).mono ?_);rintro e w13 ⟨rfl,hb⟩;have n0_:=am (below_step (v0 HB.out) hb);clear HB;have HB:=n0_;clear n0_;(try clear hb);(try clear hb2);(try clear hk);(try clear hi)))
       repeat (go_quiet (first|(go_at_call 101;(with_reducible refine (calxref08_Entry.calls ((rd_T29 l0 x3_1).f0) ((rd_T29 l0 x3_1).f1) ((rd_T29 l0 x3_1).f2) ((rd_T29 l0 x3_1).f3) true _ A4.out).mono ?_);rintro e w13 ⟨rfl,hb⟩;have n0_:=am (below_step (v0 HB.out) hb);clear HB;have HB:=n0_;clear n0_;(try clear hb);(try clear hb2);(try clear hk);(try clear hi)));try go_wp2_with (first|(go_at_call 101;(with_reducible refine (calxref08_Entry.calls ((rd_T29 l0 x3_1).f0) ((rd_T29 l0 x3_1).f1) ((rd_T29 l0 x3_1).f2) ((rd_T29 l0 x3_1).f3) true _ A4.out).mono ?_);rintro e w13 ⟨rfl,hb⟩;have n0_:=am (below_step (v0 HB.out) hb);clear HB;have HB:=n0_;clear n0_;(try clear hb);(try clear hb2);(try clear hk);(try clear hi))))
       go_roundg k1
       case measure => have:=HK1.out;omega
       case rel => exact ⟨(wrap64 (x3_1 + 1)),ve,H',⟨by have:=HK1.out;omega⟩,⟨v0 HB.out⟩⟩
     ·replace c5:=Bool.eq_false_iff.mpr c5
      subst c5
      have H1 : (some false) = some r:=by rw [if_neg (show ¬ (false = true) by decide)] at H;exact H
      clear H
      have H:=H1
      clear H1
      obtain rfl:=Option.some.inj H
      have p101 : 0 ≤ (x3_1 : Int):=of_decide_eq_true va
      have q101 : x3_1 < (l0.length : Int):=of_decide_eq_true va
      obtain ⟨ad101,e101,hx101_0,hx101_1,hx101_2,hx101_3⟩:=at_T29 HR0.out x3_1 p101 q101
      cases e101
      replace hx101_0:=(HB.out.cell (wb w _ hx101_0)).trans hx101_0
      replace hx101_1:=(HB.out.cell (wb w _ hx101_1)).trans hx101_1
      replace hx101_2:=(HB.out.cell (wb w _ hx101_2)).trans hx101_2
      replace hx101_3:=(HB.out.cell (wb w _ hx101_3)).trans hx101_3
      replace p101:=eq_true p101
      replace q101:=eq_true q101
      go_wp2_with (first|(go_at_call 101;(with_reducible refine (calxref08_Entry.calls ((rd_T29 l0 x3_1).f0) ((rd_T29 l0 x3_1).f1) ((rd_T29 l0 x3_1).f2) ((rd_T29 l0 x3_1).f3) false _ A4.out).mono ?_);rintro e w14 ⟨rfl,hb⟩;have n0_:=am (below_step (v0 HB.out) hb);clear HB;have HB:=n0_;clear n0_;(try clear hb);(try clear hb2);(try clear hk);(try clear hi)))
      repeat (go_quiet (first|(go_at_call 101;(with_reducible refine (calxref08_Entry.calls ((rd_T29 l0 x3_1).f0) ((rd_T29 l0 x3_1).f1) ((rd_T29 l0 x3_1).f2) ((rd_T29 l0 x3_1).f3) false _ A4.out).mono ?_);rintro e w14 ⟨rfl,hb⟩;have n0_:=am (below_step (v0 HB.out) hb);clear HB;have HB:=n0_;clear n0_;(try clear hb);(try clear hb2);(try clear hk);(try clear hi)));try go_wp2_with (first|(go_at_call 101;(with_reducible refine (calxref08_Entry.calls ((rd_T29 l0 x3_1).f0) ((rd_T29 l0 x3_1).f1) ((rd_T29 l0 x3_1).f2) ((rd_T29 l0 x3_1).f3) false _ A4.out).mono ?_);rintro e w14 ⟨rfl,hb⟩;have n0_:=am (below_step (v0 HB.out) hb);clear HB;have HB:=n0_;clear n0_;(try clear hb);(try clear hb2);(try clear hk);(try clear hi))))
      go_ret
      exact ⟨vf,v0 HB.out⟩
    ·rw [if_neg c3] at H
     exact absurd H (by simp)
   ·rw [if_neg c2] at H
    have c2b0 : decide (x3_1 < (l0.length : Int)) = false:=decide_eq_false c2
    clear c2
    obtain rfl:=Option.some.inj H
    go_wp2
    repeat (go_quiet (fail);try go_wp2)
    go_ret
    exact ⟨vf,v0 HB.out⟩
def calxref08_Check.f (k : Nat) (l0 : List (S29)) : Option (Int):=if (l0.length : Int) > 64 then (some 2) else ((calxref08_book.f k l0).bind fun t101 => (if t101 = true then (some 0) else (some 1)))
theorem calxref08_Check.mono : ∀ a0 k,LeO (calxref08_Check.f k a0) (calxref08_Check.f (k + 1) a0):=by
 intro a0 k
 unfold calxref08_Check.f
 repeat' first
  |(with_reducible exact calxref08_book.mono _ _)
  |(with_reducible exact LeO.refl _)
  |(with_reducible exact LeO.none _)
  |(with_reducible refine LeO.ite ?_ ?_)
  |(with_reducible refine LeO.bind ?_ (fun _ => ?_))
  |exact calxref08_book.mono _ _
  |exact LeO.none _
  |refine LeO.ite ?_ ?_
  |refine LeO.bind ?_ (fun _ => ?_)
set_option maxHeartbeats 8000000 in
set_option maxRecDepth 100000 in
theorem calxref08_Check.calls (k : Nat) (A0 : Option Addr) (c0 : Nat) (l0 : List (S29)) (r : Int) (w : World) (hr0 : Kd.C k29 w A0 l0.length l0) (hc0 : l0.length ≤ c0) (h : calxref08_Check.f k l0 = some r) :
  Calls Try.prog 43 #[.slice A0 l0.length c0] w fun e w' => e = .returned (.int .i64 r) ∧ Below w.heap.size w w':=by
 have HR0:=am hr0
 have HC0:=am hc0
 clear hr0 hc0
 have HB:=am (Below.refl w.heap.size w)
 have H : (if (l0.length : Int) > 64 then (some 2) else ((calxref08_book.f k l0).bind fun t101 => (if t101 = true then (some 0) else (some 1)))) = some r:=h
 clear h
 by_cases c2 : (l0.length : Int) > 64
 ·rw [if_pos c2] at H
  have c2b0 : decide (64 < (l0.length : Int)) = true:=decide_eq_true c2
  have c2b1 : decide (64 < l0.length) = true:=decide_eq_true (by omega)
  clear c2
  obtain rfl:=Option.some.inj H
  go_enter Try.func43,Try.ntmps43
  go_wp2
  go_ret
  exact ⟨vf,v0 HB.out⟩
 ·rw [if_neg c2] at H
  have c2b0 : decide (64 < (l0.length : Int)) = false:=decide_eq_false c2
  have c2b1 : decide (64 < l0.length) = false:=decide_eq_false (by omega)
  clear c2
  replace H:=Option.bind_eq_some_iff.mp H
  obtain ⟨t101,A30,H⟩:=H
  replace H : (if t101 = true then (some 0) else (some 1)) = some r:=H
  have A3:=am A30
  clear A30
  by_cases c4 : t101 = true
  ·subst c4
   have H1 : (some 0) = some r:=by rw [if_pos rfl] at H;exact H
   clear H
   have H:=H1
   clear H1
   obtain rfl:=Option.some.inj H
   go_enter Try.func43,Try.ntmps43
   go_wp2_with (first|((with_reducible refine gate_callee (f:=108) rfl ?_);refine goesL_ (some 8) rfl rfl Try.func108 kr rfl #[.slice A0 l0.length c0] rfl (by (try simp only [List.map_toArray,List.map_cons,List.map_nil]);first|done|rfl|(simp only [List.length_drop,List.length_take];rfl)) ?_;(with_reducible refine (calxref08_book.calls k _ _ l0 true _ ?side1 ?side2 A3.out).mono ?_);(case side1 => repeat (first|exact HR0.out|(with_reducible refine Kd.C_alloc ?_ _)|(with_reducible refine Kd.C_drewN ?_ _)|(with_reducible refine Kd.C_drew ?_)));(case side2 => exact HC0.out);rintro e w5 ⟨rfl,hb⟩;refine ⟨_,rfl,?_⟩;have n0_:=am (below_step (v0 HB.out) hb);clear HB;have HB:=n0_;clear n0_;(try clear hb);(try clear hb2);(try clear hk);(try clear hi)))
   go_ret
   exact ⟨vf,v0 HB.out⟩
  ·replace c4:=Bool.eq_false_iff.mpr c4
   subst c4
   have H1 : (some 1) = some r:=by rw [if_neg (show ¬ (false = true) by decide)] at H;exact H
   clear H
   have H:=H1
   clear H1
   obtain rfl:=Option.some.inj H
   go_enter Try.func43,Try.ntmps43
   go_wp2_with (first|((with_reducible refine gate_callee (f:=108) rfl ?_);refine goesL_ (some 8) rfl rfl Try.func108 kr rfl #[.slice A0 l0.length c0] rfl (by (try simp only [List.map_toArray,List.map_cons,List.map_nil]);first|done|rfl|(simp only [List.length_drop,List.length_take];rfl)) ?_;(with_reducible refine (calxref08_book.calls k _ _ l0 false _ ?side1 ?side2 A3.out).mono ?_);(case side1 => repeat (first|exact HR0.out|(with_reducible refine Kd.C_alloc ?_ _)|(with_reducible refine Kd.C_drewN ?_ _)|(with_reducible refine Kd.C_drew ?_)));(case side2 => exact HC0.out);rintro e w6 ⟨rfl,hb⟩;refine ⟨_,rfl,?_⟩;have n0_:=am (below_step (v0 HB.out) hb);clear HB;have HB:=n0_;clear n0_;(try clear hb);(try clear hb2);(try clear hk);(try clear hi)))
   go_ret
   exact ⟨vf,v0 HB.out⟩
theorem ref_entry (a b c d : Int) : calxref08_Entry.f a b c d = some (rightP ⟨a,b,c,d⟩):=by
 unfold calxref08_Entry.f rightP
 simp only [ref_within,Option.bind_some]
 by_cases h1 : 0 ≤ a ∧ a ≤ 682
 ·by_cases h2 : 0 ≤ b ∧ b ≤ 9
  ·by_cases h3 : 0 ≤ c ∧ c ≤ 1048576
   ·simp [h1,h2,h3]
   ·simp [h1,h2,h3]
  ·simp [h1,h2]
 ·simp [h1]
theorem ref_book_from (l : List S29) (h64 : l.length ≤ 64) (d : Nat) : ∀ (k i : Nat),i ≤ l.length → l.length - i = d → d < k → (∀ j,j < i → okAt l j = true) → calxref08_book.l0 k l (i : Int) = some (followsP l):=by
 induction d with
|zero =>
  intro k i h0 hd hk hall
  obtain ⟨k,rfl⟩ : ∃ m,k = m + 1:=⟨k - 1,by omega⟩
  have e : followsP l = true:=by
   unfold followsP
   rw [List.all_eq_true]
   intro j hj
   exact hall j (by have:=List.mem_range.1 hj;omega)
  simp only [calxref08_book.l0]
  rw [if_neg (by omega),e]
|succ d ih =>
  intro k i h0 hd hk hall
  obtain ⟨k,rfl⟩ : ∃ m,k = m + 1:=⟨k - 1,by omega⟩
  have hlt : i < l.length:=by omega
  have hrd : rd_T29 l (i : Int) = l.getD i z29:=rfl
  have hbad : okAt l i = false → followsP l = false:=by
   intro h
   unfold followsP
   rw [Bool.eq_false_iff]
   intro hc
   rw [List.all_eq_true] at hc
   rw [hc i (List.mem_range.2 hlt)] at h
   cases h
  have hgo : okAt l i = true → calxref08_book.l0 k l (wrap64 ((i : Int) + 1)) = some (followsP l):=by
   intro h
   rw [wrap_nat (by omega)]
   refine ih k (i + 1) (by omega) (by omega) (by omega) fun j hj => ?_
   by_cases hji : j = i
   ·subst hji;exact h
   ·exact hall j (by omega)
  simp only [calxref08_book.l0]
  rw [if_pos (by omega),if_pos (by omega),hrd,ref_entry]
  simp only [Option.bind_some]
  by_cases hr : rightP (l.getD i z29) = true
  ·rw [if_pos hr]
   by_cases hi : (i : Int) > 0
   ·have hw1 : wrap64 ((i : Int) - 1) = ((i - 1 : Nat) : Int):=by unfold wrap64;omega
    have hrd1 : rd_T29 l ((i - 1 : Nat) : Int) = l.getD (i - 1) z29:=rfl
    have hmx : mx 0 ((i - 1 : Nat) : Int) = ((i - 1 : Nat) : Int):=by unfold mx;split <;> omega
    rw [if_pos hi,hw1,hmx,if_pos (by omega),if_pos (by omega),hrd1]
    by_cases hd1 : (l.getD i z29).f0 < (l.getD (i - 1) z29).f0
    ·rw [if_pos hd1,hbad (by unfold okAt;simp only [hr,Bool.true_and,Bool.or_eq_false_iff,decide_eq_false_iff_not];omega)]
    ·rw [if_neg hd1]
     exact hgo (by unfold okAt;simp only [hr,Bool.true_and,Bool.or_eq_true,decide_eq_true_eq];omega)
   ·rw [if_neg hi]
    exact hgo (by unfold okAt;simp only [hr,Bool.true_and,Bool.or_eq_true,decide_eq_true_eq];omega)
  ·rw [if_neg hr,hbad (by unfold okAt;rw [Bool.eq_false_iff.2 hr];rfl)]
theorem ref_check (l : List S29) {k : Nat} (hk : 64 < k) : calxref08_Check.f k l = some (checkP l):=by
 unfold calxref08_Check.f checkP
 by_cases h : 64 < l.length
 ·rw [if_pos (by omega),if_pos h]
 ·rw [if_neg (by omega),if_neg h]
  unfold calxref08_book.f
  rw [show (0 : Int) = ((0 : Nat) : Int) from rfl,ref_book_from l (by omega) l.length k 0 (by omega) (by omega) (by omega) (fun j hj => absurd hj (by omega))]
  simp only [Option.bind_some]
  cases followsP l <;> rfl
theorem check_len {l : List S29} (h : checkP l = 0) : l.length ≤ 64:=by
 unfold checkP at h
 split at h
 ·cases h
 ·omega
theorem check_right {l : List S29} (h : checkP l = 0) {i : Nat} (hi : i < l.length) : rightP (l.getD i z29) = true ∧ (i = 0 ∨ (l.getD (i - 1) z29).f0 ≤ (l.getD i z29).f0):=by
 unfold checkP at h
 split at h
 ·cases h
 ·split at h
  ·rename_i h2
   unfold followsP at h2
   rw [List.all_eq_true] at h2
   have h3:=h2 i (List.mem_range.2 hi)
   unfold okAt at h3
   simpa using h3
  ·cases h
theorem eqA29 (d : Nat) (w : World) (x0 y0 : Int) (x1 y1 : Int) (x2 y2 : Int) (x3 y3 : Int) :
  (Op.equalIn (d + 2) 29 (.agg #[.int .i64 x0,.int .i64 x1,.int .i64 x2,.int .i64 x3]) (.agg #[.int .i64 y0,.int .i64 y1,.int .i64 y2,.int .i64 y3])).run Try.prog w = .ok (x0 == y0 && (x1 == y1 && (x2 == y2 && (x3 == y3)))) w:=by
 refine eqA_of Try.underlying29 kr ?_
 refine eqf_cons (by rfl) (by go_simp;rfl) (by go_simp;rfl) (by go_simp) ?_
 refine eqf_cons (by rfl) (by go_simp;rfl) (by go_simp;rfl) (by go_simp) ?_
 refine eqf_cons (by rfl) (by go_simp;rfl) (by go_simp;rfl) (by go_simp) ?_
 exact eqf_last (by rfl) (by go_simp;rfl) (by go_simp;rfl) (by go_simp)
def nums5 (a b c d : Int) : List Int:=[0,a,b,c,d]
theorem numbers_calls (a b c d : Int) (w : World) : Calls Try.prog 149 #[.agg #[.int .i64 a,.int .i64 b,.int .i64 c,.int .i64 d]] w fun e w' => e = .returned (.agg #[.int .i64 0,.int .i64 a,.int .i64 b,.int .i64 c,.int .i64 d]) ∧ ∃ o1 o2,w' = (w.alloc o1).alloc o2:=by
 go_enter Try.func149,Try.ntmps149
 go_wp2
 refine bodyPost_ret (v:=.agg #[.int .i64 0,.int .i64 a,.int .i64 b,.int .i64 c,.int .i64 d]) (by simp [results,Try.results149,go_sem]) rfl ⟨rfl,_,_,rfl⟩
theorem blk_new' (W : World) (o : Obj) (B : Nat) (h : B = W.heap.size) : (W.alloc o).heap[B]? = some o:=by subst h;exact blk_new W o
theorem C_intsBlock {W : World} {B : Nat} {T : TypeId} (xs : List Int) (h : W.heap[B]? = some (.cells (nums .i64 xs).toArray T (0,0))) (hm : xs.length ≤ 9223372036854775807) : Kd.C (Kd.int .i64) W (some ⟨B,0,none⟩) xs.length xs :=
 Kd.C_of_reads (d:=(0 : Int)) (h1:=fun _ => rfl) ⟨rfl,hm,fun _ => ⟨_,rfl,fun j hj => by
  rw [add_plain,blk_cell h]
  simp [nums,List.getD_eq_getElem?_getD,List.getElem?_eq_getElem hj]⟩⟩
def book_leaf.f (a b c d : Int) : Option Int:=some (dig (nums5 a b c d))
theorem book_leaf.calls (a0_0 a0_1 a0_2 a0_3 : Int) (r : Int) (w : World) (h : book_leaf.f a0_0 a0_1 a0_2 a0_3 = some r) :
  Calls Try.prog 100 #[.agg #[.int .i64 a0_0,.int .i64 a0_1,.int .i64 a0_2,.int .i64 a0_3]] w fun e w' => e = .returned (.int .i64 r) ∧ Below w.heap.size w w':=by
 obtain rfl:=Option.some.inj h
 clear h
 go_enter Try.func100,Try.ntmps100
 go_wp2_with (first
 |(go_at_call 149;refine (numbers_calls _ _ _ _ _).mono ?_;rintro e w' ⟨rfl,o1,o2,rfl⟩)
 |(go_at_call 96;refine (book_digest.calls _ _ (nums5 a0_0 a0_1 a0_2 a0_3) _ _ ?hr (Nat.le_refl _) rfl).mono ?_;(case hr => exact C_intsBlock (nums5 a0_0 a0_1 a0_2 a0_3) (blk_new' _ _ _ (by simp)) (by simp [nums5]));rintro e w' ⟨rfl,hd⟩;have HD:=am hd.below;clear hd))
 go_ret
 refine ⟨rfl,below_then (B:=w.heap.size) ?_ ?_ HD.out⟩
 ·exact ((((Below.refl _ _).alloc (Nat.le_refl _) _).alloc (by simp) _).alloc (by simp;omega) _).alloc (by simp;omega) _
 ·simp;omega
def book_none.f  : Option (Int):=(book_digest.f (([2] : List Int))).bind fun t104 => (some t104)
set_option maxHeartbeats 8000000 in
set_option maxRecDepth 100000 in
theorem book_none.calls  (r : Int) (w : World) (h : book_none.f  = some r) :
  Calls Try.prog 128 #[] w fun e w' => e = .returned (.int .i64 r) ∧ Below w.heap.size w w':=by
 have HB:=am (Below.refl w.heap.size w)
 have H : ((book_digest.f (([2] : List Int))).bind fun t104 => (some t104)) = some r:=h
 clear h
 obtain ⟨y101,hy101⟩ : ∃ y_ : List Int,y_ = (([2] : List Int)):=⟨_,rfl⟩
 replace H : ((book_digest.f y101).bind fun t104 => (some t104)) = some r:=by first|(rw [hy101];with_reducible exact H)|(have H2_:=(Option.bind_some _ _).symm.trans H;rw [hy101];with_reducible exact H2_)|(have H2_:=(Option.bind_some _ _).symm.trans H;with_reducible exact H2_)|with_reducible exact H|(rw [hy101];exact H)|exact H
 have Ny101:=am hy101
 clear hy101
 replace H:=Option.bind_eq_some_iff.mp H
 obtain ⟨t104,A10,H⟩:=H
 replace H : (some t104) = some r:=H
 have A1:=am A10
 clear A10
 obtain rfl:=Option.some.inj H
 go_enter Try.func128,Try.ntmps128
 go_wp2_with (first|((with_reducible refine gate_dst (N:=1) rfl ?_);refine Kd.R_lit (Kd.int .i64) _ 3 ?hg (N:=1) ?hd (xs:=([2] : List Int)) (inner:=[.int .i64 2]) (ok:=fun _ => True) (okp:=fun _ => True) ?hr ?hp (fun _ hk => hk) trivial (Below.refl _ _) (Nat.le_refl _) (by simp) ?_;(case hd => rfl);(case hg => rfl);(case hr => first|(go_simp;done)|(go_simp;rfl));(case hp => exact (Reps.one (show Kd.M (Kd.int .i64) _ _ _ 2 [.int .i64 2] from rfl) (Reps.none _ _)));intro v102 w2 ho3 hb hg_ hnew_;clear hg_ hnew_;(first|rw [← Ny101.out] at ho3|(simp only [Int.reduceToNat] at ho3;rw [← Ny101.out] at ho3));have n0_:=am (Kd.R_lower ho3 (below_size (v0 HB.out)));have n1_:=am (below_step (v0 HB.out) hb);clear HB;have HO103:=n0_;have HB:=n1_;clear n0_ n1_;clear hb ho3;obtain ⟨Ao4,co4,eo4⟩:=Kd.R_slice HO103.out;subst eo4)|((with_reducible refine gate_callee (f:=96) rfl ?_);refine goesL_ (some 2) rfl rfl Try.func96 kr rfl #[.slice Ao4 y101.length co4] rfl (by (try simp only [List.map_toArray,List.map_cons,List.map_nil]);first|done|rfl|(simp only [List.length_drop,List.length_take];rfl)) ?_;(with_reducible refine (book_digest.calls _ _ y101 t104 _ ?side1 ?side2 A1.out).mono ?_);(case side1 => repeat (first|exact (Kd.R_reads' HO103.out).2.2|(with_reducible refine Kd.C_alloc ?_ _)|(with_reducible refine Kd.C_drewN ?_ _)|(with_reducible refine Kd.C_drew ?_)));(case side2 => exact (Kd.R_reads' HO103.out).2.1);rintro e w' ⟨rfl,⟨nd,rfl⟩⟩;refine ⟨_,rfl,?_⟩))
 go_ret
 exact ⟨vf,v0 HB.out⟩
def book_half.l0 : Nat → Int → Int → Option (Int)
|0,_,_ => none
|k + 1,x0,x3 => if (wrap64 (2 * x3)) < x0 then (book_half.l0 k x0 (wrap64 (x3 * 2))) else (some x3)
def book_half.f (k : Nat) (a0 : Int) : Option (Int):=book_half.l0 k a0 1
set_option maxHeartbeats 8000000 in
set_option maxRecDepth 100000 in
theorem book_half.calls (k : Nat) (a0 : Int) (r : Int) (w : World) (h : book_half.f k a0 = some r) :
  Calls Try.prog 135 #[.int .i64 a0] w fun e w' => e = .returned (.int .i64 r) ∧ Drawn0 w w':=by
 have H : (book_half.l0 k a0 1) = some r:=h
 clear h
 have H':=am H
 clear H
 go_enter Try.func135,Try.ntmps135
 go_wp2
 go_loopg [3] k (fun kq v3 w' => ∃ (x3_1 : Int),v3 = .int .i64 x3_1 ∧ Aside0 (book_half.l0 kq a0 x3_1 = some r) ∧ Aside0 (kq ≤ k) ∧ Drawn0 w w')
 case atStart => exact ⟨(1),ve,H',⟨Nat.le_refl _⟩,by repeat (first|exact Drawn0.refl _|apply Drawn0.step)⟩
 case round =>
  clear H'
  try clear c1
  obtain ⟨x3_1,rfl,HA,HK1,⟨m1,rfl⟩⟩:=hrel
  cases gk with
 |zero => exact absurd HA.out (by simp [book_half.l0])
 |succ k1 =>
   have H:=HA.out
   clear HA
   simp only [book_half.l0] at H
   by_cases c2 : (wrap64 (2 * x3_1)) < a0
   ·rw [if_pos c2] at H
    have c2b0 : decide ((wrap64 (2 * x3_1)) < a0) = true:=decide_eq_true c2
    clear c2
    have H':=am H
    clear H
    go_wp2
    go_roundg k1
    case measure => have:=HK1.out;omega
    case rel => exact ⟨(wrap64 (x3_1 * 2)),ve,H',⟨by have:=HK1.out;omega⟩,by repeat (first|exact Drawn0.refl _|apply Drawn0.step)⟩
   ·rw [if_neg c2] at H
    have c2b0 : decide ((wrap64 (2 * x3_1)) < a0) = false:=decide_eq_false c2
    clear c2
    obtain rfl:=Option.some.inj H
    go_wp2
    go_ret
    exact ⟨ve,by repeat (first|exact Drawn0.refl _|apply Drawn0.step)⟩
def book_node.f (a0 : Int) (a1 : Int) (a2 : Int) : Option (Int):=(book_digest.f (([1,a0,a1,a2] : List Int))).bind fun t104 => (some t104)
set_option maxHeartbeats 8000000 in
set_option maxRecDepth 100000 in
theorem book_node.calls (a0 : Int) (a1 : Int) (a2 : Int) (r : Int) (w : World) (h : book_node.f a0 a1 a2 = some r) :
  Calls Try.prog 93 #[.int .i64 a0,.int .i64 a1,.int .i64 a2] w fun e w' => e = .returned (.int .i64 r) ∧ Below w.heap.size w w':=by
 have HB:=am (Below.refl w.heap.size w)
 have H : ((book_digest.f (([1,a0,a1,a2] : List Int))).bind fun t104 => (some t104)) = some r:=h
 clear h
 obtain ⟨y101,hy101⟩ : ∃ y_ : List Int,y_ = (([1,a0,a1,a2] : List Int)):=⟨_,rfl⟩
 replace H : ((book_digest.f y101).bind fun t104 => (some t104)) = some r:=by first|(rw [hy101];with_reducible exact H)|(have H2_:=(Option.bind_some _ _).symm.trans H;rw [hy101];with_reducible exact H2_)|(have H2_:=(Option.bind_some _ _).symm.trans H;with_reducible exact H2_)|with_reducible exact H|(rw [hy101];exact H)|exact H
 have Ny101:=am hy101
 clear hy101
 replace H:=Option.bind_eq_some_iff.mp H
 obtain ⟨t104,A40,H⟩:=H
 replace H : (some t104) = some r:=H
 have A4:=am A40
 clear A40
 obtain rfl:=Option.some.inj H
 go_enter Try.func93,Try.ntmps93
 go_wp2_with (first|((with_reducible refine gate_dst (N:=10) rfl ?_);refine Kd.R_lit (Kd.int .i64) _ 3 ?hg (N:=10) ?hd (xs:=([1,a0,a1,a2] : List Int)) (inner:=[.int .i64 1,.int .i64 a0,.int .i64 a1,.int .i64 a2]) (ok:=fun _ => True) (okp:=fun _ => True) ?hr ?hp (fun _ hk => hk) trivial (Below.refl _ _) (Nat.le_refl _) (by simp) ?_;(case hd => rfl);(case hg => rfl);(case hr => first|(go_simp;done)|(go_simp;rfl));(case hp => exact (Reps.one (show Kd.M (Kd.int .i64) _ _ _ 1 [.int .i64 1] from rfl) (Reps.one (show Kd.M (Kd.int .i64) _ _ _ a0 [.int .i64 a0] from rfl) (Reps.one (show Kd.M (Kd.int .i64) _ _ _ a1 [.int .i64 a1] from rfl) (Reps.one (show Kd.M (Kd.int .i64) _ _ _ a2 [.int .i64 a2] from rfl) (Reps.none _ _))))));intro v102 w5 ho6 hb hg_ hnew_;clear hg_ hnew_;(first|rw [← Ny101.out] at ho6|(simp only [Int.reduceToNat] at ho6;rw [← Ny101.out] at ho6));have n0_:=am (Kd.R_lower ho6 (below_size (v0 HB.out)));have n1_:=am (below_step (v0 HB.out) hb);clear HB;have HO103:=n0_;have HB:=n1_;clear n0_ n1_;clear hb ho6;obtain ⟨Ao7,co7,eo7⟩:=Kd.R_slice HO103.out;subst eo7)|((with_reducible refine gate_callee (f:=96) rfl ?_);refine goesL_ (some 11) rfl rfl Try.func96 kr rfl #[.slice Ao7 y101.length co7] rfl (by (try simp only [List.map_toArray,List.map_cons,List.map_nil]);first|done|rfl|(simp only [List.length_drop,List.length_take];rfl)) ?_;(with_reducible refine (book_digest.calls _ _ y101 t104 _ ?side1 ?side2 A4.out).mono ?_);(case side1 => repeat (first|exact (Kd.R_reads' HO103.out).2.2|(with_reducible refine Kd.C_alloc ?_ _)|(with_reducible refine Kd.C_drewN ?_ _)|(with_reducible refine Kd.C_drew ?_)));(case side2 => exact (Kd.R_reads' HO103.out).2.1);rintro e w' ⟨rfl,⟨nd,rfl⟩⟩;refine ⟨_,rfl,?_⟩))
 go_ret
 exact ⟨vf,v0 HB.out⟩
def R91_7.T : Bool × List (List Nat × List Nat):=(true,[([],[]),([0],[0]),([],[]),([],[]),([],[]),([2,3,4],[2,3,4]),([5],[5]),([],[]),([],[]),([7,8],[7,8]),([9,6],[9]),([1,6,10,10],[1,6,10]),([11,11,0,1,2,3,4,5,6,7,8,9,10,11],[11])])
def R91_7.B : List Nat:=[0,1,0,0,0,28,60,0,0,384,1020,2047,4095]
theorem R91_7.tab : rtab .any (opsOf Try.f91 7) = R91_7.T:=by kernel_rfl
theorem R91_7.bits : waitsOk R91_7.T.2 R91_7.B = true:=by kernel_rfl
def halfGo : Nat → Nat → Nat → Nat
|0,_,n => n
|f + 1,long,n => if 2 * n < long then halfGo f long (2 * n) else n
def halfP (long : Nat) : Nat:=halfGo 7 long 1
theorem halfP_bounds {n : Nat} (h2 : 2 ≤ n) (h : n ≤ 64) : 1 ≤ halfP n ∧ halfP n < n ∧ n ≤ 2 * halfP n:=by
 have : ∀ m : Fin 65,2 ≤ m.val → 1 ≤ halfP m.val ∧ halfP m.val < m.val ∧ m.val ≤ 2 * halfP m.val:=by decide +kernel
 exact this ⟨n,by omega⟩ h2
theorem book_half_some {n : Nat} (h : n ≤ 64) : book_half.f 10 (n : Int) = some (halfP n : Int):=by
 have : ∀ m : Fin 65,book_half.f 10 (m.val : Int) = some (halfP m.val : Int):=by decide +kernel
 exact this ⟨n,by omega⟩
def leafP (x : S29) : Int:=dig (nums5 x.f0 x.f1 x.f2 x.f3)
def rootF : Nat → List S29 → Int
|0,_ => dig [2]
|f + 1,l => if l.length = 0 then dig [2] else if l.length = 1 then leafP (l.getD 0 z29) else dig [1,(l.length : Int),rootF f (l.take (halfP l.length)),rootF f (l.drop (halfP l.length))]
def rootP (l : List S29) : Int:=rootF l.length l
theorem rootF_more : ∀ (f g : Nat) (l : List S29),l.length ≤ f → l.length ≤ g → l.length ≤ 64 → rootF f l = rootF g l
|0,g,l,h,_,_ => by
  have : l = []:=List.eq_nil_of_length_eq_zero (by omega)
  subst this
  cases g <;> simp [rootF]
|f + 1,0,l,_,h,_ => by
  have : l = []:=List.eq_nil_of_length_eq_zero (by omega)
  subst this
  simp [rootF]
|f + 1,g + 1,l,h1,h2,h3 => by
  unfold rootF
  split
  ·rfl
  ·split
   ·rfl
   ·have hb:=halfP_bounds (n:=l.length) (by omega) h3
    rw [rootF_more f g (l.take (halfP l.length)) (by rw [List.length_take];omega) (by rw [List.length_take];omega) (by rw [List.length_take];omega),
     rootF_more f g (l.drop (halfP l.length)) (by rw [List.length_drop];omega) (by rw [List.length_drop];omega) (by rw [List.length_drop];omega)]
theorem rootP_cut (l : List S29) (h2 : 2 ≤ l.length) (h : l.length ≤ 64) : rootP l = dig [1,(l.length : Int),rootP (l.take (halfP l.length)),rootP (l.drop (halfP l.length))]:=by
 have hb:=halfP_bounds h2 h
 obtain ⟨f,hf⟩ : ∃ f,l.length = f + 1:=⟨l.length - 1,by omega⟩
 conv => lhs;unfold rootP;rw [hf];unfold rootF;rw [if_neg (by omega),if_neg (by omega)]
 unfold rootP
 rw [rootF_more f (l.take (halfP l.length)).length _ (by rw [List.length_take];omega) (Nat.le_refl _) (by rw [List.length_take];omega),
  rootF_more f (l.drop (halfP l.length)).length _ (by rw [List.length_drop];omega) (Nat.le_refl _) (by rw [List.length_drop];omega)]
theorem cut_toM (t e : TypeId) {i : TypeInfo} (ht : Try.prog.underlying t = some (.slice e)) (hi : Try.prog.info? e = some i) (A : Option Addr) (n c : Nat) (j m : Nat) (hm : j ≤ n) (hc : n ≤ c) (hj : m = j) :
  ∀ W : World,(Instr.slice t (.slice A n c) none (some (.int .i64 (j : Int))) (some (.int .i64 (j : Int)))).run Try.prog W = .ok (.slice A m m) W:=by
 intro W
 subst hj
 have hel : Try.prog.elem t = e:=by simp [Program.elem,ht]
 have hu : Try.prog.underlying t = some (.slice (Try.prog.elem t)):=by rw [hel];exact ht
 have ha : (A.map fun x => x.add 0) = A:=by cases A <;> simp [Addr.add]
 rw [run_slice_hm W t A n c hu .i64 .i64 (m : Int) (m : Int) (by omega) (by omega) (by omega),hel]
 simp [sizeOf,typeInfo,hi,sliced,Result.andThen,ha]
set_option maxHeartbeats 2000000 in
set_option maxRecDepth 100000 in
theorem root_calls : ∀ (n : Nat) (l0 : List S29) (A0 : Option Addr) (c0 : Nat) (w : World),l0.length ≤ n → l0.length ≤ 64 → Kd.C k29 w A0 l0.length l0 → l0.length ≤ c0 →
  Calls Try.prog 91 #[.slice A0 l0.length c0] w fun e w' => e = .returned (.int .i64 (rootP l0)) ∧ Below w.heap.size w w':=by
 intro n
 induction n using Nat.strongRecOn with
|_ n ih =>
 intro l0 A0 c0 w hn h64 hr0 hc0
 have HR0:=am hr0
 have HC0:=am hc0
 have H64:=am h64
 clear hr0 hc0
 by_cases h0 : l0.length = 0
 ·obtain rfl : l0 = []:=List.eq_nil_of_length_eq_zero h0
  clear h0
  go_enter Try.func91,Try.ntmps91
  go_wp2_with (go_at_call 128;refine (book_none.calls _ _ rfl).mono ?_;rintro e w' ⟨rfl,hb⟩;have HB:=am hb;clear hb)
  go_ret
  exact ⟨rfl,HB.out⟩
 by_cases h1 : l0.length = 1
 ·obtain ⟨x,rfl⟩ : ∃ x,l0 = [x]:=by
   match l0,h1 with
  |[x],_ => exact ⟨x,rfl⟩
  clear h0 h1
  obtain ⟨ad,e,hx0,hx1,hx2,hx3⟩:=at_T29 HR0.out 0 (by omega) (by simp)
  cases e
  simp only [show rd_T29 [x] 0 = x from rfl,show ad.add (Int.toNat 0 * 4) = ad by simp [Addr.add]] at hx0 hx1 hx2 hx3
  go_enter Try.func91,Try.ntmps91
  go_wp2_with (go_at_call 100;refine (book_leaf.calls _ _ _ _ _ _ rfl).mono ?_;rintro e w' ⟨rfl,hb⟩;have HB:=am hb;clear hb)
  go_ret
  exact ⟨rfl,HB.out⟩
 ·have hb:=halfP_bounds (n:=l0.length) (by omega) h64
  have HF:=am (book_half_some h64)
  have HP:=am (rootP_cut l0 (by omega) h64)
  obtain ⟨i0,hi,_,hsz,_⟩:=info_parts info29
  have hcut2:=cut_from (P:=Try.prog) 32 29 .i64 Try.underlying32 hi 4 hsz A0 l0.length c0 (halfP l0.length : Int) (by omega) (by omega)
  have HR1:=am (Kd.C_take (m:=halfP l0.length) HR0.out (by omega))
  have HR2:=am (Kd.C_drop (m:=halfP l0.length) (c:=c0) HR0.out (by omega) HC0.out)
  have g0 : (l0.length == 0) = false:=by simpa using h0
  have g1 : (l0.length == 1) = false:=by simpa using h1
  have g2 : ((l0.length : Int) == 0) = false:=by simpa using h0
  have g3 : ((l0.length : Int) == 1) = false:=by simp;omega
  clear h0 h1
  obtain ⟨y1,hy1⟩ : ∃ y1,y1 = l0.take (halfP l0.length):=⟨_,rfl⟩
  obtain ⟨y2,hy2⟩ : ∃ y2,y2 = l0.drop (halfP l0.length):=⟨_,rfl⟩
  obtain ⟨A2,hA2⟩ : ∃ A2,A2 = (if c0 = (halfP l0.length : Int).toNat then A0 else (A0 : Option Addr).map (·.add ((halfP l0.length : Int).toNat * 4))):=⟨_,rfl⟩
  obtain ⟨c2,hc2⟩ : ∃ c2,c2 = c0 - (halfP l0.length : Int).toNat:=⟨_,rfl⟩
  have e1 : y1.length = halfP l0.length:=by rw [hy1,List.length_take];omega
  have e2 : y2.length = l0.length - (halfP l0.length : Int).toNat:=by rw [hy2,List.length_drop];omega
  have e2' : y2.length = l0.length - halfP l0.length:=by rw [hy2,List.length_drop]
  have HC2:=am (show y2.length ≤ c2 by have:=HC0.out;omega)
  have HC1:=am (show y1.length ≤ halfP l0.length by omega)
  have hcut1:=cut_toM 32 29 Try.underlying32 hi A0 l0.length c0 (halfP l0.length) y1.length (by omega) HC0.out e1
  clear hi hsz
  rw [← hA2,← hc2,← e2] at hcut2
  have hr1:=HR1.out
  have hr2:=HR2.out
  rw [← hy1] at hr1
  rw [← hy2,show (if c0 = halfP l0.length then A0 else Option.map (fun x => x.add (halfP l0.length * k29.sz)) A0) = A2 from hA2.symm ▸ rfl] at hr2
  clear HR1 HR2
  have HR1:=am hr1
  have HR2:=am hr2
  clear hr1 hr2 hA2 hc2
  have HY:=am (show rootP l0 = dig [1,(l0.length : Int),rootP y1,rootP y2] by rw [hy1,hy2];exact HP.out)
  have E1:=am e1
  have E2:=am e2'
  clear hy1 hy2 e1 e2 e2'
  go_enter Try.func91,Try.ntmps91
  go_wp2_with (go_at_call 135;refine (book_half.calls 10 _ _ _ HF.out).mono ?_;rintro e w' ⟨rfl,nq,rfl⟩)
  have HR1':=am (Kd.C_drew (Kd.C_drewN HR1.out nq))
  have HR2':=am (Kd.C_drew (Kd.C_drewN HR2.out nq))
  have HB:=am (below_drew1 (pw_below_drewN (Below.refl w.heap.size w) nq))
  refine start_ (n:=13) (S:=fun w' => True) (ds:=[]) #[false,false,false,false,false,false,false,false,false,false,false,false,false] kr rfl rfl trivial (fun hHeld => ?_);refine with_tabW R91_7.tab R91_7.bits (fun HT_ HW_ => ?_)
  generalize (w.drewN nq).drew = wd at HR1' HR2' HB hHeld ⊢
  refine pure_ (i:=0) (N:=(some 18)) (v:=?_) (a':=?_) #[true,false,false,false,false,false,false,false,false,false,false,false,false] rfl rfl (any_of HT_.out kr) (fun _ _ _ h => h) (Or.inl ⟨by rfl,?_⟩) ?_ ?_
  rotate_left
  ·intro w'
   go_simp
   with_reducible rfl
  rotate_left
  ·exact vs
  refine pure_ (i:=1) (N:=(some 19)) (v:=?_) (a':=?_) #[true,true,false,false,false,false,false,false,false,false,false,false,false] rfl rfl (any_of HT_.out kr) (fun _ _ _ h => h) (Or.inl ⟨by rfl,?_⟩) ?_ ?_
  rotate_left
  ·intro w'
   go_simp
   with_reducible rfl
  rotate_left
  ·exact vs
  refine pure_ (i:=2) (N:=(some 20)) (v:=?_) (a':=?_) #[true,true,true,false,false,false,false,false,false,false,false,false,false] rfl rfl (any_of HT_.out kr) (fun _ _ _ h => h) (Or.inl ⟨by rfl,?_⟩) ?_ ?_
  rotate_left
  ·intro w'
   go_simp
   with_reducible rfl
  rotate_left
  ·exact vs
  refine pure_ (i:=3) (N:=(some 21)) (v:=?_) (a':=?_) #[true,true,true,true,false,false,false,false,false,false,false,false,false] rfl rfl (any_of HT_.out kr) (fun _ _ _ h => h) (Or.inl ⟨by rfl,?_⟩) ?_ ?_
  rotate_left
  ·intro w'
   go_simp
   with_reducible rfl
  rotate_left
  ·exact vs
  refine pure_ (i:=4) (N:=(some 22)) (v:=?_) (a':=?_) #[true,true,true,true,true,false,false,false,false,false,false,false,false] rfl rfl (any_of HT_.out kr) (fun _ _ _ h => h) (Or.inl ⟨by rfl,?_⟩) ?_ ?_
  rotate_left
  ·intro w'
   go_simp
   with_reducible rfl
  rotate_left
  ·exact vs
  refine pure_ (i:=5) (N:=(some 23)) (v:=?_) (a':=?_) #[true,true,true,true,true,true,false,false,false,false,false,false,false] rfl rfl (any_of HT_.out kr) (fun _ _ _ h => h) (Or.inl ⟨by rfl,?_⟩) ?_ ?_
  rotate_left
  ·intro w'
   go_simp
   with_reducible rfl
  rotate_left
  ·exact vs
  refine pure_ (i:=7) (N:=(some 25)) (v:=?_) (a':=?_) #[true,true,true,true,true,true,false,true,false,false,false,false,false] rfl rfl (any_of HT_.out kr) (fun _ _ _ h => h) (Or.inl ⟨by rfl,?_⟩) ?_ ?_
  rotate_left
  ·intro w'
   go_simp
   with_reducible rfl
  rotate_left
  ·exact vs
  refine pure_ (i:=8) (N:=(some 26)) (v:=?_) (a':=?_) #[true,true,true,true,true,true,false,true,true,false,false,false,false] rfl rfl (any_of HT_.out kr) (fun _ _ _ h => h) (Or.inl ⟨by rfl,?_⟩) ?_ ?_
  rotate_left
  ·intro w'
   go_simp
   with_reducible rfl
  rotate_left
  ·exact vs
  refine pure_ (i:=9) (N:=(some 27)) (v:=?_) (a':=?_) #[true,true,true,true,true,true,false,true,true,true,false,false,false] rfl rfl (any_of HT_.out kr) (fun _ _ _ h => h) (Or.inl ⟨by rfl,?_⟩) ?_ ?_
  rotate_left
  ·intro w'
   go_simp
   with_reducible rfl
  rotate_left
  ·exact vs
  refine one_ (i:=6) (N:=(some 24)) #[true,true,true,true,true,true,true,true,true,true,false,false,false] rfl rfl (one_of HT_.out kr) (by decide) (fun K hK => ?_)
  refine goes_ Try.func91 kr rfl #[.slice A0 y1.length y1.length] (by rfl) rfl rfl (by (try simp only [List.map_toArray,List.map_cons,List.map_nil]);first|done|rfl|(simp only [List.length_drop,List.length_take];rfl)) ?_
  refine (ih (halfP l0.length) (by have:=hb;omega) y1 _ _ _ (by have:=E1.out;omega) (by have:=E1.out;omega) ?c3 (Nat.le_refl _)).mono ?_
  (case c3 => exact HR1'.out)
  rintro e w1 ⟨rfl,hb1⟩
  have HR2'':=am (Kd.C_below HR2'.out hb1)
  have HB1:=am (below_then HB.out (below_size HB.out) hb1)
  clear hb1
  refine ⟨_,rfl,?_⟩
  refine hK.out _ _ trivial (fun hHeld => ?_)
  clear hK K
  refine norm_ (a':=?_) ?_ ?_
  rotate_left
  ·show Act.put _ (some 24) _ = _
   simp only [Act.put,List.setIfInBounds_toArray,List.set_cons_zero,List.set_cons_succ,i64_w,i32_w]
   rfl
  refine one_ (i:=10) (N:=(some 28)) #[true,true,true,true,true,true,true,true,true,true,true,false,false] rfl rfl (one_of HT_.out kr) (by decide) (fun K hK => ?_)
  refine goes_ Try.func91 kr rfl #[.slice A2 y2.length c2] (by rfl) rfl rfl (by (try simp only [List.map_toArray,List.map_cons,List.map_nil]);first|done|rfl|(simp only [List.length_drop,List.length_take];rfl)) ?_
  refine (ih (l0.length - halfP l0.length) (by have:=hb;omega) y2 _ _ _ (by have:=E2.out;omega) (by have:=E2.out;omega) ?c3 HC2.out).mono ?_
  (case c3 => exact HR2''.out)
  rintro e w2 ⟨rfl,hb2⟩
  have HB2:=am (below_then HB1.out (below_size HB1.out) hb2)
  clear hb2
  refine ⟨_,rfl,?_⟩
  refine hK.out _ _ trivial (fun hHeld => ?_)
  clear hK K
  refine norm_ (a':=?_) ?_ ?_
  rotate_left
  ·show Act.put _ (some 28) _ = _
   simp only [Act.put,List.setIfInBounds_toArray,List.set_cons_zero,List.set_cons_succ,i64_w,i32_w]
   rfl
  refine one_ (i:=11) (N:=(some 29)) #[true,true,true,true,true,true,true,true,true,true,true,true,false] rfl rfl (one_of HT_.out kr) (by decide) (fun K hK => ?_)
  refine goes_ Try.func93 kr rfl #[.int .i64 (l0.length : Int),.int .i64 (rootP y1),.int .i64 (rootP y2)] (by rfl) rfl rfl (by (try simp only [List.map_toArray,List.map_cons,List.map_nil]);first|done|rfl|(simp only [List.length_drop,List.length_take];rfl)) ?_
  refine (book_node.calls _ _ _ _ _ rfl).mono ?_
  rintro e w3 ⟨rfl,hb3⟩
  have HB3:=am (below_then HB2.out (below_size HB2.out) hb3)
  clear hb3
  refine ⟨_,rfl,?_⟩
  refine hK.out _ _ trivial (fun hHeld => ?_)
  clear hK K
  refine norm_ (a':=?_) ?_ ?_
  rotate_left
  ·show Act.put _ (some 29) _ = _
   simp only [Act.put,List.setIfInBounds_toArray,List.set_cons_zero,List.set_cons_succ,i64_w,i32_w]
   rfl
  refine pure_ (i:=12) (N:=(some 2)) (v:=?_) (a':=?_) #[true,true,true,true,true,true,true,true,true,true,true,true,true] rfl rfl (any_of HT_.out kr) (fun _ _ _ h => h) (Or.inl ⟨by rfl,?_⟩) ?_ ?_
  rotate_left
  ·intro w'
   go_simp
   with_reducible rfl
  rotate_left
  ·exact vs
  refine done_ (done_of HT_.out kr) ?_
  go_wp2
  go_ret
  exact ⟨by rw [HY.out];rfl,HB3.out⟩
def book_root.f (l0 : List S29) : Option Int:=if l0.length ≤ 64 then some (rootP l0) else none
theorem book_root.calls (A0 : Option Addr) (c0 : Nat) (l0 : List S29) (r : Int) (w : World) (hr0 : Kd.C k29 w A0 l0.length l0) (hc0 : l0.length ≤ c0) (h : book_root.f l0 = some r) :
  Calls Try.prog 91 #[.slice A0 l0.length c0] w fun e w' => e = .returned (.int .i64 r) ∧ Below w.heap.size w w':=by
 unfold book_root.f at h
 split at h
 ·obtain rfl:=Option.some.inj h
  exact root_calls _ l0 A0 c0 w (Nat.le_refl _) (by assumption) hr0 hc0
 ·cases h
def R155_1.T : Bool × List (List Nat × List Nat):=(true,[([],[]),([0],[0]),([],[]),([2],[2]),([],[]),([],[]),([5],[5]),([],[]),([7],[7]),([],[]),([9],[9]),([8,10],[8,10]),([],[]),([12],[12]),([],[]),([14],[14]),([13,15],[13,15]),([4,6,11,16],[4,6,11,16]),([17],[17]),([1,3,18],[1,3,18]),([19,18,0,1,2,3,4,5,6,7,8,9,10,11,12,13,14,15,16,17,18,19],[19])])
def R155_1.B : List Nat:=[0,1,0,4,0,0,32,0,128,0,512,1920,0,4096,0,16384,61440,131056,262128,524287,1048575]
theorem R155_1.tab : rtab .any (opsOf Try.f155 1) = R155_1.T:=by kernel_rfl
theorem R155_1.bits : waitsOk R155_1.T.2 R155_1.B = true:=by kernel_rfl
def cutP (l : List S29) (from_ long : Int) : List S29:=(l.take (from_ + long).toNat).drop from_.toNat
theorem cut_midM (t e : TypeId) {i : TypeInfo} (ht : Try.prog.underlying t = some (.slice e)) (hi : Try.prog.info? e = some i) (size : Nat) (hsz : i.size = size) (A : Option Addr) (n c : Nat) (lo hi' : Int) (h0 : 0 ≤ lo) (h1 : lo ≤ hi') (h2 : hi' ≤ n) (hc : n ≤ c) :
  ∀ W : World,(Instr.slice t (.slice A n c) (some (.int .i64 lo)) (some (.int .i64 hi')) (some (.int .i64 hi'))).run Try.prog W = .ok (.slice (if hi'.toNat = lo.toNat then A else A.map (·.add (lo.toNat * size))) (hi'.toNat - lo.toNat) (hi'.toNat - lo.toNat)) W:=by
 intro W
 have hel : Try.prog.elem t = e:=by simp [Program.elem,ht]
 have hu : Try.prog.underlying t = some (.slice (Try.prog.elem t)):=by rw [hel];exact ht
 rw [run_slice_lhm W t A n c hu .i64 .i64 .i64 lo hi' hi' h0 h1 (by omega) (by omega),hel]
 simp [sizeOf,typeInfo,hi,hsz,sliced,Result.andThen]
theorem C_cutM {w : World} {A : Option Addr} {c : Nat} {l : List S29} (h : Kd.C k29 w A l.length l) (hc : l.length ≤ c) (f g : Int) (h0 : 0 ≤ f) (h1 : 0 ≤ g) (h2 : f + g ≤ l.length) :
  Kd.C k29 w (if (f + g).toNat = f.toNat then A else A.map (·.add (f.toNat * 4))) (cutP l f g).length (cutP l f g):=by
 have hm:=Kd.C_mid (lo:=f.toNat) (hi:=(f + g).toNat) (c:=c) h (by omega) (by omega) hc
 by_cases he : (f + g).toNat = f.toNat
 ·have : cutP l f g = []:=by unfold cutP;rw [he];simp
  rw [this]
  exact ⟨rfl,by simp,fun h => absurd h (Nat.lt_irrefl 0)⟩
 ·rw [if_neg he]
  rw [if_neg (by omega)] at hm
  exact hm
theorem cutP_length (l : List S29) (f g : Int) (h0 : 0 ≤ f) (h1 : 0 ≤ g) (h2 : f + g ≤ l.length) : (cutP l f g).length = (f + g).toNat - f.toNat:=by unfold cutP;simp;omega
def book_twig.f (l0 : List S29) (f g : Int) : Option (Int × Int × Int):=if 0 ≤ f ∧ 0 ≤ g ∧ f + g ≤ l0.length ∧ l0.length ≤ 64 then some (f,g,rootP (cutP l0 f g)) else none
set_option maxRecDepth 100000 in
set_option maxHeartbeats 2000000 in
theorem book_twig.calls (A0 : Option Addr) (c0 : Nat) (l0 : List S29) (a1_0 a1_1 : Int) (r1 r2 r3 : Int) (w : World) (hr0 : Kd.C k29 w A0 l0.length l0) (hc0 : l0.length ≤ c0) (h : book_twig.f l0 a1_0 a1_1 = some (r1,r2,r3)) :
  Calls Try.prog 155 #[.slice A0 l0.length c0,.agg #[.int .i64 a1_0,.int .i64 a1_1]] w fun e w' => e = .returned (.agg #[.int .i64 r1,.int .i64 r2,.int .i64 r3]) ∧ Below w.heap.size w w':=by
 unfold book_twig.f at h
 split at h
 case isFalse => cases h
 case isTrue hb =>
 obtain ⟨h0,h1,h2,h3⟩:=hb
 simp only [Option.some.injEq,Prod.mk.injEq] at h
 obtain ⟨rfl,rfl,rfl⟩:=h
 obtain ⟨i0,hi,_,hsz,_⟩:=info_parts info29
 have hcut:=cut_midM 32 29 Try.underlying32 hi 4 hsz A0 l0.length c0 a1_0 (a1_0 + a1_1) h0 (by omega) (by omega) hc0
 have hr:=C_cutM hr0 hc0 a1_0 a1_1 h0 h1 h2
 have hl:=cutP_length l0 a1_0 a1_1 h0 h1 h2
 obtain ⟨y,hy⟩ : ∃ y,y = cutP l0 a1_0 a1_1:=⟨_,rfl⟩
 obtain ⟨A1,hA⟩ : ∃ A1,A1 = (if (a1_0 + a1_1).toNat = a1_0.toNat then A0 else A0.map (·.add (a1_0.toNat * 4))):=⟨_,rfl⟩
 rw [← hy] at hr hl ⊢
 rw [← hA] at hr hcut
 rw [← hl] at hcut
 have HR:=am hr
 have HL:=am (show y.length ≤ 64 by omega)
 have hu164:=Try.underlying164
 have hu129:=Try.underlying129
 have b1 : a1_0 ≤ 64:=by omega
 have b2 : a1_1 ≤ 64:=by omega
 clear hr hl hA hy hi hsz hr0 hc0 h2 h3
 go_enter Try.func155,Try.ntmps155
 go_wp2
 have hw1 : wrap64 (a1_0 + a1_1) = a1_0 + a1_1:=by unfold wrap64;omega
 have hw2 : IntKind.i64.wrap (a1_0 + a1_1) = a1_0 + a1_1:=by rw [IntKind.wrap_i64];omega
 have HR':=am (Kd.C_drew (Kd.C_alloc (Kd.C_alloc HR.out (.cells #[.int .i64 a1_0,.int .i64 a1_1] 164)) (.cells #[.int .i64 0,.int .i64 0,.int .i64 0] 129)))
 have BKa:=am (blk_drew (blk_alloc (blk_new' w (.cells #[.int .i64 a1_0,.int .i64 a1_1] 164) w.heap.size rfl) (.cells #[.int .i64 0,.int .i64 0,.int .i64 0] 129)))
 have BKb:=am (blk_drew (blk_new' (w.alloc (.cells #[.int .i64 a1_0,.int .i64 a1_1] 164)) (.cells #[.int .i64 0,.int .i64 0,.int .i64 0] 129) (w.heap.size + 1) (by simp)))
 have HB:=am (below_drew1 (((Below.refl w.heap.size w).alloc (Nat.le_refl _) (.cells #[.int .i64 a1_0,.int .i64 a1_1] 164)).alloc (by simp) (.cells #[.int .i64 0,.int .i64 0,.int .i64 0] 129)))
 refine start_ (n:=21) (S:=fun w' => w'.cell? ⟨w.heap.size,0,none⟩ = some (.int .i64 a1_0) ∧ w'.cell? ⟨w.heap.size,1,none⟩ = some (.int .i64 a1_1)) (ds:=[]) #[false,false,false,false,false,false,false,false,false,false,false,false,false,false,false,false,false,false,false,false,false] kr rfl rfl ⟨(blk_cell BKa.out 0).trans rfl,(blk_cell BKa.out 1).trans rfl⟩ (fun hHeld => ?_);refine with_tabW R155_1.tab R155_1.bits (fun HT_ HW_ => ?_)
 generalize (((w.alloc (.cells #[.int .i64 a1_0,.int .i64 a1_1] 164)).alloc (.cells #[.int .i64 0,.int .i64 0,.int .i64 0] 129))).drew = wd at HR' BKa BKb HB hHeld ⊢
 refine pure_ (i:=0) (N:=(some 5)) (v:=?_) (a':=?_) #[true,false,false,false,false,false,false,false,false,false,false,false,false,false,false,false,false,false,false,false,false] rfl rfl (any_of HT_.out kr) (fun _ _ _ h => h) (Or.inl ⟨by rfl,?_⟩) ?_ ?_
 rotate_left
 ·intro w'
  go_simp
  with_reducible rfl
 rotate_left
 ·exact vs
 refine take_ (i:=1) (N:=(some 6)) (v:=?_) (a':=?_) #[true,true,false,false,false,false,false,false,false,false,false,false,false,false,false,false,false,false,false,false,false] rfl rfl (take_ofW HT_.out HW_.out kr) (fun _ _ _ h => h) (Or.inl ⟨by rfl,?_⟩) hHeld ?_ ?_
 rotate_left
 ·rintro w' ⟨s0,s1⟩
  go_simp
  with_reducible rfl
 rotate_left
 ·exact vs
 refine pure_ (i:=2) (N:=(some 7)) (v:=?_) (a':=?_) #[true,true,true,false,false,false,false,false,false,false,false,false,false,false,false,false,false,false,false,false,false] rfl rfl (any_of HT_.out kr) (fun _ _ _ h => h) (Or.inl ⟨by rfl,?_⟩) ?_ ?_
 rotate_left
 ·intro w'
  go_simp
  with_reducible rfl
 rotate_left
 ·exact vs
 refine take_ (i:=3) (N:=(some 8)) (v:=?_) (a':=?_) #[true,true,true,true,false,false,false,false,false,false,false,false,false,false,false,false,false,false,false,false,false] rfl rfl (take_ofW HT_.out HW_.out kr) (fun _ _ _ h => h) (Or.inl ⟨by rfl,?_⟩) hHeld ?_ ?_
 rotate_left
 ·rintro w' ⟨s0,s1⟩
  go_simp
  with_reducible rfl
 rotate_left
 ·exact vs
 refine pure_ (i:=4) (N:=(some 9)) (v:=?_) (a':=?_) #[true,true,true,true,true,false,false,false,false,false,false,false,false,false,false,false,false,false,false,false,false] rfl rfl (any_of HT_.out kr) (fun _ _ _ h => h) (Or.inl ⟨by rfl,?_⟩) ?_ ?_
 rotate_left
 ·intro w'
  go_simp
  with_reducible rfl
 rotate_left
 ·exact vs
 refine pure_ (i:=5) (N:=(some 10)) (v:=?_) (a':=?_) #[true,true,true,true,true,true,false,false,false,false,false,false,false,false,false,false,false,false,false,false,false] rfl rfl (any_of HT_.out kr) (fun _ _ _ h => h) (Or.inl ⟨by rfl,?_⟩) ?_ ?_
 rotate_left
 ·intro w'
  go_simp
  with_reducible rfl
 rotate_left
 ·exact vs
 refine take_ (i:=6) (N:=(some 11)) (v:=?_) (a':=?_) #[true,true,true,true,true,true,true,false,false,false,false,false,false,false,false,false,false,false,false,false,false] rfl rfl (take_ofW HT_.out HW_.out kr) (fun _ _ _ h => h) (Or.inl ⟨by rfl,?_⟩) hHeld ?_ ?_
 rotate_left
 ·rintro w' ⟨s0,s1⟩
  go_simp
  with_reducible rfl
 rotate_left
 ·exact vs
 refine pure_ (i:=7) (N:=(some 12)) (v:=?_) (a':=?_) #[true,true,true,true,true,true,true,true,false,false,false,false,false,false,false,false,false,false,false,false,false] rfl rfl (any_of HT_.out kr) (fun _ _ _ h => h) (Or.inl ⟨by rfl,?_⟩) ?_ ?_
 rotate_left
 ·intro w'
  go_simp
  with_reducible rfl
 rotate_left
 ·exact vs
 refine take_ (i:=8) (N:=(some 13)) (v:=?_) (a':=?_) #[true,true,true,true,true,true,true,true,true,false,false,false,false,false,false,false,false,false,false,false,false] rfl rfl (take_ofW HT_.out HW_.out kr) (fun _ _ _ h => h) (Or.inl ⟨by rfl,?_⟩) hHeld ?_ ?_
 rotate_left
 ·rintro w' ⟨s0,s1⟩
  go_simp
  with_reducible rfl
 rotate_left
 ·exact vs
 refine pure_ (i:=9) (N:=(some 14)) (v:=?_) (a':=?_) #[true,true,true,true,true,true,true,true,true,true,false,false,false,false,false,false,false,false,false,false,false] rfl rfl (any_of HT_.out kr) (fun _ _ _ h => h) (Or.inl ⟨by rfl,?_⟩) ?_ ?_
 rotate_left
 ·intro w'
  go_simp
  with_reducible rfl
 rotate_left
 ·exact vs
 refine take_ (i:=10) (N:=(some 15)) (v:=?_) (a':=?_) #[true,true,true,true,true,true,true,true,true,true,true,false,false,false,false,false,false,false,false,false,false] rfl rfl (take_ofW HT_.out HW_.out kr) (fun _ _ _ h => h) (Or.inl ⟨by rfl,?_⟩) hHeld ?_ ?_
 rotate_left
 ·rintro w' ⟨s0,s1⟩
  go_simp
  with_reducible rfl
 rotate_left
 ·exact vs
 refine pure_ (i:=11) (N:=(some 16)) (v:=?_) (a':=?_) #[true,true,true,true,true,true,true,true,true,true,true,true,false,false,false,false,false,false,false,false,false] rfl rfl (any_of HT_.out kr) (fun _ _ _ h => h) (Or.inl ⟨by rfl,?_⟩) ?_ ?_
 rotate_left
 ·intro w'
  go_simp
  with_reducible rfl
 rotate_left
 ·exact vs
 refine pure_ (i:=12) (N:=(some 17)) (v:=?_) (a':=?_) #[true,true,true,true,true,true,true,true,true,true,true,true,true,false,false,false,false,false,false,false,false] rfl rfl (any_of HT_.out kr) (fun _ _ _ h => h) (Or.inl ⟨by rfl,?_⟩) ?_ ?_
 rotate_left
 ·intro w'
  go_simp
  with_reducible rfl
 rotate_left
 ·exact vs
 refine take_ (i:=13) (N:=(some 18)) (v:=?_) (a':=?_) #[true,true,true,true,true,true,true,true,true,true,true,true,true,true,false,false,false,false,false,false,false] rfl rfl (take_ofW HT_.out HW_.out kr) (fun _ _ _ h => h) (Or.inl ⟨by rfl,?_⟩) hHeld ?_ ?_
 rotate_left
 ·rintro w' ⟨s0,s1⟩
  go_simp
  with_reducible rfl
 rotate_left
 ·exact vs
 refine pure_ (i:=14) (N:=(some 19)) (v:=?_) (a':=?_) #[true,true,true,true,true,true,true,true,true,true,true,true,true,true,true,false,false,false,false,false,false] rfl rfl (any_of HT_.out kr) (fun _ _ _ h => h) (Or.inl ⟨by rfl,?_⟩) ?_ ?_
 rotate_left
 ·intro w'
  go_simp
  with_reducible rfl
 rotate_left
 ·exact vs
 refine take_ (i:=15) (N:=(some 20)) (v:=?_) (a':=?_) #[true,true,true,true,true,true,true,true,true,true,true,true,true,true,true,true,false,false,false,false,false] rfl rfl (take_ofW HT_.out HW_.out kr) (fun _ _ _ h => h) (Or.inl ⟨by rfl,?_⟩) hHeld ?_ ?_
 rotate_left
 ·rintro w' ⟨s0,s1⟩
  go_simp
  with_reducible rfl
 rotate_left
 ·exact vs
 refine pure_ (i:=16) (N:=(some 21)) (v:=?_) (a':=?_) #[true,true,true,true,true,true,true,true,true,true,true,true,true,true,true,true,true,false,false,false,false] rfl rfl (any_of HT_.out kr) (fun _ _ _ h => h) (Or.inl ⟨by rfl,?_⟩) ?_ ?_
 rotate_left
 ·intro w'
  go_simp
  with_reducible rfl
 rotate_left
 ·exact vs
 refine pure_ (i:=17) (N:=(some 22)) (v:=?_) (a':=?_) #[true,true,true,true,true,true,true,true,true,true,true,true,true,true,true,true,true,true,false,false,false] rfl rfl (any_of HT_.out kr) (fun _ _ _ h => h) (Or.inl ⟨by rfl,?_⟩) ?_ ?_
 rotate_left
 ·intro w'
  go_simp
  with_reducible rfl
 rotate_left
 ·exact vs
 refine one_ (i:=18) (N:=(some 23)) #[true,true,true,true,true,true,true,true,true,true,true,true,true,true,true,true,true,true,true,false,false] rfl rfl (one_of HT_.out kr) (by decide) (fun K hK => ?_)
 refine goes_ Try.func91 kr rfl #[.slice A1 y.length y.length] (by rfl) rfl rfl (by (try simp only [List.map_toArray,List.map_cons,List.map_nil]);first|done|rfl|(simp only [List.length_drop,List.length_take];rfl)) ?_
 refine (book_root.calls _ _ y (rootP y) _ HR'.out (Nat.le_refl _) (by unfold book_root.f;rw [if_pos HL.out])).mono ?_
 rintro e w1 ⟨rfl,hb1⟩
 have na:=am (blk_below BKa.out hb1)
 have nb:=am (blk_below BKb.out hb1)
 have nB:=am (below_then HB.out (below_size HB.out) hb1)
 clear hb1 BKa BKb HB HR'
 have BKa:=na
 have BKb:=nb
 have HB:=nB
 clear na nb nB
 refine ⟨_,rfl,?_⟩
 refine hK.out _ _ ⟨(blk_cell BKa.out 0).trans rfl,(blk_cell BKa.out 1).trans rfl⟩ (fun hHeld => ?_)
 clear hK K
 refine norm_ (a':=?_) ?_ ?_
 rotate_left
 ·show Act.put _ (some 23) _ = _
  simp only [Act.put,List.setIfInBounds_toArray,List.set_cons_zero,List.set_cons_succ,i64_w,i32_w]
  rfl
 refine pure_ (i:=19) (N:=(some 24)) (v:=?_) (a':=?_) #[true,true,true,true,true,true,true,true,true,true,true,true,true,true,true,true,true,true,true,true,false] rfl rfl (any_of HT_.out kr) (fun _ _ _ h => h) (Or.inl ⟨by rfl,?_⟩) ?_ ?_
 rotate_left
 ·intro w'
  go_simp
  with_reducible rfl
 rotate_left
 ·exact vs
 refine one_ (i:=20) (N:=none) #[true,true,true,true,true,true,true,true,true,true,true,true,true,true,true,true,true,true,true,true,true] rfl rfl (one_of HT_.out kr) (by decide) (fun K hK => ?_)
 have hc0 : w1.cell? ⟨w.heap.size + 1,0,none⟩ = some (.int .i64 0):=(blk_cell BKb.out 0).trans rfl
 have hc1 : w1.cell? ⟨w.heap.size + 1,1,none⟩ = some (.int .i64 0):=(blk_cell BKb.out 1).trans rfl
 have hc2 : w1.cell? ⟨w.heap.size + 1,2,none⟩ = some (.int .i64 0):=(blk_cell BKb.out 2).trans rfl
 have hf0:=blk_frozen BKb.out 0
 have hf1:=blk_frozen BKb.out 1
 have hf2:=blk_frozen BKb.out 2
 refine skip_ (w1:=?_) (by rfl) rfl ?_ ?_
 rotate_left
 ·go_simp
  rfl
 have nb:=am (blk_put (blk_put (blk_put BKb.out 0 (.int .i64 a1_0) rfl) 1 (.int .i64 a1_1) rfl) 2 (.int .i64 (rootP y)) rfl)
 have na:=am (blk_far (blk_far (blk_far BKa.out (p:=⟨w.heap.size + 1,0,none⟩) (by simp) (.int .i64 a1_0)) (p:=⟨w.heap.size + 1,1,none⟩) (by simp) (.int .i64 a1_1)) (p:=⟨w.heap.size + 1,2,none⟩) (by simp) (.int .i64 (rootP y)))
 clear BKa
 have BKa:=na
 clear na
 refine hK.out _ _ ⟨(blk_cell BKa.out 0).trans rfl,(blk_cell BKa.out 1).trans rfl⟩ (fun hHeld => ?_)
 clear hK K
 refine done_ (done_of HT_.out kr) ?_
 go_wp2
 refine bodyPost_ret (results_cell_row rfl _ _ (w.heap.size + 1) 129 #[.int .i64 a1_0,.int .i64 a1_1,.int .i64 (rootP y)] (0,0) _ rfl nb.out Try.underlying129 rfl kr) rfl ⟨rfl,?_⟩
 refine below_set (below_set (below_set HB.out ?_) ?_) ?_ <;> exact Nat.le_succ _
def book_twigs.l0 : Nat → List (S29) → List (S129) → List (S164) → Int → Int → Option ((List (S129)))
|0,_,_,_,_,_ => none
|k + 1,x0,x5,x8,x9,x10 => if x10 < x9 then (if 0 ≤ x10 then (if x10 < (x8.length : Int) then ((book_twig.f x0 ((rd_T164 x8 x10).f0) ((rd_T164 x8 x10).f1)).bind fun bt103 => (if x5.length < 5864062014805 then (book_twigs.l0 k x0 (x5 ++ [(⟨bt103.1,bt103.2.1,bt103.2.2⟩ : S129)]) x8 x9 (wrap64 (x10 + 1))) else (none))) else (none)) else (none)) else (some x5)
def book_twigs.f (k : Nat) (l0 : List (S29)) (l1 : List (S164)) : Option ((List (S129))):=book_twigs.l0 k l0 ([] : List (S129)) l1 (l1.length : Int) 0
theorem book_twigs.mono_l : ∀ k,(∀ y0 y1 y2 y3 y4,LeO (book_twigs.l0 k y0 y1 y2 y3 y4) (book_twigs.l0 (k + 1) y0 y1 y2 y3 y4))
|0 => fun _ _ _ _ _ r h => by simp [book_twigs.l0] at h
|k + 1 => by
  have ih0:=book_twigs.mono_l k
  ·intro y0 y1 y2 y3 y4
   unfold book_twigs.l0
   repeat' first
  |(with_reducible exact ih0 _ _ _ _ _)
  |(with_reducible exact LeO.refl _)
  |(with_reducible exact LeO.none _)
  |(with_reducible refine LeO.ite ?_ ?_)
  |(with_reducible refine LeO.bind ?_ (fun _ => ?_))
  |exact ih0 _ _ _ _ _
  |exact LeO.none _
  |refine LeO.ite ?_ ?_
  |refine LeO.bind ?_ (fun _ => ?_)
theorem book_twigs.mono : ∀ a0 a1 k,LeO (book_twigs.f k a0 a1) (book_twigs.f (k + 1) a0 a1):=by
 intro a0 a1 k
 have ih0:=book_twigs.mono_l k
 unfold book_twigs.f
 repeat' first
  |(with_reducible exact ih0 _ _ _ _ _)
  |(with_reducible exact LeO.refl _)
  |(with_reducible exact LeO.none _)
  |(with_reducible refine LeO.ite ?_ ?_)
  |(with_reducible refine LeO.bind ?_ (fun _ => ?_))
  |exact ih0 _ _ _ _ _
  |exact LeO.none _
  |refine LeO.ite ?_ ?_
  |refine LeO.bind ?_ (fun _ => ?_)
set_option maxHeartbeats 8000000 in
set_option maxRecDepth 100000 in
theorem book_twigs.calls (k : Nat) (A0 : Option Addr) (c0 : Nat) (l0 : List (S29)) (A1 : Option Addr) (c1 : Nat) (l1 : List (S164)) (r : List (S129)) (w : World) (hr0 : Kd.C k29 w A0 l0.length l0) (hc0 : l0.length ≤ c0) (hr1 : Kd.C k164 w A1 l1.length l1) (hc1 : l1.length ≤ c1) (h : book_twigs.f k l0 l1 = some r) :
  Calls Try.prog 121 #[.slice A0 l0.length c0,.slice A1 l1.length c1] w fun e w' => ∃ v0_ : Value,e = .returned (v0_) ∧ Kd.R k129 129 w' w.heap.size (fun _ => True) v0_ r ∧ Below w.heap.size w w':=by
 have hu164:=Try.underlying164
 have HR0:=am hr0
 have HC0:=am hc0
 clear hr0 hc0
 have HR1:=am hr1
 have HC1:=am hc1
 clear hr1 hc1
 have HB:=am (Below.refl w.heap.size w)
 have H : (book_twigs.l0 k l0 ([] : List (S129)) l1 (l1.length : Int) 0) = some r:=h
 clear h
 have H':=am H
 clear H
 go_enter Try.func121,Try.ntmps121
 go_wp2
 go_loopg [5,10] k (fun kq v5 v10 w' => ∃ (x5_1 : List (S129)) (x10_1 : Int),v10 = .int .i64 x10_1 ∧ Aside0 (book_twigs.l0 kq l0 x5_1 l1 (l1.length : Int) x10_1 = some r) ∧ Aside0 (kq ≤ k) ∧ Aside0 (Kd.R k129 129 w' w.heap.size (fun _ => True) v5 x5_1) ∧ Aside0 (Below w.heap.size w w'))
 case atStart => exact ⟨(([] : List (S129))),(0),ve,H',⟨Nat.le_refl _⟩,⟨by first|exact Kd.R_nil _ _ _ _ _|exact Kd.N_nil _ _ _ _ _|exact Kd.V_nil _ _ _ _ _|exact Kd.Q_nil _ _ _ _ _|exact Kd.S_nil _ _ _ _ _⟩,⟨v0 HB.out⟩⟩
 case round =>
  clear H'
  try clear c1
  try clear p2
  obtain ⟨x5_1,x10_1,rfl,HA,HK1,HO_5,HB⟩:=hrel
  cases gk with
 |zero => exact absurd HA.out (by simp [book_twigs.l0])
 |succ k1 =>
   have H:=HA.out
   clear HA
   simp only [book_twigs.l0] at H
   by_cases c3 : x10_1 < (l1.length : Int)
   ·rw [if_pos c3] at H
    have c3b0 : decide (x10_1 < (l1.length : Int)) = true:=decide_eq_true c3
    clear c3
    by_cases c4 : 0 ≤ x10_1
    ·rw [if_pos c4] at H
     have c4b0 : decide (0 ≤ x10_1) = true:=decide_eq_true c4
     clear c4
     by_cases c5 : x10_1 < (l1.length : Int)
     ·rw [if_pos c5] at H
      have c5b0 : decide (x10_1 < (l1.length : Int)) = true:=decide_eq_true c5
      clear c5
      replace H:=Option.bind_eq_some_iff.mp H
      obtain ⟨⟨t103,t104,t105⟩,A60,H⟩:=H
      replace H : (if x5_1.length < 5864062014805 then (book_twigs.l0 k1 l0 (x5_1 ++ [(⟨t103,t104,t105⟩ : S129)]) l1 (l1.length : Int) (wrap64 (x10_1 + 1))) else (none)) = some r:=H
      have A6:=am A60
      clear A60
      by_cases c7 : x5_1.length < 5864062014805
      ·rw [if_pos c7] at H
       have LMc7:=am c7
       clear c7
       obtain ⟨y106,hy106⟩ : ∃ y_ : List (S129),y_ = (x5_1 ++ [(⟨t103,t104,t105⟩ : S129)]):=⟨_,rfl⟩
       replace H : (book_twigs.l0 k1 l0 y106 l1 (l1.length : Int) (wrap64 (x10_1 + 1))) = some r:=by first|(rw [hy106];with_reducible exact H)|(have H2_:=(Option.bind_some _ _).symm.trans H;rw [hy106];with_reducible exact H2_)|(have H2_:=(Option.bind_some _ _).symm.trans H;with_reducible exact H2_)|with_reducible exact H|(rw [hy106];exact H)|exact H
       have Ny106:=am hy106
       clear hy106
       have H':=am H
       clear H
       have p101 : 0 ≤ (x10_1 : Int):=of_decide_eq_true va
       have q101 : x10_1 < (l1.length : Int):=of_decide_eq_true va
       obtain ⟨ad101,e101,hx101_0,hx101_1⟩:=at_T164 HR1.out x10_1 p101 q101
       cases e101
       replace hx101_0:=(HB.out.cell (wb w _ hx101_0)).trans hx101_0
       replace hx101_1:=(HB.out.cell (wb w _ hx101_1)).trans hx101_1
       replace p101:=eq_true p101
       replace q101:=eq_true q101
       go_wp2_with (first|((with_reducible refine gate_dst (N:=7) rfl ?_);refine box_event ?hg (N:=7) ?hd (cs:=#[.int .i64 0,.int .i64 0]) (t:=164) ?hr ?_;(case hd => rfl);(case hg => rfl);(case hr => first|(go_simp;done)|(go_simp;rfl));intro gb102 hg w8 hbox hb;have n0_:=am (Kd.R_below (by (with_reducible repeat (first|apply Kd.R_alloc|apply Kd.R_drewN|apply Kd.R_drew));exact HO_5.out) hb);have n1_:=am (below_step (v0 HB.out) hb);have n2_:=am (hbox);have n3_:=am ((by rw [hg];exact (below_size (v0 HB.out)) : w.heap.size ≤ gb102));have n4_:=am ((by rw [hg];exact (below_size (v0 HB.out)) : w.heap.size ≤ gb102));clear HO_5;clear HB;have HO_5:=n0_;have HB:=n1_;have BK102:=n2_;have GW102:=n3_;have GE102:=n4_;clear n0_ n1_ n2_ n3_ n4_;clear hb hbox hg;have hcz9_0 : w8.cell? ⟨gb102,0,none⟩ = some (.int .i64 0):=(blk_cell BK102.out 0).trans rfl;have hcz9_1 : w8.cell? ⟨gb102,1,none⟩ = some (.int .i64 0):=(blk_cell BK102.out 1).trans rfl;have hfz9_0:=blk_frozen BK102.out 0;have hfz9_1:=blk_frozen BK102.out 1)|((with_reducible refine gate_callee (f:=155) rfl ?_);refine goesL_ (some 17) rfl rfl Try.func155 kr rfl #[.slice A0 l0.length c0,.agg #[.int .i64 ((rd_T164 l1 x10_1).f0),.int .i64 ((rd_T164 l1 x10_1).f1)]] rfl (by (try simp only [List.map_toArray,List.map_cons,List.map_nil]);first|done|rfl|(simp only [List.length_drop,List.length_take];rfl)) ?_;(with_reducible refine (book_twig.calls _ _ l0 ((rd_T164 l1 x10_1).f0) ((rd_T164 l1 x10_1).f1) t103 t104 t105 _ ?side1 ?side2 A6.out).mono ?_);(case side1 => exact Kd.C_below HR0.out (v1 HB.out GE102.out));(case side2 => exact HC0.out);rintro e w10 ⟨rfl,hb⟩;refine ⟨_,rfl,?_⟩;have n0_:=am (Kd.R_below (by (with_reducible repeat (first|apply Kd.R_alloc|apply Kd.R_drewN|apply Kd.R_drew));exact (Kd.R_mono (Kd.R_far (p:=⟨gb102,1,none⟩) (Kd.R_far (p:=⟨gb102,0,none⟩) (Kd.R_types HO_5.out BK102.out (by decide)) (fun _ hk => hk.2) (.int .i64 ((rd_T164 l1 x10_1).f0))) (fun _ hk => hk.2) (.int .i64 ((rd_T164 l1 x10_1).f1))) (fun _ h_ => h_.1))) hb);have n1_:=am (blk_below (g:=gb102) (o:=.cells #[.int .i64 ((rd_T164 l1 x10_1).f0),.int .i64 ((rd_T164 l1 x10_1).f1)] 164 (0,0)) (by (with_reducible repeat (first|refine blk_drewN ?_ _|refine blk_drew ?_|refine blk_alloc ?_ _));refine blk_put (cs:=#[.int .i64 ((rd_T164 l1 x10_1).f0),.int .i64 0]) ?_ 1 _ rfl;(with_reducible repeat (first|refine blk_drewN ?_ _|refine blk_drew ?_|refine blk_alloc ?_ _));refine blk_put (cs:=#[.int .i64 0,.int .i64 0]) ?_ 0 _ rfl;(with_reducible repeat (first|refine blk_drewN ?_ _|refine blk_drew ?_|refine blk_alloc ?_ _));exact BK102.out) hb);have n2_:=am (below_step (v1 HB.out GE102.out) hb);clear HO_5;clear BK102;clear HB;have HO_5:=n0_;have BK102:=n1_;have HB:=n2_;clear n0_ n1_ n2_;(try clear hb);(try clear hb2);(try clear hk);(try clear hi))|((with_reducible refine gate_builtin (b:=.append) (xs:=#[.tmp 14,.tmp 18]) rfl ?_);at_builtin;refine Kd.R_append k129 (w0:=w) w.heap.size rfl (.tmp 14) (.tmp 18) 77 129 (.agg #[(.int .i64 0),(.int .i64 0),(.int .i64 0)]) 24 rfl Try.underlying77 info129 rfl (by decide) (by omega) u5 x5_1 (⟨t103,t104,t105⟩ : S129) [.int .i64 t103,.int .i64 t104,.int .i64 t105] (fun _ => True) (fun _ => False) rfl rfl ?aP (fun _ hk => hk.elim) ?aF ?aO ?aB ?aS ?aL ?_;(case aP => exact k129_mkM _ _ _ (⟨t103,t104,t105⟩ : S129));(case aB => exact (v1 HB.out GE102.out));(case aF => exact (fun _ _ => trivial));(case aO => exact (by (with_reducible repeat (first|apply Kd.R_alloc|apply Kd.R_drewN|apply Kd.R_drew));exact HO_5.out));(case aS => exact (below_size (v1 HB.out GE102.out)));(case aL => have:=LMc7.out;omega);intro v107 w11 ho hb hg hat;rw [← Ny106.out] at ho;have n0_:=am (blk_grown (g:=gb102) (o:=.cells #[.int .i64 ((rd_T164 l1 x10_1).f0),.int .i64 ((rd_T164 l1 x10_1).f1)] 164 (0,0)) (vb BK102.out) hg (Kd.R_ne HO_5.out BK102.out (by decide)));have n1_:=am (hb);have n2_:=am (ho);clear BK102;clear HB;clear HO_5;have BK102:=n0_;have HB:=n1_;have HO108:=n2_;clear n0_ n1_ n2_;clear ho hb hg hat))
       go_roundg k1
       case measure => have:=HK1.out;omega
       case rel => exact ⟨(y106),(wrap64 (x10_1 + 1)),ve,H',⟨by have:=HK1.out;omega⟩,⟨by (with_reducible repeat (first|apply Kd.R_alloc|apply Kd.R_drewN|apply Kd.R_drew));exact HO108.out⟩,⟨v1 HB.out GE102.out⟩⟩
      ·rw [if_neg c7] at H
       exact absurd H (by simp)
     ·rw [if_neg c5] at H
      exact absurd H (by simp)
    ·rw [if_neg c4] at H
     exact absurd H (by simp)
   ·rw [if_neg c3] at H
    have c3b0 : decide (x10_1 < (l1.length : Int)) = false:=decide_eq_false c3
    clear c3
    obtain rfl:=Option.some.inj H
    go_wp2
    go_ret
    exact ⟨_,vf,by (with_reducible repeat (first|apply Kd.R_alloc|apply Kd.R_drewN|apply Kd.R_drew));exact HO_5.out,v0 HB.out⟩
def book_tree_157.l0 : Nat → List (S164) → Int → Int → Option ((List (S164)))
|0,_,_,_ => none
|k + 1,x0,x2,x3 => if x2 < x3 then (if 0 ≤ x3 then (if x3 < (x0.length : Int) then (if 0 ≤ x2 then (if x2 < (x0.length : Int) then (book_tree_157.l0 k ((x0.set (x2 : Int).toNat (⟨(rd_T164 x0 x3).f0,(rd_T164 x0 x3).f1⟩ : S164)).set (x3 : Int).toNat (⟨(rd_T164 x0 x2).f0,(rd_T164 x0 x2).f1⟩ : S164)) (wrap64 (x2 + 1)) (wrap64 (x3 - 1))) else (none)) else (none)) else (none)) else (none)) else (some x0)
def book_tree_157.f (k : Nat) (l0 : List (S164)) : Option ((List (S164))):=book_tree_157.l0 k l0 0 (wrap64 ((l0.length : Int) - 1))
def book_tree_157.T3 : Bool × List (List Nat × List Nat):=(true,[([],[]),([],[]),([],[]),([],[]),([],[]),([],[]),([4,5],[4,5]),([6],[6]),([],[]),([],[]),([8,9],[8,9]),([10],[10]),([0,1,0,1,4,5,6,7,11],[0,1]),([12,7,0,1,4,5,6,7,11],[7,12]),([2,3,0,1,2,3,4,5,6,7,8,9,10,11,12,13],[2,3]),([14,11,13,0,1,2,3,4,5,6,7,8,9,10,11,12,13],[11,14])])
def book_tree_157.B3 : List Nat:=[0,0,0,0,0,0,48,112,0,0,768,1792,4083,8179,16383,32767]
theorem book_tree_157.tab3 : rtab .any (opsOf Try.f157 3) = book_tree_157.T3:=by kernel_rfl
theorem book_tree_157.bits3 : waitsOk book_tree_157.T3.2 book_tree_157.B3 = true:=by kernel_rfl
set_option maxHeartbeats 8000000 in
set_option maxRecDepth 100000 in
theorem book_tree_157.calls (k : Nat) (P0_ : Nat → Prop) (u9000_ : Value) (l0 : List (S164)) (r : List (S164)) (w0 w : World) (hB : Below w0.heap.size w0 w) (ho0 : Kd.R k164 164 w w0.heap.size P0_ u9000_ l0) (h : book_tree_157.f k l0 = some r) :
  Calls Try.prog 157 #[u9000_] w fun e w' => e = .returned (.tuple #[]) ∧ Kd.R k164 164 w' w0.heap.size (fun k_ => (P0_ k_ ∨ w.heap.size ≤ k_)) u9000_ r ∧ Below w0.heap.size w0 w' ∧ Kept w w' (fun k_ => P0_ k_):=by
 have hu164:=Try.underlying164
 have HO0:=am (show Kd.R k164 164 w w0.heap.size (fun k_ => (P0_ k_ ∨ w.heap.size ≤ k_)) u9000_ l0 from Kd.R_mono ho0 (fun k_ hk => (.inl hk)))
 have HK:=am (Kept.refl w (fun k_ => P0_ k_))
 have HW0:=am hB.size
 have HB:=am hB
 clear hB
 have H : (book_tree_157.l0 k l0 0 (wrap64 ((l0.length : Int) - 1))) = some r:=h
 clear h
 have H':=am H
 clear H
 obtain ⟨Ao2,co2,eo2⟩:=Kd.R_slice HO0.out
 subst eo2
 go_enter Try.func157,Try.ntmps157
 go_wp2
 go_loopg [2,3] k (fun kq v2 v3 w' => ∃ (x0_1 : List (S164)) (x2_1 : Int) (x3_1 : Int),v2 = .int .i64 x2_1 ∧ v3 = .int .i64 x3_1 ∧ Aside0 (book_tree_157.l0 kq x0_1 x2_1 x3_1 = some r) ∧ Aside0 (kq ≤ k) ∧ Aside0 (Kd.R k164 164 w' w0.heap.size (fun k_ => (P0_ k_ ∨ w.heap.size ≤ k_)) (.slice Ao2 l0.length co2) x0_1) ∧ Aside0 (Kept w w' (fun k_ => P0_ k_)) ∧ Aside0 (Below w0.heap.size w0 w'))
 case atStart => exact ⟨(l0),(0),(wrap64 ((l0.length : Int) - 1)),ve,ve,H',⟨Nat.le_refl _⟩,⟨by (with_reducible repeat (first|apply Kd.R_alloc|apply Kd.R_drewN|apply Kd.R_drew));exact HO0.out⟩,⟨by repeat (first|(with_reducible first|exact HK.out|apply Kept.alloc|apply Kept.drewN|apply Kept.drew)|exact HK.out)⟩,⟨v0 HB.out⟩⟩
 case round =>
  clear H'
  try clear c1
  try clear p2
  obtain ⟨x0_1,x2_1,x3_1,rfl,rfl,HA,HK1,HO_0,HK,HB⟩:=hrel
  have hl0_1:=(Kd.R_reads' HO_0.out).1
  rw [hl0_1] at HO_0
  (try simp only [hl0_1])
  cases gk with
 |zero => exact absurd HA.out (by simp [book_tree_157.l0])
 |succ k1 =>
   have H:=HA.out
   clear HA
   simp only [book_tree_157.l0] at H
   by_cases c3 : x2_1 < x3_1
   ·rw [if_pos c3] at H
    have c3b0 : decide (x2_1 < x3_1) = true:=decide_eq_true c3
    clear c3
    by_cases c4 : 0 ≤ x3_1
    ·rw [if_pos c4] at H
     have c4b0 : decide (0 ≤ x3_1) = true:=decide_eq_true c4
     clear c4
     by_cases c5 : x3_1 < (x0_1.length : Int)
     ·rw [if_pos c5] at H
      have c5b0 : decide (x3_1 < (x0_1.length : Int)) = true:=decide_eq_true c5
      clear c5
      by_cases c6 : 0 ≤ x2_1
      ·rw [if_pos c6] at H
       have c6b0 : decide (0 ≤ x2_1) = true:=decide_eq_true c6
       clear c6
       by_cases c7 : x2_1 < (x0_1.length : Int)
       ·rw [if_pos c7] at H
        have c7b0 : decide (x2_1 < (x0_1.length : Int)) = true:=decide_eq_true c7
        clear c7
        obtain ⟨y103,hy103⟩ : ∃ y_ : List (S164),y_ = (x0_1.set (x2_1 : Int).toNat (⟨(rd_T164 x0_1 x3_1).f0,(rd_T164 x0_1 x3_1).f1⟩ : S164)):=⟨_,rfl⟩
        replace H : (book_tree_157.l0 k1 (y103.set (x3_1 : Int).toNat (⟨(rd_T164 x0_1 x2_1).f0,(rd_T164 x0_1 x2_1).f1⟩ : S164)) (wrap64 (x2_1 + 1)) (wrap64 (x3_1 - 1))) = some r:=by first|(rw [hy103];with_reducible exact H)|(have H2_:=(Option.bind_some _ _).symm.trans H;rw [hy103];with_reducible exact H2_)|(have H2_:=(Option.bind_some _ _).symm.trans H;with_reducible exact H2_)|with_reducible exact H|(rw [hy103];exact H)|exact H
        have Ny103:=am hy103
        clear hy103
        obtain ⟨y104,hy104⟩ : ∃ y_ : List (S164),y_ = (y103.set (x3_1 : Int).toNat (⟨(rd_T164 x0_1 x2_1).f0,(rd_T164 x0_1 x2_1).f1⟩ : S164)):=⟨_,rfl⟩
        replace H : (book_tree_157.l0 k1 y104 (wrap64 (x2_1 + 1)) (wrap64 (x3_1 - 1))) = some r:=by first|(rw [hy104];with_reducible exact H)|(have H2_:=(Option.bind_some _ _).symm.trans H;rw [hy104];with_reducible exact H2_)|(have H2_:=(Option.bind_some _ _).symm.trans H;with_reducible exact H2_)|with_reducible exact H|(rw [hy104];exact H)|exact H
        have Ny104:=am hy104
        clear hy104
        have H':=am H
        clear H
        try go_wp2
        have n0_:=am (Kd.R_drew HO_0.out)
        have n1_:=am (Kept.drew HK.out)
        have n2_:=am (below_drew1 HB.out)
        clear HO_0
        clear HK
        clear HB
        have HO_0:=n0_
        have HK:=n1_
        have HB:=n2_
        clear n0_ n1_ n2_
        have p101 : 0 ≤ (x3_1 : Int):=of_decide_eq_true va
        have q101 : x3_1 < (x0_1.length : Int):=of_decide_eq_true va
        obtain ⟨ad101,e101,hx101_0,hx101_1⟩:=at_T164 (Kd.R_reads' HO_0.out).2.2 x3_1 p101 q101
        cases e101
        replace p101:=eq_true p101
        replace q101:=eq_true q101
        have p102 : 0 ≤ (x2_1 : Int):=of_decide_eq_true va
        have q102 : x2_1 < (x0_1.length : Int):=of_decide_eq_true va
        obtain ⟨ad102,e102,hx102_0,hx102_1⟩:=at_T164 (Kd.R_reads' HO_0.out).2.2 x2_1 p102 q102
        obtain rfl : ad101 = ad102:=(by injection e102)
        replace p102:=eq_true p102
        replace q102:=eq_true q102
        have p8 : 0 ≤ (x2_1 : Int):=of_decide_eq_true va
        have q8 : (x2_1 : Int) < ((x0_1.length : Int) : Int):=of_decide_eq_true va
        obtain ⟨go8,co8,eo8,gb8,gl8,cl8,HG8⟩:=Kd.R_form HO_0.out (by omega)
        (first|cases eo8|(injection eo8 with ea_ en_ ec_;(first|subst ea_|(injection ea_ with ea_;subst ea_));subst ec_;clear en_))
        have GB8:=am gb8
        have GG8:=am HG8
        clear gb8 gl8 HG8
        have HMgo8:=am (show (P0_ go8 ∨ w.heap.size ≤ go8) from (HO_0.out.1 _ rfl))
        (first|simp only [add_plain] at hx101_0|skip)
        (first|simp only [add_plain] at hx101_1|skip)
        (first|simp only [add_plain] at hx102_0|skip)
        (first|simp only [add_plain] at hx102_1|skip)
        obtain ⟨ce8,hcl8,hM8,hcc8,hfr8⟩:=Kd.R_elem HO_0.out z164 (x2_1 : Int) p8 q8
        obtain rfl:=k164_openM hM8
        have hx8_0 : World.cell? _ ⟨go8,(x2_1 : Int).toNat * 2,none⟩ = some (.int .i64 ((rd_T164 x0_1 x2_1).f0)):=hcc8 0 _ rfl
        have hx8_1 : World.cell? _ ⟨go8,(x2_1 : Int).toNat * 2 + 1,none⟩ = some (.int .i64 ((rd_T164 x0_1 x2_1).f1)):=hcc8 1 _ rfl
        have hf8_0 : World.frozen? _ ⟨go8,(x2_1 : Int).toNat * 2,none⟩ = false:=hfr8 0
        have hf8_1 : World.frozen? _ ⟨go8,(x2_1 : Int).toNat * 2 + 1,none⟩ = false:=hfr8 1
        clear hcl8 hcc8 hfr8 hM8
        replace p8:=eq_true p8
        replace q8:=eq_true q8
        obtain ⟨ce11,hcl11,hM11,hcc11,hfr11⟩:=Kd.R_elem HO_0.out z164 (x2_1 : Int) (of_decide_eq_true va) (by have h_ : (x2_1 : Int) < ((x0_1.length : Int) : Int):=of_decide_eq_true va;first|exact h_|(have e_:=(Kd.R_reads' HO_0.out).1;omega)|simpa using h_)
        obtain rfl:=k164_openM hM11
        have HP11:=(Kd.R_seg HO_0.out (x2_1 : Int) (of_decide_eq_true va) (by have h_ : (x2_1 : Int) < ((x0_1.length : Int) : Int):=of_decide_eq_true va;first|exact h_|(have e_:=(Kd.R_reads' HO_0.out).1;omega)|simpa using h_) (seg:=[.int .i64 ((rd_T164 x0_1 x3_1).f0),.int .i64 ((rd_T164 x0_1 x3_1).f1)]) (j:=0) hcl11 hcc11 (show 2 ≤ 2 from by decide) (x':=(⟨(rd_T164 x0_1 x3_1).f0,(rd_T164 x0_1 x3_1).f1⟩ : S164)) (k164_mkM _ _ _ (⟨(rd_T164 x0_1 x3_1).f0,(rd_T164 x0_1 x3_1).f1⟩ : S164) ) (fun _ hk => hk)).1
        rw [← Ny103.out] at HP11
        have HQ11:=am HP11
        clear hcl11 hcc11 hfr11 hM11 HP11
        have p9 : 0 ≤ (x3_1 : Int):=of_decide_eq_true va
        have q9 : (x3_1 : Int) < ((x0_1.length : Int) : Int):=of_decide_eq_true va
        obtain ⟨ce9,hcl9,hM9,hcc9,hfr9⟩:=Kd.R_elem HQ11.out z164 (x3_1 : Int) p9 q9
        obtain rfl:=k164_openM hM9
        have hx9_0 : World.cell? _ ⟨go8,(x3_1 : Int).toNat * 2,none⟩ = some (.int .i64 ((rd_T164 y103 x3_1).f0)):=hcc9 0 _ rfl
        have hx9_1 : World.cell? _ ⟨go8,(x3_1 : Int).toNat * 2 + 1,none⟩ = some (.int .i64 ((rd_T164 y103 x3_1).f1)):=hcc9 1 _ rfl
        have hf9_0 : World.frozen? _ ⟨go8,(x3_1 : Int).toNat * 2,none⟩ = false:=hfr9 0
        have hf9_1 : World.frozen? _ ⟨go8,(x3_1 : Int).toNat * 2 + 1,none⟩ = false:=hfr9 1
        clear hcl9 hcc9 hfr9 hM9
        replace p9:=eq_true p9
        replace q9:=eq_true q9
        obtain ⟨ce12,hcl12,hM12,hcc12,hfr12⟩:=Kd.R_elem HQ11.out z164 (x3_1 : Int) (of_decide_eq_true va) (by have h_ : (x3_1 : Int) < ((x0_1.length : Int) : Int):=of_decide_eq_true va;first|exact h_|(have e_:=(Kd.R_reads' HO_0.out).1;omega)|simpa using h_)
        obtain rfl:=k164_openM hM12
        have HP12:=(Kd.R_seg HQ11.out (x3_1 : Int) (of_decide_eq_true va) (by have h_ : (x3_1 : Int) < ((x0_1.length : Int) : Int):=of_decide_eq_true va;first|exact h_|(have e_:=(Kd.R_reads' HO_0.out).1;omega)|simpa using h_) (seg:=[.int .i64 ((rd_T164 x0_1 x2_1).f0),.int .i64 ((rd_T164 x0_1 x2_1).f1)]) (j:=0) hcl12 hcc12 (show 2 ≤ 2 from by decide) (x':=(⟨(rd_T164 x0_1 x2_1).f0,(rd_T164 x0_1 x2_1).f1⟩ : S164)) (k164_mkM _ _ _ (⟨(rd_T164 x0_1 x2_1).f0,(rd_T164 x0_1 x2_1).f1⟩ : S164) ) (fun _ hk => hk)).1
        rw [← Ny104.out] at HP12
        have HQ12:=am HP12
        clear hcl12 hcc12 hfr12 hM12 HP12
        have hlt_ : (x2_1 : Int) < x3_1:=of_decide_eq_true (by assumption)
        have hge_ : (0 : Int) ≤ x2_1:=of_decide_eq_true (by assumption)
        have hoaa_ : ∀ (W : World) (u : Value),(W.setCell ⟨go8,x2_1.toNat * 2,none⟩ u).cell? ⟨go8,x3_1.toNat * 2,none⟩ = W.cell? ⟨go8,x3_1.toNat * 2,none⟩:=fun W u => World.cell?_setCell_other _ _ _ _ (by intro h_;injection h_ with h1_ h2_;omega)
        have hoab_ : ∀ (W : World) (u : Value),(W.setCell ⟨go8,x2_1.toNat * 2,none⟩ u).cell? ⟨go8,x3_1.toNat * 2 + 1,none⟩ = W.cell? ⟨go8,x3_1.toNat * 2 + 1,none⟩:=fun W u => World.cell?_setCell_other _ _ _ _ (by intro h_;injection h_ with h1_ h2_;omega)
        have hoba_ : ∀ (W : World) (u : Value),(W.setCell ⟨go8,x2_1.toNat * 2 + 1,none⟩ u).cell? ⟨go8,x3_1.toNat * 2,none⟩ = W.cell? ⟨go8,x3_1.toNat * 2,none⟩:=fun W u => World.cell?_setCell_other _ _ _ _ (by intro h_;injection h_ with h1_ h2_;omega)
        have hobb_ : ∀ (W : World) (u : Value),(W.setCell ⟨go8,x2_1.toNat * 2 + 1,none⟩ u).cell? ⟨go8,x3_1.toNat * 2 + 1,none⟩ = W.cell? ⟨go8,x3_1.toNat * 2 + 1,none⟩:=fun W u => World.cell?_setCell_other _ _ _ _ (by intro h_;injection h_ with h1_ h2_;omega)
        obtain ⟨ce_,hcl_,hM_,hcc_,hfr_⟩:=Kd.R_elem HO_0.out z164 (x3_1 : Int) (by omega) (of_decide_eq_true va)
        have hf99_0 : World.frozen? wr.drew ⟨go8,(x3_1 : Int).toNat * 2,none⟩ = false:=hfr_ 0
        have hf99_1 : World.frozen? wr.drew ⟨go8,(x3_1 : Int).toNat * 2 + 1,none⟩ = false:=hfr_ 1
        clear hcl_ hcc_ hfr_ hM_ ce_
        clear hlt_ hge_
        refine start_ (n:=16) (S:=fun w' => w'.cell? ⟨go8,((x3_1).toNat * 2),none⟩ = some (.int .i64 ((rd_T164 x0_1 x3_1).f0)) ∧ w'.cell? ⟨go8,((x3_1).toNat * 2) + 1,none⟩ = some (.int .i64 ((rd_T164 x0_1 x3_1).f1)) ∧ w'.cell? ⟨go8,((x2_1).toNat * 2),none⟩ = some (.int .i64 ((rd_T164 x0_1 x2_1).f0)) ∧ w'.cell? ⟨go8,((x2_1).toNat * 2) + 1,none⟩ = some (.int .i64 ((rd_T164 x0_1 x2_1).f1))) (ds:=[13,15]) #[false,false,false,false,false,false,false,false,false,false,false,false,false,false,false,false] kr rfl rfl ⟨hx101_0,hx101_1,hx102_0,hx102_1⟩ (fun hHeld => ?_);refine with_tabW book_tree_157.tab3 book_tree_157.bits3 (fun HT_ HW_ => ?_)
        generalize wr.drew = w10 at HO_0 HK HB GG8 HQ11 HQ12 hf8_0 hf8_1 hf9_0 hf9_1 hf99_0 hf99_1 hx101_0 hx101_1 hx102_0 hx102_1 hx8_0 hx8_1 hx9_0 hx9_1 hHeld ⊢
        refine pure_ (i:=0) (N:=some 14) (v:=?_) (a':=?_) #[true,false,false,false,false,false,false,false,false,false,false,false,false,false,false,false] rfl rfl (any_of HT_.out kr) (fun _ _ _ h => h) (Or.inl ⟨by rfl,?_⟩) ?_ ?_
        rotate_left
        ·intro w'
         go_simp
         with_reducible rfl
        rotate_left
        ·exact vs
        refine pure_ (i:=1) (N:=some 15) (v:=?_) (a':=?_) #[true,true,false,false,false,false,false,false,false,false,false,false,false,false,false,false] rfl rfl (any_of HT_.out kr) (fun _ _ _ h => h) (Or.inl ⟨by rfl,?_⟩) ?_ ?_
        rotate_left
        ·intro w'
         go_simp
         with_reducible rfl
        rotate_left
        ·exact vs
        refine pure_ (i:=2) (N:=some 16) (v:=?_) (a':=?_) #[true,true,true,false,false,false,false,false,false,false,false,false,false,false,false,false] rfl rfl (any_of HT_.out kr) (fun _ _ _ h => h) (Or.inl ⟨by rfl,?_⟩) ?_ ?_
        rotate_left
        ·intro w'
         go_simp
         with_reducible rfl
        rotate_left
        ·exact vs
        refine pure_ (i:=3) (N:=some 17) (v:=?_) (a':=?_) #[true,true,true,true,false,false,false,false,false,false,false,false,false,false,false,false] rfl rfl (any_of HT_.out kr) (fun _ _ _ h => h) (Or.inl ⟨by rfl,?_⟩) ?_ ?_
        rotate_left
        ·intro w'
         go_simp
         with_reducible rfl
        rotate_left
        ·exact vs
        refine pure_ (i:=4) (N:=some 18) (v:=?_) (a':=?_) #[true,true,true,true,true,false,false,false,false,false,false,false,false,false,false,false] rfl rfl (any_of HT_.out kr) (fun _ _ _ h => h) (Or.inl ⟨by rfl,?_⟩) ?_ ?_
        rotate_left
        ·intro w'
         go_simp
         with_reducible rfl
        rotate_left
        ·exact vs
        refine pure_ (i:=5) (N:=some 19) (v:=?_) (a':=?_) #[true,true,true,true,true,true,false,false,false,false,false,false,false,false,false,false] rfl rfl (any_of HT_.out kr) (fun _ _ _ h => h) (Or.inl ⟨by rfl,?_⟩) ?_ ?_
        rotate_left
        ·intro w'
         go_simp
         with_reducible rfl
        rotate_left
        ·exact vs
        refine pure_ (i:=6) (N:=some 20) (v:=?_) (a':=?_) #[true,true,true,true,true,true,true,false,false,false,false,false,false,false,false,false] rfl rfl (any_of HT_.out kr) (fun _ _ _ h => h) (Or.inl ⟨by rfl,?_⟩) ?_ ?_
        rotate_left
        ·intro w'
         go_simp
         with_reducible rfl
        rotate_left
        ·exact vs
        refine pure_ (i:=8) (N:=some 22) (v:=?_) (a':=?_) #[true,true,true,true,true,true,true,false,true,false,false,false,false,false,false,false] rfl rfl (any_of HT_.out kr) (fun _ _ _ h => h) (Or.inl ⟨by rfl,?_⟩) ?_ ?_
        rotate_left
        ·intro w'
         go_simp
         with_reducible rfl
        rotate_left
        ·exact vs
        refine pure_ (i:=9) (N:=some 23) (v:=?_) (a':=?_) #[true,true,true,true,true,true,true,false,true,true,false,false,false,false,false,false] rfl rfl (any_of HT_.out kr) (fun _ _ _ h => h) (Or.inl ⟨by rfl,?_⟩) ?_ ?_
        rotate_left
        ·intro w'
         go_simp
         with_reducible rfl
        rotate_left
        ·exact vs
        refine pure_ (i:=10) (N:=some 24) (v:=?_) (a':=?_) #[true,true,true,true,true,true,true,false,true,true,true,false,false,false,false,false] rfl rfl (any_of HT_.out kr) (fun _ _ _ h => h) (Or.inl ⟨by rfl,?_⟩) ?_ ?_
        rotate_left
        ·intro w'
         go_simp
         with_reducible rfl
        rotate_left
        ·exact vs
        refine take_ (i:=7) (N:=some 21) (v:=?_) (a':=?_) #[true,true,true,true,true,true,true,true,true,true,true,false,false,false,false,false] rfl rfl (take_ofW HT_.out HW_.out kr) (fun _ _ _ h => h) (Or.inl ⟨by rfl,?_⟩) hHeld ?_ ?_
        rotate_left
        ·rintro w' ⟨s0,s1,s2,s3⟩
         go_simp
         with_reducible rfl
        rotate_left
        ·exact vs
        refine take_ (i:=11) (N:=some 25) (v:=?_) (a':=?_) #[true,true,true,true,true,true,true,true,true,true,true,true,false,false,false,false] rfl rfl (take_ofW HT_.out HW_.out kr) (fun _ _ _ h => h) (Or.inl ⟨by rfl,?_⟩) hHeld ?_ ?_
        rotate_left
        ·rintro w' ⟨s0,s1,s2,s3⟩
         go_simp
         with_reducible rfl
        rotate_left
        ·exact vs
        refine pure_ (i:=12) (N:=some 26) (v:=?_) (a':=?_) #[true,true,true,true,true,true,true,true,true,true,true,true,true,false,false,false] rfl rfl (any_of HT_.out kr) (fun _ _ _ h => h) (Or.inl ⟨by rfl,?_⟩) ?_ ?_
        rotate_left
        ·intro w'
         go_simp
         with_reducible rfl
        rotate_left
        ·exact vs
        refine last_ (i:=13) (N:=none) #[true,true,true,true,true,true,true,true,true,true,true,true,true,true,false,false] rfl rfl (one_of HT_.out kr) (by decide) (fun K hK => ?_)
        refine skip_ (w1:=?_) (by rfl) rfl ?_ ?_
        rotate_left
        ·go_simp
         rfl
        refine hK.out _ _ ?_
        clear hK K
        refine pure_ (i:=14) (N:=some 27) (v:=?_) (a':=?_) #[true,true,true,true,true,true,true,true,true,true,true,true,true,true,true,false] rfl rfl (any_of HT_.out kr) (fun _ _ _ h => h) (Or.inl ⟨by rfl,?_⟩) ?_ ?_
        rotate_left
        ·intro w'
         go_simp
         with_reducible rfl
        rotate_left
        ·exact vs
        refine last_ (i:=15) (N:=none) #[true,true,true,true,true,true,true,true,true,true,true,true,true,true,true,true] rfl rfl (one_of HT_.out kr) (by decide) (fun K hK => ?_)
        refine skip_ (w1:=?_) (by rfl) rfl ?_ ?_
        rotate_left
        ·go_simp
         rfl
        refine hK.out _ _ ?_
        clear hK K
        refine done_ (done_of HT_.out kr) ?_
        try go_wp2
        (try simp only [← hl0_1])
        go_roundg k1
        case measure => have:=HK1.out;omega
        case rel => exact ⟨(y104),(wrap64 (x2_1 + 1)),(wrap64 (x3_1 - 1)),ve,ve,H',⟨by have:=HK1.out;omega⟩,⟨by (try simp only [hl0_1]);(with_reducible repeat (first|apply Kd.R_alloc|apply Kd.R_drewN|apply Kd.R_drew));exact HQ12.out⟩,⟨by repeat (first|(with_reducible first|exact HK.out|apply Kept.alloc|apply Kept.drewN|apply Kept.drew|refine Kept.setCell ?_ HMgo8.out _|refine Kept.setCell ?_ HMgo8.out _|refine Kept.setCell ?_ HMgo8.out _|refine Kept.setCell ?_ HMgo8.out _)|exact HK.out)⟩,⟨by repeat (first|(with_reducible first|exact HB.out|apply below_alloc|apply pw_below_drewN|apply below_drew1|refine below_set ?_ GB8.out|refine below_set ?_ GB8.out|refine below_set ?_ GB8.out|refine below_set ?_ GB8.out)|exact HB.out)⟩⟩
       ·rw [if_neg c7] at H
        exact absurd H (by simp)
      ·rw [if_neg c6] at H
       exact absurd H (by simp)
     ·rw [if_neg c5] at H
      exact absurd H (by simp)
    ·rw [if_neg c4] at H
     exact absurd H (by simp)
   ·rw [if_neg c3] at H
    have c3b0 : decide (x2_1 < x3_1) = false:=decide_eq_false c3
    clear c3
    obtain rfl:=Option.some.inj H
    go_wp2
    first|go_end0|((try simp only [Exit.inBlock,Exit.then]);refine bodyPost_ret (results_none rfl _ _ _) rfl ?_)
    exact ⟨vf,(by first|exact (by (with_reducible repeat (first|apply Kd.R_alloc|apply Kd.R_drewN|apply Kd.R_drew));exact HO_0.out)|(simp only [hl0_1];exact (by (with_reducible repeat (first|apply Kd.R_alloc|apply Kd.R_drewN|apply Kd.R_drew));exact HO_0.out))),by repeat (first|(with_reducible first|exact HB.out|apply below_alloc|apply pw_below_drewN|apply below_drew1)|exact HB.out),by repeat (first|(with_reducible first|exact HK.out|apply Kept.alloc|apply Kept.drewN|apply Kept.drew)|exact HK.out)⟩
def book_tree_halves.f (k : Nat) (a0_0 : Int) (a0_1 : Int) : Option (Int × Int × Int × Int):=(book_half.f k a0_1).bind fun t104 => (some (a0_0,t104,wrap64 (a0_0 + t104),wrap64 (a0_1 - t104)))
def book_tree_halves.T2 : Bool × List (List Nat × List Nat):=(true,[([],[]),([0],[0]),([],[]),([1,2],[1,2]),([],[]),([4],[4]),([],[]),([5,6],[5,6]),([],[]),([8],[8]),([],[]),([9,10],[9,10]),([7,11],[7,11]),([3,0,1,2,3],[3]),([12,13,0,1,2,3,4,5,6,7,8,9,10,11,12,13],[12])])
def book_tree_halves.B2 : List Nat:=[0,1,0,7,0,16,0,112,0,256,0,1792,4080,15,16383]
theorem book_tree_halves.tab2 : rtab .any (opsOf Try.f160 2) = book_tree_halves.T2:=by kernel_rfl
theorem book_tree_halves.bits2 : waitsOk book_tree_halves.T2.2 book_tree_halves.B2 = true:=by kernel_rfl
set_option maxHeartbeats 8000000 in
set_option maxRecDepth 100000 in
theorem book_tree_halves.calls (k : Nat) (a0_0 : Int) (a0_1 : Int) (r1 : Int) (r2 : Int) (r3 : Int) (r4 : Int) (w : World) (h : book_tree_halves.f k a0_0 a0_1 = some (r1,r2,r3,r4)) :
  Calls Try.prog 160 #[.agg #[.int .i64 a0_0,.int .i64 a0_1]] w fun e w' => e = .returned (.tuple #[.agg #[.int .i64 r1,.int .i64 r2],.agg #[.int .i64 r3,.int .i64 r4]]) ∧ Below w.heap.size w w':=by
 have hu164:=Try.underlying164
 have HB:=am (Below.refl w.heap.size w)
 have H : ((book_half.f k a0_1).bind fun t104 => (some (a0_0,t104,wrap64 (a0_0 + t104),wrap64 (a0_1 - t104)))) = some (r1,r2,r3,r4):=h
 clear h
 replace H:=Option.bind_eq_some_iff.mp H
 obtain ⟨t104,A20,H⟩:=H
 replace H : (some (a0_0,t104,wrap64 (a0_0 + t104),wrap64 (a0_1 - t104))) = some (r1,r2,r3,r4):=H
 have A2:=am A20
 clear A20
 simp only [Option.some.injEq,Prod.mk.injEq] at H
 obtain ⟨rfl,rfl,rfl,rfl⟩:=H
 go_enter Try.func160,Try.ntmps160
 try go_wp2_with (first|((with_reducible refine gate_dst (N:=1) rfl ?_);refine box_event ?hg (N:=1) ?hd (cs:=#[.int .i64 a0_0,.int .i64 a0_1]) (t:=164) ?hr ?_;(case hd => rfl);(case hg => rfl);(case hr => first|(go_simp;done)|(go_simp;rfl));intro gb101 hg w3 hbox hb;have n0_:=am (below_step (v0 HB.out) hb);have n1_:=am (hbox);have n2_:=am ((by rw [hg];exact (below_size (v0 HB.out)) : w.heap.size ≤ gb101));have n3_:=am ((by rw [hg];exact (below_size (v0 HB.out)) : w.heap.size ≤ gb101));clear HB;have HB:=n0_;have BK101:=n1_;have GW101:=n2_;have GE101:=n3_;clear n0_ n1_ n2_ n3_;clear hb hbox hg)|((with_reducible refine gate_dst (N:=2) rfl ?_);refine box_event ?hg (N:=2) ?hd (cs:=#[.int .i64 0,.int .i64 0]) (t:=164) ?hr ?_;(case hd => rfl);(case hg => rfl);(case hr => first|(go_simp;done)|(go_simp;rfl));intro gb102 hg w4 hbox hb;have n0_:=am (blk_below (g:=gb101) (o:=.cells #[.int .i64 a0_0,.int .i64 a0_1] 164 (0,0)) (vb BK101.out) hb);have n1_:=am (below_step (v1 HB.out GE101.out) hb);have n2_:=am (hbox);have n3_:=am ((by rw [hg];exact (below_size (v1 HB.out GE101.out)) : w.heap.size ≤ gb102));have n4_:=am ((by rw [hg];exact (below_size (v1 HB.out GE101.out)) : w.heap.size ≤ gb102));have n5_:=am ((by rw [hg];exact Nat.ne_of_lt (blk_lt (g:=gb101) (o:=.cells #[.int .i64 a0_0,.int .i64 a0_1] 164 (0,0)) (vb BK101.out)) : gb101 ≠ gb102));have n6_:=am ((by rw [hg];exact Nat.ne_of_gt (blk_lt (g:=gb101) (o:=.cells #[.int .i64 a0_0,.int .i64 a0_1] 164 (0,0)) (vb BK101.out)) : gb102 ≠ gb101));clear BK101;clear HB;have BK101:=n0_;have HB:=n1_;have BK102:=n2_;have GW102:=n3_;have GE102:=n4_;have NB101_102:=n5_;have NB102_101:=n6_;clear n0_ n1_ n2_ n3_ n4_ n5_ n6_;clear hb hbox hg)|((with_reducible refine gate_dst (N:=3) rfl ?_);refine box_event ?hg (N:=3) ?hd (cs:=#[.int .i64 0,.int .i64 0]) (t:=164) ?hr ?_;(case hd => rfl);(case hg => rfl);(case hr => first|(go_simp;done)|(go_simp;rfl));intro gb103 hg w5 hbox hb;have n0_:=am (blk_below (g:=gb101) (o:=.cells #[.int .i64 a0_0,.int .i64 a0_1] 164 (0,0)) (vb BK101.out) hb);have n1_:=am (blk_below (g:=gb102) (o:=.cells #[.int .i64 0,.int .i64 0] 164 (0,0)) (vb BK102.out) hb);have n2_:=am (below_step (v2 HB.out GE101.out GE102.out) hb);have n3_:=am (hbox);have n4_:=am ((by rw [hg];exact (below_size (v2 HB.out GE101.out GE102.out)) : w.heap.size ≤ gb103));have n5_:=am ((by rw [hg];exact (below_size (v2 HB.out GE101.out GE102.out)) : w.heap.size ≤ gb103));have n6_:=am ((by rw [hg];exact Nat.ne_of_lt (blk_lt (g:=gb101) (o:=.cells #[.int .i64 a0_0,.int .i64 a0_1] 164 (0,0)) (vb BK101.out)) : gb101 ≠ gb103));have n7_:=am ((by rw [hg];exact Nat.ne_of_gt (blk_lt (g:=gb101) (o:=.cells #[.int .i64 a0_0,.int .i64 a0_1] 164 (0,0)) (vb BK101.out)) : gb103 ≠ gb101));have n8_:=am ((by rw [hg];exact Nat.ne_of_lt (blk_lt (g:=gb102) (o:=.cells #[.int .i64 0,.int .i64 0] 164 (0,0)) (vb BK102.out)) : gb102 ≠ gb103));have n9_:=am ((by rw [hg];exact Nat.ne_of_gt (blk_lt (g:=gb102) (o:=.cells #[.int .i64 0,.int .i64 0] 164 (0,0)) (vb BK102.out)) : gb103 ≠ gb102));clear BK101;clear BK102;clear HB;have BK101:=n0_;have BK102:=n1_;have HB:=n2_;have BK103:=n3_;have GW103:=n4_;have GE103:=n5_;have NB101_103:=n6_;have NB103_101:=n7_;have NB102_103:=n8_;have NB103_102:=n9_;clear n0_ n1_ n2_ n3_ n4_ n5_ n6_ n7_ n8_ n9_;clear hb hbox hg;have hnb6:=NB101_102.out;have hnc6:=NB102_101.out;have hnb7:=NB101_103.out;have hnc7:=NB103_101.out;have hcz8_0 : w5.cell? ⟨gb101,0,none⟩ = some (.int .i64 a0_0):=(blk_cell BK101.out 0).trans rfl;have hcz8_1 : w5.cell? ⟨gb101,1,none⟩ = some (.int .i64 a0_1):=(blk_cell BK101.out 1).trans rfl;have hfz8_0:=blk_frozen BK101.out 0;have hfz8_1:=blk_frozen BK101.out 1)|((with_reducible refine gate_callee (f:=135) rfl ?_);refine goesL_ (some 7) rfl rfl Try.func135 kr rfl #[.int .i64 a0_1] rfl (by (try simp only [List.map_toArray,List.map_cons,List.map_nil]);first|done|rfl|(simp only [List.length_drop,List.length_take];rfl)) ?_;(with_reducible refine (book_half.calls k a0_1 t104 _ A2.out).mono ?_);rintro e w' ⟨rfl,⟨nd,rfl⟩⟩;refine ⟨_,rfl,?_⟩;(try (rw [drewN_self w5];generalize hq_ : World.drewN w5 _ = w5;have n0_ : Aside0 (w5.heap[gb101]? = some (.cells #[.int .i64 a0_0,.int .i64 a0_1] 164 (0,0))):=⟨by rw [← hq_];exact (vb BK101.out)⟩;have n1_ : Aside0 (w5.heap[gb102]? = some (.cells #[.int .i64 0,.int .i64 0] 164 (0,0))):=⟨by rw [← hq_];exact (vb BK102.out)⟩;have n2_ : Aside0 (w5.heap[gb103]? = some (.cells #[.int .i64 0,.int .i64 0] 164 (0,0))):=⟨by rw [← hq_];exact (vb BK103.out)⟩;have n3_ : Aside0 (Below w.heap.size w w5):=⟨by rw [← hq_];exact (v3 HB.out GE101.out GE102.out GE103.out)⟩;clear BK101 BK102 BK103 HB hq_;have BK101:=n0_;have BK102:=n1_;have BK103:=n2_;have HB:=n3_;clear n0_ n1_ n2_ n3_))))
 have n0_:=am (blk_drew BK101.out)
 have n1_:=am (blk_drew BK102.out)
 have n2_:=am (blk_drew BK103.out)
 have n3_:=am (below_drew1 HB.out)
 clear BK101
 clear BK102
 clear BK103
 clear HB
 have BK101:=n0_
 have BK102:=n1_
 have BK103:=n2_
 have HB:=n3_
 clear n0_ n1_ n2_ n3_
 refine start_ (n:=15) (S:=fun w' => w'.cell? ⟨gb101,0,none⟩ = some (.int .i64 a0_0) ∧ w'.cell? ⟨gb101,1,none⟩ = some (.int .i64 a0_1)) (ds:=[]) #[false,false,false,false,false,false,false,false,false,false,false,false,false,false,false] kr rfl rfl ⟨(blk_cell BK101.out 0).trans rfl,(blk_cell BK101.out 1).trans rfl⟩ (fun hHeld => ?_);refine with_tabW book_tree_halves.tab2 book_tree_halves.bits2 (fun HT_ HW_ => ?_)
 generalize w5.drew = w9 at BK101 BK102 BK103 HB hHeld ⊢
 refine pure_ (i:=0) (N:=some 8) (v:=?_) (a':=?_) #[true,false,false,false,false,false,false,false,false,false,false,false,false,false,false] rfl rfl (any_of HT_.out kr) (fun _ _ _ h => h) (Or.inl ⟨by rfl,?_⟩) ?_ ?_
 rotate_left
 ·intro w'
  go_simp
  with_reducible rfl
 rotate_left
 ·exact vs
 refine pure_ (i:=2) (N:=some 10) (v:=?_) (a':=?_) #[true,false,true,false,false,false,false,false,false,false,false,false,false,false,false] rfl rfl (any_of HT_.out kr) (fun _ _ _ h => h) (Or.inl ⟨by rfl,?_⟩) ?_ ?_
 rotate_left
 ·intro w'
  go_simp
  with_reducible rfl
 rotate_left
 ·exact vs
 refine pure_ (i:=4) (N:=some 12) (v:=?_) (a':=?_) #[true,false,true,false,true,false,false,false,false,false,false,false,false,false,false] rfl rfl (any_of HT_.out kr) (fun _ _ _ h => h) (Or.inl ⟨by rfl,?_⟩) ?_ ?_
 rotate_left
 ·intro w'
  go_simp
  with_reducible rfl
 rotate_left
 ·exact vs
 refine pure_ (i:=6) (N:=some 14) (v:=?_) (a':=?_) #[true,false,true,false,true,false,true,false,false,false,false,false,false,false,false] rfl rfl (any_of HT_.out kr) (fun _ _ _ h => h) (Or.inl ⟨by rfl,?_⟩) ?_ ?_
 rotate_left
 ·intro w'
  go_simp
  with_reducible rfl
 rotate_left
 ·exact vs
 refine pure_ (i:=8) (N:=some 16) (v:=?_) (a':=?_) #[true,false,true,false,true,false,true,false,true,false,false,false,false,false,false] rfl rfl (any_of HT_.out kr) (fun _ _ _ h => h) (Or.inl ⟨by rfl,?_⟩) ?_ ?_
 rotate_left
 ·intro w'
  go_simp
  with_reducible rfl
 rotate_left
 ·exact vs
 refine pure_ (i:=10) (N:=some 18) (v:=?_) (a':=?_) #[true,false,true,false,true,false,true,false,true,false,true,false,false,false,false] rfl rfl (any_of HT_.out kr) (fun _ _ _ h => h) (Or.inl ⟨by rfl,?_⟩) ?_ ?_
 rotate_left
 ·intro w'
  go_simp
  with_reducible rfl
 rotate_left
 ·exact vs
 refine take_ (i:=1) (N:=some 9) (v:=?_) (a':=?_) #[true,true,true,false,true,false,true,false,true,false,true,false,false,false,false] rfl rfl (take_ofW HT_.out HW_.out kr) (fun _ _ _ h => h) (Or.inl ⟨by rfl,?_⟩) hHeld ?_ ?_
 rotate_left
 ·rintro w' ⟨s0,s1⟩
  go_simp
  with_reducible rfl
 rotate_left
 ·exact vs
 refine pure_ (i:=3) (N:=some 11) (v:=?_) (a':=?_) #[true,true,true,true,true,false,true,false,true,false,true,false,false,false,false] rfl rfl (any_of HT_.out kr) (fun _ _ _ h => h) (Or.inl ⟨by rfl,?_⟩) ?_ ?_
 rotate_left
 ·intro w'
  go_simp
  with_reducible rfl
 rotate_left
 ·exact vs
 refine take_ (i:=5) (N:=some 13) (v:=?_) (a':=?_) #[true,true,true,true,true,true,true,false,true,false,true,false,false,false,false] rfl rfl (take_ofW HT_.out HW_.out kr) (fun _ _ _ h => h) (Or.inl ⟨by rfl,?_⟩) hHeld ?_ ?_
 rotate_left
 ·rintro w' ⟨s0,s1⟩
  go_simp
  with_reducible rfl
 rotate_left
 ·exact vs
 refine pure_ (i:=7) (N:=some 15) (v:=?_) (a':=?_) #[true,true,true,true,true,true,true,true,true,false,true,false,false,false,false] rfl rfl (any_of HT_.out kr) (fun _ _ _ h => h) (Or.inl ⟨by rfl,?_⟩) ?_ ?_
 rotate_left
 ·intro w'
  go_simp
  with_reducible rfl
 rotate_left
 ·exact vs
 refine take_ (i:=9) (N:=some 17) (v:=?_) (a':=?_) #[true,true,true,true,true,true,true,true,true,true,true,false,false,false,false] rfl rfl (take_ofW HT_.out HW_.out kr) (fun _ _ _ h => h) (Or.inl ⟨by rfl,?_⟩) hHeld ?_ ?_
 rotate_left
 ·rintro w' ⟨s0,s1⟩
  go_simp
  with_reducible rfl
 rotate_left
 ·exact vs
 refine pure_ (i:=11) (N:=some 19) (v:=?_) (a':=?_) #[true,true,true,true,true,true,true,true,true,true,true,true,false,false,false] rfl rfl (any_of HT_.out kr) (fun _ _ _ h => h) (Or.inl ⟨by rfl,?_⟩) ?_ ?_
 rotate_left
 ·intro w'
  go_simp
  with_reducible rfl
 rotate_left
 ·exact vs
 refine pure_ (i:=12) (N:=some 20) (v:=?_) (a':=?_) #[true,true,true,true,true,true,true,true,true,true,true,true,true,false,false] rfl rfl (any_of HT_.out kr) (fun _ _ _ h => h) (Or.inl ⟨by rfl,?_⟩) ?_ ?_
 rotate_left
 ·intro w'
  go_simp
  with_reducible rfl
 rotate_left
 ·exact vs
 refine one_ (i:=13) (N:=none) #[true,true,true,true,true,true,true,true,true,true,true,true,true,true,false] rfl rfl (one_of HT_.out kr) (by decide) (fun K hK => ?_)
 have hs10 : w9.cell? ⟨gb102,0,none⟩ = some (.int .i64 0):=(blk_cell BK102.out 0).trans rfl
 have hfs10:=blk_frozen BK102.out 0
 have hns10_0:=NB101_102.out
 have hns10_2:=NB103_102.out
 have hms10_0:=NB102_101.out
 have hms10_2:=NB102_103.out
 have hs11 : w9.cell? ⟨gb102,1,none⟩ = some (.int .i64 0):=(blk_cell BK102.out 1).trans rfl
 have hfs11:=blk_frozen BK102.out 1
 have hns11_0:=NB101_102.out
 have hns11_2:=NB103_102.out
 have hms11_0:=NB102_101.out
 have hms11_2:=NB102_103.out
 refine skip_ (w1:=?_) (by rfl) rfl ?_ ?_
 rotate_left
 ·go_simp
  rfl
 refine hK.out _ _ ⟨((cell_far (p:=⟨gb102,_,none⟩) NB101_102.out _).trans (((cell_far (p:=⟨gb102,_,none⟩) NB101_102.out _).trans (hHeld.1)))),((cell_far (p:=⟨gb102,_,none⟩) NB101_102.out _).trans (((cell_far (p:=⟨gb102,_,none⟩) NB101_102.out _).trans (hHeld.2))))⟩ (fun hHeld => ?_)
 clear hK K
 refine one_ (i:=14) (N:=none) #[true,true,true,true,true,true,true,true,true,true,true,true,true,true,true] rfl rfl (one_of HT_.out kr) (by decide) (fun K hK => ?_)
 have hs12 : w9.cell? ⟨gb103,0,none⟩ = some (.int .i64 0):=(blk_cell BK103.out 0).trans rfl
 have hfs12:=blk_frozen BK103.out 0
 have hns12_0:=NB101_103.out
 have hns12_1:=NB102_103.out
 have hms12_0:=NB103_101.out
 have hms12_1:=NB103_102.out
 have hs13 : w9.cell? ⟨gb103,1,none⟩ = some (.int .i64 0):=(blk_cell BK103.out 1).trans rfl
 have hfs13:=blk_frozen BK103.out 1
 have hns13_0:=NB101_103.out
 have hns13_1:=NB102_103.out
 have hms13_0:=NB103_101.out
 have hms13_1:=NB103_102.out
 refine skip_ (w1:=?_) (by rfl) rfl ?_ ?_
 rotate_left
 ·go_simp
  rfl
 refine hK.out _ _ ⟨((cell_far (p:=⟨gb103,_,none⟩) NB101_103.out _).trans (((cell_far (p:=⟨gb103,_,none⟩) NB101_103.out _).trans (hHeld.1)))),((cell_far (p:=⟨gb103,_,none⟩) NB101_103.out _).trans (((cell_far (p:=⟨gb103,_,none⟩) NB101_103.out _).trans (hHeld.2))))⟩ (fun hHeld => ?_)
 clear hK K
 refine done_ (done_of HT_.out kr) ?_
 try go_wp2
 refine bodyPost_ret (results_cc rfl _ _ gb102 gb103 164 164 #[.int .i64 a0_0,.int .i64 t104] #[.int .i64 (wrap64 (a0_0 + t104)),.int .i64 (wrap64 (a0_1 - t104))] (0,0) (0,0) _ _ rfl (by (with_reducible repeat (first|refine blk_drewN ?_ _|refine blk_drew ?_|refine blk_alloc ?_ _));refine blk_far ?_ NB102_103.out _;(with_reducible repeat (first|refine blk_drewN ?_ _|refine blk_drew ?_|refine blk_alloc ?_ _));refine blk_far ?_ NB102_103.out _;(with_reducible repeat (first|refine blk_drewN ?_ _|refine blk_drew ?_|refine blk_alloc ?_ _));refine blk_put (cs:=#[.int .i64 a0_0,.int .i64 0]) ?_ 1 _ rfl;(with_reducible repeat (first|refine blk_drewN ?_ _|refine blk_drew ?_|refine blk_alloc ?_ _));refine blk_put (cs:=#[.int .i64 0,.int .i64 0]) ?_ 0 _ rfl;(with_reducible repeat (first|refine blk_drewN ?_ _|refine blk_drew ?_|refine blk_alloc ?_ _));exact BK102.out) Try.underlying164 rfl kr rfl (by (with_reducible repeat (first|refine blk_drewN ?_ _|refine blk_drew ?_|refine blk_alloc ?_ _));refine blk_put (cs:=#[.int .i64 (wrap64 (a0_0 + t104)),.int .i64 0]) ?_ 1 _ rfl;(with_reducible repeat (first|refine blk_drewN ?_ _|refine blk_drew ?_|refine blk_alloc ?_ _));refine blk_put (cs:=#[.int .i64 0,.int .i64 0]) ?_ 0 _ rfl;(with_reducible repeat (first|refine blk_drewN ?_ _|refine blk_drew ?_|refine blk_alloc ?_ _));refine blk_far ?_ NB103_102.out _;(with_reducible repeat (first|refine blk_drewN ?_ _|refine blk_drew ?_|refine blk_alloc ?_ _));refine blk_far ?_ NB103_102.out _;(with_reducible repeat (first|refine blk_drewN ?_ _|refine blk_drew ?_|refine blk_alloc ?_ _));exact BK103.out) Try.underlying164 rfl kr) rfl ?_
 exact ⟨vf,v3 HB.out GE101.out GE102.out GE103.out⟩
end Go.Proofs.Ytmfphlfakmnbmaa.B
end
