import Derived.Test.YtmfphlfakmnbmaaQ1
import Derived.Test.YtmfphlfakmnbmaaQ2
import Derived.Test.YtmfphlfakmnbmaaQ3
import Derived.Test.YtmfphlfakmnbmaaQ4
set_option linter.unusedVariables false
set_option linter.unusedSimpArgs false
section
namespace Go.Proofs.Ytmfphlfakmnbmaa.B
open Go.RowKit Go.Proofs.YtmfphlfakmnbmaaW.PrintWords Go.Proofs.YtmfphlfakmnbmaaW.PrintLast Go.Proofs.YtmfphlfakmnbmaaW.PrintMore
attribute [local go_sem] max2_int min2_int max_two min_two max_three min_three max_four min_four
def calxref08_Root.f (k : Nat) (l0 : List (S29)) : Option (Int × Int):=(calxref08_Check.f k l0).bind fun t101 => (if t101 = 0 then ((calxref08_root.f l0).bind fun t102 => (some (t102,0))) else (some (0,t101)))
theorem calxref08_Root.mono : ∀ a0 k,LeO (calxref08_Root.f k a0) (calxref08_Root.f (k + 1) a0):=by
 intro a0 k
 unfold calxref08_Root.f
 repeat' first
  |(with_reducible exact calxref08_Check.mono _ _)
  |(with_reducible exact LeO.refl _)
  |(with_reducible exact LeO.none _)
  |(with_reducible refine LeO.ite ?_ ?_)
  |(with_reducible refine LeO.bind ?_ (fun _ => ?_))
  |exact calxref08_Check.mono _ _
  |exact LeO.none _
  |refine LeO.ite ?_ ?_
  |refine LeO.bind ?_ (fun _ => ?_)
set_option maxHeartbeats 8000000 in
set_option maxRecDepth 100000 in
theorem calxref08_Root.calls (k : Nat) (A0 : Option Addr) (c0 : Nat) (l0 : List (S29)) (r1 : Int) (r2 : Int) (w : World) (hr0 : Kd.C k29 w A0 l0.length l0) (hc0 : l0.length ≤ c0) (h : calxref08_Root.f k l0 = some (r1,r2)) :
  Calls Try.prog 40 #[.slice A0 l0.length c0] w fun e w' => e = .returned (.tuple #[.int .i64 r1,.int .i64 r2]) ∧ Below w.heap.size w w':=by
 have HR0:=am hr0
 have HC0:=am hc0
 clear hr0 hc0
 have HB:=am (Below.refl w.heap.size w)
 have H : ((calxref08_Check.f k l0).bind fun t101 => (if t101 = 0 then ((calxref08_root.f l0).bind fun t102 => (some (t102,0))) else (some (0,t101)))) = some (r1,r2):=h
 clear h
 replace H:=Option.bind_eq_some_iff.mp H
 obtain ⟨t101,A20,H⟩:=H
 replace H : (if t101 = 0 then ((calxref08_root.f l0).bind fun t102 => (some (t102,0))) else (some (0,t101))) = some (r1,r2):=H
 have A2:=am A20
 clear A20
 by_cases c3 : t101 = 0
 ·rw [if_pos c3] at H
  have c3b0 : (t101 == 0) = true:=beq_iff_eq.mpr c3
  have c3b1 : (t101 != 0) = false:=bne_eq_false_iff_eq.mpr c3
  clear c3
  replace H:=Option.bind_eq_some_iff.mp H
  obtain ⟨t102,A40,H⟩:=H
  replace H : (some (t102,0)) = some (r1,r2):=H
  have A4:=am A40
  clear A40
  simp only [Option.some.injEq,Prod.mk.injEq] at H
  obtain ⟨rfl,rfl⟩:=H
  go_enter Try.func40,Try.ntmps40
  go_wp2_with (first|((with_reducible refine gate_callee (f:=43) rfl ?_);refine goesL_ (some 6) rfl rfl Try.func43 kr rfl #[.slice A0 l0.length c0] rfl (by (try simp only [List.map_toArray,List.map_cons,List.map_nil]);first|done|rfl|(simp only [List.length_drop,List.length_take];rfl)) ?_;(with_reducible refine (calxref08_Check.calls k _ _ l0 t101 _ ?side1 ?side2 A2.out).mono ?_);(case side1 => repeat (first|exact HR0.out|(with_reducible refine Kd.C_alloc ?_ _)|(with_reducible refine Kd.C_drewN ?_ _)|(with_reducible refine Kd.C_drew ?_)));(case side2 => exact HC0.out);rintro e w5 ⟨rfl,hb⟩;refine ⟨_,rfl,?_⟩;have n0_:=am (below_step (v0 HB.out) hb);clear HB;have HB:=n0_;clear n0_;(try clear hb);(try clear hb2);(try clear hk);(try clear hi))|((with_reducible refine gate_callee (f:=106) rfl ?_);refine goesL_ (some 11) rfl rfl Try.func106 kr rfl #[.slice A0 l0.length c0] rfl (by (try simp only [List.map_toArray,List.map_cons,List.map_nil]);first|done|rfl|(simp only [List.length_drop,List.length_take];rfl)) ?_;(with_reducible refine (calxref08_root.calls _ _ l0 t102 _ ?side1 ?side2 A4.out).mono ?_);(case side1 => repeat (first|exact (Kd.C_below HR0.out HB.out)|(with_reducible refine Kd.C_alloc ?_ _)|(with_reducible refine Kd.C_drewN ?_ _)|(with_reducible refine Kd.C_drew ?_)));(case side2 => exact HC0.out);rintro e w6 ⟨rfl,hb⟩;refine ⟨_,rfl,?_⟩;have n0_:=am (below_step (v0 HB.out) hb);clear HB;have HB:=n0_;clear n0_;(try clear hb);(try clear hb2);(try clear hk);(try clear hi)))
  go_ret2
  exact ⟨vf,v0 HB.out⟩
 ·rw [if_neg c3] at H
  have c3b0 : (t101 == 0) = false:=beq_eq_false_iff_ne.mpr c3
  have c3b1 : (t101 != 0) = true:=bne_iff_ne.mpr c3
  simp only [Option.some.injEq,Prod.mk.injEq] at H
  obtain ⟨rfl,rfl⟩:=H
  go_enter Try.func40,Try.ntmps40
  go_wp2_with (first|((with_reducible refine gate_callee (f:=43) rfl ?_);refine goesL_ (some 6) rfl rfl Try.func43 kr rfl #[.slice A0 l0.length c0] rfl (by (try simp only [List.map_toArray,List.map_cons,List.map_nil]);first|done|rfl|(simp only [List.length_drop,List.length_take];rfl)) ?_;(with_reducible refine (calxref08_Check.calls k _ _ l0 t101 _ ?side1 ?side2 A2.out).mono ?_);(case side1 => repeat (first|exact HR0.out|(with_reducible refine Kd.C_alloc ?_ _)|(with_reducible refine Kd.C_drewN ?_ _)|(with_reducible refine Kd.C_drew ?_)));(case side2 => exact HC0.out);rintro e w7 ⟨rfl,hb⟩;refine ⟨_,rfl,?_⟩;have n0_:=am (below_step (v0 HB.out) hb);clear HB;have HB:=n0_;clear n0_;(try clear hb);(try clear hb2);(try clear hk);(try clear hi)))
  go_ret2
  exact ⟨vf,v0 HB.out⟩
def rootA (l : List S29) : Int × Int:=if checkP l = 0 then (rootP l,0) else (0,checkP l)
theorem ref_Root_is (l : List S29) : calxref08_Root.f 100 l = some (rootA l):=by
 unfold calxref08_Root.f rootA
 rw [ref_check l (by omega)]
 simp only [Option.bind_some]
 by_cases h : checkP l = 0
 ·rw [if_pos h,if_pos h]
  unfold calxref08_root.f
  rw [if_pos (check_len h)]
  rfl
 ·rw [if_neg h,if_neg h]
def R170_2.T : Bool × List (List Nat × List Nat):=(true,[([],[]),([0],[0]),([],[]),([2],[2]),([],[]),([4],[4]),([3,5],[3,5]),([1,6],[1,6]),([],[]),([8],[8]),([],[]),([10],[10]),([9,11],[9,11]),([],[]),([],[]),([14],[14]),([12,13,15],[12,13,15]),([7,0,1,2,3,4,5,6,7],[7]),([16,17,0,1,2,3,4,5,6,7,8,9,10,11,12,13,14,15,16,17],[16])])
def R170_2.B : List Nat:=[0,1,0,4,0,16,60,127,0,256,0,1024,3840,0,0,16384,65280,255,262143]
theorem R170_2.tab : rtab .any (opsOf Try.f170 2) = R170_2.T:=by kernel_rfl
theorem R170_2.bits : waitsOk R170_2.T.2 R170_2.B = true:=by kernel_rfl
def R170_3.T : Bool × List (List Nat × List Nat):=(true,[([],[]),([0],[0]),([],[]),([2],[2]),([],[]),([4],[4]),([3,5],[3,5]),([1,6],[1,6]),([],[]),([8],[8]),([],[]),([10],[10]),([9,11],[9,11]),([],[]),([13],[13]),([],[]),([12,14,15],[12,14,15]),([7,0,1,2,3,4,5,6,7],[7]),([16,17,0,1,2,3,4,5,6,7,8,9,10,11,12,13,14,15,16,17],[16])])
def R170_3.B : List Nat:=[0,1,0,4,0,16,60,127,0,256,0,1024,3840,0,8192,0,65280,255,262143]
theorem R170_3.tab : rtab .any (opsOf Try.f170 3) = R170_3.T:=by kernel_rfl
theorem R170_3.bits : waitsOk R170_3.T.2 R170_3.B = true:=by kernel_rfl
def joinT (t : S164) (y : S129) : S164:=if y.f0 > t.f0 then ⟨t.f0,wrap64 (t.f1 + y.f1)⟩ else ⟨y.f0,wrap64 (t.f1 + y.f1)⟩
def joinN (t : S164) (d : Int) (y : S129) : List Int:=if y.f0 > t.f0 then [1,wrap64 (t.f1 + y.f1),d,y.f2] else [1,wrap64 (t.f1 + y.f1),y.f2,d]
set_option maxRecDepth 100000 in
set_option maxHeartbeats 2000000 in
theorem join_calls (t : S164) (d : Int) (y : S129) (w : World) :
  Calls Try.prog 170 #[.agg #[.int .i64 t.f0,.int .i64 t.f1],.int .i64 d,.agg #[.int .i64 y.f0,.int .i64 y.f1,.int .i64 y.f2]] w fun e w' => e = .returned (.tuple #[.agg #[.int .i64 (joinT t y).f0,.int .i64 (joinT t y).f1],.agg (nums .i64 (joinN t d y)).toArray]) ∧ Below w.heap.size w w':=by
 obtain ⟨a,b⟩:=t
 obtain ⟨p,q,r⟩:=y
 unfold joinT joinN
 dsimp only
 have hu164:=Try.underlying164
 have hu223:=Try.underlying223
 by_cases hpa : p > a
 ·rw [if_pos hpa,if_pos hpa]
  go_enter Try.func170,Try.ntmps170
  go_wp2
  have BK0:=am (blk_drew (blk_alloc (blk_alloc (blk_alloc (blk_new' w (.cells #[.int .i64 a,.int .i64 b] 164) w.heap.size rfl) (.cells #[.int .i64 p,.int .i64 q,.int .i64 r] 129)) (.cells #[.int .i64 0,.int .i64 0] 164)) (.cells #[.int .i64 0,.int .i64 0,.int .i64 0,.int .i64 0] 223)))
  have BK1:=am (blk_drew (blk_alloc (blk_alloc (blk_new' (w.alloc (.cells #[.int .i64 a,.int .i64 b] 164)) (.cells #[.int .i64 p,.int .i64 q,.int .i64 r] 129) (w.heap.size + 1) (by simp)) (.cells #[.int .i64 0,.int .i64 0] 164)) (.cells #[.int .i64 0,.int .i64 0,.int .i64 0,.int .i64 0] 223)))
  have BK2:=am (blk_drew (blk_alloc (blk_new' ((w.alloc (.cells #[.int .i64 a,.int .i64 b] 164)).alloc (.cells #[.int .i64 p,.int .i64 q,.int .i64 r] 129)) (.cells #[.int .i64 0,.int .i64 0] 164) (w.heap.size + 1 + 1) (by simp)) (.cells #[.int .i64 0,.int .i64 0,.int .i64 0,.int .i64 0] 223)))
  have BK3:=am (blk_drew (blk_new' (((w.alloc (.cells #[.int .i64 a,.int .i64 b] 164)).alloc (.cells #[.int .i64 p,.int .i64 q,.int .i64 r] 129)).alloc (.cells #[.int .i64 0,.int .i64 0] 164)) (.cells #[.int .i64 0,.int .i64 0,.int .i64 0,.int .i64 0] 223) (w.heap.size + 1 + 1 + 1) (by simp)))
  have HB:=am (below_drew1 (below_alloc (below_alloc (below_alloc (below_alloc (Below.refl w.heap.size w) (.cells #[.int .i64 a,.int .i64 b] 164)) (.cells #[.int .i64 p,.int .i64 q,.int .i64 r] 129)) (.cells #[.int .i64 0,.int .i64 0] 164)) (.cells #[.int .i64 0,.int .i64 0,.int .i64 0,.int .i64 0] 223)))
  refine start_ (n:=19) (S:=fun w' => w'.cell? ⟨w.heap.size,0,none⟩ = some (.int .i64 a) ∧ w'.cell? ⟨w.heap.size,1,none⟩ = some (.int .i64 b) ∧ w'.cell? ⟨w.heap.size + 1,0,none⟩ = some (.int .i64 p) ∧ w'.cell? ⟨w.heap.size + 1,1,none⟩ = some (.int .i64 q) ∧ w'.cell? ⟨w.heap.size + 1,2,none⟩ = some (.int .i64 r)) (ds:=[]) #[false,false,false,false,false,false,false,false,false,false,false,false,false,false,false,false,false,false,false] kr rfl rfl ⟨(blk_cell BK0.out 0).trans rfl,(blk_cell BK0.out 1).trans rfl,(blk_cell BK1.out 0).trans rfl,(blk_cell BK1.out 1).trans rfl,(blk_cell BK1.out 2).trans rfl⟩ (fun hHeld => ?_);refine with_tabW R170_2.tab R170_2.bits (fun HT_ HW_ => ?_)
  generalize (((((w.alloc (.cells #[.int .i64 a,.int .i64 b] 164)).alloc (.cells #[.int .i64 p,.int .i64 q,.int .i64 r] 129)).alloc (.cells #[.int .i64 0,.int .i64 0] 164)).alloc (.cells #[.int .i64 0,.int .i64 0,.int .i64 0,.int .i64 0] 223))).drew = wd at BK0 BK1 BK2 BK3 HB hHeld ⊢
  refine pure_ (i:=0) (N:=(some 13)) (v:=?_) (a':=?_) #[true,false,false,false,false,false,false,false,false,false,false,false,false,false,false,false,false,false,false] rfl rfl (any_of HT_.out kr) (fun _ _ _ h => h) (Or.inl ⟨by rfl,?_⟩) ?_ ?_
  rotate_left
  ·intro w'
   go_simp
   with_reducible rfl
  rotate_left
  ·exact vs
  refine take_ (i:=1) (N:=(some 14)) (v:=?_) (a':=?_) #[true,true,false,false,false,false,false,false,false,false,false,false,false,false,false,false,false,false,false] rfl rfl (take_ofW HT_.out HW_.out kr) (fun _ _ _ h => h) (Or.inl ⟨by rfl,?_⟩) hHeld ?_ ?_
  rotate_left
  ·rintro w' ⟨s0,s1,s2,s3,s4⟩
   go_simp
   with_reducible rfl
  rotate_left
  ·exact vs
  refine pure_ (i:=2) (N:=(some 15)) (v:=?_) (a':=?_) #[true,true,true,false,false,false,false,false,false,false,false,false,false,false,false,false,false,false,false] rfl rfl (any_of HT_.out kr) (fun _ _ _ h => h) (Or.inl ⟨by rfl,?_⟩) ?_ ?_
  rotate_left
  ·intro w'
   go_simp
   with_reducible rfl
  rotate_left
  ·exact vs
  refine take_ (i:=3) (N:=(some 16)) (v:=?_) (a':=?_) #[true,true,true,true,false,false,false,false,false,false,false,false,false,false,false,false,false,false,false] rfl rfl (take_ofW HT_.out HW_.out kr) (fun _ _ _ h => h) (Or.inl ⟨by rfl,?_⟩) hHeld ?_ ?_
  rotate_left
  ·rintro w' ⟨s0,s1,s2,s3,s4⟩
   go_simp
   with_reducible rfl
  rotate_left
  ·exact vs
  refine pure_ (i:=4) (N:=(some 17)) (v:=?_) (a':=?_) #[true,true,true,true,true,false,false,false,false,false,false,false,false,false,false,false,false,false,false] rfl rfl (any_of HT_.out kr) (fun _ _ _ h => h) (Or.inl ⟨by rfl,?_⟩) ?_ ?_
  rotate_left
  ·intro w'
   go_simp
   with_reducible rfl
  rotate_left
  ·exact vs
  refine take_ (i:=5) (N:=(some 18)) (v:=?_) (a':=?_) #[true,true,true,true,true,true,false,false,false,false,false,false,false,false,false,false,false,false,false] rfl rfl (take_ofW HT_.out HW_.out kr) (fun _ _ _ h => h) (Or.inl ⟨by rfl,?_⟩) hHeld ?_ ?_
  rotate_left
  ·rintro w' ⟨s0,s1,s2,s3,s4⟩
   go_simp
   with_reducible rfl
  rotate_left
  ·exact vs
  refine pure_ (i:=6) (N:=(some 19)) (v:=?_) (a':=?_) #[true,true,true,true,true,true,true,false,false,false,false,false,false,false,false,false,false,false,false] rfl rfl (any_of HT_.out kr) (fun _ _ _ h => h) (Or.inl ⟨by rfl,?_⟩) ?_ ?_
  rotate_left
  ·intro w'
   go_simp
   with_reducible rfl
  rotate_left
  ·exact vs
  refine pure_ (i:=7) (N:=(some 20)) (v:=?_) (a':=?_) #[true,true,true,true,true,true,true,true,false,false,false,false,false,false,false,false,false,false,false] rfl rfl (any_of HT_.out kr) (fun _ _ _ h => h) (Or.inl ⟨by rfl,?_⟩) ?_ ?_
  rotate_left
  ·intro w'
   go_simp
   with_reducible rfl
  rotate_left
  ·exact vs
  refine pure_ (i:=8) (N:=(some 21)) (v:=?_) (a':=?_) #[true,true,true,true,true,true,true,true,true,false,false,false,false,false,false,false,false,false,false] rfl rfl (any_of HT_.out kr) (fun _ _ _ h => h) (Or.inl ⟨by rfl,?_⟩) ?_ ?_
  rotate_left
  ·intro w'
   go_simp
   with_reducible rfl
  rotate_left
  ·exact vs
  refine take_ (i:=9) (N:=(some 22)) (v:=?_) (a':=?_) #[true,true,true,true,true,true,true,true,true,true,false,false,false,false,false,false,false,false,false] rfl rfl (take_ofW HT_.out HW_.out kr) (fun _ _ _ h => h) (Or.inl ⟨by rfl,?_⟩) hHeld ?_ ?_
  rotate_left
  ·rintro w' ⟨s0,s1,s2,s3,s4⟩
   go_simp
   with_reducible rfl
  rotate_left
  ·exact vs
  refine pure_ (i:=10) (N:=(some 23)) (v:=?_) (a':=?_) #[true,true,true,true,true,true,true,true,true,true,true,false,false,false,false,false,false,false,false] rfl rfl (any_of HT_.out kr) (fun _ _ _ h => h) (Or.inl ⟨by rfl,?_⟩) ?_ ?_
  rotate_left
  ·intro w'
   go_simp
   with_reducible rfl
  rotate_left
  ·exact vs
  refine take_ (i:=11) (N:=(some 24)) (v:=?_) (a':=?_) #[true,true,true,true,true,true,true,true,true,true,true,true,false,false,false,false,false,false,false] rfl rfl (take_ofW HT_.out HW_.out kr) (fun _ _ _ h => h) (Or.inl ⟨by rfl,?_⟩) hHeld ?_ ?_
  rotate_left
  ·rintro w' ⟨s0,s1,s2,s3,s4⟩
   go_simp
   with_reducible rfl
  rotate_left
  ·exact vs
  refine pure_ (i:=12) (N:=(some 25)) (v:=?_) (a':=?_) #[true,true,true,true,true,true,true,true,true,true,true,true,true,false,false,false,false,false,false] rfl rfl (any_of HT_.out kr) (fun _ _ _ h => h) (Or.inl ⟨by rfl,?_⟩) ?_ ?_
  rotate_left
  ·intro w'
   go_simp
   with_reducible rfl
  rotate_left
  ·exact vs
  refine pure_ (i:=13) (N:=(some 26)) (v:=?_) (a':=?_) #[true,true,true,true,true,true,true,true,true,true,true,true,true,true,false,false,false,false,false] rfl rfl (any_of HT_.out kr) (fun _ _ _ h => h) (Or.inl ⟨by rfl,?_⟩) ?_ ?_
  rotate_left
  ·intro w'
   go_simp
   with_reducible rfl
  rotate_left
  ·exact vs
  refine pure_ (i:=14) (N:=(some 27)) (v:=?_) (a':=?_) #[true,true,true,true,true,true,true,true,true,true,true,true,true,true,true,false,false,false,false] rfl rfl (any_of HT_.out kr) (fun _ _ _ h => h) (Or.inl ⟨by rfl,?_⟩) ?_ ?_
  rotate_left
  ·intro w'
   go_simp
   with_reducible rfl
  rotate_left
  ·exact vs
  refine take_ (i:=15) (N:=(some 28)) (v:=?_) (a':=?_) #[true,true,true,true,true,true,true,true,true,true,true,true,true,true,true,true,false,false,false] rfl rfl (take_ofW HT_.out HW_.out kr) (fun _ _ _ h => h) (Or.inl ⟨by rfl,?_⟩) hHeld ?_ ?_
  rotate_left
  ·rintro w' ⟨s0,s1,s2,s3,s4⟩
   go_simp
   with_reducible rfl
  rotate_left
  ·exact vs
  refine pure_ (i:=16) (N:=(some 29)) (v:=?_) (a':=?_) #[true,true,true,true,true,true,true,true,true,true,true,true,true,true,true,true,true,false,false] rfl rfl (any_of HT_.out kr) (fun _ _ _ h => h) (Or.inl ⟨by rfl,?_⟩) ?_ ?_
  rotate_left
  ·intro w'
   go_simp
   with_reducible rfl
  rotate_left
  ·exact vs
  refine one_ (i:=17) (N:=none) #[true,true,true,true,true,true,true,true,true,true,true,true,true,true,true,true,true,true,false] rfl rfl (one_of HT_.out kr) (by decide) (fun K hK => ?_)
  have hc0 : wd.cell? ⟨w.heap.size + 1 + 1,0,none⟩ = some (.int .i64 0):=(blk_cell BK2.out 0).trans rfl
  have hc1 : wd.cell? ⟨w.heap.size + 1 + 1,1,none⟩ = some (.int .i64 0):=(blk_cell BK2.out 1).trans rfl
  have hf0:=blk_frozen BK2.out 0
  have hf1:=blk_frozen BK2.out 1
  refine skip_ (w1:=?_) (by rfl) rfl ?_ ?_
  rotate_left
  ·go_simp
   rfl
  have nb:=am (blk_put (blk_put BK2.out 0 (.int .i64 a) rfl) 1 (.int .i64 (wrap64 (b + q))) rfl)
  have na:=am (blk_far (blk_far BK3.out (p:=⟨w.heap.size + 1 + 1,0,none⟩) (by simp) (.int .i64 a)) (p:=⟨w.heap.size + 1 + 1,1,none⟩) (by simp) (.int .i64 (wrap64 (b + q))))
  clear hc0 hc1 hf0 hf1
  refine hK.out _ _ ⟨(cell_far (p:=⟨w.heap.size + 1 + 1,_,none⟩) (by simp <;> omega) _).trans ((cell_far (p:=⟨w.heap.size + 1 + 1,_,none⟩) (by simp <;> omega) _).trans (hHeld.1)),(cell_far (p:=⟨w.heap.size + 1 + 1,_,none⟩) (by simp <;> omega) _).trans ((cell_far (p:=⟨w.heap.size + 1 + 1,_,none⟩) (by simp <;> omega) _).trans (hHeld.2.1)),(cell_far (p:=⟨w.heap.size + 1 + 1,_,none⟩) (by simp <;> omega) _).trans ((cell_far (p:=⟨w.heap.size + 1 + 1,_,none⟩) (by simp <;> omega) _).trans (hHeld.2.2.1)),(cell_far (p:=⟨w.heap.size + 1 + 1,_,none⟩) (by simp <;> omega) _).trans ((cell_far (p:=⟨w.heap.size + 1 + 1,_,none⟩) (by simp <;> omega) _).trans (hHeld.2.2.2.1)),(cell_far (p:=⟨w.heap.size + 1 + 1,_,none⟩) (by simp <;> omega) _).trans ((cell_far (p:=⟨w.heap.size + 1 + 1,_,none⟩) (by simp <;> omega) _).trans (hHeld.2.2.2.2))⟩ (fun hHeld => ?_)
  clear hK K
  refine one_ (i:=18) (N:=none) #[true,true,true,true,true,true,true,true,true,true,true,true,true,true,true,true,true,true,true] rfl rfl (one_of HT_.out kr) (by decide) (fun K hK => ?_)
  have hc0:=(blk_cell na.out 0).trans rfl
  have hc1:=(blk_cell na.out 1).trans rfl
  have hc2:=(blk_cell na.out 2).trans rfl
  have hc3:=(blk_cell na.out 3).trans rfl
  have hf0:=blk_frozen na.out 0
  have hf1:=blk_frozen na.out 1
  have hf2:=blk_frozen na.out 2
  have hf3:=blk_frozen na.out 3
  refine skip_ (w1:=?_) (by rfl) rfl ?_ ?_
  rotate_left
  ·go_simp
   rfl
  have mb:=am (blk_put (blk_put (blk_put (blk_put na.out 0 (.int .i64 1) rfl) 1 (.int .i64 (wrap64 (b + q))) rfl) 2 (.int .i64 d) rfl) 3 (.int .i64 r) rfl)
  have ma:=am (blk_far (blk_far (blk_far (blk_far nb.out (p:=⟨w.heap.size + 1 + 1 + 1,0,none⟩) (by simp) (.int .i64 1)) (p:=⟨w.heap.size + 1 + 1 + 1,1,none⟩) (by simp) (.int .i64 (wrap64 (b + q)))) (p:=⟨w.heap.size + 1 + 1 + 1,2,none⟩) (by simp) (.int .i64 d)) (p:=⟨w.heap.size + 1 + 1 + 1,3,none⟩) (by simp) (.int .i64 r))
  clear hc0 hc1 hc2 hc3 hf0 hf1 hf2 hf3
  refine hK.out _ _ ⟨(cell_far (p:=⟨w.heap.size + 1 + 1 + 1,_,none⟩) (by simp <;> omega) _).trans ((cell_far (p:=⟨w.heap.size + 1 + 1 + 1,_,none⟩) (by simp <;> omega) _).trans ((cell_far (p:=⟨w.heap.size + 1 + 1 + 1,_,none⟩) (by simp <;> omega) _).trans ((cell_far (p:=⟨w.heap.size + 1 + 1 + 1,_,none⟩) (by simp <;> omega) _).trans (hHeld.1)))),(cell_far (p:=⟨w.heap.size + 1 + 1 + 1,_,none⟩) (by simp <;> omega) _).trans ((cell_far (p:=⟨w.heap.size + 1 + 1 + 1,_,none⟩) (by simp <;> omega) _).trans ((cell_far (p:=⟨w.heap.size + 1 + 1 + 1,_,none⟩) (by simp <;> omega) _).trans ((cell_far (p:=⟨w.heap.size + 1 + 1 + 1,_,none⟩) (by simp <;> omega) _).trans (hHeld.2.1)))),(cell_far (p:=⟨w.heap.size + 1 + 1 + 1,_,none⟩) (by simp <;> omega) _).trans ((cell_far (p:=⟨w.heap.size + 1 + 1 + 1,_,none⟩) (by simp <;> omega) _).trans ((cell_far (p:=⟨w.heap.size + 1 + 1 + 1,_,none⟩) (by simp <;> omega) _).trans ((cell_far (p:=⟨w.heap.size + 1 + 1 + 1,_,none⟩) (by simp <;> omega) _).trans (hHeld.2.2.1)))),(cell_far (p:=⟨w.heap.size + 1 + 1 + 1,_,none⟩) (by simp <;> omega) _).trans ((cell_far (p:=⟨w.heap.size + 1 + 1 + 1,_,none⟩) (by simp <;> omega) _).trans ((cell_far (p:=⟨w.heap.size + 1 + 1 + 1,_,none⟩) (by simp <;> omega) _).trans ((cell_far (p:=⟨w.heap.size + 1 + 1 + 1,_,none⟩) (by simp <;> omega) _).trans (hHeld.2.2.2.1)))),(cell_far (p:=⟨w.heap.size + 1 + 1 + 1,_,none⟩) (by simp <;> omega) _).trans ((cell_far (p:=⟨w.heap.size + 1 + 1 + 1,_,none⟩) (by simp <;> omega) _).trans ((cell_far (p:=⟨w.heap.size + 1 + 1 + 1,_,none⟩) (by simp <;> omega) _).trans ((cell_far (p:=⟨w.heap.size + 1 + 1 + 1,_,none⟩) (by simp <;> omega) _).trans (hHeld.2.2.2.2))))⟩ (fun hHeld => ?_)
  clear hK K
  refine done_ (done_of HT_.out kr) ?_
  have a0 : (_ : World).cell? _ = _:=(blk_cell ma.out 0).trans rfl
  have a1 : (_ : World).cell? _ = _:=(blk_cell ma.out 1).trans rfl
  have a2 : (_ : World).cell? _ = _:=(blk_cell mb.out 0).trans rfl
  have a3 : (_ : World).cell? _ = _:=(blk_cell mb.out 1).trans rfl
  have a4 : (_ : World).cell? _ = _:=(blk_cell mb.out 2).trans rfl
  have a5 : (_ : World).cell? _ = _:=(blk_cell mb.out 3).trans rfl
  go_wp2
  refine bodyPost_ret (v:=.tuple #[.agg #[.int .i64 a,.int .i64 (wrap64 (b + q))],.agg #[.int .i64 1,.int .i64 (wrap64 (b + q)),.int .i64 d,.int .i64 r]]) (by simp [results,Try.results170,go_sem,a0,a1,a2,a3,a4,a5]) rfl ⟨rfl,?_⟩
  refine below_set (below_set (below_set (below_set (below_set (below_set HB.out ?_) ?_) ?_) ?_) ?_) ?_ <;> omega
 ·rw [if_neg hpa,if_neg hpa]
  have hpa' : p ≤ a:=by omega
  go_enter Try.func170,Try.ntmps170
  go_wp2
  have BK0:=am (blk_drew (blk_alloc (blk_alloc (blk_alloc (blk_new' w (.cells #[.int .i64 a,.int .i64 b] 164) w.heap.size rfl) (.cells #[.int .i64 p,.int .i64 q,.int .i64 r] 129)) (.cells #[.int .i64 0,.int .i64 0] 164)) (.cells #[.int .i64 0,.int .i64 0,.int .i64 0,.int .i64 0] 223)))
  have BK1:=am (blk_drew (blk_alloc (blk_alloc (blk_new' (w.alloc (.cells #[.int .i64 a,.int .i64 b] 164)) (.cells #[.int .i64 p,.int .i64 q,.int .i64 r] 129) (w.heap.size + 1) (by simp)) (.cells #[.int .i64 0,.int .i64 0] 164)) (.cells #[.int .i64 0,.int .i64 0,.int .i64 0,.int .i64 0] 223)))
  have BK2:=am (blk_drew (blk_alloc (blk_new' ((w.alloc (.cells #[.int .i64 a,.int .i64 b] 164)).alloc (.cells #[.int .i64 p,.int .i64 q,.int .i64 r] 129)) (.cells #[.int .i64 0,.int .i64 0] 164) (w.heap.size + 1 + 1) (by simp)) (.cells #[.int .i64 0,.int .i64 0,.int .i64 0,.int .i64 0] 223)))
  have BK3:=am (blk_drew (blk_new' (((w.alloc (.cells #[.int .i64 a,.int .i64 b] 164)).alloc (.cells #[.int .i64 p,.int .i64 q,.int .i64 r] 129)).alloc (.cells #[.int .i64 0,.int .i64 0] 164)) (.cells #[.int .i64 0,.int .i64 0,.int .i64 0,.int .i64 0] 223) (w.heap.size + 1 + 1 + 1) (by simp)))
  have HB:=am (below_drew1 (below_alloc (below_alloc (below_alloc (below_alloc (Below.refl w.heap.size w) (.cells #[.int .i64 a,.int .i64 b] 164)) (.cells #[.int .i64 p,.int .i64 q,.int .i64 r] 129)) (.cells #[.int .i64 0,.int .i64 0] 164)) (.cells #[.int .i64 0,.int .i64 0,.int .i64 0,.int .i64 0] 223)))
  refine start_ (n:=19) (S:=fun w' => w'.cell? ⟨w.heap.size,0,none⟩ = some (.int .i64 a) ∧ w'.cell? ⟨w.heap.size,1,none⟩ = some (.int .i64 b) ∧ w'.cell? ⟨w.heap.size + 1,0,none⟩ = some (.int .i64 p) ∧ w'.cell? ⟨w.heap.size + 1,1,none⟩ = some (.int .i64 q) ∧ w'.cell? ⟨w.heap.size + 1,2,none⟩ = some (.int .i64 r)) (ds:=[]) #[false,false,false,false,false,false,false,false,false,false,false,false,false,false,false,false,false,false,false] kr rfl rfl ⟨(blk_cell BK0.out 0).trans rfl,(blk_cell BK0.out 1).trans rfl,(blk_cell BK1.out 0).trans rfl,(blk_cell BK1.out 1).trans rfl,(blk_cell BK1.out 2).trans rfl⟩ (fun hHeld => ?_);refine with_tabW R170_3.tab R170_3.bits (fun HT_ HW_ => ?_)
  generalize (((((w.alloc (.cells #[.int .i64 a,.int .i64 b] 164)).alloc (.cells #[.int .i64 p,.int .i64 q,.int .i64 r] 129)).alloc (.cells #[.int .i64 0,.int .i64 0] 164)).alloc (.cells #[.int .i64 0,.int .i64 0,.int .i64 0,.int .i64 0] 223))).drew = wd at BK0 BK1 BK2 BK3 HB hHeld ⊢
  refine pure_ (i:=0) (N:=(some 30)) (v:=?_) (a':=?_) #[true,false,false,false,false,false,false,false,false,false,false,false,false,false,false,false,false,false,false] rfl rfl (any_of HT_.out kr) (fun _ _ _ h => h) (Or.inl ⟨by rfl,?_⟩) ?_ ?_
  rotate_left
  ·intro w'
   go_simp
   with_reducible rfl
  rotate_left
  ·exact vs
  refine take_ (i:=1) (N:=(some 31)) (v:=?_) (a':=?_) #[true,true,false,false,false,false,false,false,false,false,false,false,false,false,false,false,false,false,false] rfl rfl (take_ofW HT_.out HW_.out kr) (fun _ _ _ h => h) (Or.inl ⟨by rfl,?_⟩) hHeld ?_ ?_
  rotate_left
  ·rintro w' ⟨s0,s1,s2,s3,s4⟩
   go_simp
   with_reducible rfl
  rotate_left
  ·exact vs
  refine pure_ (i:=2) (N:=(some 32)) (v:=?_) (a':=?_) #[true,true,true,false,false,false,false,false,false,false,false,false,false,false,false,false,false,false,false] rfl rfl (any_of HT_.out kr) (fun _ _ _ h => h) (Or.inl ⟨by rfl,?_⟩) ?_ ?_
  rotate_left
  ·intro w'
   go_simp
   with_reducible rfl
  rotate_left
  ·exact vs
  refine take_ (i:=3) (N:=(some 33)) (v:=?_) (a':=?_) #[true,true,true,true,false,false,false,false,false,false,false,false,false,false,false,false,false,false,false] rfl rfl (take_ofW HT_.out HW_.out kr) (fun _ _ _ h => h) (Or.inl ⟨by rfl,?_⟩) hHeld ?_ ?_
  rotate_left
  ·rintro w' ⟨s0,s1,s2,s3,s4⟩
   go_simp
   with_reducible rfl
  rotate_left
  ·exact vs
  refine pure_ (i:=4) (N:=(some 34)) (v:=?_) (a':=?_) #[true,true,true,true,true,false,false,false,false,false,false,false,false,false,false,false,false,false,false] rfl rfl (any_of HT_.out kr) (fun _ _ _ h => h) (Or.inl ⟨by rfl,?_⟩) ?_ ?_
  rotate_left
  ·intro w'
   go_simp
   with_reducible rfl
  rotate_left
  ·exact vs
  refine take_ (i:=5) (N:=(some 35)) (v:=?_) (a':=?_) #[true,true,true,true,true,true,false,false,false,false,false,false,false,false,false,false,false,false,false] rfl rfl (take_ofW HT_.out HW_.out kr) (fun _ _ _ h => h) (Or.inl ⟨by rfl,?_⟩) hHeld ?_ ?_
  rotate_left
  ·rintro w' ⟨s0,s1,s2,s3,s4⟩
   go_simp
   with_reducible rfl
  rotate_left
  ·exact vs
  refine pure_ (i:=6) (N:=(some 36)) (v:=?_) (a':=?_) #[true,true,true,true,true,true,true,false,false,false,false,false,false,false,false,false,false,false,false] rfl rfl (any_of HT_.out kr) (fun _ _ _ h => h) (Or.inl ⟨by rfl,?_⟩) ?_ ?_
  rotate_left
  ·intro w'
   go_simp
   with_reducible rfl
  rotate_left
  ·exact vs
  refine pure_ (i:=7) (N:=(some 37)) (v:=?_) (a':=?_) #[true,true,true,true,true,true,true,true,false,false,false,false,false,false,false,false,false,false,false] rfl rfl (any_of HT_.out kr) (fun _ _ _ h => h) (Or.inl ⟨by rfl,?_⟩) ?_ ?_
  rotate_left
  ·intro w'
   go_simp
   with_reducible rfl
  rotate_left
  ·exact vs
  refine pure_ (i:=8) (N:=(some 38)) (v:=?_) (a':=?_) #[true,true,true,true,true,true,true,true,true,false,false,false,false,false,false,false,false,false,false] rfl rfl (any_of HT_.out kr) (fun _ _ _ h => h) (Or.inl ⟨by rfl,?_⟩) ?_ ?_
  rotate_left
  ·intro w'
   go_simp
   with_reducible rfl
  rotate_left
  ·exact vs
  refine take_ (i:=9) (N:=(some 39)) (v:=?_) (a':=?_) #[true,true,true,true,true,true,true,true,true,true,false,false,false,false,false,false,false,false,false] rfl rfl (take_ofW HT_.out HW_.out kr) (fun _ _ _ h => h) (Or.inl ⟨by rfl,?_⟩) hHeld ?_ ?_
  rotate_left
  ·rintro w' ⟨s0,s1,s2,s3,s4⟩
   go_simp
   with_reducible rfl
  rotate_left
  ·exact vs
  refine pure_ (i:=10) (N:=(some 40)) (v:=?_) (a':=?_) #[true,true,true,true,true,true,true,true,true,true,true,false,false,false,false,false,false,false,false] rfl rfl (any_of HT_.out kr) (fun _ _ _ h => h) (Or.inl ⟨by rfl,?_⟩) ?_ ?_
  rotate_left
  ·intro w'
   go_simp
   with_reducible rfl
  rotate_left
  ·exact vs
  refine take_ (i:=11) (N:=(some 41)) (v:=?_) (a':=?_) #[true,true,true,true,true,true,true,true,true,true,true,true,false,false,false,false,false,false,false] rfl rfl (take_ofW HT_.out HW_.out kr) (fun _ _ _ h => h) (Or.inl ⟨by rfl,?_⟩) hHeld ?_ ?_
  rotate_left
  ·rintro w' ⟨s0,s1,s2,s3,s4⟩
   go_simp
   with_reducible rfl
  rotate_left
  ·exact vs
  refine pure_ (i:=12) (N:=(some 42)) (v:=?_) (a':=?_) #[true,true,true,true,true,true,true,true,true,true,true,true,true,false,false,false,false,false,false] rfl rfl (any_of HT_.out kr) (fun _ _ _ h => h) (Or.inl ⟨by rfl,?_⟩) ?_ ?_
  rotate_left
  ·intro w'
   go_simp
   with_reducible rfl
  rotate_left
  ·exact vs
  refine pure_ (i:=13) (N:=(some 43)) (v:=?_) (a':=?_) #[true,true,true,true,true,true,true,true,true,true,true,true,true,true,false,false,false,false,false] rfl rfl (any_of HT_.out kr) (fun _ _ _ h => h) (Or.inl ⟨by rfl,?_⟩) ?_ ?_
  rotate_left
  ·intro w'
   go_simp
   with_reducible rfl
  rotate_left
  ·exact vs
  refine take_ (i:=14) (N:=(some 44)) (v:=?_) (a':=?_) #[true,true,true,true,true,true,true,true,true,true,true,true,true,true,true,false,false,false,false] rfl rfl (take_ofW HT_.out HW_.out kr) (fun _ _ _ h => h) (Or.inl ⟨by rfl,?_⟩) hHeld ?_ ?_
  rotate_left
  ·rintro w' ⟨s0,s1,s2,s3,s4⟩
   go_simp
   with_reducible rfl
  rotate_left
  ·exact vs
  refine pure_ (i:=15) (N:=(some 45)) (v:=?_) (a':=?_) #[true,true,true,true,true,true,true,true,true,true,true,true,true,true,true,true,false,false,false] rfl rfl (any_of HT_.out kr) (fun _ _ _ h => h) (Or.inl ⟨by rfl,?_⟩) ?_ ?_
  rotate_left
  ·intro w'
   go_simp
   with_reducible rfl
  rotate_left
  ·exact vs
  refine pure_ (i:=16) (N:=(some 46)) (v:=?_) (a':=?_) #[true,true,true,true,true,true,true,true,true,true,true,true,true,true,true,true,true,false,false] rfl rfl (any_of HT_.out kr) (fun _ _ _ h => h) (Or.inl ⟨by rfl,?_⟩) ?_ ?_
  rotate_left
  ·intro w'
   go_simp
   with_reducible rfl
  rotate_left
  ·exact vs
  refine one_ (i:=17) (N:=none) #[true,true,true,true,true,true,true,true,true,true,true,true,true,true,true,true,true,true,false] rfl rfl (one_of HT_.out kr) (by decide) (fun K hK => ?_)
  have hc0 : wd.cell? ⟨w.heap.size + 1 + 1,0,none⟩ = some (.int .i64 0):=(blk_cell BK2.out 0).trans rfl
  have hc1 : wd.cell? ⟨w.heap.size + 1 + 1,1,none⟩ = some (.int .i64 0):=(blk_cell BK2.out 1).trans rfl
  have hf0:=blk_frozen BK2.out 0
  have hf1:=blk_frozen BK2.out 1
  refine skip_ (w1:=?_) (by rfl) rfl ?_ ?_
  rotate_left
  ·go_simp
   rfl
  have nb:=am (blk_put (blk_put BK2.out 0 (.int .i64 p) rfl) 1 (.int .i64 (wrap64 (b + q))) rfl)
  have na:=am (blk_far (blk_far BK3.out (p:=⟨w.heap.size + 1 + 1,0,none⟩) (by simp) (.int .i64 p)) (p:=⟨w.heap.size + 1 + 1,1,none⟩) (by simp) (.int .i64 (wrap64 (b + q))))
  clear hc0 hc1 hf0 hf1
  refine hK.out _ _ ⟨(cell_far (p:=⟨w.heap.size + 1 + 1,_,none⟩) (by simp <;> omega) _).trans ((cell_far (p:=⟨w.heap.size + 1 + 1,_,none⟩) (by simp <;> omega) _).trans (hHeld.1)),(cell_far (p:=⟨w.heap.size + 1 + 1,_,none⟩) (by simp <;> omega) _).trans ((cell_far (p:=⟨w.heap.size + 1 + 1,_,none⟩) (by simp <;> omega) _).trans (hHeld.2.1)),(cell_far (p:=⟨w.heap.size + 1 + 1,_,none⟩) (by simp <;> omega) _).trans ((cell_far (p:=⟨w.heap.size + 1 + 1,_,none⟩) (by simp <;> omega) _).trans (hHeld.2.2.1)),(cell_far (p:=⟨w.heap.size + 1 + 1,_,none⟩) (by simp <;> omega) _).trans ((cell_far (p:=⟨w.heap.size + 1 + 1,_,none⟩) (by simp <;> omega) _).trans (hHeld.2.2.2.1)),(cell_far (p:=⟨w.heap.size + 1 + 1,_,none⟩) (by simp <;> omega) _).trans ((cell_far (p:=⟨w.heap.size + 1 + 1,_,none⟩) (by simp <;> omega) _).trans (hHeld.2.2.2.2))⟩ (fun hHeld => ?_)
  clear hK K
  refine one_ (i:=18) (N:=none) #[true,true,true,true,true,true,true,true,true,true,true,true,true,true,true,true,true,true,true] rfl rfl (one_of HT_.out kr) (by decide) (fun K hK => ?_)
  have hc0:=(blk_cell na.out 0).trans rfl
  have hc1:=(blk_cell na.out 1).trans rfl
  have hc2:=(blk_cell na.out 2).trans rfl
  have hc3:=(blk_cell na.out 3).trans rfl
  have hf0:=blk_frozen na.out 0
  have hf1:=blk_frozen na.out 1
  have hf2:=blk_frozen na.out 2
  have hf3:=blk_frozen na.out 3
  refine skip_ (w1:=?_) (by rfl) rfl ?_ ?_
  rotate_left
  ·go_simp
   rfl
  have mb:=am (blk_put (blk_put (blk_put (blk_put na.out 0 (.int .i64 1) rfl) 1 (.int .i64 (wrap64 (b + q))) rfl) 2 (.int .i64 r) rfl) 3 (.int .i64 d) rfl)
  have ma:=am (blk_far (blk_far (blk_far (blk_far nb.out (p:=⟨w.heap.size + 1 + 1 + 1,0,none⟩) (by simp) (.int .i64 1)) (p:=⟨w.heap.size + 1 + 1 + 1,1,none⟩) (by simp) (.int .i64 (wrap64 (b + q)))) (p:=⟨w.heap.size + 1 + 1 + 1,2,none⟩) (by simp) (.int .i64 r)) (p:=⟨w.heap.size + 1 + 1 + 1,3,none⟩) (by simp) (.int .i64 d))
  clear hc0 hc1 hc2 hc3 hf0 hf1 hf2 hf3
  refine hK.out _ _ ⟨(cell_far (p:=⟨w.heap.size + 1 + 1 + 1,_,none⟩) (by simp <;> omega) _).trans ((cell_far (p:=⟨w.heap.size + 1 + 1 + 1,_,none⟩) (by simp <;> omega) _).trans ((cell_far (p:=⟨w.heap.size + 1 + 1 + 1,_,none⟩) (by simp <;> omega) _).trans ((cell_far (p:=⟨w.heap.size + 1 + 1 + 1,_,none⟩) (by simp <;> omega) _).trans (hHeld.1)))),(cell_far (p:=⟨w.heap.size + 1 + 1 + 1,_,none⟩) (by simp <;> omega) _).trans ((cell_far (p:=⟨w.heap.size + 1 + 1 + 1,_,none⟩) (by simp <;> omega) _).trans ((cell_far (p:=⟨w.heap.size + 1 + 1 + 1,_,none⟩) (by simp <;> omega) _).trans ((cell_far (p:=⟨w.heap.size + 1 + 1 + 1,_,none⟩) (by simp <;> omega) _).trans (hHeld.2.1)))),(cell_far (p:=⟨w.heap.size + 1 + 1 + 1,_,none⟩) (by simp <;> omega) _).trans ((cell_far (p:=⟨w.heap.size + 1 + 1 + 1,_,none⟩) (by simp <;> omega) _).trans ((cell_far (p:=⟨w.heap.size + 1 + 1 + 1,_,none⟩) (by simp <;> omega) _).trans ((cell_far (p:=⟨w.heap.size + 1 + 1 + 1,_,none⟩) (by simp <;> omega) _).trans (hHeld.2.2.1)))),(cell_far (p:=⟨w.heap.size + 1 + 1 + 1,_,none⟩) (by simp <;> omega) _).trans ((cell_far (p:=⟨w.heap.size + 1 + 1 + 1,_,none⟩) (by simp <;> omega) _).trans ((cell_far (p:=⟨w.heap.size + 1 + 1 + 1,_,none⟩) (by simp <;> omega) _).trans ((cell_far (p:=⟨w.heap.size + 1 + 1 + 1,_,none⟩) (by simp <;> omega) _).trans (hHeld.2.2.2.1)))),(cell_far (p:=⟨w.heap.size + 1 + 1 + 1,_,none⟩) (by simp <;> omega) _).trans ((cell_far (p:=⟨w.heap.size + 1 + 1 + 1,_,none⟩) (by simp <;> omega) _).trans ((cell_far (p:=⟨w.heap.size + 1 + 1 + 1,_,none⟩) (by simp <;> omega) _).trans ((cell_far (p:=⟨w.heap.size + 1 + 1 + 1,_,none⟩) (by simp <;> omega) _).trans (hHeld.2.2.2.2))))⟩ (fun hHeld => ?_)
  clear hK K
  refine done_ (done_of HT_.out kr) ?_
  have a0 : (_ : World).cell? _ = _:=(blk_cell ma.out 0).trans rfl
  have a1 : (_ : World).cell? _ = _:=(blk_cell ma.out 1).trans rfl
  have a2 : (_ : World).cell? _ = _:=(blk_cell mb.out 0).trans rfl
  have a3 : (_ : World).cell? _ = _:=(blk_cell mb.out 1).trans rfl
  have a4 : (_ : World).cell? _ = _:=(blk_cell mb.out 2).trans rfl
  have a5 : (_ : World).cell? _ = _:=(blk_cell mb.out 3).trans rfl
  go_wp2
  refine bodyPost_ret (v:=.tuple #[.agg #[.int .i64 p,.int .i64 (wrap64 (b + q))],.agg #[.int .i64 1,.int .i64 (wrap64 (b + q)),.int .i64 r,.int .i64 d]]) (by simp [results,Try.results170,go_sem,a0,a1,a2,a3,a4,a5]) rfl ⟨rfl,?_⟩
  refine below_set (below_set (below_set (below_set (below_set (below_set HB.out ?_) ?_) ?_) ?_) ?_) ?_ <;> omega
def R142_9.T : Bool × List (List Nat × List Nat):=(true,[([],[]),([],[]),([1],[1]),([0,2],[0,2]),([],[]),([4,3],[4]),([3,5,0,1,2,3],[0,3]),([5,6,0,1,2,3,4,5,6],[5])])
def R142_9.B : List Nat:=[0,0,2,7,0,31,63,127]
theorem R142_9.tab : rtab .any (opsOf Try.f142 9) = R142_9.T:=by kernel_rfl
theorem R142_9.bits : waitsOk R142_9.T.2 R142_9.B = true:=by kernel_rfl
def kArr : Kd (List Int) where
 sz:=1
 E:=[195,223]
 K:=fun w xs cs => ∃ A c,cs = [.slice A xs.length c] ∧ xs.length ≤ c ∧ (Kd.int .i64).C w A xs.length xs
 M:=fun w base ok xs cs => ∃ b q,cs = [.slice (some ⟨b,0,none⟩) xs.length xs.length] ∧ ok b ∧ base ≤ b ∧ q ∈ [195,223] ∧ xs.length ≤ 9223372036854775807 ∧ w.heap[b]? = some (.cells (nums .i64 xs).toArray q (0,0))
 K_len:=by
  rintro w x cs ⟨A,c,rfl,_⟩
  rfl
 K_one:=by
  rintro w x cs ⟨A,c,rfl,_⟩ u hu
  rw [List.mem_singleton.1 hu]
  rfl
 K_below:=by
  rintro w w1 x cs hb ⟨A,c,rfl,hl,hr⟩
  exact ⟨A,c,rfl,hl,Kd.C_below hr hb⟩
 K_of_M:=by
  rintro w base ok x cs ⟨b,q,rfl,_,_,_,hm,h⟩
  exact ⟨_,_,rfl,Nat.le_refl _,C_intsBlock x h hm⟩
 M_mono:=by
  rintro w base ok ok' x cs hok ⟨b,q,rfl,h1,h2⟩
  exact ⟨b,q,rfl,hok b h1,h2⟩
 M_bound:=by
  rintro w base ok x cs ⟨b,q,rfl,h1,h2,h3,h4,h5⟩
  exact ⟨b,q,rfl,⟨h1,h2,blk_lt h5,q,h3,_,h5⟩,h2,h3,h4,h5⟩
 M_move:=by
  rintro w w1 base ok x cs hm ⟨b,q,rfl,h1,h2,h3,h4,h5⟩
  exact ⟨b,q,rfl,h1,h2,h3,h4,(hm b h1).trans h5⟩
 M_lower:=by
  rintro w base base' ok x cs hb ⟨b,q,rfl,h1,h2,h3⟩
  exact ⟨b,q,rfl,h1,Nat.le_trans hb h2,h3⟩
def upFrom : List S129 → S164 → Int → List (List Int)
|[],_,_ => []
|y :: r,t,d => joinN t d y :: upFrom r (joinT t y) (dig (joinN t d y))
def upP (a : Int) (x : S29) (p : List S129) : List (List Int):=nums5 x.f0 x.f1 x.f2 x.f3 :: upFrom p ⟨a,1⟩ (leafP x)
def book_up.f (a0 : Int) (a1_0 a1_1 a1_2 a1_3 : Int) (l2 : List S129) : Option (List (List Int)):=if l2.length ≤ 100 then some (upP a0 ⟨a1_0,a1_1,a1_2,a1_3⟩ l2) else none
theorem join_calls4 (t : S164) (d : Int) (y : S129) (w : World) {s u v f g : Int} (h : joinN t d y = [1,s,u,v]) (ht : joinT t y = ⟨f,g⟩) :
  Calls Try.prog 170 #[.agg #[.int .i64 t.f0,.int .i64 t.f1],.int .i64 d,.agg #[.int .i64 y.f0,.int .i64 y.f1,.int .i64 y.f2]] w fun e w' => e = .returned (.tuple #[.agg #[.int .i64 f,.int .i64 g],.agg #[.int .i64 1,.int .i64 s,.int .i64 u,.int .i64 v]]) ∧ Below w.heap.size w w':=by
 have:=join_calls t d y w
 rw [h,ht] at this
 exact this
theorem join_four (t : S164) (d : Int) (y : S129) : ∃ s u v f g,joinN t d y = [1,s,u,v] ∧ joinT t y = ⟨f,g⟩:=by
 unfold joinN joinT
 by_cases h : y.f0 > t.f0
 ·exact ⟨_,_,_,_,_,if_pos h,if_pos h⟩
 ·exact ⟨_,_,_,_,_,if_neg h,if_neg h⟩
theorem up_wrap {i : Nat} (h : i ≤ 1000) : wrap64 ((i : Int) + 1) = ((i + 1 : Nat) : Int):=by unfold wrap64;omega
theorem up_less {n j : Nat} (h : j < n) (hn : n ≤ 1000) : n - (intOf (.int .i64 (wrap64 ((j : Int) + 1)))).toNat < n - (intOf (.int .i64 (j : Int))).toNat:=by
 rw [up_wrap (by omega)]
 show n - ((j + 1 : Nat) : Int).toNat < n - ((j : Nat) : Int).toNat
 rw [Int.toNat_natCast,Int.toNat_natCast]
 omega
theorem info58_ : (Try.prog.info? 58).map (fun i => (i.zero,i.size,i.bytes)) = some (some (.slice none 0 0),1,24):=by kernel_rfl
set_option maxRecDepth 100000 in
set_option maxHeartbeats 1000000 in
theorem book_up.calls (a0 : Int) (a1_0 a1_1 a1_2 a1_3 : Int) (A2 : Option Addr) (c2 : Nat) (l2 : List S129) (r : List (List Int)) (w : World) (hr2 : Kd.C k129 w A2 l2.length l2) (hc2 : l2.length ≤ c2) (h : book_up.f a0 a1_0 a1_1 a1_2 a1_3 l2 = some r) :
  Calls Try.prog 142 #[.int .i64 a0,.agg #[.int .i64 a1_0,.int .i64 a1_1,.int .i64 a1_2,.int .i64 a1_3],.slice A2 l2.length c2] w fun e w' => ∃ v_ : Value,e = .returned v_ ∧ Kd.V (Kd.slice 3 (Kd.int .i64)) 58 w' w.heap.size (fun k_ => w.heap.size ≤ k_) v_ r ∧ Below w.heap.size w w':=by
 unfold book_up.f at h
 split at h
 case isFalse => cases h
 rename_i h100
 have HRES:=am (Option.some.inj h)
 clear h
 have HN:=am h100
 have HR2:=am hr2
 have HC2:=am hc2
 clear hr2 hc2 h100
 have hu29:=Try.underlying29
 have hu164:=Try.underlying164
 have hu195:=Try.underlying195
 have hu223:=Try.underlying223
 go_enter Try.func142,Try.ntmps142
 go_wp2_with (first
 |(go_at_call 149;refine (numbers_calls _ _ _ _ _).mono ?_;rintro e w' ⟨rfl,o1,o2,rfl⟩)
 |fail)
 have HROW0 : (Kd.R kArr 58 (((((w.alloc (.cells #[.int .i64 a1_0,.int .i64 a1_1,.int .i64 a1_2,.int .i64 a1_3] 29)).alloc o1).alloc o2).alloc (.cells #[.int .i64 0,.int .i64 a1_0,.int .i64 a1_1,.int .i64 a1_2,.int .i64 a1_3] 195)).alloc (.cells #[.slice (some ⟨w.heap.size + 1 + 1 + 1,0,none⟩) 5 5] 58)) w.heap.size (fun _ => True) (.slice (some ⟨w.heap.size + 1 + 1 + 1 + 1,0,none⟩) 1 1) [nums5 a1_0 a1_1 a1_2 a1_3]):=by
  refine ⟨fun _ _ => trivial,[.slice (some ⟨w.heap.size + 1 + 1 + 1,0,none⟩) 5 5],?_,?_⟩
  ·have:=World.ownsRow_lit (base:=w.heap.size) (e:=58) (size:=1) ((((w.alloc (.cells #[.int .i64 a1_0,.int .i64 a1_1,.int .i64 a1_2,.int .i64 a1_3] 29)).alloc o1).alloc o2).alloc (.cells #[.int .i64 0,.int .i64 a1_0,.int .i64 a1_1,.int .i64 a1_2,.int .i64 a1_3] 195)) #[.slice (some ⟨w.heap.size + 1 + 1 + 1,0,none⟩) 5 5] 1 (by simp;omega) (by simp [maxLen]) (by simp)
   simp only [World.size_alloc] at this
   exact this
  ·refine Reps.snoc (ps:=[]) (cs:=[]) (c:=[.slice (some ⟨w.heap.size + 1 + 1 + 1,0,none⟩) 5 5]) (p:=nums5 a1_0 a1_1 a1_2 a1_3) (Reps.none _ _) ?_ rfl
   refine ⟨w.heap.size + 1 + 1 + 1,195,rfl,⟨trivial,?_⟩,by omega,by simp,by simp [nums5],?_⟩
   ·simp [Value.ownBlock]
   ·exact blk_alloc (blk_new' _ _ _ (by simp)) _
 have HROW:=am HROW0
 clear HROW0
 have HB0:=am (below_alloc (below_alloc (below_alloc (below_alloc (below_alloc (Below.refl w.heap.size w) (.cells #[.int .i64 a1_0,.int .i64 a1_1,.int .i64 a1_2,.int .i64 a1_3] 29)) o1) o2) (.cells #[.int .i64 0,.int .i64 a1_0,.int .i64 a1_1,.int .i64 a1_2,.int .i64 a1_3] 195)) (.cells #[.slice (some ⟨w.heap.size + 1 + 1 + 1,0,none⟩) 5 5] 58))
 refine (book_leaf.calls _ _ _ _ _ _ rfl).mono ?_
 rintro e w1 ⟨rfl,hd⟩
 have HB1:=am (below_then HB0.out (below_size HB0.out) hd)
 have HROW1:=am (Kd.R_bound (Kd.R_below HROW.out hd))
 clear hd HROW HB0
 go_wp2
 obtain ⟨Bt,hBt⟩ : ∃ Bt,Bt = w1.heap.size:=⟨_,rfl⟩
 rw [← hBt]
 have HBt:=am hBt
 clear hBt
 go_loopw [8,10,24] (fun v8 v10 v24 wr => ∃ (i : Nat) (t : S164) (d : Int) (out : List (List Int)),i ≤ l2.length ∧ v24 = .int .i64 (i : Int) ∧ v10 = .int .i64 d ∧ Aside0 (Below w.heap.size w wr) ∧ Aside0 (wr.heap[Bt]? = some (.cells #[.int .i64 t.f0,.int .i64 t.f1] 164 (0,0))) ∧ Aside0 (Kd.R kArr 58 wr w.heap.size (fun k => k ≠ Bt) v8 out) ∧ Aside0 (out.length = i + 1) ∧ Aside0 (out ++ upFrom (l2.drop i) t d = r)) (fun _ _ v24 _ => l2.length - (intOf v24).toNat)
 case atStart => exact ⟨0,⟨a0,1⟩,_,[nums5 a1_0 a1_1 a1_2 a1_3],Nat.zero_le _,rfl,rfl,⟨below_alloc HB1.out _⟩,⟨blk_new' _ _ _ HBt.out⟩,⟨Kd.R_mono (Kd.R_below HROW1.out (below_alloc (Below.refl _ _) _)) (fun k hk => by have:=hk.2.2.1;have:=HBt.out;omega)⟩,⟨rfl⟩,⟨by rw [← HRES.out];rfl⟩⟩
 case round =>
  obtain ⟨i,t,d,out,hi,rfl,rfl,HBr,HT,HO,HOL,HE⟩:=hrel
  obtain ⟨A8,c8,rfl⟩:=Kd.R_slice HO.out
  by_cases hlt : i < l2.length
  ·obtain ⟨ad,e,hx0,hx1,hx2⟩:=at_T129 (Kd.C_below HR2.out HBr.out) (i : Int) (by omega) (by omega)
   cases e
   rw [Int.toNat_natCast] at hx0 hx1 hx2
   obtain ⟨y,hy⟩ : ∃ y,y = rd_T129 l2 (i : Int):=⟨_,rfl⟩
   rw [← hy] at hx0 hx1 hx2
   have z0 : (i : Int) < (l2.length : Int):=by omega
   obtain ⟨s,u,v,f,g,hj1,hj2⟩:=join_four t d y
   have HJ1:=am hj1
   have HJ2:=am hj2
   have HY:=am hy
   have ht0 : wr.cell? ⟨Bt,0,none⟩ = some (.int .i64 t.f0):=(blk_cell HT.out 0).trans rfl
   have ht1 : wr.cell? ⟨Bt,1,none⟩ = some (.int .i64 t.f1):=(blk_cell HT.out 1).trans rfl
   have HBT:=am (blk_lt HT.out)
   have hbt:=HBT.out
   clear hj1 hj2 hy
   go_wp2_with fail
   refine (join_calls4 t d y _ HJ1.out HJ2.out).mono ?_
   rintro e w3 ⟨rfl,hd⟩
   obtain ⟨nb,hnb⟩ : ∃ nb,nb = wr.heap.size + 1:=⟨_,rfl⟩
   rw [← hnb]
   have HB3:=am (below_then (below_alloc (below_alloc HBr.out _) _) (below_size (below_alloc (below_alloc HBr.out _) _)) hd)
   have HT3:=am (blk_below (blk_alloc (blk_alloc HT.out _) _) hd)
   have HN3:=am (blk_below (blk_new' _ _ nb (by simp;exact hnb)) hd)
   have HO3 : Aside0 (Kd.R kArr 58 w3 w.heap.size (fun k => k ≠ Bt ∧ k < nb) (.slice A8 out.length c8) out):=⟨Kd.R_below (Kd.R_below (Kd.R_below (Kd.R_mono (Kd.R_bound HO.out) (fun k hk => ⟨hk.1,by have:=hk.2.2.1;omega⟩)) (below_alloc (Below.refl _ _) _)) (below_alloc (Below.refl _ _) _)) hd⟩
   have HNB:=am hnb
   have hlt2 : Bt < nb:=by omega
   have hbase : w.heap.size ≤ Bt:=(Kd.R_own HO.out).elim fun _ _ => by have:=HBt.out;have:=below_size HB1.out;omega
   have HBS:=am hbase
   have HLT:=am hlt2
   have hne1 : Bt ≠ nb:=by omega
   have hne2 : nb ≠ Bt:=by omega
   have q0 : w3.cell? ⟨Bt,0,none⟩ = some (.int .i64 t.f0):=(blk_cell HT3.out 0).trans rfl
   have q1 : w3.cell? ⟨Bt,1,none⟩ = some (.int .i64 t.f1):=(blk_cell HT3.out 1).trans rfl
   have q2 : w3.cell? ⟨nb,0,none⟩ = some (.int .i64 0):=(blk_cell HN3.out 0).trans rfl
   have q3 : w3.cell? ⟨nb,1,none⟩ = some (.int .i64 0):=(blk_cell HN3.out 1).trans rfl
   have q4 : w3.cell? ⟨nb,2,none⟩ = some (.int .i64 0):=(blk_cell HN3.out 2).trans rfl
   have q5 : w3.cell? ⟨nb,3,none⟩ = some (.int .i64 0):=(blk_cell HN3.out 3).trans rfl
   have fa0:=blk_frozen HT3.out 0
   have fa1:=blk_frozen HT3.out 1
   have fb0:=blk_frozen HN3.out 0
   have fb1:=blk_frozen HN3.out 1
   have fb2:=blk_frozen HN3.out 2
   have fb3:=blk_frozen HN3.out 3
   clear hd hnb hlt2 hbase
   go_wp2_with fail
   have BT:=am (blk_drew (blk_far (blk_far (blk_far (blk_far (blk_put (blk_put HT3.out 0 (.int .i64 f) rfl) 1 (.int .i64 g) rfl) (p:=⟨nb,0,none⟩) hne1 (.int .i64 1)) (p:=⟨nb,1,none⟩) hne1 (.int .i64 s)) (p:=⟨nb,2,none⟩) hne1 (.int .i64 u)) (p:=⟨nb,3,none⟩) hne1 (.int .i64 v)))
   have BN:=am (blk_drew (blk_put (blk_put (blk_put (blk_put (blk_far (blk_far HN3.out (p:=⟨Bt,0,none⟩) hne2 (.int .i64 f)) (p:=⟨Bt,1,none⟩) hne2 (.int .i64 g)) 0 (.int .i64 1) rfl) 1 (.int .i64 s) rfl) 2 (.int .i64 u) rfl) 3 (.int .i64 v) rfl))
   have HBW:=am (below_drew1 (below_set (below_set (below_set (below_set (below_set (below_set HB3.out (j:=0) (v:=.int .i64 f) HBS.out) (j:=1) (v:=.int .i64 g) HBS.out) (g:=nb) (j:=0) (v:=.int .i64 1) (Nat.le_trans HBS.out (Nat.le_of_lt HLT.out))) (g:=nb) (j:=1) (v:=.int .i64 s) (Nat.le_trans HBS.out (Nat.le_of_lt HLT.out))) (g:=nb) (j:=2) (v:=.int .i64 u) (Nat.le_trans HBS.out (Nat.le_of_lt HLT.out))) (g:=nb) (j:=3) (v:=.int .i64 v) (Nat.le_trans HBS.out (Nat.le_of_lt HLT.out))))
   have HOW:=am (Kd.R_drew (Kd.R_far (Kd.R_far (Kd.R_far (Kd.R_far (Kd.R_far (Kd.R_far HO3.out (p:=⟨Bt,0,none⟩) (fun k hk => hk.1) (.int .i64 f)) (p:=⟨Bt,1,none⟩) (fun k hk => hk.1) (.int .i64 g)) (p:=⟨nb,0,none⟩) (fun k hk => Nat.ne_of_lt hk.2) (.int .i64 1)) (p:=⟨nb,1,none⟩) (fun k hk => Nat.ne_of_lt hk.2) (.int .i64 s)) (p:=⟨nb,2,none⟩) (fun k hk => Nat.ne_of_lt hk.2) (.int .i64 u)) (p:=⟨nb,3,none⟩) (fun k hk => Nat.ne_of_lt hk.2) (.int .i64 v)))
   clear q0 q1 q2 q3 q4 q5 fa0 fa1 fb0 fb1 fb2 fb3 ht0 ht1 hx0 hx1 hx2
   refine start_ (n:=8) (S:=fun w' => True) (ds:=[]) #[false,false,false,false,false,false,false,false] kr rfl rfl trivial (fun hHeld => ?_);refine with_tabW R142_9.tab R142_9.bits (fun HT_ HW_ => ?_)
   generalize (((((((w3.setCell ⟨Bt,0,none⟩ (.int .i64 f)).setCell ⟨Bt,1,none⟩ (.int .i64 g)).setCell ⟨nb,0,none⟩ (.int .i64 1)).setCell ⟨nb,1,none⟩ (.int .i64 s)).setCell ⟨nb,2,none⟩ (.int .i64 u)).setCell ⟨nb,3,none⟩ (.int .i64 v))).drew = wd at BT BN HBW HOW hHeld ⊢
   refine pure_ (i:=0) (N:=(some 35)) (v:=?_) (a':=?_) #[true,false,false,false,false,false,false,false] rfl rfl (any_of HT_.out kr) (fun _ _ _ h => h) (Or.inl ⟨by rfl,?_⟩) ?_ ?_
   rotate_left
   ·intro w'
    go_simp
    with_reducible rfl
   rotate_left
   ·exact vs
   refine pure_ (i:=1) (N:=(some 36)) (v:=?_) (a':=?_) #[true,true,false,false,false,false,false,false] rfl rfl (any_of HT_.out kr) (fun _ _ _ h => h) (Or.inl ⟨by rfl,?_⟩) ?_ ?_
   rotate_left
   ·intro w'
    go_simp
    with_reducible rfl
   rotate_left
   ·exact vs
   refine pure_ (i:=4) (N:=(some 39)) (v:=?_) (a':=?_) #[true,true,false,false,true,false,false,false] rfl rfl (any_of HT_.out kr) (fun _ _ _ h => h) (Or.inl ⟨by rfl,?_⟩) ?_ ?_
   rotate_left
   ·intro w'
    go_simp
    with_reducible rfl
   rotate_left
   ·exact vs
   refine one_ (i:=2) (N:=(some 37)) #[true,true,true,false,true,false,false,false] rfl rfl (one_of HT_.out kr) (by decide) (fun K hK => ?_)
   refine value_ (w1:=?_) (v:=?_) (by rfl) rfl ?_ ?_
   rotate_left 2
   ·go_simp
    constructor
    ·rfl
    ·rfl
   refine hK.out _ _ trivial (fun hHeld => ?_)
   clear hK K
   refine norm_ (a':=?_) ?_ ?_
   rotate_left
   ·show Act.put _ (some 37) _ = _
    simp only [Act.put,List.setIfInBounds_toArray,List.set_cons_zero,List.set_cons_succ,i64_w,i32_w]
    rfl
   refine one_ (i:=3) (N:=(some 38)) #[true,true,true,true,true,false,false,false] rfl rfl (one_of HT_.out kr) (by decide) (fun K hK => ?_)
   refine Kd.R_append_step kArr (w0:=w) w.heap.size (by rfl) (.tmp 35) (.tmp 37) 184 58 (.slice none 0 0) 24 rfl Try.underlying184 info58_ rfl (by decide) (by decide) (.slice A8 out.length c8) out [1,s,u,v] [.slice (some ⟨nb,0,none⟩) 4 4] (fun k => k ≠ Bt) (fun k => k = nb) rfl rfl ?aP ?aK ?aF ?aO ?aB ?aS ?aL ?_
   case aP => exact ⟨nb,223,rfl,rfl,Nat.le_trans HBS.out (Nat.le_of_lt HLT.out),by simp,by simp,BN.out⟩
   case aK => exact fun k hk => by subst hk;exact ⟨hne2,fun e_ => by have:=(HOW.out.1 k e_.symm).2;omega⟩
   case aF => exact fun k hk => by have:=blk_lt BT.out;omega
   case aO => exact Kd.R_mono HOW.out (fun _ hk => hk.1)
   case aB => exact HBW.out
   case aS => exact below_size HBW.out
   case aL => have:=HOL.out;have:=HN.out;omega
   intro v1 w5 ho hb hg hat
   have BT5:=am (blk_grown BT.out hg (fun e_ => (HOW.out.1 Bt e_.symm).1 rfl))
   have BN5:=am (blk_grown BN.out hg (fun e_ => by have:=(HOW.out.1 nb e_.symm).2;omega))
   have HO5:=am ho
   have HB5:=am hb
   clear ho hb hg hat
   refine hK.out _ _ trivial (fun hHeld => ?_)
   clear hK K
   refine norm_ (a':=?_) ?_ ?_
   rotate_left
   ·show Act.put _ (some 38) _ = _
    simp only [Act.put,List.setIfInBounds_toArray,List.set_cons_zero,List.set_cons_succ,i64_w,i32_w]
    rfl
   refine one_ (i:=5) (N:=(some 40)) #[true,true,true,true,true,true,false,false] rfl rfl (one_of HT_.out kr) (by decide) (fun K hK => ?_)
   refine goes_ Try.func96 kr rfl #[.slice (some ⟨nb,0,none⟩) 4 4] (by rfl) rfl rfl (by (try simp only [List.map_toArray,List.map_cons,List.map_nil]);first|done|rfl|(simp only [List.length_drop,List.length_take];rfl)) ?_
   refine (book_digest.calls (some ⟨nb,0,none⟩) 4 [1,s,u,v] _ _ (C_intsBlock [1,s,u,v] BN5.out (by simp)) (Nat.le_refl _) rfl).mono ?_
   rintro e w6 ⟨rfl,nq,rfl⟩
   refine ⟨_,rfl,?_⟩
   refine hK.out _ _ trivial (fun hHeld => ?_)
   clear hK K
   refine norm_ (a':=?_) ?_ ?_
   rotate_left
   ·show Act.put _ (some 40) _ = _
    simp only [Act.put,List.setIfInBounds_toArray,List.set_cons_zero,List.set_cons_succ,i64_w,i32_w]
    rfl
   refine pure_ (i:=6) (N:=(some 8)) (v:=?_) (a':=?_) #[true,true,true,true,true,true,true,false] rfl rfl (any_of HT_.out kr) (fun _ _ _ h => h) (Or.inl ⟨by rfl,?_⟩) ?_ ?_
   rotate_left
   ·intro w'
    go_simp
    with_reducible rfl
   rotate_left
   ·exact vs
   refine pure_ (i:=7) (N:=(some 10)) (v:=?_) (a':=?_) #[true,true,true,true,true,true,true,true] rfl rfl (any_of HT_.out kr) (fun _ _ _ h => h) (Or.inl ⟨by rfl,?_⟩) ?_ ?_
   rotate_left
   ·intro w'
    go_simp
    with_reducible rfl
   rotate_left
   ·exact vs
   refine done_ (done_of HT_.out kr) ?_
   go_wp2_with fail
   have hdr : l2.drop i = y :: l2.drop (i + 1):=by
    rw [List.drop_eq_getElem_cons hlt,HY.out]
    unfold rd_T129
    simp [List.getD_eq_getElem?_getD,List.getElem?_eq_getElem hlt]
   have HEN:=am (show (out ++ [[1,s,u,v]]) ++ upFrom (l2.drop (i + 1)) ⟨f,g⟩ (dig [1,s,u,v]) = r by
    rw [← HE.out,hdr,upFrom,HJ1.out,HJ2.out]
    simp)
   clear hdr
   go_roundw
   case rel => exact ⟨i + 1,⟨f,g⟩,_,out ++ [[1,s,u,v]],by omega,congrArg _ (up_wrap (by have:=HN.out;omega)),rfl,⟨pw_below_drewN HB5.out nq⟩,⟨blk_drewN BT5.out nq⟩,⟨Kd.R_drewN HO5.out nq⟩,⟨by rw [List.length_append,HOL.out,List.length_singleton]⟩,HEN⟩
   case measure => exact up_less hlt (by have:=HN.out;omega)
  ·have hi' : i = l2.length:=by omega
   have HE2:=am (show out = r by rw [← HE.out,hi',List.drop_length,upFrom,List.append_nil])
   clear hi'
   go_wp2
   go_ret
   refine ⟨_,rfl,?_,HBr.out⟩
   have hR:=HO.out
   rw [HE2.out] at hR
   obtain ⟨A,c,he,hl,hF⟩:=Kd.R_V (base':=w.heap.size) (Kd.R_mono (Kd.R_bound hR) (ok':=fun k => w.heap.size ≤ k) (fun k hk => hk.2.1))
   rw [HE2.out]
   exact ⟨A,c,he,hl,Kd.F_imp hF (fun W' hC => Kd.C_imp (d:=kArr) (d':=Kd.slice 3 (Kd.int .i64)) rfl (fun _ _ _ h => h) hC)⟩
theorem eqA164 (d : Nat) (w : World) (x0 y0 : Int) (x1 y1 : Int) :
  (Op.equalIn (d + 2) 164 (.agg #[.int .i64 x0,.int .i64 x1]) (.agg #[.int .i64 y0,.int .i64 y1])).run Try.prog w = .ok (x0 == y0 && (x1 == y1)) w:=by
 refine eqA_of Try.underlying164 kr ?_
 refine eqf_cons (by rfl) (by go_simp;rfl) (by go_simp;rfl) (by go_simp) ?_
 exact eqf_last (by rfl) (by go_simp;rfl) (by go_simp;rfl) (by go_simp)
section
attribute [local go_sem high] eqA164
theorem placed162_calls (a b c d e' : Int) (w : World) : Calls Try.prog 162 #[.agg #[.int .i64 a,.int .i64 b,.int .i64 c],.agg #[.int .i64 d,.int .i64 e']] w fun e w' => e = .returned (.bool (a == d && b == e')) ∧ Below w.heap.size w w':=by
 have hu129:=Try.underlying129
 have hu164:=Try.underlying164
 go_enter Try.func162,Try.ntmps162
 go_wp2
 go_ret
 exact ⟨by simp,by repeat (first|exact Below.refl _ _|apply below_alloc|apply pw_below_drewN)⟩
def sameAt (p : List S129) (t : List S164) (i : Nat) : Bool:=(p.getD i z129).f0 == (t.getD i z164).f0 && (p.getD i z129).f1 == (t.getD i z164).f1
def placedP (p : List S129) (t : List S164) : Bool:=decide (p.length = t.length) && (List.range p.length).all (sameAt p t)
set_option maxRecDepth 100000 in
set_option maxHeartbeats 1000000 in
theorem equal162_calls (A0 : Option Addr) (c0 : Nat) (l0 : List S129) (A1 : Option Addr) (c1 : Nat) (l1 : List S164) (w : World) (hr0 : Kd.C k129 w A0 l0.length l0) (hc0 : l0.length ≤ c0) (hr1 : Kd.C k164 w A1 l1.length l1) (hc1 : l1.length ≤ c1) :
  Calls Try.prog 161 #[.slice A0 l0.length c0,.slice A1 l1.length c1,.func (.func 162) #[] #[]] w fun e w' => e = .returned (.bool (placedP l0 l1)) ∧ Below w.heap.size w w':=by
 have HR0:=am hr0
 have HR1:=am hr1
 have hm:=hr0.2.1
 clear hr0 hc0 hr1 hc1
 have hu129:=Try.underlying129
 have hu164:=Try.underlying164
 have hn:=run_not
 by_cases hl : l0.length = l1.length
 ·have g1 : ((l0.length : Int) != (l1.length : Int)) = false:=by rw [hl];simp
  have g2 : (l0.length != l1.length) = false:=by rw [hl];simp
  have g3 : (l0.length == l1.length) = true:=by rw [hl];simp
  have HL:=am hl
  clear hl
  go_enter Try.func161,Try.ntmps161
  go_wp2
  go_loopw [17] (fun v17 wr => ∃ j : Nat,j ≤ l0.length ∧ v17 = .int .i64 (j : Int) ∧ Aside0 (∀ i,i < j → sameAt l0 l1 i = true) ∧ Aside0 (Below w.heap.size w wr)) (fun v17 _ => l0.length - (intOf v17).toNat)
  case atStart => exact ⟨0,Nat.zero_le _,rfl,⟨fun i hi => absurd hi (by omega)⟩,⟨Below.refl _ _⟩⟩
  case round =>
   obtain ⟨j,hj,rfl,HA,HBw⟩:=hrel
   by_cases hlt : j < l0.length
   ·have hlt1 : j < l1.length:=by have:=HL.out;omega
    obtain ⟨ad,e,hx0,hx1,hx2⟩:=at_T129 (Kd.C_below HR0.out HBw.out) (j : Int) (by omega) (by omega)
    cases e
    obtain ⟨ae,e,hy0,hy1⟩:=at_T164 (Kd.C_below HR1.out HBw.out) (j : Int) (by omega) (by omega)
    cases e
    rw [Int.toNat_natCast] at hx0 hx1 hx2 hy0 hy1
    have hz0 : ∀ o,(wr.alloc o).cell? _ = _:=fun o => pw_cell_below (below_alloc (Below.refl _ _) o) hy0
    have hz1 : ∀ o,(wr.alloc o).cell? _ = _:=fun o => pw_cell_below (below_alloc (Below.refl _ _) o) hy1
    clear hy0 hy1
    cases hb : sameAt l0 l1 j with
   |true =>
     have HB:=am (show ((rd_T129 l0 (j : Int)).f0 == (rd_T164 l1 (j : Int)).f0 && (rd_T129 l0 (j : Int)).f1 == (rd_T164 l1 (j : Int)).f1) = true from hb)
     clear hb
     go_wp2_with (go_at_call 162;refine (placed162_calls _ _ _ _ _ _).mono ?_;rintro e w' ⟨rfl,hd⟩;rw [HB.out];have HD:=am hd;clear hd)
     go_roundw
     case rel => exact ⟨j + 1,by omega,by go_num,⟨fun i hi => if h : i = j then by subst h;exact HB.out else HA.out i (by omega)⟩,⟨below_then (below_alloc (below_alloc HBw.out _) _) (below_size (below_alloc (below_alloc HBw.out _) _)) HD.out⟩⟩
     case measure => simp [intOf];omega
   |false =>
     have HF:=am (show placedP l0 l1 = false by
      unfold placedP
      rw [Bool.and_eq_false_iff]
      refine .inr ?_
      rw [List.all_eq_false]
      exact ⟨j,List.mem_range.2 hlt,by rw [hb];decide⟩)
     have HB:=am (show ((rd_T129 l0 (j : Int)).f0 == (rd_T164 l1 (j : Int)).f0 && (rd_T129 l0 (j : Int)).f1 == (rd_T164 l1 (j : Int)).f1) = false from hb)
     clear hb
     go_wp2_with (go_at_call 162;refine (placed162_calls _ _ _ _ _ _).mono ?_;rintro e w' ⟨rfl,hd⟩;rw [HB.out];have HD:=am hd;clear hd)
     go_ret
     exact ⟨by rw [HF.out];rfl,below_then (below_alloc (below_alloc HBw.out _) _) (below_size (below_alloc (below_alloc HBw.out _) _)) HD.out⟩
   ·have HF:=am (show placedP l0 l1 = true by
     unfold placedP
     rw [Bool.and_eq_true]
     refine ⟨by simpa using HL.out,?_⟩
     rw [List.all_eq_true]
     exact fun i hi => HA.out i (by have:=List.mem_range.1 hi;omega))
    go_wp2
    go_ret
    exact ⟨by rw [HF.out];rfl,HBw.out⟩
 ·have g1 : ((l0.length : Int) != (l1.length : Int)) = true:=by simp;omega
  have g2 : (l0.length != l1.length) = true:=by simp;omega
  have g3 : (l0.length == l1.length) = false:=by simp;omega
  have HF:=am (show placedP l0 l1 = false by
   unfold placedP
   rw [Bool.and_eq_false_iff]
   exact .inl (by simpa using hl))
  clear hl
  go_enter Try.func161,Try.ntmps161
  go_wp2
  go_ret
  exact ⟨by rw [HF.out];rfl,Below.refl _ _⟩
def book_placed.f (l0 : List S129) (l1 : List S164) : Option Bool:=some (placedP l0 l1)
set_option maxRecDepth 100000 in
theorem book_placed.calls (A0 : Option Addr) (c0 : Nat) (l0 : List S129) (A1 : Option Addr) (c1 : Nat) (l1 : List S164) (r : Bool) (w : World) (hr0 : Kd.C k129 w A0 l0.length l0) (hc0 : l0.length ≤ c0) (hr1 : Kd.C k164 w A1 l1.length l1) (hc1 : l1.length ≤ c1) (h : book_placed.f l0 l1 = some r) :
  Calls Try.prog 126 #[.slice A0 l0.length c0,.slice A1 l1.length c1] w fun e w' => e = .returned (.bool r) ∧ Below w.heap.size w w':=by
 obtain rfl:=Option.some.inj h
 have HR0:=am hr0
 have HC0:=am hc0
 have HR1:=am hr1
 have HC1:=am hc1
 clear hr0 hc0 hr1 hc1 h
 go_enter Try.func126,Try.ntmps126
 go_wp2_with (go_at_call 161;refine (equal162_calls _ _ _ _ _ _ _ HR0.out HC0.out HR1.out HC1.out).mono ?_;rintro e w' ⟨rfl,hd⟩;have HD:=am hd;clear hd)
 go_ret
 exact ⟨rfl,HD.out⟩
end
def book_stands.f (a0 : Int) (a1 : Int) (a2 : Int) (a3_0 : Int) (a3_1 : Int) (a3_2 : Int) (a3_3 : Int) (l4 : List (S129)) : Option (Bool):=(book_siblings.f a1 a2).bind fun t102 => ((book_placed.f l4 t102).bind fun t105 => (if t105 = true then ((book_up.f a2 a3_0 a3_1 a3_2 a3_3 l4).bind fun t106 => (if 0 ≤ (wrap64 ((t106.length : Int) - 1)) then (if (wrap64 ((t106.length : Int) - 1)) < (t106.length : Int) then ((book_digest.f (rd_L10 t106 (wrap64 ((t106.length : Int) - 1)))).bind fun t110 => (some (t110 == a0))) else (none)) else (none))) else (some false)))
set_option maxHeartbeats 8000000 in
set_option maxRecDepth 100000 in
theorem book_stands.calls (a0 : Int) (a1 : Int) (a2 : Int) (a3_0 : Int) (a3_1 : Int) (a3_2 : Int) (a3_3 : Int) (A4 : Option Addr) (c4 : Nat) (l4 : List (S129)) (r : Bool) (w : World) (hr4 : Kd.C k129 w A4 l4.length l4) (hc4 : l4.length ≤ c4) (h : book_stands.f a0 a1 a2 a3_0 a3_1 a3_2 a3_3 l4 = some r) :
  Calls Try.prog 124 #[.int .i64 a0,.int .i64 a1,.int .i64 a2,.agg #[.int .i64 a3_0,.int .i64 a3_1,.int .i64 a3_2,.int .i64 a3_3],.slice A4 l4.length c4] w fun e w' => e = .returned (.bool r) ∧ Below w.heap.size w w':=by
 have hu29:=Try.underlying29
 have HR4:=am hr4
 have HC4:=am hc4
 clear hr4 hc4
 have HB:=am (Below.refl w.heap.size w)
 have H : ((book_siblings.f a1 a2).bind fun t102 => ((book_placed.f l4 t102).bind fun t105 => (if t105 = true then ((book_up.f a2 a3_0 a3_1 a3_2 a3_3 l4).bind fun t106 => (if 0 ≤ (wrap64 ((t106.length : Int) - 1)) then (if (wrap64 ((t106.length : Int) - 1)) < (t106.length : Int) then ((book_digest.f (rd_L10 t106 (wrap64 ((t106.length : Int) - 1)))).bind fun t110 => (some (t110 == a0))) else (none)) else (none))) else (some false)))) = some r:=h
 clear h
 replace H:=Option.bind_eq_some_iff.mp H
 obtain ⟨t102,A60,H⟩:=H
 replace H : ((book_placed.f l4 t102).bind fun t105 => (if t105 = true then ((book_up.f a2 a3_0 a3_1 a3_2 a3_3 l4).bind fun t106 => (if 0 ≤ (wrap64 ((t106.length : Int) - 1)) then (if (wrap64 ((t106.length : Int) - 1)) < (t106.length : Int) then ((book_digest.f (rd_L10 t106 (wrap64 ((t106.length : Int) - 1)))).bind fun t110 => (some (t110 == a0))) else (none)) else (none))) else (some false))) = some r:=H
 have A6:=am A60
 clear A60
 replace H:=Option.bind_eq_some_iff.mp H
 obtain ⟨t105,A70,H⟩:=H
 replace H : (if t105 = true then ((book_up.f a2 a3_0 a3_1 a3_2 a3_3 l4).bind fun t106 => (if 0 ≤ (wrap64 ((t106.length : Int) - 1)) then (if (wrap64 ((t106.length : Int) - 1)) < (t106.length : Int) then ((book_digest.f (rd_L10 t106 (wrap64 ((t106.length : Int) - 1)))).bind fun t110 => (some (t110 == a0))) else (none)) else (none))) else (some false)) = some r:=H
 have A7:=am A70
 clear A70
 by_cases c8 : t105 = true
 ·subst c8
  have H1 : ((book_up.f a2 a3_0 a3_1 a3_2 a3_3 l4).bind fun t106 => (if 0 ≤ (wrap64 ((t106.length : Int) - 1)) then (if (wrap64 ((t106.length : Int) - 1)) < (t106.length : Int) then ((book_digest.f (rd_L10 t106 (wrap64 ((t106.length : Int) - 1)))).bind fun t110 => (some (t110 == a0))) else (none)) else (none))) = some r:=by rw [if_pos rfl] at H;exact H
  clear H
  have H:=H1
  clear H1
  replace H:=Option.bind_eq_some_iff.mp H
  obtain ⟨t106,A90,H⟩:=H
  replace H : (if 0 ≤ (wrap64 ((t106.length : Int) - 1)) then (if (wrap64 ((t106.length : Int) - 1)) < (t106.length : Int) then ((book_digest.f (rd_L10 t106 (wrap64 ((t106.length : Int) - 1)))).bind fun t110 => (some (t110 == a0))) else (none)) else (none)) = some r:=H
  have A9:=am A90
  clear A90
  obtain ⟨ji10,hji10⟩ : ∃ j_ : Int,(wrap64 ((t106.length : Int) - 1)) = j_:=⟨_,rfl⟩
  replace H : (if 0 ≤ (ji10) then (if (ji10) < (t106.length : Int) then ((book_digest.f (rd_L10 t106 (ji10))).bind fun t110 => (some (t110 == a0))) else (none)) else (none)) = some r:=by first|(rw [hji10] at H;exact H)|(simp only [hji10] at H ⊢;exact H)
  (try rw [hji10] at A6)
  (try rw [hji10] at A7)
  (try rw [hji10] at A9)
  have hji10w : (IntKind.i64.wrap ((t106.length : Int) - 1)) = ji10:=(i64_w _).trans hji10
  by_cases c11 : 0 ≤ (ji10)
  ·rw [if_pos c11] at H
   have c11b0 : decide (0 ≤ (ji10)) = true:=decide_eq_true c11
   clear c11
   by_cases c12 : (ji10) < (t106.length : Int)
   ·rw [if_pos c12] at H
    have c12b0 : decide ((ji10) < (t106.length : Int)) = true:=decide_eq_true c12
    clear c12
    replace H:=Option.bind_eq_some_iff.mp H
    obtain ⟨t110,A130,H⟩:=H
    replace H : (some (t110 == a0)) = some r:=H
    have A13:=am A130
    clear A130
    obtain rfl:=Option.some.inj H
    go_enter Try.func124,Try.ntmps124
    go_wp2_with (first|((with_reducible refine gate_dst (N:=8) rfl ?_);refine box_event ?hg (N:=8) ?hd (cs:=#[.int .i64 a3_0,.int .i64 a3_1,.int .i64 a3_2,.int .i64 a3_3]) (t:=29) ?hr ?_;(case hd => rfl);(case hg => rfl);(case hr => first|(go_simp;done)|(go_simp;rfl));intro gb101 hg w14 hbox hb;have n0_:=am (below_step (v0 HB.out) hb);have n1_:=am (hbox);have n2_:=am ((by rw [hg];exact (below_size (v0 HB.out)) : w.heap.size ≤ gb101));have n3_:=am ((by rw [hg];exact (below_size (v0 HB.out)) : w.heap.size ≤ gb101));clear HB;have HB:=n0_;have BK101:=n1_;have GW101:=n2_;have GE101:=n3_;clear n0_ n1_ n2_ n3_;clear hb hbox hg)|((with_reducible refine gate_callee (f:=122) rfl ?_);refine goesL_ (some 15) rfl rfl Try.func122 kr rfl #[.int .i64 a1,.int .i64 a2] rfl (by (try simp only [List.map_toArray,List.map_cons,List.map_nil]);first|done|rfl|(simp only [List.length_drop,List.length_take];rfl)) ?_;(with_reducible refine (book_siblings.calls a1 a2 t102 _ A6.out).mono ?_);rintro e w15 ⟨v103,rfl,ho0,hb⟩;refine ⟨_,rfl,?_⟩;have n0_:=am (Kd.R_lower ho0 (below_size (v1 HB.out GE101.out)));have n1_:=am (blk_below (g:=gb101) (o:=.cells #[.int .i64 a3_0,.int .i64 a3_1,.int .i64 a3_2,.int .i64 a3_3] 29 (0,0)) (vb BK101.out) hb);have n2_:=am (below_step (v1 HB.out GE101.out) hb);clear BK101;clear HB;have HO104:=n0_;have BK101:=n1_;have HB:=n2_;clear n0_ n1_ n2_;(try clear hb);(try clear hb2);(try clear hk);(try clear hi);(try clear ho0);obtain ⟨Ao16,co16,eo16⟩:=Kd.R_slice HO104.out;subst eo16)|((with_reducible refine gate_callee (f:=126) rfl ?_);refine goesL_ (some 16) rfl rfl Try.func126 kr rfl #[.slice A4 l4.length c4,.slice Ao16 t102.length co16] rfl (by (try simp only [List.map_toArray,List.map_cons,List.map_nil]);first|done|rfl|(simp only [List.length_drop,List.length_take];rfl)) ?_;(with_reducible refine (book_placed.calls _ _ l4 _ _ t102 true _ ?side1 ?side2 ?side3 ?side4 A7.out).mono ?_);(case side1 => repeat (first|exact (Kd.C_below HR4.out HB.out)|(with_reducible refine Kd.C_alloc ?_ _)|(with_reducible refine Kd.C_drewN ?_ _)|(with_reducible refine Kd.C_drew ?_)));(case side2 => exact HC4.out);(case side3 => repeat (first|exact (Kd.R_reads' HO104.out).2.2|(with_reducible refine Kd.C_alloc ?_ _)|(with_reducible refine Kd.C_drewN ?_ _)|(with_reducible refine Kd.C_drew ?_)));(case side4 => exact (Kd.R_reads' HO104.out).2.1);rintro e w17 ⟨rfl,hb⟩;refine ⟨_,rfl,?_⟩;have n0_:=am (Kd.R_below (by (with_reducible repeat (first|apply Kd.R_alloc|apply Kd.R_drewN|apply Kd.R_drew));exact HO104.out) hb);have n1_:=am (blk_below (g:=gb101) (o:=.cells #[.int .i64 a3_0,.int .i64 a3_1,.int .i64 a3_2,.int .i64 a3_3] 29 (0,0)) (vb BK101.out) hb);have n2_:=am (below_step (v1 HB.out GE101.out) hb);clear HO104;clear BK101;clear HB;have HO104:=n0_;have BK101:=n1_;have HB:=n2_;clear n0_ n1_ n2_;(try clear hb);(try clear hb2);(try clear hk);(try clear hi);have hcz18_0 : w17.cell? ⟨gb101,0,none⟩ = some (.int .i64 a3_0):=(blk_cell BK101.out 0).trans rfl;have hcz18_1 : w17.cell? ⟨gb101,1,none⟩ = some (.int .i64 a3_1):=(blk_cell BK101.out 1).trans rfl;have hcz18_2 : w17.cell? ⟨gb101,2,none⟩ = some (.int .i64 a3_2):=(blk_cell BK101.out 2).trans rfl;have hcz18_3 : w17.cell? ⟨gb101,3,none⟩ = some (.int .i64 a3_3):=(blk_cell BK101.out 3).trans rfl;have hfz18_0:=blk_frozen BK101.out 0;have hfz18_1:=blk_frozen BK101.out 1;have hfz18_2:=blk_frozen BK101.out 2;have hfz18_3:=blk_frozen BK101.out 3)|((with_reducible refine gate_callee (f:=142) rfl ?_);refine goesL_ (some 21) rfl rfl Try.func142 kr rfl #[.int .i64 a2,.agg #[.int .i64 a3_0,.int .i64 a3_1,.int .i64 a3_2,.int .i64 a3_3],.slice A4 l4.length c4] rfl (by (try simp only [List.map_toArray,List.map_cons,List.map_nil]);first|done|rfl|(simp only [List.length_drop,List.length_take];rfl)) ?_;(with_reducible refine (book_up.calls a2 a3_0 a3_1 a3_2 a3_3 _ _ l4 t106 _ ?side1 ?side2 A9.out).mono ?_);(case side1 => repeat (first|exact (Kd.C_below HR4.out HB.out)|(with_reducible refine Kd.C_alloc ?_ _)|(with_reducible refine Kd.C_drewN ?_ _)|(with_reducible refine Kd.C_drew ?_)));(case side2 => exact HC4.out);rintro e w19 ⟨v107,rfl,ho0,hb⟩;refine ⟨_,rfl,?_⟩;have n0_:=am (Kd.R_below (by (with_reducible repeat (first|apply Kd.R_alloc|apply Kd.R_drewN|apply Kd.R_drew));exact HO104.out) hb);have n1_:=am (Kd.V_lower (Kd.V_mono (ok':=fun k_ => some k_ ≠ (.slice Ao16 t102.length co16 : Value).ownBlock ∧ k_ ≠ gb101) ho0 (fun k_ hk_ => ⟨(Kd.fresh' (Kd.R_lt (by (with_reducible repeat (first|apply Kd.R_alloc|apply Kd.R_drewN|apply Kd.R_drew));exact HO104.out)) k_ hk_),(Kd.freshB (g:=gb101) (o:=.cells #[.int .i64 a3_0,.int .i64 a3_1,.int .i64 a3_2,.int .i64 a3_3] 29 (0,0)) (vb BK101.out) k_ hk_)⟩)) (below_size (v1 HB.out GE101.out)));have n2_:=am (blk_below (g:=gb101) (o:=.cells #[.int .i64 a3_0,.int .i64 a3_1,.int .i64 a3_2,.int .i64 a3_3] 29 (0,0)) (vb BK101.out) hb);have n3_:=am (below_step (v1 HB.out GE101.out) hb);clear HO104;clear BK101;clear HB;have HO104:=n0_;have HO108:=n1_;have BK101:=n2_;have HB:=n3_;clear n0_ n1_ n2_ n3_;(try clear hb);(try clear hb2);(try clear hk);(try clear hi);(try clear ho0);obtain ⟨Ao20,co20,eo20⟩:=Kd.V_slice HO108.out;subst eo20;have p109 : 0 ≤ ((ji10) : Int):=of_decide_eq_true va;have q109 : (ji10) < (t106.length : Int):=of_decide_eq_true va;obtain ⟨ad109,A109_0,c109_0,e109,hx109_0,hl109_0,hi109_0⟩:=at_L10 (Kd.V_reads' HO108.out).2.2 (ji10) p109 q109;cases e109;obtain ⟨ce109,hce109,hMe109,hcc109⟩:=Kd.V_get HO108.out [] (ji10) p109 (by first|exact q109|exact of_decide_eq_true va|(have e_:=(Kd.V_reads' HO108.out).1;omega));obtain ⟨ua109_0,uc109_0,rfl,ul109_0,ge109_0⟩:=Kd.FK_slice_open hMe109;have hv109_0:=hcc109 0 _ rfl;rw [Nat.add_zero,show ((Kd.slice 3 (Kd.int .i64))).sz = 1 from rfl,Nat.mul_one] at hv109_0;replace hv109_0:=Option.some.inj (hv109_0.symm.trans hx109_0);injection hv109_0 with hva_ hvn_ hvc_;rw [hva_] at ge109_0;rw [hvc_] at ul109_0;have HL109_0:=am (show Kd.V (Kd.int .i64) 3 _ w.heap.size _ _ (rd_L10 t106 (ji10)) from Kd.V_mk ul109_0 ge109_0);clear hva_ hvn_ hvc_ ge109_0 ul109_0;clear hcc109 hce109;have HR109_0:=am hi109_0;have HC109_0:=am hl109_0;clear hi109_0 hl109_0;replace p109:=eq_true p109;replace q109:=eq_true q109)|((with_reducible refine gate_callee (f:=96) rfl ?_);refine goesL_ (some 28) rfl rfl Try.func96 kr rfl #[.slice A109_0 (rd_L10 t106 (ji10)).length c109_0] rfl (by (try simp only [List.map_toArray,List.map_cons,List.map_nil]);first|done|(simp only [hji10];rfl)|rfl|(simp only [List.length_drop,List.length_take];rfl)) ?_;(with_reducible refine (book_digest.calls _ _ (rd_L10 t106 (ji10)) t110 _ ?side1 ?side2 A13.out).mono ?_);(case side1 => repeat (first|exact (by repeat (first|(with_reducible exact HR109_0.out)|(with_reducible refine Kd.C_alloc ?_ _)|(with_reducible refine Kd.C_drewN ?_ _)|(with_reducible refine Kd.C_drew ?_)|exact HR109_0.out))|(with_reducible refine Kd.C_alloc ?_ _)|(with_reducible refine Kd.C_drewN ?_ _)|(with_reducible refine Kd.C_drew ?_)));(case side2 => exact HC109_0.out);rintro e w' ⟨rfl,⟨nd,rfl⟩⟩;refine ⟨_,rfl,?_⟩))
    go_ret
    exact ⟨by first|rfl|(simp [errW_none,errW_some] <;> rfl)|(simp only [← hji10];first|rfl|(simp [errW_none,errW_some] <;> rfl))|(simp [*,errW_none,errW_some] <;> rfl),v1 HB.out GE101.out⟩
   ·rw [if_neg c12] at H
    exact absurd H (by simp)
  ·rw [if_neg c11] at H
   exact absurd H (by simp)
 ·replace c8:=Bool.eq_false_iff.mpr c8
  subst c8
  have H1 : (some false) = some r:=by rw [if_neg (show ¬ (false = true) by decide)] at H;exact H
  clear H
  have H:=H1
  clear H1
  obtain rfl:=Option.some.inj H
  go_enter Try.func124,Try.ntmps124
  go_wp2_with (first|((with_reducible refine gate_dst (N:=8) rfl ?_);refine box_event ?hg (N:=8) ?hd (cs:=#[.int .i64 a3_0,.int .i64 a3_1,.int .i64 a3_2,.int .i64 a3_3]) (t:=29) ?hr ?_;(case hd => rfl);(case hg => rfl);(case hr => first|(go_simp;done)|(go_simp;rfl));intro gb101 hg w21 hbox hb;have n0_:=am (below_step (v0 HB.out) hb);have n1_:=am (hbox);have n2_:=am ((by rw [hg];exact (below_size (v0 HB.out)) : w.heap.size ≤ gb101));have n3_:=am ((by rw [hg];exact (below_size (v0 HB.out)) : w.heap.size ≤ gb101));clear HB;have HB:=n0_;have BK101:=n1_;have GW101:=n2_;have GE101:=n3_;clear n0_ n1_ n2_ n3_;clear hb hbox hg)|((with_reducible refine gate_callee (f:=122) rfl ?_);refine goesL_ (some 15) rfl rfl Try.func122 kr rfl #[.int .i64 a1,.int .i64 a2] rfl (by (try simp only [List.map_toArray,List.map_cons,List.map_nil]);first|done|rfl|(simp only [List.length_drop,List.length_take];rfl)) ?_;(with_reducible refine (book_siblings.calls a1 a2 t102 _ A6.out).mono ?_);rintro e w22 ⟨v103,rfl,ho0,hb⟩;refine ⟨_,rfl,?_⟩;have n0_:=am (Kd.R_lower ho0 (below_size (v1 HB.out GE101.out)));have n1_:=am (blk_below (g:=gb101) (o:=.cells #[.int .i64 a3_0,.int .i64 a3_1,.int .i64 a3_2,.int .i64 a3_3] 29 (0,0)) (vb BK101.out) hb);have n2_:=am (below_step (v1 HB.out GE101.out) hb);clear BK101;clear HB;have HO104:=n0_;have BK101:=n1_;have HB:=n2_;clear n0_ n1_ n2_;(try clear hb);(try clear hb2);(try clear hk);(try clear hi);(try clear ho0);obtain ⟨Ao23,co23,eo23⟩:=Kd.R_slice HO104.out;subst eo23)|((with_reducible refine gate_callee (f:=126) rfl ?_);refine goesL_ (some 16) rfl rfl Try.func126 kr rfl #[.slice A4 l4.length c4,.slice Ao23 t102.length co23] rfl (by (try simp only [List.map_toArray,List.map_cons,List.map_nil]);first|done|rfl|(simp only [List.length_drop,List.length_take];rfl)) ?_;(with_reducible refine (book_placed.calls _ _ l4 _ _ t102 false _ ?side1 ?side2 ?side3 ?side4 A7.out).mono ?_);(case side1 => repeat (first|exact (Kd.C_below HR4.out HB.out)|(with_reducible refine Kd.C_alloc ?_ _)|(with_reducible refine Kd.C_drewN ?_ _)|(with_reducible refine Kd.C_drew ?_)));(case side2 => exact HC4.out);(case side3 => repeat (first|exact (Kd.R_reads' HO104.out).2.2|(with_reducible refine Kd.C_alloc ?_ _)|(with_reducible refine Kd.C_drewN ?_ _)|(with_reducible refine Kd.C_drew ?_)));(case side4 => exact (Kd.R_reads' HO104.out).2.1);rintro e w24 ⟨rfl,hb⟩;refine ⟨_,rfl,?_⟩;have n0_:=am (Kd.R_below (by (with_reducible repeat (first|apply Kd.R_alloc|apply Kd.R_drewN|apply Kd.R_drew));exact HO104.out) hb);have n1_:=am (blk_below (g:=gb101) (o:=.cells #[.int .i64 a3_0,.int .i64 a3_1,.int .i64 a3_2,.int .i64 a3_3] 29 (0,0)) (vb BK101.out) hb);have n2_:=am (below_step (v1 HB.out GE101.out) hb);clear HO104;clear BK101;clear HB;have HO104:=n0_;have BK101:=n1_;have HB:=n2_;clear n0_ n1_ n2_;(try clear hb);(try clear hb2);(try clear hk);(try clear hi)))
  go_ret
  exact ⟨vf,v1 HB.out GE101.out⟩
theorem digests159_calls (a b c : Int) (w : World) : Calls Try.prog 159 #[.agg #[.int .i64 a,.int .i64 b,.int .i64 c]] w fun e w' => e = .returned (.bool (!isDigP c)) ∧ Below w.heap.size w w':=by
 have hn:=run_not
 have hu129:=Try.underlying129
 go_enter Try.func159,Try.ntmps159
 go_wp2_with (go_at_call 92;refine (book_isDigest.calls _ _ _ (isDigest_some c)).mono ?_;rintro e w' ⟨rfl,nq,rfl⟩)
 go_ret
 exact ⟨rfl,by repeat (first|exact Below.refl _ _|apply below_alloc|apply pw_below_drewN)⟩
def digestsP (l : List S129) : Bool:=l.all fun x => isDigP x.f2
def badTwig (l : List S129) : Int:=match l.findIdx? (fun x => !isDigP x.f2) with|some i => (i : Int)|none => -1
theorem badTwig_hit (l : List S129) (j : Nat) (h : j < l.length) (hb : isDigP (l.getD j z129).f2 = false) (hall : ∀ i,i < j → isDigP (l.getD i z129).f2 = true) : badTwig l = (j : Int):=by
 unfold badTwig
 have : l.findIdx? (fun x => !isDigP x.f2) = some j:=by
  rw [List.findIdx?_eq_some_iff_getElem]
  refine ⟨h,by simpa [List.getD_eq_getElem?_getD,List.getElem?_eq_getElem h] using hb,fun i hi => ?_⟩
  have:=hall i hi
  simpa [List.getD_eq_getElem?_getD,List.getElem?_eq_getElem (Nat.lt_trans hi h)] using this
 rw [this]
theorem badTwig_none (l : List S129) (hall : ∀ i,i < l.length → isDigP (l.getD i z129).f2 = true) : badTwig l = -1:=by
 unfold badTwig
 have : l.findIdx? (fun x => !isDigP x.f2) = none:=by
  rw [List.findIdx?_eq_none_iff]
  intro x hx
  obtain ⟨i,hi,rfl⟩:=List.mem_iff_getElem.1 hx
  have:=hall i hi
  simpa [List.getD_eq_getElem?_getD,List.getElem?_eq_getElem hi] using this
 rw [this]
theorem badTwig_ge (l : List S129) : decide (0 ≤ badTwig l) = !digestsP l:=by
 unfold badTwig digestsP
 cases h : l.findIdx? (fun x => !isDigP x.f2) with
|none =>
  rw [List.findIdx?_eq_none_iff] at h
  have : (l.all fun x => isDigP x.f2) = true:=List.all_eq_true.2 fun x hx => by simpa using h x hx
  rw [this]
  simp
|some i =>
  rw [List.findIdx?_eq_some_iff_getElem] at h
  obtain ⟨h1,h2,_⟩:=h
  have : (l.all fun x => isDigP x.f2) = false:=List.all_eq_false.2 ⟨l[i],List.getElem_mem h1,by simpa using h2⟩
  rw [this]
  simp
set_option maxRecDepth 100000 in
set_option maxHeartbeats 1000000 in
theorem index159_calls (A0 : Option Addr) (c0 : Nat) (l0 : List S129) (w : World) (hr0 : Kd.C k129 w A0 l0.length l0) (hc0 : l0.length ≤ c0) :
  Calls Try.prog 173 #[.slice A0 l0.length c0,.func (.func 159) #[] #[]] w fun e w' => e = .returned (.int .i64 (badTwig l0)) ∧ Below w.heap.size w w':=by
 have HR0:=am hr0
 have hm:=hr0.2.1
 have HC0:=am hc0
 clear hr0 hc0
 have hu129:=Try.underlying129
 go_enter Try.func173,Try.ntmps173
 go_wp2
 go_loopw [8] (fun v8 wr => ∃ j : Nat,j ≤ l0.length ∧ v8 = .int .i64 (j : Int) ∧ Aside0 (∀ i,i < j → isDigP (l0.getD i z129).f2 = true) ∧ Aside0 (Below w.heap.size w wr)) (fun v8 _ => l0.length - (intOf v8).toNat)
 case atStart => exact ⟨0,Nat.zero_le _,rfl,⟨fun i hi => absurd hi (by omega)⟩,⟨Below.refl _ _⟩⟩
 case round =>
  obtain ⟨j,hj,rfl,HA,HBw⟩:=hrel
  by_cases hlt : j < l0.length
  ·obtain ⟨ad,e,hx0,hx1,hx2⟩:=at_T129 (Kd.C_below HR0.out HBw.out) (j : Int) (by omega) (by omega)
   cases e
   rw [Int.toNat_natCast] at hx0 hx1 hx2
   cases hb : isDigP (rd_T129 l0 (j : Int)).f2 with
  |true =>
    have HB:=am hb
    clear hb
    go_wp2_with (go_at_call 159;refine (digests159_calls _ _ _ _).mono ?_;rintro e w' ⟨rfl,hd⟩;rw [HB.out];have HD:=am hd;clear hd)
    go_roundw
    case rel => exact ⟨j + 1,by omega,by go_num,⟨fun i hi => if h : i = j then by subst h;exact HB.out else HA.out i (by omega)⟩,⟨below_then HBw.out (below_size HBw.out) HD.out⟩⟩
    case measure => simp [intOf];omega
  |false =>
    have HB:=am hb
    clear hb
    go_wp2_with (go_at_call 159;refine (digests159_calls _ _ _ _).mono ?_;rintro e w' ⟨rfl,hd⟩;rw [HB.out];have HD:=am hd;clear hd)
    go_ret
    exact ⟨by rw [badTwig_hit l0 j hlt HB.out HA.out];rfl,below_then HBw.out (below_size HBw.out) HD.out⟩
  ·go_wp2
   go_ret
   exact ⟨by rw [badTwig_none l0 (fun i hi => HA.out i (by omega))];rfl,HBw.out⟩
set_option maxRecDepth 100000 in
theorem contains159_calls (A0 : Option Addr) (c0 : Nat) (l0 : List S129) (w : World) (hr0 : Kd.C k129 w A0 l0.length l0) (hc0 : l0.length ≤ c0) :
  Calls Try.prog 158 #[.slice A0 l0.length c0,.func (.func 159) #[] #[]] w fun e w' => e = .returned (.bool (!digestsP l0)) ∧ Below w.heap.size w w':=by
 have HR0:=am hr0
 have HC0:=am hc0
 clear hr0 hc0
 have HG:=am (badTwig_ge l0)
 go_enter Try.func158,Try.ntmps158
 go_wp2_with (go_at_call 173;refine (index159_calls _ _ _ _ HR0.out HC0.out).mono ?_;rintro e w' ⟨rfl,hd⟩;have HD:=am hd;clear hd)
 go_ret
 exact ⟨by rw [← HG.out];rfl,HD.out⟩
def book_digests.f (l0 : List S129) : Option Bool:=some (digestsP l0)
set_option maxRecDepth 100000 in
theorem book_digests.calls (A0 : Option Addr) (c0 : Nat) (l0 : List S129) (r : Bool) (w : World) (hr0 : Kd.C k129 w A0 l0.length l0) (hc0 : l0.length ≤ c0) (h : book_digests.f l0 = some r) :
  Calls Try.prog 123 #[.slice A0 l0.length c0] w fun e w' => e = .returned (.bool r) ∧ Below w.heap.size w w':=by
 obtain rfl:=Option.some.inj h
 have HR0:=am hr0
 have HC0:=am hc0
 clear hr0 hc0 h
 have hn:=run_not
 go_enter Try.func123,Try.ntmps123
 go_wp2_with (go_at_call 158;refine (contains159_calls _ _ _ _ HR0.out HC0.out).mono ?_;rintro e w' ⟨rfl,hd⟩;have HD:=am hd;clear hd)
 go_ret
 exact ⟨by simp,HD.out⟩
def book_CheckStands.j0 : Nat → Int → Int → Int → List (S129) → Bool → Int → Int → Int → Int → Option (Int)
|0,_,_,_,_,_,_,_,_,_ => none
|k + 1,x0,x1,x2,x4,x35,x102000,x102001,x102002,x102003 => if x35 = true then (some 1) else ((book_stands.f x0 x1 x2 x102000 x102001 x102002 x102003 x4).bind fun t107 => (if t107 = true then (some 0) else (some 8)))
def book_CheckStands.f (k : Nat) (a0 : Int) (a1 : Int) (a2 : Int) (a3_0 : Int) (a3_1 : Int) (a3_2 : Int) (a3_3 : Int) (l4 : List (S129)) : Option (Int):=(book_right.f a3_0 a3_1 a3_2 a3_3).bind fun t102 => (if t102 = true then ((book_within.f a1 1 64).bind fun t103 => (if t103 = true then ((book_within.f a2 0 (wrap64 (a1 - 1))).bind fun t104 => (if t104 = true then ((book_isDigest.f a0).bind fun t105 => (if t105 = true then ((book_digests.f l4).bind fun t106 => (book_CheckStands.j0 k a0 a1 a2 l4 (!t106) a3_0 a3_1 a3_2 a3_3)) else (book_CheckStands.j0 k a0 a1 a2 l4 true a3_0 a3_1 a3_2 a3_3))) else (book_CheckStands.j0 k a0 a1 a2 l4 true a3_0 a3_1 a3_2 a3_3))) else (book_CheckStands.j0 k a0 a1 a2 l4 true a3_0 a3_1 a3_2 a3_3))) else (book_CheckStands.j0 k a0 a1 a2 l4 true a3_0 a3_1 a3_2 a3_3))
theorem book_CheckStands.mono_l : ∀ k,(∀ y0 y1 y2 y3 y4 y5 y6 y7 y8,LeO (book_CheckStands.j0 k y0 y1 y2 y3 y4 y5 y6 y7 y8) (book_CheckStands.j0 (k + 1) y0 y1 y2 y3 y4 y5 y6 y7 y8))
|0 => fun _ _ _ _ _ _ _ _ _ r h => by simp [book_CheckStands.j0] at h
|k + 1 => by
  have ih0:=book_CheckStands.mono_l k
  ·intro y0 y1 y2 y3 y4 y5 y6 y7 y8
   unfold book_CheckStands.j0
   repeat' first
  |(with_reducible exact ih0 _ _ _ _ _ _ _ _ _)
  |(with_reducible exact LeO.refl _)
  |(with_reducible exact LeO.none _)
  |(with_reducible refine LeO.ite ?_ ?_)
  |(with_reducible refine LeO.bind ?_ (fun _ => ?_))
  |exact ih0 _ _ _ _ _ _ _ _ _
  |exact LeO.none _
  |refine LeO.ite ?_ ?_
  |refine LeO.bind ?_ (fun _ => ?_)
theorem book_CheckStands.mono : ∀ a0 a1 a2 a3 a4 a5 a6 a7 k,LeO (book_CheckStands.f k a0 a1 a2 a3 a4 a5 a6 a7) (book_CheckStands.f (k + 1) a0 a1 a2 a3 a4 a5 a6 a7):=by
 intro a0 a1 a2 a3 a4 a5 a6 a7 k
 have ih0:=book_CheckStands.mono_l k
 unfold book_CheckStands.f
 repeat' first
  |(with_reducible exact ih0 _ _ _ _ _ _ _ _ _)
  |(with_reducible exact LeO.refl _)
  |(with_reducible exact LeO.none _)
  |(with_reducible refine LeO.ite ?_ ?_)
  |(with_reducible refine LeO.bind ?_ (fun _ => ?_))
  |exact ih0 _ _ _ _ _ _ _ _ _
  |exact LeO.none _
  |refine LeO.ite ?_ ?_
  |refine LeO.bind ?_ (fun _ => ?_)
set_option maxHeartbeats 8000000 in
set_option maxRecDepth 100000 in
theorem book_CheckStands.calls (k : Nat) (a0 : Int) (a1 : Int) (a2 : Int) (a3_0 : Int) (a3_1 : Int) (a3_2 : Int) (a3_3 : Int) (A4 : Option Addr) (c4 : Nat) (l4 : List (S129)) (r : Int) (w : World) (hr4 : Kd.C k129 w A4 l4.length l4) (hc4 : l4.length ≤ c4) (h : book_CheckStands.f k a0 a1 a2 a3_0 a3_1 a3_2 a3_3 l4 = some r) :
  Calls Try.prog 54 #[.int .i64 a0,.int .i64 a1,.int .i64 a2,.agg #[.int .i64 a3_0,.int .i64 a3_1,.int .i64 a3_2,.int .i64 a3_3],.slice A4 l4.length c4] w fun e w' => e = .returned (.int .i64 r) ∧ Below w.heap.size w w':=by
 have hu29:=Try.underlying29
 have HR4:=am hr4
 have HC4:=am hc4
 clear hr4 hc4
 have HB:=am (Below.refl w.heap.size w)
 have H : ((book_right.f a3_0 a3_1 a3_2 a3_3).bind fun t102 => (if t102 = true then ((book_within.f a1 1 64).bind fun t103 => (if t103 = true then ((book_within.f a2 0 (wrap64 (a1 - 1))).bind fun t104 => (if t104 = true then ((book_isDigest.f a0).bind fun t105 => (if t105 = true then ((book_digests.f l4).bind fun t106 => (book_CheckStands.j0 k a0 a1 a2 l4 (!t106) a3_0 a3_1 a3_2 a3_3)) else (book_CheckStands.j0 k a0 a1 a2 l4 true a3_0 a3_1 a3_2 a3_3))) else (book_CheckStands.j0 k a0 a1 a2 l4 true a3_0 a3_1 a3_2 a3_3))) else (book_CheckStands.j0 k a0 a1 a2 l4 true a3_0 a3_1 a3_2 a3_3))) else (book_CheckStands.j0 k a0 a1 a2 l4 true a3_0 a3_1 a3_2 a3_3))) = some r:=h
 clear h
 have HC6:=am H
 clear H
 go_enter Try.func54,Try.ntmps54
 go_upto_region 1 with (first|((with_reducible refine gate_dst (N:=8) rfl ?_);refine box_event ?hg (N:=8) ?hd (cs:=#[.int .i64 a3_0,.int .i64 a3_1,.int .i64 a3_2,.int .i64 a3_3]) (t:=29) ?hr ?_;(case hd => rfl);(case hg => rfl);(case hr => first|(go_simp;done)|(go_simp;rfl));intro gb101 hg w7 hbox hb;have n0_:=am (below_step (v0 HB.out) hb);have n1_:=am (hbox);have n2_:=am ((by rw [hg];exact (below_size (v0 HB.out)) : w.heap.size ≤ gb101));have n3_:=am ((by rw [hg];exact (below_size (v0 HB.out)) : w.heap.size ≤ gb101));clear HB;have HB:=n0_;have BK101:=n1_;have GW101:=n2_;have GE101:=n3_;clear n0_ n1_ n2_ n3_;clear hb hbox hg))
 (try simp only [Act.put,List.setIfInBounds_toArray,List.set_cons_zero,List.set_cons_succ])
 go_cut [35] (fun v35 wc => ∃ (kq : Nat) (x35_5 : Bool),v35 = .bool x35_5 ∧ Aside0 (book_CheckStands.j0 kq a0 a1 a2 l4 x35_5 a3_0 a3_1 a3_2 a3_3 = some r) ∧ Aside0 (kq ≤ k) ∧ Aside0 (wc.heap[gb101]? = some (.cells #[.int .i64 a3_0,.int .i64 a3_1,.int .i64 a3_2,.int .i64 a3_3] 29 (0,0))) ∧ Aside0 (Below w.heap.size w wc))
 case first =>
  have H:=HC6.out
  clear HC6
  replace H:=Option.bind_eq_some_iff.mp H
  obtain ⟨t102,A80,H⟩:=H
  replace H : (if t102 = true then ((book_within.f a1 1 64).bind fun t103 => (if t103 = true then ((book_within.f a2 0 (wrap64 (a1 - 1))).bind fun t104 => (if t104 = true then ((book_isDigest.f a0).bind fun t105 => (if t105 = true then ((book_digests.f l4).bind fun t106 => (book_CheckStands.j0 k a0 a1 a2 l4 (!t106) a3_0 a3_1 a3_2 a3_3)) else (book_CheckStands.j0 k a0 a1 a2 l4 true a3_0 a3_1 a3_2 a3_3))) else (book_CheckStands.j0 k a0 a1 a2 l4 true a3_0 a3_1 a3_2 a3_3))) else (book_CheckStands.j0 k a0 a1 a2 l4 true a3_0 a3_1 a3_2 a3_3))) else (book_CheckStands.j0 k a0 a1 a2 l4 true a3_0 a3_1 a3_2 a3_3)) = some r:=H
  have A8:=am A80
  clear A80
  by_cases c9 : t102 = true
  ·subst c9
   have H1 : ((book_within.f a1 1 64).bind fun t103 => (if t103 = true then ((book_within.f a2 0 (wrap64 (a1 - 1))).bind fun t104 => (if t104 = true then ((book_isDigest.f a0).bind fun t105 => (if t105 = true then ((book_digests.f l4).bind fun t106 => (book_CheckStands.j0 k a0 a1 a2 l4 (!t106) a3_0 a3_1 a3_2 a3_3)) else (book_CheckStands.j0 k a0 a1 a2 l4 true a3_0 a3_1 a3_2 a3_3))) else (book_CheckStands.j0 k a0 a1 a2 l4 true a3_0 a3_1 a3_2 a3_3))) else (book_CheckStands.j0 k a0 a1 a2 l4 true a3_0 a3_1 a3_2 a3_3))) = some r:=by rw [if_pos rfl] at H;exact H
   clear H
   have H:=H1
   clear H1
   replace H:=Option.bind_eq_some_iff.mp H
   obtain ⟨t103,A100,H⟩:=H
   replace H : (if t103 = true then ((book_within.f a2 0 (wrap64 (a1 - 1))).bind fun t104 => (if t104 = true then ((book_isDigest.f a0).bind fun t105 => (if t105 = true then ((book_digests.f l4).bind fun t106 => (book_CheckStands.j0 k a0 a1 a2 l4 (!t106) a3_0 a3_1 a3_2 a3_3)) else (book_CheckStands.j0 k a0 a1 a2 l4 true a3_0 a3_1 a3_2 a3_3))) else (book_CheckStands.j0 k a0 a1 a2 l4 true a3_0 a3_1 a3_2 a3_3))) else (book_CheckStands.j0 k a0 a1 a2 l4 true a3_0 a3_1 a3_2 a3_3)) = some r:=H
   have A10:=am A100
   clear A100
   by_cases c11 : t103 = true
   ·subst c11
    have H1 : ((book_within.f a2 0 (wrap64 (a1 - 1))).bind fun t104 => (if t104 = true then ((book_isDigest.f a0).bind fun t105 => (if t105 = true then ((book_digests.f l4).bind fun t106 => (book_CheckStands.j0 k a0 a1 a2 l4 (!t106) a3_0 a3_1 a3_2 a3_3)) else (book_CheckStands.j0 k a0 a1 a2 l4 true a3_0 a3_1 a3_2 a3_3))) else (book_CheckStands.j0 k a0 a1 a2 l4 true a3_0 a3_1 a3_2 a3_3))) = some r:=by rw [if_pos rfl] at H;exact H
    clear H
    have H:=H1
    clear H1
    replace H:=Option.bind_eq_some_iff.mp H
    obtain ⟨t104,A120,H⟩:=H
    replace H : (if t104 = true then ((book_isDigest.f a0).bind fun t105 => (if t105 = true then ((book_digests.f l4).bind fun t106 => (book_CheckStands.j0 k a0 a1 a2 l4 (!t106) a3_0 a3_1 a3_2 a3_3)) else (book_CheckStands.j0 k a0 a1 a2 l4 true a3_0 a3_1 a3_2 a3_3))) else (book_CheckStands.j0 k a0 a1 a2 l4 true a3_0 a3_1 a3_2 a3_3)) = some r:=H
    have A12:=am A120
    clear A120
    by_cases c13 : t104 = true
    ·subst c13
     have H1 : ((book_isDigest.f a0).bind fun t105 => (if t105 = true then ((book_digests.f l4).bind fun t106 => (book_CheckStands.j0 k a0 a1 a2 l4 (!t106) a3_0 a3_1 a3_2 a3_3)) else (book_CheckStands.j0 k a0 a1 a2 l4 true a3_0 a3_1 a3_2 a3_3))) = some r:=by rw [if_pos rfl] at H;exact H
     clear H
     have H:=H1
     clear H1
     replace H:=Option.bind_eq_some_iff.mp H
     obtain ⟨t105,A140,H⟩:=H
     replace H : (if t105 = true then ((book_digests.f l4).bind fun t106 => (book_CheckStands.j0 k a0 a1 a2 l4 (!t106) a3_0 a3_1 a3_2 a3_3)) else (book_CheckStands.j0 k a0 a1 a2 l4 true a3_0 a3_1 a3_2 a3_3)) = some r:=H
     have A14:=am A140
     clear A140
     by_cases c15 : t105 = true
     ·subst c15
      have H1 : ((book_digests.f l4).bind fun t106 => (book_CheckStands.j0 k a0 a1 a2 l4 (!t106) a3_0 a3_1 a3_2 a3_3)) = some r:=by rw [if_pos rfl] at H;exact H
      clear H
      have H:=H1
      clear H1
      replace H:=Option.bind_eq_some_iff.mp H
      obtain ⟨t106,A160,H⟩:=H
      replace H : (book_CheckStands.j0 k a0 a1 a2 l4 (!t106) a3_0 a3_1 a3_2 a3_3) = some r:=H
      have A16:=am A160
      clear A160
      have H':=am H
      clear H
      have hcz17_0 : w7.cell? ⟨gb101,0,none⟩ = some (.int .i64 a3_0):=(blk_cell BK101.out 0).trans rfl
      have hcz17_1 : w7.cell? ⟨gb101,1,none⟩ = some (.int .i64 a3_1):=(blk_cell BK101.out 1).trans rfl
      have hcz17_2 : w7.cell? ⟨gb101,2,none⟩ = some (.int .i64 a3_2):=(blk_cell BK101.out 2).trans rfl
      have hcz17_3 : w7.cell? ⟨gb101,3,none⟩ = some (.int .i64 a3_3):=(blk_cell BK101.out 3).trans rfl
      have hfz17_0:=blk_frozen BK101.out 0
      have hfz17_1:=blk_frozen BK101.out 1
      have hfz17_2:=blk_frozen BK101.out 2
      have hfz17_3:=blk_frozen BK101.out 3
      go_wp2_with (first|((with_reducible refine gate_callee (f:=99) rfl ?_);refine goesL_ (some 12) rfl rfl Try.func99 kr rfl #[.agg #[.int .i64 a3_0,.int .i64 a3_1,.int .i64 a3_2,.int .i64 a3_3]] rfl (by (try simp only [List.map_toArray,List.map_cons,List.map_nil]);first|done|rfl|(simp only [List.length_drop,List.length_take];rfl)) ?_;(with_reducible refine (book_right.calls a3_0 a3_1 a3_2 a3_3 true _ A8.out).mono ?_);rintro e w18 ⟨rfl,hb⟩;refine ⟨_,rfl,?_⟩;have n0_:=am (blk_below (g:=gb101) (o:=.cells #[.int .i64 a3_0,.int .i64 a3_1,.int .i64 a3_2,.int .i64 a3_3] 29 (0,0)) (vb BK101.out) hb);have n1_:=am (below_step (v1 HB.out GE101.out) hb);clear BK101;clear HB;have BK101:=n0_;have HB:=n1_;clear n0_ n1_;(try clear hb);(try clear hb2);(try clear hk);(try clear hi))|(go_at_call 86;(with_reducible refine (book_within.calls a1 1 64 true _ A10.out).mono ?_);rintro e w' ⟨rfl,⟨nd,rfl⟩⟩)|(go_at_call 86;(with_reducible refine (book_within.calls a2 0 (wrap64 (a1 - 1)) true _ A12.out).mono ?_);rintro e w' ⟨rfl,⟨nd,rfl⟩⟩)|(go_at_call 92;(with_reducible refine (book_isDigest.calls a0 true _ A14.out).mono ?_);rintro e w' ⟨rfl,⟨nd,rfl⟩⟩)|(go_at_call 123;(with_reducible refine (book_digests.calls _ _ l4 t106 _ ?side1 ?side2 A16.out).mono ?_);(case side1 => repeat (first|exact (Kd.C_below HR4.out (v1 HB.out GE101.out))|(with_reducible refine Kd.C_alloc ?_ _)|(with_reducible refine Kd.C_drewN ?_ _)|(with_reducible refine Kd.C_drew ?_)));(case side2 => exact HC4.out);rintro e w19 ⟨rfl,hb⟩;have n0_:=am (blk_below (g:=gb101) (o:=.cells #[.int .i64 a3_0,.int .i64 a3_1,.int .i64 a3_2,.int .i64 a3_3] 29 (0,0)) (vb BK101.out) hb);have n1_:=am (below_step (v1 HB.out GE101.out) hb);clear BK101;clear HB;have BK101:=n0_;have HB:=n1_;clear n0_ n1_;(try clear hb);(try clear hb2);(try clear hk);(try clear hi)))
      go_meet
      case rel => exact ⟨_,(!t106),ve,H',⟨by first|omega|exact Nat.le_refl _⟩,⟨vb BK101.out⟩,⟨v1 HB.out GE101.out⟩⟩
     ·replace c15:=Bool.eq_false_iff.mpr c15
      subst c15
      have H1 : (book_CheckStands.j0 k a0 a1 a2 l4 true a3_0 a3_1 a3_2 a3_3) = some r:=by rw [if_neg (show ¬ (false = true) by decide)] at H;exact H
      clear H
      have H:=H1
      clear H1
      have H':=am H
      clear H
      have hcz20_0 : w7.cell? ⟨gb101,0,none⟩ = some (.int .i64 a3_0):=(blk_cell BK101.out 0).trans rfl
      have hcz20_1 : w7.cell? ⟨gb101,1,none⟩ = some (.int .i64 a3_1):=(blk_cell BK101.out 1).trans rfl
      have hcz20_2 : w7.cell? ⟨gb101,2,none⟩ = some (.int .i64 a3_2):=(blk_cell BK101.out 2).trans rfl
      have hcz20_3 : w7.cell? ⟨gb101,3,none⟩ = some (.int .i64 a3_3):=(blk_cell BK101.out 3).trans rfl
      have hfz20_0:=blk_frozen BK101.out 0
      have hfz20_1:=blk_frozen BK101.out 1
      have hfz20_2:=blk_frozen BK101.out 2
      have hfz20_3:=blk_frozen BK101.out 3
      go_wp2_with (first|((with_reducible refine gate_callee (f:=99) rfl ?_);refine goesL_ (some 12) rfl rfl Try.func99 kr rfl #[.agg #[.int .i64 a3_0,.int .i64 a3_1,.int .i64 a3_2,.int .i64 a3_3]] rfl (by (try simp only [List.map_toArray,List.map_cons,List.map_nil]);first|done|rfl|(simp only [List.length_drop,List.length_take];rfl)) ?_;(with_reducible refine (book_right.calls a3_0 a3_1 a3_2 a3_3 true _ A8.out).mono ?_);rintro e w21 ⟨rfl,hb⟩;refine ⟨_,rfl,?_⟩;have n0_:=am (blk_below (g:=gb101) (o:=.cells #[.int .i64 a3_0,.int .i64 a3_1,.int .i64 a3_2,.int .i64 a3_3] 29 (0,0)) (vb BK101.out) hb);have n1_:=am (below_step (v1 HB.out GE101.out) hb);clear BK101;clear HB;have BK101:=n0_;have HB:=n1_;clear n0_ n1_;(try clear hb);(try clear hb2);(try clear hk);(try clear hi))|(go_at_call 86;(with_reducible refine (book_within.calls a1 1 64 true _ A10.out).mono ?_);rintro e w' ⟨rfl,⟨nd,rfl⟩⟩)|(go_at_call 86;(with_reducible refine (book_within.calls a2 0 (wrap64 (a1 - 1)) true _ A12.out).mono ?_);rintro e w' ⟨rfl,⟨nd,rfl⟩⟩)|(go_at_call 92;(with_reducible refine (book_isDigest.calls a0 false _ A14.out).mono ?_);rintro e w' ⟨rfl,⟨nd,rfl⟩⟩))
      go_meet
      case rel => exact ⟨_,(true),ve,H',⟨by first|omega|exact Nat.le_refl _⟩,⟨vb BK101.out⟩,⟨v1 HB.out GE101.out⟩⟩
    ·replace c13:=Bool.eq_false_iff.mpr c13
     subst c13
     have H1 : (book_CheckStands.j0 k a0 a1 a2 l4 true a3_0 a3_1 a3_2 a3_3) = some r:=by rw [if_neg (show ¬ (false = true) by decide)] at H;exact H
     clear H
     have H:=H1
     clear H1
     have H':=am H
     clear H
     have hcz22_0 : w7.cell? ⟨gb101,0,none⟩ = some (.int .i64 a3_0):=(blk_cell BK101.out 0).trans rfl
     have hcz22_1 : w7.cell? ⟨gb101,1,none⟩ = some (.int .i64 a3_1):=(blk_cell BK101.out 1).trans rfl
     have hcz22_2 : w7.cell? ⟨gb101,2,none⟩ = some (.int .i64 a3_2):=(blk_cell BK101.out 2).trans rfl
     have hcz22_3 : w7.cell? ⟨gb101,3,none⟩ = some (.int .i64 a3_3):=(blk_cell BK101.out 3).trans rfl
     have hfz22_0:=blk_frozen BK101.out 0
     have hfz22_1:=blk_frozen BK101.out 1
     have hfz22_2:=blk_frozen BK101.out 2
     have hfz22_3:=blk_frozen BK101.out 3
     go_wp2_with (first|((with_reducible refine gate_callee (f:=99) rfl ?_);refine goesL_ (some 12) rfl rfl Try.func99 kr rfl #[.agg #[.int .i64 a3_0,.int .i64 a3_1,.int .i64 a3_2,.int .i64 a3_3]] rfl (by (try simp only [List.map_toArray,List.map_cons,List.map_nil]);first|done|rfl|(simp only [List.length_drop,List.length_take];rfl)) ?_;(with_reducible refine (book_right.calls a3_0 a3_1 a3_2 a3_3 true _ A8.out).mono ?_);rintro e w23 ⟨rfl,hb⟩;refine ⟨_,rfl,?_⟩;have n0_:=am (blk_below (g:=gb101) (o:=.cells #[.int .i64 a3_0,.int .i64 a3_1,.int .i64 a3_2,.int .i64 a3_3] 29 (0,0)) (vb BK101.out) hb);have n1_:=am (below_step (v1 HB.out GE101.out) hb);clear BK101;clear HB;have BK101:=n0_;have HB:=n1_;clear n0_ n1_;(try clear hb);(try clear hb2);(try clear hk);(try clear hi))|(go_at_call 86;(with_reducible refine (book_within.calls a1 1 64 true _ A10.out).mono ?_);rintro e w' ⟨rfl,⟨nd,rfl⟩⟩)|(go_at_call 86;(with_reducible refine (book_within.calls a2 0 (wrap64 (a1 - 1)) false _ A12.out).mono ?_);rintro e w' ⟨rfl,⟨nd,rfl⟩⟩))
     go_meet
     case rel => exact ⟨_,(true),ve,H',⟨by first|omega|exact Nat.le_refl _⟩,⟨vb BK101.out⟩,⟨v1 HB.out GE101.out⟩⟩
   ·replace c11:=Bool.eq_false_iff.mpr c11
    subst c11
    have H1 : (book_CheckStands.j0 k a0 a1 a2 l4 true a3_0 a3_1 a3_2 a3_3) = some r:=by rw [if_neg (show ¬ (false = true) by decide)] at H;exact H
    clear H
    have H:=H1
    clear H1
    have H':=am H
    clear H
    have hcz24_0 : w7.cell? ⟨gb101,0,none⟩ = some (.int .i64 a3_0):=(blk_cell BK101.out 0).trans rfl
    have hcz24_1 : w7.cell? ⟨gb101,1,none⟩ = some (.int .i64 a3_1):=(blk_cell BK101.out 1).trans rfl
    have hcz24_2 : w7.cell? ⟨gb101,2,none⟩ = some (.int .i64 a3_2):=(blk_cell BK101.out 2).trans rfl
    have hcz24_3 : w7.cell? ⟨gb101,3,none⟩ = some (.int .i64 a3_3):=(blk_cell BK101.out 3).trans rfl
    have hfz24_0:=blk_frozen BK101.out 0
    have hfz24_1:=blk_frozen BK101.out 1
    have hfz24_2:=blk_frozen BK101.out 2
    have hfz24_3:=blk_frozen BK101.out 3
    go_wp2_with (first|((with_reducible refine gate_callee (f:=99) rfl ?_);refine goesL_ (some 12) rfl rfl Try.func99 kr rfl #[.agg #[.int .i64 a3_0,.int .i64 a3_1,.int .i64 a3_2,.int .i64 a3_3]] rfl (by (try simp only [List.map_toArray,List.map_cons,List.map_nil]);first|done|rfl|(simp only [List.length_drop,List.length_take];rfl)) ?_;(with_reducible refine (book_right.calls a3_0 a3_1 a3_2 a3_3 true _ A8.out).mono ?_);rintro e w25 ⟨rfl,hb⟩;refine ⟨_,rfl,?_⟩;have n0_:=am (blk_below (g:=gb101) (o:=.cells #[.int .i64 a3_0,.int .i64 a3_1,.int .i64 a3_2,.int .i64 a3_3] 29 (0,0)) (vb BK101.out) hb);have n1_:=am (below_step (v1 HB.out GE101.out) hb);clear BK101;clear HB;have BK101:=n0_;have HB:=n1_;clear n0_ n1_;(try clear hb);(try clear hb2);(try clear hk);(try clear hi))|(go_at_call 86;(with_reducible refine (book_within.calls a1 1 64 false _ A10.out).mono ?_);rintro e w' ⟨rfl,⟨nd,rfl⟩⟩))
    go_meet
    case rel => exact ⟨_,(true),ve,H',⟨by first|omega|exact Nat.le_refl _⟩,⟨vb BK101.out⟩,⟨v1 HB.out GE101.out⟩⟩
  ·replace c9:=Bool.eq_false_iff.mpr c9
   subst c9
   have H1 : (book_CheckStands.j0 k a0 a1 a2 l4 true a3_0 a3_1 a3_2 a3_3) = some r:=by rw [if_neg (show ¬ (false = true) by decide)] at H;exact H
   clear H
   have H:=H1
   clear H1
   have H':=am H
   clear H
   have hcz26_0 : w7.cell? ⟨gb101,0,none⟩ = some (.int .i64 a3_0):=(blk_cell BK101.out 0).trans rfl
   have hcz26_1 : w7.cell? ⟨gb101,1,none⟩ = some (.int .i64 a3_1):=(blk_cell BK101.out 1).trans rfl
   have hcz26_2 : w7.cell? ⟨gb101,2,none⟩ = some (.int .i64 a3_2):=(blk_cell BK101.out 2).trans rfl
   have hcz26_3 : w7.cell? ⟨gb101,3,none⟩ = some (.int .i64 a3_3):=(blk_cell BK101.out 3).trans rfl
   have hfz26_0:=blk_frozen BK101.out 0
   have hfz26_1:=blk_frozen BK101.out 1
   have hfz26_2:=blk_frozen BK101.out 2
   have hfz26_3:=blk_frozen BK101.out 3
   go_wp2_with (first|((with_reducible refine gate_callee (f:=99) rfl ?_);refine goesL_ (some 12) rfl rfl Try.func99 kr rfl #[.agg #[.int .i64 a3_0,.int .i64 a3_1,.int .i64 a3_2,.int .i64 a3_3]] rfl (by (try simp only [List.map_toArray,List.map_cons,List.map_nil]);first|done|rfl|(simp only [List.length_drop,List.length_take];rfl)) ?_;(with_reducible refine (book_right.calls a3_0 a3_1 a3_2 a3_3 false _ A8.out).mono ?_);rintro e w27 ⟨rfl,hb⟩;refine ⟨_,rfl,?_⟩;have n0_:=am (blk_below (g:=gb101) (o:=.cells #[.int .i64 a3_0,.int .i64 a3_1,.int .i64 a3_2,.int .i64 a3_3] 29 (0,0)) (vb BK101.out) hb);have n1_:=am (below_step (v1 HB.out GE101.out) hb);clear BK101;clear HB;have BK101:=n0_;have HB:=n1_;clear n0_ n1_;(try clear hb);(try clear hb2);(try clear hk);(try clear hi)))
   go_meet
   case rel => exact ⟨_,(true),ve,H',⟨by first|omega|exact Nat.le_refl _⟩,⟨vb BK101.out⟩,⟨v1 HB.out GE101.out⟩⟩
 case rest =>
  clear HC6
  try clear c1
  try clear p2
  try clear c4
  try clear c5
  try clear p6
  try clear c9
  try clear c11
  try clear c13
  try clear c15
  try clear hcz17_0
  try clear hcz17_1
  try clear hcz17_2
  try clear hcz17_3
  try clear hcz20_0
  try clear hcz20_1
  try clear hcz20_2
  try clear hcz20_3
  try clear hcz22_0
  try clear hcz22_1
  try clear hcz22_2
  try clear hcz22_3
  try clear hcz24_0
  try clear hcz24_1
  try clear hcz24_2
  try clear hcz24_3
  try clear hcz26_0
  try clear hcz26_1
  try clear hcz26_2
  try clear hcz26_3
  try clear hfz17_0
  try clear hfz17_1
  try clear hfz17_2
  try clear hfz17_3
  try clear hfz20_0
  try clear hfz20_1
  try clear hfz20_2
  try clear hfz20_3
  try clear hfz22_0
  try clear hfz22_1
  try clear hfz22_2
  try clear hfz22_3
  try clear hfz24_0
  try clear hfz24_1
  try clear hfz24_2
  try clear hfz24_3
  try clear hfz26_0
  try clear hfz26_1
  try clear hfz26_2
  try clear hfz26_3
  obtain ⟨kq,x35_5,rfl,HA,HJ5,BK101,HB⟩:=hcut
  cases kq with
 |zero => exact absurd HA.out (by simp [book_CheckStands.j0])
 |succ kj5 =>
   have H:=HA.out
   clear HA
   simp only [book_CheckStands.j0] at H
   by_cases c28 : x35_5 = true
   ·subst c28
    have H1 : (some 1) = some r:=by rw [if_pos rfl] at H;exact H
    clear H
    have H:=H1
    clear H1
    obtain rfl:=Option.some.inj H
    go_wp2
    go_ret
    exact ⟨vf,v1 HB.out GE101.out⟩
   ·replace c28:=Bool.eq_false_iff.mpr c28
    subst c28
    have H1 : ((book_stands.f a0 a1 a2 a3_0 a3_1 a3_2 a3_3 l4).bind fun t107 => (if t107 = true then (some 0) else (some 8))) = some r:=by rw [if_neg (show ¬ (false = true) by decide)] at H;exact H
    clear H
    have H:=H1
    clear H1
    replace H:=Option.bind_eq_some_iff.mp H
    obtain ⟨t107,A290,H⟩:=H
    replace H : (if t107 = true then (some 0) else (some 8)) = some r:=H
    have A29:=am A290
    clear A290
    by_cases c30 : t107 = true
    ·subst c30
     have H1 : (some 0) = some r:=by rw [if_pos rfl] at H;exact H
     clear H
     have H:=H1
     clear H1
     obtain rfl:=Option.some.inj H
     have hcz31_0 : wc.cell? ⟨gb101,0,none⟩ = some (.int .i64 a3_0):=(blk_cell BK101.out 0).trans rfl
     have hcz31_1 : wc.cell? ⟨gb101,1,none⟩ = some (.int .i64 a3_1):=(blk_cell BK101.out 1).trans rfl
     have hcz31_2 : wc.cell? ⟨gb101,2,none⟩ = some (.int .i64 a3_2):=(blk_cell BK101.out 2).trans rfl
     have hcz31_3 : wc.cell? ⟨gb101,3,none⟩ = some (.int .i64 a3_3):=(blk_cell BK101.out 3).trans rfl
     have hfz31_0:=blk_frozen BK101.out 0
     have hfz31_1:=blk_frozen BK101.out 1
     have hfz31_2:=blk_frozen BK101.out 2
     have hfz31_3:=blk_frozen BK101.out 3
     go_wp2_with (first|((with_reducible refine gate_callee (f:=124) rfl ?_);refine goesL_ (some 41) rfl rfl Try.func124 kr rfl #[.int .i64 a0,.int .i64 a1,.int .i64 a2,.agg #[.int .i64 a3_0,.int .i64 a3_1,.int .i64 a3_2,.int .i64 a3_3],.slice A4 l4.length c4] rfl (by (try simp only [List.map_toArray,List.map_cons,List.map_nil]);first|done|rfl|(simp only [List.length_drop,List.length_take];rfl)) ?_;(with_reducible refine (book_stands.calls a0 a1 a2 a3_0 a3_1 a3_2 a3_3 _ _ l4 true _ ?side1 ?side2 A29.out).mono ?_);(case side1 => repeat (first|exact (Kd.C_below HR4.out HB.out)|(with_reducible refine Kd.C_alloc ?_ _)|(with_reducible refine Kd.C_drewN ?_ _)|(with_reducible refine Kd.C_drew ?_)));(case side2 => exact HC4.out);rintro e w32 ⟨rfl,hb⟩;refine ⟨_,rfl,?_⟩;have n0_:=am (blk_below (g:=gb101) (o:=.cells #[.int .i64 a3_0,.int .i64 a3_1,.int .i64 a3_2,.int .i64 a3_3] 29 (0,0)) (vb BK101.out) hb);have n1_:=am (below_step (v1 HB.out GE101.out) hb);clear BK101;clear HB;have BK101:=n0_;have HB:=n1_;clear n0_ n1_;(try clear hb);(try clear hb2);(try clear hk);(try clear hi)))
     go_ret
     exact ⟨vf,v1 HB.out GE101.out⟩
    ·replace c30:=Bool.eq_false_iff.mpr c30
     subst c30
     have H1 : (some 8) = some r:=by rw [if_neg (show ¬ (false = true) by decide)] at H;exact H
     clear H
     have H:=H1
     clear H1
     obtain rfl:=Option.some.inj H
     have hcz33_0 : wc.cell? ⟨gb101,0,none⟩ = some (.int .i64 a3_0):=(blk_cell BK101.out 0).trans rfl
     have hcz33_1 : wc.cell? ⟨gb101,1,none⟩ = some (.int .i64 a3_1):=(blk_cell BK101.out 1).trans rfl
     have hcz33_2 : wc.cell? ⟨gb101,2,none⟩ = some (.int .i64 a3_2):=(blk_cell BK101.out 2).trans rfl
     have hcz33_3 : wc.cell? ⟨gb101,3,none⟩ = some (.int .i64 a3_3):=(blk_cell BK101.out 3).trans rfl
     have hfz33_0:=blk_frozen BK101.out 0
     have hfz33_1:=blk_frozen BK101.out 1
     have hfz33_2:=blk_frozen BK101.out 2
     have hfz33_3:=blk_frozen BK101.out 3
     go_wp2_with (first|((with_reducible refine gate_callee (f:=124) rfl ?_);refine goesL_ (some 41) rfl rfl Try.func124 kr rfl #[.int .i64 a0,.int .i64 a1,.int .i64 a2,.agg #[.int .i64 a3_0,.int .i64 a3_1,.int .i64 a3_2,.int .i64 a3_3],.slice A4 l4.length c4] rfl (by (try simp only [List.map_toArray,List.map_cons,List.map_nil]);first|done|rfl|(simp only [List.length_drop,List.length_take];rfl)) ?_;(with_reducible refine (book_stands.calls a0 a1 a2 a3_0 a3_1 a3_2 a3_3 _ _ l4 false _ ?side1 ?side2 A29.out).mono ?_);(case side1 => repeat (first|exact (Kd.C_below HR4.out HB.out)|(with_reducible refine Kd.C_alloc ?_ _)|(with_reducible refine Kd.C_drewN ?_ _)|(with_reducible refine Kd.C_drew ?_)));(case side2 => exact HC4.out);rintro e w34 ⟨rfl,hb⟩;refine ⟨_,rfl,?_⟩;have n0_:=am (blk_below (g:=gb101) (o:=.cells #[.int .i64 a3_0,.int .i64 a3_1,.int .i64 a3_2,.int .i64 a3_3] 29 (0,0)) (vb BK101.out) hb);have n1_:=am (below_step (v1 HB.out GE101.out) hb);clear BK101;clear HB;have BK101:=n0_;have HB:=n1_;clear n0_ n1_;(try clear hb);(try clear hb2);(try clear hk);(try clear hi)))
     go_ret
     exact ⟨vf,v1 HB.out GE101.out⟩
def upStep (s : S164 × Int) (y : S129) : S164 × Int:=(joinT s.1 y,dig (joinN s.1 s.2 y))
def upTop (a : Int) (x : S29) (p : List S129) : S164 × Int:=p.foldl upStep (⟨a,1⟩,leafP x)
theorem up_last : ∀ (p : List S129) (t : S164) (d : Int) (n : List Int),dig n = d → dig ((n :: upFrom p t d).getD (upFrom p t d).length []) = (p.foldl upStep (t,d)).2
|[],t,d,n,h => h
|y :: r,t,d,n,h => by
  have:=up_last r (joinT t y) (dig (joinN t d y)) (joinN t d y) rfl
  rw [upFrom,List.length_cons,List.getD_cons_succ,List.foldl_cons]
  exact this
theorem upFrom_length : ∀ (p : List S129) (t : S164) (d : Int),(upFrom p t d).length = p.length
|[],_,_ => rfl
|y :: r,t,d => by rw [upFrom,List.length_cons,List.length_cons,upFrom_length r]
theorem placed_len {p : List S129} {ts : List S164} (h : placedP p ts = true) : p.length = ts.length:=by
 unfold placedP at h
 rw [Bool.and_eq_true,decide_eq_true_eq] at h
 exact h.1
theorem placed_at {p : List S129} {ts : List S164} (h : placedP p ts = true) {i : Nat} (hi : i < p.length) : (p.getD i z129).f0 = (ts.getD i z164).f0 ∧ (p.getD i z129).f1 = (ts.getD i z164).f1:=by
 unfold placedP at h
 rw [Bool.and_eq_true,List.all_eq_true] at h
 have:=h.2 i (List.mem_range.2 hi)
 unfold sameAt at this
 rw [Bool.and_eq_true,beq_iff_eq,beq_iff_eq] at this
 exact this
theorem placed_iff {p : List S129} {ts : List S164} : placedP p ts = true ↔ p.map (fun y => (⟨y.f0,y.f1⟩ : S164)) = ts:=by
 constructor
 ·intro h
  have hl:=placed_len h
  refine List.ext_getElem (by rw [List.length_map];exact hl) (fun i h1 h2 => ?_)
  have hi : i < p.length:=by rw [List.length_map] at h1;exact h1
  have h3:=placed_at h hi
  rw [List.getElem_map]
  have e1 : p.getD i z129 = p[i]:=by simp [List.getD_eq_getElem?_getD,List.getElem?_eq_getElem hi]
  have e2 : ts.getD i z164 = ts[i]:=by simp [List.getD_eq_getElem?_getD,List.getElem?_eq_getElem h2]
  rw [e1,e2] at h3
  cases hts : ts[i] with
 |mk f g => rw [hts] at h3;rw [h3.1,h3.2]
 ·intro h
  subst h
  unfold placedP
  rw [Bool.and_eq_true,decide_eq_true_eq,List.all_eq_true]
  refine ⟨by rw [List.length_map],fun i hi => ?_⟩
  have hi:=List.mem_range.1 hi
  unfold sameAt
  have e1 : p.getD i z129 = p[i]:=by simp [List.getD_eq_getElem?_getD,List.getElem?_eq_getElem hi]
  have e2 : (p.map (fun y => (⟨y.f0,y.f1⟩ : S164))).getD i z164 = ⟨p[i].f0,p[i].f1⟩:=by simp [List.getD_eq_getElem?_getD,List.getElem?_eq_getElem hi]
  rw [e1,e2]
  simp
def standsB (r : Int) (many a : Nat) (x : S29) (p : List S129) : Bool:=placedP p (outsP many a).reverse && (upTop (a : Int) x p).2 == r
theorem stands_is {many a : Nat} (h : a < many) (h64 : many ≤ 64) (r : Int) (x : S29) (p : List S129) : book_stands.f r (many : Int) (a : Int) x.f0 x.f1 x.f2 x.f3 p = some (standsB r many a x p):=by
 unfold book_stands.f standsB
 rw [siblings_some h h64,Option.bind_some]
 unfold book_placed.f
 rw [Option.bind_some]
 cases hp : placedP p (outsP many a).reverse with
|false => rfl
|true =>
  have hl:=placed_len hp
  rw [List.length_reverse] at hl
  have hl2 : p.length ≤ 64:=by rw [hl];unfold outsP;have:=outsF_length many 0 many a;omega
  have hul : (upP (a : Int) x p).length = p.length + 1:=by unfold upP;rw [List.length_cons,upFrom_length]
  have hw : wrap64 (((p.length + 1 : Nat) : Int) - 1) = (p.length : Int):=by unfold wrap64;omega
  have hlast : dig (rd_L10 (upP (a : Int) x p) (p.length : Int)) = (upTop (a : Int) x p).2:=by
   unfold rd_L10 upP upTop
   rw [Int.toNat_natCast,← upFrom_length p ⟨(a : Int),1⟩ (leafP x)]
   exact up_last p ⟨(a : Int),1⟩ (leafP x) (nums5 x.f0 x.f1 x.f2 x.f3) rfl
  rw [if_pos rfl]
  unfold book_up.f
  rw [if_pos (by omega),Option.bind_some]
  show (if 0 ≤ wrap64 (((upP (a : Int) x p).length : Int) - 1) then _ else _) = _
  rw [hul,hw,if_pos (by omega),if_pos (by push_cast;omega)]
  unfold book_digest.f
  rw [Option.bind_some]
  show some (dig (rd_L10 (upP (a : Int) x p) (p.length : Int)) == r) = _
  rw [hlast,Bool.true_and]
theorem own_placed (l : List S29) (ts : List S164) : placedP (twigsP l ts) ts = true:=by
 rw [placed_iff]
 unfold twigsP
 rw [List.map_map]
 conv => rhs;rw [← List.map_id ts]
 refine List.map_congr_left (fun t _ => ?_)
 rfl
def csP (r many a : Int) (x : S29) (p : List S129) : Int :=
 if rightP x = true ∧ (1 ≤ many ∧ many ≤ 64) ∧ (0 ≤ a ∧ a ≤ many - 1) ∧ isDigP r = true ∧ digestsP p = true then (if standsB r many.toNat a.toNat x p = true then 0 else 8) else 1
theorem cs_is (r many a : Int) (x : S29) (p : List S129) (k : Nat) : book_CheckStands.f (k + 1) r many a x.f0 x.f1 x.f2 x.f3 p = some (csP r many a x p):=by
 unfold book_CheckStands.f csP
 have hj : ∀ k,book_CheckStands.j0 (k + 1) r many a p true x.f0 x.f1 x.f2 x.f3 = some 1:=fun k => by
  simp only [book_CheckStands.j0]
  rw [if_pos trivial]
 rw [right_some,Option.bind_some]
 cases h1 : rightP x with
|false =>
  rw [if_neg (by decide),hj,if_neg (fun h => by cases h.1)]
|true =>
  rw [if_pos rfl,within_some,Option.bind_some]
  by_cases h2 : 1 ≤ many ∧ many ≤ 64
  ·have hw : wrap64 (many - 1) = many - 1:=by unfold wrap64;omega
   rw [decide_eq_true h2,if_pos rfl,within_some,Option.bind_some,hw]
   by_cases h3 : 0 ≤ a ∧ a ≤ many - 1
   ·rw [decide_eq_true h3,if_pos rfl,isDigest_some,Option.bind_some]
    cases h4 : isDigP r with
   |false => rw [if_neg (by decide),hj,if_neg (fun h => by cases h.2.2.2.1)]
   |true =>
     unfold book_digests.f
     rw [if_pos rfl,Option.bind_some]
     cases h5 : digestsP p with
    |false => rw [show (!false) = true from rfl,hj,if_neg (fun h => by cases h.2.2.2.2)]
    |true =>
      rw [if_pos ⟨rfl,h2,h3,rfl,rfl⟩]
      simp only [book_CheckStands.j0]
      rw [if_neg (by decide)]
      obtain ⟨m,rfl⟩:=Int.eq_ofNat_of_zero_le (show 0 ≤ many by omega)
      obtain ⟨b,rfl⟩:=Int.eq_ofNat_of_zero_le h3.1
      rw [stands_is (by omega) (by omega) r x p,Option.bind_some,Int.toNat_natCast,Int.toNat_natCast]
      cases standsB r m b x p <;> rfl
   ·rw [decide_eq_false h3,if_neg (by decide),hj,if_neg (fun h => h3 h.2.2.1)]
  ·rw [decide_eq_false h2,if_neg (by decide),hj,if_neg (fun h => h2 h.2.1)]
def slices_Equal_int_int.l0 : Nat → List Int → List Int → Int → Int → Option (Bool)
|0,_,_,_,_ => none
|k + 1,x0,x1,x12,x13 => if x13 < x12 then (if 0 ≤ x13 then (if x13 < (x0.length : Int) then (if x13 < (x1.length : Int) then (if (rd x0 x13) = (rd x1 x13) then (slices_Equal_int_int.l0 k x0 x1 x12 (wrap64 (x13 + 1))) else (some false)) else (none)) else (none)) else (none)) else (some true)
def slices_Equal_int_int.f (k : Nat) (l0 : List Int) (l1 : List Int) : Option (Bool):=if (l0.length : Int) = (l1.length : Int) then (slices_Equal_int_int.l0 k l0 l1 (l0.length : Int) 0) else (some false)
set_option maxHeartbeats 8000000 in
set_option maxRecDepth 100000 in
theorem slices_Equal_int_int.calls (k : Nat) (A0 : Option Addr) (c0 : Nat) (l0 : List Int) (A1 : Option Addr) (c1 : Nat) (l1 : List Int) (r : Bool) (w : World) (hr0 : Kd.C (Kd.int .i64) w A0 l0.length l0) (hc0 : l0.length ≤ c0) (hr1 : Kd.C (Kd.int .i64) w A1 l1.length l1) (hc1 : l1.length ≤ c1) (h : slices_Equal_int_int.f k l0 l1 = some r) :
  Calls Try.prog 112 #[.slice A0 l0.length c0,.slice A1 l1.length c1] w fun e w' => e = .returned (.bool r) ∧ Drawn0 w w':=by
 have HR0:=am hr0
 have HC0:=am hc0
 clear hr0 hc0
 have HR1:=am hr1
 have HC1:=am hc1
 clear hr1 hc1
 have H : (if (l0.length : Int) = (l1.length : Int) then (slices_Equal_int_int.l0 k l0 l1 (l0.length : Int) 0) else (some false)) = some r:=h
 clear h
 by_cases c3 : (l0.length : Int) = (l1.length : Int)
 ·rw [if_pos c3] at H
  have c3b0 : ((l0.length : Int) == (l1.length : Int)) = true:=beq_iff_eq.mpr c3
  have c3b1 : ((l0.length : Int) != (l1.length : Int)) = false:=bne_eq_false_iff_eq.mpr c3
  have c3b2 : (l0.length == l1.length) = true:=by first|simpa using c3|(simp at c3 ⊢;omega)
  clear c3
  have H':=am H
  clear H
  go_enter Try.func112,Try.ntmps112
  go_wp2
  repeat (go_quiet (fail);try go_wp2)
  go_loopg [13] k (fun kq v13 w' => ∃ (x13_1 : Int),v13 = .int .i64 x13_1 ∧ Aside0 (slices_Equal_int_int.l0 kq l0 l1 (l0.length : Int) x13_1 = some r) ∧ Aside0 (kq ≤ k) ∧ Drawn0 w w')
  case atStart => exact ⟨(0),ve,H',⟨Nat.le_refl _⟩,by repeat (first|exact Drawn0.refl _|apply Drawn0.step)⟩
  case round =>
   clear H'
   try clear c1
   try clear p2
   try clear c3
   try clear c3b0
   try clear c3b1
   try clear c3b2
   obtain ⟨x13_1,rfl,HA,HK1,⟨m1,rfl⟩⟩:=hrel
   cases gk with
  |zero => exact absurd HA.out (by simp [slices_Equal_int_int.l0])
  |succ k1 =>
    have H:=HA.out
    clear HA
    simp only [slices_Equal_int_int.l0] at H
    by_cases c4 : x13_1 < (l0.length : Int)
    ·rw [if_pos c4] at H
     have c4b0 : decide (x13_1 < (l0.length : Int)) = true:=decide_eq_true c4
     clear c4
     by_cases c5 : 0 ≤ x13_1
     ·rw [if_pos c5] at H
      have c5b0 : decide (0 ≤ x13_1) = true:=decide_eq_true c5
      clear c5
      by_cases c6 : x13_1 < (l0.length : Int)
      ·rw [if_pos c6] at H
       have c6b0 : decide (x13_1 < (l0.length : Int)) = true:=decide_eq_true c6
       clear c6
       by_cases c7 : x13_1 < (l1.length : Int)
       ·rw [if_pos c7] at H
        have c7b0 : decide (x13_1 < (l1.length : Int)) = true:=decide_eq_true c7
        clear c7
        by_cases c8 : (rd l0 x13_1) = (rd l1 x13_1)
        ·rw [if_pos c8] at H
         have c8b0 : ((rd l0 x13_1) == (rd l1 x13_1)) = true:=beq_iff_eq.mpr c8
         have c8b1 : ((rd l0 x13_1) != (rd l1 x13_1)) = false:=bne_eq_false_iff_eq.mpr c8
         clear c8
         have H':=am H
         clear H
         have p101 : 0 ≤ (x13_1 : Int):=of_decide_eq_true va
         have q101 : x13_1 < (l0.length : Int):=of_decide_eq_true va
         obtain ⟨ad101,e101,hx101_0⟩:=Kd.at_int HR0.out x13_1 p101 q101
         cases e101
         replace p101:=eq_true p101
         replace q101:=eq_true q101
         have p102 : 0 ≤ (x13_1 : Int):=of_decide_eq_true va
         have q102 : x13_1 < (l1.length : Int):=of_decide_eq_true va
         obtain ⟨ad102,e102,hx102_0⟩:=Kd.at_int HR1.out x13_1 p102 q102
         cases e102
         replace p102:=eq_true p102
         replace q102:=eq_true q102
         go_wp2
         repeat (go_quiet (fail);try go_wp2)
         go_roundg k1
         case measure => have:=HK1.out;omega
         case rel => exact ⟨(wrap64 (x13_1 + 1)),ve,H',⟨by have:=HK1.out;omega⟩,by repeat (first|exact Drawn0.refl _|apply Drawn0.step)⟩
        ·rw [if_neg c8] at H
         have c8b0 : ((rd l0 x13_1) == (rd l1 x13_1)) = false:=beq_eq_false_iff_ne.mpr c8
         have c8b1 : ((rd l0 x13_1) != (rd l1 x13_1)) = true:=bne_iff_ne.mpr c8
         obtain rfl:=Option.some.inj H
         have p101 : 0 ≤ (x13_1 : Int):=of_decide_eq_true va
         have q101 : x13_1 < (l0.length : Int):=of_decide_eq_true va
         obtain ⟨ad101,e101,hx101_0⟩:=Kd.at_int HR0.out x13_1 p101 q101
         cases e101
         replace p101:=eq_true p101
         replace q101:=eq_true q101
         have p102 : 0 ≤ (x13_1 : Int):=of_decide_eq_true va
         have q102 : x13_1 < (l1.length : Int):=of_decide_eq_true va
         obtain ⟨ad102,e102,hx102_0⟩:=Kd.at_int HR1.out x13_1 p102 q102
         cases e102
         replace p102:=eq_true p102
         replace q102:=eq_true q102
         go_wp2
         repeat (go_quiet (fail);try go_wp2)
         go_ret
         exact ⟨ve,by repeat (first|exact Drawn0.refl _|apply Drawn0.step)⟩
       ·rw [if_neg c7] at H
        exact absurd H (by simp)
      ·rw [if_neg c6] at H
       exact absurd H (by simp)
     ·rw [if_neg c5] at H
      exact absurd H (by simp)
    ·rw [if_neg c4] at H
     have c4b0 : decide (x13_1 < (l0.length : Int)) = false:=decide_eq_false c4
     clear c4
     obtain rfl:=Option.some.inj H
     go_wp2
     repeat (go_quiet (fail);try go_wp2)
     go_ret
     exact ⟨ve,by repeat (first|exact Drawn0.refl _|apply Drawn0.step)⟩
 ·rw [if_neg c3] at H
  have c3b0 : ((l0.length : Int) == (l1.length : Int)) = false:=beq_eq_false_iff_ne.mpr c3
  have c3b1 : ((l0.length : Int) != (l1.length : Int)) = true:=bne_iff_ne.mpr c3
  have c3b2 : (l0.length == l1.length) = false:=by first|simpa using c3|(simp at c3 ⊢;omega)
  obtain rfl:=Option.some.inj H
  go_enter Try.func112,Try.ntmps112
  go_wp2
  repeat (go_quiet (fail);try go_wp2)
  go_ret
  exact ⟨ve,by repeat (first|exact Drawn0.refl _|apply Drawn0.step)⟩
theorem ints_equal {a b : List Int} (h12 : a.length ≤ 12) : slices_Equal_int_int.f 90 a b = some (decide (a = b)):=by
 unfold slices_Equal_int_int.f
 by_cases hl : a.length = b.length
 ·rw [if_pos (by omega)]
  suffices h : ∀ (d k i : Nat),i + d = a.length → d < k → slices_Equal_int_int.l0 k a b (a.length : Int) (i : Int) = some (decide (a.drop i = b.drop i)) by
   have:=h a.length 90 0 (by omega) (by omega)
   simpa using this
  intro d
  induction d with
 |zero =>
   intro k i hi hk
   obtain ⟨k,rfl⟩ : ∃ m,k = m + 1:=⟨k - 1,by omega⟩
   simp only [slices_Equal_int_int.l0]
   rw [if_neg (by omega),List.drop_eq_nil_of_le (by omega),List.drop_eq_nil_of_le (by omega)]
   simp
 |succ d ih =>
   intro k i hi hk
   obtain ⟨k,rfl⟩ : ∃ m,k = m + 1:=⟨k - 1,by omega⟩
   have h1 : i < a.length:=by omega
   have h2 : i < b.length:=by omega
   simp only [slices_Equal_int_int.l0]
   rw [if_pos (by omega),if_pos (by omega),if_pos (by omega),if_pos (by omega),rd_getElem h1,rd_getElem h2,wrap_nat (by omega),ih k (i + 1) (by omega) (by omega),List.drop_eq_getElem_cons h1,List.drop_eq_getElem_cons h2]
   by_cases he : a[i] = b[i]
   ·rw [if_pos he];simp only [List.cons.injEq,he,true_and]
   ·rw [if_neg he];simp only [List.cons.injEq,he,false_and,decide_false]
 ·rw [if_neg (by omega)]
  have : a ≠ b:=fun e => hl (by rw [e])
  simp [this]
def R76_6.T : Bool × List (List Nat × List Nat):=(true,[([],[]),([0],[0]),([],[]),([2],[2]),([],[]),([],[]),([],[]),([1,3,4,5,6,1],[1,3,4,5,6]),([7],[7])])
def R76_6.B : List Nat:=[0,1,0,4,0,0,0,127,255]
theorem R76_6.tab : rtab .any (opsOf Try.f76 6) = R76_6.T:=by kernel_rfl
theorem R76_6.bits : waitsOk R76_6.T.2 R76_6.B = true:=by kernel_rfl
def R76_8.T : Bool × List (List Nat × List Nat):=(true,[([],[]),([],[]),([],[]),([1,2],[1,2]),([3],[3]),([],[]),([],[]),([6],[6]),([],[]),([7,8],[7,8]),([5,9,9],[5,9]),([0,4,10,10],[0,4,10]),([11,11,0,1,2,3,4,5,6,7,8,9,10,11],[11])])
def R76_8.B : List Nat:=[0,0,0,6,14,0,0,64,0,448,992,2047,4095]
theorem R76_8.tab : rtab .any (opsOf Try.f76 8) = R76_8.T:=by kernel_rfl
theorem R76_8.bits : waitsOk R76_8.T.2 R76_8.B = true:=by kernel_rfl
def gapFind : List (List Int) → List (List Int) → Option (List Int × List Int)
|n :: u,m :: o => if n ≠ m ∧ dig n = dig m then some (n,m) else gapFind u o
|_,_ => none
def gapRes : Option (List Int × List Int) → List Int × List Int × Bool × Int
|some (n,m) => (n,m,true,0)
|none => ([],[],false,0)
theorem gap_step {u o : List (List Int)} {i : Nat} (hu : i < u.length) (ho : i < o.length) : gapFind (u.drop i) (o.drop i) = if u.getD i [] ≠ o.getD i [] ∧ dig (u.getD i []) = dig (o.getD i []) then some (u.getD i [],o.getD i []) else gapFind (u.drop (i + 1)) (o.drop (i + 1)):=by
 rw [List.drop_eq_getElem_cons hu,List.drop_eq_getElem_cons ho,gapFind]
 simp [List.getD_eq_getElem?_getD,List.getElem?_eq_getElem hu,List.getElem?_eq_getElem ho]
theorem up_short (p : List S129) : ∀ (t : S164) (d : Int),∀ r ∈ upFrom p t d,r.length ≤ 5:=by
 induction p with
|nil => intro t d r hr;cases hr
|cons y p ih =>
  intro t d r hr
  rw [upFrom] at hr
  rcases List.mem_cons.1 hr with rfl|hr
  ·unfold joinN;split <;> (show 4 ≤ 5;omega)
  ·exact ih _ _ r hr
theorem upP_short (a : Int) (x : S29) (p : List S129) (i : Nat) : ((upP a x p).getD i []).length ≤ 5:=by
 by_cases h : i < (upP a x p).length
 ·rw [List.getD_eq_getElem?_getD,List.getElem?_eq_getElem h]
  have hm : (upP a x p)[i] ∈ upP a x p:=List.getElem_mem _
  unfold upP at hm
  rcases List.mem_cons.1 hm with e|hr
  ·show ((upP a x p)[i]).length ≤ 5
   unfold upP
   rw [e];show 5 ≤ 5;omega
  ·exact up_short _ _ _ _ hr
 ·rw [List.getD_eq_getElem?_getD,List.getElem?_eq_none (by omega)]
  exact Nat.zero_le _
def gapAns (l : List S29) (a : Int) (x : S29) (p : List S129) : List Int × List Int × Bool × Int :=
 if checkP l ≠ 0 then ([],[],false,checkP l)
 else if ¬ (0 ≤ a ∧ a ≤ (l.length : Int) - 1) then ([],[],false,1)
 else if rightP x = false then ([],[],false,1)
 else if digestsP p = false then ([],[],false,1)
 else if standsB (rootP l) l.length a.toNat x p = false then ([],[],false,0)
 else gapRes (gapFind (upP a x p) (upP a (l.getD a.toNat z29) (standsP l a.toNat)))
def book_Gap.f (l0 : List S29) (a1 : Int) (a2_0 a2_1 a2_2 a2_3 : Int) (l3 : List S129) : Option (List Int × List Int × Bool × Int):=some (gapAns l0 a1 ⟨a2_0,a2_1,a2_2,a2_3⟩ l3)
theorem gap_V0 (W : World) (base : Nat) (ok : Nat → Prop) : Kd.V (Kd.int .i64) 3 W base ok (.slice none 0 0) []:=Kd.V_nil _ _ _ _ _
set_option maxRecDepth 100000 in
set_option maxHeartbeats 1000000 in
theorem book_Gap.calls (A0 : Option Addr) (c0 : Nat) (l0 : List S29) (a1 : Int) (a2_0 a2_1 a2_2 a2_3 : Int) (A3 : Option Addr) (c3 : Nat) (l3 : List S129) (r1 r2 : List Int) (r3 : Bool) (r4 : Int) (w : World) (hr0 : Kd.C k29 w A0 l0.length l0) (hc0 : l0.length ≤ c0) (hr3 : Kd.C k129 w A3 l3.length l3) (hc3 : l3.length ≤ c3) (h : book_Gap.f l0 a1 a2_0 a2_1 a2_2 a2_3 l3 = some (r1,r2,r3,r4)) :
  Calls Try.prog 76 #[.slice A0 l0.length c0,.int .i64 a1,.agg #[.int .i64 a2_0,.int .i64 a2_1,.int .i64 a2_2,.int .i64 a2_3],.slice A3 l3.length c3] w fun e w' => ∃ v1_ v2_ : Value,e = .returned (.tuple #[.agg #[v1_,v2_],.bool r3,.int .i64 r4]) ∧ Kd.V (Kd.int .i64) 3 w' w.heap.size (fun k_ => w.heap.size ≤ k_) v1_ r1 ∧ Kd.V (Kd.int .i64) 3 w' w.heap.size (fun k_ => w.heap.size ≤ k_) v2_ r2 ∧ Below w.heap.size w w':=by
 have H:=Option.some.inj h
 clear h
 have HR0:=am hr0
 have HC0:=am hc0
 have HR3:=am hr3
 have HC3:=am hc3
 clear hr0 hc0 hr3 hc3
 have hu29:=Try.underlying29
 have hu67:=Try.underlying67
 have HBX : Aside0 (Below w.heap.size w ((w.alloc (.cells #[.int .i64 a2_0,.int .i64 a2_1,.int .i64 a2_2,.int .i64 a2_3] 29)).alloc (.cells #[.slice none 0 0,.slice none 0 0] 67))):=⟨below_alloc (below_alloc (Below.refl _ _) _) _⟩
 have HBKx : Aside0 (((w.alloc (.cells #[.int .i64 a2_0,.int .i64 a2_1,.int .i64 a2_2,.int .i64 a2_3] 29)).alloc (.cells #[.slice none 0 0,.slice none 0 0] 67)).heap[w.heap.size]? = some (.cells #[.int .i64 a2_0,.int .i64 a2_1,.int .i64 a2_2,.int .i64 a2_3] 29 (0,0))):=⟨blk_alloc (blk_new' _ _ _ rfl) _⟩
 have HBKg : Aside0 (((w.alloc (.cells #[.int .i64 a2_0,.int .i64 a2_1,.int .i64 a2_2,.int .i64 a2_3] 29)).alloc (.cells #[.slice none 0 0,.slice none 0 0] 67)).heap[w.heap.size + 1]? = some (.cells #[.slice none 0 0,.slice none 0 0] 67 (0,0))):=⟨blk_new' _ _ _ (by simp)⟩
 have HCh:=am (show book_Check.f l0 = some (checkP l0) from rfl)
 unfold gapAns at H
 by_cases hc : checkP l0 = 0
 ·rw [if_neg (fun h => h hc)] at H
  rw [hc] at HCh
  have HCK:=am hc
  have hl64 : l0.length ≤ 64:=checkP_len hc
  clear hc
  by_cases hwi : 0 ≤ a1 ∧ a1 ≤ (l0.length : Int) - 1
  ·rw [if_neg (fun h => h hwi)] at H
   have HW:=am (show book_within.f a1 0 ((l0.length : Int) - 1) = some true by rw [within_some,decide_eq_true hwi])
   cases hrt : rightP ⟨a2_0,a2_1,a2_2,a2_3⟩ with
  |false =>
    rw [hrt,if_pos rfl] at H
    simp only [Prod.mk.injEq] at H
    obtain ⟨rfl,rfl,rfl,rfl⟩:=H
    have HRT:=am (show book_right.f a2_0 a2_1 a2_2 a2_3 = some false by rw [right_some,hrt])
    clear hrt hwi
    go_enter Try.func76,Try.ntmps76
    go_wp2_with fail
    refine (book_Check.calls _ _ _ _ _ (Kd.C_below HR0.out HBX.out) HC0.out HCh.out).mono ?_
    rintro e w1 ⟨rfl,hd⟩
    have HB1:=am (below_then HBX.out (below_size HBX.out) hd)
    have HG1:=am (blk_below HBKg.out hd)
    have HX1:=am (blk_below HBKx.out hd)
    clear hd HBX HBKx HBKg
    obtain ⟨xb,hxb⟩ : ∃ xb,xb = w.heap.size:=⟨_,rfl⟩
    obtain ⟨gb,hgb⟩ : ∃ gb,gb = w.heap.size + 1:=⟨_,rfl⟩
    rw [← hgb] at HG1 ⊢
    rw [← hxb] at HX1 ⊢
    have HGB:=am (show w.heap.size ≤ gb by omega)
    have HXG:=am (show xb ≠ gb by omega)
    clear hxb hgb
    have x0 : w1.cell? ⟨xb,0,none⟩ = some (.int .i64 a2_0):=(blk_cell HX1.out 0).trans rfl
    have x1 : w1.cell? ⟨xb,1,none⟩ = some (.int .i64 a2_1):=(blk_cell HX1.out 1).trans rfl
    have x2 : w1.cell? ⟨xb,2,none⟩ = some (.int .i64 a2_2):=(blk_cell HX1.out 2).trans rfl
    have x3 : w1.cell? ⟨xb,3,none⟩ = some (.int .i64 a2_3):=(blk_cell HX1.out 3).trans rfl
    go_wp2_with fail
    refine (book_within.calls _ _ _ true _ HW.out).mono ?_
    rintro e w2 ⟨rfl,nq,rfl⟩
    go_wp2_with fail
    refine (book_right.calls _ _ _ _ false _ HRT.out).mono ?_
    rintro e w3 ⟨rfl,hd⟩
    have HB3:=am (below_then (pw_below_drewN HB1.out nq) (below_size (pw_below_drewN HB1.out nq)) hd)
    have HG3:=am (blk_below (blk_drewN HG1.out nq) hd)
    have HX3:=am (blk_below (blk_drewN HX1.out nq) hd)
    clear hd x0 x1 x2 x3
    have q0 : (w3).cell? ⟨gb,0,none⟩ = some (.slice none 0 0):=(blk_cell HG3.out 0).trans rfl
    have q1 : (w3).cell? ⟨gb,1,none⟩ = some (.slice none 0 0):=(blk_cell HG3.out 1).trans rfl
    have f0:=blk_frozen HG3.out 0
    have f1:=blk_frozen HG3.out 1
    go_wp2
    refine bodyPost_ret (v:=.tuple #[.agg #[.slice none 0 0,.slice none 0 0],.bool false,.int .i64 1]) (by simp [results,Try.results76,go_sem,q0,q1,f0,f1]) rfl ⟨_,_,rfl,gap_V0 _ _ _,gap_V0 _ _ _,?_⟩
    exact below_set (below_set HB3.out HGB.out) HGB.out
  |true =>
    rw [hrt,if_neg (by decide)] at H
    have HRT:=am (show book_right.f a2_0 a2_1 a2_2 a2_3 = some true by rw [right_some,hrt])
    cases hdg : digestsP l3 with
   |false =>
     rw [hdg,if_pos rfl] at H
     simp only [Prod.mk.injEq] at H
     obtain ⟨rfl,rfl,rfl,rfl⟩:=H
     have HDG:=am (show book_digests.f l3 = some false by unfold book_digests.f;rw [hdg])
     clear hrt hwi hdg
     go_enter Try.func76,Try.ntmps76
     go_wp2_with fail
     refine (book_Check.calls _ _ _ _ _ (Kd.C_below HR0.out HBX.out) HC0.out HCh.out).mono ?_
     rintro e w1 ⟨rfl,hd⟩
     have HB1:=am (below_then HBX.out (below_size HBX.out) hd)
     have HG1:=am (blk_below HBKg.out hd)
     have HX1:=am (blk_below HBKx.out hd)
     clear hd HBX HBKx HBKg
     obtain ⟨xb,hxb⟩ : ∃ xb,xb = w.heap.size:=⟨_,rfl⟩
     obtain ⟨gb,hgb⟩ : ∃ gb,gb = w.heap.size + 1:=⟨_,rfl⟩
     rw [← hgb] at HG1 ⊢
     rw [← hxb] at HX1 ⊢
     have HGB:=am (show w.heap.size ≤ gb by omega)
     have HXG:=am (show xb ≠ gb by omega)
     clear hxb hgb
     have x0 : w1.cell? ⟨xb,0,none⟩ = some (.int .i64 a2_0):=(blk_cell HX1.out 0).trans rfl
     have x1 : w1.cell? ⟨xb,1,none⟩ = some (.int .i64 a2_1):=(blk_cell HX1.out 1).trans rfl
     have x2 : w1.cell? ⟨xb,2,none⟩ = some (.int .i64 a2_2):=(blk_cell HX1.out 2).trans rfl
     have x3 : w1.cell? ⟨xb,3,none⟩ = some (.int .i64 a2_3):=(blk_cell HX1.out 3).trans rfl
     go_wp2_with fail
     refine (book_within.calls _ _ _ true _ HW.out).mono ?_
     rintro e w2 ⟨rfl,nq,rfl⟩
     go_wp2_with fail
     refine (book_right.calls _ _ _ _ true _ HRT.out).mono ?_
     rintro e w3 ⟨rfl,hd⟩
     have HB3:=am (below_then (pw_below_drewN HB1.out nq) (below_size (pw_below_drewN HB1.out nq)) hd)
     have HG3:=am (blk_below (blk_drewN HG1.out nq) hd)
     have HX3:=am (blk_below (blk_drewN HX1.out nq) hd)
     clear hd x0 x1 x2 x3
     go_wp2_with fail
     refine (book_digests.calls _ _ _ false _ (Kd.C_below HR3.out HB3.out) HC3.out HDG.out).mono ?_
     rintro e w4 ⟨rfl,hd⟩
     have HB4:=am (below_then HB3.out (below_size HB3.out) hd)
     have HG4:=am (blk_below HG3.out hd)
     have HX4:=am (blk_below HX3.out hd)
     clear hd
     have q0 : (w4).cell? ⟨gb,0,none⟩ = some (.slice none 0 0):=(blk_cell HG4.out 0).trans rfl
     have q1 : (w4).cell? ⟨gb,1,none⟩ = some (.slice none 0 0):=(blk_cell HG4.out 1).trans rfl
     have f0:=blk_frozen HG4.out 0
     have f1:=blk_frozen HG4.out 1
     go_wp2
     refine bodyPost_ret (v:=.tuple #[.agg #[.slice none 0 0,.slice none 0 0],.bool false,.int .i64 1]) (by simp [results,Try.results76,go_sem,q0,q1,f0,f1]) rfl ⟨_,_,rfl,gap_V0 _ _ _,gap_V0 _ _ _,?_⟩
     exact below_set (below_set HB4.out HGB.out) HGB.out
   |true =>
     rw [hdg,if_neg (by decide)] at H
     have HDG:=am (show book_digests.f l3 = some true by unfold book_digests.f;rw [hdg])
     obtain ⟨a,rfl⟩:=Int.eq_ofNat_of_zero_le hwi.1
     rw [Int.toNat_natCast] at H
     have hal : a < l0.length:=by omega
     have HSF:=am (stands_is hal hl64 (rootP l0) ⟨a2_0,a2_1,a2_2,a2_3⟩ l3)
     have HRF:=am (show book_root.f l0 = some (rootP l0) by unfold book_root.f;rw [if_pos hl64])
     clear hrt hdg
     cases hsb : standsB (rootP l0) l0.length a ⟨a2_0,a2_1,a2_2,a2_3⟩ l3 with
    |false =>
      rw [hsb,if_pos rfl] at H
      rw [hsb] at HSF
      simp only [Prod.mk.injEq] at H
      obtain ⟨rfl,rfl,rfl,rfl⟩:=H
      clear hsb
      go_enter Try.func76,Try.ntmps76
      go_wp2_with fail
      refine (book_Check.calls _ _ _ _ _ (Kd.C_below HR0.out HBX.out) HC0.out HCh.out).mono ?_
      rintro e w1 ⟨rfl,hd⟩
      have HB1:=am (below_then HBX.out (below_size HBX.out) hd)
      have HG1:=am (blk_below HBKg.out hd)
      have HX1:=am (blk_below HBKx.out hd)
      clear hd HBX HBKx HBKg
      obtain ⟨xb,hxb⟩ : ∃ xb,xb = w.heap.size:=⟨_,rfl⟩
      obtain ⟨gb,hgb⟩ : ∃ gb,gb = w.heap.size + 1:=⟨_,rfl⟩
      rw [← hgb] at HG1 ⊢
      rw [← hxb] at HX1 ⊢
      have HGB:=am (show w.heap.size ≤ gb by omega)
      have HXG:=am (show xb ≠ gb by omega)
      clear hxb hgb
      have x0 : w1.cell? ⟨xb,0,none⟩ = some (.int .i64 a2_0):=(blk_cell HX1.out 0).trans rfl
      have x1 : w1.cell? ⟨xb,1,none⟩ = some (.int .i64 a2_1):=(blk_cell HX1.out 1).trans rfl
      have x2 : w1.cell? ⟨xb,2,none⟩ = some (.int .i64 a2_2):=(blk_cell HX1.out 2).trans rfl
      have x3 : w1.cell? ⟨xb,3,none⟩ = some (.int .i64 a2_3):=(blk_cell HX1.out 3).trans rfl
      go_wp2_with fail
      refine (book_within.calls _ _ _ true _ HW.out).mono ?_
      rintro e w2 ⟨rfl,nq,rfl⟩
      go_wp2_with fail
      refine (book_right.calls _ _ _ _ true _ HRT.out).mono ?_
      rintro e w3 ⟨rfl,hd⟩
      have HB3:=am (below_then (pw_below_drewN HB1.out nq) (below_size (pw_below_drewN HB1.out nq)) hd)
      have HG3:=am (blk_below (blk_drewN HG1.out nq) hd)
      have HX3:=am (blk_below (blk_drewN HX1.out nq) hd)
      clear hd x0 x1 x2 x3
      go_wp2_with fail
      refine (book_digests.calls _ _ _ true _ (Kd.C_below HR3.out HB3.out) HC3.out HDG.out).mono ?_
      rintro e w4 ⟨rfl,hd⟩
      have HB4:=am (below_then HB3.out (below_size HB3.out) hd)
      have HG4:=am (blk_below HG3.out hd)
      have HX4:=am (blk_below HX3.out hd)
      clear hd
      go_wp2_with fail
      have HG4d:=am (blk_drew HG4.out)
      have HX4d:=am (blk_drew HX4.out)
      have HB4d:=am (below_drew1 HB4.out)
      clear HG4 HX4 HB4
      refine start_ (n:=9) (S:=fun w' => w'.cell? ⟨xb,0,none⟩ = some (.int .i64 a2_0) ∧ w'.cell? ⟨xb,1,none⟩ = some (.int .i64 a2_1) ∧ w'.cell? ⟨xb,2,none⟩ = some (.int .i64 a2_2) ∧ w'.cell? ⟨xb,3,none⟩ = some (.int .i64 a2_3)) (ds:=[]) #[false,false,false,false,false,false,false,false,false] kr rfl rfl ⟨(blk_cell HX4d.out 0).trans rfl,(blk_cell HX4d.out 1).trans rfl,(blk_cell HX4d.out 2).trans rfl,(blk_cell HX4d.out 3).trans rfl⟩ (fun hHeld => ?_);refine with_tabW R76_6.tab R76_6.bits (fun HT_ HW_ => ?_)
      generalize (w4).drew = wd at HG4d HX4d HB4d hHeld ⊢
      refine pure_ (i:=0) (N:=(some 38)) (v:=?_) (a':=?_) #[true,false,false,false,false,false,false,false,false] rfl rfl (any_of HT_.out kr) (fun _ _ _ h => h) (Or.inl ⟨by rfl,?_⟩) ?_ ?_
      rotate_left
      ·intro w'
       go_simp
       with_reducible rfl
      rotate_left
      ·exact vs
      refine pure_ (i:=2) (N:=(some 40)) (v:=?_) (a':=?_) #[true,false,true,false,false,false,false,false,false] rfl rfl (any_of HT_.out kr) (fun _ _ _ h => h) (Or.inl ⟨by rfl,?_⟩) ?_ ?_
      rotate_left
      ·intro w'
       go_simp
       with_reducible rfl
      rotate_left
      ·exact vs
      refine pure_ (i:=3) (N:=(some 41)) (v:=?_) (a':=?_) #[true,false,true,true,false,false,false,false,false] rfl rfl (any_of HT_.out kr) (fun _ _ _ h => h) (Or.inl ⟨by rfl,?_⟩) ?_ ?_
      rotate_left
      ·intro w'
       go_simp
       with_reducible rfl
      rotate_left
      ·exact vs
      refine pure_ (i:=4) (N:=(some 42)) (v:=?_) (a':=?_) #[true,false,true,true,true,false,false,false,false] rfl rfl (any_of HT_.out kr) (fun _ _ _ h => h) (Or.inl ⟨by rfl,?_⟩) ?_ ?_
      rotate_left
      ·intro w'
       go_simp
       with_reducible rfl
      rotate_left
      ·exact vs
      refine take_ (i:=5) (N:=(some 43)) (v:=?_) (a':=?_) #[true,false,true,true,true,true,false,false,false] rfl rfl (take_ofW HT_.out HW_.out kr) (fun _ _ _ h => h) (Or.inl ⟨by rfl,?_⟩) hHeld ?_ ?_
      rotate_left
      ·rintro w' ⟨s0,s1,s2,s3⟩
       go_simp
       with_reducible rfl
      rotate_left
      ·exact vs
      refine pure_ (i:=6) (N:=(some 44)) (v:=?_) (a':=?_) #[true,false,true,true,true,true,true,false,false] rfl rfl (any_of HT_.out kr) (fun _ _ _ h => h) (Or.inl ⟨by rfl,?_⟩) ?_ ?_
      rotate_left
      ·intro w'
       go_simp
       with_reducible rfl
      rotate_left
      ·exact vs
      refine one_ (i:=1) (N:=(some 39)) #[true,true,true,true,true,true,true,false,false] rfl rfl (one_of HT_.out kr) (by decide) (fun K hK => ?_)
      refine goes_ Try.func91 kr rfl #[.slice A0 l0.length c0] (by rfl) rfl rfl (by (try simp only [List.map_toArray,List.map_cons,List.map_nil]);first|done|rfl|(simp only [List.length_drop,List.length_take];rfl)) ?_
      refine (book_root.calls _ _ l0 (rootP l0) _ (Kd.C_below HR0.out HB4d.out) HC0.out HRF.out).mono ?_
      rintro e w5 ⟨rfl,hd⟩
      have HB5:=am (below_then HB4d.out (below_size HB4d.out) hd)
      have HG5:=am (blk_below HG4d.out hd)
      have HX5:=am (blk_below HX4d.out hd)
      clear hd
      refine ⟨_,rfl,?_⟩
      refine hK.out _ _ ⟨(blk_cell HX5.out 0).trans rfl,(blk_cell HX5.out 1).trans rfl,(blk_cell HX5.out 2).trans rfl,(blk_cell HX5.out 3).trans rfl⟩ (fun hHeld => ?_)
      clear hK K
      refine norm_ (a':=?_) ?_ ?_
      rotate_left
      ·show Act.put _ (some 39) _ = _
       simp only [Act.put,List.setIfInBounds_toArray,List.set_cons_zero,List.set_cons_succ,i64_w,i32_w]
       rfl
      refine one_ (i:=7) (N:=(some 45)) #[true,true,true,true,true,true,true,true,false] rfl rfl (one_of HT_.out kr) (by decide) (fun K hK => ?_)
      refine goes_ Try.func124 kr rfl #[.int .i64 (rootP l0),.int .i64 (l0.length : Int),.int .i64 (a : Int),.agg #[.int .i64 a2_0,.int .i64 a2_1,.int .i64 a2_2,.int .i64 a2_3],.slice A3 l3.length c3] (by rfl) rfl rfl (by (try simp only [List.map_toArray,List.map_cons,List.map_nil]);first|done|rfl|(simp only [List.length_drop,List.length_take];rfl)) ?_
      refine (book_stands.calls _ _ _ _ _ _ _ _ _ l3 false _ (Kd.C_below HR3.out HB5.out) HC3.out HSF.out).mono ?_
      rintro e w6 ⟨rfl,hd⟩
      have HB6:=am (below_then HB5.out (below_size HB5.out) hd)
      have HG6:=am (blk_below HG5.out hd)
      have HX6:=am (blk_below HX5.out hd)
      clear hd
      refine ⟨_,rfl,?_⟩
      refine hK.out _ _ ⟨(blk_cell HX6.out 0).trans rfl,(blk_cell HX6.out 1).trans rfl,(blk_cell HX6.out 2).trans rfl,(blk_cell HX6.out 3).trans rfl⟩ (fun hHeld => ?_)
      clear hK K
      refine norm_ (a':=?_) ?_ ?_
      rotate_left
      ·show Act.put _ (some 45) _ = _
       simp only [Act.put,List.setIfInBounds_toArray,List.set_cons_zero,List.set_cons_succ,i64_w,i32_w]
       rfl
      refine pure_ (i:=8) (N:=(some 46)) (v:=?_) (a':=?_) #[true,true,true,true,true,true,true,true,true] rfl rfl (any_of HT_.out kr) (fun _ _ _ h => h) (Or.inl ⟨by rfl,?_⟩) ?_ ?_
      rotate_left
      ·intro w'
       go_simp
       with_reducible rfl
      rotate_left
      ·exact vs
      refine done_ (done_of HT_.out kr) ?_
      have q0 : (w6).cell? ⟨gb,0,none⟩ = some (.slice none 0 0):=(blk_cell HG6.out 0).trans rfl
      have q1 : (w6).cell? ⟨gb,1,none⟩ = some (.slice none 0 0):=(blk_cell HG6.out 1).trans rfl
      have f0:=blk_frozen HG6.out 0
      have f1:=blk_frozen HG6.out 1
      go_wp2
      refine bodyPost_ret (v:=.tuple #[.agg #[.slice none 0 0,.slice none 0 0],.bool false,.int .i64 0]) (by simp [results,Try.results76,go_sem,q0,q1,f0,f1]) rfl ⟨_,_,rfl,gap_V0 _ _ _,gap_V0 _ _ _,?_⟩
      exact below_set (below_set HB6.out HGB.out) HGB.out
    |true =>
      rw [hsb,if_neg (by decide)] at H
      rw [hsb] at HSF
      have hpl:=placed_len (p:=l3) (ts:=(outsP l0.length a).reverse) (by unfold standsB at hsb;rw [Bool.and_eq_true] at hsb;exact hsb.1)
      have hol : (outsP l0.length a).reverse.length ≤ 64:=by rw [List.length_reverse];unfold outsP;have:=outsF_length l0.length 0 l0.length a;omega
      obtain ⟨T,hT⟩ : ∃ T,T = (outsP l0.length a).reverse:=⟨_,rfl⟩
      have hq1:=siblings_some hal hl64
      have hq2:=stands_some l0 a hl64
      rw [← hT] at hq1 hq2 hpl hol
      obtain ⟨D,hD⟩ : ∃ D,D = standsP l0 a:=⟨_,rfl⟩
      have hDl : D.length = T.length:=by rw [hD,hT];unfold standsP twigsP;rw [List.length_map]
      rw [← hD] at hq2 H
      obtain ⟨y,hy⟩ : ∃ y,y = l0.getD a z29:=⟨_,rfl⟩
      rw [← hy] at H
      obtain ⟨ad,e0,hy0,hy1,hy2,hy3⟩:=at_T29 HR0.out (a : Int) (by omega) (by omega)
      rw [show rd_T29 l0 (a : Int) = y from hy.symm,Int.toNat_natCast] at hy0 hy1 hy2 hy3
      cases e0
      obtain ⟨U,hU⟩ : ∃ U,U = upP (a : Int) ⟨a2_0,a2_1,a2_2,a2_3⟩ l3:=⟨_,rfl⟩
      obtain ⟨O,hO⟩ : ∃ O,O = upP (a : Int) y D:=⟨_,rfl⟩
      have hUs : ∀ i,(U.getD i []).length ≤ 5:=fun i => by rw [hU];exact upP_short _ _ _ _
      have HUS:=am hUs
      clear hUs
      have hUl : U.length = T.length + 1:=by rw [hU];unfold upP;rw [List.length_cons,upFrom_length,hpl]
      have hOl : O.length = T.length + 1:=by rw [hO];unfold upP;rw [List.length_cons,upFrom_length,hDl]
      rw [← hU,← hO] at H
      have HFU:=am (show book_up.f (a : Int) a2_0 a2_1 a2_2 a2_3 l3 = some U by unfold book_up.f;rw [if_pos (by omega),hU])
      have HFO:=am (show book_up.f (a : Int) y.f0 y.f1 y.f2 y.f3 D = some O by unfold book_up.f;rw [if_pos (by omega),hO])
      have HQ1:=am hq1
      have HQ2:=am hq2
      have HUL:=am hUl
      have HOL:=am hOl
      have HTL:=am hol
      have HH:=am H
      have HY0:=am hy0
      have HY1:=am hy1
      have HY2:=am hy2
      have HY3:=am hy3
      have z0 : (a : Int) < (l0.length : Int):=by omega
      clear hsb hpl hol hT hq1 hq2 hD hDl hy hU hO hUl hOl H hy0 hy1 hy2 hy3
      go_enter Try.func76,Try.ntmps76
      go_wp2_with fail
      refine (book_Check.calls _ _ _ _ _ (Kd.C_below HR0.out HBX.out) HC0.out HCh.out).mono ?_
      rintro e w1 ⟨rfl,hd⟩
      have HB1:=am (below_then HBX.out (below_size HBX.out) hd)
      have HG1:=am (blk_below HBKg.out hd)
      have HX1:=am (blk_below HBKx.out hd)
      clear hd HBX HBKx HBKg
      obtain ⟨xb,hxb⟩ : ∃ xb,xb = w.heap.size:=⟨_,rfl⟩
      obtain ⟨gb,hgb⟩ : ∃ gb,gb = w.heap.size + 1:=⟨_,rfl⟩
      rw [← hgb] at HG1 ⊢
      rw [← hxb] at HX1 ⊢
      have HGB:=am (show w.heap.size ≤ gb by omega)
      have HXG:=am (show xb ≠ gb by omega)
      clear hxb hgb
      have x0 : w1.cell? ⟨xb,0,none⟩ = some (.int .i64 a2_0):=(blk_cell HX1.out 0).trans rfl
      have x1 : w1.cell? ⟨xb,1,none⟩ = some (.int .i64 a2_1):=(blk_cell HX1.out 1).trans rfl
      have x2 : w1.cell? ⟨xb,2,none⟩ = some (.int .i64 a2_2):=(blk_cell HX1.out 2).trans rfl
      have x3 : w1.cell? ⟨xb,3,none⟩ = some (.int .i64 a2_3):=(blk_cell HX1.out 3).trans rfl
      go_wp2_with fail
      refine (book_within.calls _ _ _ true _ HW.out).mono ?_
      rintro e w2 ⟨rfl,nq,rfl⟩
      go_wp2_with fail
      refine (book_right.calls _ _ _ _ true _ HRT.out).mono ?_
      rintro e w3 ⟨rfl,hd⟩
      have HB3:=am (below_then (pw_below_drewN HB1.out nq) (below_size (pw_below_drewN HB1.out nq)) hd)
      have HG3:=am (blk_below (blk_drewN HG1.out nq) hd)
      have HX3:=am (blk_below (blk_drewN HX1.out nq) hd)
      clear hd x0 x1 x2 x3
      go_wp2_with fail
      refine (book_digests.calls _ _ _ true _ (Kd.C_below HR3.out HB3.out) HC3.out HDG.out).mono ?_
      rintro e w4 ⟨rfl,hd⟩
      have HB4:=am (below_then HB3.out (below_size HB3.out) hd)
      have HG4:=am (blk_below HG3.out hd)
      have HX4:=am (blk_below HX3.out hd)
      clear hd
      go_wp2_with fail
      have HG4d:=am (blk_drew HG4.out)
      have HX4d:=am (blk_drew HX4.out)
      have HB4d:=am (below_drew1 HB4.out)
      clear HG4 HX4 HB4
      refine start_ (n:=9) (S:=fun w' => w'.cell? ⟨xb,0,none⟩ = some (.int .i64 a2_0) ∧ w'.cell? ⟨xb,1,none⟩ = some (.int .i64 a2_1) ∧ w'.cell? ⟨xb,2,none⟩ = some (.int .i64 a2_2) ∧ w'.cell? ⟨xb,3,none⟩ = some (.int .i64 a2_3)) (ds:=[]) #[false,false,false,false,false,false,false,false,false] kr rfl rfl ⟨(blk_cell HX4d.out 0).trans rfl,(blk_cell HX4d.out 1).trans rfl,(blk_cell HX4d.out 2).trans rfl,(blk_cell HX4d.out 3).trans rfl⟩ (fun hHeld => ?_);refine with_tabW R76_6.tab R76_6.bits (fun HT_ HW_ => ?_)
      generalize (w4).drew = wd at HG4d HX4d HB4d hHeld ⊢
      refine pure_ (i:=0) (N:=(some 38)) (v:=?_) (a':=?_) #[true,false,false,false,false,false,false,false,false] rfl rfl (any_of HT_.out kr) (fun _ _ _ h => h) (Or.inl ⟨by rfl,?_⟩) ?_ ?_
      rotate_left
      ·intro w'
       go_simp
       with_reducible rfl
      rotate_left
      ·exact vs
      refine pure_ (i:=2) (N:=(some 40)) (v:=?_) (a':=?_) #[true,false,true,false,false,false,false,false,false] rfl rfl (any_of HT_.out kr) (fun _ _ _ h => h) (Or.inl ⟨by rfl,?_⟩) ?_ ?_
      rotate_left
      ·intro w'
       go_simp
       with_reducible rfl
      rotate_left
      ·exact vs
      refine pure_ (i:=3) (N:=(some 41)) (v:=?_) (a':=?_) #[true,false,true,true,false,false,false,false,false] rfl rfl (any_of HT_.out kr) (fun _ _ _ h => h) (Or.inl ⟨by rfl,?_⟩) ?_ ?_
      rotate_left
      ·intro w'
       go_simp
       with_reducible rfl
      rotate_left
      ·exact vs
      refine pure_ (i:=4) (N:=(some 42)) (v:=?_) (a':=?_) #[true,false,true,true,true,false,false,false,false] rfl rfl (any_of HT_.out kr) (fun _ _ _ h => h) (Or.inl ⟨by rfl,?_⟩) ?_ ?_
      rotate_left
      ·intro w'
       go_simp
       with_reducible rfl
      rotate_left
      ·exact vs
      refine take_ (i:=5) (N:=(some 43)) (v:=?_) (a':=?_) #[true,false,true,true,true,true,false,false,false] rfl rfl (take_ofW HT_.out HW_.out kr) (fun _ _ _ h => h) (Or.inl ⟨by rfl,?_⟩) hHeld ?_ ?_
      rotate_left
      ·rintro w' ⟨s0,s1,s2,s3⟩
       go_simp
       with_reducible rfl
      rotate_left
      ·exact vs
      refine pure_ (i:=6) (N:=(some 44)) (v:=?_) (a':=?_) #[true,false,true,true,true,true,true,false,false] rfl rfl (any_of HT_.out kr) (fun _ _ _ h => h) (Or.inl ⟨by rfl,?_⟩) ?_ ?_
      rotate_left
      ·intro w'
       go_simp
       with_reducible rfl
      rotate_left
      ·exact vs
      refine one_ (i:=1) (N:=(some 39)) #[true,true,true,true,true,true,true,false,false] rfl rfl (one_of HT_.out kr) (by decide) (fun K hK => ?_)
      refine goes_ Try.func91 kr rfl #[.slice (some ad) l0.length c0] (by rfl) rfl rfl (by (try simp only [List.map_toArray,List.map_cons,List.map_nil]);first|done|rfl|(simp only [List.length_drop,List.length_take];rfl)) ?_
      refine (book_root.calls _ _ l0 (rootP l0) _ (Kd.C_below HR0.out HB4d.out) HC0.out HRF.out).mono ?_
      rintro e w5 ⟨rfl,hd⟩
      have HB5:=am (below_then HB4d.out (below_size HB4d.out) hd)
      have HG5:=am (blk_below HG4d.out hd)
      have HX5:=am (blk_below HX4d.out hd)
      clear hd
      refine ⟨_,rfl,?_⟩
      refine hK.out _ _ ⟨(blk_cell HX5.out 0).trans rfl,(blk_cell HX5.out 1).trans rfl,(blk_cell HX5.out 2).trans rfl,(blk_cell HX5.out 3).trans rfl⟩ (fun hHeld => ?_)
      clear hK K
      refine norm_ (a':=?_) ?_ ?_
      rotate_left
      ·show Act.put _ (some 39) _ = _
       simp only [Act.put,List.setIfInBounds_toArray,List.set_cons_zero,List.set_cons_succ,i64_w,i32_w]
       rfl
      refine one_ (i:=7) (N:=(some 45)) #[true,true,true,true,true,true,true,true,false] rfl rfl (one_of HT_.out kr) (by decide) (fun K hK => ?_)
      refine goes_ Try.func124 kr rfl #[.int .i64 (rootP l0),.int .i64 (l0.length : Int),.int .i64 (a : Int),.agg #[.int .i64 a2_0,.int .i64 a2_1,.int .i64 a2_2,.int .i64 a2_3],.slice A3 l3.length c3] (by rfl) rfl rfl (by (try simp only [List.map_toArray,List.map_cons,List.map_nil]);first|done|rfl|(simp only [List.length_drop,List.length_take];rfl)) ?_
      refine (book_stands.calls _ _ _ _ _ _ _ _ _ l3 true _ (Kd.C_below HR3.out HB5.out) HC3.out HSF.out).mono ?_
      rintro e w6 ⟨rfl,hd⟩
      have HB6:=am (below_then HB5.out (below_size HB5.out) hd)
      have HG6:=am (blk_below HG5.out hd)
      have HX6:=am (blk_below HX5.out hd)
      clear hd
      refine ⟨_,rfl,?_⟩
      refine hK.out _ _ ⟨(blk_cell HX6.out 0).trans rfl,(blk_cell HX6.out 1).trans rfl,(blk_cell HX6.out 2).trans rfl,(blk_cell HX6.out 3).trans rfl⟩ (fun hHeld => ?_)
      clear hK K
      refine norm_ (a':=?_) ?_ ?_
      rotate_left
      ·show Act.put _ (some 45) _ = _
       simp only [Act.put,List.setIfInBounds_toArray,List.set_cons_zero,List.set_cons_succ,i64_w,i32_w]
       rfl
      refine pure_ (i:=8) (N:=(some 46)) (v:=?_) (a':=?_) #[true,true,true,true,true,true,true,true,true] rfl rfl (any_of HT_.out kr) (fun _ _ _ h => h) (Or.inl ⟨by rfl,?_⟩) ?_ ?_
      rotate_left
      ·intro w'
       go_simp
       with_reducible rfl
      rotate_left
      ·exact vs
      refine done_ (done_of HT_.out kr) ?_
      go_wp2_with fail
      have HG6d:=am (blk_drew HG6.out)
      have HX6d:=am (blk_drew HX6.out)
      have HB6d:=am (below_drew1 HB6.out)
      clear HG6 HX6 HB6
      refine start_ (n:=13) (S:=fun w' => w'.cell? (ad.add (a * 4)) = some (.int .i64 y.f0) ∧ w'.cell? ⟨(ad.add (a * 4)).block,(ad.add (a * 4)).off + 1,none⟩ = some (.int .i64 y.f1) ∧ w'.cell? ⟨(ad.add (a * 4)).block,(ad.add (a * 4)).off + 2,none⟩ = some (.int .i64 y.f2) ∧ w'.cell? ⟨(ad.add (a * 4)).block,(ad.add (a * 4)).off + 3,none⟩ = some (.int .i64 y.f3)) (ds:=[]) #[false,false,false,false,false,false,false,false,false,false,false,false,false] kr rfl rfl ⟨pw_cell_below HB6d.out HY0.out,pw_cell_below HB6d.out HY1.out,pw_cell_below HB6d.out HY2.out,pw_cell_below HB6d.out HY3.out⟩ (fun hHeld => ?_);refine with_tabW R76_8.tab R76_8.bits (fun HT_ HW_ => ?_)
      generalize (w6).drew = we at HG6d HX6d HB6d hHeld ⊢
      refine pure_ (i:=0) (N:=(some 48)) (v:=?_) (a':=?_) #[true,false,false,false,false,false,false,false,false,false,false,false,false] rfl rfl (any_of HT_.out kr) (fun _ _ _ h => h) (Or.inl ⟨by rfl,?_⟩) ?_ ?_
      rotate_left
      ·intro w'
       go_simp
       with_reducible rfl
      rotate_left
      ·exact vs
      refine pure_ (i:=1) (N:=(some 49)) (v:=?_) (a':=?_) #[true,true,false,false,false,false,false,false,false,false,false,false,false] rfl rfl (any_of HT_.out kr) (fun _ _ _ h => h) (Or.inl ⟨by rfl,?_⟩) ?_ ?_
      rotate_left
      ·intro w'
       go_simp
       with_reducible rfl
      rotate_left
      ·exact vs
      refine pure_ (i:=2) (N:=(some 50)) (v:=?_) (a':=?_) #[true,true,true,false,false,false,false,false,false,false,false,false,false] rfl rfl (any_of HT_.out kr) (fun _ _ _ h => h) (Or.inl ⟨by rfl,?_⟩) ?_ ?_
      rotate_left
      ·intro w'
       go_simp
       with_reducible rfl
      rotate_left
      ·exact vs
      refine pure_ (i:=3) (N:=(some 51)) (v:=?_) (a':=?_) #[true,true,true,true,false,false,false,false,false,false,false,false,false] rfl rfl (any_of HT_.out kr) (fun _ _ _ h => h) (Or.inl ⟨by rfl,?_⟩) ?_ ?_
      rotate_left
      ·intro w'
       go_simp
       with_reducible rfl
      rotate_left
      ·exact vs
      refine take_ (i:=4) (N:=(some 52)) (v:=?_) (a':=?_) #[true,true,true,true,true,false,false,false,false,false,false,false,false] rfl rfl (take_ofW HT_.out HW_.out kr) (fun _ _ _ h => h) (Or.inl ⟨by rfl,?_⟩) hHeld ?_ ?_
      rotate_left
      ·rintro w' ⟨s0,s1,s2,s3⟩
       go_simp
       with_reducible rfl
      rotate_left
      ·exact vs
      refine pure_ (i:=5) (N:=(some 53)) (v:=?_) (a':=?_) #[true,true,true,true,true,true,false,false,false,false,false,false,false] rfl rfl (any_of HT_.out kr) (fun _ _ _ h => h) (Or.inl ⟨by rfl,?_⟩) ?_ ?_
      rotate_left
      ·intro w'
       go_simp
       with_reducible rfl
      rotate_left
      ·exact vs
      refine pure_ (i:=6) (N:=(some 54)) (v:=?_) (a':=?_) #[true,true,true,true,true,true,true,false,false,false,false,false,false] rfl rfl (any_of HT_.out kr) (fun _ _ _ h => h) (Or.inl ⟨by rfl,?_⟩) ?_ ?_
      rotate_left
      ·intro w'
       go_simp
       with_reducible rfl
      rotate_left
      ·exact vs
      refine pure_ (i:=7) (N:=(some 55)) (v:=?_) (a':=?_) #[true,true,true,true,true,true,true,true,false,false,false,false,false] rfl rfl (any_of HT_.out kr) (fun _ _ _ h => h) (Or.inl ⟨by rfl,?_⟩) ?_ ?_
      rotate_left
      ·intro w'
       go_simp
       with_reducible rfl
      rotate_left
      ·exact vs
      refine pure_ (i:=8) (N:=(some 56)) (v:=?_) (a':=?_) #[true,true,true,true,true,true,true,true,true,false,false,false,false] rfl rfl (any_of HT_.out kr) (fun _ _ _ h => h) (Or.inl ⟨by rfl,?_⟩) ?_ ?_
      rotate_left
      ·intro w'
       go_simp
       with_reducible rfl
      rotate_left
      ·exact vs
      refine one_ (i:=9) (N:=(some 57)) #[true,true,true,true,true,true,true,true,true,true,false,false,false] rfl rfl (one_of HT_.out kr) (by decide) (fun K hK => ?_)
      refine goes_ Try.func122 kr rfl #[.int .i64 (l0.length : Int),.int .i64 (a : Int)] (by rfl) rfl rfl (by (try simp only [List.map_toArray,List.map_cons,List.map_nil]);first|done|rfl|(simp only [List.length_drop,List.length_take];rfl)) ?_
      refine (book_siblings.calls _ _ _ _ HQ1.out).mono ?_
      rintro e w7 ⟨s1,rfl,hs1,hd⟩
      obtain ⟨As1,cs1,rfl,hsl1,hsr1⟩:=Kd.R_reads hs1
      have HB7:=am (below_then HB6d.out (below_size HB6d.out) hd)
      have HG7:=am (blk_below HG6d.out hd)
      have HX7:=am (blk_below HX6d.out hd)
      have HSR:=am hsr1
      have HSL:=am hsl1
      clear hs1 hd hsr1 hsl1
      refine ⟨_,rfl,?_⟩
      refine hK.out _ _ ⟨pw_cell_below HB7.out HY0.out,pw_cell_below HB7.out HY1.out,pw_cell_below HB7.out HY2.out,pw_cell_below HB7.out HY3.out⟩ (fun hHeld => ?_)
      clear hK K
      refine norm_ (a':=?_) ?_ ?_
      rotate_left
      ·show Act.put _ (some 57) _ = _
       simp only [Act.put,List.setIfInBounds_toArray,List.set_cons_zero,List.set_cons_succ,i64_w,i32_w]
       rfl
      refine one_ (i:=10) (N:=(some 58)) #[true,true,true,true,true,true,true,true,true,true,true,false,false] rfl rfl (one_of HT_.out kr) (by decide) (fun K hK => ?_)
      refine goes_ Try.func121 kr rfl #[.slice (some ad) l0.length c0,.slice As1 T.length cs1] (by rfl) rfl rfl (by (try simp only [List.map_toArray,List.map_cons,List.map_nil]);first|done|rfl|(simp only [List.length_drop,List.length_take];rfl)) ?_
      refine (book_twigs.calls 300 _ _ l0 _ _ T D _ (Kd.C_below HR0.out HB7.out) HC0.out HSR.out HSL.out HQ2.out).mono ?_
      rintro e w8 ⟨t1,rfl,ht1,hd⟩
      obtain ⟨At,ct,rfl,htl1,htr1⟩:=Kd.R_reads ht1
      have HB8:=am (below_then HB7.out (below_size HB7.out) hd)
      have HG8:=am (blk_below HG7.out hd)
      have HX8:=am (blk_below HX7.out hd)
      have HTR:=am htr1
      have HTC:=am htl1
      clear ht1 hd htr1 htl1
      refine ⟨_,rfl,?_⟩
      refine hK.out _ _ ⟨pw_cell_below HB8.out HY0.out,pw_cell_below HB8.out HY1.out,pw_cell_below HB8.out HY2.out,pw_cell_below HB8.out HY3.out⟩ (fun hHeld => ?_)
      clear hK K
      refine norm_ (a':=?_) ?_ ?_
      rotate_left
      ·show Act.put _ (some 58) _ = _
       simp only [Act.put,List.setIfInBounds_toArray,List.set_cons_zero,List.set_cons_succ,i64_w,i32_w]
       rfl
      refine one_ (i:=11) (N:=(some 59)) #[true,true,true,true,true,true,true,true,true,true,true,true,false] rfl rfl (one_of HT_.out kr) (by decide) (fun K hK => ?_)
      refine goes_ Try.func142 kr rfl #[.int .i64 (a : Int),.agg #[.int .i64 y.f0,.int .i64 y.f1,.int .i64 y.f2,.int .i64 y.f3],.slice At D.length ct] (by rfl) rfl rfl (by (try simp only [List.map_toArray,List.map_cons,List.map_nil]);first|done|rfl|(simp only [List.length_drop,List.length_take];rfl)) ?_
      refine (book_up.calls _ _ _ _ _ _ _ D O _ HTR.out HTC.out HFO.out).mono ?_
      rintro e w9 ⟨v9,rfl,hv9,hd⟩
      have HB9:=am (below_then HB8.out (below_size HB8.out) hd)
      have HG9:=am (blk_below HG8.out hd)
      have HX9:=am (blk_below HX8.out hd)
      have HV9:=am (Kd.V_mono (ok':=fun k => gb ≠ k ∧ w.heap.size ≤ k) hv9 (fun k hk => ⟨fun e_ => by have:=blk_lt HG8.out;omega,Nat.le_trans (below_size HB8.out) hk⟩))
      obtain ⟨Ao,co,rfl⟩:=Kd.V_slice hv9
      clear hv9 hd
      refine ⟨_,rfl,?_⟩
      refine hK.out _ _ ⟨pw_cell_below HB9.out HY0.out,pw_cell_below HB9.out HY1.out,pw_cell_below HB9.out HY2.out,pw_cell_below HB9.out HY3.out⟩ (fun hHeld => ?_)
      clear hK K
      refine norm_ (a':=?_) ?_ ?_
      rotate_left
      ·show Act.put _ (some 59) _ = _
       simp only [Act.put,List.setIfInBounds_toArray,List.set_cons_zero,List.set_cons_succ,i64_w,i32_w]
       rfl
      refine pure_ (i:=12) (N:=(some 12)) (v:=?_) (a':=?_) #[true,true,true,true,true,true,true,true,true,true,true,true,true] rfl rfl (any_of HT_.out kr) (fun _ _ _ h => h) (Or.inl ⟨by rfl,?_⟩) ?_ ?_
      rotate_left
      ·intro w'
       go_simp
       with_reducible rfl
      rotate_left
      ·exact vs
      refine done_ (done_of HT_.out kr) ?_
      have y0 : w9.cell? ⟨xb,0,none⟩ = some (.int .i64 a2_0):=(blk_cell HX9.out 0).trans rfl
      have y1 : w9.cell? ⟨xb,1,none⟩ = some (.int .i64 a2_1):=(blk_cell HX9.out 1).trans rfl
      have y2 : w9.cell? ⟨xb,2,none⟩ = some (.int .i64 a2_2):=(blk_cell HX9.out 2).trans rfl
      have y3 : w9.cell? ⟨xb,3,none⟩ = some (.int .i64 a2_3):=(blk_cell HX9.out 3).trans rfl
      go_wp2_with fail
      refine (book_up.calls _ _ _ _ _ _ _ l3 U _ (Kd.C_below HR3.out HB9.out) HC3.out HFU.out).mono ?_
      rintro e w10 ⟨v10,rfl,hv10,hd⟩
      have HB10:=am (below_then HB9.out (below_size HB9.out) hd)
      have HG10:=am (blk_below HG9.out hd)
      have HV10:=am (Kd.V_mono (ok':=fun k => gb ≠ k ∧ w.heap.size ≤ k) hv10 (fun k hk => ⟨fun e_ => by have:=blk_lt HG9.out;omega,Nat.le_trans (below_size HB9.out) hk⟩))
      have HV9':=am (Kd.V_below HV9.out hd)
      obtain ⟨Au,cu,rfl⟩:=Kd.V_slice hv10
      clear hv10 hd HV9 y0 y1 y2 y3
      go_wp2
      go_loopw [65] (fun v65 wr => ∃ i : Nat,i ≤ U.length ∧ v65 = .int .i64 (i : Int) ∧ Drawn0 w10 wr ∧ Aside0 (gapRes (gapFind (U.drop i) (O.drop i)) = (r1,r2,r3,r4))) (fun v65 _ => U.length - (intOf v65).toNat)
      case atStart => exact ⟨0,Nat.zero_le _,rfl,Drawn0.refl _,HH⟩
      case round =>
       obtain ⟨i,hi,rfl,⟨mq,rfl⟩,HI⟩:=hrel
       by_cases hlt : i < U.length
       ·have hlt2 : i < O.length:=by have:=HUL.out;have:=HOL.out;omega
        have h1000 : U.length ≤ 1000:=by have:=HUL.out;have:=HTL.out;omega
        obtain ⟨n,hn⟩ : ∃ n,n = U.getD i []:=⟨_,rfl⟩
        obtain ⟨m,hm⟩ : ∃ m,m = O.getD i []:=⟨_,rfl⟩
        have hst:=gap_step hlt hlt2
        rw [← hn,← hm] at hst
        have hn5 : n.length ≤ 5:=by rw [hn];exact HUS.out i
        obtain ⟨adu,Aun,cun,eu,hxu,hlu,hcu⟩:=at_L10 (Kd.V_reads' HV10.out).2.2 (i : Int) (by omega) (by omega)
        cases eu
        obtain ⟨csu,hcsl,hFu,hcsu⟩:=Kd.V_get HV10.out [] (i : Int) (by omega) (by omega)
        rw [Int.toNat_natCast,← hn] at hFu
        obtain ⟨Aun2,cun2,rfl,hlu2,hFu2⟩:=Kd.FK_slice_open hFu
        have hxu2:=hcsu 0 _ rfl
        rw [Nat.add_zero,show ((Kd.slice 3 (Kd.int .i64))).sz = 1 from rfl,Nat.mul_one] at hxu2
        replace hxu:=hxu2
        rw [Int.toNat_natCast] at hxu
        have HFU2:=am hFu2
        have HCU:=am (Kd.F_now hFu2)
        clear hxu2 hcsu hcsl hFu hFu2 hlu hcu
        rename_i hlu_
        obtain ⟨ado,Aon,con,eo,hxo,hlo,hco⟩:=at_L10 (Kd.V_reads' HV9'.out).2.2 (i : Int) (by omega) (by omega)
        cases eo
        obtain ⟨cso,hcso,hFo,hcsoo⟩:=Kd.V_get HV9'.out [] (i : Int) (by omega) (by omega)
        rw [Int.toNat_natCast,← hm] at hFo
        obtain ⟨Aon2,con2,rfl,hlo2,hFo2⟩:=Kd.FK_slice_open hFo
        have hxo2:=hcsoo 0 _ rfl
        rw [Nat.add_zero,show ((Kd.slice 3 (Kd.int .i64))).sz = 1 from rfl,Nat.mul_one] at hxo2
        replace hxo:=hxo2
        rw [Int.toNat_natCast] at hxo
        have HFO2:=am hFo2
        have HCO:=am (Kd.F_now hFo2)
        clear hxo2 hcsoo hcso hFo hFo2 hlo hco
        have HN5:=am hn5
        have HNM:=am (ints_equal (a:=n) (b:=m) (by omega))
        have z1 : (i : Int) < (U.length : Int):=by omega
        have z2 : (i : Int) < (O.length : Int):=by omega
        have HST:=am hst
        clear hst hn hm hn5 hi
        by_cases hnm : n = m
        ·have HEQ:=am (show slices_Equal_int_int.f 90 n m = some true by rw [HNM.out,decide_eq_true hnm])
         have HI2:=am (show gapRes (gapFind (U.drop (i + 1)) (O.drop (i + 1))) = (r1,r2,r3,r4) by rw [← HI.out,HST.out,if_neg (fun h => h.1 hnm)])
         have HDN:=am (show book_digest.f n = some (dig n) from rfl)
         have HDM:=am (show book_digest.f m = some (dig m) from rfl)
         obtain ⟨dn,hdn⟩ : ∃ dn,dn = dig n:=⟨_,rfl⟩
         obtain ⟨dm,hdm⟩ : ∃ dm,dm = dig m:=⟨_,rfl⟩
         rw [← hdn] at HDN
         rw [← hdm] at HDM
         clear hnm HNM HI HST hdn hdm
         go_wp2
         go_quiet ((first
          |(go_at_call 112;(with_reducible refine (slices_Equal_int_int.calls 90 _ _ n _ _ m true _ ?s1 hlu2 ?s3 hlo2 HEQ.out).mono ?_);(case s1 => repeat (first|exact HCU.out|(with_reducible refine Kd.C_drewN ?_ _)|(with_reducible refine Kd.C_drew ?_)));(case s3 => repeat (first|exact HCO.out|(with_reducible refine Kd.C_drewN ?_ _)|(with_reducible refine Kd.C_drew ?_)));rintro e w' ⟨rfl,⟨nd,rfl⟩⟩;(try first|exact ⟨rfl,_,World.drewN_drewN _ _ _⟩|exact ⟨rfl,_,Eq.trans (World.drewN_drewN _ _ _) (congrArg (World.drewN _) (Nat.add_assoc _ _ _))⟩))
          |(go_at_call 96;(with_reducible refine (book_digest.calls _ _ n dn _ ?s1 hlu2 HDN.out).mono ?_);(case s1 => repeat (first|exact HCU.out|(with_reducible refine Kd.C_drewN ?_ _)|(with_reducible refine Kd.C_drew ?_)));rintro e w' ⟨rfl,⟨nd,rfl⟩⟩;(try first|exact ⟨rfl,_,World.drewN_drewN _ _ _⟩|exact ⟨rfl,_,Eq.trans (World.drewN_drewN _ _ _) (congrArg (World.drewN _) (Nat.add_assoc _ _ _))⟩))
          |(go_at_call 96;(with_reducible refine (book_digest.calls _ _ m dm _ ?s1 hlo2 HDM.out).mono ?_);(case s1 => repeat (first|exact HCO.out|(with_reducible refine Kd.C_drewN ?_ _)|(with_reducible refine Kd.C_drew ?_)));rintro e w' ⟨rfl,⟨nd,rfl⟩⟩;(try first|exact ⟨rfl,_,World.drewN_drewN _ _ _⟩|exact ⟨rfl,_,Eq.trans (World.drewN_drewN _ _ _) (congrArg (World.drewN _) (Nat.add_assoc _ _ _))⟩))))
         go_wp2
         go_roundw
         case rel => exact ⟨i + 1,by omega,congrArg _ (by push_cast;rfl),by repeat (first|exact Drawn0.refl _|apply Drawn0.step),HI2⟩
         case measure => simp [intOf];omega
        ·have HEQ:=am (show slices_Equal_int_int.f 90 n m = some false by rw [HNM.out,decide_eq_false hnm])
         have HDN:=am (show book_digest.f n = some (dig n) from rfl)
         have HDM:=am (show book_digest.f m = some (dig m) from rfl)
         by_cases hdd : dig n = dig m
         ·have HI2:=am (show (n,m,true,(0 : Int)) = (r1,r2,r3,r4) by rw [← HI.out,HST.out,if_pos ⟨hnm,hdd⟩];rfl)
          obtain ⟨dn,hdn⟩ : ∃ dn,dn = dig n:=⟨_,rfl⟩
          obtain ⟨dm,hdm⟩ : ∃ dm,dm = dig m:=⟨_,rfl⟩
          rw [← hdn] at HDN hdd
          rw [← hdm] at HDM hdd
          have hde : (dn == dm) = true:=by rw [beq_iff_eq];exact hdd
          have hh:=HI2.out
          simp only [Prod.mk.injEq] at hh
          obtain ⟨rfl,rfl,rfl,rfl⟩:=hh
          clear hnm HNM HI HST hdn hdm hdd HI2
          go_wp2
          go_quiet ((first
          |(go_at_call 112;(with_reducible refine (slices_Equal_int_int.calls 90 _ _ n _ _ m false _ ?s1 hlu2 ?s3 hlo2 HEQ.out).mono ?_);(case s1 => repeat (first|exact HCU.out|(with_reducible refine Kd.C_drewN ?_ _)|(with_reducible refine Kd.C_drew ?_)));(case s3 => repeat (first|exact HCO.out|(with_reducible refine Kd.C_drewN ?_ _)|(with_reducible refine Kd.C_drew ?_)));rintro e w' ⟨rfl,⟨nd,rfl⟩⟩;(try first|exact ⟨rfl,_,World.drewN_drewN _ _ _⟩|exact ⟨rfl,_,Eq.trans (World.drewN_drewN _ _ _) (congrArg (World.drewN _) (Nat.add_assoc _ _ _))⟩))
          |(go_at_call 96;(with_reducible refine (book_digest.calls _ _ n dn _ ?s1 hlu2 HDN.out).mono ?_);(case s1 => repeat (first|exact HCU.out|(with_reducible refine Kd.C_drewN ?_ _)|(with_reducible refine Kd.C_drew ?_)));rintro e w' ⟨rfl,⟨nd,rfl⟩⟩;(try first|exact ⟨rfl,_,World.drewN_drewN _ _ _⟩|exact ⟨rfl,_,Eq.trans (World.drewN_drewN _ _ _) (congrArg (World.drewN _) (Nat.add_assoc _ _ _))⟩))
          |(go_at_call 96;(with_reducible refine (book_digest.calls _ _ m dm _ ?s1 hlo2 HDM.out).mono ?_);(case s1 => repeat (first|exact HCO.out|(with_reducible refine Kd.C_drewN ?_ _)|(with_reducible refine Kd.C_drew ?_)));rintro e w' ⟨rfl,⟨nd,rfl⟩⟩;(try first|exact ⟨rfl,_,World.drewN_drewN _ _ _⟩|exact ⟨rfl,_,Eq.trans (World.drewN_drewN _ _ _) (congrArg (World.drewN _) (Nat.add_assoc _ _ _))⟩))))
          have q0 : w10.cell? ⟨gb,0,none⟩ = some (.slice none 0 0):=(blk_cell HG10.out 0).trans rfl
          have q1 : w10.cell? ⟨gb,1,none⟩ = some (.slice none 0 0):=(blk_cell HG10.out 1).trans rfl
          have f0:=blk_frozen HG10.out 0
          have f1:=blk_frozen HG10.out 1
          go_wp2
          refine bodyPost_ret (v:=.tuple #[.agg #[.slice Aun2 n.length cun2,.slice Aon2 m.length con2],.bool true,.int .i64 0]) (by simp [results,Try.results76,go_sem,q0,q1,f0,f1]) rfl ⟨_,_,rfl,⟨Aun2,cun2,rfl,hlu2,?_⟩,⟨Aon2,con2,rfl,hlo2,?_⟩,?_⟩
          ·exact Kd.F_mono (Kd.F_far (Kd.F_far (Kd.F_drewN HFU2.out _) (p:=⟨gb,0,none⟩) (fun k hk => fun e_ => hk.1 e_.symm) _) (p:=⟨gb,1,none⟩) (fun k hk => fun e_ => hk.1 e_.symm) _) (fun k hk => hk.2)
          ·exact Kd.F_mono (Kd.F_far (Kd.F_far (Kd.F_drewN HFO2.out _) (p:=⟨gb,0,none⟩) (fun k hk => fun e_ => hk.1 e_.symm) _) (p:=⟨gb,1,none⟩) (fun k hk => fun e_ => hk.1 e_.symm) _) (fun k hk => hk.2)
          ·exact below_set (below_set (pw_below_drewN HB10.out _) HGB.out) HGB.out
         ·have HI2:=am (show gapRes (gapFind (U.drop (i + 1)) (O.drop (i + 1))) = (r1,r2,r3,r4) by rw [← HI.out,HST.out,if_neg (fun h => hdd h.2)])
          obtain ⟨dn,hdn⟩ : ∃ dn,dn = dig n:=⟨_,rfl⟩
          obtain ⟨dm,hdm⟩ : ∃ dm,dm = dig m:=⟨_,rfl⟩
          rw [← hdn] at HDN hdd
          rw [← hdm] at HDM hdd
          have hde : (dn == dm) = false:=by rw [beq_eq_false_iff_ne];exact hdd
          clear hnm HNM HI HST hdn hdm hdd
          go_wp2
          go_quiet ((first
          |(go_at_call 112;(with_reducible refine (slices_Equal_int_int.calls 90 _ _ n _ _ m false _ ?s1 hlu2 ?s3 hlo2 HEQ.out).mono ?_);(case s1 => repeat (first|exact HCU.out|(with_reducible refine Kd.C_drewN ?_ _)|(with_reducible refine Kd.C_drew ?_)));(case s3 => repeat (first|exact HCO.out|(with_reducible refine Kd.C_drewN ?_ _)|(with_reducible refine Kd.C_drew ?_)));rintro e w' ⟨rfl,⟨nd,rfl⟩⟩;(try first|exact ⟨rfl,_,World.drewN_drewN _ _ _⟩|exact ⟨rfl,_,Eq.trans (World.drewN_drewN _ _ _) (congrArg (World.drewN _) (Nat.add_assoc _ _ _))⟩))
          |(go_at_call 96;(with_reducible refine (book_digest.calls _ _ n dn _ ?s1 hlu2 HDN.out).mono ?_);(case s1 => repeat (first|exact HCU.out|(with_reducible refine Kd.C_drewN ?_ _)|(with_reducible refine Kd.C_drew ?_)));rintro e w' ⟨rfl,⟨nd,rfl⟩⟩;(try first|exact ⟨rfl,_,World.drewN_drewN _ _ _⟩|exact ⟨rfl,_,Eq.trans (World.drewN_drewN _ _ _) (congrArg (World.drewN _) (Nat.add_assoc _ _ _))⟩))
          |(go_at_call 96;(with_reducible refine (book_digest.calls _ _ m dm _ ?s1 hlo2 HDM.out).mono ?_);(case s1 => repeat (first|exact HCO.out|(with_reducible refine Kd.C_drewN ?_ _)|(with_reducible refine Kd.C_drew ?_)));rintro e w' ⟨rfl,⟨nd,rfl⟩⟩;(try first|exact ⟨rfl,_,World.drewN_drewN _ _ _⟩|exact ⟨rfl,_,Eq.trans (World.drewN_drewN _ _ _) (congrArg (World.drewN _) (Nat.add_assoc _ _ _))⟩))))
          go_wp2
          go_roundw
          case rel => exact ⟨i + 1,by omega,congrArg _ (by push_cast;rfl),by repeat (first|exact Drawn0.refl _|apply Drawn0.step),HI2⟩
          case measure => simp [intOf];omega
       ·have hi' : i = U.length:=by omega
        have HI2:=am (show (([] : List Int),([] : List Int),false,(0 : Int)) = (r1,r2,r3,r4) by rw [← HI.out,hi',List.drop_length];rfl)
        have hh:=HI2.out
        simp only [Prod.mk.injEq] at hh
        obtain ⟨rfl,rfl,rfl,rfl⟩:=hh
        clear hi' HI2 HI
        have q0 : (w10.drewN mq).cell? ⟨gb,0,none⟩ = some (.slice none 0 0):=(blk_cell HG10.out 0).trans rfl
        have q1 : (w10.drewN mq).cell? ⟨gb,1,none⟩ = some (.slice none 0 0):=(blk_cell HG10.out 1).trans rfl
        have f0:=blk_frozen (blk_drewN HG10.out mq) 0
        have f1:=blk_frozen (blk_drewN HG10.out mq) 1
        go_wp2
        refine bodyPost_ret (v:=.tuple #[.agg #[.slice none 0 0,.slice none 0 0],.bool false,.int .i64 0]) (by simp [results,Try.results76,go_sem,q0,q1,f0,f1]) rfl ⟨_,_,rfl,gap_V0 _ _ _,gap_V0 _ _ _,?_⟩
        exact below_set (below_set (pw_below_drewN HB10.out mq) HGB.out) HGB.out
  ·rw [if_pos hwi] at H
   simp only [Prod.mk.injEq] at H
   obtain ⟨rfl,rfl,rfl,rfl⟩:=H
   have HW:=am (show book_within.f a1 0 ((l0.length : Int) - 1) = some false by rw [within_some,decide_eq_false hwi])
   clear hwi
   go_enter Try.func76,Try.ntmps76
   go_wp2_with fail
   refine (book_Check.calls _ _ _ _ _ (Kd.C_below HR0.out HBX.out) HC0.out HCh.out).mono ?_
   rintro e w1 ⟨rfl,hd⟩
   have HB1:=am (below_then HBX.out (below_size HBX.out) hd)
   have HG1:=am (blk_below HBKg.out hd)
   have HX1:=am (blk_below HBKx.out hd)
   clear hd HBX HBKx HBKg
   obtain ⟨xb,hxb⟩ : ∃ xb,xb = w.heap.size:=⟨_,rfl⟩
   obtain ⟨gb,hgb⟩ : ∃ gb,gb = w.heap.size + 1:=⟨_,rfl⟩
   rw [← hgb] at HG1 ⊢
   rw [← hxb] at HX1 ⊢
   have HGB:=am (show w.heap.size ≤ gb by omega)
   have HXG:=am (show xb ≠ gb by omega)
   clear hxb hgb
   have x0 : w1.cell? ⟨xb,0,none⟩ = some (.int .i64 a2_0):=(blk_cell HX1.out 0).trans rfl
   have x1 : w1.cell? ⟨xb,1,none⟩ = some (.int .i64 a2_1):=(blk_cell HX1.out 1).trans rfl
   have x2 : w1.cell? ⟨xb,2,none⟩ = some (.int .i64 a2_2):=(blk_cell HX1.out 2).trans rfl
   have x3 : w1.cell? ⟨xb,3,none⟩ = some (.int .i64 a2_3):=(blk_cell HX1.out 3).trans rfl
   go_wp2_with fail
   refine (book_within.calls _ _ _ false _ HW.out).mono ?_
   rintro e w2 ⟨rfl,nq,rfl⟩
   have q0 : (w1).cell? ⟨gb,0,none⟩ = some (.slice none 0 0):=(blk_cell HG1.out 0).trans rfl
   have q1 : (w1).cell? ⟨gb,1,none⟩ = some (.slice none 0 0):=(blk_cell HG1.out 1).trans rfl
   have f0:=blk_frozen HG1.out 0
   have f1:=blk_frozen HG1.out 1
   go_wp2
   refine bodyPost_ret (v:=.tuple #[.agg #[.slice none 0 0,.slice none 0 0],.bool false,.int .i64 1]) (by simp [results,Try.results76,go_sem,q0,q1,f0,f1]) rfl ⟨_,_,rfl,gap_V0 _ _ _,gap_V0 _ _ _,?_⟩
   exact below_set (below_set (pw_below_drewN HB1.out nq) HGB.out) HGB.out
 ·rw [if_pos hc] at H
  simp only [Prod.mk.injEq] at H
  obtain ⟨rfl,rfl,rfl,rfl⟩:=H
  have hcb : (checkP l0 == 0) = false:=by simp [hc]
  have hcb2 : (checkP l0 != 0) = true:=by simp [hc]
  clear hc
  go_enter Try.func76,Try.ntmps76
  go_wp2_with fail
  refine (book_Check.calls _ _ _ _ _ (Kd.C_below HR0.out HBX.out) HC0.out HCh.out).mono ?_
  rintro e w1 ⟨rfl,hd⟩
  have HB1:=am (below_then HBX.out (below_size HBX.out) hd)
  have HG1:=am (blk_below HBKg.out hd)
  clear hd HBX HBKx HBKg
  obtain ⟨gb,hgb⟩ : ∃ gb,gb = w.heap.size + 1:=⟨_,rfl⟩
  rw [← hgb] at HG1 ⊢
  have HGB:=am (show w.heap.size ≤ gb by omega)
  clear hgb
  have q0 : w1.cell? ⟨gb,0,none⟩ = some (.slice none 0 0):=(blk_cell HG1.out 0).trans rfl
  have q1 : w1.cell? ⟨gb,1,none⟩ = some (.slice none 0 0):=(blk_cell HG1.out 1).trans rfl
  have f0:=blk_frozen HG1.out 0
  have f1:=blk_frozen HG1.out 1
  go_wp2
  refine bodyPost_ret (v:=.tuple #[.agg #[.slice none 0 0,.slice none 0 0],.bool false,.int .i64 (checkP l0)]) (by simp [results,Try.results76,go_sem,q0,q1,f0,f1]) rfl ⟨_,_,rfl,gap_V0 _ _ _,gap_V0 _ _ _,?_⟩
  exact below_set (below_set HB1.out HGB.out) HGB.out
def calxref08_SameInts.l0 : Nat → List Int → List Int → Int → Option (Bool)
|0,_,_,_ => none
|k + 1,x0,x1,x5 => if x5 < (x0.length : Int) then (if 0 ≤ x5 then (if x5 < (x1.length : Int) then (if (rd x0 x5) = (rd x1 x5) then (calxref08_SameInts.l0 k x0 x1 (wrap64 (x5 + 1))) else (some false)) else (none)) else (none)) else (some true)
def calxref08_SameInts.f (k : Nat) (l0 : List Int) (l1 : List Int) : Option (Bool):=if (l0.length : Int) = (l1.length : Int) then (calxref08_SameInts.l0 k l0 l1 0) else (some false)
theorem calxref08_SameInts.mono_l : ∀ k,(∀ y0 y1 y2,LeO (calxref08_SameInts.l0 k y0 y1 y2) (calxref08_SameInts.l0 (k + 1) y0 y1 y2))
|0 => fun _ _ _ r h => by simp [calxref08_SameInts.l0] at h
|k + 1 => by
  have ih0:=calxref08_SameInts.mono_l k
  ·intro y0 y1 y2
   unfold calxref08_SameInts.l0
   repeat' first
  |(with_reducible exact ih0 _ _ _)
  |(with_reducible exact LeO.refl _)
  |(with_reducible exact LeO.none _)
  |(with_reducible refine LeO.ite ?_ ?_)
  |(with_reducible refine LeO.bind ?_ (fun _ => ?_))
  |exact ih0 _ _ _
  |exact LeO.none _
  |refine LeO.ite ?_ ?_
  |refine LeO.bind ?_ (fun _ => ?_)
theorem calxref08_SameInts.mono : ∀ a0 a1 k,LeO (calxref08_SameInts.f k a0 a1) (calxref08_SameInts.f (k + 1) a0 a1):=by
 intro a0 a1 k
 have ih0:=calxref08_SameInts.mono_l k
 unfold calxref08_SameInts.f
 repeat' first
  |(with_reducible exact ih0 _ _ _)
  |(with_reducible exact LeO.refl _)
  |(with_reducible exact LeO.none _)
  |(with_reducible refine LeO.ite ?_ ?_)
  |(with_reducible refine LeO.bind ?_ (fun _ => ?_))
  |exact ih0 _ _ _
  |exact LeO.none _
  |refine LeO.ite ?_ ?_
  |refine LeO.bind ?_ (fun _ => ?_)
set_option maxHeartbeats 8000000 in
set_option maxRecDepth 100000 in
theorem calxref08_SameInts.calls (k : Nat) (A0 : Option Addr) (c0 : Nat) (l0 : List Int) (A1 : Option Addr) (c1 : Nat) (l1 : List Int) (r : Bool) (w : World) (hr0 : Kd.C (Kd.int .i64) w A0 l0.length l0) (hc0 : l0.length ≤ c0) (hr1 : Kd.C (Kd.int .i64) w A1 l1.length l1) (hc1 : l1.length ≤ c1) (h : calxref08_SameInts.f k l0 l1 = some r) :
  Calls Try.prog 78 #[.slice A0 l0.length c0,.slice A1 l1.length c1] w fun e w' => e = .returned (.bool r) ∧ Drawn0 w w':=by
 have HR0:=am hr0
 have HC0:=am hc0
 clear hr0 hc0
 have HR1:=am hr1
 have HC1:=am hc1
 clear hr1 hc1
 have H : (if (l0.length : Int) = (l1.length : Int) then (calxref08_SameInts.l0 k l0 l1 0) else (some false)) = some r:=h
 clear h
 by_cases c3 : (l0.length : Int) = (l1.length : Int)
 ·rw [if_pos c3] at H
  have c3b0 : ((l0.length : Int) == (l1.length : Int)) = true:=beq_iff_eq.mpr c3
  have c3b1 : ((l0.length : Int) != (l1.length : Int)) = false:=bne_eq_false_iff_eq.mpr c3
  have c3b2 : (l0.length == l1.length) = true:=by first|simpa using c3|(simp at c3 ⊢;omega)
  clear c3
  have H':=am H
  clear H
  go_enter Try.func78,Try.ntmps78
  go_wp2
  repeat (go_quiet (fail);try go_wp2)
  go_loopg [5] k (fun kq v5 w' => ∃ (x5_1 : Int),v5 = .int .i64 x5_1 ∧ Aside0 (calxref08_SameInts.l0 kq l0 l1 x5_1 = some r) ∧ Aside0 (kq ≤ k) ∧ Drawn0 w w')
  case atStart => exact ⟨(0),ve,H',⟨Nat.le_refl _⟩,by repeat (first|exact Drawn0.refl _|apply Drawn0.step)⟩
  case round =>
   clear H'
   try clear c1
   try clear p2
   try clear c3
   try clear c3b0
   try clear c3b1
   try clear c3b2
   obtain ⟨x5_1,rfl,HA,HK1,⟨m1,rfl⟩⟩:=hrel
   cases gk with
  |zero => exact absurd HA.out (by simp [calxref08_SameInts.l0])
  |succ k1 =>
    have H:=HA.out
    clear HA
    simp only [calxref08_SameInts.l0] at H
    by_cases c4 : x5_1 < (l0.length : Int)
    ·rw [if_pos c4] at H
     have c4b0 : decide (x5_1 < (l0.length : Int)) = true:=decide_eq_true c4
     clear c4
     by_cases c5 : 0 ≤ x5_1
     ·rw [if_pos c5] at H
      have c5b0 : decide (0 ≤ x5_1) = true:=decide_eq_true c5
      clear c5
      by_cases c6 : x5_1 < (l1.length : Int)
      ·rw [if_pos c6] at H
       have c6b0 : decide (x5_1 < (l1.length : Int)) = true:=decide_eq_true c6
       clear c6
       by_cases c7 : (rd l0 x5_1) = (rd l1 x5_1)
       ·rw [if_pos c7] at H
        have c7b0 : ((rd l0 x5_1) == (rd l1 x5_1)) = true:=beq_iff_eq.mpr c7
        have c7b1 : ((rd l0 x5_1) != (rd l1 x5_1)) = false:=bne_eq_false_iff_eq.mpr c7
        clear c7
        have H':=am H
        clear H
        have p101 : 0 ≤ (x5_1 : Int):=of_decide_eq_true va
        have q101 : x5_1 < (l0.length : Int):=of_decide_eq_true va
        obtain ⟨ad101,e101,hx101_0⟩:=Kd.at_int HR0.out x5_1 p101 q101
        cases e101
        replace p101:=eq_true p101
        replace q101:=eq_true q101
        have p102 : 0 ≤ (x5_1 : Int):=of_decide_eq_true va
        have q102 : x5_1 < (l1.length : Int):=of_decide_eq_true va
        obtain ⟨ad102,e102,hx102_0⟩:=Kd.at_int HR1.out x5_1 p102 q102
        cases e102
        replace p102:=eq_true p102
        replace q102:=eq_true q102
        go_wp2
        repeat (go_quiet (fail);try go_wp2)
        go_roundg k1
        case measure => have:=HK1.out;omega
        case rel => exact ⟨(wrap64 (x5_1 + 1)),ve,H',⟨by have:=HK1.out;omega⟩,by repeat (first|exact Drawn0.refl _|apply Drawn0.step)⟩
       ·rw [if_neg c7] at H
        have c7b0 : ((rd l0 x5_1) == (rd l1 x5_1)) = false:=beq_eq_false_iff_ne.mpr c7
        have c7b1 : ((rd l0 x5_1) != (rd l1 x5_1)) = true:=bne_iff_ne.mpr c7
        obtain rfl:=Option.some.inj H
        have p101 : 0 ≤ (x5_1 : Int):=of_decide_eq_true va
        have q101 : x5_1 < (l0.length : Int):=of_decide_eq_true va
        obtain ⟨ad101,e101,hx101_0⟩:=Kd.at_int HR0.out x5_1 p101 q101
        cases e101
        replace p101:=eq_true p101
        replace q101:=eq_true q101
        have p102 : 0 ≤ (x5_1 : Int):=of_decide_eq_true va
        have q102 : x5_1 < (l1.length : Int):=of_decide_eq_true va
        obtain ⟨ad102,e102,hx102_0⟩:=Kd.at_int HR1.out x5_1 p102 q102
        cases e102
        replace p102:=eq_true p102
        replace q102:=eq_true q102
        go_wp2
        repeat (go_quiet (fail);try go_wp2)
        go_ret
        exact ⟨ve,by repeat (first|exact Drawn0.refl _|apply Drawn0.step)⟩
      ·rw [if_neg c6] at H
       exact absurd H (by simp)
     ·rw [if_neg c5] at H
      exact absurd H (by simp)
    ·rw [if_neg c4] at H
     have c4b0 : decide (x5_1 < (l0.length : Int)) = false:=decide_eq_false c4
     clear c4
     obtain rfl:=Option.some.inj H
     go_wp2
     repeat (go_quiet (fail);try go_wp2)
     go_ret
     exact ⟨ve,by repeat (first|exact Drawn0.refl _|apply Drawn0.step)⟩
 ·rw [if_neg c3] at H
  have c3b0 : ((l0.length : Int) == (l1.length : Int)) = false:=beq_eq_false_iff_ne.mpr c3
  have c3b1 : ((l0.length : Int) != (l1.length : Int)) = true:=bne_iff_ne.mpr c3
  have c3b2 : (l0.length == l1.length) = false:=by first|simpa using c3|(simp at c3 ⊢;omega)
  obtain rfl:=Option.some.inj H
  go_enter Try.func78,Try.ntmps78
  go_wp2
  repeat (go_quiet (fail);try go_wp2)
  go_ret
  exact ⟨ve,by repeat (first|exact Drawn0.refl _|apply Drawn0.step)⟩
theorem same_ints2 {a b : List Int} (hl : a.length = b.length) (h12 : a.length ≤ 12) : calxref08_SameInts.l0 89 a b 0 = some (decide (a = b)):=by
 suffices h : ∀ (d k i : Nat),i + d = a.length → d < k → calxref08_SameInts.l0 k a b (i : Int) = some (decide (a.drop i = b.drop i)) by
  have:=h a.length 89 0 (by omega) (by omega)
  simpa using this
 intro d
 induction d with
|zero =>
  intro k i hi hk
  obtain ⟨k,rfl⟩ : ∃ m,k = m + 1:=⟨k - 1,by omega⟩
  simp only [calxref08_SameInts.l0]
  rw [if_neg (by omega),List.drop_eq_nil_of_le (by omega),List.drop_eq_nil_of_le (by omega)]
  simp
|succ d ih =>
  intro k i hi hk
  obtain ⟨k,rfl⟩ : ∃ m,k = m + 1:=⟨k - 1,by omega⟩
  have h1 : i < a.length:=by omega
  have h2 : i < b.length:=by omega
  simp only [calxref08_SameInts.l0]
  rw [if_pos (by omega),if_pos (by omega),if_pos (by omega),rd_getElem h1,rd_getElem h2,wrap_nat (by omega),ih k (i + 1) (by omega) (by omega),List.drop_eq_getElem_cons h1,List.drop_eq_getElem_cons h2]
  by_cases he : a[i] = b[i]
  ·rw [if_pos he];simp only [List.cons.injEq,he,true_and]
  ·rw [if_neg he];simp only [List.cons.injEq,he,false_and,decide_false]
def begins (P l : List S29) : Bool:=decide (l.take P.length = P)
def beg (ls : List (List S29)) (P : List S29) : Nat:=(ls.filter (begins P)).length
theorem begins_iff {P l : List S29} : begins P l = true ↔ l.take P.length = P:=by simp [begins]
theorem begins_take {P l : List S29} (h : begins P l = true) (n : Nat) : begins (P.take n) l = true:=by
 rw [begins_iff] at h ⊢
 rw [List.length_take]
 conv => rhs;rw [← h]
 rw [List.take_take]
theorem filter_le {α : Type} {p q : α → Bool} (h : ∀ x,p x = true → q x = true) : ∀ l : List α,(l.filter p).length ≤ (l.filter q).length
|[] => Nat.le_refl _
|a :: r => by
  have ih:=filter_le h r
  rw [List.filter_cons,List.filter_cons]
  by_cases hp : p a = true
  ·rw [if_pos hp,if_pos (h a hp),List.length_cons,List.length_cons];omega
  ·rw [if_neg hp]
   split
   ·rw [List.length_cons];omega
   ·exact ih
def Maj (l : List (List S29)) (P : List S29) : Prop:=l.length < 2 * beg l P
theorem Maj.take {l : List (List S29)} {P : List S29} (h : Maj l P) (n : Nat) : Maj l (P.take n):=by
 have:=filter_le (fun x hx => begins_take (P:=P) (l:=x) hx n) l
 unfold Maj beg at *
 omega
theorem Maj.some {l : List (List S29)} {P : List S29} (h : Maj l P) : ∃ x ∈ l,begins P x = true:=by
 unfold Maj beg at h
 obtain ⟨x,hx⟩:=List.exists_mem_of_length_pos (l:=l.filter (begins P)) (by omega)
 exact ⟨x,(List.mem_filter.1 hx).1,(List.mem_filter.1 hx).2⟩
def Ev {α : Type} (f : Nat → Option α) (r : α) : Prop:=∃ k0,∀ k,k0 ≤ k → f k = some r
theorem Ev.step {α : Type} {f g : Nat → Option α} {r : α} (h : Ev g r) (k1 : Nat) (hs : ∀ k,k1 ≤ k → f (k + 1) = g k) : Ev f r:=by
 obtain ⟨k0,hk⟩:=h
 refine ⟨k0 + k1 + 1,fun k hle => ?_⟩
 obtain ⟨m,rfl⟩ : ∃ m,k = m + 1:=⟨k - 1,by omega⟩
 rw [hs m (by omega)]
 exact hk m (by omega)
theorem Ev.now {α : Type} {f : Nat → Option α} {r : α} (k1 : Nat) (hs : ∀ k,k1 ≤ k → f (k + 1) = some r) : Ev f r :=
 Ev.step (g:=fun _ => some r) ⟨0,fun _ _ => rfl⟩ k1 hs
theorem Ev.same {α : Type} {f g : Nat → Option α} {r : α} (h : Ev g r) (k1 : Nat) (hs : ∀ k,k1 ≤ k → f k = g k) : Ev f r:=by
 obtain ⟨k0,hk⟩:=h
 exact ⟨k0 + k1,fun k hle => by rw [hs k (by omega)];exact hk k (by omega)⟩
theorem Ev.at_ {α : Type} {f : Nat → Option α} {r : α} (h : Ev f r) : ∃ k,f k = some r:=by
 obtain ⟨k0,hk⟩:=h
 exact ⟨k0,hk k0 (Nat.le_refl _)⟩
theorem gapFind_spec : ∀ (u o : List (List Int)) (n m : List Int),gapFind u o = some (n,m) → n ∈ u ∧ m ∈ o ∧ n ≠ m ∧ dig n = dig m
|[],_,_,_,h => by cases h
|_ :: _,[],_,_,h => by cases h
|a :: u,b :: o,n,m,h => by
  rw [gapFind] at h
  split at h
  ·rename_i hc
   injection h with h
   injection h with h1 h2
   subst h1 h2
   exact ⟨List.mem_cons_self,List.mem_cons_self,hc.1,hc.2⟩
  ·obtain ⟨h1,h2,h3⟩:=gapFind_spec u o n m h
   exact ⟨List.mem_cons_of_mem _ h1,List.mem_cons_of_mem _ h2,h3⟩
theorem Stands_own {l : List S29} (hc : checkP l = 0) {a : Nat} (ha : a < l.length) {k : Nat} (hk : 300 ≤ k) : book_Stands.f k l (a : Int) = some (standsP l a,0):=by
 have h64:=check_len hc
 unfold book_Stands.f book_Check.f
 rw [Option.bind_some,hc,if_pos rfl,within_some,Option.bind_some,show wrap64 ((l.length : Int) - 1) = (l.length : Int) - 1 by unfold wrap64;omega,decide_eq_true (show 0 ≤ (a : Int) ∧ (a : Int) ≤ (l.length : Int) - 1 by omega),if_pos rfl,siblings_some ha h64,Option.bind_some]
 rw [at_rounds (g:=fun k => book_twigs.f k l (outsP l.length a).reverse) (fun k => book_twigs.mono _ _ k) hk (stands_some l a h64),Option.bind_some]
section
open Go.Maps (Keyed)
instance : DecidableEq S164:=fun a b =>
 if h : a.f0 = b.f0 ∧ a.f1 = b.f1 then isTrue (by cases a;cases b;simp only [S164.mk.injEq];exact h) else isFalse (fun e => h (by subst e;exact ⟨rfl,rfl⟩))
end
def R127_5.T : Bool × List (List Nat × List Nat):=(true,[([],[]),([],[]),([1],[1]),([2],[2]),([0,0,0],[0]),([3,4,0,1,2,3,4],[3])])
def R127_5.B : List Nat:=[0,0,2,6,1,31]
theorem R127_5.tab : rtab .any (opsOf Try.f127 5) = R127_5.T:=by kernel_rfl
theorem R127_5.bits : waitsOk R127_5.T.2 R127_5.B = true:=by kernel_rfl
def calxref08_twigged.l0 : Nat → List (S129) → Int → Option (Bool)
|0,_,_ => none
|k + 1,x0,x3 => if x3 < (x0.length : Int) then (if 0 ≤ x3 then ((calxref08_isDigest.f ((rd_T129 x0 x3).f2)).bind fun t102 => (if t102 = true then (calxref08_twigged.l0 k x0 (wrap64 (x3 + 1))) else (some false))) else (none)) else (some true)
def calxref08_twigged.f (k : Nat) (l0 : List (S129)) : Option (Bool):=calxref08_twigged.l0 k l0 0
theorem calxref08_twigged.mono_l : ∀ k,(∀ y0 y1,LeO (calxref08_twigged.l0 k y0 y1) (calxref08_twigged.l0 (k + 1) y0 y1))
|0 => fun _ _ r h => by simp [calxref08_twigged.l0] at h
|k + 1 => by
  have ih0:=calxref08_twigged.mono_l k
  ·intro y0 y1
   unfold calxref08_twigged.l0
   repeat' first
  |(with_reducible exact ih0 _ _)
  |(with_reducible exact LeO.refl _)
  |(with_reducible exact LeO.none _)
  |(with_reducible refine LeO.ite ?_ ?_)
  |(with_reducible refine LeO.bind ?_ (fun _ => ?_))
  |exact ih0 _ _
  |exact LeO.none _
  |refine LeO.ite ?_ ?_
  |refine LeO.bind ?_ (fun _ => ?_)
theorem calxref08_twigged.mono : ∀ a0 k,LeO (calxref08_twigged.f k a0) (calxref08_twigged.f (k + 1) a0):=by
 intro a0 k
 have ih0:=calxref08_twigged.mono_l k
 unfold calxref08_twigged.f
 repeat' first
  |(with_reducible exact ih0 _ _)
  |(with_reducible exact LeO.refl _)
  |(with_reducible exact LeO.none _)
  |(with_reducible refine LeO.ite ?_ ?_)
  |(with_reducible refine LeO.bind ?_ (fun _ => ?_))
  |exact ih0 _ _
  |exact LeO.none _
  |refine LeO.ite ?_ ?_
  |refine LeO.bind ?_ (fun _ => ?_)
set_option maxHeartbeats 8000000 in
set_option maxRecDepth 100000 in
theorem calxref08_twigged.calls (k : Nat) (A0 : Option Addr) (c0 : Nat) (l0 : List (S129)) (r : Bool) (w : World) (hr0 : Kd.C k129 w A0 l0.length l0) (hc0 : l0.length ≤ c0) (h : calxref08_twigged.f k l0 = some r) :
  Calls Try.prog 138 #[.slice A0 l0.length c0] w fun e w' => e = .returned (.bool r) ∧ Drawn0 w w':=by
 have HR0:=am hr0
 have HC0:=am hc0
 clear hr0 hc0
 have H : (calxref08_twigged.l0 k l0 0) = some r:=h
 clear h
 have H':=am H
 clear H
 go_enter Try.func138,Try.ntmps138
 go_wp2
 go_loopg [3] k (fun kq v3 w' => ∃ (x3_1 : Int),v3 = .int .i64 x3_1 ∧ Aside0 (calxref08_twigged.l0 kq l0 x3_1 = some r) ∧ Aside0 (kq ≤ k) ∧ Drawn0 w w')
 case atStart => exact ⟨(0),ve,H',⟨Nat.le_refl _⟩,by repeat (first|exact Drawn0.refl _|apply Drawn0.step)⟩
 case round =>
  clear H'
  try clear c1
  obtain ⟨x3_1,rfl,HA,HK1,⟨m1,rfl⟩⟩:=hrel
  cases gk with
 |zero => exact absurd HA.out (by simp [calxref08_twigged.l0])
 |succ k1 =>
   have H:=HA.out
   clear HA
   simp only [calxref08_twigged.l0] at H
   by_cases c2 : x3_1 < (l0.length : Int)
   ·rw [if_pos c2] at H
    have c2b0 : decide (x3_1 < (l0.length : Int)) = true:=decide_eq_true c2
    clear c2
    by_cases c3 : 0 ≤ x3_1
    ·rw [if_pos c3] at H
     have c3b0 : decide (0 ≤ x3_1) = true:=decide_eq_true c3
     clear c3
     replace H:=Option.bind_eq_some_iff.mp H
     obtain ⟨t102,A40,H⟩:=H
     replace H : (if t102 = true then (calxref08_twigged.l0 k1 l0 (wrap64 (x3_1 + 1))) else (some false)) = some r:=H
     have A4:=am A40
     clear A40
     by_cases c5 : t102 = true
     ·subst c5
      have H1 : (calxref08_twigged.l0 k1 l0 (wrap64 (x3_1 + 1))) = some r:=by rw [if_pos rfl] at H;exact H
      clear H
      have H:=H1
      clear H1
      have H':=am H
      clear H
      have p101 : 0 ≤ (x3_1 : Int):=of_decide_eq_true va
      have q101 : x3_1 < (l0.length : Int):=of_decide_eq_true va
      obtain ⟨ad101,e101,hx101_0,hx101_1,hx101_2⟩:=at_T129 HR0.out x3_1 p101 q101
      cases e101
      replace p101:=eq_true p101
      replace q101:=eq_true q101
      go_wp2_with (first|((with_reducible refine gate_callee (f:=104) rfl ?_);refine goesL_ (some 16) rfl rfl Try.func104 kr rfl #[.int .i64 ((rd_T129 l0 x3_1).f2)] rfl (by (try simp only [List.map_toArray,List.map_cons,List.map_nil]);first|done|rfl|(simp only [List.length_drop,List.length_take];rfl)) ?_;(with_reducible refine (calxref08_isDigest.calls ((rd_T129 l0 x3_1).f2) true _ A4.out).mono ?_);rintro e w' ⟨rfl,⟨nd,rfl⟩⟩;refine ⟨_,rfl,?_⟩))
      go_roundg k1
      case measure => have:=HK1.out;omega
      case rel => exact ⟨(wrap64 (x3_1 + 1)),ve,H',⟨by have:=HK1.out;omega⟩,by repeat (first|exact Drawn0.refl _|apply Drawn0.step)⟩
     ·replace c5:=Bool.eq_false_iff.mpr c5
      subst c5
      have H1 : (some false) = some r:=by rw [if_neg (show ¬ (false = true) by decide)] at H;exact H
      clear H
      have H:=H1
      clear H1
      obtain rfl:=Option.some.inj H
      have p101 : 0 ≤ (x3_1 : Int):=of_decide_eq_true va
      have q101 : x3_1 < (l0.length : Int):=of_decide_eq_true va
      obtain ⟨ad101,e101,hx101_0,hx101_1,hx101_2⟩:=at_T129 HR0.out x3_1 p101 q101
      cases e101
      replace p101:=eq_true p101
      replace q101:=eq_true q101
      go_wp2_with (first|((with_reducible refine gate_callee (f:=104) rfl ?_);refine goesL_ (some 16) rfl rfl Try.func104 kr rfl #[.int .i64 ((rd_T129 l0 x3_1).f2)] rfl (by (try simp only [List.map_toArray,List.map_cons,List.map_nil]);first|done|rfl|(simp only [List.length_drop,List.length_take];rfl)) ?_;(with_reducible refine (calxref08_isDigest.calls ((rd_T129 l0 x3_1).f2) false _ A4.out).mono ?_);rintro e w' ⟨rfl,⟨nd,rfl⟩⟩;refine ⟨_,rfl,?_⟩))
      go_ret
      exact ⟨ve,by repeat (first|exact Drawn0.refl _|apply Drawn0.step)⟩
    ·rw [if_neg c3] at H
     exact absurd H (by simp)
   ·rw [if_neg c2] at H
    have c2b0 : decide (x3_1 < (l0.length : Int)) = false:=decide_eq_false c2
    clear c2
    obtain rfl:=Option.some.inj H
    go_wp2
    go_ret
    exact ⟨ve,by repeat (first|exact Drawn0.refl _|apply Drawn0.step)⟩
def calxref08_shaped.l0 : Nat → List (S129) → List (S129) → Int → Option (Bool)
|0,_,_,_ => none
|k + 1,x0,x1,x5 => if x5 < (x0.length : Int) then (if 0 ≤ x5 then (if x5 < (x1.length : Int) then (if ((rd_T129 x0 x5).f0) = ((rd_T129 x1 x5).f0) then (if ((rd_T129 x0 x5).f1) = ((rd_T129 x1 x5).f1) then (calxref08_shaped.l0 k x0 x1 (wrap64 (x5 + 1))) else (some false)) else (some false)) else (none)) else (none)) else (some true)
def calxref08_shaped.f (k : Nat) (l0 : List (S129)) (l1 : List (S129)) : Option (Bool):=if (l0.length : Int) = (l1.length : Int) then (calxref08_shaped.l0 k l0 l1 0) else (some false)
theorem calxref08_shaped.mono_l : ∀ k,(∀ y0 y1 y2,LeO (calxref08_shaped.l0 k y0 y1 y2) (calxref08_shaped.l0 (k + 1) y0 y1 y2))
|0 => fun _ _ _ r h => by simp [calxref08_shaped.l0] at h
|k + 1 => by
  have ih0:=calxref08_shaped.mono_l k
  ·intro y0 y1 y2
   unfold calxref08_shaped.l0
   repeat' first
  |(with_reducible exact ih0 _ _ _)
  |(with_reducible exact LeO.refl _)
  |(with_reducible exact LeO.none _)
  |(with_reducible refine LeO.ite ?_ ?_)
  |(with_reducible refine LeO.bind ?_ (fun _ => ?_))
  |exact ih0 _ _ _
  |exact LeO.none _
  |refine LeO.ite ?_ ?_
  |refine LeO.bind ?_ (fun _ => ?_)
theorem calxref08_shaped.mono : ∀ a0 a1 k,LeO (calxref08_shaped.f k a0 a1) (calxref08_shaped.f (k + 1) a0 a1):=by
 intro a0 a1 k
 have ih0:=calxref08_shaped.mono_l k
 unfold calxref08_shaped.f
 repeat' first
  |(with_reducible exact ih0 _ _ _)
  |(with_reducible exact LeO.refl _)
  |(with_reducible exact LeO.none _)
  |(with_reducible refine LeO.ite ?_ ?_)
  |(with_reducible refine LeO.bind ?_ (fun _ => ?_))
  |exact ih0 _ _ _
  |exact LeO.none _
  |refine LeO.ite ?_ ?_
  |refine LeO.bind ?_ (fun _ => ?_)
set_option maxHeartbeats 8000000 in
set_option maxRecDepth 100000 in
theorem calxref08_shaped.calls (k : Nat) (A0 : Option Addr) (c0 : Nat) (l0 : List (S129)) (A1 : Option Addr) (c1 : Nat) (l1 : List (S129)) (r : Bool) (w : World) (hr0 : Kd.C k129 w A0 l0.length l0) (hc0 : l0.length ≤ c0) (hr1 : Kd.C k129 w A1 l1.length l1) (hc1 : l1.length ≤ c1) (h : calxref08_shaped.f k l0 l1 = some r) :
  Calls Try.prog 139 #[.slice A0 l0.length c0,.slice A1 l1.length c1] w fun e w' => e = .returned (.bool r) ∧ Drawn0 w w':=by
 have HR0:=am hr0
 have HC0:=am hc0
 clear hr0 hc0
 have HR1:=am hr1
 have HC1:=am hc1
 clear hr1 hc1
 have H : (if (l0.length : Int) = (l1.length : Int) then (calxref08_shaped.l0 k l0 l1 0) else (some false)) = some r:=h
 clear h
 by_cases c3 : (l0.length : Int) = (l1.length : Int)
 ·rw [if_pos c3] at H
  have c3b0 : ((l0.length : Int) == (l1.length : Int)) = true:=beq_iff_eq.mpr c3
  have c3b1 : ((l0.length : Int) != (l1.length : Int)) = false:=bne_eq_false_iff_eq.mpr c3
  have c3b2 : (l0.length == l1.length) = true:=by first|simpa using c3|(simp at c3 ⊢;omega)
  clear c3
  have H':=am H
  clear H
  go_enter Try.func139,Try.ntmps139
  go_wp2
  repeat (go_quiet (fail);try go_wp2)
  go_loopg [5] k (fun kq v5 w' => ∃ (x5_1 : Int),v5 = .int .i64 x5_1 ∧ Aside0 (calxref08_shaped.l0 kq l0 l1 x5_1 = some r) ∧ Aside0 (kq ≤ k) ∧ Drawn0 w w')
  case atStart => exact ⟨(0),ve,H',⟨Nat.le_refl _⟩,by repeat (first|exact Drawn0.refl _|apply Drawn0.step)⟩
  case round =>
   clear H'
   try clear c1
   try clear p2
   try clear c3
   try clear c3b0
   try clear c3b1
   try clear c3b2
   obtain ⟨x5_1,rfl,HA,HK1,⟨m1,rfl⟩⟩:=hrel
   cases gk with
  |zero => exact absurd HA.out (by simp [calxref08_shaped.l0])
  |succ k1 =>
    have H:=HA.out
    clear HA
    simp only [calxref08_shaped.l0] at H
    by_cases c4 : x5_1 < (l0.length : Int)
    ·rw [if_pos c4] at H
     have c4b0 : decide (x5_1 < (l0.length : Int)) = true:=decide_eq_true c4
     clear c4
     by_cases c5 : 0 ≤ x5_1
     ·rw [if_pos c5] at H
      have c5b0 : decide (0 ≤ x5_1) = true:=decide_eq_true c5
      clear c5
      by_cases c6 : x5_1 < (l1.length : Int)
      ·rw [if_pos c6] at H
       have c6b0 : decide (x5_1 < (l1.length : Int)) = true:=decide_eq_true c6
       clear c6
       by_cases c7 : ((rd_T129 l0 x5_1).f0) = ((rd_T129 l1 x5_1).f0)
       ·rw [if_pos c7] at H
        have c7b0 : (((rd_T129 l0 x5_1).f0) == ((rd_T129 l1 x5_1).f0)) = true:=beq_iff_eq.mpr c7
        have c7b1 : (((rd_T129 l0 x5_1).f0) != ((rd_T129 l1 x5_1).f0)) = false:=bne_eq_false_iff_eq.mpr c7
        clear c7
        by_cases c8 : ((rd_T129 l0 x5_1).f1) = ((rd_T129 l1 x5_1).f1)
        ·rw [if_pos c8] at H
         have c8b0 : (((rd_T129 l0 x5_1).f1) == ((rd_T129 l1 x5_1).f1)) = true:=beq_iff_eq.mpr c8
         have c8b1 : (((rd_T129 l0 x5_1).f1) != ((rd_T129 l1 x5_1).f1)) = false:=bne_eq_false_iff_eq.mpr c8
         clear c8
         have H':=am H
         clear H
         have p101 : 0 ≤ (x5_1 : Int):=of_decide_eq_true va
         have q101 : x5_1 < (l0.length : Int):=of_decide_eq_true va
         obtain ⟨ad101,e101,hx101_0,hx101_1,hx101_2⟩:=at_T129 HR0.out x5_1 p101 q101
         cases e101
         replace p101:=eq_true p101
         replace q101:=eq_true q101
         have p102 : 0 ≤ (x5_1 : Int):=of_decide_eq_true va
         have q102 : x5_1 < (l1.length : Int):=of_decide_eq_true va
         obtain ⟨ad102,e102,hx102_0,hx102_1,hx102_2⟩:=at_T129 HR1.out x5_1 p102 q102
         cases e102
         replace p102:=eq_true p102
         replace q102:=eq_true q102
         have p103 : 0 ≤ (x5_1 : Int):=of_decide_eq_true va
         have q103 : x5_1 < (l0.length : Int):=of_decide_eq_true va
         obtain ⟨ad103,e103,hx103_0,hx103_1,hx103_2⟩:=at_T129 HR0.out x5_1 p103 q103
         obtain rfl : ad101 = ad103:=(by injection e103)
         replace p103:=eq_true p103
         replace q103:=eq_true q103
         have p104 : 0 ≤ (x5_1 : Int):=of_decide_eq_true va
         have q104 : x5_1 < (l1.length : Int):=of_decide_eq_true va
         obtain ⟨ad104,e104,hx104_0,hx104_1,hx104_2⟩:=at_T129 HR1.out x5_1 p104 q104
         obtain rfl : ad102 = ad104:=(by injection e104)
         replace p104:=eq_true p104
         replace q104:=eq_true q104
         go_wp2
         repeat (go_quiet (fail);try go_wp2)
         go_roundg k1
         case measure => have:=HK1.out;omega
         case rel => exact ⟨(wrap64 (x5_1 + 1)),ve,H',⟨by have:=HK1.out;omega⟩,by repeat (first|exact Drawn0.refl _|apply Drawn0.step)⟩
        ·rw [if_neg c8] at H
         have c8b0 : (((rd_T129 l0 x5_1).f1) == ((rd_T129 l1 x5_1).f1)) = false:=beq_eq_false_iff_ne.mpr c8
         have c8b1 : (((rd_T129 l0 x5_1).f1) != ((rd_T129 l1 x5_1).f1)) = true:=bne_iff_ne.mpr c8
         obtain rfl:=Option.some.inj H
         have p101 : 0 ≤ (x5_1 : Int):=of_decide_eq_true va
         have q101 : x5_1 < (l0.length : Int):=of_decide_eq_true va
         obtain ⟨ad101,e101,hx101_0,hx101_1,hx101_2⟩:=at_T129 HR0.out x5_1 p101 q101
         cases e101
         replace p101:=eq_true p101
         replace q101:=eq_true q101
         have p102 : 0 ≤ (x5_1 : Int):=of_decide_eq_true va
         have q102 : x5_1 < (l1.length : Int):=of_decide_eq_true va
         obtain ⟨ad102,e102,hx102_0,hx102_1,hx102_2⟩:=at_T129 HR1.out x5_1 p102 q102
         cases e102
         replace p102:=eq_true p102
         replace q102:=eq_true q102
         have p103 : 0 ≤ (x5_1 : Int):=of_decide_eq_true va
         have q103 : x5_1 < (l0.length : Int):=of_decide_eq_true va
         obtain ⟨ad103,e103,hx103_0,hx103_1,hx103_2⟩:=at_T129 HR0.out x5_1 p103 q103
         obtain rfl : ad101 = ad103:=(by injection e103)
         replace p103:=eq_true p103
         replace q103:=eq_true q103
         have p104 : 0 ≤ (x5_1 : Int):=of_decide_eq_true va
         have q104 : x5_1 < (l1.length : Int):=of_decide_eq_true va
         obtain ⟨ad104,e104,hx104_0,hx104_1,hx104_2⟩:=at_T129 HR1.out x5_1 p104 q104
         obtain rfl : ad102 = ad104:=(by injection e104)
         replace p104:=eq_true p104
         replace q104:=eq_true q104
         go_wp2
         repeat (go_quiet (fail);try go_wp2)
         go_ret
         exact ⟨ve,by repeat (first|exact Drawn0.refl _|apply Drawn0.step)⟩
       ·rw [if_neg c7] at H
        have c7b0 : (((rd_T129 l0 x5_1).f0) == ((rd_T129 l1 x5_1).f0)) = false:=beq_eq_false_iff_ne.mpr c7
        have c7b1 : (((rd_T129 l0 x5_1).f0) != ((rd_T129 l1 x5_1).f0)) = true:=bne_iff_ne.mpr c7
        obtain rfl:=Option.some.inj H
        have p101 : 0 ≤ (x5_1 : Int):=of_decide_eq_true va
        have q101 : x5_1 < (l0.length : Int):=of_decide_eq_true va
        obtain ⟨ad101,e101,hx101_0,hx101_1,hx101_2⟩:=at_T129 HR0.out x5_1 p101 q101
        cases e101
        replace p101:=eq_true p101
        replace q101:=eq_true q101
        have p102 : 0 ≤ (x5_1 : Int):=of_decide_eq_true va
        have q102 : x5_1 < (l1.length : Int):=of_decide_eq_true va
        obtain ⟨ad102,e102,hx102_0,hx102_1,hx102_2⟩:=at_T129 HR1.out x5_1 p102 q102
        cases e102
        replace p102:=eq_true p102
        replace q102:=eq_true q102
        go_wp2
        repeat (go_quiet (fail);try go_wp2)
        go_ret
        exact ⟨ve,by repeat (first|exact Drawn0.refl _|apply Drawn0.step)⟩
      ·rw [if_neg c6] at H
       exact absurd H (by simp)
     ·rw [if_neg c5] at H
      exact absurd H (by simp)
    ·rw [if_neg c4] at H
     have c4b0 : decide (x5_1 < (l0.length : Int)) = false:=decide_eq_false c4
     clear c4
     obtain rfl:=Option.some.inj H
     go_wp2
     repeat (go_quiet (fail);try go_wp2)
     go_ret
     exact ⟨ve,by repeat (first|exact Drawn0.refl _|apply Drawn0.step)⟩
 ·rw [if_neg c3] at H
  have c3b0 : ((l0.length : Int) == (l1.length : Int)) = false:=beq_eq_false_iff_ne.mpr c3
  have c3b1 : ((l0.length : Int) != (l1.length : Int)) = true:=bne_iff_ne.mpr c3
  have c3b2 : (l0.length == l1.length) = false:=by first|simpa using c3|(simp at c3 ⊢;omega)
  obtain rfl:=Option.some.inj H
  go_enter Try.func139,Try.ntmps139
  go_wp2
  repeat (go_quiet (fail);try go_wp2)
  go_ret
  exact ⟨ve,by repeat (first|exact Drawn0.refl _|apply Drawn0.step)⟩
def placeOf (y : S129) : S164:=⟨y.f0,y.f1⟩
def Cover (ts : List S164) : Nat → Nat → Nat → Prop
|0,f,g => (⟨(f : Int),(g : Int)⟩ : S164) ∈ ts
|n + 1,f,g => (⟨(f : Int),(g : Int)⟩ : S164) ∈ ts ∨ (2 ≤ g ∧ Cover ts n f (halfP g) ∧ Cover ts n (f + halfP g) (g - halfP g))
theorem Cover.one {ts : List S164} {n f g : Nat} (h : (⟨(f : Int),(g : Int)⟩ : S164) ∈ ts) : Cover ts n f g:=by
 cases n with
|zero => exact h
|succ n => exact Or.inl h
theorem rtwig_place (l : List S29) (ts : List S164) : (ts.map (rtwigP l)).map placeOf = ts:=by
 rw [List.map_map]
 conv => rhs;rw [← List.map_id ts]
 exact List.map_congr_left (fun t _ => rfl)
theorem ref_node_any {k : Nat} (hk : 10 ≤ k) (a b c : Int) : calxref08_node.f k a b c = some (dig [1,a,b,c]) :=
 at_rounds (g:=fun k => calxref08_node.f k a b c) (fun k => calxref08_node.mono _ _ _ k) hk (ref_node10 a b c)
def climb1 (a long d : Int) (y : S129) : S190:=if y.f0 ≤ a then ⟨wrap64 (long + y.f1),y.f2,d⟩ else ⟨wrap64 (long + y.f1),d,y.f2⟩
def climbFrom (a : Int) : List S129 → Int → Int → List S190
|[],_,_ => []
|y :: r,long,d => climb1 a long d y :: climbFrom a r (wrap64 (long + y.f1)) (dig [1,(climb1 a long d y).f0,(climb1 a long d y).f1,(climb1 a long d y).f2])
def climbP (l : List S129) (a d : Int) : List S190:=climbFrom a l 1 d
def calxref08_climb.f (l0 : List S129) (a1 : Int) (a2 : Int) : Option (List S190):=if l0.length ≤ 100 then some (climbP l0 a1 a2) else none
theorem climb_wrap {i : Nat} (h : i ≤ 1000) : wrap64 ((i : Int) + 1) = ((i + 1 : Nat) : Int):=by unfold wrap64;omega
theorem climb_less {n j : Nat} (h : j < n) (hn : n ≤ 1000) : n - (intOf (.int .i64 (wrap64 ((j : Int) + 1)))).toNat < n - (intOf (.int .i64 (j : Int))).toNat:=by
 rw [climb_wrap (by omega)]
 show n - ((j + 1 : Nat) : Int).toNat < n - ((j : Nat) : Int).toNat
 rw [Int.toNat_natCast,Int.toNat_natCast]
 omega
theorem climb_new {ops : Array Oper} {rest : List Oper} {o : Oper} {a : Act} {Q : Exit → Act → World → Prop} {w W : World} {v : Value} {out : List S190} (p : S190) (c : Obj) (hgd : o.guard = none) (s x : Operand)
  (ho : o.op = .call { callee:=.builtin .append,args:=#[s,x],argTypes:=#[187,187] }) (hs : a.eval s = v) {n : Nat} (hx : a.eval x = .slice (some ⟨n,0,none⟩) 1 1) (hnn : n = W.heap.size + 1)
  (HB : Below w.heap.size w W) (HR : Kd.R k190 190 W w.heap.size (fun _ => True) v out) (hl : out.length ≤ 100)
  (h : ∀ v1 w3,Kd.R k190 190 w3 w.heap.size (fun _ => True) v1 (out ++ [p]) → Below w.heap.size w w3 → w3.heap[W.heap.size]? = some c → wpList Try.prog ops Q rest (a.put o.dst v1) w3) :
  wpList Try.prog ops Q (o :: rest) a ((W.alloc c).alloc (.cells #[.int .i64 p.f0,.int .i64 p.f1,.int .i64 p.f2] 190)):=by
 subst hnn
 refine Kd.R_append k190 (w0:=w) (W:=W.alloc c) w.heap.size hgd s x 187 190 (.agg #[.int .i64 0,.int .i64 0,.int .i64 0]) 24 ho Try.underlying187 info190 rfl (by decide) (by decide) v out p [.int .i64 p.f0,.int .i64 p.f1,.int .i64 p.f2] (fun _ => True) (fun _ => False) hs (by rw [World.size_alloc];exact hx) (k190_mkM _ _ _ p) (fun _ h => h.elim) (fun _ _ => trivial) (Kd.R_below HR (below_alloc (Below.refl _ _) _)) (below_alloc HB _) (below_size (below_alloc HB _)) (by omega) ?_
 intro v1 w3 hs3 hb3 hg _
 exact h v1 w3 hs3 hb3 (blk_grown (blk_new W c) hg (fun e_ => by have:=((Kd.R_bound HR).1 _ e_.symm).2.2.1;omega))
theorem climb_step {l : List S129} {a long d : Int} {i : Nat} {y : S129} (hy : y = rd_T129 l (i : Int)) (h : i < l.length) : climbFrom a (l.drop i) long d = climb1 a long d y :: climbFrom a (l.drop (i + 1)) (wrap64 (long + y.f1)) (dig [1,(climb1 a long d y).f0,(climb1 a long d y).f1,(climb1 a long d y).f2]):=by
 have hdr : l.drop i = y :: l.drop (i + 1):=by
  rw [List.drop_eq_getElem_cons h,hy]
  unfold rd_T129
  simp [List.getD_eq_getElem?_getD,List.getElem?_eq_getElem h]
 rw [hdr,climbFrom]
set_option maxRecDepth 100000 in
set_option maxHeartbeats 1000000 in
theorem calxref08_climb.calls (A0 : Option Addr) (c0 : Nat) (l0 : List S129) (a1 a2 : Int) (r : List S190) (w : World) (hr0 : Kd.C k129 w A0 l0.length l0) (hc0 : l0.length ≤ c0) (h : calxref08_climb.f l0 a1 a2 = some r) :
  Calls Try.prog 144 #[.slice A0 l0.length c0,.int .i64 a1,.int .i64 a2] w fun e w' => ∃ v_ : Value,e = .returned v_ ∧ Kd.R k190 190 w' w.heap.size (fun _ => True) v_ r ∧ Below w.heap.size w w':=by
 unfold calxref08_climb.f at h
 split at h
 case isFalse => cases h
 rename_i h100
 have HRES:=am (Option.some.inj h)
 clear h
 have HN:=am h100
 have HR0:=am hr0
 have HC0:=am hc0
 clear hr0 hc0 h100
 have hu190:=Try.underlying190
 go_enter Try.func144,Try.ntmps144
 go_wp2
 go_loopw [2,7,8,9] (fun v2 v7 v8 v9 wr => ∃ (i : Nat) (d long : Int) (out : List S190),i ≤ l0.length ∧ v9 = .int .i64 (i : Int) ∧ v8 = .int .i64 long ∧ v2 = .int .i64 d ∧ Aside0 (Below w.heap.size w wr) ∧ Aside0 (Kd.R k190 190 wr w.heap.size (fun _ => True) v7 out) ∧ Aside0 (out.length = i) ∧ Aside0 (out ++ climbFrom a1 (l0.drop i) long d = r)) (fun _ _ _ v9 _ => l0.length - (intOf v9).toNat)
 case atStart => exact ⟨0,a2,1,[],Nat.zero_le _,rfl,rfl,rfl,⟨Below.refl _ _⟩,⟨Kd.R_nil _ _ _ _ _⟩,⟨rfl⟩,⟨by rw [← HRES.out];rfl⟩⟩
 case round =>
  obtain ⟨i,d,long,out,hi,rfl,rfl,rfl,HBr,HO,HOL,HE⟩:=hrel
  obtain ⟨A7,c7,rfl⟩:=Kd.R_slice HO.out
  by_cases hlt : i < l0.length
  ·obtain ⟨ad,e,hx0,hx1,hx2⟩:=at_T129 (Kd.C_below HR0.out HBr.out) (i : Int) (by omega) (by omega)
   cases e
   rw [Int.toNat_natCast] at hx0 hx1 hx2
   obtain ⟨y,hy⟩ : ∃ y,y = rd_T129 l0 (i : Int):=⟨_,rfl⟩
   rw [← hy] at hx0 hx1 hx2
   have z0 : (i : Int) < (l0.length : Int):=by omega
   have HY:=am hy
   clear hy
   have ha0 : ∀ o,(wr.alloc o).cell? (ad.add (i * 3)) = some (.int .i64 y.f0):=fun o => (World.cell?_alloc_lt _ _ _ (wb _ _ hx0)).trans hx0
   have ha1 : ∀ o,(wr.alloc o).cell? ⟨(ad.add (i * 3)).block,(ad.add (i * 3)).off + 1,none⟩ = some (.int .i64 y.f1):=fun o => (World.cell?_alloc_lt _ _ _ (wb _ _ hx1)).trans hx1
   have ha2 : ∀ o,(wr.alloc o).cell? ⟨(ad.add (i * 3)).block,(ad.add (i * 3)).off + 2,none⟩ = some (.int .i64 y.f2):=fun o => (World.cell?_alloc_lt _ _ _ (wb _ _ hx2)).trans hx2
   have hol : out.length ≤ 100:=by have:=HOL.out;have:=HN.out;omega
   by_cases hya : y.f0 ≤ a1
   ·have HC:=am (show climb1 a1 long d y = (⟨wrap64 (long + y.f1),y.f2,d⟩ : S190) from if_pos hya)
    go_wp2_with (first|(at_builtin;refine climb_new (w:=w) (W:=wr) (⟨wrap64 (long + y.f1),y.f2,d⟩ : S190) (.cells #[.int .i64 (wrap64 (long + y.f1)),.int .i64 y.f2,.int .i64 d] 190) rfl _ _ rfl rfl rfl rfl HBr.out HO.out hol ?_;intro v1 w5 hs5 hb5 hk5;have HS5:=am hs5;have HB5:=am hb5;have HK5:=am hk5;clear hs5 hb5 hk5;have k0 : w5.cell? ⟨wr.heap.size,0,none⟩ = some (.int .i64 (wrap64 (long + y.f1))):=(blk_cell HK5.out 0).trans rfl;have k1 : w5.cell? ⟨wr.heap.size,1,none⟩ = some (.int .i64 y.f2):=(blk_cell HK5.out 1).trans rfl;have k2 : w5.cell? ⟨wr.heap.size,2,none⟩ = some (.int .i64 d):=(blk_cell HK5.out 2).trans rfl)|fail)
    refine (calxref08_node.calls 10 _ _ _ _ _ (ref_node10 _ _ _)).mono ?_
    rintro e w6 ⟨rfl,hd⟩
    have HB6:=am (below_then HB5.out (below_size HB5.out) hd)
    have HS6:=am (Kd.R_below HS5.out hd)
    have HEN:=am (show (out ++ [(⟨wrap64 (long + y.f1),y.f2,d⟩ : S190)]) ++ climbFrom a1 (l0.drop (i + 1)) (wrap64 (long + y.f1)) (dig [1,wrap64 (long + y.f1),y.f2,d]) = r by
     rw [← HE.out,climb_step HY.out hlt,HC.out]
     simp)
    clear hd k0 k1 k2
    go_wp2
    go_roundw
    case rel => exact ⟨i + 1,_,_,_,by omega,congrArg _ (climb_wrap (by have:=HN.out;omega)),rfl,rfl,HB6,HS6,⟨by rw [List.length_append,HOL.out,List.length_singleton]⟩,HEN⟩
    case measure => exact climb_less hlt (by have:=HN.out;omega)
   ·have HC:=am (show climb1 a1 long d y = (⟨wrap64 (long + y.f1),d,y.f2⟩ : S190) from if_neg hya)
    have hya2 : a1 < y.f0:=by omega
    go_wp2_with (first|(at_builtin;refine climb_new (w:=w) (W:=wr) (⟨wrap64 (long + y.f1),d,y.f2⟩ : S190) (.cells #[.int .i64 (wrap64 (long + y.f1)),.int .i64 d,.int .i64 y.f2] 190) rfl _ _ rfl rfl rfl rfl HBr.out HO.out hol ?_;intro v1 w5 hs5 hb5 hk5;have HS5:=am hs5;have HB5:=am hb5;have HK5:=am hk5;clear hs5 hb5 hk5;have k0 : w5.cell? ⟨wr.heap.size,0,none⟩ = some (.int .i64 (wrap64 (long + y.f1))):=(blk_cell HK5.out 0).trans rfl;have k1 : w5.cell? ⟨wr.heap.size,1,none⟩ = some (.int .i64 d):=(blk_cell HK5.out 1).trans rfl;have k2 : w5.cell? ⟨wr.heap.size,2,none⟩ = some (.int .i64 y.f2):=(blk_cell HK5.out 2).trans rfl)|fail)
    refine (calxref08_node.calls 10 _ _ _ _ _ (ref_node10 _ _ _)).mono ?_
    rintro e w6 ⟨rfl,hd⟩
    have HB6:=am (below_then HB5.out (below_size HB5.out) hd)
    have HS6:=am (Kd.R_below HS5.out hd)
    have HEN:=am (show (out ++ [(⟨wrap64 (long + y.f1),d,y.f2⟩ : S190)]) ++ climbFrom a1 (l0.drop (i + 1)) (wrap64 (long + y.f1)) (dig [1,wrap64 (long + y.f1),d,y.f2]) = r by
     rw [← HE.out,climb_step HY.out hlt,HC.out]
     simp)
    clear hd k0 k1 k2
    go_wp2
    go_roundw
    case rel => exact ⟨i + 1,_,_,_,by omega,congrArg _ (climb_wrap (by have:=HN.out;omega)),rfl,rfl,HB6,HS6,⟨by rw [List.length_append,HOL.out,List.length_singleton]⟩,HEN⟩
    case measure => exact climb_less hlt (by have:=HN.out;omega)
  ·have hi' : i = l0.length:=by omega
   have HE2:=am (show out = r by rw [← HE.out,hi',List.drop_length,climbFrom,List.append_nil])
   clear hi'
   go_wp2
   go_ret
   have hR:=HO.out
   rw [HE2.out] at hR ⊢
   exact ⟨_,rfl,hR,HBr.out⟩
def calxref08_top.f (k : Nat) (l0 : List (S129)) (a1 : Int) (a2 : Int) : Option (Int):=(calxref08_climb.f l0 a1 a2).bind fun t101 => (if (t101.length : Int) = 0 then (some a2) else (if 0 ≤ (wrap64 ((t101.length : Int) - 1)) then (if (wrap64 ((t101.length : Int) - 1)) < (t101.length : Int) then ((calxref08_node.f k ((rd_T190 t101 (wrap64 ((t101.length : Int) - 1))).f0) ((rd_T190 t101 (wrap64 ((t101.length : Int) - 1))).f1) ((rd_T190 t101 (wrap64 ((t101.length : Int) - 1))).f2)).bind fun t106 => (some t106)) else (none)) else (none)))
theorem calxref08_top.mono : ∀ a0 a1 a2 k,LeO (calxref08_top.f k a0 a1 a2) (calxref08_top.f (k + 1) a0 a1 a2):=by
 intro a0 a1 a2 k
 unfold calxref08_top.f
 repeat' first
  |(with_reducible exact calxref08_node.mono _ _ _ _)
  |(with_reducible exact LeO.refl _)
  |(with_reducible exact LeO.none _)
  |(with_reducible refine LeO.ite ?_ ?_)
  |(with_reducible refine LeO.bind ?_ (fun _ => ?_))
  |exact calxref08_node.mono _ _ _ _
  |exact LeO.none _
  |refine LeO.ite ?_ ?_
  |refine LeO.bind ?_ (fun _ => ?_)
set_option maxHeartbeats 8000000 in
set_option maxRecDepth 100000 in
theorem calxref08_top.calls (k : Nat) (A0 : Option Addr) (c0 : Nat) (l0 : List (S129)) (a1 : Int) (a2 : Int) (r : Int) (w : World) (hr0 : Kd.C k129 w A0 l0.length l0) (hc0 : l0.length ≤ c0) (h : calxref08_top.f k l0 a1 a2 = some r) :
  Calls Try.prog 141 #[.slice A0 l0.length c0,.int .i64 a1,.int .i64 a2] w fun e w' => e = .returned (.int .i64 r) ∧ Below w.heap.size w w':=by
 have hu190:=Try.underlying190
 have HR0:=am hr0
 have HC0:=am hc0
 clear hr0 hc0
 have HB:=am (Below.refl w.heap.size w)
 have H : ((calxref08_climb.f l0 a1 a2).bind fun t101 => (if (t101.length : Int) = 0 then (some a2) else (if 0 ≤ (wrap64 ((t101.length : Int) - 1)) then (if (wrap64 ((t101.length : Int) - 1)) < (t101.length : Int) then ((calxref08_node.f k ((rd_T190 t101 (wrap64 ((t101.length : Int) - 1))).f0) ((rd_T190 t101 (wrap64 ((t101.length : Int) - 1))).f1) ((rd_T190 t101 (wrap64 ((t101.length : Int) - 1))).f2)).bind fun t106 => (some t106)) else (none)) else (none)))) = some r:=h
 clear h
 replace H:=Option.bind_eq_some_iff.mp H
 obtain ⟨t101,A40,H⟩:=H
 replace H : (if (t101.length : Int) = 0 then (some a2) else (if 0 ≤ (wrap64 ((t101.length : Int) - 1)) then (if (wrap64 ((t101.length : Int) - 1)) < (t101.length : Int) then ((calxref08_node.f k ((rd_T190 t101 (wrap64 ((t101.length : Int) - 1))).f0) ((rd_T190 t101 (wrap64 ((t101.length : Int) - 1))).f1) ((rd_T190 t101 (wrap64 ((t101.length : Int) - 1))).f2)).bind fun t106 => (some t106)) else (none)) else (none))) = some r:=H
 have A4:=am A40
 clear A40
 by_cases c5 : (t101.length : Int) = 0
 ·rw [if_pos c5] at H
  have c5b0 : ((t101.length : Int) == 0) = true:=beq_iff_eq.mpr c5
  have c5b1 : ((t101.length : Int) != 0) = false:=bne_eq_false_iff_eq.mpr c5
  clear c5
  obtain rfl:=Option.some.inj H
  go_enter Try.func141,Try.ntmps141
  go_wp2_with (first|((with_reducible refine gate_callee (f:=144) rfl ?_);refine goesL_ (some 12) rfl rfl Try.func144 kr rfl #[.slice A0 l0.length c0,.int .i64 a1,.int .i64 a2] rfl (by (try simp only [List.map_toArray,List.map_cons,List.map_nil]);first|done|rfl|(simp only [List.length_drop,List.length_take];rfl)) ?_;(with_reducible refine (calxref08_climb.calls _ _ l0 a1 a2 t101 _ ?side1 ?side2 A4.out).mono ?_);(case side1 => repeat (first|exact HR0.out|(with_reducible refine Kd.C_alloc ?_ _)|(with_reducible refine Kd.C_drewN ?_ _)|(with_reducible refine Kd.C_drew ?_)));(case side2 => exact HC0.out);rintro e w6 ⟨v102,rfl,ho0,hb⟩;refine ⟨_,rfl,?_⟩;have n0_:=am (Kd.R_lower ho0 (below_size (v0 HB.out)));have n1_:=am (below_step (v0 HB.out) hb);clear HB;have HO103:=n0_;have HB:=n1_;clear n0_ n1_;(try clear hb);(try clear hb2);(try clear hk);(try clear hi);(try clear ho0);obtain ⟨Ao7,co7,eo7⟩:=Kd.R_slice HO103.out;subst eo7))
  go_ret
  exact ⟨vf,v0 HB.out⟩
 ·rw [if_neg c5] at H
  have c5b0 : ((t101.length : Int) == 0) = false:=beq_eq_false_iff_ne.mpr c5
  have c5b1 : ((t101.length : Int) != 0) = true:=bne_iff_ne.mpr c5
  have c5b2 : ¬ (t101 = []):=fun h_ => c5 (by rw [h_];rfl)
  obtain ⟨ji8,hji8⟩ : ∃ j_ : Int,(wrap64 ((t101.length : Int) - 1)) = j_:=⟨_,rfl⟩
  replace H : (if 0 ≤ (ji8) then (if (ji8) < (t101.length : Int) then ((calxref08_node.f k ((rd_T190 t101 (ji8)).f0) ((rd_T190 t101 (ji8)).f1) ((rd_T190 t101 (ji8)).f2)).bind fun t106 => (some t106)) else (none)) else (none)) = some r:=by first|(rw [hji8] at H;exact H)|(simp only [hji8] at H ⊢;exact H)
  (try rw [hji8] at A4)
  have hji8w : (IntKind.i64.wrap ((t101.length : Int) - 1)) = ji8:=(i64_w _).trans hji8
  by_cases c9 : 0 ≤ (ji8)
  ·rw [if_pos c9] at H
   have c9b0 : decide (0 ≤ (ji8)) = true:=decide_eq_true c9
   clear c9
   by_cases c10 : (ji8) < (t101.length : Int)
   ·rw [if_pos c10] at H
    have c10b0 : decide ((ji8) < (t101.length : Int)) = true:=decide_eq_true c10
    clear c10
    replace H:=Option.bind_eq_some_iff.mp H
    obtain ⟨t106,A110,H⟩:=H
    replace H : (some t106) = some r:=H
    have A11:=am A110
    clear A110
    obtain rfl:=Option.some.inj H
    go_enter Try.func141,Try.ntmps141
    go_wp2_with (first|((with_reducible refine gate_callee (f:=144) rfl ?_);refine goesL_ (some 12) rfl rfl Try.func144 kr rfl #[.slice A0 l0.length c0,.int .i64 a1,.int .i64 a2] rfl (by (try simp only [List.map_toArray,List.map_cons,List.map_nil]);first|done|rfl|(simp only [List.length_drop,List.length_take];rfl)) ?_;(with_reducible refine (calxref08_climb.calls _ _ l0 a1 a2 t101 _ ?side1 ?side2 A4.out).mono ?_);(case side1 => repeat (first|exact HR0.out|(with_reducible refine Kd.C_alloc ?_ _)|(with_reducible refine Kd.C_drewN ?_ _)|(with_reducible refine Kd.C_drew ?_)));(case side2 => exact HC0.out);rintro e w12 ⟨v102,rfl,ho0,hb⟩;refine ⟨_,rfl,?_⟩;have n0_:=am (Kd.R_lower ho0 (below_size (v0 HB.out)));have n1_:=am (below_step (v0 HB.out) hb);clear HB;have HO103:=n0_;have HB:=n1_;clear n0_ n1_;(try clear hb);(try clear hb2);(try clear hk);(try clear hi);(try clear ho0);obtain ⟨Ao13,co13,eo13⟩:=Kd.R_slice HO103.out;subst eo13;have p104 : 0 ≤ ((ji8) : Int):=of_decide_eq_true va;have q104 : (ji8) < (t101.length : Int):=of_decide_eq_true va;obtain ⟨ad104,e104,hx104_0,hx104_1,hx104_2⟩:=at_T190 (Kd.R_reads' HO103.out).2.2 (ji8) p104 q104;cases e104;replace p104:=eq_true p104;replace q104:=eq_true q104)|((with_reducible refine gate_dst (N:=8) rfl ?_);refine box_event ?hg (N:=8) ?hd (cs:=#[.int .i64 0,.int .i64 0,.int .i64 0]) (t:=190) ?hr ?_;(case hd => rfl);(case hg => rfl);(case hr => first|(go_simp;done)|(go_simp;rfl));intro gb105 hg w14 hbox hb;have n0_:=am (Kd.R_below (Kd.R_elderB (by (with_reducible repeat (first|apply Kd.R_alloc|apply Kd.R_drewN|apply Kd.R_drew));exact HO103.out) gb105 (Nat.le_of_eq hg.symm)) hb);have n1_:=am (below_step (v0 HB.out) hb);have n2_:=am (hbox);have n3_:=am ((by rw [hg];exact (below_size (v0 HB.out)) : w.heap.size ≤ gb105));have n4_:=am ((by rw [hg];exact (below_size (v0 HB.out)) : w.heap.size ≤ gb105));clear HO103;clear HB;have HO103:=n0_;have HB:=n1_;have BK105:=n2_;have GW105:=n3_;have GE105:=n4_;clear n0_ n1_ n2_ n3_ n4_;clear hb hbox hg;have hcz15_0 : w14.cell? ⟨gb105,0,none⟩ = some (.int .i64 0):=(blk_cell BK105.out 0).trans rfl;have hcz15_1 : w14.cell? ⟨gb105,1,none⟩ = some (.int .i64 0):=(blk_cell BK105.out 1).trans rfl;have hcz15_2 : w14.cell? ⟨gb105,2,none⟩ = some (.int .i64 0):=(blk_cell BK105.out 2).trans rfl;have hfz15_0:=blk_frozen BK105.out 0;have hfz15_1:=blk_frozen BK105.out 1;have hfz15_2:=blk_frozen BK105.out 2)|((with_reducible refine gate_callee (f:=105) rfl ?_);refine goesL_ (some 29) rfl rfl Try.func105 kr rfl #[.int .i64 ((rd_T190 t101 (ji8)).f0),.int .i64 ((rd_T190 t101 (ji8)).f1),.int .i64 ((rd_T190 t101 (ji8)).f2)] rfl (by (try simp only [List.map_toArray,List.map_cons,List.map_nil]);first|done|(simp only [hji8];rfl)|rfl|(simp only [List.length_drop,List.length_take];rfl)) ?_;(with_reducible refine (calxref08_node.calls k ((rd_T190 t101 (ji8)).f0) ((rd_T190 t101 (ji8)).f1) ((rd_T190 t101 (ji8)).f2) t106 _ A11.out).mono ?_);rintro e w16 ⟨rfl,hb⟩;refine ⟨_,rfl,?_⟩;have n0_:=am (Kd.R_below (by (with_reducible repeat (first|apply Kd.R_alloc|apply Kd.R_drewN|apply Kd.R_drew));exact (Kd.R_mono (Kd.R_far (p:=⟨gb105,2,none⟩) (Kd.R_far (p:=⟨gb105,1,none⟩) (Kd.R_far (p:=⟨gb105,0,none⟩) (Kd.R_mono HO103.out (fun k_ hk => (⟨hk,hk.2⟩ : _ ∧ k_ ≠ gb105))) (fun _ hk => hk.2) (.int .i64 ((rd_T190 t101 (ji8)).f0))) (fun _ hk => hk.2) (.int .i64 ((rd_T190 t101 (ji8)).f1))) (fun _ hk => hk.2) (.int .i64 ((rd_T190 t101 (ji8)).f2))) (fun _ h_ => h_.1))) hb);have n1_:=am (blk_below (g:=gb105) (o:=.cells #[.int .i64 ((rd_T190 t101 (ji8)).f0),.int .i64 ((rd_T190 t101 (ji8)).f1),.int .i64 ((rd_T190 t101 (ji8)).f2)] 190 (0,0)) (by (with_reducible repeat (first|refine blk_drewN ?_ _|refine blk_drew ?_|refine blk_alloc ?_ _));refine blk_put (cs:=#[.int .i64 ((rd_T190 t101 (ji8)).f0),.int .i64 ((rd_T190 t101 (ji8)).f1),.int .i64 0]) ?_ 2 _ rfl;(with_reducible repeat (first|refine blk_drewN ?_ _|refine blk_drew ?_|refine blk_alloc ?_ _));refine blk_put (cs:=#[.int .i64 ((rd_T190 t101 (ji8)).f0),.int .i64 0,.int .i64 0]) ?_ 1 _ rfl;(with_reducible repeat (first|refine blk_drewN ?_ _|refine blk_drew ?_|refine blk_alloc ?_ _));refine blk_put (cs:=#[.int .i64 0,.int .i64 0,.int .i64 0]) ?_ 0 _ rfl;(with_reducible repeat (first|refine blk_drewN ?_ _|refine blk_drew ?_|refine blk_alloc ?_ _));exact BK105.out) hb);have n2_:=am (below_step (v1 HB.out GE105.out) hb);clear HO103;clear BK105;clear HB;have HO103:=n0_;have BK105:=n1_;have HB:=n2_;clear n0_ n1_ n2_;(try clear hb);(try clear hb2);(try clear hk);(try clear hi)))
    go_ret
    exact ⟨by first|rfl|(simp [errW_none,errW_some] <;> rfl)|(simp only [← hji8];first|rfl|(simp [errW_none,errW_some] <;> rfl))|(simp [*,errW_none,errW_some] <;> rfl),v1 HB.out GE105.out⟩
   ·rw [if_neg c10] at H
    exact absurd H (by simp)
  ·rw [if_neg c9] at H
   exact absurd H (by simp)
end Go.Proofs.Ytmfphlfakmnbmaa.B
end
