import Derived.Test.YtjjfpmapjjemcaaGreatQ11
import Derived.Test.YtjjfpmapjjemcaaGreatQ16
import Derived.Test.YtjjfpmapjjemcaaGreatQ35
import Derived.Test.YtjjfpmapjjemcaaGreatQ41
import Derived.Test.YtjjfpmapjjemcaaGreatQ44
import Derived.Test.YtjjfpmapjjemcaaGreatQ7
import Derived.Test.YtjjfpmapjjemcaaGreatQ8
set_option linter.unusedVariables false
set_option linter.unusedSimpArgs false
section
namespace Go.Proofs.YtjjfpmapjjemcaaGreat.B
open Go.RowKit Go.Proofs.YtjjfpmapjjemcaaGreatW.PrintWords Go.Proofs.YtjjfpmapjjemcaaGreatW.PrintLast Go.Proofs.YtjjfpmapjjemcaaGreatW.PrintMore
attribute [local go_sem] max2_int min2_int max_two min_two max_three min_three max_four min_four
mutual
def calxlaw04_PitCulprits.j0 : Nat → List (S137) → Bool → List Int → List (S84) → Int → Int → Int → Int → Int → Option (Bool)
|0,_,_,_,_,_,_,_,_,_ => none
|k + 1,x1,x36,x102000,x102001,x103000,x103001,x103002,x104000,x104001 => if x36 = true then ((calxlaw04_sanity.f).bind fun t105 => (some t105)) else ((pit_Culprits.f x102000 x102001 x1).bind fun bt106 => ((pit_Pours.f x102000 x102001).bind fun bt110 => (if bt106.2 = 0 then (if bt110.2 = 0 then ((some (([] : List (S137)) : List (S137))).bind fun y115 => (if y115.length + x1.length < 5864062014805 then ((some (y115 ++ x1 : List (S137))).bind fun y118 => ((some (([(⟨x103000,(⟨x103001,x103002⟩ : S66)⟩ : S137)] : List (S137)) : List (S137))).bind fun y121 => (if y118.length + y121.length < 5864062014805 then ((pit_Culprits.f x102000 x102001 (y118 ++ y121)).bind fun bt127 => (calxlaw04_PitCulprits.l0 k x1 bt106.1 bt127.1 bt127.2 bt110.1 (bt110.1.length : Int) 0 x102000 x102001 x104000 x104001)) else (none)))) else (none))) else (some false)) else ((calxlaw04_sanity.f).bind fun t114 => (some t114)))))
def calxlaw04_PitCulprits.l0 : Nat → List (S137) → List (S139) → List (S139) → Int → List Int → Int → Int → List Int → List (S84) → Int → Int → Option (Bool)
|0,_,_,_,_,_,_,_,_,_,_,_ => none
|k + 1,x1,x9,x13,x14,x65,x66,x67,x102000,x102001,x104000,x104001 => if x67 < x66 then (if 0 ≤ x67 then (if x67 < (x65.length : Int) then ((calxlaw04_blame.f k x9 (rd x65 x67)).bind fun bt133 => ((pit_Clears.f x102000 x102001 x1 (rd x65 x67)).bind fun bt140 => (if bt140.2.2 = 0 then (calxlaw04_PitCulprits.j2 k x1 x9 x13 x14 (rd x65 x67) bt133.2.2.2.2.2 x65 x66 x67 (bt140.2.1 == bt133.2.2.2.2.2) x102000 x102001 x104000 x104001 bt133.1 bt133.2.1 bt133.2.2.1 bt133.2.2.2.1 bt133.2.2.2.2.1) else (calxlaw04_PitCulprits.j2 k x1 x9 x13 x14 (rd x65 x67) bt133.2.2.2.2.2 x65 x66 x67 true x102000 x102001 x104000 x104001 bt133.1 bt133.2.1 bt133.2.2.1 bt133.2.2.2.1 bt133.2.2.2.2.1)))) else (none)) else (none)) else ((calxlaw04_sanity.f).bind fun t131 => (some t131))
def calxlaw04_PitCulprits.j2 : Nat → List (S137) → List (S139) → List (S139) → Int → Int → Bool → List Int → Int → Int → Bool → List Int → List (S84) → Int → Int → Int → Int → Int → Int → Int → Option (Bool)
|0,_,_,_,_,_,_,_,_,_,_,_,_,_,_,_,_,_,_,_ => none
|k + 1,x1,x9,x13,x14,x16,x18,x65,x66,x67,x91,x102000,x102001,x104000,x104001,x140000,x140001,x140002,x140003,x140004 => if x91 = true then (some false) else ((calxlaw04_blame.f k x13 x16).bind fun bt143 => (if x14 = 0 then (if bt143.2.2.2.2.2 = true then (calxlaw04_PitCulprits.j3 k x1 x9 x13 x14 x16 x18 x65 x66 x67 (!x18) x102000 x102001 x104000 x104001 x140000 x140001 x140002 x140003 x140004) else (calxlaw04_PitCulprits.j3 k x1 x9 x13 x14 x16 x18 x65 x66 x67 false x102000 x102001 x104000 x104001 x140000 x140001 x140002 x140003 x140004)) else (calxlaw04_PitCulprits.j3 k x1 x9 x13 x14 x16 x18 x65 x66 x67 false x102000 x102001 x104000 x104001 x140000 x140001 x140002 x140003 x140004)))
def calxlaw04_PitCulprits.j3 : Nat → List (S137) → List (S139) → List (S139) → Int → Int → Bool → List Int → Int → Int → Bool → List Int → List (S84) → Int → Int → Int → Int → Int → Int → Int → Option (Bool)
|0,_,_,_,_,_,_,_,_,_,_,_,_,_,_,_,_,_,_,_ => none
|k + 1,x1,x9,x13,x14,x16,x18,x65,x66,x67,x106,x102000,x102001,x104000,x104001,x140000,x140001,x140002,x140003,x140004 => if x106 = true then (some false) else ((pit_CheckBlame.f x102000 x102001 x1 x16 x104000 x104001).bind fun t150 => (if t150 = 1 then (calxlaw04_PitCulprits.l0 k x1 x9 x13 x14 x65 x66 (wrap64 (x67 + 1)) x102000 x102001 x104000 x104001) else (if x18 = true then ((pit_Compare.f k x140001 x140002 x104000 x104001).bind fun bt151 => ((pit_Compare.f k x104000 x104001 x140003 x140004).bind fun bt153 => (if bt151.2 = 0 then (if bt153.2 = 0 then (if bt151.1 ≤ 0 then (if ((t150 == 0) != (decide (bt153.1 ≤ 0))) = true then (some false) else ((pit_CheckBlame.f x102000 x102001 x1 x16 x140001 x140002).bind fun t155 => (if t155 = 0 then ((pit_CheckBlame.f x102000 x102001 x1 x16 x140003 x140004).bind fun t156 => (if t156 = 0 then (calxlaw04_PitCulprits.l0 k x1 x9 x13 x14 x65 x66 (wrap64 (x67 + 1)) x102000 x102001 x104000 x104001) else (some false))) else (some false)))) else (if ((t150 == 0) != false) = true then (some false) else ((pit_CheckBlame.f x102000 x102001 x1 x16 x140001 x140002).bind fun t157 => (if t157 = 0 then ((pit_CheckBlame.f x102000 x102001 x1 x16 x140003 x140004).bind fun t158 => (if t158 = 0 then (calxlaw04_PitCulprits.l0 k x1 x9 x13 x14 x65 x66 (wrap64 (x67 + 1)) x102000 x102001 x104000 x104001) else (some false))) else (some false))))) else (some false)) else (some false)))) else (if t150 = 8 then (calxlaw04_PitCulprits.l0 k x1 x9 x13 x14 x65 x66 (wrap64 (x67 + 1)) x102000 x102001 x104000 x104001) else (some false)))))
end
def calxlaw04_PitCulprits.f (k : Nat) (l0_0 : List Int) (l0_1 : List (S84)) (l1 : List (S137)) (a2_0 : Int) (a2_1 : Int) (a2_2 : Int) (a3_0 : Int) (a3_1 : Int) : Option (Bool):=(calxlaw04_few.f l0_0 l0_1).bind fun t104 => (if t104 = true then (calxlaw04_PitCulprits.j0 k l1 (decide ((l1.length : Int) > 6)) l0_0 l0_1 a2_0 a2_1 a2_2 a3_0 a3_1) else (calxlaw04_PitCulprits.j0 k l1 true l0_0 l0_1 a2_0 a2_1 a2_2 a3_0 a3_1))
def calxlaw04_PitCulprits.T9 : Bool × List (List Nat × List Nat):=(true,[([],[]),([],[]),([],[]),([1,2],[1,2]),([],[]),([4],[4]),([3,5,3],[3,5]),([0,6,6],[0,6]),([7],[7]),([8],[8]),([8],[8]),([9,7,0,1,2,3,4,5,6,7,8,9],[9]),([10,11,0,1,2,3,4,5,6,7,8,9,10,11],[10])])
def calxlaw04_PitCulprits.B9 : List Nat:=[0,0,0,6,0,16,62,127,255,511,511,1023,4095]
theorem calxlaw04_PitCulprits.tab9 : rtab .any (opsOf Tryz.f14 9) = calxlaw04_PitCulprits.T9:=by kernel_rfl
theorem calxlaw04_PitCulprits.bits9 : waitsOk calxlaw04_PitCulprits.T9.2 calxlaw04_PitCulprits.B9 = true:=by kernel_rfl
set_option maxHeartbeats 8000000 in
set_option maxRecDepth 100000 in
theorem calxlaw04_PitCulprits.calls (k : Nat) (A0_0 : Option Addr) (c0_0 : Nat) (l0_0 : List Int) (A0_1 : Option Addr) (c0_1 : Nat) (l0_1 : List (S84)) (A1 : Option Addr) (c1 : Nat) (l1 : List (S137)) (a2_0 : Int) (a2_1 : Int) (a2_2 : Int) (a3_0 : Int) (a3_1 : Int) (r : Bool) (w : World) (hr0_0 : Kd.C (Kd.int .i64) w A0_0 l0_0.length l0_0) (hc0_0 : l0_0.length ≤ c0_0) (hr0_1 : Kd.C k84 w A0_1 l0_1.length l0_1) (hc0_1 : l0_1.length ≤ c0_1) (hr1 : Kd.C k137 w A1 l1.length l1) (hc1 : l1.length ≤ c1) (h : calxlaw04_PitCulprits.f k l0_0 l0_1 l1 a2_0 a2_1 a2_2 a3_0 a3_1 = some r) (hr : Aside0 (r = true)) :
  Calls Tryz.prog 14 #[.agg #[.slice A0_0 l0_0.length c0_0,.slice A0_1 l0_1.length c0_1],.slice A1 l1.length c1,.agg #[ii a2_0,ii a2_1,ii a2_2],.agg #[ii a3_0,ii a3_1]] w fun e w' => e = .returned (.bool r) ∧ Below w.heap.size w w':=by
 have hu32:=Tryz.underlying32
 have hu137:=Tryz.underlying137
 have hu43:=Tryz.underlying43
 have hu139:=Tryz.underlying139
 have HR0_0:=am hr0_0
 have HC0_0:=am hc0_0
 clear hr0_0 hc0_0
 have HR0_1:=am hr0_1
 have HC0_1:=am hc0_1
 clear hr0_1 hc0_1
 have HR1:=am hr1
 have HC1:=am hc1
 clear hr1 hc1
 have HB:=am (Below.refl w.heap.size w)
 have H : ((calxlaw04_few.f l0_0 l0_1).bind fun t104 => (if t104 = true then (calxlaw04_PitCulprits.j0 k l1 (decide ((l1.length : Int) > 6)) l0_0 l0_1 a2_0 a2_1 a2_2 a3_0 a3_1) else (calxlaw04_PitCulprits.j0 k l1 true l0_0 l0_1 a2_0 a2_1 a2_2 a3_0 a3_1))) = some r:=h
 clear h
 have HC5:=am H
 clear H
 go_enter Tryz.func14,Tryz.ntmps14
 go_upto_region 1 with (first|((with_reducible refine gate_dst (N:=4) rfl ?_);(try (refine gate_guard (by rfl) ?_;dsimp only));refine bE 4 #[.slice A0_0 l0_0.length c0_0,.slice A0_1 l0_1.length c0_1] 32 ?_;intro gb101 hg w6 hbox hb;have BK101:=am (hbox);have GW101:=am (lg hg (below_size (v0 HB.out)) : w.heap.size ≤ gb101);have GE101:=GW101;replace HB:=am (below_step (v0 HB.out) hb);clear hb hbox hg)|((with_reducible refine gate_dst (N:=6) rfl ?_);(try (refine gate_guard (by rfl) ?_;dsimp only));refine bE 6 #[ii a2_0,ii a2_1,ii a2_2] 137 ?_;intro gb102 hg w7 hbox hb;have BK102:=am (hbox);have GW102:=am (lg hg (below_size (v1 HB.out GE101.out)) : w.heap.size ≤ gb102);have GE102:=GW102;have NB101_102:=am (nl hg (vb BK101.out));have NB102_101:=am ((nl hg (vb BK101.out)).symm);replace BK101:=am (blk_below (vb BK101.out) hb);replace HB:=am (below_step (v1 HB.out GE101.out) hb);clear hb hbox hg)|((with_reducible refine gate_dst (N:=7) rfl ?_);(try (refine gate_guard (by rfl) ?_;dsimp only));refine bE 7 #[ii a3_0,ii a3_1] 43 ?_;intro gb103 hg w8 hbox hb;have BK103:=am (hbox);have GW103:=am (lg hg (below_size (v2 HB.out GE101.out GE102.out)) : w.heap.size ≤ gb103);have GE103:=GW103;have NB101_103:=am (nl hg (vb BK101.out));have NB103_101:=am ((nl hg (vb BK101.out)).symm);have NB102_103:=am (nl hg (vb BK102.out));have NB103_102:=am ((nl hg (vb BK102.out)).symm);replace BK101:=am (blk_below (vb BK101.out) hb);replace BK102:=am (blk_below (vb BK102.out) hb);replace HB:=am (below_step (v2 HB.out GE101.out GE102.out) hb);clear hb hbox hg))
 (try simp only [Act.put,List.setIfInBounds_toArray,List.set_cons_zero,List.set_cons_succ])
 go_cut [36] (fun v36 wc => ∃ (kq : Nat) (x36_4 : Bool),v36 = .bool x36_4 ∧ Aside0 (calxlaw04_PitCulprits.j0 kq l1 x36_4 l0_0 l0_1 a2_0 a2_1 a2_2 a3_0 a3_1 = some r) ∧ Aside0 (kq ≤ k) ∧ Aside0 (wc.heap[gb101]? = some (.cells #[(.slice A0_0 l0_0.length c0_0),(.slice A0_1 l0_1.length c0_1)] 32 (0,0))) ∧ Aside0 (wc.heap[gb102]? = some (.cells #[ii a2_0,ii a2_1,ii a2_2] 137 (0,0))) ∧ Aside0 (wc.heap[gb103]? = some (.cells #[ii a3_0,ii a3_1] 43 (0,0))) ∧ Aside0 (Below w.heap.size w wc))
 case first =>
  have H:=HC5.out
  clear HC5
  replace H:=Option.bind_eq_some_iff.mp H
  obtain ⟨t104,A90,H⟩:=H
  replace H : (if t104 = true then (calxlaw04_PitCulprits.j0 k l1 (decide ((l1.length : Int) > 6)) l0_0 l0_1 a2_0 a2_1 a2_2 a3_0 a3_1) else (calxlaw04_PitCulprits.j0 k l1 true l0_0 l0_1 a2_0 a2_1 a2_2 a3_0 a3_1)) = some r:=H
  have A9:=am A90
  clear A90
  by_cases c10 : t104 = true
  ·subst c10
   have H1 : (calxlaw04_PitCulprits.j0 k l1 (decide ((l1.length : Int) > 6)) l0_0 l0_1 a2_0 a2_1 a2_2 a3_0 a3_1) = some r:=by rw [if_pos rfl] at H;exact H
   clear H
   have H:=H1
   clear H1
   have H':=am H
   clear H
   have hnb11:=NB101_102.out
   have hnc11:=NB102_101.out
   have hnb12:=NB101_103.out
   have hnc12:=NB103_101.out
   have hcz13_0:=bd BK101.out 0
   have hcz13_1:=bd BK101.out 1
   have hfz13_0:=blk_frozen BK101.out 0
   have hfz13_1:=blk_frozen BK101.out 1
   go_wp2_with (first|((with_reducible refine g_ ?_);refine cE (some 30) Tryz.func26 #[.agg #[.slice A0_0 l0_0.length c0_0,.slice A0_1 l0_1.length c0_1]] ?_;(with_reducible refine (calxlaw04_few.calls _ _ l0_0 _ _ l0_1 true _ ?side1 ?side2 ?side3 ?side4 A9.out).mono ?_);(case side1 => repeat (first|exact (Kd.C_below HR0_0.out HB.out)|(with_reducible refine Kd.C_alloc ?_ _)|(with_reducible refine Kd.C_drewN ?_ _)|(with_reducible refine Kd.C_drew ?_)));(case side2 => exact HC0_0.out);(case side3 => repeat (first|exact (Kd.C_below HR0_1.out HB.out)|(with_reducible refine Kd.C_alloc ?_ _)|(with_reducible refine Kd.C_drewN ?_ _)|(with_reducible refine Kd.C_drew ?_)));(case side4 => exact HC0_1.out);rintro e w14 ⟨rfl,hb⟩;refine ⟨_,rfl,?_⟩;replace BK101:=am (blk_below (vb BK101.out) hb);replace BK102:=am (blk_below (vb BK102.out) hb);replace BK103:=am (blk_below (vb BK103.out) hb);replace HB:=am (below_step (v3 HB.out GE101.out GE102.out GE103.out) hb);(try clear hb);(try clear hb2);(try clear hk);(try clear hi)))
   go_meet
   case rel => exact ⟨_,(decide ((l1.length : Int) > 6)),ve,H',⟨by first|omega|exact Nat.le_refl _⟩,⟨vb BK101.out⟩,⟨vb BK102.out⟩,⟨vb BK103.out⟩,⟨v3 HB.out GE101.out GE102.out GE103.out⟩⟩
  ·replace c10:=Bool.eq_false_iff.mpr c10
   subst c10
   have H1 : (calxlaw04_PitCulprits.j0 k l1 true l0_0 l0_1 a2_0 a2_1 a2_2 a3_0 a3_1) = some r:=by rw [if_neg (show ¬ (false = true) by decide)] at H;exact H
   clear H
   have H:=H1
   clear H1
   have H':=am H
   clear H
   have hnb15:=NB101_102.out
   have hnc15:=NB102_101.out
   have hnb16:=NB101_103.out
   have hnc16:=NB103_101.out
   have hcz17_0:=bd BK101.out 0
   have hcz17_1:=bd BK101.out 1
   have hfz17_0:=blk_frozen BK101.out 0
   have hfz17_1:=blk_frozen BK101.out 1
   go_wp2_with (first|((with_reducible refine g_ ?_);refine cE (some 30) Tryz.func26 #[.agg #[.slice A0_0 l0_0.length c0_0,.slice A0_1 l0_1.length c0_1]] ?_;(with_reducible refine (calxlaw04_few.calls _ _ l0_0 _ _ l0_1 false _ ?side1 ?side2 ?side3 ?side4 A9.out).mono ?_);(case side1 => repeat (first|exact (Kd.C_below HR0_0.out HB.out)|(with_reducible refine Kd.C_alloc ?_ _)|(with_reducible refine Kd.C_drewN ?_ _)|(with_reducible refine Kd.C_drew ?_)));(case side2 => exact HC0_0.out);(case side3 => repeat (first|exact (Kd.C_below HR0_1.out HB.out)|(with_reducible refine Kd.C_alloc ?_ _)|(with_reducible refine Kd.C_drewN ?_ _)|(with_reducible refine Kd.C_drew ?_)));(case side4 => exact HC0_1.out);rintro e w18 ⟨rfl,hb⟩;refine ⟨_,rfl,?_⟩;replace BK101:=am (blk_below (vb BK101.out) hb);replace BK102:=am (blk_below (vb BK102.out) hb);replace BK103:=am (blk_below (vb BK103.out) hb);replace HB:=am (below_step (v3 HB.out GE101.out GE102.out GE103.out) hb);(try clear hb);(try clear hb2);(try clear hk);(try clear hi)))
   go_meet
   case rel => exact ⟨_,(true),ve,H',⟨by first|omega|exact Nat.le_refl _⟩,⟨vb BK101.out⟩,⟨vb BK102.out⟩,⟨vb BK103.out⟩,⟨v3 HB.out GE101.out GE102.out GE103.out⟩⟩
 case rest =>
  clear HC5
  try clear c1;try clear c2;try clear p2;try clear c10;try clear c11;try clear c12;try clear c14;try clear c15;try clear c16;try clear hcz13_0;try clear hcz13_1;try clear hcz17_0;try clear hcz17_1;try clear hfz13_0;try clear hfz13_1;try clear hfz17_0;try clear hfz17_1
  obtain ⟨kq,x36_4,rfl,HA,HJ4,BK101,BK102,BK103,HB⟩:=hcut
  cases kq with
 |zero => exact absurd HA.out (by simp [calxlaw04_PitCulprits.j0])
 |succ kj4 =>
   have H:=HA.out
   clear HA
   simp only [calxlaw04_PitCulprits.j0] at H
   by_cases c19 : x36_4 = true
   ·subst c19
    have H1 : ((calxlaw04_sanity.f).bind fun t105 => (some t105)) = some r:=by rw [if_pos rfl] at H;exact H
    clear H
    have H:=H1
    clear H1
    replace H:=Option.bind_eq_some_iff.mp H
    obtain ⟨t105,A200,H⟩:=H
    replace H : (some t105) = some r:=H
    have A20:=am A200
    clear A200
    obtain rfl:=Option.some.inj H
    go_wp2_with (first|((with_reducible refine g_ ?_);refine cE (some 37) Tryz.func27 #[] ?_;(with_reducible refine (calxlaw04_sanity.calls  t105 _ A20.out).mono ?_);rintro e w21 ⟨rfl,hb⟩;refine ⟨_,rfl,?_⟩;replace BK101:=am (blk_below (vb BK101.out) hb);replace BK102:=am (blk_below (vb BK102.out) hb);replace BK103:=am (blk_below (vb BK103.out) hb);replace HB:=am (below_step (v3 HB.out GE101.out GE102.out GE103.out) hb);(try clear hb);(try clear hb2);(try clear hk);(try clear hi)))
    go_ret
    exact ⟨vf,v3 HB.out GE101.out GE102.out GE103.out⟩
   ·replace c19:=Bool.eq_false_iff.mpr c19
    subst c19
    have H1 : ((pit_Culprits.f l0_0 l0_1 l1).bind fun bt106 => ((pit_Pours.f l0_0 l0_1).bind fun bt110 => (if bt106.2 = 0 then (if bt110.2 = 0 then ((some (([] : List (S137)) : List (S137))).bind fun y115 => (if y115.length + l1.length < 5864062014805 then ((some (y115 ++ l1 : List (S137))).bind fun y118 => ((some (([(⟨a2_0,(⟨a2_1,a2_2⟩ : S66)⟩ : S137)] : List (S137)) : List (S137))).bind fun y121 => (if y118.length + y121.length < 5864062014805 then ((pit_Culprits.f l0_0 l0_1 (y118 ++ y121)).bind fun bt127 => (calxlaw04_PitCulprits.l0 kj4 l1 bt106.1 bt127.1 bt127.2 bt110.1 (bt110.1.length : Int) 0 l0_0 l0_1 a3_0 a3_1)) else (none)))) else (none))) else (some false)) else ((calxlaw04_sanity.f).bind fun t114 => (some t114))))) = some r:=by rw [if_neg (show ¬ (false = true) by decide)] at H;exact H
    clear H
    have H:=H1
    clear H1
    replace H:=Option.bind_eq_some_iff.mp H
    obtain ⟨⟨t106,t109⟩,A220,H⟩:=H
    replace H : ((pit_Pours.f l0_0 l0_1).bind fun bt110 => (if t109 = 0 then (if bt110.2 = 0 then ((some (([] : List (S137)) : List (S137))).bind fun y115 => (if y115.length + l1.length < 5864062014805 then ((some (y115 ++ l1 : List (S137))).bind fun y118 => ((some (([(⟨a2_0,(⟨a2_1,a2_2⟩ : S66)⟩ : S137)] : List (S137)) : List (S137))).bind fun y121 => (if y118.length + y121.length < 5864062014805 then ((pit_Culprits.f l0_0 l0_1 (y118 ++ y121)).bind fun bt127 => (calxlaw04_PitCulprits.l0 kj4 l1 t106 bt127.1 bt127.2 bt110.1 (bt110.1.length : Int) 0 l0_0 l0_1 a3_0 a3_1)) else (none)))) else (none))) else (some false)) else ((calxlaw04_sanity.f).bind fun t114 => (some t114)))) = some r:=H
    have A22:=am A220
    clear A220
    replace H:=Option.bind_eq_some_iff.mp H
    obtain ⟨⟨t110,t113⟩,A230,H⟩:=H
    replace H : (if t109 = 0 then (if t113 = 0 then ((some (([] : List (S137)) : List (S137))).bind fun y115 => (if y115.length + l1.length < 5864062014805 then ((some (y115 ++ l1 : List (S137))).bind fun y118 => ((some (([(⟨a2_0,(⟨a2_1,a2_2⟩ : S66)⟩ : S137)] : List (S137)) : List (S137))).bind fun y121 => (if y118.length + y121.length < 5864062014805 then ((pit_Culprits.f l0_0 l0_1 (y118 ++ y121)).bind fun bt127 => (calxlaw04_PitCulprits.l0 kj4 l1 t106 bt127.1 bt127.2 t110 (t110.length : Int) 0 l0_0 l0_1 a3_0 a3_1)) else (none)))) else (none))) else (some false)) else ((calxlaw04_sanity.f).bind fun t114 => (some t114))) = some r:=H
    have A23:=am A230
    clear A230
    by_cases c24 : t109 = 0
    ·rw [if_pos c24] at H
     have c24b0 : (t109 == 0) = true:=beq_iff_eq.mpr c24
     have c24b1 : (t109 != 0) = false:=bne_eq_false_iff_eq.mpr c24
     clear c24
     by_cases c25 : t113 = 0
     ·rw [if_pos c25] at H
      have c25b0 : (t113 == 0) = true:=beq_iff_eq.mpr c25
      have c25b1 : (t113 != 0) = false:=bne_eq_false_iff_eq.mpr c25
      clear c25
      obtain ⟨y115,hy115⟩ : ∃ y_ : List (S137),y_ = (([] : List (S137))):=⟨_,rfl⟩
      replace H : (if y115.length + l1.length < 5864062014805 then ((some (y115 ++ l1 : List (S137))).bind fun y118 => ((some (([(⟨a2_0,(⟨a2_1,a2_2⟩ : S66)⟩ : S137)] : List (S137)) : List (S137))).bind fun y121 => (if y118.length + y121.length < 5864062014805 then ((pit_Culprits.f l0_0 l0_1 (y118 ++ y121)).bind fun bt127 => (calxlaw04_PitCulprits.l0 kj4 l1 t106 bt127.1 bt127.2 t110 (t110.length : Int) 0 l0_0 l0_1 a3_0 a3_1)) else (none)))) else (none)) = some r:=by first|(rw [hy115];with_reducible exact H)|(have H2_:=(Option.bind_some _ _).symm.trans H;rw [hy115];with_reducible exact H2_)|(have H2_:=(Option.bind_some _ _).symm.trans H;with_reducible exact H2_)|with_reducible exact H|(rw [hy115];exact H)|exact H
      have Ny115:=am hy115
      clear hy115
      by_cases c26 : y115.length + l1.length < 5864062014805
      ·rw [if_pos c26] at H
       have LMc26:=am c26
       clear c26
       obtain ⟨y118,hy118⟩ : ∃ y_ : List (S137),y_ = (y115 ++ l1):=⟨_,rfl⟩
       replace H : ((some (([(⟨a2_0,(⟨a2_1,a2_2⟩ : S66)⟩ : S137)] : List (S137)) : List (S137))).bind fun y121 => (if y118.length + y121.length < 5864062014805 then ((pit_Culprits.f l0_0 l0_1 (y118 ++ y121)).bind fun bt127 => (calxlaw04_PitCulprits.l0 kj4 l1 t106 bt127.1 bt127.2 t110 (t110.length : Int) 0 l0_0 l0_1 a3_0 a3_1)) else (none))) = some r:=by first|(rw [hy118];with_reducible exact H)|(have H2_:=(Option.bind_some _ _).symm.trans H;rw [hy118];with_reducible exact H2_)|(have H2_:=(Option.bind_some _ _).symm.trans H;with_reducible exact H2_)|with_reducible exact H|(rw [hy118];exact H)|exact H
       have Ny118:=am hy118
       clear hy118
       obtain ⟨y121,hy121⟩ : ∃ y_ : List (S137),y_ = (([(⟨a2_0,(⟨a2_1,a2_2⟩ : S66)⟩ : S137)] : List (S137))):=⟨_,rfl⟩
       replace H : (if y118.length + y121.length < 5864062014805 then ((pit_Culprits.f l0_0 l0_1 (y118 ++ y121)).bind fun bt127 => (calxlaw04_PitCulprits.l0 kj4 l1 t106 bt127.1 bt127.2 t110 (t110.length : Int) 0 l0_0 l0_1 a3_0 a3_1)) else (none)) = some r:=by first|(rw [hy121];with_reducible exact H)|(have H2_:=(Option.bind_some _ _).symm.trans H;rw [hy121];with_reducible exact H2_)|(have H2_:=(Option.bind_some _ _).symm.trans H;with_reducible exact H2_)|with_reducible exact H|(rw [hy121];exact H)|exact H
       have Ny121:=am hy121
       clear hy121
       by_cases c27 : y118.length + y121.length < 5864062014805
       ·rw [if_pos c27] at H
        have LMc27:=am c27
        clear c27
        obtain ⟨y124,hy124⟩ : ∃ y_ : List (S137),y_ = (y118 ++ y121):=⟨_,rfl⟩
        replace H : ((pit_Culprits.f l0_0 l0_1 y124).bind fun bt127 => (calxlaw04_PitCulprits.l0 kj4 l1 t106 bt127.1 bt127.2 t110 (t110.length : Int) 0 l0_0 l0_1 a3_0 a3_1)) = some r:=by first|(rw [hy124];with_reducible exact H)|(have H2_:=(Option.bind_some _ _).symm.trans H;rw [hy124];with_reducible exact H2_)|(have H2_:=(Option.bind_some _ _).symm.trans H;with_reducible exact H2_)|with_reducible exact H|(rw [hy124];exact H)|exact H
        have Ny124:=am hy124
        clear hy124
        replace H:=Option.bind_eq_some_iff.mp H
        obtain ⟨⟨t127,t130⟩,A280,H⟩:=H
        replace H : (calxlaw04_PitCulprits.l0 kj4 l1 t106 t127 t130 t110 (t110.length : Int) 0 l0_0 l0_1 a3_0 a3_1) = some r:=H
        have A28:=am A280
        clear A280
        have H':=am H
        clear H
        have hnb29:=NB101_102.out
        have hnc29:=NB102_101.out
        have hnb30:=NB101_103.out
        have hnc30:=NB103_101.out
        have hcz31_0:=bd BK101.out 0
        have hcz31_1:=bd BK101.out 1
        have hfz31_0:=blk_frozen BK101.out 0
        have hfz31_1:=blk_frozen BK101.out 1
        try go_wp2_with (first|((with_reducible refine g_ ?_);refine cE (some 41) Tryz.func56 #[.agg #[.slice A0_0 l0_0.length c0_0,.slice A0_1 l0_1.length c0_1],.slice A1 l1.length c1] ?_;(with_reducible refine (pit_Culprits.calls _ _ l0_0 _ _ l0_1 _ _ l1 t106 t109 _ ?side1 ?side2 ?side3 ?side4 ?side5 ?side6 A22.out).mono ?_);(case side1 => repeat (first|exact (Kd.C_below HR0_0.out HB.out)|(with_reducible refine Kd.C_alloc ?_ _)|(with_reducible refine Kd.C_drewN ?_ _)|(with_reducible refine Kd.C_drew ?_)));(case side2 => exact HC0_0.out);(case side3 => repeat (first|exact (Kd.C_below HR0_1.out HB.out)|(with_reducible refine Kd.C_alloc ?_ _)|(with_reducible refine Kd.C_drewN ?_ _)|(with_reducible refine Kd.C_drew ?_)));(case side4 => exact HC0_1.out);(case side5 => repeat (first|exact (Kd.C_below HR1.out HB.out)|(with_reducible refine Kd.C_alloc ?_ _)|(with_reducible refine Kd.C_drewN ?_ _)|(with_reducible refine Kd.C_drew ?_)));(case side6 => exact HC1.out);rintro e w32 ⟨v107,rfl,ho0,hb⟩;refine ⟨_,rfl,?_⟩;have HO108:=am (Kd.V_lower (Kd.V_mono (ok':=fun k_ => k_ ≠ gb101 ∧ k_ ≠ gb102 ∧ k_ ≠ gb103) ho0 (fun k_ hk_ => ⟨(Kd.freshB (g:=gb101) (o:=.cells #[.slice A0_0 l0_0.length c0_0,.slice A0_1 l0_1.length c0_1] 32 (0,0)) (vb BK101.out) k_ hk_),(Kd.freshB (g:=gb102) (o:=.cells #[ii a2_0,ii a2_1,ii a2_2] 137 (0,0)) (vb BK102.out) k_ hk_),(Kd.freshB (g:=gb103) (o:=.cells #[ii a3_0,ii a3_1] 43 (0,0)) (vb BK103.out) k_ hk_)⟩)) (below_size (v3 HB.out GE101.out GE102.out GE103.out)));replace BK101:=am (blk_below (vb BK101.out) hb);replace BK102:=am (blk_below (vb BK102.out) hb);replace BK103:=am (blk_below (vb BK103.out) hb);replace HB:=am (below_step (v3 HB.out GE101.out GE102.out GE103.out) hb);(try clear hb);(try clear hb2);(try clear hk);(try clear hi);(try clear ho0);have hcz33_0:=bd BK101.out 0;have hcz33_1:=bd BK101.out 1;have hfz33_0:=blk_frozen BK101.out 0;have hfz33_1:=blk_frozen BK101.out 1)|((with_reducible refine g_ ?_);refine cE (some 46) Tryz.func19 #[.agg #[.slice A0_0 l0_0.length c0_0,.slice A0_1 l0_1.length c0_1]] ?_;(with_reducible refine (pit_Pours.calls _ _ l0_0 _ _ l0_1 t110 t113 _ ?side1 ?side2 ?side3 ?side4 A23.out).mono ?_);(case side1 => repeat (first|exact (Kd.C_below HR0_0.out HB.out)|(with_reducible refine Kd.C_alloc ?_ _)|(with_reducible refine Kd.C_drewN ?_ _)|(with_reducible refine Kd.C_drew ?_)));(case side2 => exact HC0_0.out);(case side3 => repeat (first|exact (Kd.C_below HR0_1.out HB.out)|(with_reducible refine Kd.C_alloc ?_ _)|(with_reducible refine Kd.C_drewN ?_ _)|(with_reducible refine Kd.C_drew ?_)));(case side4 => exact HC0_1.out);rintro e w34 ⟨v111,rfl,ho0,hb⟩;refine ⟨_,rfl,?_⟩;have HO112:=am (Kd.V_lower (Kd.V_mono (ok':=fun k_ => k_ ≠ gb101 ∧ k_ ≠ gb102 ∧ k_ ≠ gb103) ho0 (fun k_ hk_ => ⟨(Kd.freshB (g:=gb101) (o:=.cells #[.slice A0_0 l0_0.length c0_0,.slice A0_1 l0_1.length c0_1] 32 (0,0)) (vb BK101.out) k_ hk_),(Kd.freshB (g:=gb102) (o:=.cells #[ii a2_0,ii a2_1,ii a2_2] 137 (0,0)) (vb BK102.out) k_ hk_),(Kd.freshB (g:=gb103) (o:=.cells #[ii a3_0,ii a3_1] 43 (0,0)) (vb BK103.out) k_ hk_)⟩)) (below_size (v3 HB.out GE101.out GE102.out GE103.out)));replace HO108:=am (Kd.V_below (wV HO108.out) hb);replace BK101:=am (blk_below (vb BK101.out) hb);replace BK102:=am (blk_below (vb BK102.out) hb);replace BK103:=am (blk_below (vb BK103.out) hb);replace HB:=am (below_step (v3 HB.out GE101.out GE102.out GE103.out) hb);(try clear hb);(try clear hb2);(try clear hk);(try clear hi);(try clear ho0)))
        replace HO108:=am (Kd.V_drew HO108.out)
        replace HO112:=am (Kd.V_drew HO112.out)
        replace BK101:=am (blk_drew BK101.out)
        replace BK102:=am (blk_drew BK102.out)
        replace BK103:=am (blk_drew BK103.out)
        replace HB:=am (below_drew1 HB.out)
        refine start_ (n:=13) (S:=fun w' => w'.cell? ⟨gb101,0,none⟩ = some (.slice A0_0 l0_0.length c0_0) ∧ w'.cell? ⟨gb101,1,none⟩ = some (.slice A0_1 l0_1.length c0_1) ∧ w'.cell? ⟨gb102,0,none⟩ = some (ii a2_0) ∧ w'.cell? ⟨gb102,1,none⟩ = some (ii a2_1) ∧ w'.cell? ⟨gb102,2,none⟩ = some (ii a2_2)) (ds:=[]) (ab 13 0) kr rfl kr ⟨(blk_cell BK101.out 0).trans rfl,(blk_cell BK101.out 1).trans rfl,(blk_cell BK102.out 0).trans rfl,(blk_cell BK102.out 1).trans rfl,(blk_cell BK102.out 2).trans rfl⟩ (fun hHeld => ?_);refine with_tabW calxlaw04_PitCulprits.tab9 calxlaw04_PitCulprits.bits9 (fun HT_ HW_ => ?_)
        generalize w34.drew = w35 at HO108 HO112 BK101 BK102 BK103 HB hHeld ⊢
        refine qA 2 (some 57) ?_;refine qT 0 (some 55) ?_;refine qT 4 (some 59) ?_
        refine join_ (σ:=Value × Value × Value) 7 (ab 13 63) (fun s_ => [(56,s_.1),(58,s_.2.1),(60,s_.2.2)]) (fun s_ w' => (w'.cell? ⟨gb101,0,none⟩ = some (.slice A0_0 l0_0.length c0_0) ∧ w'.cell? ⟨gb101,1,none⟩ = some (.slice A0_1 l0_1.length c0_1) ∧ w'.cell? ⟨gb102,0,none⟩ = some (ii a2_0) ∧ w'.cell? ⟨gb102,1,none⟩ = some (ii a2_1) ∧ w'.cell? ⟨gb102,2,none⟩ = some (ii a2_2)) ∧ (Kd.V k139 139 w' w.heap.size (fun k_ => some k_ ≠ (s_.2.1 : Value).ownBlock ∧ some k_ ≠ (s_.2.2 : Value).ownBlock ∧ k_ ≠ gb101 ∧ k_ ≠ gb102 ∧ k_ ≠ gb103) v107 t106) ∧ (Kd.V (Kd.int .i64) 3 w' w.heap.size (fun k_ => some k_ ≠ (s_.2.1 : Value).ownBlock ∧ some k_ ≠ (s_.2.2 : Value).ownBlock ∧ k_ ≠ gb101 ∧ k_ ≠ gb102 ∧ k_ ≠ gb103) v111 t110) ∧ (Kd.R k137 137 w' w.heap.size (fun k_ => some k_ ≠ (s_.2.2 : Value).ownBlock ∧ k_ ≠ gb102) s_.2.1 y118) ∧ (Kd.R k137 137 w' w.heap.size (fun k_ => some k_ ≠ (s_.2.1 : Value).ownBlock ∧ k_ ≠ gb102) s_.2.2 y121) ∧ (w'.heap[gb101]? = some (.cells #[.slice A0_0 l0_0.length c0_0,.slice A0_1 l0_1.length c0_1] 32 (0,0))) ∧ (w'.heap[gb102]? = some (.cells #[ii a2_0,ii a2_1,ii a2_2] 137 (0,0))) ∧ (w'.heap[gb103]? = some (.cells #[ii a3_0,ii a3_1] 43 (0,0))) ∧ (Below w.heap.size w w')) ?_ ?_
        rotate_left
        ·intro hCont
         refine two_ (i:=1) (j:=5) (Ni:=some 56) (Nj:=some 60) (ab 13 23) (ab 13 53) rfl rfl rfl rfl (two_of HT_.out kr) (by decide) (by decide) (fun K hK => ?_) (fun K hK => ?_)
         ·skip
          refine Kd.R_lit_step k137 _ 137 ?hg (N:=56) ?hd (xs:=([] : List (S137))) (inner:=[]) (ok:=fun _ => True) (okp:=fun _ => True) ?hr ?hp (fun _ hk => hk) trivial (Below.refl _ _) (Nat.le_refl _) (by simp) ?_;(case hd => rfl);(case hg => rfl);(case hr => first|(go_simp;done)|(go_simp;rfl));(case hp => exact (Reps.none _ _))
          intro v116 w36 ho37 hb hg_ hnew_
          clear hg_ hnew_
          (first|rw [← Ny115.out] at ho37|(simp only [Int.reduceToNat] at ho37;rw [← Ny115.out] at ho37))
          have HO117:=am (Kd.R_lower (Kd.R_newB ho37 (g:=gb102) (o:=.cells #[ii a2_0,ii a2_1,ii a2_2] 137 (0,0)) (vb BK102.out)) (below_size (v3 HB.out GE101.out GE102.out GE103.out)))
          replace HO108:=am (Kd.V_elder' (wV HO108.out) (Kd.R_base ho37) hb)
          replace HO112:=am (Kd.V_elder' (wV HO112.out) (Kd.R_base ho37) hb)
          replace BK101:=am (blk_below (vb BK101.out) hb)
          replace BK102:=am (blk_below (vb BK102.out) hb)
          replace BK103:=am (blk_below (vb BK103.out) hb)
          replace HB:=am (below_step (v3 HB.out GE101.out GE102.out GE103.out) hb)
          clear hb ho37
          refine hK.out _ _ ⟨(blk_cell BK101.out 0).trans rfl,(blk_cell BK101.out 1).trans rfl,(blk_cell BK102.out 0).trans rfl,(blk_cell BK102.out 1).trans rfl,(blk_cell BK102.out 2).trans rfl⟩ (fun hHeld => ?_)
          clear hK K
          refine qN (some 56) ?_
          refine two_ (i:=3) (j:=5) (Ni:=some 58) (Nj:=some 60) (ab 13 31) (ab 13 55) rfl rfl rfl rfl (two_of HT_.out kr) (by decide) (by decide) (fun K hK => ?_) (fun K hK => ?_)
          ·skip
           refine Kd.R_append_rows_step k137 (w0:=w) w.heap.size (by rfl) (.tmp 56) (.tmp 57) 116 137 (.agg #[(ii 0),(ii 0),(ii 0)]) 24 rfl Tryz.underlying116 info137 rfl (by decide) (by omega) v116 y115 l1 _ _ _ (fun k_ => k_ ≠ gb102) (fun _ => False) rfl rfl ?aO ?aR (fun _ _ h => h) (fun _ h => h.elim) ?aF ?aB ?aS ?aL ?_
           (case aR => repeat (first|exact (Kd.C_below HR1.out HB.out)|(with_reducible refine Kd.C_alloc ?_ _)|(with_reducible refine Kd.C_drewN ?_ _)|(with_reducible refine Kd.C_drew ?_)))
           (case aB => exact (v3 HB.out GE101.out GE102.out GE103.out))
           (case aF => exact (fun k_ hk => Kd.freshB (g:=gb102) (o:=.cells #[ii a2_0,ii a2_1,ii a2_2] 137 (0,0)) (vb BK102.out) k_ hk))
           (case aO => exact (by (with_reducible repeat (first|apply Kd.R_alloc|apply Kd.R_drewN|apply Kd.R_drew));exact Kd.R_mono HO117.out (fun _ hk => hk.2)))
           (case aS => exact (below_size (v3 HB.out GE101.out GE102.out GE103.out)))
           (case aL => have:=LMc26.out;omega)
           intro v119 w38 ho hb hg hat
           rw [← Ny118.out] at ho
           have HO120:=am (ho)
           replace BK101:=am (blk_grown (g:=gb101) (o:=.cells #[.slice A0_0 l0_0.length c0_0,.slice A0_1 l0_1.length c0_1] 32 (0,0)) (vb BK101.out) hg (Kd.R_ne HO117.out BK101.out (by decide)))
           replace BK102:=am (blk_grown (g:=gb102) (o:=.cells #[ii a2_0,ii a2_1,ii a2_2] 137 (0,0)) (vb BK102.out) hg (Kd.R_away HO117.out (fun _ hk => hk.2)))
           replace BK103:=am (blk_grown (g:=gb103) (o:=.cells #[ii a3_0,ii a3_1] 43 (0,0)) (vb BK103.out) hg (Kd.R_ne HO117.out BK103.out (by decide)))
           replace HO108:=am (Kd.V_afterv (ok:=(fun k_ => k_ ≠ gb101 ∧ k_ ≠ gb102 ∧ k_ ≠ gb103)) (wV HO108.out) hg hat)
           replace HO112:=am (Kd.V_afterv (ok:=(fun k_ => k_ ≠ gb101 ∧ k_ ≠ gb102 ∧ k_ ≠ gb103)) (wV HO112.out) hg hat)
           replace HB:=am (hb)
           clear HO117
           clear ho hb hg hat
           refine hK.out _ _ ⟨(blk_cell BK101.out 0).trans rfl,(blk_cell BK101.out 1).trans rfl,(blk_cell BK102.out 0).trans rfl,(blk_cell BK102.out 1).trans rfl,(blk_cell BK102.out 2).trans rfl⟩ (fun hHeld => ?_)
           clear hK K
           refine qN (some 58) ?_
           refine one_ (i:=5) (N:=some 60) (ab 13 63) rfl rfl (one_of HT_.out kr) (by decide) (fun K hK => ?_)
           refine Kd.R_lit_step k137 _ 137 ?hg (N:=60) ?hd (xs:=([(⟨a2_0,(⟨a2_1,a2_2⟩ : S66)⟩ : S137)] : List (S137))) (inner:=[ii a2_0,ii a2_1,ii a2_2]) (ok:=fun _ => True) (okp:=fun _ => True) ?hr ?hp (fun _ hk => hk) trivial (Below.refl _ _) (Nat.le_refl _) (by simp) ?_;(case hd => rfl);(case hg => rfl);(case hr => first|(go_simp;done)|(go_simp;rfl));(case hp => exact (Reps.c3 (show Kd.M k137 _ _ _ (⟨a2_0,(⟨a2_1,a2_2⟩ : S66)⟩ : S137) [ii a2_0,ii a2_1,ii a2_2] from (k137_mkM _ _ _ (⟨a2_0,(⟨a2_1,a2_2⟩ : S66)⟩ : S137) )) (Reps.none _ _)))
           intro v122 w39 ho40 hb hg_ hnew_
           clear hg_ hnew_
           (first|rw [← Ny121.out] at ho40|(simp only [Int.reduceToNat] at ho40;rw [← Ny121.out] at ho40))
           have HO123:=am (Kd.R_lower (Kd.R_newB (Kd.R_new' ho40 (Kd.R_lt (wR HO120.out))) (g:=gb102) (o:=.cells #[ii a2_0,ii a2_1,ii a2_2] 137 (0,0)) (vb BK102.out)) (below_size (v3 HB.out GE101.out GE102.out GE103.out)))
           replace HO108:=am (Kd.V_elder' (wV HO108.out) (Kd.R_base ho40) hb)
           replace HO112:=am (Kd.V_elder' (wV HO112.out) (Kd.R_base ho40) hb)
           replace HO120:=am (Kd.R_elder' (wR HO120.out) (Kd.R_base ho40) hb)
           replace BK101:=am (blk_below (vb BK101.out) hb)
           replace BK102:=am (blk_below (vb BK102.out) hb)
           replace BK103:=am (blk_below (vb BK103.out) hb)
           replace HB:=am (below_step (v3 HB.out GE101.out GE102.out GE103.out) hb)
           clear hb ho40
           refine hK.out _ _ ⟨(blk_cell BK101.out 0).trans rfl,(blk_cell BK101.out 1).trans rfl,(blk_cell BK102.out 0).trans rfl,(blk_cell BK102.out 1).trans rfl,(blk_cell BK102.out 2).trans rfl⟩ (fun hHeld => ?_)
           clear hK K
           refine qN (some 60) ?_
           exact norm_ (by simp only [Go.Proofs.YtjjfpmapjjemcaaGreatW.PrintLast.putAll,Act.put,List.setIfInBounds_toArray,List.set_cons_zero,List.set_cons_succ]) (hCont (v116,v119,v122) _ ⟨hHeld,(by (with_reducible repeat (first|apply Kd.V_alloc|apply Kd.V_drewN|apply Kd.V_drew));exact Kd.V_mono HO108.out (fun _ hk => ⟨hk.1.2,⟨hk.2,⟨hk.1.1.1,⟨hk.1.1.2.1,hk.1.1.2.2⟩⟩⟩⟩)),(by (with_reducible repeat (first|apply Kd.V_alloc|apply Kd.V_drewN|apply Kd.V_drew));exact Kd.V_mono HO112.out (fun _ hk => ⟨hk.1.2,⟨hk.2,⟨hk.1.1.1,⟨hk.1.1.2.1,hk.1.1.2.2⟩⟩⟩⟩)),(by (with_reducible repeat (first|apply Kd.R_alloc|apply Kd.R_drewN|apply Kd.R_drew));exact Kd.R_mono HO120.out (fun _ hk => ⟨hk.2,hk.1⟩)),(by (with_reducible repeat (first|apply Kd.R_alloc|apply Kd.R_drewN|apply Kd.R_drew));exact Kd.R_mono HO123.out (fun _ hk => ⟨hk.1.2,hk.2⟩)),(vb BK101.out),(vb BK102.out),(vb BK103.out),(v3 HB.out GE101.out GE102.out GE103.out)⟩)
          ·skip
           refine Kd.R_lit_step k137 _ 137 ?hg (N:=60) ?hd (xs:=([(⟨a2_0,(⟨a2_1,a2_2⟩ : S66)⟩ : S137)] : List (S137))) (inner:=[ii a2_0,ii a2_1,ii a2_2]) (ok:=fun _ => True) (okp:=fun _ => True) ?hr ?hp (fun _ hk => hk) trivial (Below.refl _ _) (Nat.le_refl _) (by simp) ?_;(case hd => rfl);(case hg => rfl);(case hr => first|(go_simp;done)|(go_simp;rfl));(case hp => exact (Reps.c3 (show Kd.M k137 _ _ _ (⟨a2_0,(⟨a2_1,a2_2⟩ : S66)⟩ : S137) [ii a2_0,ii a2_1,ii a2_2] from (k137_mkM _ _ _ (⟨a2_0,(⟨a2_1,a2_2⟩ : S66)⟩ : S137) )) (Reps.none _ _)))
           intro v122 w38 ho39 hb hg_ hnew_
           clear hg_ hnew_
           (first|rw [← Ny121.out] at ho39|(simp only [Int.reduceToNat] at ho39;rw [← Ny121.out] at ho39))
           have HO123:=am (Kd.R_lower (Kd.R_newB (Kd.R_new' ho39 (Kd.R_lt (wR HO117.out))) (g:=gb102) (o:=.cells #[ii a2_0,ii a2_1,ii a2_2] 137 (0,0)) (vb BK102.out)) (below_size (v3 HB.out GE101.out GE102.out GE103.out)))
           replace HO108:=am (Kd.V_elder' (wV HO108.out) (Kd.R_base ho39) hb)
           replace HO112:=am (Kd.V_elder' (wV HO112.out) (Kd.R_base ho39) hb)
           replace HO117:=am (Kd.R_elder' (wR HO117.out) (Kd.R_base ho39) hb)
           replace BK101:=am (blk_below (vb BK101.out) hb)
           replace BK102:=am (blk_below (vb BK102.out) hb)
           replace BK103:=am (blk_below (vb BK103.out) hb)
           replace HB:=am (below_step (v3 HB.out GE101.out GE102.out GE103.out) hb)
           clear hb ho39
           refine hK.out _ _ ⟨(blk_cell BK101.out 0).trans rfl,(blk_cell BK101.out 1).trans rfl,(blk_cell BK102.out 0).trans rfl,(blk_cell BK102.out 1).trans rfl,(blk_cell BK102.out 2).trans rfl⟩ (fun hHeld => ?_)
           clear hK K
           refine qN (some 60) ?_
           refine one_ (i:=3) (N:=some 58) (ab 13 63) rfl rfl (one_of HT_.out kr) (by decide) (fun K hK => ?_)
           refine Kd.R_append_rows_step k137 (w0:=w) w.heap.size (by rfl) (.tmp 56) (.tmp 57) 116 137 (.agg #[(ii 0),(ii 0),(ii 0)]) 24 rfl Tryz.underlying116 info137 rfl (by decide) (by omega) v116 y115 l1 _ _ _ (fun k_ => some k_ ≠ (v122 : Value).ownBlock ∧ k_ ≠ gb102) (fun _ => False) rfl rfl ?aO ?aR (fun _ _ h => h) (fun _ h => h.elim) ?aF ?aB ?aS ?aL ?_
           (case aR => repeat (first|exact (Kd.C_below HR1.out HB.out)|(with_reducible refine Kd.C_alloc ?_ _)|(with_reducible refine Kd.C_drewN ?_ _)|(with_reducible refine Kd.C_drew ?_)))
           (case aB => exact (v3 HB.out GE101.out GE102.out GE103.out))
           (case aF => exact (fun k_ hk => ⟨Kd.fresh' (Kd.R_lt (wR HO123.out)) k_ hk,Kd.freshB (g:=gb102) (o:=.cells #[ii a2_0,ii a2_1,ii a2_2] 137 (0,0)) (vb BK102.out) k_ hk⟩))
           (case aO => exact (by (with_reducible repeat (first|apply Kd.R_alloc|apply Kd.R_drewN|apply Kd.R_drew));exact Kd.R_mono HO117.out (fun _ hk => ⟨hk.2,hk.1.2⟩)))
           (case aS => exact (below_size (v3 HB.out GE101.out GE102.out GE103.out)))
           (case aL => have:=LMc26.out;omega)
           intro v119 w40 ho hb hg hat
           rw [← Ny118.out] at ho
           have HO120:=am (ho)
           replace BK101:=am (blk_grown (g:=gb101) (o:=.cells #[.slice A0_0 l0_0.length c0_0,.slice A0_1 l0_1.length c0_1] 32 (0,0)) (vb BK101.out) hg (Kd.R_ne HO117.out BK101.out (by decide)))
           replace BK102:=am (blk_grown (g:=gb102) (o:=.cells #[ii a2_0,ii a2_1,ii a2_2] 137 (0,0)) (vb BK102.out) hg (Kd.R_away HO117.out (fun _ hk => hk.1.2)))
           replace BK103:=am (blk_grown (g:=gb103) (o:=.cells #[ii a3_0,ii a3_1] 43 (0,0)) (vb BK103.out) hg (Kd.R_ne HO117.out BK103.out (by decide)))
           replace HO108:=am (Kd.V_afterv (ok:=(fun k_ => some k_ ≠ (v122 : Value).ownBlock ∧ k_ ≠ gb101 ∧ k_ ≠ gb102 ∧ k_ ≠ gb103)) (by (with_reducible repeat (first|apply Kd.V_alloc|apply Kd.V_drewN|apply Kd.V_drew));exact Kd.V_mono HO108.out (fun _ hk => ⟨⟨hk.2,⟨hk.1.1.1,⟨hk.1.1.2.1,hk.1.1.2.2⟩⟩⟩,hk.1.2⟩)) hg hat)
           replace HO112:=am (Kd.V_afterv (ok:=(fun k_ => some k_ ≠ (v122 : Value).ownBlock ∧ k_ ≠ gb101 ∧ k_ ≠ gb102 ∧ k_ ≠ gb103)) (by (with_reducible repeat (first|apply Kd.V_alloc|apply Kd.V_drewN|apply Kd.V_drew));exact Kd.V_mono HO112.out (fun _ hk => ⟨⟨hk.2,⟨hk.1.1.1,⟨hk.1.1.2.1,hk.1.1.2.2⟩⟩⟩,hk.1.2⟩)) hg hat)
           replace HO123:=am (Kd.R_after (ok:=(fun k_ => k_ ≠ gb102)) (by (with_reducible repeat (first|apply Kd.R_alloc|apply Kd.R_drewN|apply Kd.R_drew));exact Kd.R_mono HO123.out (fun _ hk => ⟨hk.2,hk.1.2⟩)) hg hat)
           replace HB:=am (hb)
           clear HO117
           clear ho hb hg hat
           refine hK.out _ _ ⟨(blk_cell BK101.out 0).trans rfl,(blk_cell BK101.out 1).trans rfl,(blk_cell BK102.out 0).trans rfl,(blk_cell BK102.out 1).trans rfl,(blk_cell BK102.out 2).trans rfl⟩ (fun hHeld => ?_)
           clear hK K
           refine qN (some 58) ?_
           exact norm_ (by simp only [Go.Proofs.YtjjfpmapjjemcaaGreatW.PrintLast.putAll,Act.put,List.setIfInBounds_toArray,List.set_cons_zero,List.set_cons_succ]) (hCont (v116,v119,v122) _ ⟨hHeld,(by (with_reducible repeat (first|apply Kd.V_alloc|apply Kd.V_drewN|apply Kd.V_drew));exact Kd.V_mono HO108.out (fun _ hk => ⟨hk.2,⟨hk.1.1,⟨hk.1.2.1,⟨hk.1.2.2.1,hk.1.2.2.2⟩⟩⟩⟩)),(by (with_reducible repeat (first|apply Kd.V_alloc|apply Kd.V_drewN|apply Kd.V_drew));exact Kd.V_mono HO112.out (fun _ hk => ⟨hk.2,⟨hk.1.1,⟨hk.1.2.1,⟨hk.1.2.2.1,hk.1.2.2.2⟩⟩⟩⟩)),(wR HO120.out),(by (with_reducible repeat (first|apply Kd.R_alloc|apply Kd.R_drewN|apply Kd.R_drew));exact Kd.R_mono HO123.out (fun _ hk => ⟨hk.2,hk.1⟩)),(vb BK101.out),(vb BK102.out),(vb BK103.out),(v3 HB.out GE101.out GE102.out GE103.out)⟩)
         ·skip
          refine Kd.R_lit_step k137 _ 137 ?hg (N:=60) ?hd (xs:=([(⟨a2_0,(⟨a2_1,a2_2⟩ : S66)⟩ : S137)] : List (S137))) (inner:=[ii a2_0,ii a2_1,ii a2_2]) (ok:=fun _ => True) (okp:=fun _ => True) ?hr ?hp (fun _ hk => hk) trivial (Below.refl _ _) (Nat.le_refl _) (by simp) ?_;(case hd => rfl);(case hg => rfl);(case hr => first|(go_simp;done)|(go_simp;rfl));(case hp => exact (Reps.c3 (show Kd.M k137 _ _ _ (⟨a2_0,(⟨a2_1,a2_2⟩ : S66)⟩ : S137) [ii a2_0,ii a2_1,ii a2_2] from (k137_mkM _ _ _ (⟨a2_0,(⟨a2_1,a2_2⟩ : S66)⟩ : S137) )) (Reps.none _ _)))
          intro v122 w36 ho37 hb hg_ hnew_
          clear hg_ hnew_
          (first|rw [← Ny121.out] at ho37|(simp only [Int.reduceToNat] at ho37;rw [← Ny121.out] at ho37))
          have HO123:=am (Kd.R_lower (Kd.R_newB ho37 (g:=gb102) (o:=.cells #[ii a2_0,ii a2_1,ii a2_2] 137 (0,0)) (vb BK102.out)) (below_size (v3 HB.out GE101.out GE102.out GE103.out)))
          replace HO108:=am (Kd.V_elder' (wV HO108.out) (Kd.R_base ho37) hb)
          replace HO112:=am (Kd.V_elder' (wV HO112.out) (Kd.R_base ho37) hb)
          replace BK101:=am (blk_below (vb BK101.out) hb)
          replace BK102:=am (blk_below (vb BK102.out) hb)
          replace BK103:=am (blk_below (vb BK103.out) hb)
          replace HB:=am (below_step (v3 HB.out GE101.out GE102.out GE103.out) hb)
          clear hb ho37
          refine hK.out _ _ ⟨(blk_cell BK101.out 0).trans rfl,(blk_cell BK101.out 1).trans rfl,(blk_cell BK102.out 0).trans rfl,(blk_cell BK102.out 1).trans rfl,(blk_cell BK102.out 2).trans rfl⟩ (fun hHeld => ?_)
          clear hK K
          refine qN (some 60) ?_
          refine one_ (i:=1) (N:=some 56) (ab 13 55) rfl rfl (one_of HT_.out kr) (by decide) (fun K hK => ?_)
          refine Kd.R_lit_step k137 _ 137 ?hg (N:=56) ?hd (xs:=([] : List (S137))) (inner:=[]) (ok:=fun _ => True) (okp:=fun _ => True) ?hr ?hp (fun _ hk => hk) trivial (Below.refl _ _) (Nat.le_refl _) (by simp) ?_;(case hd => rfl);(case hg => rfl);(case hr => first|(go_simp;done)|(go_simp;rfl));(case hp => exact (Reps.none _ _))
          intro v116 w38 ho39 hb hg_ hnew_
          clear hg_ hnew_
          (first|rw [← Ny115.out] at ho39|(simp only [Int.reduceToNat] at ho39;rw [← Ny115.out] at ho39))
          have HO117:=am (Kd.R_lower (Kd.R_newB (Kd.R_new' ho39 (Kd.R_lt (wR HO123.out))) (g:=gb102) (o:=.cells #[ii a2_0,ii a2_1,ii a2_2] 137 (0,0)) (vb BK102.out)) (below_size (v3 HB.out GE101.out GE102.out GE103.out)))
          replace HO108:=am (Kd.V_elder' (wV HO108.out) (Kd.R_base ho39) hb)
          replace HO112:=am (Kd.V_elder' (wV HO112.out) (Kd.R_base ho39) hb)
          replace HO123:=am (Kd.R_elder' (wR HO123.out) (Kd.R_base ho39) hb)
          replace BK101:=am (blk_below (vb BK101.out) hb)
          replace BK102:=am (blk_below (vb BK102.out) hb)
          replace BK103:=am (blk_below (vb BK103.out) hb)
          replace HB:=am (below_step (v3 HB.out GE101.out GE102.out GE103.out) hb)
          clear hb ho39
          refine hK.out _ _ ⟨(blk_cell BK101.out 0).trans rfl,(blk_cell BK101.out 1).trans rfl,(blk_cell BK102.out 0).trans rfl,(blk_cell BK102.out 1).trans rfl,(blk_cell BK102.out 2).trans rfl⟩ (fun hHeld => ?_)
          clear hK K
          refine qN (some 56) ?_
          refine one_ (i:=3) (N:=some 58) (ab 13 63) rfl rfl (one_of HT_.out kr) (by decide) (fun K hK => ?_)
          refine Kd.R_append_rows_step k137 (w0:=w) w.heap.size (by rfl) (.tmp 56) (.tmp 57) 116 137 (.agg #[(ii 0),(ii 0),(ii 0)]) 24 rfl Tryz.underlying116 info137 rfl (by decide) (by omega) v116 y115 l1 _ _ _ (fun k_ => some k_ ≠ (v122 : Value).ownBlock ∧ k_ ≠ gb102) (fun _ => False) rfl rfl ?aO ?aR (fun _ _ h => h) (fun _ h => h.elim) ?aF ?aB ?aS ?aL ?_
          (case aR => repeat (first|exact (Kd.C_below HR1.out HB.out)|(with_reducible refine Kd.C_alloc ?_ _)|(with_reducible refine Kd.C_drewN ?_ _)|(with_reducible refine Kd.C_drew ?_)))
          (case aB => exact (v3 HB.out GE101.out GE102.out GE103.out))
          (case aF => exact (fun k_ hk => ⟨Kd.fresh' (Kd.R_lt (wR HO123.out)) k_ hk,Kd.freshB (g:=gb102) (o:=.cells #[ii a2_0,ii a2_1,ii a2_2] 137 (0,0)) (vb BK102.out) k_ hk⟩))
          (case aO => exact (by (with_reducible repeat (first|apply Kd.R_alloc|apply Kd.R_drewN|apply Kd.R_drew));exact Kd.R_mono HO117.out (fun _ hk => ⟨hk.1.2,hk.2⟩)))
          (case aS => exact (below_size (v3 HB.out GE101.out GE102.out GE103.out)))
          (case aL => have:=LMc26.out;omega)
          intro v119 w40 ho hb hg hat
          rw [← Ny118.out] at ho
          have HO120:=am (ho)
          replace BK101:=am (blk_grown (g:=gb101) (o:=.cells #[.slice A0_0 l0_0.length c0_0,.slice A0_1 l0_1.length c0_1] 32 (0,0)) (vb BK101.out) hg (Kd.R_ne HO117.out BK101.out (by decide)))
          replace BK102:=am (blk_grown (g:=gb102) (o:=.cells #[ii a2_0,ii a2_1,ii a2_2] 137 (0,0)) (vb BK102.out) hg (Kd.R_away HO117.out (fun _ hk => hk.2)))
          replace BK103:=am (blk_grown (g:=gb103) (o:=.cells #[ii a3_0,ii a3_1] 43 (0,0)) (vb BK103.out) hg (Kd.R_ne HO117.out BK103.out (by decide)))
          replace HO108:=am (Kd.V_afterv (ok:=(fun k_ => some k_ ≠ (v122 : Value).ownBlock ∧ k_ ≠ gb101 ∧ k_ ≠ gb102 ∧ k_ ≠ gb103)) (by (with_reducible repeat (first|apply Kd.V_alloc|apply Kd.V_drewN|apply Kd.V_drew));exact Kd.V_mono HO108.out (fun _ hk => ⟨⟨hk.1.2,⟨hk.1.1.1,⟨hk.1.1.2.1,hk.1.1.2.2⟩⟩⟩,hk.2⟩)) hg hat)
          replace HO112:=am (Kd.V_afterv (ok:=(fun k_ => some k_ ≠ (v122 : Value).ownBlock ∧ k_ ≠ gb101 ∧ k_ ≠ gb102 ∧ k_ ≠ gb103)) (by (with_reducible repeat (first|apply Kd.V_alloc|apply Kd.V_drewN|apply Kd.V_drew));exact Kd.V_mono HO112.out (fun _ hk => ⟨⟨hk.1.2,⟨hk.1.1.1,⟨hk.1.1.2.1,hk.1.1.2.2⟩⟩⟩,hk.2⟩)) hg hat)
          replace HO123:=am (Kd.R_after (ok:=(fun k_ => k_ ≠ gb102)) (by (with_reducible repeat (first|apply Kd.R_alloc|apply Kd.R_drewN|apply Kd.R_drew));exact Kd.R_mono HO123.out (fun _ hk => ⟨hk.1.2,hk.2⟩)) hg hat)
          replace HB:=am (hb)
          clear HO117
          clear ho hb hg hat
          refine hK.out _ _ ⟨(blk_cell BK101.out 0).trans rfl,(blk_cell BK101.out 1).trans rfl,(blk_cell BK102.out 0).trans rfl,(blk_cell BK102.out 1).trans rfl,(blk_cell BK102.out 2).trans rfl⟩ (fun hHeld => ?_)
          clear hK K
          refine qN (some 58) ?_
          exact norm_ (by simp only [Go.Proofs.YtjjfpmapjjemcaaGreatW.PrintLast.putAll,Act.put,List.setIfInBounds_toArray,List.set_cons_zero,List.set_cons_succ]) (hCont (v116,v119,v122) _ ⟨hHeld,(by (with_reducible repeat (first|apply Kd.V_alloc|apply Kd.V_drewN|apply Kd.V_drew));exact Kd.V_mono HO108.out (fun _ hk => ⟨hk.2,⟨hk.1.1,⟨hk.1.2.1,⟨hk.1.2.2.1,hk.1.2.2.2⟩⟩⟩⟩)),(by (with_reducible repeat (first|apply Kd.V_alloc|apply Kd.V_drewN|apply Kd.V_drew));exact Kd.V_mono HO112.out (fun _ hk => ⟨hk.2,⟨hk.1.1,⟨hk.1.2.1,⟨hk.1.2.2.1,hk.1.2.2.2⟩⟩⟩⟩)),(wR HO120.out),(by (with_reducible repeat (first|apply Kd.R_alloc|apply Kd.R_drewN|apply Kd.R_drew));exact Kd.R_mono HO123.out (fun _ hk => ⟨hk.2,hk.1⟩)),(vb BK101.out),(vb BK102.out),(vb BK103.out),(v3 HB.out GE101.out GE102.out GE103.out)⟩)
        rintro ⟨v116,v119,v122⟩ w41 ⟨hS_,h0_,h1_,h2_,h3_,h4_,h5_,h6_,h7_⟩
        have n0_ : Aside0 (Kd.V k139 139 w41 w.heap.size (fun k_ => some k_ ≠ (v119 : Value).ownBlock ∧ some k_ ≠ (v122 : Value).ownBlock ∧ k_ ≠ gb101 ∧ k_ ≠ gb102 ∧ k_ ≠ gb103) v107 t106):=⟨h0_⟩
        have n1_ : Aside0 (Kd.V (Kd.int .i64) 3 w41 w.heap.size (fun k_ => some k_ ≠ (v119 : Value).ownBlock ∧ some k_ ≠ (v122 : Value).ownBlock ∧ k_ ≠ gb101 ∧ k_ ≠ gb102 ∧ k_ ≠ gb103) v111 t110):=⟨h1_⟩
        have n2_ : Aside0 (Kd.R k137 137 w41 w.heap.size (fun k_ => some k_ ≠ (v122 : Value).ownBlock ∧ k_ ≠ gb102) v119 y118):=⟨h2_⟩
        have n3_ : Aside0 (Kd.R k137 137 w41 w.heap.size (fun k_ => some k_ ≠ (v119 : Value).ownBlock ∧ k_ ≠ gb102) v122 y121):=⟨h3_⟩
        have n4_ : Aside0 (w41.heap[gb101]? = some (.cells #[.slice A0_0 l0_0.length c0_0,.slice A0_1 l0_1.length c0_1] 32 (0,0))):=⟨h4_⟩
        have n5_ : Aside0 (w41.heap[gb102]? = some (.cells #[ii a2_0,ii a2_1,ii a2_2] 137 (0,0))):=⟨h5_⟩
        have n6_ : Aside0 (w41.heap[gb103]? = some (.cells #[ii a3_0,ii a3_1] 43 (0,0))):=⟨h6_⟩
        have n7_ : Aside0 (Below w.heap.size w w41):=⟨h7_⟩
        clear HO108
        clear HO112
        clear BK101
        clear BK102
        clear BK103
        clear HB
        clear h0_ h1_ h2_ h3_ h4_ h5_ h6_ h7_
        have HO108:=n0_
        have HO112:=n1_
        have HO120:=n2_
        have HO123:=n3_
        have BK101:=n4_
        have BK102:=n5_
        have BK103:=n6_
        have HB:=n7_
        clear n0_ n1_ n2_ n3_ n4_ n5_ n6_ n7_
        have hHeld : w41.cell? ⟨gb101,0,none⟩ = some (.slice A0_0 l0_0.length c0_0) ∧ w41.cell? ⟨gb101,1,none⟩ = some (.slice A0_1 l0_1.length c0_1) ∧ w41.cell? ⟨gb102,0,none⟩ = some (ii a2_0) ∧ w41.cell? ⟨gb102,1,none⟩ = some (ii a2_1) ∧ w41.cell? ⟨gb102,2,none⟩ = some (ii a2_2):=hS_
        obtain ⟨Ao43,co43,eo43⟩:=Kd.R_slice HO123.out
        (first|subst eo43|(injection eo43 with f1_ f2_ f3_;have f4_:=f1_.symm;have f5_:=f3_.symm;clear f1_ f2_ f3_;subst f4_;subst f5_))
        refine norm_ (a':=?_) ?_ ?_
        rotate_left
        ·simp only [Go.Proofs.YtjjfpmapjjemcaaGreatW.PrintLast.putAll,Act.put,List.setIfInBounds_toArray,List.set_cons_zero,List.set_cons_succ]
         rfl
        refine one_ (i:=6) (N:=some 61) (ab 13 127) rfl rfl (one_of HT_.out kr) (by decide) (fun K hK => ?_)
        refine Kd.R_append_rows_step k137 (w0:=w) w.heap.size (by rfl) (.tmp 58) (.tmp 60) 116 137 (.agg #[(ii 0),(ii 0),(ii 0)]) 24 rfl Tryz.underlying116 info137 rfl (by decide) (by omega) v119 y118 y121 _ _ _ (fun k_ => some k_ ≠ (.slice Ao43 y121.length co43 : Value).ownBlock ∧ k_ ≠ gb102) (fun _ => False) rfl rfl ?aO ?aR (fun _ _ h => h) (fun _ h => h.elim) ?aF ?aB ?aS ?aL ?_
        (case aR => repeat (first|exact (Kd.R_reads' HO123.out).2.2|(with_reducible refine Kd.C_alloc ?_ _)|(with_reducible refine Kd.C_drewN ?_ _)|(with_reducible refine Kd.C_drew ?_)))
        (case aB => exact (v3 HB.out GE101.out GE102.out GE103.out))
        (case aF => exact (fun k_ hk => ⟨Kd.fresh' (Kd.R_lt (wR HO123.out)) k_ hk,Kd.freshB (g:=gb102) (o:=.cells #[ii a2_0,ii a2_1,ii a2_2] 137 (0,0)) (vb BK102.out) k_ hk⟩))
        (case aO => exact (wR HO120.out))
        (case aS => exact (below_size (v3 HB.out GE101.out GE102.out GE103.out)))
        (case aL => have:=LMc27.out;omega)
        intro v125 w42 ho hb hg hat
        rw [← Ny124.out] at ho
        have HO126:=am (ho)
        replace BK101:=am (blk_grown (g:=gb101) (o:=.cells #[.slice A0_0 l0_0.length c0_0,.slice A0_1 l0_1.length c0_1] 32 (0,0)) (vb BK101.out) hg (Kd.R_ne HO120.out BK101.out (by decide)))
        replace BK102:=am (blk_grown (g:=gb102) (o:=.cells #[ii a2_0,ii a2_1,ii a2_2] 137 (0,0)) (vb BK102.out) hg (Kd.R_away HO120.out (fun _ hk => hk.2)))
        replace BK103:=am (blk_grown (g:=gb103) (o:=.cells #[ii a3_0,ii a3_1] 43 (0,0)) (vb BK103.out) hg (Kd.R_ne HO120.out BK103.out (by decide)))
        replace HO108:=am (Kd.V_afterv (ok:=(fun k_ => some k_ ≠ (.slice Ao43 y121.length co43 : Value).ownBlock ∧ k_ ≠ gb101 ∧ k_ ≠ gb102 ∧ k_ ≠ gb103)) (by (with_reducible repeat (first|apply Kd.V_alloc|apply Kd.V_drewN|apply Kd.V_drew));exact Kd.V_mono HO108.out (fun _ hk => ⟨⟨hk.2.1,⟨hk.2.2.1,⟨hk.2.2.2.1,hk.2.2.2.2⟩⟩⟩,hk.1⟩)) hg hat)
        replace HO112:=am (Kd.V_afterv (ok:=(fun k_ => some k_ ≠ (.slice Ao43 y121.length co43 : Value).ownBlock ∧ k_ ≠ gb101 ∧ k_ ≠ gb102 ∧ k_ ≠ gb103)) (by (with_reducible repeat (first|apply Kd.V_alloc|apply Kd.V_drewN|apply Kd.V_drew));exact Kd.V_mono HO112.out (fun _ hk => ⟨⟨hk.2.1,⟨hk.2.2.1,⟨hk.2.2.2.1,hk.2.2.2.2⟩⟩⟩,hk.1⟩)) hg hat)
        replace HO123:=am (Kd.R_after (ok:=(fun k_ => k_ ≠ gb102)) (by (with_reducible repeat (first|apply Kd.R_alloc|apply Kd.R_drewN|apply Kd.R_drew));exact Kd.R_mono HO123.out (fun _ hk => ⟨hk.2,hk.1⟩)) hg hat)
        replace HB:=am (hb)
        clear HO120
        clear ho hb hg hat
        obtain ⟨Ao44,co44,eo44⟩:=Kd.R_slice HO126.out
        (first|subst eo44|(injection eo44 with f1_ f2_ f3_;have f4_:=f1_.symm;have f5_:=f3_.symm;clear f1_ f2_ f3_;subst f4_;subst f5_))
        refine hK.out _ _ ⟨(blk_cell BK101.out 0).trans rfl,(blk_cell BK101.out 1).trans rfl,(blk_cell BK102.out 0).trans rfl,(blk_cell BK102.out 1).trans rfl,(blk_cell BK102.out 2).trans rfl⟩ (fun hHeld => ?_)
        clear hK K
        refine qN (some 61) ?_
        refine one_ (i:=7) (N:=some 62) (ab 13 255) rfl rfl (one_of HT_.out kr) (by decide) (fun K hK => ?_)
        refine gC Tryz.func56 #[.agg #[.slice A0_0 l0_0.length c0_0,.slice A0_1 l0_1.length c0_1],.slice Ao44 y124.length co44] ?_
        with_reducible refine (pit_Culprits.calls _ _ l0_0 _ _ l0_1 _ _ y124 t127 t130 _ ?side1 ?side2 ?side3 ?side4 ?side5 ?side6 A28.out).mono ?_
        (case side1 => repeat (first|exact (Kd.C_below HR0_0.out HB.out)|(with_reducible refine Kd.C_alloc ?_ _)|(with_reducible refine Kd.C_drewN ?_ _)|(with_reducible refine Kd.C_drew ?_)))
        (case side2 => exact HC0_0.out)
        (case side3 => repeat (first|exact (Kd.C_below HR0_1.out HB.out)|(with_reducible refine Kd.C_alloc ?_ _)|(with_reducible refine Kd.C_drewN ?_ _)|(with_reducible refine Kd.C_drew ?_)))
        (case side4 => exact HC0_1.out)
        (case side5 => repeat (first|exact (Kd.R_reads' HO126.out).2.2|(with_reducible refine Kd.C_alloc ?_ _)|(with_reducible refine Kd.C_drewN ?_ _)|(with_reducible refine Kd.C_drew ?_)))
        (case side6 => exact (Kd.R_reads' HO126.out).2.1)
        rintro e w45 ⟨v128,rfl,ho0,hb⟩
        refine ⟨_,rfl,?_⟩
        have HO129:=am (Kd.V_lower (Kd.V_mono (ok':=fun k_ => some k_ ≠ (.slice Ao43 y121.length co43 : Value).ownBlock ∧ some k_ ≠ (.slice Ao44 y124.length co44 : Value).ownBlock ∧ k_ ≠ gb101 ∧ k_ ≠ gb102 ∧ k_ ≠ gb103) ho0 (fun k_ hk_ => ⟨(Kd.fresh' (Kd.R_lt (wR HO123.out)) k_ hk_),(Kd.fresh' (Kd.R_lt (wR HO126.out)) k_ hk_),(Kd.freshB (g:=gb101) (o:=.cells #[.slice A0_0 l0_0.length c0_0,.slice A0_1 l0_1.length c0_1] 32 (0,0)) (vb BK101.out) k_ hk_),(Kd.freshB (g:=gb102) (o:=.cells #[ii a2_0,ii a2_1,ii a2_2] 137 (0,0)) (vb BK102.out) k_ hk_),(Kd.freshB (g:=gb103) (o:=.cells #[ii a3_0,ii a3_1] 43 (0,0)) (vb BK103.out) k_ hk_)⟩)) (below_size (v3 HB.out GE101.out GE102.out GE103.out)))
        replace HO108:=am (Kd.V_below (wV HO108.out) hb)
        replace HO112:=am (Kd.V_below (wV HO112.out) hb)
        replace HO123:=am (Kd.R_below (wR HO123.out) hb)
        replace HO126:=am (Kd.R_below (wR HO126.out) hb)
        replace BK101:=am (blk_below (vb BK101.out) hb)
        replace BK102:=am (blk_below (vb BK102.out) hb)
        replace BK103:=am (blk_below (vb BK103.out) hb)
        replace HB:=am (below_step (v3 HB.out GE101.out GE102.out GE103.out) hb)
        (try clear hb)
        (try clear hb2)
        (try clear hk)
        (try clear hi)
        (try clear ho0)
        refine hK.out _ _ ⟨(blk_cell BK101.out 0).trans rfl,(blk_cell BK101.out 1).trans rfl,(blk_cell BK102.out 0).trans rfl,(blk_cell BK102.out 1).trans rfl,(blk_cell BK102.out 2).trans rfl⟩ (fun hHeld => ?_)
        clear hK K
        refine qN (some 62) ?_
        refine qA 8 (some 54) ?_;refine qA 9 (some 63) ?_;refine qA 10 (some 64) ?_;refine qA 11 (some 13) ?_;refine qA 12 (some 14) ?_
        refine done_ (done_of HT_.out kr) ?_
        obtain ⟨Ao46,co46,eo46⟩:=Kd.V_slice HO112.out
        subst eo46
        try go_wp2
        go_loopg [67] kj4 (fun kq v67 w' => ∃ (x67_2 : Int),v67 = ii x67_2 ∧ Aside0 (calxlaw04_PitCulprits.l0 kq l1 t106 t127 t130 t110 (t110.length : Int) x67_2 l0_0 l0_1 a3_0 a3_1 = some r) ∧ Aside0 (kq ≤ kj4) ∧ Aside0 (Kd.V k139 139 w' w.heap.size (fun k_ => k_ ≠ gb101 ∧ k_ ≠ gb102 ∧ k_ ≠ gb103) v107 t106) ∧ Aside0 (Kd.V k139 139 w' w.heap.size (fun k_ => k_ ≠ gb101 ∧ k_ ≠ gb102 ∧ k_ ≠ gb103) v128 t127) ∧ Aside0 (Kd.V (Kd.int .i64) 3 w' w.heap.size (fun k_ => k_ ≠ gb101 ∧ k_ ≠ gb102 ∧ k_ ≠ gb103) (.slice Ao46 t110.length co46) t110) ∧ Aside0 (w'.heap[gb101]? = some (.cells #[(.slice A0_0 l0_0.length c0_0),(.slice A0_1 l0_1.length c0_1)] 32 (0,0))) ∧ Aside0 (w'.heap[gb102]? = some (.cells #[ii a2_0,ii a2_1,ii a2_2] 137 (0,0))) ∧ Aside0 (w'.heap[gb103]? = some (.cells #[ii a3_0,ii a3_1] 43 (0,0))) ∧ Aside0 (Below w.heap.size w w'))
        case atStart => exact ⟨(0),ve,H',⟨Nat.le_refl _⟩,⟨by (with_reducible repeat (first|apply Kd.V_alloc|apply Kd.V_drewN|apply Kd.V_drew));exact Kd.V_mono HO108.out (fun _ hk => ⟨hk.1.2.1,⟨hk.1.2.2.1,hk.1.2.2.2⟩⟩)⟩,⟨by (with_reducible repeat (first|apply Kd.V_alloc|apply Kd.V_drewN|apply Kd.V_drew));exact Kd.V_mono HO129.out (fun _ hk => ⟨hk.2.2.1,⟨hk.2.2.2.1,hk.2.2.2.2⟩⟩)⟩,⟨by (with_reducible repeat (first|apply Kd.V_alloc|apply Kd.V_drewN|apply Kd.V_drew));exact Kd.V_mono HO112.out (fun _ hk => ⟨hk.1.2.1,⟨hk.1.2.2.1,hk.1.2.2.2⟩⟩)⟩,⟨vb BK101.out⟩,⟨vb BK102.out⟩,⟨vb BK103.out⟩,⟨v3 HB.out GE101.out GE102.out GE103.out⟩⟩
        case round =>
         clear H'
         try clear c1;try clear c2;try clear p2;try clear c3;try clear c5;try clear c19;try clear c24;try clear c24b0;try clear c24b1;try clear c25;try clear c25b0;try clear c25b1;try clear c26;try clear c27;try clear c29;try clear c30;try clear hcz31_0;try clear hcz31_1;try clear hcz33_0;try clear hcz33_1;try clear hfz31_0;try clear hfz31_1;try clear hfz33_0;try clear hfz33_1
         obtain ⟨x67_2,rfl,HA,HK2,HO_9,HO_13,HO_65,BK101,BK102,BK103,HB⟩:=hrel
         cases gk with
        |zero => exact absurd HA.out (by simp [calxlaw04_PitCulprits.l0])
        |succ k2 =>
          have H:=HA.out
          clear HA
          simp only [calxlaw04_PitCulprits.l0] at H
          by_cases c47 : x67_2 < (t110.length : Int)
          ·rw [if_pos c47] at H
           have c47b0 : decide (x67_2 < (t110.length : Int)) = true:=decide_eq_true c47
           clear c47
           by_cases c48 : 0 ≤ x67_2
           ·rw [if_pos c48] at H
            have c48b0 : decide (0 ≤ x67_2) = true:=decide_eq_true c48
            clear c48
            by_cases c49 : x67_2 < (t110.length : Int)
            ·rw [if_pos c49] at H
             have c49b0 : decide (x67_2 < (t110.length : Int)) = true:=decide_eq_true c49
             clear c49
             replace H:=Option.bind_eq_some_iff.mp H
             obtain ⟨⟨t133,t134,t135,t136,t137,t138⟩,A500,H⟩:=H
             replace H : ((pit_Clears.f l0_0 l0_1 l1 (rd t110 x67_2)).bind fun bt140 => (if bt140.2.2 = 0 then (calxlaw04_PitCulprits.j2 k2 l1 t106 t127 t130 (rd t110 x67_2) t138 t110 (t110.length : Int) x67_2 (bt140.2.1 == t138) l0_0 l0_1 a3_0 a3_1 t133 t134 t135 t136 t137) else (calxlaw04_PitCulprits.j2 k2 l1 t106 t127 t130 (rd t110 x67_2) t138 t110 (t110.length : Int) x67_2 true l0_0 l0_1 a3_0 a3_1 t133 t134 t135 t136 t137))) = some r:=H
             have A50:=am A500
             clear A500
             replace H:=Option.bind_eq_some_iff.mp H
             obtain ⟨⟨t140,t141,t142⟩,A510,H⟩:=H
             replace H : (if t142 = 0 then (calxlaw04_PitCulprits.j2 k2 l1 t106 t127 t130 (rd t110 x67_2) t138 t110 (t110.length : Int) x67_2 (t141 == t138) l0_0 l0_1 a3_0 a3_1 t133 t134 t135 t136 t137) else (calxlaw04_PitCulprits.j2 k2 l1 t106 t127 t130 (rd t110 x67_2) t138 t110 (t110.length : Int) x67_2 true l0_0 l0_1 a3_0 a3_1 t133 t134 t135 t136 t137)) = some r:=H
             have A51:=am A510
             clear A510
             have HC52:=am H
             clear H
             have p132 : 0 ≤ (x67_2 : Int):=of_decide_eq_true va
             have q132 : x67_2 < (t110.length : Int):=of_decide_eq_true va
             obtain ⟨ad132,e132,hx132_0⟩:=Kd.at_int (Kd.V_reads' HO_65.out).2.2 x67_2 p132 q132
             cases e132
             replace p132:=eq_true p132
             replace q132:=eq_true q132
             obtain ⟨Ao53,co53,eo53⟩:=Kd.V_slice HO_9.out
             subst eo53
             go_upto_region 15 with (first|((with_reducible refine g_ ?_);refine cE (some 74) Tryz.func66 #[.slice Ao53 t106.length co53,ii (rd t110 x67_2)] ?_;(with_reducible refine (calxlaw04_blame.calls k2 _ _ t106 (rd t110 x67_2) t133 t134 t135 t136 t137 t138 _ ?side1 ?side2 A50.out).mono ?_);(case side1 => repeat (first|exact (Kd.V_reads' HO_9.out).2.2|(with_reducible refine Kd.C_alloc ?_ _)|(with_reducible refine Kd.C_drewN ?_ _)|(with_reducible refine Kd.C_drew ?_)));(case side2 => exact (Kd.V_reads' HO_9.out).2.1);rintro e w54 ⟨rfl,hb⟩;refine ⟨_,rfl,?_⟩;replace HO_9:=am (Kd.V_below (wV HO_9.out) hb);replace HO_13:=am (Kd.V_below (wV HO_13.out) hb);replace HO_65:=am (Kd.V_below (wV HO_65.out) hb);replace BK101:=am (blk_below (vb BK101.out) hb);replace BK102:=am (blk_below (vb BK102.out) hb);replace BK103:=am (blk_below (vb BK103.out) hb);replace HB:=am (below_step (v3 HB.out GE101.out GE102.out GE103.out) hb);(try clear hb);(try clear hb2);(try clear hk);(try clear hi))|((with_reducible refine gate_dst (N:=17) rfl ?_);(try (refine gate_guard (by rfl) ?_;dsimp only));refine bE 17 #[ii 0,ii 0,ii 0,ii 0,ii 0] 139 ?_;intro gb139 hg w55 hbox hb;have BK139:=am (hbox);have GW139:=am (lg hg (below_size (v3 HB.out GE101.out GE102.out GE103.out)) : w.heap.size ≤ gb139);have GE139:=GW139;have NB101_139:=am (nl hg (vb BK101.out));have NB139_101:=am ((nl hg (vb BK101.out)).symm);have NB102_139:=am (nl hg (vb BK102.out));have NB139_102:=am ((nl hg (vb BK102.out)).symm);have NB103_139:=am (nl hg (vb BK103.out));have NB139_103:=am ((nl hg (vb BK103.out)).symm);replace HO_9:=am (Kd.V_below (Kd.V_elderB (wV HO_9.out) gb139 (Nat.le_of_eq hg.symm)) hb);replace HO_13:=am (Kd.V_below (Kd.V_elderB (wV HO_13.out) gb139 (Nat.le_of_eq hg.symm)) hb);replace HO_65:=am (Kd.V_below (Kd.V_elderB (wV HO_65.out) gb139 (Nat.le_of_eq hg.symm)) hb);replace BK101:=am (blk_below (vb BK101.out) hb);replace BK102:=am (blk_below (vb BK102.out) hb);replace BK103:=am (blk_below (vb BK103.out) hb);replace HB:=am (below_step (v3 HB.out GE101.out GE102.out GE103.out) hb);clear hb hbox hg;have hnb56:=NB139_101.out;have hnc56:=NB101_139.out;have hnb57:=NB139_102.out;have hnc57:=NB102_139.out;have hnb58:=NB139_103.out;have hnc58:=NB103_139.out;have hcz59_0:=bd BK139.out 0;have hcz59_1:=bd BK139.out 1;have hcz59_2:=bd BK139.out 2;have hcz59_3:=bd BK139.out 3;have hcz59_4:=bd BK139.out 4;have hfz59_0:=blk_frozen BK139.out 0;have hfz59_1:=blk_frozen BK139.out 1;have hfz59_2:=blk_frozen BK139.out 2;have hfz59_3:=blk_frozen BK139.out 3;have hfz59_4:=blk_frozen BK139.out 4;have hnb60:=NB101_102.out;have hnc60:=NB102_101.out;have hnb61:=NB101_103.out;have hnc61:=NB103_101.out;have hcz62_0:=bd BK101.out 0;have hcz62_1:=bd BK101.out 1;have hfz62_0:=blk_frozen BK101.out 0;have hfz62_1:=blk_frozen BK101.out 1)|((with_reducible refine g_ ?_);refine cE (some 81) Tryz.func58 #[.agg #[.slice A0_0 l0_0.length c0_0,.slice A0_1 l0_1.length c0_1],.slice A1 l1.length c1,ii (rd t110 x67_2)] ?_;(with_reducible refine (pit_Clears.calls _ _ l0_0 _ _ l0_1 _ _ l1 (rd t110 x67_2) t140 t141 t142 _ ?side1 ?side2 ?side3 ?side4 ?side5 ?side6 A51.out).mono ?_);(case side1 => exact Kd.C_below HR0_0.out (v4 HB.out GE101.out GE102.out GE103.out GE139.out));(case side2 => exact HC0_0.out);(case side3 => exact Kd.C_below HR0_1.out (v4 HB.out GE101.out GE102.out GE103.out GE139.out));(case side4 => exact HC0_1.out);(case side5 => exact Kd.C_below HR1.out (v4 HB.out GE101.out GE102.out GE103.out GE139.out));(case side6 => exact HC1.out);rintro e w63 ⟨rfl,hb⟩;refine ⟨_,rfl,?_⟩;replace HO_9:=am (Kd.V_below (by (with_reducible repeat (first|apply Kd.V_alloc|apply Kd.V_drewN|apply Kd.V_drew));exact (Kd.V_mono (Kd.V_far (p:=⟨gb139,4,none⟩) (Kd.V_far (p:=⟨gb139,3,none⟩) (Kd.V_far (p:=⟨gb139,2,none⟩) (Kd.V_far (p:=⟨gb139,1,none⟩) (Kd.V_far (p:=⟨gb139,0,none⟩) (Kd.V_mono HO_9.out (fun k_ hk => (⟨hk,hk.2⟩ : _ ∧ k_ ≠ gb139))) (fun _ hk => hk.2) (ii t133)) (fun _ hk => hk.2) (ii t134)) (fun _ hk => hk.2) (ii t135)) (fun _ hk => hk.2) (ii t136)) (fun _ hk => hk.2) (ii t137)) (fun _ h_ => h_.1))) hb);replace HO_13:=am (Kd.V_below (by (with_reducible repeat (first|apply Kd.V_alloc|apply Kd.V_drewN|apply Kd.V_drew));exact (Kd.V_mono (Kd.V_far (p:=⟨gb139,4,none⟩) (Kd.V_far (p:=⟨gb139,3,none⟩) (Kd.V_far (p:=⟨gb139,2,none⟩) (Kd.V_far (p:=⟨gb139,1,none⟩) (Kd.V_far (p:=⟨gb139,0,none⟩) (Kd.V_mono HO_13.out (fun k_ hk => (⟨hk,hk.2⟩ : _ ∧ k_ ≠ gb139))) (fun _ hk => hk.2) (ii t133)) (fun _ hk => hk.2) (ii t134)) (fun _ hk => hk.2) (ii t135)) (fun _ hk => hk.2) (ii t136)) (fun _ hk => hk.2) (ii t137)) (fun _ h_ => h_.1))) hb);replace HO_65:=am (Kd.V_below (by (with_reducible repeat (first|apply Kd.V_alloc|apply Kd.V_drewN|apply Kd.V_drew));exact (Kd.V_mono (Kd.V_far (p:=⟨gb139,4,none⟩) (Kd.V_far (p:=⟨gb139,3,none⟩) (Kd.V_far (p:=⟨gb139,2,none⟩) (Kd.V_far (p:=⟨gb139,1,none⟩) (Kd.V_far (p:=⟨gb139,0,none⟩) (Kd.V_mono HO_65.out (fun k_ hk => (⟨hk,hk.2⟩ : _ ∧ k_ ≠ gb139))) (fun _ hk => hk.2) (ii t133)) (fun _ hk => hk.2) (ii t134)) (fun _ hk => hk.2) (ii t135)) (fun _ hk => hk.2) (ii t136)) (fun _ hk => hk.2) (ii t137)) (fun _ h_ => h_.1))) hb);replace BK101:=am (blk_below (g:=gb101) (o:=.cells #[.slice A0_0 l0_0.length c0_0,.slice A0_1 l0_1.length c0_1] 32 (0,0)) (by (with_reducible repeat (first|refine blk_drewN ?_ _|refine blk_drew ?_|refine blk_alloc ?_ _));refine blk_far ?_ NB101_139.out _;(with_reducible repeat (first|refine blk_drewN ?_ _|refine blk_drew ?_|refine blk_alloc ?_ _));refine blk_far ?_ NB101_139.out _;(with_reducible repeat (first|refine blk_drewN ?_ _|refine blk_drew ?_|refine blk_alloc ?_ _));refine blk_far ?_ NB101_139.out _;(with_reducible repeat (first|refine blk_drewN ?_ _|refine blk_drew ?_|refine blk_alloc ?_ _));refine blk_far ?_ NB101_139.out _;(with_reducible repeat (first|refine blk_drewN ?_ _|refine blk_drew ?_|refine blk_alloc ?_ _));refine blk_far ?_ NB101_139.out _;(with_reducible repeat (first|refine blk_drewN ?_ _|refine blk_drew ?_|refine blk_alloc ?_ _));exact BK101.out) hb);replace BK102:=am (blk_below (g:=gb102) (o:=.cells #[ii a2_0,ii a2_1,ii a2_2] 137 (0,0)) (by (with_reducible repeat (first|refine blk_drewN ?_ _|refine blk_drew ?_|refine blk_alloc ?_ _));refine blk_far ?_ NB102_139.out _;(with_reducible repeat (first|refine blk_drewN ?_ _|refine blk_drew ?_|refine blk_alloc ?_ _));refine blk_far ?_ NB102_139.out _;(with_reducible repeat (first|refine blk_drewN ?_ _|refine blk_drew ?_|refine blk_alloc ?_ _));refine blk_far ?_ NB102_139.out _;(with_reducible repeat (first|refine blk_drewN ?_ _|refine blk_drew ?_|refine blk_alloc ?_ _));refine blk_far ?_ NB102_139.out _;(with_reducible repeat (first|refine blk_drewN ?_ _|refine blk_drew ?_|refine blk_alloc ?_ _));refine blk_far ?_ NB102_139.out _;(with_reducible repeat (first|refine blk_drewN ?_ _|refine blk_drew ?_|refine blk_alloc ?_ _));exact BK102.out) hb);replace BK103:=am (blk_below (g:=gb103) (o:=.cells #[ii a3_0,ii a3_1] 43 (0,0)) (by (with_reducible repeat (first|refine blk_drewN ?_ _|refine blk_drew ?_|refine blk_alloc ?_ _));refine blk_far ?_ NB103_139.out _;(with_reducible repeat (first|refine blk_drewN ?_ _|refine blk_drew ?_|refine blk_alloc ?_ _));refine blk_far ?_ NB103_139.out _;(with_reducible repeat (first|refine blk_drewN ?_ _|refine blk_drew ?_|refine blk_alloc ?_ _));refine blk_far ?_ NB103_139.out _;(with_reducible repeat (first|refine blk_drewN ?_ _|refine blk_drew ?_|refine blk_alloc ?_ _));refine blk_far ?_ NB103_139.out _;(with_reducible repeat (first|refine blk_drewN ?_ _|refine blk_drew ?_|refine blk_alloc ?_ _));refine blk_far ?_ NB103_139.out _;(with_reducible repeat (first|refine blk_drewN ?_ _|refine blk_drew ?_|refine blk_alloc ?_ _));exact BK103.out) hb);replace BK139:=am (blk_below (g:=gb139) (o:=.cells #[ii t133,ii t134,ii t135,ii t136,ii t137] 139 (0,0)) (by (with_reducible repeat (first|refine blk_drewN ?_ _|refine blk_drew ?_|refine blk_alloc ?_ _));refine blk_put (cs:=#[ii t133,ii t134,ii t135,ii t136,ii 0]) ?_ 4 _ rfl;(with_reducible repeat (first|refine blk_drewN ?_ _|refine blk_drew ?_|refine blk_alloc ?_ _));refine blk_put (cs:=#[ii t133,ii t134,ii t135,ii 0,ii 0]) ?_ 3 _ rfl;(with_reducible repeat (first|refine blk_drewN ?_ _|refine blk_drew ?_|refine blk_alloc ?_ _));refine blk_put (cs:=#[ii t133,ii t134,ii 0,ii 0,ii 0]) ?_ 2 _ rfl;(with_reducible repeat (first|refine blk_drewN ?_ _|refine blk_drew ?_|refine blk_alloc ?_ _));refine blk_put (cs:=#[ii t133,ii 0,ii 0,ii 0,ii 0]) ?_ 1 _ rfl;(with_reducible repeat (first|refine blk_drewN ?_ _|refine blk_drew ?_|refine blk_alloc ?_ _));refine blk_put (cs:=#[ii 0,ii 0,ii 0,ii 0,ii 0]) ?_ 0 _ rfl;(with_reducible repeat (first|refine blk_drewN ?_ _|refine blk_drew ?_|refine blk_alloc ?_ _));exact BK139.out) hb);replace HB:=am (below_step (v4 HB.out GE101.out GE102.out GE103.out GE139.out) hb);(try clear hb);(try clear hb2);(try clear hk);(try clear hi)))
             (try simp only [Act.put,List.setIfInBounds_toArray,List.set_cons_zero,List.set_cons_succ])
             go_cut [91] (fun v91 wc => ∃ (kq : Nat) (x91_51 : Bool),v91 = .bool x91_51 ∧ Aside0 (calxlaw04_PitCulprits.j2 kq l1 t106 t127 t130 (rd t110 x67_2) t138 t110 (t110.length : Int) x67_2 x91_51 l0_0 l0_1 a3_0 a3_1 t133 t134 t135 t136 t137 = some r) ∧ Aside0 (kq ≤ k2) ∧ Aside0 (Kd.V k139 139 wc w.heap.size (fun k_ => k_ ≠ gb101 ∧ k_ ≠ gb102 ∧ k_ ≠ gb103 ∧ k_ ≠ gb139) (.slice Ao53 t106.length co53) t106) ∧ Aside0 (Kd.V k139 139 wc w.heap.size (fun k_ => k_ ≠ gb101 ∧ k_ ≠ gb102 ∧ k_ ≠ gb103 ∧ k_ ≠ gb139) v128 t127) ∧ Aside0 (Kd.V (Kd.int .i64) 3 wc w.heap.size (fun k_ => k_ ≠ gb101 ∧ k_ ≠ gb102 ∧ k_ ≠ gb103 ∧ k_ ≠ gb139) (.slice (some ad132) t110.length co46) t110) ∧ Aside0 (wc.heap[gb101]? = some (.cells #[(.slice A0_0 l0_0.length c0_0),(.slice A0_1 l0_1.length c0_1)] 32 (0,0))) ∧ Aside0 (wc.heap[gb102]? = some (.cells #[ii a2_0,ii a2_1,ii a2_2] 137 (0,0))) ∧ Aside0 (wc.heap[gb103]? = some (.cells #[ii a3_0,ii a3_1] 43 (0,0))) ∧ Aside0 (wc.heap[gb139]? = some (.cells #[ii t133,ii t134,ii t135,ii t136,ii t137] 139 (0,0))) ∧ Aside0 (Below w.heap.size w wc))
             case first =>
              have H:=HC52.out
              clear HC52
              by_cases c64 : t142 = 0
              ·rw [if_pos c64] at H
               have c64b0 : (t142 == 0) = true:=beq_iff_eq.mpr c64
               have c64b1 : (t142 != 0) = false:=bne_eq_false_iff_eq.mpr c64
               clear c64
               (first|rw [c64b0]|(simp only [i64_w,i32_w];rw [c64b0])|skip)
               have H':=am H
               clear H
               go_wp2
               go_meet
               case rel => exact ⟨_,((t141 == t138)),ve,H',⟨by have:=HJ4.out;have:=HK2.out;first|omega|exact Nat.le_refl _⟩,⟨by (with_reducible repeat (first|apply Kd.V_alloc|apply Kd.V_drewN|apply Kd.V_drew));exact Kd.V_mono HO_9.out (fun _ hk => ⟨hk.1.1,⟨hk.1.2.1,⟨hk.1.2.2,hk.2⟩⟩⟩)⟩,⟨by (with_reducible repeat (first|apply Kd.V_alloc|apply Kd.V_drewN|apply Kd.V_drew));exact Kd.V_mono HO_13.out (fun _ hk => ⟨hk.1.1,⟨hk.1.2.1,⟨hk.1.2.2,hk.2⟩⟩⟩)⟩,⟨by (with_reducible repeat (first|apply Kd.V_alloc|apply Kd.V_drewN|apply Kd.V_drew));exact Kd.V_mono HO_65.out (fun _ hk => ⟨hk.1.1,⟨hk.1.2.1,⟨hk.1.2.2,hk.2⟩⟩⟩)⟩,⟨vb BK101.out⟩,⟨vb BK102.out⟩,⟨vb BK103.out⟩,⟨vb BK139.out⟩,⟨v4 HB.out GE101.out GE102.out GE103.out GE139.out⟩⟩
              ·rw [if_neg c64] at H
               have c64b0 : (t142 == 0) = false:=beq_eq_false_iff_ne.mpr c64
               have c64b1 : (t142 != 0) = true:=bne_iff_ne.mpr c64
               (first|rw [c64b0]|(simp only [i64_w,i32_w];rw [c64b0])|skip)
               have H':=am H
               clear H
               go_wp2
               go_meet
               case rel => exact ⟨_,(true),ve,H',⟨by have:=HJ4.out;have:=HK2.out;first|omega|exact Nat.le_refl _⟩,⟨by (with_reducible repeat (first|apply Kd.V_alloc|apply Kd.V_drewN|apply Kd.V_drew));exact Kd.V_mono HO_9.out (fun _ hk => ⟨hk.1.1,⟨hk.1.2.1,⟨hk.1.2.2,hk.2⟩⟩⟩)⟩,⟨by (with_reducible repeat (first|apply Kd.V_alloc|apply Kd.V_drewN|apply Kd.V_drew));exact Kd.V_mono HO_13.out (fun _ hk => ⟨hk.1.1,⟨hk.1.2.1,⟨hk.1.2.2,hk.2⟩⟩⟩)⟩,⟨by (with_reducible repeat (first|apply Kd.V_alloc|apply Kd.V_drewN|apply Kd.V_drew));exact Kd.V_mono HO_65.out (fun _ hk => ⟨hk.1.1,⟨hk.1.2.1,⟨hk.1.2.2,hk.2⟩⟩⟩)⟩,⟨vb BK101.out⟩,⟨vb BK102.out⟩,⟨vb BK103.out⟩,⟨vb BK139.out⟩,⟨v4 HB.out GE101.out GE102.out GE103.out GE139.out⟩⟩
             case rest =>
              clear HC52
              try clear c1;try clear p1;try clear q1;try clear hx1;try clear c2;try clear p2;try clear c3;try clear c4;try clear c5;try clear c6;try clear p13;try clear q13;try clear hx13;try clear c19;try clear c24;try clear c24b0;try clear c24b1;try clear c25;try clear c25b0;try clear c25b1;try clear c26;try clear c27;try clear c29;try clear c30;try clear c47;try clear c47b0;try clear c48;try clear c48b0;try clear c49;try clear c49b0;try clear c56;try clear c57;try clear c58;try clear c60;try clear c61;try clear c64;try clear c64b0;try clear c64b1;try clear hcz31_0;try clear hcz31_1;try clear hcz33_0;try clear hcz33_1;try clear hcz59_0;try clear hcz59_1;try clear hcz59_2;try clear hcz59_3;try clear hcz59_4;try clear hcz62_0;try clear hcz62_1;try clear hfz31_0;try clear hfz31_1;try clear hfz33_0;try clear hfz33_1;try clear hfz59_0;try clear hfz59_1;try clear hfz59_2;try clear hfz59_3;try clear hfz59_4;try clear hfz62_0;try clear hfz62_1;try clear hx132_0;try clear p132;try clear p2;try clear q132
              obtain ⟨kq,x91_51,rfl,HA,HJ51,HO_9,HO_13,HO_65,BK101,BK102,BK103,BK139,HB⟩:=hcut
              cases kq with
             |zero => exact absurd HA.out (by simp [calxlaw04_PitCulprits.j2])
             |succ kj51 =>
               have H:=HA.out
               clear HA
               simp only [calxlaw04_PitCulprits.j2] at H
               by_cases c65 : x91_51 = true
               ·subst c65
                have H1 : (some false) = some r:=by rw [if_pos rfl] at H;exact H
                clear H
                have H:=H1
                clear H1
                obtain rfl:=Option.some.inj H
                cases hr.out
               ·replace c65:=Bool.eq_false_iff.mpr c65
                subst c65
                have H1 : ((calxlaw04_blame.f kj51 t127 (rd t110 x67_2)).bind fun bt143 => (if t130 = 0 then (if bt143.2.2.2.2.2 = true then (calxlaw04_PitCulprits.j3 kj51 l1 t106 t127 t130 (rd t110 x67_2) t138 t110 (t110.length : Int) x67_2 (!t138) l0_0 l0_1 a3_0 a3_1 t133 t134 t135 t136 t137) else (calxlaw04_PitCulprits.j3 kj51 l1 t106 t127 t130 (rd t110 x67_2) t138 t110 (t110.length : Int) x67_2 false l0_0 l0_1 a3_0 a3_1 t133 t134 t135 t136 t137)) else (calxlaw04_PitCulprits.j3 kj51 l1 t106 t127 t130 (rd t110 x67_2) t138 t110 (t110.length : Int) x67_2 false l0_0 l0_1 a3_0 a3_1 t133 t134 t135 t136 t137))) = some r:=by rw [if_neg (show ¬ (false = true) by decide)] at H;exact H
                clear H
                have H:=H1
                clear H1
                replace H:=Option.bind_eq_some_iff.mp H
                obtain ⟨⟨t143,t144,t145,t146,t147,t148⟩,A660,H⟩:=H
                replace H : (if t130 = 0 then (if t148 = true then (calxlaw04_PitCulprits.j3 kj51 l1 t106 t127 t130 (rd t110 x67_2) t138 t110 (t110.length : Int) x67_2 (!t138) l0_0 l0_1 a3_0 a3_1 t133 t134 t135 t136 t137) else (calxlaw04_PitCulprits.j3 kj51 l1 t106 t127 t130 (rd t110 x67_2) t138 t110 (t110.length : Int) x67_2 false l0_0 l0_1 a3_0 a3_1 t133 t134 t135 t136 t137)) else (calxlaw04_PitCulprits.j3 kj51 l1 t106 t127 t130 (rd t110 x67_2) t138 t110 (t110.length : Int) x67_2 false l0_0 l0_1 a3_0 a3_1 t133 t134 t135 t136 t137)) = some r:=H
                have A66:=am A660
                clear A660
                have HC67:=am H
                clear H
                obtain ⟨Ao68,co68,eo68⟩:=Kd.V_slice HO_13.out
                subst eo68
                go_upto_region 18 with (first|((with_reducible refine g_ ?_);refine cE (some 95) Tryz.func66 #[.slice Ao68 t127.length co68,ii (rd t110 x67_2)] ?_;(with_reducible refine (calxlaw04_blame.calls kj51 _ _ t127 (rd t110 x67_2) t143 t144 t145 t146 t147 t148 _ ?side1 ?side2 A66.out).mono ?_);(case side1 => repeat (first|exact (Kd.V_reads' HO_13.out).2.2|(with_reducible refine Kd.C_alloc ?_ _)|(with_reducible refine Kd.C_drewN ?_ _)|(with_reducible refine Kd.C_drew ?_)));(case side2 => exact (Kd.V_reads' HO_13.out).2.1);rintro e w69 ⟨rfl,hb⟩;refine ⟨_,rfl,?_⟩;replace HO_9:=am (Kd.V_below (wV HO_9.out) hb);replace HO_13:=am (Kd.V_below (wV HO_13.out) hb);replace HO_65:=am (Kd.V_below (wV HO_65.out) hb);replace BK101:=am (blk_below (vb BK101.out) hb);replace BK102:=am (blk_below (vb BK102.out) hb);replace BK103:=am (blk_below (vb BK103.out) hb);replace BK139:=am (blk_below (vb BK139.out) hb);replace HB:=am (below_step (v4 HB.out GE101.out GE102.out GE103.out GE139.out) hb);(try clear hb);(try clear hb2);(try clear hk);(try clear hi))|((with_reducible refine gate_dst (N:=22) rfl ?_);(try (refine gate_guard (by rfl) ?_;dsimp only));refine bE 22 #[ii 0,ii 0,ii 0,ii 0,ii 0] 139 ?_;intro gb149 hg w70 hbox hb;have BK149:=am (hbox);have GW149:=am (lg hg (below_size (v4 HB.out GE101.out GE102.out GE103.out GE139.out)) : w.heap.size ≤ gb149);have GE149:=GW149;have NB101_149:=am (nl hg (vb BK101.out));have NB149_101:=am ((nl hg (vb BK101.out)).symm);have NB102_149:=am (nl hg (vb BK102.out));have NB149_102:=am ((nl hg (vb BK102.out)).symm);have NB103_149:=am (nl hg (vb BK103.out));have NB149_103:=am ((nl hg (vb BK103.out)).symm);have NB139_149:=am (nl hg (vb BK139.out));have NB149_139:=am ((nl hg (vb BK139.out)).symm);replace HO_9:=am (Kd.V_below (Kd.V_elderB (wV HO_9.out) gb149 (Nat.le_of_eq hg.symm)) hb);replace HO_13:=am (Kd.V_below (Kd.V_elderB (wV HO_13.out) gb149 (Nat.le_of_eq hg.symm)) hb);replace HO_65:=am (Kd.V_below (Kd.V_elderB (wV HO_65.out) gb149 (Nat.le_of_eq hg.symm)) hb);replace BK101:=am (blk_below (vb BK101.out) hb);replace BK102:=am (blk_below (vb BK102.out) hb);replace BK103:=am (blk_below (vb BK103.out) hb);replace BK139:=am (blk_below (vb BK139.out) hb);replace HB:=am (below_step (v4 HB.out GE101.out GE102.out GE103.out GE139.out) hb);clear hb hbox hg;have hnb71:=NB149_101.out;have hnc71:=NB101_149.out;have hnb72:=NB149_102.out;have hnc72:=NB102_149.out;have hnb73:=NB149_103.out;have hnc73:=NB103_149.out;have hnb74:=NB149_139.out;have hnc74:=NB139_149.out;have hcz75_0:=bd BK149.out 0;have hcz75_1:=bd BK149.out 1;have hcz75_2:=bd BK149.out 2;have hcz75_3:=bd BK149.out 3;have hcz75_4:=bd BK149.out 4;have hfz75_0:=blk_frozen BK149.out 0;have hfz75_1:=blk_frozen BK149.out 1;have hfz75_2:=blk_frozen BK149.out 2;have hfz75_3:=blk_frozen BK149.out 3;have hfz75_4:=blk_frozen BK149.out 4))
                (try simp only [Act.put,List.setIfInBounds_toArray,List.set_cons_zero,List.set_cons_succ])
                go_cut [106] (fun v106 wc => ∃ (kq : Nat) (x106_66 : Bool),v106 = .bool x106_66 ∧ Aside0 (calxlaw04_PitCulprits.j3 kq l1 t106 t127 t130 (rd t110 x67_2) t138 t110 (t110.length : Int) x67_2 x106_66 l0_0 l0_1 a3_0 a3_1 t133 t134 t135 t136 t137 = some r) ∧ Aside0 (kq ≤ kj51) ∧ Aside0 (Kd.V k139 139 wc w.heap.size (fun k_ => k_ ≠ gb101 ∧ k_ ≠ gb102 ∧ k_ ≠ gb103 ∧ k_ ≠ gb139 ∧ k_ ≠ gb149) (.slice Ao53 t106.length co53) t106) ∧ Aside0 (Kd.V k139 139 wc w.heap.size (fun k_ => k_ ≠ gb101 ∧ k_ ≠ gb102 ∧ k_ ≠ gb103 ∧ k_ ≠ gb139 ∧ k_ ≠ gb149) (.slice Ao68 t127.length co68) t127) ∧ Aside0 (Kd.V (Kd.int .i64) 3 wc w.heap.size (fun k_ => k_ ≠ gb101 ∧ k_ ≠ gb102 ∧ k_ ≠ gb103 ∧ k_ ≠ gb139 ∧ k_ ≠ gb149) (.slice (some ad132) t110.length co46) t110) ∧ Aside0 (wc.heap[gb101]? = some (.cells #[(.slice A0_0 l0_0.length c0_0),(.slice A0_1 l0_1.length c0_1)] 32 (0,0))) ∧ Aside0 (wc.heap[gb102]? = some (.cells #[ii a2_0,ii a2_1,ii a2_2] 137 (0,0))) ∧ Aside0 (wc.heap[gb103]? = some (.cells #[ii a3_0,ii a3_1] 43 (0,0))) ∧ Aside0 (wc.heap[gb139]? = some (.cells #[ii t133,ii t134,ii t135,ii t136,ii t137] 139 (0,0))) ∧ Aside0 (wc.heap[gb149]? = some (.cells #[ii t143,ii t144,ii t145,ii t146,ii t147] 139 (0,0))) ∧ Aside0 (Below w.heap.size w wc))
                case first =>
                 have H:=HC67.out
                 clear HC67
                 by_cases c76 : t130 = 0
                 ·rw [if_pos c76] at H
                  have c76b0 : (t130 == 0) = true:=beq_iff_eq.mpr c76
                  have c76b1 : (t130 != 0) = false:=bne_eq_false_iff_eq.mpr c76
                  clear c76
                  (first|rw [c76b0]|(simp only [i64_w,i32_w];rw [c76b0])|skip)
                  by_cases c77 : t148 = true
                  ·subst c77
                   have H1 : (calxlaw04_PitCulprits.j3 kj51 l1 t106 t127 t130 (rd t110 x67_2) t138 t110 (t110.length : Int) x67_2 (!t138) l0_0 l0_1 a3_0 a3_1 t133 t134 t135 t136 t137) = some r:=by rw [if_pos rfl] at H;exact H
                   clear H
                   have H:=H1
                   clear H1
                   have H':=am H
                   clear H
                   go_wp2
                   go_meet
                   case rel => exact ⟨_,(!t138),ve,H',⟨by have:=HJ4.out;have:=HK2.out;have:=HJ51.out;first|omega|exact Nat.le_refl _⟩,⟨by (with_reducible repeat (first|apply Kd.V_alloc|apply Kd.V_drewN|apply Kd.V_drew));exact Kd.V_mono (Kd.V_far (p:=⟨gb149,4,none⟩) (Kd.V_far (p:=⟨gb149,3,none⟩) (Kd.V_far (p:=⟨gb149,2,none⟩) (Kd.V_far (p:=⟨gb149,1,none⟩) (Kd.V_far (p:=⟨gb149,0,none⟩) (Kd.V_mono HO_9.out (fun k_ hk => (⟨hk,hk.2⟩ : _ ∧ k_ ≠ gb149))) (fun _ hk => hk.2) (ii t143)) (fun _ hk => hk.2) (ii t144)) (fun _ hk => hk.2) (ii t145)) (fun _ hk => hk.2) (ii t146)) (fun _ hk => hk.2) (ii t147)) (fun _ hk => ⟨hk.1.1.1,⟨hk.1.1.2.1,⟨hk.1.1.2.2.1,⟨hk.1.1.2.2.2,hk.1.2⟩⟩⟩⟩)⟩,⟨by (with_reducible repeat (first|apply Kd.V_alloc|apply Kd.V_drewN|apply Kd.V_drew));exact Kd.V_mono (Kd.V_far (p:=⟨gb149,4,none⟩) (Kd.V_far (p:=⟨gb149,3,none⟩) (Kd.V_far (p:=⟨gb149,2,none⟩) (Kd.V_far (p:=⟨gb149,1,none⟩) (Kd.V_far (p:=⟨gb149,0,none⟩) (Kd.V_mono HO_13.out (fun k_ hk => (⟨hk,hk.2⟩ : _ ∧ k_ ≠ gb149))) (fun _ hk => hk.2) (ii t143)) (fun _ hk => hk.2) (ii t144)) (fun _ hk => hk.2) (ii t145)) (fun _ hk => hk.2) (ii t146)) (fun _ hk => hk.2) (ii t147)) (fun _ hk => ⟨hk.1.1.1,⟨hk.1.1.2.1,⟨hk.1.1.2.2.1,⟨hk.1.1.2.2.2,hk.1.2⟩⟩⟩⟩)⟩,⟨by (with_reducible repeat (first|apply Kd.V_alloc|apply Kd.V_drewN|apply Kd.V_drew));exact Kd.V_mono (Kd.V_far (p:=⟨gb149,4,none⟩) (Kd.V_far (p:=⟨gb149,3,none⟩) (Kd.V_far (p:=⟨gb149,2,none⟩) (Kd.V_far (p:=⟨gb149,1,none⟩) (Kd.V_far (p:=⟨gb149,0,none⟩) (Kd.V_mono HO_65.out (fun k_ hk => (⟨hk,hk.2⟩ : _ ∧ k_ ≠ gb149))) (fun _ hk => hk.2) (ii t143)) (fun _ hk => hk.2) (ii t144)) (fun _ hk => hk.2) (ii t145)) (fun _ hk => hk.2) (ii t146)) (fun _ hk => hk.2) (ii t147)) (fun _ hk => ⟨hk.1.1.1,⟨hk.1.1.2.1,⟨hk.1.1.2.2.1,⟨hk.1.1.2.2.2,hk.1.2⟩⟩⟩⟩)⟩,⟨by (with_reducible repeat (first|refine blk_drewN ?_ _|refine blk_drew ?_|refine blk_alloc ?_ _));refine blk_far ?_ NB101_149.out _;(with_reducible repeat (first|refine blk_drewN ?_ _|refine blk_drew ?_|refine blk_alloc ?_ _));refine blk_far ?_ NB101_149.out _;(with_reducible repeat (first|refine blk_drewN ?_ _|refine blk_drew ?_|refine blk_alloc ?_ _));refine blk_far ?_ NB101_149.out _;(with_reducible repeat (first|refine blk_drewN ?_ _|refine blk_drew ?_|refine blk_alloc ?_ _));refine blk_far ?_ NB101_149.out _;(with_reducible repeat (first|refine blk_drewN ?_ _|refine blk_drew ?_|refine blk_alloc ?_ _));refine blk_far ?_ NB101_149.out _;(with_reducible repeat (first|refine blk_drewN ?_ _|refine blk_drew ?_|refine blk_alloc ?_ _));exact BK101.out⟩,⟨by (with_reducible repeat (first|refine blk_drewN ?_ _|refine blk_drew ?_|refine blk_alloc ?_ _));refine blk_far ?_ NB102_149.out _;(with_reducible repeat (first|refine blk_drewN ?_ _|refine blk_drew ?_|refine blk_alloc ?_ _));refine blk_far ?_ NB102_149.out _;(with_reducible repeat (first|refine blk_drewN ?_ _|refine blk_drew ?_|refine blk_alloc ?_ _));refine blk_far ?_ NB102_149.out _;(with_reducible repeat (first|refine blk_drewN ?_ _|refine blk_drew ?_|refine blk_alloc ?_ _));refine blk_far ?_ NB102_149.out _;(with_reducible repeat (first|refine blk_drewN ?_ _|refine blk_drew ?_|refine blk_alloc ?_ _));refine blk_far ?_ NB102_149.out _;(with_reducible repeat (first|refine blk_drewN ?_ _|refine blk_drew ?_|refine blk_alloc ?_ _));exact BK102.out⟩,⟨by (with_reducible repeat (first|refine blk_drewN ?_ _|refine blk_drew ?_|refine blk_alloc ?_ _));refine blk_far ?_ NB103_149.out _;(with_reducible repeat (first|refine blk_drewN ?_ _|refine blk_drew ?_|refine blk_alloc ?_ _));refine blk_far ?_ NB103_149.out _;(with_reducible repeat (first|refine blk_drewN ?_ _|refine blk_drew ?_|refine blk_alloc ?_ _));refine blk_far ?_ NB103_149.out _;(with_reducible repeat (first|refine blk_drewN ?_ _|refine blk_drew ?_|refine blk_alloc ?_ _));refine blk_far ?_ NB103_149.out _;(with_reducible repeat (first|refine blk_drewN ?_ _|refine blk_drew ?_|refine blk_alloc ?_ _));refine blk_far ?_ NB103_149.out _;(with_reducible repeat (first|refine blk_drewN ?_ _|refine blk_drew ?_|refine blk_alloc ?_ _));exact BK103.out⟩,⟨by (with_reducible repeat (first|refine blk_drewN ?_ _|refine blk_drew ?_|refine blk_alloc ?_ _));refine blk_far ?_ NB139_149.out _;(with_reducible repeat (first|refine blk_drewN ?_ _|refine blk_drew ?_|refine blk_alloc ?_ _));refine blk_far ?_ NB139_149.out _;(with_reducible repeat (first|refine blk_drewN ?_ _|refine blk_drew ?_|refine blk_alloc ?_ _));refine blk_far ?_ NB139_149.out _;(with_reducible repeat (first|refine blk_drewN ?_ _|refine blk_drew ?_|refine blk_alloc ?_ _));refine blk_far ?_ NB139_149.out _;(with_reducible repeat (first|refine blk_drewN ?_ _|refine blk_drew ?_|refine blk_alloc ?_ _));refine blk_far ?_ NB139_149.out _;(with_reducible repeat (first|refine blk_drewN ?_ _|refine blk_drew ?_|refine blk_alloc ?_ _));exact BK139.out⟩,⟨by (with_reducible repeat (first|refine blk_drewN ?_ _|refine blk_drew ?_|refine blk_alloc ?_ _));refine blk_put (cs:=#[ii t143,ii t144,ii t145,ii t146,ii 0]) ?_ 4 _ rfl;(with_reducible repeat (first|refine blk_drewN ?_ _|refine blk_drew ?_|refine blk_alloc ?_ _));refine blk_put (cs:=#[ii t143,ii t144,ii t145,ii 0,ii 0]) ?_ 3 _ rfl;(with_reducible repeat (first|refine blk_drewN ?_ _|refine blk_drew ?_|refine blk_alloc ?_ _));refine blk_put (cs:=#[ii t143,ii t144,ii 0,ii 0,ii 0]) ?_ 2 _ rfl;(with_reducible repeat (first|refine blk_drewN ?_ _|refine blk_drew ?_|refine blk_alloc ?_ _));refine blk_put (cs:=#[ii t143,ii 0,ii 0,ii 0,ii 0]) ?_ 1 _ rfl;(with_reducible repeat (first|refine blk_drewN ?_ _|refine blk_drew ?_|refine blk_alloc ?_ _));refine blk_put (cs:=#[ii 0,ii 0,ii 0,ii 0,ii 0]) ?_ 0 _ rfl;(with_reducible repeat (first|refine blk_drewN ?_ _|refine blk_drew ?_|refine blk_alloc ?_ _));exact BK149.out⟩,⟨v5 HB.out GE101.out GE102.out GE103.out GE139.out GE149.out⟩⟩
                  ·replace c77:=Bool.eq_false_iff.mpr c77
                   subst c77
                   have H1 : (calxlaw04_PitCulprits.j3 kj51 l1 t106 t127 t130 (rd t110 x67_2) t138 t110 (t110.length : Int) x67_2 false l0_0 l0_1 a3_0 a3_1 t133 t134 t135 t136 t137) = some r:=by rw [if_neg (show ¬ (false = true) by decide)] at H;exact H
                   clear H
                   have H:=H1
                   clear H1
                   have H':=am H
                   clear H
                   go_wp2
                   go_meet
                   case rel => exact ⟨_,(false),ve,H',⟨by have:=HJ4.out;have:=HK2.out;have:=HJ51.out;first|omega|exact Nat.le_refl _⟩,⟨by (with_reducible repeat (first|apply Kd.V_alloc|apply Kd.V_drewN|apply Kd.V_drew));exact Kd.V_mono (Kd.V_far (p:=⟨gb149,4,none⟩) (Kd.V_far (p:=⟨gb149,3,none⟩) (Kd.V_far (p:=⟨gb149,2,none⟩) (Kd.V_far (p:=⟨gb149,1,none⟩) (Kd.V_far (p:=⟨gb149,0,none⟩) (Kd.V_mono HO_9.out (fun k_ hk => (⟨hk,hk.2⟩ : _ ∧ k_ ≠ gb149))) (fun _ hk => hk.2) (ii t143)) (fun _ hk => hk.2) (ii t144)) (fun _ hk => hk.2) (ii t145)) (fun _ hk => hk.2) (ii t146)) (fun _ hk => hk.2) (ii t147)) (fun _ hk => ⟨hk.1.1.1,⟨hk.1.1.2.1,⟨hk.1.1.2.2.1,⟨hk.1.1.2.2.2,hk.1.2⟩⟩⟩⟩)⟩,⟨by (with_reducible repeat (first|apply Kd.V_alloc|apply Kd.V_drewN|apply Kd.V_drew));exact Kd.V_mono (Kd.V_far (p:=⟨gb149,4,none⟩) (Kd.V_far (p:=⟨gb149,3,none⟩) (Kd.V_far (p:=⟨gb149,2,none⟩) (Kd.V_far (p:=⟨gb149,1,none⟩) (Kd.V_far (p:=⟨gb149,0,none⟩) (Kd.V_mono HO_13.out (fun k_ hk => (⟨hk,hk.2⟩ : _ ∧ k_ ≠ gb149))) (fun _ hk => hk.2) (ii t143)) (fun _ hk => hk.2) (ii t144)) (fun _ hk => hk.2) (ii t145)) (fun _ hk => hk.2) (ii t146)) (fun _ hk => hk.2) (ii t147)) (fun _ hk => ⟨hk.1.1.1,⟨hk.1.1.2.1,⟨hk.1.1.2.2.1,⟨hk.1.1.2.2.2,hk.1.2⟩⟩⟩⟩)⟩,⟨by (with_reducible repeat (first|apply Kd.V_alloc|apply Kd.V_drewN|apply Kd.V_drew));exact Kd.V_mono (Kd.V_far (p:=⟨gb149,4,none⟩) (Kd.V_far (p:=⟨gb149,3,none⟩) (Kd.V_far (p:=⟨gb149,2,none⟩) (Kd.V_far (p:=⟨gb149,1,none⟩) (Kd.V_far (p:=⟨gb149,0,none⟩) (Kd.V_mono HO_65.out (fun k_ hk => (⟨hk,hk.2⟩ : _ ∧ k_ ≠ gb149))) (fun _ hk => hk.2) (ii t143)) (fun _ hk => hk.2) (ii t144)) (fun _ hk => hk.2) (ii t145)) (fun _ hk => hk.2) (ii t146)) (fun _ hk => hk.2) (ii t147)) (fun _ hk => ⟨hk.1.1.1,⟨hk.1.1.2.1,⟨hk.1.1.2.2.1,⟨hk.1.1.2.2.2,hk.1.2⟩⟩⟩⟩)⟩,⟨by (with_reducible repeat (first|refine blk_drewN ?_ _|refine blk_drew ?_|refine blk_alloc ?_ _));refine blk_far ?_ NB101_149.out _;(with_reducible repeat (first|refine blk_drewN ?_ _|refine blk_drew ?_|refine blk_alloc ?_ _));refine blk_far ?_ NB101_149.out _;(with_reducible repeat (first|refine blk_drewN ?_ _|refine blk_drew ?_|refine blk_alloc ?_ _));refine blk_far ?_ NB101_149.out _;(with_reducible repeat (first|refine blk_drewN ?_ _|refine blk_drew ?_|refine blk_alloc ?_ _));refine blk_far ?_ NB101_149.out _;(with_reducible repeat (first|refine blk_drewN ?_ _|refine blk_drew ?_|refine blk_alloc ?_ _));refine blk_far ?_ NB101_149.out _;(with_reducible repeat (first|refine blk_drewN ?_ _|refine blk_drew ?_|refine blk_alloc ?_ _));exact BK101.out⟩,⟨by (with_reducible repeat (first|refine blk_drewN ?_ _|refine blk_drew ?_|refine blk_alloc ?_ _));refine blk_far ?_ NB102_149.out _;(with_reducible repeat (first|refine blk_drewN ?_ _|refine blk_drew ?_|refine blk_alloc ?_ _));refine blk_far ?_ NB102_149.out _;(with_reducible repeat (first|refine blk_drewN ?_ _|refine blk_drew ?_|refine blk_alloc ?_ _));refine blk_far ?_ NB102_149.out _;(with_reducible repeat (first|refine blk_drewN ?_ _|refine blk_drew ?_|refine blk_alloc ?_ _));refine blk_far ?_ NB102_149.out _;(with_reducible repeat (first|refine blk_drewN ?_ _|refine blk_drew ?_|refine blk_alloc ?_ _));refine blk_far ?_ NB102_149.out _;(with_reducible repeat (first|refine blk_drewN ?_ _|refine blk_drew ?_|refine blk_alloc ?_ _));exact BK102.out⟩,⟨by (with_reducible repeat (first|refine blk_drewN ?_ _|refine blk_drew ?_|refine blk_alloc ?_ _));refine blk_far ?_ NB103_149.out _;(with_reducible repeat (first|refine blk_drewN ?_ _|refine blk_drew ?_|refine blk_alloc ?_ _));refine blk_far ?_ NB103_149.out _;(with_reducible repeat (first|refine blk_drewN ?_ _|refine blk_drew ?_|refine blk_alloc ?_ _));refine blk_far ?_ NB103_149.out _;(with_reducible repeat (first|refine blk_drewN ?_ _|refine blk_drew ?_|refine blk_alloc ?_ _));refine blk_far ?_ NB103_149.out _;(with_reducible repeat (first|refine blk_drewN ?_ _|refine blk_drew ?_|refine blk_alloc ?_ _));refine blk_far ?_ NB103_149.out _;(with_reducible repeat (first|refine blk_drewN ?_ _|refine blk_drew ?_|refine blk_alloc ?_ _));exact BK103.out⟩,⟨by (with_reducible repeat (first|refine blk_drewN ?_ _|refine blk_drew ?_|refine blk_alloc ?_ _));refine blk_far ?_ NB139_149.out _;(with_reducible repeat (first|refine blk_drewN ?_ _|refine blk_drew ?_|refine blk_alloc ?_ _));refine blk_far ?_ NB139_149.out _;(with_reducible repeat (first|refine blk_drewN ?_ _|refine blk_drew ?_|refine blk_alloc ?_ _));refine blk_far ?_ NB139_149.out _;(with_reducible repeat (first|refine blk_drewN ?_ _|refine blk_drew ?_|refine blk_alloc ?_ _));refine blk_far ?_ NB139_149.out _;(with_reducible repeat (first|refine blk_drewN ?_ _|refine blk_drew ?_|refine blk_alloc ?_ _));refine blk_far ?_ NB139_149.out _;(with_reducible repeat (first|refine blk_drewN ?_ _|refine blk_drew ?_|refine blk_alloc ?_ _));exact BK139.out⟩,⟨by (with_reducible repeat (first|refine blk_drewN ?_ _|refine blk_drew ?_|refine blk_alloc ?_ _));refine blk_put (cs:=#[ii t143,ii t144,ii t145,ii t146,ii 0]) ?_ 4 _ rfl;(with_reducible repeat (first|refine blk_drewN ?_ _|refine blk_drew ?_|refine blk_alloc ?_ _));refine blk_put (cs:=#[ii t143,ii t144,ii t145,ii 0,ii 0]) ?_ 3 _ rfl;(with_reducible repeat (first|refine blk_drewN ?_ _|refine blk_drew ?_|refine blk_alloc ?_ _));refine blk_put (cs:=#[ii t143,ii t144,ii 0,ii 0,ii 0]) ?_ 2 _ rfl;(with_reducible repeat (first|refine blk_drewN ?_ _|refine blk_drew ?_|refine blk_alloc ?_ _));refine blk_put (cs:=#[ii t143,ii 0,ii 0,ii 0,ii 0]) ?_ 1 _ rfl;(with_reducible repeat (first|refine blk_drewN ?_ _|refine blk_drew ?_|refine blk_alloc ?_ _));refine blk_put (cs:=#[ii 0,ii 0,ii 0,ii 0,ii 0]) ?_ 0 _ rfl;(with_reducible repeat (first|refine blk_drewN ?_ _|refine blk_drew ?_|refine blk_alloc ?_ _));exact BK149.out⟩,⟨v5 HB.out GE101.out GE102.out GE103.out GE139.out GE149.out⟩⟩
                 ·rw [if_neg c76] at H
                  have c76b0 : (t130 == 0) = false:=beq_eq_false_iff_ne.mpr c76
                  have c76b1 : (t130 != 0) = true:=bne_iff_ne.mpr c76
                  (first|rw [c76b0]|(simp only [i64_w,i32_w];rw [c76b0])|skip)
                  have H':=am H
                  clear H
                  go_wp2
                  go_meet
                  case rel => exact ⟨_,(false),ve,H',⟨by have:=HJ4.out;have:=HK2.out;have:=HJ51.out;first|omega|exact Nat.le_refl _⟩,⟨by (with_reducible repeat (first|apply Kd.V_alloc|apply Kd.V_drewN|apply Kd.V_drew));exact Kd.V_mono (Kd.V_far (p:=⟨gb149,4,none⟩) (Kd.V_far (p:=⟨gb149,3,none⟩) (Kd.V_far (p:=⟨gb149,2,none⟩) (Kd.V_far (p:=⟨gb149,1,none⟩) (Kd.V_far (p:=⟨gb149,0,none⟩) (Kd.V_mono HO_9.out (fun k_ hk => (⟨hk,hk.2⟩ : _ ∧ k_ ≠ gb149))) (fun _ hk => hk.2) (ii t143)) (fun _ hk => hk.2) (ii t144)) (fun _ hk => hk.2) (ii t145)) (fun _ hk => hk.2) (ii t146)) (fun _ hk => hk.2) (ii t147)) (fun _ hk => ⟨hk.1.1.1,⟨hk.1.1.2.1,⟨hk.1.1.2.2.1,⟨hk.1.1.2.2.2,hk.1.2⟩⟩⟩⟩)⟩,⟨by (with_reducible repeat (first|apply Kd.V_alloc|apply Kd.V_drewN|apply Kd.V_drew));exact Kd.V_mono (Kd.V_far (p:=⟨gb149,4,none⟩) (Kd.V_far (p:=⟨gb149,3,none⟩) (Kd.V_far (p:=⟨gb149,2,none⟩) (Kd.V_far (p:=⟨gb149,1,none⟩) (Kd.V_far (p:=⟨gb149,0,none⟩) (Kd.V_mono HO_13.out (fun k_ hk => (⟨hk,hk.2⟩ : _ ∧ k_ ≠ gb149))) (fun _ hk => hk.2) (ii t143)) (fun _ hk => hk.2) (ii t144)) (fun _ hk => hk.2) (ii t145)) (fun _ hk => hk.2) (ii t146)) (fun _ hk => hk.2) (ii t147)) (fun _ hk => ⟨hk.1.1.1,⟨hk.1.1.2.1,⟨hk.1.1.2.2.1,⟨hk.1.1.2.2.2,hk.1.2⟩⟩⟩⟩)⟩,⟨by (with_reducible repeat (first|apply Kd.V_alloc|apply Kd.V_drewN|apply Kd.V_drew));exact Kd.V_mono (Kd.V_far (p:=⟨gb149,4,none⟩) (Kd.V_far (p:=⟨gb149,3,none⟩) (Kd.V_far (p:=⟨gb149,2,none⟩) (Kd.V_far (p:=⟨gb149,1,none⟩) (Kd.V_far (p:=⟨gb149,0,none⟩) (Kd.V_mono HO_65.out (fun k_ hk => (⟨hk,hk.2⟩ : _ ∧ k_ ≠ gb149))) (fun _ hk => hk.2) (ii t143)) (fun _ hk => hk.2) (ii t144)) (fun _ hk => hk.2) (ii t145)) (fun _ hk => hk.2) (ii t146)) (fun _ hk => hk.2) (ii t147)) (fun _ hk => ⟨hk.1.1.1,⟨hk.1.1.2.1,⟨hk.1.1.2.2.1,⟨hk.1.1.2.2.2,hk.1.2⟩⟩⟩⟩)⟩,⟨by (with_reducible repeat (first|refine blk_drewN ?_ _|refine blk_drew ?_|refine blk_alloc ?_ _));refine blk_far ?_ NB101_149.out _;(with_reducible repeat (first|refine blk_drewN ?_ _|refine blk_drew ?_|refine blk_alloc ?_ _));refine blk_far ?_ NB101_149.out _;(with_reducible repeat (first|refine blk_drewN ?_ _|refine blk_drew ?_|refine blk_alloc ?_ _));refine blk_far ?_ NB101_149.out _;(with_reducible repeat (first|refine blk_drewN ?_ _|refine blk_drew ?_|refine blk_alloc ?_ _));refine blk_far ?_ NB101_149.out _;(with_reducible repeat (first|refine blk_drewN ?_ _|refine blk_drew ?_|refine blk_alloc ?_ _));refine blk_far ?_ NB101_149.out _;(with_reducible repeat (first|refine blk_drewN ?_ _|refine blk_drew ?_|refine blk_alloc ?_ _));exact BK101.out⟩,⟨by (with_reducible repeat (first|refine blk_drewN ?_ _|refine blk_drew ?_|refine blk_alloc ?_ _));refine blk_far ?_ NB102_149.out _;(with_reducible repeat (first|refine blk_drewN ?_ _|refine blk_drew ?_|refine blk_alloc ?_ _));refine blk_far ?_ NB102_149.out _;(with_reducible repeat (first|refine blk_drewN ?_ _|refine blk_drew ?_|refine blk_alloc ?_ _));refine blk_far ?_ NB102_149.out _;(with_reducible repeat (first|refine blk_drewN ?_ _|refine blk_drew ?_|refine blk_alloc ?_ _));refine blk_far ?_ NB102_149.out _;(with_reducible repeat (first|refine blk_drewN ?_ _|refine blk_drew ?_|refine blk_alloc ?_ _));refine blk_far ?_ NB102_149.out _;(with_reducible repeat (first|refine blk_drewN ?_ _|refine blk_drew ?_|refine blk_alloc ?_ _));exact BK102.out⟩,⟨by (with_reducible repeat (first|refine blk_drewN ?_ _|refine blk_drew ?_|refine blk_alloc ?_ _));refine blk_far ?_ NB103_149.out _;(with_reducible repeat (first|refine blk_drewN ?_ _|refine blk_drew ?_|refine blk_alloc ?_ _));refine blk_far ?_ NB103_149.out _;(with_reducible repeat (first|refine blk_drewN ?_ _|refine blk_drew ?_|refine blk_alloc ?_ _));refine blk_far ?_ NB103_149.out _;(with_reducible repeat (first|refine blk_drewN ?_ _|refine blk_drew ?_|refine blk_alloc ?_ _));refine blk_far ?_ NB103_149.out _;(with_reducible repeat (first|refine blk_drewN ?_ _|refine blk_drew ?_|refine blk_alloc ?_ _));refine blk_far ?_ NB103_149.out _;(with_reducible repeat (first|refine blk_drewN ?_ _|refine blk_drew ?_|refine blk_alloc ?_ _));exact BK103.out⟩,⟨by (with_reducible repeat (first|refine blk_drewN ?_ _|refine blk_drew ?_|refine blk_alloc ?_ _));refine blk_far ?_ NB139_149.out _;(with_reducible repeat (first|refine blk_drewN ?_ _|refine blk_drew ?_|refine blk_alloc ?_ _));refine blk_far ?_ NB139_149.out _;(with_reducible repeat (first|refine blk_drewN ?_ _|refine blk_drew ?_|refine blk_alloc ?_ _));refine blk_far ?_ NB139_149.out _;(with_reducible repeat (first|refine blk_drewN ?_ _|refine blk_drew ?_|refine blk_alloc ?_ _));refine blk_far ?_ NB139_149.out _;(with_reducible repeat (first|refine blk_drewN ?_ _|refine blk_drew ?_|refine blk_alloc ?_ _));refine blk_far ?_ NB139_149.out _;(with_reducible repeat (first|refine blk_drewN ?_ _|refine blk_drew ?_|refine blk_alloc ?_ _));exact BK139.out⟩,⟨by (with_reducible repeat (first|refine blk_drewN ?_ _|refine blk_drew ?_|refine blk_alloc ?_ _));refine blk_put (cs:=#[ii t143,ii t144,ii t145,ii t146,ii 0]) ?_ 4 _ rfl;(with_reducible repeat (first|refine blk_drewN ?_ _|refine blk_drew ?_|refine blk_alloc ?_ _));refine blk_put (cs:=#[ii t143,ii t144,ii t145,ii 0,ii 0]) ?_ 3 _ rfl;(with_reducible repeat (first|refine blk_drewN ?_ _|refine blk_drew ?_|refine blk_alloc ?_ _));refine blk_put (cs:=#[ii t143,ii t144,ii 0,ii 0,ii 0]) ?_ 2 _ rfl;(with_reducible repeat (first|refine blk_drewN ?_ _|refine blk_drew ?_|refine blk_alloc ?_ _));refine blk_put (cs:=#[ii t143,ii 0,ii 0,ii 0,ii 0]) ?_ 1 _ rfl;(with_reducible repeat (first|refine blk_drewN ?_ _|refine blk_drew ?_|refine blk_alloc ?_ _));refine blk_put (cs:=#[ii 0,ii 0,ii 0,ii 0,ii 0]) ?_ 0 _ rfl;(with_reducible repeat (first|refine blk_drewN ?_ _|refine blk_drew ?_|refine blk_alloc ?_ _));exact BK149.out⟩,⟨v5 HB.out GE101.out GE102.out GE103.out GE139.out GE149.out⟩⟩
                case rest =>
                 clear HC67
                 try clear c1;try clear p1;try clear q1;try clear hx1;try clear c2;try clear p2;try clear c3;try clear c4;try clear c5;try clear c6;try clear c7;try clear p13;try clear q13;try clear hx13;try clear c19;try clear c24;try clear c24b0;try clear c24b1;try clear c25;try clear c25b0;try clear c25b1;try clear c26;try clear c27;try clear c29;try clear c30;try clear c47;try clear c47b0;try clear c48;try clear c48b0;try clear c49;try clear c49b0;try clear c56;try clear c57;try clear c58;try clear c60;try clear c61;try clear c64;try clear c64b0;try clear c64b1;try clear c65;try clear c66;try clear c71;try clear c72;try clear c73;try clear c74;try clear c76;try clear c76b0;try clear c76b1;try clear c77;try clear hcz31_0;try clear hcz31_1;try clear hcz33_0;try clear hcz33_1;try clear hcz59_0;try clear hcz59_1;try clear hcz59_2;try clear hcz59_3;try clear hcz59_4;try clear hcz62_0;try clear hcz62_1;try clear hcz75_0;try clear hcz75_1;try clear hcz75_2;try clear hcz75_3;try clear hcz75_4;try clear hfz31_0;try clear hfz31_1;try clear hfz33_0;try clear hfz33_1;try clear hfz59_0;try clear hfz59_1;try clear hfz59_2;try clear hfz59_3;try clear hfz59_4;try clear hfz62_0;try clear hfz62_1;try clear hfz75_0;try clear hfz75_1;try clear hfz75_2;try clear hfz75_3;try clear hfz75_4;try clear hx132_0;try clear p1;try clear p13;try clear p132;try clear p2;try clear q1;try clear q13;try clear q132
                 obtain ⟨kq,x106_66,rfl,HA,HJ66,HO_9,HO_13,HO_65,BK101,BK102,BK103,BK139,BK149,HB⟩:=hcut
                 cases kq with
                |zero => exact absurd HA.out (by simp [calxlaw04_PitCulprits.j3])
                |succ kj66 =>
                  have H:=HA.out
                  clear HA
                  simp only [calxlaw04_PitCulprits.j3] at H
                  by_cases c78 : x106_66 = true
                  ·subst c78
                   have H1 : (some false) = some r:=by rw [if_pos rfl] at H;exact H
                   clear H
                   have H:=H1
                   clear H1
                   obtain rfl:=Option.some.inj H
                   cases hr.out
                  ·replace c78:=Bool.eq_false_iff.mpr c78
                   subst c78
                   have H1 : ((pit_CheckBlame.f l0_0 l0_1 l1 (rd t110 x67_2) a3_0 a3_1).bind fun t150 => (if t150 = 1 then (calxlaw04_PitCulprits.l0 kj66 l1 t106 t127 t130 t110 (t110.length : Int) (wrap64 (x67_2 + 1)) l0_0 l0_1 a3_0 a3_1) else (if t138 = true then ((pit_Compare.f kj66 t134 t135 a3_0 a3_1).bind fun bt151 => ((pit_Compare.f kj66 a3_0 a3_1 t136 t137).bind fun bt153 => (if bt151.2 = 0 then (if bt153.2 = 0 then (if bt151.1 ≤ 0 then (if ((t150 == 0) != (decide (bt153.1 ≤ 0))) = true then (some false) else ((pit_CheckBlame.f l0_0 l0_1 l1 (rd t110 x67_2) t134 t135).bind fun t155 => (if t155 = 0 then ((pit_CheckBlame.f l0_0 l0_1 l1 (rd t110 x67_2) t136 t137).bind fun t156 => (if t156 = 0 then (calxlaw04_PitCulprits.l0 kj66 l1 t106 t127 t130 t110 (t110.length : Int) (wrap64 (x67_2 + 1)) l0_0 l0_1 a3_0 a3_1) else (some false))) else (some false)))) else (if ((t150 == 0) != false) = true then (some false) else ((pit_CheckBlame.f l0_0 l0_1 l1 (rd t110 x67_2) t134 t135).bind fun t157 => (if t157 = 0 then ((pit_CheckBlame.f l0_0 l0_1 l1 (rd t110 x67_2) t136 t137).bind fun t158 => (if t158 = 0 then (calxlaw04_PitCulprits.l0 kj66 l1 t106 t127 t130 t110 (t110.length : Int) (wrap64 (x67_2 + 1)) l0_0 l0_1 a3_0 a3_1) else (some false))) else (some false))))) else (some false)) else (some false)))) else (if t150 = 8 then (calxlaw04_PitCulprits.l0 kj66 l1 t106 t127 t130 t110 (t110.length : Int) (wrap64 (x67_2 + 1)) l0_0 l0_1 a3_0 a3_1) else (some false))))) = some r:=by rw [if_neg (show ¬ (false = true) by decide)] at H;exact H
                   clear H
                   have H:=H1
                   clear H1
                   replace H:=Option.bind_eq_some_iff.mp H
                   obtain ⟨t150,A790,H⟩:=H
                   replace H : (if t150 = 1 then (calxlaw04_PitCulprits.l0 kj66 l1 t106 t127 t130 t110 (t110.length : Int) (wrap64 (x67_2 + 1)) l0_0 l0_1 a3_0 a3_1) else (if t138 = true then ((pit_Compare.f kj66 t134 t135 a3_0 a3_1).bind fun bt151 => ((pit_Compare.f kj66 a3_0 a3_1 t136 t137).bind fun bt153 => (if bt151.2 = 0 then (if bt153.2 = 0 then (if bt151.1 ≤ 0 then (if ((t150 == 0) != (decide (bt153.1 ≤ 0))) = true then (some false) else ((pit_CheckBlame.f l0_0 l0_1 l1 (rd t110 x67_2) t134 t135).bind fun t155 => (if t155 = 0 then ((pit_CheckBlame.f l0_0 l0_1 l1 (rd t110 x67_2) t136 t137).bind fun t156 => (if t156 = 0 then (calxlaw04_PitCulprits.l0 kj66 l1 t106 t127 t130 t110 (t110.length : Int) (wrap64 (x67_2 + 1)) l0_0 l0_1 a3_0 a3_1) else (some false))) else (some false)))) else (if ((t150 == 0) != false) = true then (some false) else ((pit_CheckBlame.f l0_0 l0_1 l1 (rd t110 x67_2) t134 t135).bind fun t157 => (if t157 = 0 then ((pit_CheckBlame.f l0_0 l0_1 l1 (rd t110 x67_2) t136 t137).bind fun t158 => (if t158 = 0 then (calxlaw04_PitCulprits.l0 kj66 l1 t106 t127 t130 t110 (t110.length : Int) (wrap64 (x67_2 + 1)) l0_0 l0_1 a3_0 a3_1) else (some false))) else (some false))))) else (some false)) else (some false)))) else (if t150 = 8 then (calxlaw04_PitCulprits.l0 kj66 l1 t106 t127 t130 t110 (t110.length : Int) (wrap64 (x67_2 + 1)) l0_0 l0_1 a3_0 a3_1) else (some false)))) = some r:=H
                   have A79:=am A790
                   clear A790
                   by_cases c80 : t150 = 1
                   ·rw [if_pos c80] at H
                    have c80b0 : (t150 == 1) = true:=beq_iff_eq.mpr c80
                    have c80b1 : (t150 != 1) = false:=bne_eq_false_iff_eq.mpr c80
                    clear c80
                    have H':=am H
                    clear H
                    have hnb81:=NB101_102.out
                    have hnc81:=NB102_101.out
                    have hnb82:=NB101_103.out
                    have hnc82:=NB103_101.out
                    have hnb83:=NB101_139.out
                    have hnc83:=NB139_101.out
                    have hnb84:=NB101_149.out
                    have hnc84:=NB149_101.out
                    have hcz85_0:=bd BK101.out 0
                    have hcz85_1:=bd BK101.out 1
                    have hfz85_0:=blk_frozen BK101.out 0
                    have hfz85_1:=blk_frozen BK101.out 1
                    have hnb86:=NB103_102.out
                    have hnc86:=NB102_103.out
                    have hnb87:=NB103_139.out
                    have hnc87:=NB139_103.out
                    have hnb88:=NB103_149.out
                    have hnc88:=NB149_103.out
                    have hcz89_0:=bd BK103.out 0
                    have hcz89_1:=bd BK103.out 1
                    have hfz89_0:=blk_frozen BK103.out 0
                    have hfz89_1:=blk_frozen BK103.out 1
                    go_wp2_with (first|((with_reducible refine g_ ?_);refine cE (some 111) Tryz.func61 #[.agg #[.slice A0_0 l0_0.length c0_0,.slice A0_1 l0_1.length c0_1],.slice A1 l1.length c1,ii (rd t110 x67_2),.agg #[ii a3_0,ii a3_1]] ?_;(with_reducible refine (pit_CheckBlame.calls _ _ l0_0 _ _ l0_1 _ _ l1 (rd t110 x67_2) a3_0 a3_1 t150 _ ?side1 ?side2 ?side3 ?side4 ?side5 ?side6 A79.out).mono ?_);(case side1 => repeat (first|exact (Kd.C_below HR0_0.out HB.out)|(with_reducible refine Kd.C_alloc ?_ _)|(with_reducible refine Kd.C_drewN ?_ _)|(with_reducible refine Kd.C_drew ?_)));(case side2 => exact HC0_0.out);(case side3 => repeat (first|exact (Kd.C_below HR0_1.out HB.out)|(with_reducible refine Kd.C_alloc ?_ _)|(with_reducible refine Kd.C_drewN ?_ _)|(with_reducible refine Kd.C_drew ?_)));(case side4 => exact HC0_1.out);(case side5 => repeat (first|exact (Kd.C_below HR1.out HB.out)|(with_reducible refine Kd.C_alloc ?_ _)|(with_reducible refine Kd.C_drewN ?_ _)|(with_reducible refine Kd.C_drew ?_)));(case side6 => exact HC1.out);rintro e w90 ⟨rfl,hb⟩;refine ⟨_,rfl,?_⟩;replace HO_9:=am (Kd.V_below (wV HO_9.out) hb);replace HO_13:=am (Kd.V_below (wV HO_13.out) hb);replace HO_65:=am (Kd.V_below (wV HO_65.out) hb);replace BK101:=am (blk_below (vb BK101.out) hb);replace BK102:=am (blk_below (vb BK102.out) hb);replace BK103:=am (blk_below (vb BK103.out) hb);replace BK139:=am (blk_below (vb BK139.out) hb);replace BK149:=am (blk_below (vb BK149.out) hb);replace HB:=am (below_step (v5 HB.out GE101.out GE102.out GE103.out GE139.out GE149.out) hb);(try clear hb);(try clear hb2);(try clear hk);(try clear hi)))
                    go_roundg kj66
                    case measure => have:=HJ4.out;have:=HK2.out;have:=HJ51.out;have:=HJ66.out;omega
                    case rel => exact ⟨(wrap64 (x67_2 + 1)),ve,H',⟨by have:=HJ4.out;have:=HK2.out;have:=HJ51.out;have:=HJ66.out;omega⟩,⟨by (with_reducible repeat (first|apply Kd.V_alloc|apply Kd.V_drewN|apply Kd.V_drew));exact Kd.V_mono HO_9.out (fun _ hk => ⟨hk.1,⟨hk.2.1,hk.2.2.1⟩⟩)⟩,⟨by (with_reducible repeat (first|apply Kd.V_alloc|apply Kd.V_drewN|apply Kd.V_drew));exact Kd.V_mono HO_13.out (fun _ hk => ⟨hk.1,⟨hk.2.1,hk.2.2.1⟩⟩)⟩,⟨by (with_reducible repeat (first|apply Kd.V_alloc|apply Kd.V_drewN|apply Kd.V_drew));exact Kd.V_mono HO_65.out (fun _ hk => ⟨hk.1,⟨hk.2.1,hk.2.2.1⟩⟩)⟩,⟨vb BK101.out⟩,⟨vb BK102.out⟩,⟨vb BK103.out⟩,⟨v5 HB.out GE101.out GE102.out GE103.out GE139.out GE149.out⟩⟩
                   ·rw [if_neg c80] at H
                    have c80b0 : (t150 == 1) = false:=beq_eq_false_iff_ne.mpr c80
                    have c80b1 : (t150 != 1) = true:=bne_iff_ne.mpr c80
                    by_cases c91 : t138 = true
                    ·subst c91
                     have H1 : ((pit_Compare.f kj66 t134 t135 a3_0 a3_1).bind fun bt151 => ((pit_Compare.f kj66 a3_0 a3_1 t136 t137).bind fun bt153 => (if bt151.2 = 0 then (if bt153.2 = 0 then (if bt151.1 ≤ 0 then (if ((t150 == 0) != (decide (bt153.1 ≤ 0))) = true then (some false) else ((pit_CheckBlame.f l0_0 l0_1 l1 (rd t110 x67_2) t134 t135).bind fun t155 => (if t155 = 0 then ((pit_CheckBlame.f l0_0 l0_1 l1 (rd t110 x67_2) t136 t137).bind fun t156 => (if t156 = 0 then (calxlaw04_PitCulprits.l0 kj66 l1 t106 t127 t130 t110 (t110.length : Int) (wrap64 (x67_2 + 1)) l0_0 l0_1 a3_0 a3_1) else (some false))) else (some false)))) else (if ((t150 == 0) != false) = true then (some false) else ((pit_CheckBlame.f l0_0 l0_1 l1 (rd t110 x67_2) t134 t135).bind fun t157 => (if t157 = 0 then ((pit_CheckBlame.f l0_0 l0_1 l1 (rd t110 x67_2) t136 t137).bind fun t158 => (if t158 = 0 then (calxlaw04_PitCulprits.l0 kj66 l1 t106 t127 t130 t110 (t110.length : Int) (wrap64 (x67_2 + 1)) l0_0 l0_1 a3_0 a3_1) else (some false))) else (some false))))) else (some false)) else (some false)))) = some r:=by rw [if_pos rfl] at H;exact H
                     clear H
                     have H:=H1
                     clear H1
                     replace H:=Option.bind_eq_some_iff.mp H
                     obtain ⟨⟨t151,t152⟩,A920,H⟩:=H
                     replace H : ((pit_Compare.f kj66 a3_0 a3_1 t136 t137).bind fun bt153 => (if t152 = 0 then (if bt153.2 = 0 then (if t151 ≤ 0 then (if ((t150 == 0) != (decide (bt153.1 ≤ 0))) = true then (some false) else ((pit_CheckBlame.f l0_0 l0_1 l1 (rd t110 x67_2) t134 t135).bind fun t155 => (if t155 = 0 then ((pit_CheckBlame.f l0_0 l0_1 l1 (rd t110 x67_2) t136 t137).bind fun t156 => (if t156 = 0 then (calxlaw04_PitCulprits.l0 kj66 l1 t106 t127 t130 t110 (t110.length : Int) (wrap64 (x67_2 + 1)) l0_0 l0_1 a3_0 a3_1) else (some false))) else (some false)))) else (if ((t150 == 0) != false) = true then (some false) else ((pit_CheckBlame.f l0_0 l0_1 l1 (rd t110 x67_2) t134 t135).bind fun t157 => (if t157 = 0 then ((pit_CheckBlame.f l0_0 l0_1 l1 (rd t110 x67_2) t136 t137).bind fun t158 => (if t158 = 0 then (calxlaw04_PitCulprits.l0 kj66 l1 t106 t127 t130 t110 (t110.length : Int) (wrap64 (x67_2 + 1)) l0_0 l0_1 a3_0 a3_1) else (some false))) else (some false))))) else (some false)) else (some false))) = some r:=H
                     have A92:=am A920
                     clear A920
                     replace H:=Option.bind_eq_some_iff.mp H
                     obtain ⟨⟨t153,t154⟩,A930,H⟩:=H
                     replace H : (if t152 = 0 then (if t154 = 0 then (if t151 ≤ 0 then (if ((t150 == 0) != (decide (t153 ≤ 0))) = true then (some false) else ((pit_CheckBlame.f l0_0 l0_1 l1 (rd t110 x67_2) t134 t135).bind fun t155 => (if t155 = 0 then ((pit_CheckBlame.f l0_0 l0_1 l1 (rd t110 x67_2) t136 t137).bind fun t156 => (if t156 = 0 then (calxlaw04_PitCulprits.l0 kj66 l1 t106 t127 t130 t110 (t110.length : Int) (wrap64 (x67_2 + 1)) l0_0 l0_1 a3_0 a3_1) else (some false))) else (some false)))) else (if ((t150 == 0) != false) = true then (some false) else ((pit_CheckBlame.f l0_0 l0_1 l1 (rd t110 x67_2) t134 t135).bind fun t157 => (if t157 = 0 then ((pit_CheckBlame.f l0_0 l0_1 l1 (rd t110 x67_2) t136 t137).bind fun t158 => (if t158 = 0 then (calxlaw04_PitCulprits.l0 kj66 l1 t106 t127 t130 t110 (t110.length : Int) (wrap64 (x67_2 + 1)) l0_0 l0_1 a3_0 a3_1) else (some false))) else (some false))))) else (some false)) else (some false)) = some r:=H
                     have A93:=am A930
                     clear A930
                     by_cases c94 : t152 = 0
                     ·rw [if_pos c94] at H
                      have c94b0 : (t152 == 0) = true:=beq_iff_eq.mpr c94
                      have c94b1 : (t152 != 0) = false:=bne_eq_false_iff_eq.mpr c94
                      clear c94
                      by_cases c95 : t154 = 0
                      ·rw [if_pos c95] at H
                       have c95b0 : (t154 == 0) = true:=beq_iff_eq.mpr c95
                       have c95b1 : (t154 != 0) = false:=bne_eq_false_iff_eq.mpr c95
                       clear c95
                       by_cases c96 : t151 ≤ 0
                       ·rw [if_pos c96] at H
                        have c96b0 : decide (t151 ≤ 0) = true:=decide_eq_true c96
                        clear c96
                        by_cases c97 : ((t150 == 0) != (decide (t153 ≤ 0))) = true
                        ·rw [if_pos c97] at H
                         have c97b0 : ((t150 == 0) != (decide (t153 ≤ 0))) = true:=c97
                         (try (have c97b1 : decide ((t150 == 0) = (decide (t153 ≤ 0))) = false:=by simpa using c97))
                         (try (have c97b2 : ((t150 == 0) == (decide (t153 ≤ 0))) = false:=by simpa using c97))
                         (try (have c97b3 : ¬ ((t150 == 0) = (decide (t153 ≤ 0))):=by simpa using c97))
                         clear c97
                         obtain rfl:=Option.some.inj H
                         cases hr.out
                        ·rw [if_neg c97] at H
                         have c97b0 : ((t150 == 0) != (decide (t153 ≤ 0))) = false:=by simpa using c97
                         (try (have c97b1 : decide ((t150 == 0) = (decide (t153 ≤ 0))) = true:=by simpa using c97))
                         (try (have c97b2 : ((t150 == 0) == (decide (t153 ≤ 0))) = true:=by simpa using c97))
                         clear c97
                         replace H:=Option.bind_eq_some_iff.mp H
                         obtain ⟨t155,A1160,H⟩:=H
                         replace H : (if t155 = 0 then ((pit_CheckBlame.f l0_0 l0_1 l1 (rd t110 x67_2) t136 t137).bind fun t156 => (if t156 = 0 then (calxlaw04_PitCulprits.l0 kj66 l1 t106 t127 t130 t110 (t110.length : Int) (wrap64 (x67_2 + 1)) l0_0 l0_1 a3_0 a3_1) else (some false))) else (some false)) = some r:=H
                         have A116:=am A1160
                         clear A1160
                         by_cases c117 : t155 = 0
                         ·rw [if_pos c117] at H
                          have c117b0 : (t155 == 0) = true:=beq_iff_eq.mpr c117
                          have c117b1 : (t155 != 0) = false:=bne_eq_false_iff_eq.mpr c117
                          clear c117
                          replace H:=Option.bind_eq_some_iff.mp H
                          obtain ⟨t156,A1180,H⟩:=H
                          replace H : (if t156 = 0 then (calxlaw04_PitCulprits.l0 kj66 l1 t106 t127 t130 t110 (t110.length : Int) (wrap64 (x67_2 + 1)) l0_0 l0_1 a3_0 a3_1) else (some false)) = some r:=H
                          have A118:=am A1180
                          clear A1180
                          by_cases c119 : t156 = 0
                          ·rw [if_pos c119] at H
                           have c119b0 : (t156 == 0) = true:=beq_iff_eq.mpr c119
                           have c119b1 : (t156 != 0) = false:=bne_eq_false_iff_eq.mpr c119
                           clear c119
                           have H':=am H
                           clear H
                           have hnb120:=NB101_102.out
                           have hnc120:=NB102_101.out
                           have hnb121:=NB101_103.out
                           have hnc121:=NB103_101.out
                           have hnb122:=NB101_139.out
                           have hnc122:=NB139_101.out
                           have hnb123:=NB101_149.out
                           have hnc123:=NB149_101.out
                           have hcz124_0:=bd BK101.out 0
                           have hcz124_1:=bd BK101.out 1
                           have hfz124_0:=blk_frozen BK101.out 0
                           have hfz124_1:=blk_frozen BK101.out 1
                           have hnb125:=NB103_102.out
                           have hnc125:=NB102_103.out
                           have hnb126:=NB103_139.out
                           have hnc126:=NB139_103.out
                           have hnb127:=NB103_149.out
                           have hnc127:=NB149_103.out
                           have hcz128_0:=bd BK103.out 0
                           have hcz128_1:=bd BK103.out 1
                           have hfz128_0:=blk_frozen BK103.out 0
                           have hfz128_1:=blk_frozen BK103.out 1
                           go_wp2_with (first|((with_reducible refine g_ ?_);refine cE (some 111) Tryz.func61 #[.agg #[.slice A0_0 l0_0.length c0_0,.slice A0_1 l0_1.length c0_1],.slice A1 l1.length c1,ii (rd t110 x67_2),.agg #[ii a3_0,ii a3_1]] ?_;(with_reducible refine (pit_CheckBlame.calls _ _ l0_0 _ _ l0_1 _ _ l1 (rd t110 x67_2) a3_0 a3_1 t150 _ ?side1 ?side2 ?side3 ?side4 ?side5 ?side6 A79.out).mono ?_);(case side1 => repeat (first|exact (Kd.C_below HR0_0.out HB.out)|(with_reducible refine Kd.C_alloc ?_ _)|(with_reducible refine Kd.C_drewN ?_ _)|(with_reducible refine Kd.C_drew ?_)));(case side2 => exact HC0_0.out);(case side3 => repeat (first|exact (Kd.C_below HR0_1.out HB.out)|(with_reducible refine Kd.C_alloc ?_ _)|(with_reducible refine Kd.C_drewN ?_ _)|(with_reducible refine Kd.C_drew ?_)));(case side4 => exact HC0_1.out);(case side5 => repeat (first|exact (Kd.C_below HR1.out HB.out)|(with_reducible refine Kd.C_alloc ?_ _)|(with_reducible refine Kd.C_drewN ?_ _)|(with_reducible refine Kd.C_drew ?_)));(case side6 => exact HC1.out);rintro e w129 ⟨rfl,hb⟩;refine ⟨_,rfl,?_⟩;replace HO_9:=am (Kd.V_below (wV HO_9.out) hb);replace HO_13:=am (Kd.V_below (wV HO_13.out) hb);replace HO_65:=am (Kd.V_below (wV HO_65.out) hb);replace BK101:=am (blk_below (vb BK101.out) hb);replace BK102:=am (blk_below (vb BK102.out) hb);replace BK103:=am (blk_below (vb BK103.out) hb);replace BK139:=am (blk_below (vb BK139.out) hb);replace BK149:=am (blk_below (vb BK149.out) hb);replace HB:=am (below_step (v5 HB.out GE101.out GE102.out GE103.out GE139.out GE149.out) hb);(try clear hb);(try clear hb2);(try clear hk);(try clear hi);have hnb130:=NB139_102.out;have hnc130:=NB102_139.out;have hnb131:=NB139_149.out;have hnc131:=NB149_139.out;have hcz132_0:=bd BK139.out 0;have hcz132_1:=bd BK139.out 1;have hcz132_2:=bd BK139.out 2;have hcz132_3:=bd BK139.out 3;have hcz132_4:=bd BK139.out 4;have hfz132_0:=blk_frozen BK139.out 0;have hfz132_1:=blk_frozen BK139.out 1;have hfz132_2:=blk_frozen BK139.out 2;have hfz132_3:=blk_frozen BK139.out 3;have hfz132_4:=blk_frozen BK139.out 4;have hcz133_0:=bd BK103.out 0;have hcz133_1:=bd BK103.out 1;have hfz133_0:=blk_frozen BK103.out 0;have hfz133_1:=blk_frozen BK103.out 1)|((with_reducible refine g_ ?_);refine cE (some 122) Tryz.func23 #[.agg #[ii t134,ii t135],.agg #[ii a3_0,ii a3_1]] ?_;(with_reducible refine (pit_Compare.calls kj66 t134 t135 a3_0 a3_1 t151 t152 _ A92.out).mono ?_);rintro e w134 ⟨rfl,hb⟩;refine ⟨_,rfl,?_⟩;replace HO_9:=am (Kd.V_below (wV HO_9.out) hb);replace HO_13:=am (Kd.V_below (wV HO_13.out) hb);replace HO_65:=am (Kd.V_below (wV HO_65.out) hb);replace BK101:=am (blk_below (vb BK101.out) hb);replace BK102:=am (blk_below (vb BK102.out) hb);replace BK103:=am (blk_below (vb BK103.out) hb);replace BK139:=am (blk_below (vb BK139.out) hb);replace BK149:=am (blk_below (vb BK149.out) hb);replace HB:=am (below_step (v5 HB.out GE101.out GE102.out GE103.out GE139.out GE149.out) hb);(try clear hb);(try clear hb2);(try clear hk);(try clear hi);have hcz135_0:=bd BK103.out 0;have hcz135_1:=bd BK103.out 1;have hfz135_0:=blk_frozen BK103.out 0;have hfz135_1:=blk_frozen BK103.out 1;have hcz136_0:=bd BK139.out 0;have hcz136_1:=bd BK139.out 1;have hcz136_2:=bd BK139.out 2;have hcz136_3:=bd BK139.out 3;have hcz136_4:=bd BK139.out 4;have hfz136_0:=blk_frozen BK139.out 0;have hfz136_1:=blk_frozen BK139.out 1;have hfz136_2:=blk_frozen BK139.out 2;have hfz136_3:=blk_frozen BK139.out 3;have hfz136_4:=blk_frozen BK139.out 4)|((with_reducible refine g_ ?_);refine cE (some 129) Tryz.func23 #[.agg #[ii a3_0,ii a3_1],.agg #[ii t136,ii t137]] ?_;(with_reducible refine (pit_Compare.calls kj66 a3_0 a3_1 t136 t137 t153 t154 _ A93.out).mono ?_);rintro e w137 ⟨rfl,hb⟩;refine ⟨_,rfl,?_⟩;replace HO_9:=am (Kd.V_below (wV HO_9.out) hb);replace HO_13:=am (Kd.V_below (wV HO_13.out) hb);replace HO_65:=am (Kd.V_below (wV HO_65.out) hb);replace BK101:=am (blk_below (vb BK101.out) hb);replace BK102:=am (blk_below (vb BK102.out) hb);replace BK103:=am (blk_below (vb BK103.out) hb);replace BK139:=am (blk_below (vb BK139.out) hb);replace BK149:=am (blk_below (vb BK149.out) hb);replace HB:=am (below_step (v5 HB.out GE101.out GE102.out GE103.out GE139.out GE149.out) hb);(try clear hb);(try clear hb2);(try clear hk);(try clear hi);have hcz138_0:=bd BK101.out 0;have hcz138_1:=bd BK101.out 1;have hfz138_0:=blk_frozen BK101.out 0;have hfz138_1:=blk_frozen BK101.out 1;have hcz139_0:=bd BK139.out 0;have hcz139_1:=bd BK139.out 1;have hcz139_2:=bd BK139.out 2;have hcz139_3:=bd BK139.out 3;have hcz139_4:=bd BK139.out 4;have hfz139_0:=blk_frozen BK139.out 0;have hfz139_1:=blk_frozen BK139.out 1;have hfz139_2:=blk_frozen BK139.out 2;have hfz139_3:=blk_frozen BK139.out 3;have hfz139_4:=blk_frozen BK139.out 4)|(go_at_call 61;(with_reducible refine (pit_CheckBlame.calls _ _ l0_0 _ _ l0_1 _ _ l1 (rd t110 x67_2) t134 t135 t155 _ ?side1 ?side2 ?side3 ?side4 ?side5 ?side6 A116.out).mono ?_);(case side1 => repeat (first|exact (Kd.C_below HR0_0.out HB.out)|(with_reducible refine Kd.C_alloc ?_ _)|(with_reducible refine Kd.C_drewN ?_ _)|(with_reducible refine Kd.C_drew ?_)));(case side2 => exact HC0_0.out);(case side3 => repeat (first|exact (Kd.C_below HR0_1.out HB.out)|(with_reducible refine Kd.C_alloc ?_ _)|(with_reducible refine Kd.C_drewN ?_ _)|(with_reducible refine Kd.C_drew ?_)));(case side4 => exact HC0_1.out);(case side5 => repeat (first|exact (Kd.C_below HR1.out HB.out)|(with_reducible refine Kd.C_alloc ?_ _)|(with_reducible refine Kd.C_drewN ?_ _)|(with_reducible refine Kd.C_drew ?_)));(case side6 => exact HC1.out);rintro e w140 ⟨rfl,hb⟩;replace HO_9:=am (Kd.V_below (wV HO_9.out) hb);replace HO_13:=am (Kd.V_below (wV HO_13.out) hb);replace HO_65:=am (Kd.V_below (wV HO_65.out) hb);replace BK101:=am (blk_below (vb BK101.out) hb);replace BK102:=am (blk_below (vb BK102.out) hb);replace BK103:=am (blk_below (vb BK103.out) hb);replace BK139:=am (blk_below (vb BK139.out) hb);replace BK149:=am (blk_below (vb BK149.out) hb);replace HB:=am (below_step (v5 HB.out GE101.out GE102.out GE103.out GE139.out GE149.out) hb);(try clear hb);(try clear hb2);(try clear hk);(try clear hi);have hcz141_0:=bd BK101.out 0;have hcz141_1:=bd BK101.out 1;have hfz141_0:=blk_frozen BK101.out 0;have hfz141_1:=blk_frozen BK101.out 1;have hcz142_0:=bd BK139.out 0;have hcz142_1:=bd BK139.out 1;have hcz142_2:=bd BK139.out 2;have hcz142_3:=bd BK139.out 3;have hcz142_4:=bd BK139.out 4;have hfz142_0:=blk_frozen BK139.out 0;have hfz142_1:=blk_frozen BK139.out 1;have hfz142_2:=blk_frozen BK139.out 2;have hfz142_3:=blk_frozen BK139.out 3;have hfz142_4:=blk_frozen BK139.out 4)|(go_at_call 61;(with_reducible refine (pit_CheckBlame.calls _ _ l0_0 _ _ l0_1 _ _ l1 (rd t110 x67_2) t136 t137 t156 _ ?side1 ?side2 ?side3 ?side4 ?side5 ?side6 A118.out).mono ?_);(case side1 => repeat (first|exact (Kd.C_below HR0_0.out HB.out)|(with_reducible refine Kd.C_alloc ?_ _)|(with_reducible refine Kd.C_drewN ?_ _)|(with_reducible refine Kd.C_drew ?_)));(case side2 => exact HC0_0.out);(case side3 => repeat (first|exact (Kd.C_below HR0_1.out HB.out)|(with_reducible refine Kd.C_alloc ?_ _)|(with_reducible refine Kd.C_drewN ?_ _)|(with_reducible refine Kd.C_drew ?_)));(case side4 => exact HC0_1.out);(case side5 => repeat (first|exact (Kd.C_below HR1.out HB.out)|(with_reducible refine Kd.C_alloc ?_ _)|(with_reducible refine Kd.C_drewN ?_ _)|(with_reducible refine Kd.C_drew ?_)));(case side6 => exact HC1.out);rintro e w143 ⟨rfl,hb⟩;replace HO_9:=am (Kd.V_below (wV HO_9.out) hb);replace HO_13:=am (Kd.V_below (wV HO_13.out) hb);replace HO_65:=am (Kd.V_below (wV HO_65.out) hb);replace BK101:=am (blk_below (vb BK101.out) hb);replace BK102:=am (blk_below (vb BK102.out) hb);replace BK103:=am (blk_below (vb BK103.out) hb);replace BK139:=am (blk_below (vb BK139.out) hb);replace BK149:=am (blk_below (vb BK149.out) hb);replace HB:=am (below_step (v5 HB.out GE101.out GE102.out GE103.out GE139.out GE149.out) hb);(try clear hb);(try clear hb2);(try clear hk);(try clear hi)))
                           go_roundg kj66
                           case measure => have:=HJ4.out;have:=HK2.out;have:=HJ51.out;have:=HJ66.out;omega
                           case rel => exact ⟨(wrap64 (x67_2 + 1)),ve,H',⟨by have:=HJ4.out;have:=HK2.out;have:=HJ51.out;have:=HJ66.out;omega⟩,⟨by (with_reducible repeat (first|apply Kd.V_alloc|apply Kd.V_drewN|apply Kd.V_drew));exact Kd.V_mono HO_9.out (fun _ hk => ⟨hk.1,⟨hk.2.1,hk.2.2.1⟩⟩)⟩,⟨by (with_reducible repeat (first|apply Kd.V_alloc|apply Kd.V_drewN|apply Kd.V_drew));exact Kd.V_mono HO_13.out (fun _ hk => ⟨hk.1,⟨hk.2.1,hk.2.2.1⟩⟩)⟩,⟨by (with_reducible repeat (first|apply Kd.V_alloc|apply Kd.V_drewN|apply Kd.V_drew));exact Kd.V_mono HO_65.out (fun _ hk => ⟨hk.1,⟨hk.2.1,hk.2.2.1⟩⟩)⟩,⟨vb BK101.out⟩,⟨vb BK102.out⟩,⟨vb BK103.out⟩,⟨v5 HB.out GE101.out GE102.out GE103.out GE139.out GE149.out⟩⟩
                          ·rw [if_neg c119] at H
                           have c119b0 : (t156 == 0) = false:=beq_eq_false_iff_ne.mpr c119
                           have c119b1 : (t156 != 0) = true:=bne_iff_ne.mpr c119
                           obtain rfl:=Option.some.inj H
                           cases hr.out
                         ·rw [if_neg c117] at H
                          have c117b0 : (t155 == 0) = false:=beq_eq_false_iff_ne.mpr c117
                          have c117b1 : (t155 != 0) = true:=bne_iff_ne.mpr c117
                          obtain rfl:=Option.some.inj H
                          cases hr.out
                       ·rw [if_neg c96] at H
                        have c96b0 : decide (t151 ≤ 0) = false:=decide_eq_false c96
                        clear c96
                        by_cases c189 : ((t150 == 0) != false) = true
                        ·rw [if_pos c189] at H
                         have c189b0 : ((t150 == 0) != false) = true:=c189
                         (try (have c189b1 : decide ((t150 == 0) = false) = false:=by simpa using c189))
                         (try (have c189b2 : ((t150 == 0) == false) = false:=by simpa using c189))
                         (try (have c189b3 : ¬ ((t150 == 0) = false):=by simpa using c189))
                         clear c189
                         obtain rfl:=Option.some.inj H
                         cases hr.out
                        ·rw [if_neg c189] at H
                         have c189b0 : ((t150 == 0) != false) = false:=by simpa using c189
                         (try (have c189b1 : decide ((t150 == 0) = false) = true:=by simpa using c189))
                         (try (have c189b2 : ((t150 == 0) == false) = true:=by simpa using c189))
                         clear c189
                         replace H:=Option.bind_eq_some_iff.mp H
                         obtain ⟨t157,A2080,H⟩:=H
                         replace H : (if t157 = 0 then ((pit_CheckBlame.f l0_0 l0_1 l1 (rd t110 x67_2) t136 t137).bind fun t158 => (if t158 = 0 then (calxlaw04_PitCulprits.l0 kj66 l1 t106 t127 t130 t110 (t110.length : Int) (wrap64 (x67_2 + 1)) l0_0 l0_1 a3_0 a3_1) else (some false))) else (some false)) = some r:=H
                         have A208:=am A2080
                         clear A2080
                         by_cases c209 : t157 = 0
                         ·rw [if_pos c209] at H
                          have c209b0 : (t157 == 0) = true:=beq_iff_eq.mpr c209
                          have c209b1 : (t157 != 0) = false:=bne_eq_false_iff_eq.mpr c209
                          clear c209
                          replace H:=Option.bind_eq_some_iff.mp H
                          obtain ⟨t158,A2100,H⟩:=H
                          replace H : (if t158 = 0 then (calxlaw04_PitCulprits.l0 kj66 l1 t106 t127 t130 t110 (t110.length : Int) (wrap64 (x67_2 + 1)) l0_0 l0_1 a3_0 a3_1) else (some false)) = some r:=H
                          have A210:=am A2100
                          clear A2100
                          by_cases c211 : t158 = 0
                          ·rw [if_pos c211] at H
                           have c211b0 : (t158 == 0) = true:=beq_iff_eq.mpr c211
                           have c211b1 : (t158 != 0) = false:=bne_eq_false_iff_eq.mpr c211
                           clear c211
                           have H':=am H
                           clear H
                           have hnb212:=NB101_102.out
                           have hnc212:=NB102_101.out
                           have hnb213:=NB101_103.out
                           have hnc213:=NB103_101.out
                           have hnb214:=NB101_139.out
                           have hnc214:=NB139_101.out
                           have hnb215:=NB101_149.out
                           have hnc215:=NB149_101.out
                           have hcz216_0:=bd BK101.out 0
                           have hcz216_1:=bd BK101.out 1
                           have hfz216_0:=blk_frozen BK101.out 0
                           have hfz216_1:=blk_frozen BK101.out 1
                           have hnb217:=NB103_102.out
                           have hnc217:=NB102_103.out
                           have hnb218:=NB103_139.out
                           have hnc218:=NB139_103.out
                           have hnb219:=NB103_149.out
                           have hnc219:=NB149_103.out
                           have hcz220_0:=bd BK103.out 0
                           have hcz220_1:=bd BK103.out 1
                           have hfz220_0:=blk_frozen BK103.out 0
                           have hfz220_1:=blk_frozen BK103.out 1
                           go_wp2_with (first|((with_reducible refine g_ ?_);refine cE (some 111) Tryz.func61 #[.agg #[.slice A0_0 l0_0.length c0_0,.slice A0_1 l0_1.length c0_1],.slice A1 l1.length c1,ii (rd t110 x67_2),.agg #[ii a3_0,ii a3_1]] ?_;(with_reducible refine (pit_CheckBlame.calls _ _ l0_0 _ _ l0_1 _ _ l1 (rd t110 x67_2) a3_0 a3_1 t150 _ ?side1 ?side2 ?side3 ?side4 ?side5 ?side6 A79.out).mono ?_);(case side1 => repeat (first|exact (Kd.C_below HR0_0.out HB.out)|(with_reducible refine Kd.C_alloc ?_ _)|(with_reducible refine Kd.C_drewN ?_ _)|(with_reducible refine Kd.C_drew ?_)));(case side2 => exact HC0_0.out);(case side3 => repeat (first|exact (Kd.C_below HR0_1.out HB.out)|(with_reducible refine Kd.C_alloc ?_ _)|(with_reducible refine Kd.C_drewN ?_ _)|(with_reducible refine Kd.C_drew ?_)));(case side4 => exact HC0_1.out);(case side5 => repeat (first|exact (Kd.C_below HR1.out HB.out)|(with_reducible refine Kd.C_alloc ?_ _)|(with_reducible refine Kd.C_drewN ?_ _)|(with_reducible refine Kd.C_drew ?_)));(case side6 => exact HC1.out);rintro e w221 ⟨rfl,hb⟩;refine ⟨_,rfl,?_⟩;replace HO_9:=am (Kd.V_below (wV HO_9.out) hb);replace HO_13:=am (Kd.V_below (wV HO_13.out) hb);replace HO_65:=am (Kd.V_below (wV HO_65.out) hb);replace BK101:=am (blk_below (vb BK101.out) hb);replace BK102:=am (blk_below (vb BK102.out) hb);replace BK103:=am (blk_below (vb BK103.out) hb);replace BK139:=am (blk_below (vb BK139.out) hb);replace BK149:=am (blk_below (vb BK149.out) hb);replace HB:=am (below_step (v5 HB.out GE101.out GE102.out GE103.out GE139.out GE149.out) hb);(try clear hb);(try clear hb2);(try clear hk);(try clear hi);have hnb222:=NB139_102.out;have hnc222:=NB102_139.out;have hnb223:=NB139_149.out;have hnc223:=NB149_139.out;have hcz224_0:=bd BK139.out 0;have hcz224_1:=bd BK139.out 1;have hcz224_2:=bd BK139.out 2;have hcz224_3:=bd BK139.out 3;have hcz224_4:=bd BK139.out 4;have hfz224_0:=blk_frozen BK139.out 0;have hfz224_1:=blk_frozen BK139.out 1;have hfz224_2:=blk_frozen BK139.out 2;have hfz224_3:=blk_frozen BK139.out 3;have hfz224_4:=blk_frozen BK139.out 4;have hcz225_0:=bd BK103.out 0;have hcz225_1:=bd BK103.out 1;have hfz225_0:=blk_frozen BK103.out 0;have hfz225_1:=blk_frozen BK103.out 1)|((with_reducible refine g_ ?_);refine cE (some 122) Tryz.func23 #[.agg #[ii t134,ii t135],.agg #[ii a3_0,ii a3_1]] ?_;(with_reducible refine (pit_Compare.calls kj66 t134 t135 a3_0 a3_1 t151 t152 _ A92.out).mono ?_);rintro e w226 ⟨rfl,hb⟩;refine ⟨_,rfl,?_⟩;replace HO_9:=am (Kd.V_below (wV HO_9.out) hb);replace HO_13:=am (Kd.V_below (wV HO_13.out) hb);replace HO_65:=am (Kd.V_below (wV HO_65.out) hb);replace BK101:=am (blk_below (vb BK101.out) hb);replace BK102:=am (blk_below (vb BK102.out) hb);replace BK103:=am (blk_below (vb BK103.out) hb);replace BK139:=am (blk_below (vb BK139.out) hb);replace BK149:=am (blk_below (vb BK149.out) hb);replace HB:=am (below_step (v5 HB.out GE101.out GE102.out GE103.out GE139.out GE149.out) hb);(try clear hb);(try clear hb2);(try clear hk);(try clear hi);have hcz227_0:=bd BK103.out 0;have hcz227_1:=bd BK103.out 1;have hfz227_0:=blk_frozen BK103.out 0;have hfz227_1:=blk_frozen BK103.out 1;have hcz228_0:=bd BK139.out 0;have hcz228_1:=bd BK139.out 1;have hcz228_2:=bd BK139.out 2;have hcz228_3:=bd BK139.out 3;have hcz228_4:=bd BK139.out 4;have hfz228_0:=blk_frozen BK139.out 0;have hfz228_1:=blk_frozen BK139.out 1;have hfz228_2:=blk_frozen BK139.out 2;have hfz228_3:=blk_frozen BK139.out 3;have hfz228_4:=blk_frozen BK139.out 4)|((with_reducible refine g_ ?_);refine cE (some 129) Tryz.func23 #[.agg #[ii a3_0,ii a3_1],.agg #[ii t136,ii t137]] ?_;(with_reducible refine (pit_Compare.calls kj66 a3_0 a3_1 t136 t137 t153 t154 _ A93.out).mono ?_);rintro e w229 ⟨rfl,hb⟩;refine ⟨_,rfl,?_⟩;replace HO_9:=am (Kd.V_below (wV HO_9.out) hb);replace HO_13:=am (Kd.V_below (wV HO_13.out) hb);replace HO_65:=am (Kd.V_below (wV HO_65.out) hb);replace BK101:=am (blk_below (vb BK101.out) hb);replace BK102:=am (blk_below (vb BK102.out) hb);replace BK103:=am (blk_below (vb BK103.out) hb);replace BK139:=am (blk_below (vb BK139.out) hb);replace BK149:=am (blk_below (vb BK149.out) hb);replace HB:=am (below_step (v5 HB.out GE101.out GE102.out GE103.out GE139.out GE149.out) hb);(try clear hb);(try clear hb2);(try clear hk);(try clear hi);have hcz230_0:=bd BK101.out 0;have hcz230_1:=bd BK101.out 1;have hfz230_0:=blk_frozen BK101.out 0;have hfz230_1:=blk_frozen BK101.out 1;have hcz231_0:=bd BK139.out 0;have hcz231_1:=bd BK139.out 1;have hcz231_2:=bd BK139.out 2;have hcz231_3:=bd BK139.out 3;have hcz231_4:=bd BK139.out 4;have hfz231_0:=blk_frozen BK139.out 0;have hfz231_1:=blk_frozen BK139.out 1;have hfz231_2:=blk_frozen BK139.out 2;have hfz231_3:=blk_frozen BK139.out 3;have hfz231_4:=blk_frozen BK139.out 4)|(go_at_call 61;(with_reducible refine (pit_CheckBlame.calls _ _ l0_0 _ _ l0_1 _ _ l1 (rd t110 x67_2) t134 t135 t157 _ ?side1 ?side2 ?side3 ?side4 ?side5 ?side6 A208.out).mono ?_);(case side1 => repeat (first|exact (Kd.C_below HR0_0.out HB.out)|(with_reducible refine Kd.C_alloc ?_ _)|(with_reducible refine Kd.C_drewN ?_ _)|(with_reducible refine Kd.C_drew ?_)));(case side2 => exact HC0_0.out);(case side3 => repeat (first|exact (Kd.C_below HR0_1.out HB.out)|(with_reducible refine Kd.C_alloc ?_ _)|(with_reducible refine Kd.C_drewN ?_ _)|(with_reducible refine Kd.C_drew ?_)));(case side4 => exact HC0_1.out);(case side5 => repeat (first|exact (Kd.C_below HR1.out HB.out)|(with_reducible refine Kd.C_alloc ?_ _)|(with_reducible refine Kd.C_drewN ?_ _)|(with_reducible refine Kd.C_drew ?_)));(case side6 => exact HC1.out);rintro e w232 ⟨rfl,hb⟩;replace HO_9:=am (Kd.V_below (wV HO_9.out) hb);replace HO_13:=am (Kd.V_below (wV HO_13.out) hb);replace HO_65:=am (Kd.V_below (wV HO_65.out) hb);replace BK101:=am (blk_below (vb BK101.out) hb);replace BK102:=am (blk_below (vb BK102.out) hb);replace BK103:=am (blk_below (vb BK103.out) hb);replace BK139:=am (blk_below (vb BK139.out) hb);replace BK149:=am (blk_below (vb BK149.out) hb);replace HB:=am (below_step (v5 HB.out GE101.out GE102.out GE103.out GE139.out GE149.out) hb);(try clear hb);(try clear hb2);(try clear hk);(try clear hi);have hcz233_0:=bd BK101.out 0;have hcz233_1:=bd BK101.out 1;have hfz233_0:=blk_frozen BK101.out 0;have hfz233_1:=blk_frozen BK101.out 1;have hcz234_0:=bd BK139.out 0;have hcz234_1:=bd BK139.out 1;have hcz234_2:=bd BK139.out 2;have hcz234_3:=bd BK139.out 3;have hcz234_4:=bd BK139.out 4;have hfz234_0:=blk_frozen BK139.out 0;have hfz234_1:=blk_frozen BK139.out 1;have hfz234_2:=blk_frozen BK139.out 2;have hfz234_3:=blk_frozen BK139.out 3;have hfz234_4:=blk_frozen BK139.out 4)|(go_at_call 61;(with_reducible refine (pit_CheckBlame.calls _ _ l0_0 _ _ l0_1 _ _ l1 (rd t110 x67_2) t136 t137 t158 _ ?side1 ?side2 ?side3 ?side4 ?side5 ?side6 A210.out).mono ?_);(case side1 => repeat (first|exact (Kd.C_below HR0_0.out HB.out)|(with_reducible refine Kd.C_alloc ?_ _)|(with_reducible refine Kd.C_drewN ?_ _)|(with_reducible refine Kd.C_drew ?_)));(case side2 => exact HC0_0.out);(case side3 => repeat (first|exact (Kd.C_below HR0_1.out HB.out)|(with_reducible refine Kd.C_alloc ?_ _)|(with_reducible refine Kd.C_drewN ?_ _)|(with_reducible refine Kd.C_drew ?_)));(case side4 => exact HC0_1.out);(case side5 => repeat (first|exact (Kd.C_below HR1.out HB.out)|(with_reducible refine Kd.C_alloc ?_ _)|(with_reducible refine Kd.C_drewN ?_ _)|(with_reducible refine Kd.C_drew ?_)));(case side6 => exact HC1.out);rintro e w235 ⟨rfl,hb⟩;replace HO_9:=am (Kd.V_below (wV HO_9.out) hb);replace HO_13:=am (Kd.V_below (wV HO_13.out) hb);replace HO_65:=am (Kd.V_below (wV HO_65.out) hb);replace BK101:=am (blk_below (vb BK101.out) hb);replace BK102:=am (blk_below (vb BK102.out) hb);replace BK103:=am (blk_below (vb BK103.out) hb);replace BK139:=am (blk_below (vb BK139.out) hb);replace BK149:=am (blk_below (vb BK149.out) hb);replace HB:=am (below_step (v5 HB.out GE101.out GE102.out GE103.out GE139.out GE149.out) hb);(try clear hb);(try clear hb2);(try clear hk);(try clear hi)))
                           go_roundg kj66
                           case measure => have:=HJ4.out;have:=HK2.out;have:=HJ51.out;have:=HJ66.out;omega
                           case rel => exact ⟨(wrap64 (x67_2 + 1)),ve,H',⟨by have:=HJ4.out;have:=HK2.out;have:=HJ51.out;have:=HJ66.out;omega⟩,⟨by (with_reducible repeat (first|apply Kd.V_alloc|apply Kd.V_drewN|apply Kd.V_drew));exact Kd.V_mono HO_9.out (fun _ hk => ⟨hk.1,⟨hk.2.1,hk.2.2.1⟩⟩)⟩,⟨by (with_reducible repeat (first|apply Kd.V_alloc|apply Kd.V_drewN|apply Kd.V_drew));exact Kd.V_mono HO_13.out (fun _ hk => ⟨hk.1,⟨hk.2.1,hk.2.2.1⟩⟩)⟩,⟨by (with_reducible repeat (first|apply Kd.V_alloc|apply Kd.V_drewN|apply Kd.V_drew));exact Kd.V_mono HO_65.out (fun _ hk => ⟨hk.1,⟨hk.2.1,hk.2.2.1⟩⟩)⟩,⟨vb BK101.out⟩,⟨vb BK102.out⟩,⟨vb BK103.out⟩,⟨v5 HB.out GE101.out GE102.out GE103.out GE139.out GE149.out⟩⟩
                          ·rw [if_neg c211] at H
                           have c211b0 : (t158 == 0) = false:=beq_eq_false_iff_ne.mpr c211
                           have c211b1 : (t158 != 0) = true:=bne_iff_ne.mpr c211
                           obtain rfl:=Option.some.inj H
                           cases hr.out
                         ·rw [if_neg c209] at H
                          have c209b0 : (t157 == 0) = false:=beq_eq_false_iff_ne.mpr c209
                          have c209b1 : (t157 != 0) = true:=bne_iff_ne.mpr c209
                          obtain rfl:=Option.some.inj H
                          cases hr.out
                      ·rw [if_neg c95] at H
                       have c95b0 : (t154 == 0) = false:=beq_eq_false_iff_ne.mpr c95
                       have c95b1 : (t154 != 0) = true:=bne_iff_ne.mpr c95
                       obtain rfl:=Option.some.inj H
                       cases hr.out
                     ·rw [if_neg c94] at H
                      have c94b0 : (t152 == 0) = false:=beq_eq_false_iff_ne.mpr c94
                      have c94b1 : (t152 != 0) = true:=bne_iff_ne.mpr c94
                      obtain rfl:=Option.some.inj H
                      cases hr.out
                    ·replace c91:=Bool.eq_false_iff.mpr c91
                     subst c91
                     have H1 : (if t150 = 8 then (calxlaw04_PitCulprits.l0 kj66 l1 t106 t127 t130 t110 (t110.length : Int) (wrap64 (x67_2 + 1)) l0_0 l0_1 a3_0 a3_1) else (some false)) = some r:=by rw [if_neg (show ¬ (false = true) by decide)] at H;exact H
                     clear H
                     have H:=H1
                     clear H1
                     by_cases c317 : t150 = 8
                     ·rw [if_pos c317] at H
                      have c317b0 : (t150 == 8) = true:=beq_iff_eq.mpr c317
                      have c317b1 : (t150 != 8) = false:=bne_eq_false_iff_eq.mpr c317
                      clear c317
                      have H':=am H
                      clear H
                      have hnb318:=NB101_102.out
                      have hnc318:=NB102_101.out
                      have hnb319:=NB101_103.out
                      have hnc319:=NB103_101.out
                      have hnb320:=NB101_139.out
                      have hnc320:=NB139_101.out
                      have hnb321:=NB101_149.out
                      have hnc321:=NB149_101.out
                      have hcz322_0:=bd BK101.out 0
                      have hcz322_1:=bd BK101.out 1
                      have hfz322_0:=blk_frozen BK101.out 0
                      have hfz322_1:=blk_frozen BK101.out 1
                      have hnb323:=NB103_102.out
                      have hnc323:=NB102_103.out
                      have hnb324:=NB103_139.out
                      have hnc324:=NB139_103.out
                      have hnb325:=NB103_149.out
                      have hnc325:=NB149_103.out
                      have hcz326_0:=bd BK103.out 0
                      have hcz326_1:=bd BK103.out 1
                      have hfz326_0:=blk_frozen BK103.out 0
                      have hfz326_1:=blk_frozen BK103.out 1
                      go_wp2_with (first|((with_reducible refine g_ ?_);refine cE (some 111) Tryz.func61 #[.agg #[.slice A0_0 l0_0.length c0_0,.slice A0_1 l0_1.length c0_1],.slice A1 l1.length c1,ii (rd t110 x67_2),.agg #[ii a3_0,ii a3_1]] ?_;(with_reducible refine (pit_CheckBlame.calls _ _ l0_0 _ _ l0_1 _ _ l1 (rd t110 x67_2) a3_0 a3_1 t150 _ ?side1 ?side2 ?side3 ?side4 ?side5 ?side6 A79.out).mono ?_);(case side1 => repeat (first|exact (Kd.C_below HR0_0.out HB.out)|(with_reducible refine Kd.C_alloc ?_ _)|(with_reducible refine Kd.C_drewN ?_ _)|(with_reducible refine Kd.C_drew ?_)));(case side2 => exact HC0_0.out);(case side3 => repeat (first|exact (Kd.C_below HR0_1.out HB.out)|(with_reducible refine Kd.C_alloc ?_ _)|(with_reducible refine Kd.C_drewN ?_ _)|(with_reducible refine Kd.C_drew ?_)));(case side4 => exact HC0_1.out);(case side5 => repeat (first|exact (Kd.C_below HR1.out HB.out)|(with_reducible refine Kd.C_alloc ?_ _)|(with_reducible refine Kd.C_drewN ?_ _)|(with_reducible refine Kd.C_drew ?_)));(case side6 => exact HC1.out);rintro e w327 ⟨rfl,hb⟩;refine ⟨_,rfl,?_⟩;replace HO_9:=am (Kd.V_below (wV HO_9.out) hb);replace HO_13:=am (Kd.V_below (wV HO_13.out) hb);replace HO_65:=am (Kd.V_below (wV HO_65.out) hb);replace BK101:=am (blk_below (vb BK101.out) hb);replace BK102:=am (blk_below (vb BK102.out) hb);replace BK103:=am (blk_below (vb BK103.out) hb);replace BK139:=am (blk_below (vb BK139.out) hb);replace BK149:=am (blk_below (vb BK149.out) hb);replace HB:=am (below_step (v5 HB.out GE101.out GE102.out GE103.out GE139.out GE149.out) hb);(try clear hb);(try clear hb2);(try clear hk);(try clear hi)))
                      go_roundg kj66
                      case measure => have:=HJ4.out;have:=HK2.out;have:=HJ51.out;have:=HJ66.out;omega
                      case rel => exact ⟨(wrap64 (x67_2 + 1)),ve,H',⟨by have:=HJ4.out;have:=HK2.out;have:=HJ51.out;have:=HJ66.out;omega⟩,⟨by (with_reducible repeat (first|apply Kd.V_alloc|apply Kd.V_drewN|apply Kd.V_drew));exact Kd.V_mono HO_9.out (fun _ hk => ⟨hk.1,⟨hk.2.1,hk.2.2.1⟩⟩)⟩,⟨by (with_reducible repeat (first|apply Kd.V_alloc|apply Kd.V_drewN|apply Kd.V_drew));exact Kd.V_mono HO_13.out (fun _ hk => ⟨hk.1,⟨hk.2.1,hk.2.2.1⟩⟩)⟩,⟨by (with_reducible repeat (first|apply Kd.V_alloc|apply Kd.V_drewN|apply Kd.V_drew));exact Kd.V_mono HO_65.out (fun _ hk => ⟨hk.1,⟨hk.2.1,hk.2.2.1⟩⟩)⟩,⟨vb BK101.out⟩,⟨vb BK102.out⟩,⟨vb BK103.out⟩,⟨v5 HB.out GE101.out GE102.out GE103.out GE139.out GE149.out⟩⟩
                     ·rw [if_neg c317] at H
                      have c317b0 : (t150 == 8) = false:=beq_eq_false_iff_ne.mpr c317
                      have c317b1 : (t150 != 8) = true:=bne_iff_ne.mpr c317
                      obtain rfl:=Option.some.inj H
                      cases hr.out
            ·rw [if_neg c49] at H
             exact absurd H (by simp)
           ·rw [if_neg c48] at H
            exact absurd H (by simp)
          ·rw [if_neg c47] at H
           have c47b0 : decide (x67_2 < (t110.length : Int)) = false:=decide_eq_false c47
           clear c47
           replace H:=Option.bind_eq_some_iff.mp H
           obtain ⟨t131,A3380,H⟩:=H
           replace H : (some t131) = some r:=H
           have A338:=am A3380
           clear A3380
           obtain rfl:=Option.some.inj H
           go_wp2_with (first|((with_reducible refine g_ ?_);refine cE (some 168) Tryz.func27 #[] ?_;(with_reducible refine (calxlaw04_sanity.calls  t131 _ A338.out).mono ?_);rintro e w339 ⟨rfl,hb⟩;refine ⟨_,rfl,?_⟩;replace HO_9:=am (Kd.V_below (wV HO_9.out) hb);replace HO_13:=am (Kd.V_below (wV HO_13.out) hb);replace HO_65:=am (Kd.V_below (wV HO_65.out) hb);replace BK101:=am (blk_below (vb BK101.out) hb);replace BK102:=am (blk_below (vb BK102.out) hb);replace BK103:=am (blk_below (vb BK103.out) hb);replace HB:=am (below_step (v3 HB.out GE101.out GE102.out GE103.out) hb);(try clear hb);(try clear hb2);(try clear hk);(try clear hi)))
           go_ret
           exact ⟨vf,v3 HB.out GE101.out GE102.out GE103.out⟩
       ·rw [if_neg c27] at H
        exact absurd H (by simp)
      ·rw [if_neg c26] at H
       exact absurd H (by simp)
     ·rw [if_neg c25] at H
      have c25b0 : (t113 == 0) = false:=beq_eq_false_iff_ne.mpr c25
      have c25b1 : (t113 != 0) = true:=bne_iff_ne.mpr c25
      obtain rfl:=Option.some.inj H
      cases hr.out
    ·rw [if_neg c24] at H
     have c24b0 : (t109 == 0) = false:=beq_eq_false_iff_ne.mpr c24
     have c24b1 : (t109 != 0) = true:=bne_iff_ne.mpr c24
     replace H:=Option.bind_eq_some_iff.mp H
     obtain ⟨t114,A3460,H⟩:=H
     replace H : (some t114) = some r:=H
     have A346:=am A3460
     clear A3460
     obtain rfl:=Option.some.inj H
     have hnb347:=NB101_102.out
     have hnc347:=NB102_101.out
     have hnb348:=NB101_103.out
     have hnc348:=NB103_101.out
     have hcz349_0:=bd BK101.out 0
     have hcz349_1:=bd BK101.out 1
     have hfz349_0:=blk_frozen BK101.out 0
     have hfz349_1:=blk_frozen BK101.out 1
     go_wp2_with (first|((with_reducible refine g_ ?_);refine cE (some 41) Tryz.func56 #[.agg #[.slice A0_0 l0_0.length c0_0,.slice A0_1 l0_1.length c0_1],.slice A1 l1.length c1] ?_;(with_reducible refine (pit_Culprits.calls _ _ l0_0 _ _ l0_1 _ _ l1 t106 t109 _ ?side1 ?side2 ?side3 ?side4 ?side5 ?side6 A22.out).mono ?_);(case side1 => repeat (first|exact (Kd.C_below HR0_0.out HB.out)|(with_reducible refine Kd.C_alloc ?_ _)|(with_reducible refine Kd.C_drewN ?_ _)|(with_reducible refine Kd.C_drew ?_)));(case side2 => exact HC0_0.out);(case side3 => repeat (first|exact (Kd.C_below HR0_1.out HB.out)|(with_reducible refine Kd.C_alloc ?_ _)|(with_reducible refine Kd.C_drewN ?_ _)|(with_reducible refine Kd.C_drew ?_)));(case side4 => exact HC0_1.out);(case side5 => repeat (first|exact (Kd.C_below HR1.out HB.out)|(with_reducible refine Kd.C_alloc ?_ _)|(with_reducible refine Kd.C_drewN ?_ _)|(with_reducible refine Kd.C_drew ?_)));(case side6 => exact HC1.out);rintro e w350 ⟨v107,rfl,ho0,hb⟩;refine ⟨_,rfl,?_⟩;have HO108:=am (Kd.V_lower (Kd.V_mono (ok':=fun k_ => k_ ≠ gb101 ∧ k_ ≠ gb102 ∧ k_ ≠ gb103) ho0 (fun k_ hk_ => ⟨(Kd.freshB (g:=gb101) (o:=.cells #[.slice A0_0 l0_0.length c0_0,.slice A0_1 l0_1.length c0_1] 32 (0,0)) (vb BK101.out) k_ hk_),(Kd.freshB (g:=gb102) (o:=.cells #[ii a2_0,ii a2_1,ii a2_2] 137 (0,0)) (vb BK102.out) k_ hk_),(Kd.freshB (g:=gb103) (o:=.cells #[ii a3_0,ii a3_1] 43 (0,0)) (vb BK103.out) k_ hk_)⟩)) (below_size (v3 HB.out GE101.out GE102.out GE103.out)));replace BK101:=am (blk_below (vb BK101.out) hb);replace BK102:=am (blk_below (vb BK102.out) hb);replace BK103:=am (blk_below (vb BK103.out) hb);replace HB:=am (below_step (v3 HB.out GE101.out GE102.out GE103.out) hb);(try clear hb);(try clear hb2);(try clear hk);(try clear hi);(try clear ho0);have hcz351_0:=bd BK101.out 0;have hcz351_1:=bd BK101.out 1;have hfz351_0:=blk_frozen BK101.out 0;have hfz351_1:=blk_frozen BK101.out 1)|((with_reducible refine g_ ?_);refine cE (some 46) Tryz.func19 #[.agg #[.slice A0_0 l0_0.length c0_0,.slice A0_1 l0_1.length c0_1]] ?_;(with_reducible refine (pit_Pours.calls _ _ l0_0 _ _ l0_1 t110 t113 _ ?side1 ?side2 ?side3 ?side4 A23.out).mono ?_);(case side1 => repeat (first|exact (Kd.C_below HR0_0.out HB.out)|(with_reducible refine Kd.C_alloc ?_ _)|(with_reducible refine Kd.C_drewN ?_ _)|(with_reducible refine Kd.C_drew ?_)));(case side2 => exact HC0_0.out);(case side3 => repeat (first|exact (Kd.C_below HR0_1.out HB.out)|(with_reducible refine Kd.C_alloc ?_ _)|(with_reducible refine Kd.C_drewN ?_ _)|(with_reducible refine Kd.C_drew ?_)));(case side4 => exact HC0_1.out);rintro e w352 ⟨v111,rfl,ho0,hb⟩;refine ⟨_,rfl,?_⟩;have HO112:=am (Kd.V_lower (Kd.V_mono (ok':=fun k_ => k_ ≠ gb101 ∧ k_ ≠ gb102 ∧ k_ ≠ gb103) ho0 (fun k_ hk_ => ⟨(Kd.freshB (g:=gb101) (o:=.cells #[.slice A0_0 l0_0.length c0_0,.slice A0_1 l0_1.length c0_1] 32 (0,0)) (vb BK101.out) k_ hk_),(Kd.freshB (g:=gb102) (o:=.cells #[ii a2_0,ii a2_1,ii a2_2] 137 (0,0)) (vb BK102.out) k_ hk_),(Kd.freshB (g:=gb103) (o:=.cells #[ii a3_0,ii a3_1] 43 (0,0)) (vb BK103.out) k_ hk_)⟩)) (below_size (v3 HB.out GE101.out GE102.out GE103.out)));replace HO108:=am (Kd.V_below (wV HO108.out) hb);replace BK101:=am (blk_below (vb BK101.out) hb);replace BK102:=am (blk_below (vb BK102.out) hb);replace BK103:=am (blk_below (vb BK103.out) hb);replace HB:=am (below_step (v3 HB.out GE101.out GE102.out GE103.out) hb);(try clear hb);(try clear hb2);(try clear hk);(try clear hi);(try clear ho0))|((with_reducible refine g_ ?_);refine cE (some 51) Tryz.func27 #[] ?_;(with_reducible refine (calxlaw04_sanity.calls  t114 _ A346.out).mono ?_);rintro e w353 ⟨rfl,hb⟩;refine ⟨_,rfl,?_⟩;replace HO108:=am (Kd.V_below (wV HO108.out) hb);replace HO112:=am (Kd.V_below (wV HO112.out) hb);replace BK101:=am (blk_below (vb BK101.out) hb);replace BK102:=am (blk_below (vb BK102.out) hb);replace BK103:=am (blk_below (vb BK103.out) hb);replace HB:=am (below_step (v3 HB.out GE101.out GE102.out GE103.out) hb);(try clear hb);(try clear hb2);(try clear hk);(try clear hi)))
     go_ret
     exact ⟨vf,v3 HB.out GE101.out GE102.out GE103.out⟩
end Go.Proofs.YtjjfpmapjjemcaaGreat.B
end
