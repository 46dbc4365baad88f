import Derived.Test.YtjjfpmapjjemcaaGreatQ1
import Derived.Test.YtjjfpmapjjemcaaGreatQ2
import Derived.Test.YtjjfpmapjjemcaaGreatQ3
import Derived.Test.YtjjfpmapjjemcaaGreatQ4
import Derived.Test.YtjjfpmapjjemcaaGreatQ5
set_option linter.unusedVariables false
set_option linter.unusedSimpArgs false
section
namespace Go.Proofs.YtjjfpmapjjemcaaGreat.B
open Go.RowKit Go.Proofs.YtjjfpmapjjemcaaGreatW.PrintWords Go.Proofs.YtjjfpmapjjemcaaGreatW.PrintLast Go.Proofs.YtjjfpmapjjemcaaGreatW.PrintMore
attribute [local go_sem] max2_int min2_int max_two min_two max_three min_three max_four min_four
def R44_6.T : Bool × List (List Nat × List Nat):=(true,[([],[]),([0],[0]),([1],[1]),([],[]),([3],[3]),([4,2],[4]),([2,5],[2,5]),([],[]),([7,6,5,0,1,2,3,4,5,6,7],[6,7])])
def R44_6.B : List Nat:=[0,1,3,0,8,31,63,0,255]
theorem R44_6.tab : rtab .any (opsOf Tryz.f44 6) = R44_6.T:=by kernel_rfl
theorem R44_6.bits : waitsOk R44_6.T.2 R44_6.B = true:=by kernel_rfl
def R44_7.T : Bool × List (List Nat × List Nat):=(true,[([],[]),([0],[0]),([],[]),([2],[2]),([1,3],[1,3]),([],[]),([5],[5]),([],[]),([6,7],[6,7]),([4,0,1,2,3,4],[4]),([8,9,0,1,2,3,4,5,6,7,8,9],[8])])
def R44_7.B : List Nat:=[0,1,0,4,15,0,32,0,224,31,1023]
theorem R44_7.tab : rtab .any (opsOf Tryz.f44 7) = R44_7.T:=by kernel_rfl
theorem R44_7.bits : waitsOk R44_7.T.2 R44_7.B = true:=by kernel_rfl
def R44_8.T : Bool × List (List Nat × List Nat):=(true,[([],[]),([],[]),([],[]),([2],[2]),([3],[3]),([],[]),([5],[5]),([6],[6]),([0,0,2,3,4,7],[0]),([8,4,0,2,3,4,7],[4,8]),([1,0,1,2,3,4,5,6,7,8,9],[1]),([10,7,9,0,1,2,3,4,5,6,7,8,9],[7,10])])
def R44_8.B : List Nat:=[0,0,0,4,12,0,32,96,253,509,1023,2047]
theorem R44_8.tab : rtab .any (opsOf Tryz.f44 8) = R44_8.T:=by kernel_rfl
theorem R44_8.bits : waitsOk R44_8.T.2 R44_8.B = true:=by kernel_rfl
def R44_9.T : Bool × List (List Nat × List Nat):=(true,[([],[]),([],[]),([],[]),([2],[2]),([3],[3]),([4],[4]),([],[]),([6],[6]),([7],[7]),([8],[8]),([0,0,2,3,4,5,9],[0]),([10,0,2,3,4,5,9],[10]),([11,5,0,2,3,4,5,9],[5,11]),([1,0,1,2,3,4,5,6,7,8,9,10,11,12],[1]),([13,0,1,2,3,4,5,6,7,8,9,10,11,12],[13]),([14,9,12,0,1,2,3,4,5,6,7,8,9,10,11,12],[9,14])])
def R44_9.B : List Nat:=[0,0,0,4,12,28,0,64,192,448,1021,2045,4093,8191,16383,32767]
theorem R44_9.tab : rtab .any (opsOf Tryz.f44 9) = R44_9.T:=by kernel_rfl
theorem R44_9.bits : waitsOk R44_9.T.2 R44_9.B = true:=by kernel_rfl
def R44_13.T : Bool × List (List Nat × List Nat):=(true,[([],[]),([],[]),([],[]),([1,2],[1,2]),([0,3,0],[0]),([3,4,0,1,2,3,4],[3]),([5,0,1,2,3,4,5],[])])
def R44_13.B : List Nat:=[0,0,0,6,15,31,63]
theorem R44_13.tab : rtab .any (opsOf Tryz.f44 13) = R44_13.T:=by kernel_rfl
theorem R44_13.bits : waitsOk R44_13.T.2 R44_13.B = true:=by kernel_rfl
theorem heap84 : Kd.Heap k84:=Kd.heap_iso _ (Kd.heap_pair (Kd.heap_int _) (Kd.heap_pair (Kd.heap_int _) (Kd.heap_pair (Kd.heap_int _) (Kd.heap_pair (Kd.heap_int _) (Kd.heap_pair (Kd.heap_int _) (Kd.heap_int _))))))
def swapR (rooms : List Int) (stirs : List S84) (step : Int) : Except (Int × Int) Yd:=playedP rooms (swapP stirs (step.toNat - 1)) (swapP stirs (step.toNat - 1)).length
def SwapPost (W : World) (rooms : List Int) (stirs : List S84) (step : Int) (e : Ending) (W' : World) : Prop :=
 Below W.heap.size W W' ∧ (match playedP rooms stirs stirs.length with
 |.error x => e = .returned (.tuple #[.agg #[.slice none 0 0,.slice none 0 0],.bool false,.int .i64 x.1])
 |.ok Y => if inP step 1 ((stirs.length : Int) - 1) = true then (match swapR rooms stirs step with
   |.error x => e = .returned (.tuple #[.agg #[.slice none 0 0,.slice none 0 0],.bool false,.int .i64 x.1])
   |.ok Z => ∃ (A5 A6 : Option Addr) (c5 c6 : Nat),e = .returned (.tuple #[.agg #[.slice A5 rooms.length c5,.slice A6 stirs.length c6],.bool (alikeP Y Z),.int .i64 0]) ∧ rooms.length ≤ c5 ∧ stirs.length ≤ c6 ∧ Kd.F (Kd.int .i64) W' (fun k => W.heap.size ≤ k) A5 rooms.length rooms ∧ Kd.C k84 W' A6 stirs.length (swapP stirs (step.toNat - 1)))
   else e = .returned (.tuple #[.agg #[.slice none 0 0,.slice none 0 0],.bool false,.int .i64 1]))
set_option maxRecDepth 100000 in
set_option maxHeartbeats 800000 in
theorem swap_calls (A A2 : Option Addr) (c c2 : Nat) (rooms : List Int) (stirs : List S84) (W : World) (lo : Nat) (hlo : lo ≤ W.heap.size) (hC : Kd.F (Kd.int .i64) W (fun k => k < lo) A rooms.length rooms) (hc : rooms.length ≤ c) (hS : Kd.C k84 W A2 stirs.length stirs) (hc2 : stirs.length ≤ c2) (step : Int) :
  Calls Tryz.prog 44 #[.agg #[.slice A rooms.length c,.slice A2 stirs.length c2],.int .i64 step] W fun e W' => SwapPost W rooms stirs step e W':=by
 have hu:=Tryz.underlying32
 have hu84:=Tryz.underlying84
 have hsm:=hS.2.1
 have hrm:=(Kd.F_now hC).2.1
 have HC:=am (hC)
 have HS:=am (hS)
 have HB:=am (Below.refl W.heap.size W)
 have HC1:=am (Kd.F_alloc HC.out (.cells #[.slice A rooms.length c,.slice A2 stirs.length c2] 32))
 have HS1:=am (Kd.C_alloc HS.out (.cells #[.slice A rooms.length c,.slice A2 stirs.length c2] 32))
 have HB1:=am (below_alloc HB.out (.cells #[.slice A rooms.length c,.slice A2 stirs.length c2] 32))
 have HP:=am (blk_new W (.cells #[.slice A rooms.length c,.slice A2 stirs.length c2] 32))
 have HC2:=am (Kd.F_alloc HC1.out (.cells #[.slice none 0 0,.slice none 0 0] 32))
 have HS2:=am (Kd.C_alloc HS1.out (.cells #[.slice none 0 0,.slice none 0 0] 32))
 have HB2:=am (below_alloc HB1.out (.cells #[.slice none 0 0,.slice none 0 0] 32))
 have HP1:=am (blk_alloc HP.out (.cells #[.slice none 0 0,.slice none 0 0] 32))
 have HR:=am (blk_new' (W.alloc (.cells #[.slice A rooms.length c,.slice A2 stirs.length c2] 32)) (.cells #[.slice none 0 0,.slice none 0 0] 32) (W.heap.size + 1) (by simp))
 clear hC hS
 obtain ⟨r,hr⟩ : ∃ r,r = playedP rooms stirs stirs.length:=⟨_,rfl⟩
 have HQP:=am hr.symm
 clear hr
 go_enter Tryz.func44,Tryz.ntmps44
 go_wp2_with fail
 refine (all_calls A A2 c c2 rooms stirs _ lo (Nat.le_trans hlo (by simp;omega)) HC2.out hc HS2.out hc2).mono ?_
 rintro e w1 ⟨hb,h⟩
 rw [HQP.out] at h
 have HC3:=am (Kd.F_below HC2.out hb)
 have HS3:=am (Kd.C_below HS2.out hb)
 have HB3:=am (below_then HB2.out (below_size HB2.out) hb)
 have HP2:=am (blk_below HP1.out hb)
 have HR1:=am (blk_below HR.out hb)
 clear hb
 cases r with
|error x =>
  subst h
  have hx : ¬ x.1 = 0:=playedP_code HQP.out
  have u0:=bc HR1.out 0 (.slice none 0 0)
  have fu0:=blk_frozen HR1.out 0
  have u1:=bc HR1.out 1 (.slice none 0 0)
  have fu1:=blk_frozen HR1.out 1
  go_wp2
  have bz:=blk_put (cs':=#[.slice none 0 0,.slice none 0 0]) (blk_put (cs':=#[.slice none 0 0,.slice none 0 0]) (HR1.out) 0 (.slice none 0 0) rfl) 1 (.slice none 0 0) rfl
  have z0:=bc bz 0 (.slice none 0 0)
  have z1:=bc bz 1 (.slice none 0 0)
  exact bodyPost_ret (v:=.tuple #[.agg #[.slice none 0 0,.slice none 0 0],.bool false,.int .i64 x.1]) (by simp [results,Tryz.results44,go_sem,z0,z1,hu]) rfl ⟨((HB3.out).setCell (p:=⟨W.heap.size + 1,0,none⟩) (by first|(simp;done)|(simp;omega)) (.slice none 0 0)).setCell (p:=⟨W.heap.size + 1,1,none⟩) (by first|(simp;done)|(simp;omega)) (.slice none 0 0),by rw [HQP.out]⟩
|ok Y =>
  obtain ⟨L,base,hbase,hbad,rfl,hY⟩:=h
  have HY:=am (hY)
  clear hbase hbad hY
  obtain ⟨k1,hk1⟩ : ∃ k1,k1 = inP step 1 ((stirs.length : Int) - 1):=⟨_,rfl⟩
  have HK:=am hk1
  have HWI:=am (show pit_within.f step 1 ((stirs.length : Int) - 1) = some k1 by rw [within_some,hk1];rfl)
  clear hk1
  have hwl : IntKind.i64.wrap ((stirs.length : Int) - 1) = (stirs.length : Int) - 1:=IntWalk.i64_in _ (by omega)
  have g1:=bc HP2.out 1 (.slice A2 stirs.length c2)
  go_wp2_with fail
  refine (pit_within.calls _ _ _ _ _ HWI.out).mono ?_
  rintro e w2 ⟨rfl,m,rfl⟩
  have HC4:=am (Kd.F_drewN HC3.out m)
  have HS4:=am (Kd.C_drewN HS3.out m)
  have HB4:=am (pw_below_drewN HB3.out m)
  have HP3:=am (blk_drewN HP2.out m)
  have HR2:=am (blk_drewN HR1.out m)
  have HY1:=am (HY.out.move (pw_below_drewN (Below.refl _ _) m))
  clear g1 hwl
  generalize w1.drewN m = w2 at HC4 HS4 HB4 HP3 HR2 HY1 ⊢
  cases k1 with
 |false =>
   have u0:=bc HR2.out 0 (.slice none 0 0)
   have fu0:=blk_frozen HR2.out 0
   have u1:=bc HR2.out 1 (.slice none 0 0)
   have fu1:=blk_frozen HR2.out 1
   go_wp2
   have bz:=blk_put (cs':=#[.slice none 0 0,.slice none 0 0]) (blk_put (cs':=#[.slice none 0 0,.slice none 0 0]) (HR2.out) 0 (.slice none 0 0) rfl) 1 (.slice none 0 0) rfl
   have z0:=bc bz 0 (.slice none 0 0)
   have z1:=bc bz 1 (.slice none 0 0)
   exact bodyPost_ret (v:=.tuple #[.agg #[.slice none 0 0,.slice none 0 0],.bool false,.int .i64 1]) (by simp [results,Tryz.results44,go_sem,z0,z1,hu]) rfl ⟨((HB4.out).setCell (p:=⟨W.heap.size + 1,0,none⟩) (by first|(simp;done)|(simp;omega)) (.slice none 0 0)).setCell (p:=⟨W.heap.size + 1,1,none⟩) (by first|(simp;done)|(simp;omega)) (.slice none 0 0),by rw [HQP.out];dsimp only;rw [if_neg (by rw [← HK.out];simp)]⟩
 |true =>
   obtain ⟨k,hk,hkl⟩ : ∃ k : Nat,step = ((k + 1 : Nat) : Int) ∧ k + 1 < stirs.length:=by
    have h:=HK.out
    unfold inP at h
    have h:=of_decide_eq_true h.symm
    exact ⟨step.toNat - 1,by omega,by omega⟩
   subst hk
   have HC5:=am (Kd.F_drew HC4.out)
   have HS5:=am (Kd.C_drew HS4.out)
   have HB5:=am (below_drew HB4.out)
   have HP4:=am (blk_drew HP3.out)
   have HR3:=am (blk_drew HR2.out)
   have HY2:=am (HY1.out.move (below_drew (Below.refl _ _)))
   have HR6:=am (show rooms.length ≤ 100000000 by have h:=(played_ok HQP.out).2.2;have:=h.1.r6;rw [h.2] at this;omega)
   have HS6:=am (show stirs.length ≤ 100000000 by have:=(played_ok HQP.out).2.1;omega)
   go_wp2
   refine start_ (n:=9) (S:=fun w' => w'.cell? ⟨W.heap.size,0,none⟩ = some (.slice A rooms.length c) ∧ w'.cell? ⟨W.heap.size,1,none⟩ = some (.slice A2 stirs.length c2)) (ds:=[8]) #[false,false,false,false,false,false,false,false,false] kr rfl rfl ⟨(blk_cell HP4.out 0).trans rfl,(blk_cell HP4.out 1).trans rfl⟩ (fun hHeld => ?_);refine with_tabW R44_6.tab R44_6.bits (fun HT_ HW_ => ?_)
   generalize (w2).drew = wd at HC5 HS5 HB5 HP4 HR3 HY2 hHeld ⊢
   refine pA 0 (some 30) ?_ 9 1 HT_.out ?_ ?_ ?_ ?_
   rotate_left
   ·intro w'
    go_simp
    with_reducible rfl
   rotate_left
   ·exact vs
   refine tA 1 (some 31) ?_ 9 3 HT_.out HW_.out ?_ hHeld ?_ ?_ ?_
   rotate_left
   ·rintro w' ⟨s0,s1⟩
    go_simp
    with_reducible rfl
   rotate_left
   ·exact vs
   refine pA 3 (some 33) ?_ 9 11 HT_.out ?_ ?_ ?_ ?_
   rotate_left
   ·intro w'
    go_simp
    with_reducible rfl
   rotate_left
   ·exact vs
   refine tA 4 (some 34) ?_ 9 27 HT_.out HW_.out ?_ hHeld ?_ ?_ ?_
   rotate_left
   ·rintro w' ⟨s0,s1⟩
    go_simp
    with_reducible rfl
   rotate_left
   ·exact vs
   refine join_ (σ:=Value × Value × Nat) 1 #[true,true,true,true,true,true,true,true,false] (fun x => [(32,x.1),(35,x.2.1),(36,.agg #[x.1,x.2.1]),(9,.pointer (some ⟨x.2.2,0,none⟩))]) (fun x w' => Below wd.heap.size wd w' ∧ (Kd.int .i64).R 3 w' wd.heap.size (fun _ => True) x.1 rooms ∧ k84.R 84 w' wd.heap.size (fun _ => True) x.2.1 stirs ∧ w'.heap[x.2.2]? = some (.cells #[.slice none 0 0,.slice none 0 0] 32 (0,0)) ∧ wd.heap.size ≤ x.2.2) ?_ ?_
   rotate_left
   ·intro hCont
    refine two_ (i:=2) (j:=7) (Ni:=some 32) (Nj:=some 9) #[true,true,true,true,true,false,false,false,false] #[true,true,false,true,true,false,false,true,false] rfl rfl rfl rfl  (two_of HT_.out kr) (by decide) (by decide) (fun K hK => ?_) (fun K hK => ?_)
    ·skip
     refine goes_ Tryz.func78 kr rfl #[.slice A rooms.length c] (by rfl) rfl rfl vn ?_
     refine (clone78_calls A c rooms _ _ (Kd.F_below HC5.out (Below.refl wd.heap.size wd)) hc HR6.out).mono ?_
     rintro e wf1 ⟨v1,rfl,hb,hR⟩
     have hB_wf1 : Below wd.heap.size wd wf1:=below_then (Below.refl wd.heap.size wd) (below_size (Below.refl wd.heap.size wd)) hb
     have hR_wf1:=R3_of_ft hR
     have hRb_wf1:=Kd.R_lower (base':=wd.heap.size) hR_wf1 (by have h:=(Below.refl wd.heap.size wd).size;first|exact h|first|(simp;done)|simpa using h)
     obtain ⟨B_wf1,b_wf1,rfl⟩:=Kd.R_slice hRb_wf1
     refine ⟨_,rfl,?_⟩
     refine hK.out _ _ ⟨(blk_cell (blk_below HP4.out hB_wf1) 0).trans rfl,(blk_cell (blk_below HP4.out hB_wf1) 1).trans rfl⟩ (fun hHeld => ?_)
     clear hK K
     refine norm_ (a':=?_) ?_ ?_
     rotate_left
     ·show Act.put _ (some 32) _ = _;exact vs
     refine two_ (i:=5) (j:=7) (Ni:=some 35) (Nj:=some 9) #[true,true,true,true,true,true,false,false,false] #[true,true,true,true,true,false,false,true,false] rfl rfl rfl rfl  (two_of HT_.out kr) (by decide) (by decide) (fun K hK => ?_) (fun K hK => ?_)
     ·skip
      refine goes_ Tryz.func124 kr rfl #[.slice A2 stirs.length c2] (by rfl) rfl rfl vn ?_
      refine (clone124_calls A2 c2 stirs _ (fun k => k < wf1.heap.size) (Kd.C_F heap84 (Kd.C_below HS5.out (hB_wf1))) hc2 HS6.out).mono ?_
      rintro e wf2 ⟨v2,rfl,hb,hR⟩
      have hB_wf2 : Below wd.heap.size wd wf2:=below_then (hB_wf1) (below_size (hB_wf1)) hb
      have hR_wf2:=R84_of_ft hR
      have hRb_wf2:=Kd.R_lower (base':=wd.heap.size) hR_wf2 (by have h:=(hB_wf1).size;first|exact h|first|(simp;done)|simpa using h)
      obtain ⟨B_wf2,b_wf2,rfl⟩:=Kd.R_slice hRb_wf2
      have hr2_wf2:=Kd.R_below (hRb_wf1) hb
      refine ⟨_,rfl,?_⟩
      refine hK.out _ _ ⟨(blk_cell (blk_below HP4.out hB_wf2) 0).trans rfl,(blk_cell (blk_below HP4.out hB_wf2) 1).trans rfl⟩ (fun hHeld => ?_)
      clear hK K
      refine norm_ (a':=?_) ?_ ?_
      rotate_left
      ·show Act.put _ (some 35) _ = _;exact vs
      refine pA 6 (some 36) ?_ 9 127 HT_.out ?_ ?_ ?_ ?_
      rotate_left
      ·intro w'
       go_simp
       with_reducible rfl
      rotate_left
      ·exact vs
      refine one_ (i:=7) (N:=some 9) (ab 9 255) rfl rfl  (one_of HT_.out kr) (by decide) (fun K hK => ?_)
      refine value_ (w1:=?_) (v:=?_) (by rfl) rfl ?_ ?_
      rotate_left 2
      ·go_simp
       constructor
       ·rfl
       ·rfl
      refine hK.out _ _ ⟨(blk_cell (blk_below HP4.out (below_alloc (hB_wf2) (.cells #[.slice none 0 0,.slice none 0 0] 32))) 0).trans rfl,(blk_cell (blk_below HP4.out (below_alloc (hB_wf2) (.cells #[.slice none 0 0,.slice none 0 0] 32))) 1).trans rfl⟩ (fun hHeld => ?_)
      clear hK K
      refine norm_ (a':=?_) ?_ ?_
      rotate_left
      ·show Act.put _ (some 9) _ = _;exact vs
      exact norm_ (by first|(simp only [putAll,Act.put,List.setIfInBounds_toArray,List.set_cons_zero,List.set_cons_succ,i64_w,i32_w];done)|(simp only [putAll,Act.put,List.setIfInBounds_toArray,List.set_cons_zero,List.set_cons_succ,i64_w,i32_w];rfl)) (hCont ⟨(.slice B_wf1 rooms.length b_wf1),(.slice B_wf2 stirs.length b_wf2),wf2.heap.size⟩ _ ⟨(below_alloc (hB_wf2) (.cells #[.slice none 0 0,.slice none 0 0] 32)),(Kd.R_alloc (hr2_wf2) (.cells #[.slice none 0 0,.slice none 0 0] 32)),(Kd.R_alloc (hRb_wf2) (.cells #[.slice none 0 0,.slice none 0 0] 32)),(blk_new' wf2 (.cells #[.slice none 0 0,.slice none 0 0] 32) (wf2.heap.size) (by simp)),(by have h:=(hB_wf2).size;first|(simp;done)|simpa using h)⟩)
     ·skip
      refine value_ (w1:=?_) (v:=?_) (by rfl) rfl ?_ ?_
      rotate_left 2
      ·go_simp
       constructor
       ·rfl
       ·rfl
      refine hK.out _ _ ⟨(blk_cell (blk_below HP4.out (below_alloc (hB_wf1) (.cells #[.slice none 0 0,.slice none 0 0] 32))) 0).trans rfl,(blk_cell (blk_below HP4.out (below_alloc (hB_wf1) (.cells #[.slice none 0 0,.slice none 0 0] 32))) 1).trans rfl⟩ (fun hHeld => ?_)
      clear hK K
      refine norm_ (a':=?_) ?_ ?_
      rotate_left
      ·show Act.put _ (some 9) _ = _;exact vs
      refine one_ (i:=5) (N:=some 35) (ab 9 191) rfl rfl  (one_of HT_.out kr) (by decide) (fun K hK => ?_)
      refine goes_ Tryz.func124 kr rfl #[.slice A2 stirs.length c2] (by rfl) rfl rfl vn ?_
      refine (clone124_calls A2 c2 stirs _ (fun k => k < (wf1.alloc (.cells #[.slice none 0 0,.slice none 0 0] 32)).heap.size) (Kd.C_F heap84 (Kd.C_below HS5.out ((below_alloc (hB_wf1) (.cells #[.slice none 0 0,.slice none 0 0] 32))))) hc2 HS6.out).mono ?_
      rintro e wf3 ⟨v3,rfl,hb,hR⟩
      have hB_wf3 : Below wd.heap.size wd wf3:=below_then ((below_alloc (hB_wf1) (.cells #[.slice none 0 0,.slice none 0 0] 32))) (below_size ((below_alloc (hB_wf1) (.cells #[.slice none 0 0,.slice none 0 0] 32)))) hb
      have hR_wf3:=R84_of_ft hR
      have hRb_wf3:=Kd.R_lower (base':=wd.heap.size) hR_wf3 (by have h:=((below_alloc (hB_wf1) (.cells #[.slice none 0 0,.slice none 0 0] 32))).size;first|exact h|first|(simp;done)|simpa using h)
      obtain ⟨B_wf3,b_wf3,rfl⟩:=Kd.R_slice hRb_wf3
      have hr2_wf3:=Kd.R_below ((Kd.R_alloc (hRb_wf1) (.cells #[.slice none 0 0,.slice none 0 0] 32))) hb
      have hp_wf3:=blk_below ((blk_new' wf1 (.cells #[.slice none 0 0,.slice none 0 0] 32) (wf1.heap.size) (by simp))) hb
      refine ⟨_,rfl,?_⟩
      refine hK.out _ _ ⟨(blk_cell (blk_below HP4.out hB_wf3) 0).trans rfl,(blk_cell (blk_below HP4.out hB_wf3) 1).trans rfl⟩ (fun hHeld => ?_)
      clear hK K
      refine norm_ (a':=?_) ?_ ?_
      rotate_left
      ·show Act.put _ (some 35) _ = _;exact vs
      refine pA 6 (some 36) ?_ 9 255 HT_.out ?_ ?_ ?_ ?_
      rotate_left
      ·intro w'
       go_simp
       with_reducible rfl
      rotate_left
      ·exact vs
      exact norm_ (by first|(simp only [putAll,Act.put,List.setIfInBounds_toArray,List.set_cons_zero,List.set_cons_succ,i64_w,i32_w];done)|(simp only [putAll,Act.put,List.setIfInBounds_toArray,List.set_cons_zero,List.set_cons_succ,i64_w,i32_w];rfl)) (hCont ⟨(.slice B_wf1 rooms.length b_wf1),(.slice B_wf3 stirs.length b_wf3),wf1.heap.size⟩ _ ⟨hB_wf3,hr2_wf3,hRb_wf3,hp_wf3,(by have h:=(hB_wf1).size;first|(simp;done)|simpa using h)⟩)
    ·skip
     refine value_ (w1:=?_) (v:=?_) (by rfl) rfl ?_ ?_
     rotate_left 2
     ·go_simp
      constructor
      ·rfl
      ·rfl
     refine hK.out _ _ ⟨(blk_cell (blk_below HP4.out (below_alloc (Below.refl wd.heap.size wd) (.cells #[.slice none 0 0,.slice none 0 0] 32))) 0).trans rfl,(blk_cell (blk_below HP4.out (below_alloc (Below.refl wd.heap.size wd) (.cells #[.slice none 0 0,.slice none 0 0] 32))) 1).trans rfl⟩ (fun hHeld => ?_)
     clear hK K
     refine norm_ (a':=?_) ?_ ?_
     rotate_left
     ·show Act.put _ (some 9) _ = _;exact vs
     refine one_ (i:=2) (N:=some 32) (ab 9 159) rfl rfl  (one_of HT_.out kr) (by decide) (fun K hK => ?_)
     refine goes_ Tryz.func78 kr rfl #[.slice A rooms.length c] (by rfl) rfl rfl vn ?_
     refine (clone78_calls A c rooms _ _ (Kd.F_below HC5.out ((below_alloc (Below.refl wd.heap.size wd) (.cells #[.slice none 0 0,.slice none 0 0] 32)))) hc HR6.out).mono ?_
     rintro e wf4 ⟨v4,rfl,hb,hR⟩
     have hB_wf4 : Below wd.heap.size wd wf4:=below_then ((below_alloc (Below.refl wd.heap.size wd) (.cells #[.slice none 0 0,.slice none 0 0] 32))) (below_size ((below_alloc (Below.refl wd.heap.size wd) (.cells #[.slice none 0 0,.slice none 0 0] 32)))) hb
     have hR_wf4:=R3_of_ft hR
     have hRb_wf4:=Kd.R_lower (base':=wd.heap.size) hR_wf4 (by have h:=((below_alloc (Below.refl wd.heap.size wd) (.cells #[.slice none 0 0,.slice none 0 0] 32))).size;first|exact h|first|(simp;done)|simpa using h)
     obtain ⟨B_wf4,b_wf4,rfl⟩:=Kd.R_slice hRb_wf4
     have hp_wf4:=blk_below ((blk_new' wd (.cells #[.slice none 0 0,.slice none 0 0] 32) (wd.heap.size) (by simp))) hb
     refine ⟨_,rfl,?_⟩
     refine hK.out _ _ ⟨(blk_cell (blk_below HP4.out hB_wf4) 0).trans rfl,(blk_cell (blk_below HP4.out hB_wf4) 1).trans rfl⟩ (fun hHeld => ?_)
     clear hK K
     refine norm_ (a':=?_) ?_ ?_
     rotate_left
     ·show Act.put _ (some 32) _ = _;exact vs
     refine one_ (i:=5) (N:=some 35) (ab 9 191) rfl rfl  (one_of HT_.out kr) (by decide) (fun K hK => ?_)
     refine goes_ Tryz.func124 kr rfl #[.slice A2 stirs.length c2] (by rfl) rfl rfl vn ?_
     refine (clone124_calls A2 c2 stirs _ (fun k => k < wf4.heap.size) (Kd.C_F heap84 (Kd.C_below HS5.out (hB_wf4))) hc2 HS6.out).mono ?_
     rintro e wf5 ⟨v5,rfl,hb,hR⟩
     have hB_wf5 : Below wd.heap.size wd wf5:=below_then (hB_wf4) (below_size (hB_wf4)) hb
     have hR_wf5:=R84_of_ft hR
     have hRb_wf5:=Kd.R_lower (base':=wd.heap.size) hR_wf5 (by have h:=(hB_wf4).size;first|exact h|first|(simp;done)|simpa using h)
     obtain ⟨B_wf5,b_wf5,rfl⟩:=Kd.R_slice hRb_wf5
     have hr2_wf5:=Kd.R_below (hRb_wf4) hb
     have hp_wf5:=blk_below (hp_wf4) hb
     refine ⟨_,rfl,?_⟩
     refine hK.out _ _ ⟨(blk_cell (blk_below HP4.out hB_wf5) 0).trans rfl,(blk_cell (blk_below HP4.out hB_wf5) 1).trans rfl⟩ (fun hHeld => ?_)
     clear hK K
     refine norm_ (a':=?_) ?_ ?_
     rotate_left
     ·show Act.put _ (some 35) _ = _;exact vs
     refine pA 6 (some 36) ?_ 9 255 HT_.out ?_ ?_ ?_ ?_
     rotate_left
     ·intro w'
      go_simp
      with_reducible rfl
     rotate_left
     ·exact vs
     exact norm_ (by first|(simp only [putAll,Act.put,List.setIfInBounds_toArray,List.set_cons_zero,List.set_cons_succ,i64_w,i32_w];done)|(simp only [putAll,Act.put,List.setIfInBounds_toArray,List.set_cons_zero,List.set_cons_succ,i64_w,i32_w];rfl)) (hCont ⟨(.slice B_wf4 rooms.length b_wf4),(.slice B_wf5 stirs.length b_wf5),wd.heap.size⟩ _ ⟨hB_wf5,hr2_wf5,hRb_wf5,hp_wf5,(by have h:=(Below.refl wd.heap.size wd).size;first|(simp;done)|simpa using h)⟩)
   rintro ⟨v5,v6,p9⟩ w7 ⟨hb,hr5,hr6,hp9,hl9⟩
   obtain ⟨A5,c5,rfl⟩:=Kd.R_slice hr5
   obtain ⟨A6,c6,rfl⟩:=Kd.R_slice hr6
   obtain ⟨g,hg⟩ : ∃ g,A6 = some ⟨g,0,none⟩:=by
    obtain ⟨_,inner,hown,hr⟩:=hr6
    rcases hown.2 with ⟨hv,hnil⟩|⟨g',cap',cur,hv,_⟩
    ·injection hv with _ hl0 _
     omega
    ·injection hv with ha _ _
     exact ⟨g',ha⟩
   subst hg
   have HGN:=am (Kd.R_base hr6 g rfl)
   have HL9:=am hl9
   have HN:=am hb
   have HH5:=am hr5
   have HH6:=am hr6
   have H9:=am hp9
   have HNE:=am (show p9 ≠ g from fun e => R_offg hr6 hp9 (by decide) (by rw [e];rfl))
   clear hb hr5 hr6 hp9 hl9
   refine norm_ (a':=?_) ?_ ?_
   rotate_left
   ·simp only [putAll,Act.put,List.setIfInBounds_toArray,List.set_cons_zero,List.set_cons_succ]
    rfl
   refine last_ (i:=8) (N:=none) (ab 9 511) rfl rfl (one_of HT_.out kr) (by decide) (fun K hK => ?_)
   have u0:=bc H9.out 0 (.slice none 0 0)
   have fu0:=blk_frozen H9.out 0
   have u1:=bc H9.out 1 (.slice none 0 0)
   have fu1:=blk_frozen H9.out 1
   refine skip_ (w1:=?_) (by rfl) rfl ?_ ?_
   rotate_left
   ·go_simp
    rfl
   refine hK.out _ _ ?_
   clear hK K
   refine done_ (done_of HT_.out kr) ?_
   clear u0 u1 fu0 fu1
   have HN1:=am ((HN.out.setCell (p:=⟨p9,0,none⟩) HL9.out (.slice A5 rooms.length c5)).setCell (p:=⟨p9,1,none⟩) HL9.out (.slice (some ⟨g,0,none⟩) stirs.length c6))
   have H91:=am (blk_put (cs':=#[.slice A5 rooms.length c5,.slice (some ⟨g,0,none⟩) stirs.length c6]) (blk_put (cs':=#[.slice A5 rooms.length c5,.slice none 0 0]) H9.out 0 (.slice A5 rooms.length c5) rfl) 1 (.slice (some ⟨g,0,none⟩) stirs.length c6) rfl)
   have HH51:=am (Kd.R_set (Kd.R_set HH5.out H9.out (by decide) 0 (.slice A5 rooms.length c5)) (blk_put (cs':=#[.slice A5 rooms.length c5,.slice none 0 0]) H9.out 0 (.slice A5 rooms.length c5) rfl) (by decide) 1 (.slice (some ⟨g,0,none⟩) stirs.length c6))
   have HH61:=am (Kd.R_set (Kd.R_set HH6.out H9.out (by decide) 0 (.slice A5 rooms.length c5)) (blk_put (cs':=#[.slice A5 rooms.length c5,.slice none 0 0]) H9.out 0 (.slice A5 rooms.length c5) rfl) (by decide) 1 (.slice (some ⟨g,0,none⟩) stirs.length c6))
   generalize ((w7.setCell ⟨p9,0,none⟩ (.slice A5 rooms.length c5)).setCell ⟨p9,1,none⟩ (.slice (some ⟨g,0,none⟩) stirs.length c6)) = w8 at HN1 H91 HH51 HH61 ⊢
   obtain ⟨ad,had⟩ : ∃ ad : Addr,ad = ⟨g,0,none⟩:=⟨_,rfl⟩
   have HAD:=am had
   rw [← had] at H91
   have hw0 : wrap64 (k : Int) = (k : Int):=wrap_in (by omega) (by omega)
   have hkt : ((k : Int) + 1).toNat = k + 1:=by omega
   have hk0 : (0 : Int) ≤ (k : Int) + 1:=by omega
   have hk00 : (0 : Int) ≤ (k : Int):=by omega
   clear had HN H9 HH5 HH6
   have hkn : (k : Int) < (stirs.length : Int):=by omega
   have hkn1 : (k : Int) + 1 < (stirs.length : Int):=by omega
   have HN2:=am (below_drew HN1.out)
   have H92:=am (blk_drew H91.out)
   have HH52:=am (Kd.R_drew HH51.out)
   have HH62:=am (Kd.R_drew HH61.out)
   go_wp2
   refine start_ (n:=11) (S:=fun w' => w'.cell? ⟨p9,1,none⟩ = some (.slice (some ad) stirs.length c6)) (ds:=[]) #[false,false,false,false,false,false,false,false,false,false,false] kr rfl rfl ((blk_cell H92.out 1).trans rfl) (fun hHeld => ?_);refine with_tabW R44_7.tab R44_7.bits (fun HT_ HW_ => ?_)
   generalize (w8).drew = w9 at HN2 H92 HH52 HH62 hHeld ⊢
   refine pA 0 (some 37) ?_ 11 1 HT_.out ?_ ?_ ?_ ?_
   rotate_left
   ·intro w'
    go_simp
    with_reducible rfl
   rotate_left
   ·exact vs
   refine tA 1 (some 38) ?_ 11 3 HT_.out HW_.out ?_ hHeld ?_ ?_ ?_
   rotate_left
   ·rintro w' s0
    go_simp
    with_reducible rfl
   rotate_left
   ·exact vs
   refine pA 2 (some 39) ?_ 11 7 HT_.out ?_ ?_ ?_ ?_
   rotate_left
   ·intro w'
    go_simp
    with_reducible rfl
   rotate_left
   ·exact vs
   refine pA 3 (some 40) ?_ 11 15 HT_.out ?_ ?_ ?_ ?_
   rotate_left
   ·intro w'
    go_simp
    with_reducible rfl
   rotate_left
   ·exact vs
   refine pA 4 (some 41) ?_ 11 31 HT_.out ?_ ?_ ?_ ?_
   rotate_left
   ·intro w'
    go_simp
    with_reducible rfl
   rotate_left
   ·exact vs
   refine pA 5 (some 42) ?_ 11 63 HT_.out ?_ ?_ ?_ ?_
   rotate_left
   ·intro w'
    go_simp
    with_reducible rfl
   rotate_left
   ·exact vs
   refine tA 6 (some 43) ?_ 11 127 HT_.out HW_.out ?_ hHeld ?_ ?_ ?_
   rotate_left
   ·rintro w' s0
    go_simp
    with_reducible rfl
   rotate_left
   ·exact vs
   refine pA 7 (some 44) ?_ 11 255 HT_.out ?_ ?_ ?_ ?_
   rotate_left
   ·intro w'
    go_simp
    with_reducible rfl
   rotate_left
   ·exact vs
   refine pA 8 (some 45) ?_ 11 511 HT_.out ?_ ?_ ?_ ?_
   rotate_left
   ·intro w'
    go_simp
    with_reducible rfl
   rotate_left
   ·exact vs
   refine pA 9 (some 10) ?_ 11 1023 HT_.out ?_ ?_ ?_ ?_
   rotate_left
   ·intro w'
    go_simp
    with_reducible rfl
   rotate_left
   ·exact vs
   refine pA 10 (some 11) ?_ 11 2047 HT_.out ?_ ?_ ?_ ?_
   rotate_left
   ·intro w'
    go_simp
    with_reducible rfl
   rotate_left
   ·exact vs
   refine done_ (done_of HT_.out kr) ?_
   clear HN1 H91 HH51 HH61
   obtain ⟨s0,hs0⟩ : ∃ s0,s0 = rd_T84 stirs (k : Int):=⟨_,rfl⟩
   obtain ⟨s1,hs1⟩ : ∃ s1,s1 = rd_T84 stirs ((k + 1 : Nat) : Int):=⟨_,rfl⟩
   have HS0:=am hs0
   have HS1:=am hs1
   have HN3:=am (below_drew HN2.out)
   have H93:=am (blk_drew H92.out)
   have HH53:=am (Kd.R_drew HH52.out)
   have HH63:=am (Kd.R_drew HH62.out)
   have HCE:=am (show (w9.drew.cell? (ad.add (k * 6)) = some (.int .i64 s0.f0) ∧ w9.drew.cell? ⟨(ad.add (k * 6)).block,(ad.add (k * 6)).off + 1,none⟩ = some (.int .i64 s0.f1) ∧ w9.drew.cell? ⟨(ad.add (k * 6)).block,(ad.add (k * 6)).off + 2,none⟩ = some (.int .i64 s0.f2) ∧ w9.drew.cell? ⟨(ad.add (k * 6)).block,(ad.add (k * 6)).off + 3,none⟩ = some (.int .i64 s0.f3) ∧ w9.drew.cell? ⟨(ad.add (k * 6)).block,(ad.add (k * 6)).off + 4,none⟩ = some (.int .i64 s0.f4) ∧ w9.drew.cell? ⟨(ad.add (k * 6)).block,(ad.add (k * 6)).off + 5,none⟩ = some (.int .i64 s0.f5)) ∧ w9.drew.cell? (ad.add ((k + 1) * 6)) = some (.int .i64 s1.f0) ∧ w9.drew.cell? ⟨(ad.add ((k + 1) * 6)).block,(ad.add ((k + 1) * 6)).off + 1,none⟩ = some (.int .i64 s1.f1) ∧ w9.drew.cell? ⟨(ad.add ((k + 1) * 6)).block,(ad.add ((k + 1) * 6)).off + 2,none⟩ = some (.int .i64 s1.f2) ∧ w9.drew.cell? ⟨(ad.add ((k + 1) * 6)).block,(ad.add ((k + 1) * 6)).off + 3,none⟩ = some (.int .i64 s1.f3) ∧ w9.drew.cell? ⟨(ad.add ((k + 1) * 6)).block,(ad.add ((k + 1) * 6)).off + 4,none⟩ = some (.int .i64 s1.f4) ∧ w9.drew.cell? ⟨(ad.add ((k + 1) * 6)).block,(ad.add ((k + 1) * 6)).off + 5,none⟩ = some (.int .i64 s1.f5) from by
    have hC:=(Kd.R_reads' HH63.out).2.2
    rw [← HAD.out] at hC
    obtain ⟨a1,e1,q0,q1,q2,q3,q4,q5⟩:=at_T84 hC (k : Int) (by omega) (by omega)
    obtain ⟨a2,e2,r0,r1,r2,r3,r4,r5⟩:=at_T84 hC ((k + 1 : Nat) : Int) (by omega) (by omega)
    cases e1
    cases e2
    rw [Int.toNat_natCast,← hs0] at q0 q1 q2 q3 q4 q5
    rw [Int.toNat_natCast,← hs1] at r0 r1 r2 r3 r4 r5
    exact ⟨⟨q0,q1,q2,q3,q4,q5⟩,r0,r1,r2,r3,r4,r5⟩)
   clear hs0 hs1
   go_wp2
   refine start_ (n:=12) (S:=fun w' => (w'.cell? (ad.add (k * 6)) = some (.int .i64 s0.f0) ∧ w'.cell? ⟨(ad.add (k * 6)).block,(ad.add (k * 6)).off + 1,none⟩ = some (.int .i64 s0.f1) ∧ w'.cell? ⟨(ad.add (k * 6)).block,(ad.add (k * 6)).off + 2,none⟩ = some (.int .i64 s0.f2) ∧ w'.cell? ⟨(ad.add (k * 6)).block,(ad.add (k * 6)).off + 3,none⟩ = some (.int .i64 s0.f3) ∧ w'.cell? ⟨(ad.add (k * 6)).block,(ad.add (k * 6)).off + 4,none⟩ = some (.int .i64 s0.f4) ∧ w'.cell? ⟨(ad.add (k * 6)).block,(ad.add (k * 6)).off + 5,none⟩ = some (.int .i64 s0.f5)) ∧ w'.cell? (ad.add ((k + 1) * 6)) = some (.int .i64 s1.f0) ∧ w'.cell? ⟨(ad.add ((k + 1) * 6)).block,(ad.add ((k + 1) * 6)).off + 1,none⟩ = some (.int .i64 s1.f1) ∧ w'.cell? ⟨(ad.add ((k + 1) * 6)).block,(ad.add ((k + 1) * 6)).off + 2,none⟩ = some (.int .i64 s1.f2) ∧ w'.cell? ⟨(ad.add ((k + 1) * 6)).block,(ad.add ((k + 1) * 6)).off + 3,none⟩ = some (.int .i64 s1.f3) ∧ w'.cell? ⟨(ad.add ((k + 1) * 6)).block,(ad.add ((k + 1) * 6)).off + 4,none⟩ = some (.int .i64 s1.f4) ∧ w'.cell? ⟨(ad.add ((k + 1) * 6)).block,(ad.add ((k + 1) * 6)).off + 5,none⟩ = some (.int .i64 s1.f5)) (ds:=[9,11]) #[false,false,false,false,false,false,false,false,false,false,false,false] kr rfl rfl HCE.out (fun hHeld => ?_);refine with_tabW R44_8.tab R44_8.bits (fun HT_ HW_ => ?_)
   generalize (w9).drew = wx at HN3 H93 HH53 HH63 HCE hHeld ⊢
   refine pA 0 (some 46) ?_ 12 1 HT_.out ?_ ?_ ?_ ?_
   rotate_left
   ·intro w'
    go_simp
    with_reducible rfl
   rotate_left
   ·exact vs
   refine pA 1 (some 47) ?_ 12 3 HT_.out ?_ ?_ ?_ ?_
   rotate_left
   ·intro w'
    go_simp
    with_reducible rfl
   rotate_left
   ·exact vs
   refine pA 2 (some 48) ?_ 12 7 HT_.out ?_ ?_ ?_ ?_
   rotate_left
   ·intro w'
    go_simp
    with_reducible rfl
   rotate_left
   ·exact vs
   refine pA 3 (some 49) ?_ 12 15 HT_.out ?_ ?_ ?_ ?_
   rotate_left
   ·intro w'
    go_simp
    with_reducible rfl
   rotate_left
   ·exact vs
   refine tA 4 (some 50) ?_ 12 31 HT_.out HW_.out ?_ hHeld ?_ ?_ ?_
   rotate_left
   ·rintro w' ⟨⟨q0,q1,q2,q3,q4,q5⟩,r0,r1,r2,r3,r4,r5⟩
    go_simp
    with_reducible rfl
   rotate_left
   ·exact vs
   refine pA 5 (some 51) ?_ 12 63 HT_.out ?_ ?_ ?_ ?_
   rotate_left
   ·intro w'
    go_simp
    with_reducible rfl
   rotate_left
   ·exact vs
   refine pA 6 (some 52) ?_ 12 127 HT_.out ?_ ?_ ?_ ?_
   rotate_left
   ·intro w'
    go_simp
    with_reducible rfl
   rotate_left
   ·exact vs
   refine tA 7 (some 53) ?_ 12 255 HT_.out HW_.out ?_ hHeld ?_ ?_ ?_
   rotate_left
   ·rintro w' ⟨⟨q0,q1,q2,q3,q4,q5⟩,r0,r1,r2,r3,r4,r5⟩
    go_simp
    with_reducible rfl
   rotate_left
   ·exact vs
   refine pA 8 (some 54) ?_ 12 511 HT_.out ?_ ?_ ?_ ?_
   rotate_left
   ·intro w'
    go_simp
    with_reducible rfl
   rotate_left
   ·exact vs
   refine last_ (i:=9) (N:=none) (ab 12 1023) rfl rfl (one_of HT_.out kr) (by decide) (fun K hK => ?_)
   have hx:=row84_set HH63.out (i:=k) (Nat.lt_of_succ_lt hkl) s1
   obtain ⟨wa,hwa⟩ : ∃ wa,wa = wx.setCells g (k * 6) (cells84 s1):=⟨_,rfl⟩
   rw [← hwa] at hx
   have hr : (Instr.storeAt 84 (.pointer (some (ad.add (k * 6)))) (.agg #[.int .i64 s1.f0,.int .i64 s1.f1,.int .i64 s1.f2,.int .i64 s1.f3,.int .i64 s1.f4,.int .i64 s1.f5])).run Tryz.prog wx = .ok () wa:=by
    rw [HAD.out,add_plain]
    exact hx.1
   have x2:=hx.2.1
   have x3:=hx.2.2
   clear hx hwa
   refine skip_ (w1:=wa) ?ha ?hb ?hrun ?hrest
   case ha => rfl
   case hb => rfl
   case hrun => exact exec_store (t:=84) (p:=.tmp 54) (q:=.tmp 50) rfl rfl rfl hr
   clear hr
   have HN4:=am (below_grown HN3.out HN3.out.size x3 HGN.out)
   have H94:=am (blk_grown H93.out x3 (by intro e;injection e with e;exact HNE.out e))
   have HH54:=am (R_own_move rfl HH53.out (fun k hk => x3.block k (Kd.R_lt HH53.out k hk) (fun e => by rw [e] at hk;exact R_off HH53.out HH63.out (by decide) g hk rfl)))
   have HH64:=am (x2)
   clear x2 x3
   refine hK.out _ _ ?_
   clear hK K
   refine pA 10 (some 55) ?_ 12 2047 HT_.out ?_ ?_ ?_ ?_
   rotate_left
   ·intro w'
    go_simp
    with_reducible rfl
   rotate_left
   ·exact vs
   refine last_ (i:=11) (N:=none) (ab 12 4095) rfl rfl (one_of HT_.out kr) (by decide) (fun K hK => ?_)
   have hx:=row84_set HH64.out (i:=k + 1) hkl s0
   obtain ⟨wb,hwb⟩ : ∃ wb,wb = wa.setCells g ((k + 1) * 6) (cells84 s0):=⟨_,rfl⟩
   rw [← hwb] at hx
   have hr : (Instr.storeAt 84 (.pointer (some (ad.add ((k + 1) * 6)))) (.agg #[.int .i64 s0.f0,.int .i64 s0.f1,.int .i64 s0.f2,.int .i64 s0.f3,.int .i64 s0.f4,.int .i64 s0.f5])).run Tryz.prog wa = .ok () wb:=by
    rw [HAD.out,add_plain]
    exact hx.1
   have x2:=hx.2.1
   have x3:=hx.2.2
   clear hx hwb
   refine skip_ (w1:=wb) ?ha2 ?hb2 ?hrun2 ?hrest2
   case ha2 => rfl
   case hb2 => rfl
   case hrun2 => exact exec_store (t:=84) (p:=.tmp 55) (q:=.tmp 53) rfl rfl rfl hr
   clear hr
   refine hK.out _ _ ?_
   clear hK K
   refine done_ (done_of HT_.out kr) ?_
   have HN5:=am (below_grown HN4.out HN4.out.size x3 HGN.out)
   have H95:=am (blk_grown H94.out x3 (by intro e;injection e with e;exact HNE.out e))
   have HH55:=am (R_own_move rfl HH54.out (fun k hk => x3.block k (Kd.R_lt HH54.out k hk) (fun e => by rw [e] at hk;exact R_off HH54.out HH64.out (by decide) g hk rfl)))
   have HH65:=am (x2)
   clear x2 x3 HN2 H92 HH52 HH62 HN3 H93 HH53 HH63 HN4 H94 HH54 HH64 HCE
   have HN6:=am (below_drew HN5.out)
   have H96:=am (blk_drew H95.out)
   have HH56:=am (Kd.R_drew HH55.out)
   have HH66:=am (Kd.R_drew HH65.out)
   obtain ⟨ls,hls⟩ : ∃ ls,ls = (stirs.set k s1).set (k + 1) s0:=⟨_,rfl⟩
   rw [← hls] at HH66
   have HLS:=am hls
   have HE0:=am (show (ls.getD k z84).f2 = s1.f2 by rw [hls,getD84_set s0 (by rw [List.length_set];omega),if_neg (by omega),getD84_set s1 (by omega),if_pos rfl])
   have HE1:=am (show (ls.getD (k + 1) z84).f2 = s0.f2 by rw [hls,getD84_set s0 (by rw [List.length_set];omega),if_pos rfl])
   clear hls HN5 H95 HH55 HH65
   have HCE:=am (show wb.drew.cell? ⟨(ad.add (k * 6)).block,(ad.add (k * 6)).off + 2,none⟩ = some (.int .i64 s1.f2) ∧ wb.drew.cell? ⟨(ad.add ((k + 1) * 6)).block,(ad.add ((k + 1) * 6)).off + 2,none⟩ = some (.int .i64 s0.f2) from by
    rw [HAD.out,add_plain,add_plain]
    exact ⟨by rw [← HE0.out];exact (row84_day HH66.out (i:=k) (Nat.lt_of_succ_lt hkl) 0).2.2.1,by rw [← HE1.out];exact (row84_day HH66.out (i:=k + 1) hkl 0).2.2.1⟩)
   go_wp2
   refine start_ (n:=16) (S:=fun w' => w'.cell? ⟨(ad.add (k * 6)).block,(ad.add (k * 6)).off + 2,none⟩ = some (.int .i64 s1.f2) ∧ w'.cell? ⟨(ad.add ((k + 1) * 6)).block,(ad.add ((k + 1) * 6)).off + 2,none⟩ = some (.int .i64 s0.f2)) (ds:=[12,15]) #[false,false,false,false,false,false,false,false,false,false,false,false,false,false,false,false] kr rfl rfl HCE.out (fun hHeld => ?_);refine with_tabW R44_9.tab R44_9.bits (fun HT_ HW_ => ?_)
   generalize (wb).drew = wx at HN6 H96 HH56 HH66 HCE hHeld ⊢
   refine pA 0 (some 56) ?_ 16 1 HT_.out ?_ ?_ ?_ ?_
   rotate_left
   ·intro w'
    go_simp
    with_reducible rfl
   rotate_left
   ·exact vs
   refine pA 1 (some 57) ?_ 16 3 HT_.out ?_ ?_ ?_ ?_
   rotate_left
   ·intro w'
    go_simp
    with_reducible rfl
   rotate_left
   ·exact vs
   refine pA 2 (some 58) ?_ 16 7 HT_.out ?_ ?_ ?_ ?_
   rotate_left
   ·intro w'
    go_simp
    with_reducible rfl
   rotate_left
   ·exact vs
   refine pA 3 (some 59) ?_ 16 15 HT_.out ?_ ?_ ?_ ?_
   rotate_left
   ·intro w'
    go_simp
    with_reducible rfl
   rotate_left
   ·exact vs
   refine pA 4 (some 60) ?_ 16 31 HT_.out ?_ ?_ ?_ ?_
   rotate_left
   ·intro w'
    go_simp
    with_reducible rfl
   rotate_left
   ·exact vs
   refine tA 5 (some 61) ?_ 16 63 HT_.out HW_.out ?_ hHeld ?_ ?_ ?_
   rotate_left
   ·rintro w' ⟨q0,q1⟩
    go_simp
    with_reducible rfl
   rotate_left
   ·exact vs
   refine pA 6 (some 62) ?_ 16 127 HT_.out ?_ ?_ ?_ ?_
   rotate_left
   ·intro w'
    go_simp
    with_reducible rfl
   rotate_left
   ·exact vs
   refine pA 7 (some 63) ?_ 16 255 HT_.out ?_ ?_ ?_ ?_
   rotate_left
   ·intro w'
    go_simp
    with_reducible rfl
   rotate_left
   ·exact vs
   refine pA 8 (some 64) ?_ 16 511 HT_.out ?_ ?_ ?_ ?_
   rotate_left
   ·intro w'
    go_simp
    with_reducible rfl
   rotate_left
   ·exact vs
   refine tA 9 (some 65) ?_ 16 1023 HT_.out HW_.out ?_ hHeld ?_ ?_ ?_
   rotate_left
   ·rintro w' ⟨q0,q1⟩
    go_simp
    with_reducible rfl
   rotate_left
   ·exact vs
   refine pA 10 (some 66) ?_ 16 2047 HT_.out ?_ ?_ ?_ ?_
   rotate_left
   ·intro w'
    go_simp
    with_reducible rfl
   rotate_left
   ·exact vs
   refine pA 11 (some 67) ?_ 16 4095 HT_.out ?_ ?_ ?_ ?_
   rotate_left
   ·intro w'
    go_simp
    with_reducible rfl
   rotate_left
   ·exact vs
   refine last_ (i:=12) (N:=none) (ab 16 8191) rfl rfl (one_of HT_.out kr) (by decide) (fun K hK => ?_)
   have hx:=row84_day HH66.out (i:=k) (Nat.lt_of_succ_lt hkl) s0.f2
   have x2:=hx.1
   have x3:=hx.2.1
   have x4:=hx.2.2.1
   have x5:=hx.2.2.2
   clear hx
   have u0 : wx.cell? ⟨(ad.add (k * 6)).block,(ad.add (k * 6)).off + 2,none⟩ = some (.int .i64 (ls.getD k z84).f2):=by rw [HAD.out,add_plain];exact x4
   have f0 : wx.frozen? ⟨(ad.add (k * 6)).block,(ad.add (k * 6)).off + 2,none⟩ = false:=by rw [HAD.out,add_plain];exact x5
   refine skip_ (w1:=?_) (by rfl) rfl ?_ ?_
   rotate_left
   ·go_simp
    rfl
   rw [show wx.setCell ⟨(ad.add (k * 6)).block,(ad.add (k * 6)).off + 2,none⟩ (.int .i64 s0.f2) = wx.setCell ⟨g,k * 6 + 2,none⟩ (.int .i64 s0.f2) by rw [HAD.out,add_plain]]
   have HN7:=am (below_grown HN6.out HN6.out.size x3 HGN.out)
   have H97:=am (blk_grown H96.out x3 (by intro e;injection e with e;exact HNE.out e))
   have HH57:=am (R_own_move rfl HH56.out (fun k hk => x3.block k (Kd.R_lt HH56.out k hk) (fun e => by rw [e] at hk;exact R_off HH56.out HH66.out (by decide) g hk rfl)))
   have HH67:=am (x2)
   clear x2 x3 x4 x5 u0 f0
   refine hK.out _ _ ?_
   clear hK K
   refine pA 13 (some 68) ?_ 16 16383 HT_.out ?_ ?_ ?_ ?_
   rotate_left
   ·intro w'
    go_simp
    with_reducible rfl
   rotate_left
   ·exact vs
   refine pA 14 (some 69) ?_ 16 32767 HT_.out ?_ ?_ ?_ ?_
   rotate_left
   ·intro w'
    go_simp
    with_reducible rfl
   rotate_left
   ·exact vs
   refine last_ (i:=15) (N:=none) (ab 16 65535) rfl rfl (one_of HT_.out kr) (by decide) (fun K hK => ?_)
   have hx:=row84_day HH67.out (i:=k + 1) hkl s1.f2
   have x2:=hx.1
   have x3:=hx.2.1
   have x4:=hx.2.2.1
   have x5:=hx.2.2.2
   clear hx
   have u0 : (wx.setCell ⟨g,k * 6 + 2,none⟩ (.int .i64 s0.f2)).cell? ⟨(ad.add ((k + 1) * 6)).block,(ad.add ((k + 1) * 6)).off + 2,none⟩ = some (.int .i64 ((ls.set k { ls.getD k z84 with f2:=s0.f2 }).getD (k + 1) z84).f2):=by rw [HAD.out,add_plain];exact x4
   have f0 : (wx.setCell ⟨g,k * 6 + 2,none⟩ (.int .i64 s0.f2)).frozen? ⟨(ad.add ((k + 1) * 6)).block,(ad.add ((k + 1) * 6)).off + 2,none⟩ = false:=by rw [HAD.out,add_plain];exact x5
   refine skip_ (w1:=?_) (by rfl) rfl ?_ ?_
   rotate_left
   ·go_simp
    rfl
   rw [show (wx.setCell ⟨g,k * 6 + 2,none⟩ (.int .i64 s0.f2)).setCell ⟨(ad.add ((k + 1) * 6)).block,(ad.add ((k + 1) * 6)).off + 2,none⟩ (.int .i64 s1.f2) = (wx.setCell ⟨g,k * 6 + 2,none⟩ (.int .i64 s0.f2)).setCell ⟨g,(k + 1) * 6 + 2,none⟩ (.int .i64 s1.f2) by rw [HAD.out,add_plain]]
   refine hK.out _ _ ?_
   clear hK K
   refine done_ (done_of HT_.out kr) ?_
   have HN8:=am (below_grown HN7.out HN7.out.size x3 HGN.out)
   have H98:=am (blk_grown H97.out x3 (by intro e;injection e with e;exact HNE.out e))
   have HH58:=am (R_own_move rfl HH57.out (fun k hk => x3.block k (Kd.R_lt HH57.out k hk) (fun e => by rw [e] at hk;exact R_off HH57.out HH67.out (by decide) g hk rfl)))
   have HH68:=am (x2)
   clear x2 x3 x4 x5 u0 f0 HN6 H96 HH56 HH66 HN7 H97 HH57 HH67 HCE
   generalize (wx.setCell ⟨g,k * 6 + 2,none⟩ (.int .i64 s0.f2)).setCell ⟨g,(k + 1) * 6 + 2,none⟩ (.int .i64 s1.f2) = w11 at HN8 H98 HH58 HH68 ⊢
   obtain ⟨ns,hns⟩ : ∃ ns,ns = swapP stirs k:=⟨_,rfl⟩
   have HNS:=am hns
   have HH69:=am (show k84.R 84 w11 wd.heap.size (fun _ => True) (.slice (some ⟨g,0,none⟩) stirs.length c6) ns from by
    have h:=HH68.out
    rw [HLS.out,swap_steps hkl s0 s1 HS0.out HS1.out,← hns] at h
    exact h)
   have hnl : ns.length = stirs.length:=by rw [hns,swapP_length]
   clear hns HH68 HLS HE0 HE1 HS0 HS1
   have HF5:=am (show Kd.F (Kd.int .i64) w11 (fun k => k < w11.heap.size) A5 rooms.length rooms from Kd.F_mono (Kd.R_F (Kd.R_bound HH58.out)) (fun k hk => hk.2.2.1))
   have HF9:=am (show Kd.F (Kd.int .i64) w11 (fun k => wd.heap.size ≤ k) A5 rooms.length rooms from Kd.F_mono (Kd.R_F (Kd.R_bound HH58.out)) (fun k hk => hk.2.1))
   have HFS0:=am (show Kd.F k84 w11 (fun k => wd.heap.size ≤ k) (some ad) stirs.length ns from by have h:=Kd.F_mono (Kd.R_F (Kd.R_bound HH69.out)) (fun k hk => hk.2.1);rw [HAD.out];exact h)
   have HC6:=am (show Kd.C k84 w11 (some ⟨g,0,none⟩) ns.length ns from (Kd.R_reads' HH69.out).2.2)
   have HL5:=am (Kd.R_reads' HH58.out).2.1
   have HL6:=am (Kd.R_reads' HH69.out).2.1
   have HNL:=am hnl
   clear HH58 HH69 hnl
   obtain ⟨r2,hr2⟩ : ∃ r2,r2 = playedP rooms ns ns.length:=⟨_,rfl⟩
   have HQ2:=am hr2.symm
   clear hr2
   rw [← HAD.out] at HC6
   have hall:=all_calls A5 (some ad) c5 c6 rooms ns w11 w11.heap.size (Nat.le_refl _) HF5.out HL5.out HC6.out (by rw [HNL.out];exact HL6.out)
   rw [HNL.out] at hall
   have HALL:=am hall
   clear hall
   have g0:=bc H98.out 0 (.slice A5 rooms.length c5)
   have g1:=bc H98.out 1 (.slice (some ad) stirs.length c6)
   go_wp2_with fail
   refine HALL.out.mono ?_
   rintro e w12 ⟨hb,h⟩
   rw [← HNL.out,HQ2.out] at h
   have HN9:=am (below_then HN8.out HN8.out.size hb)
   have H99:=am (blk_below H98.out hb)
   have HF6:=am (Kd.F_below HF9.out hb)
   have HFS:=am (Kd.F_below HFS0.out hb)
   clear hb g0 g1 HALL
   have HRZ:=am (blk_below HR3.out HN9.out)
   have HBZ:=am (below_then HB5.out (below_size HB5.out) HN9.out)
   have HYZ:=am (HY2.out.move HN9.out)
   have hsw : swapR rooms stirs ((k + 1 : Nat) : Int) = r2:=by unfold swapR;rw [Int.toNat_natCast,show k + 1 - 1 = k by omega,← HNS.out];exact HQ2.out
   have HSW:=am hsw
   clear hsw
   cases r2 with
  |error x =>
    subst h
    have hx : ¬ x.1 = 0:=playedP_code HQ2.out
    have u0:=bc HRZ.out 0 (.slice none 0 0)
    have fu0:=blk_frozen HRZ.out 0
    have u1:=bc HRZ.out 1 (.slice none 0 0)
    have fu1:=blk_frozen HRZ.out 1
    go_wp2
    have bz:=blk_put (cs':=#[.slice none 0 0,.slice none 0 0]) (blk_put (cs':=#[.slice none 0 0,.slice none 0 0]) (HRZ.out) 0 (.slice none 0 0) rfl) 1 (.slice none 0 0) rfl
    have z0:=bc bz 0 (.slice none 0 0)
    have z1:=bc bz 1 (.slice none 0 0)
    exact bodyPost_ret (v:=.tuple #[.agg #[.slice none 0 0,.slice none 0 0],.bool false,.int .i64 x.1]) (by simp [results,Tryz.results44,go_sem,z0,z1,hu]) rfl ⟨((HBZ.out).setCell (p:=⟨W.heap.size + 1,0,none⟩) (by first|(simp;done)|(simp;omega)) (.slice none 0 0)).setCell (p:=⟨W.heap.size + 1,1,none⟩) (by first|(simp;done)|(simp;omega)) (.slice none 0 0),by rw [HQP.out];dsimp only;rw [if_pos HK.out.symm,HSW.out]⟩
  |ok Z =>
    obtain ⟨M,base2,hbase2,hbad2,rfl,hZ⟩:=h
    have HZZ:=am (hZ)
    have HWZ:=am (played_ok HQ2.out).2.2.1
    clear hbase2 hbad2 hZ
    have HSZ:=am (show W.heap.size ≤ wd.heap.size from HB5.out.size)
    have HLTW:=am (show W.heap.size + 1 < wd.heap.size from blk_lt HR3.out)
    have HRZ1:=am (blk_drew HRZ.out)
    have HBZ1:=am (below_drew HBZ.out)
    have HYZ1:=am (HYZ.out.move (below_drew (Below.refl _ _)))
    have H991:=am (blk_drew H99.out)
    have HF61:=am (Kd.F_drew HF6.out)
    have HFS1:=am (Kd.F_drew HFS.out)
    have HZZ1:=am (HZZ.out.move (below_drew (Below.refl _ _)))
    go_wp2
    refine start_ (n:=7) (S:=fun w' => w'.cell? ⟨p9,0,none⟩ = some (.slice A5 rooms.length c5) ∧ w'.cell? ⟨p9,1,none⟩ = some (.slice (some ad) stirs.length c6)) (ds:=[4]) #[false,false,false,false,false,false,false] kr rfl rfl ⟨(blk_cell H991.out 0).trans rfl,(blk_cell H991.out 1).trans rfl⟩ (fun hHeld => ?_);refine with_tabW R44_13.tab R44_13.bits (fun HT_ HW_ => ?_)
    generalize (w12).drew = wx at HRZ1 HBZ1 HYZ1 H991 HF61 HFS1 HZZ1 hHeld ⊢
    refine tA 0 (some 79) ?_ 7 1 HT_.out HW_.out ?_ hHeld ?_ ?_ ?_
    rotate_left
    ·rintro w' ⟨q0,q1⟩
     go_simp
     with_reducible rfl
    rotate_left
    ·exact vs
    refine pA 1 (some 80) ?_ 7 3 HT_.out ?_ ?_ ?_ ?_
    rotate_left
    ·intro w'
     go_simp
     with_reducible rfl
    rotate_left
    ·exact vs
    refine pA 2 (some 81) ?_ 7 7 HT_.out ?_ ?_ ?_ ?_
    rotate_left
    ·intro w'
     go_simp
     with_reducible rfl
    rotate_left
    ·exact vs
    refine one_ (i:=3) (N:=(some 82)) (ab 7 15) rfl rfl (one_of HT_.out kr) (by decide) (fun K hK => ?_)
    refine goes_ Tryz.func125 kr rfl #[.pointer (some ⟨L.g,0,none⟩),.pointer (some ⟨M.g,0,none⟩)] (by rfl) rfl rfl vm ?_
    refine (alike_calls HYZ1.out HZZ1.out HWZ.out (Nat.le_refl _)).mono ?_
    rintro e w13 ⟨rfl,hb⟩
    have HRZ2:=am (blk_below HRZ1.out hb)
    have HBZ2:=am (below_then HBZ1.out (below_size HBZ1.out) hb)
    have H992:=am (blk_below H991.out hb)
    have HF62:=am (Kd.F_below HF61.out hb)
    have HFS2:=am (Kd.F_below HFS1.out hb)
    clear hb
    refine ⟨_,rfl,?_⟩
    refine hK.out _ _ ⟨(blk_cell H992.out 0).trans rfl,(blk_cell H992.out 1).trans rfl⟩ (fun hHeld => ?_)
    clear hK K
    refine norm_ (a':=?_) ?_ ?_
    rotate_left
    ·show Act.put _ (some 82) _ = _;exact vs
    refine last_ (i:=4) (N:=none) (ab 7 31) rfl rfl (one_of HT_.out kr) (by decide) (fun K hK => ?_)
    have u0:=bc HRZ2.out 0 (.slice none 0 0)
    have fu0:=blk_frozen HRZ2.out 0
    have u1:=bc HRZ2.out 1 (.slice none 0 0)
    have fu1:=blk_frozen HRZ2.out 1
    refine skip_ (w1:=?_) (by rfl) rfl ?_ ?_
    rotate_left
    ·go_simp
     rfl
    refine hK.out _ _ ?_
    clear hK K
    refine pA 5 (some 5) ?_ 7 63 HT_.out ?_ ?_ ?_ ?_
    rotate_left
    ·intro w'
     go_simp
     with_reducible rfl
    rotate_left
    ·exact vs
    refine pA 6 (some 6) ?_ 7 127 HT_.out ?_ ?_ ?_ ?_
    rotate_left
    ·intro w'
     go_simp
     with_reducible rfl
    rotate_left
    ·exact vs
    refine done_ (done_of HT_.out kr) ?_
    go_wp2
    have HF7:=am (Kd.F_far (Kd.F_far HF62.out (p:=⟨W.heap.size + 1,0,none⟩) (fun k hk => by have h:=HLTW.out;(try dsimp only);omega) (.slice A5 rooms.length c5)) (p:=⟨W.heap.size + 1,1,none⟩) (fun k hk => by have h:=HLTW.out;(try dsimp only);omega) (.slice (some ad) stirs.length c6))
    have HC8:=am (Kd.F_now (Kd.F_far (Kd.F_far HFS2.out (p:=⟨W.heap.size + 1,0,none⟩) (fun k hk => by have h:=HLTW.out;(try dsimp only);omega) (.slice A5 rooms.length c5)) (p:=⟨W.heap.size + 1,1,none⟩) (fun k hk => by have h:=HLTW.out;(try dsimp only);omega) (.slice (some ad) stirs.length c6)))
    have bz:=blk_put (cs':=#[.slice A5 rooms.length c5,.slice (some ad) stirs.length c6]) (blk_put (cs':=#[.slice A5 rooms.length c5,.slice none 0 0]) (HRZ2.out) 0 (.slice A5 rooms.length c5) rfl) 1 (.slice (some ad) stirs.length c6) rfl
    have z0:=bc bz 0 (.slice A5 rooms.length c5)
    have z1:=bc bz 1 (.slice (some ad) stirs.length c6)
    exact bodyPost_ret (v:=.tuple #[.agg #[.slice A5 rooms.length c5,.slice (some ad) stirs.length c6],.bool (alikeP Y Z),.int .i64 0]) (by simp [results,Tryz.results44,go_sem,z0,z1,hu]) rfl ⟨((HBZ2.out).setCell (p:=⟨W.heap.size + 1,0,none⟩) (by first|(simp;done)|(simp;omega)) (.slice A5 rooms.length c5)).setCell (p:=⟨W.heap.size + 1,1,none⟩) (by first|(simp;done)|(simp;omega)) (.slice (some ad) stirs.length c6),by
     rw [HQP.out]
     dsimp only
     rw [if_pos HK.out.symm,HSW.out]
     exact ⟨A5,some ad,c5,c6,rfl,HL5.out,HL6.out,Kd.F_mono HF7.out (fun k hk => Nat.le_trans HSZ.out hk),by rw [Int.toNat_natCast,show k + 1 - 1 = k by omega,← HNS.out];exact HC8.out⟩⟩
def calxlaw04_Example.f  : Option (List Int × (List (S84))):=some ((([100,50] : List Int)),(([(⟨1,1,0,0,0,30⟩ : S84),(⟨2,1,2,0,0,20⟩ : S84),(⟨11,2,3,0,0,10⟩ : S84),(⟨0,3,4,0,0,0⟩ : S84),(⟨12,2,9,0,0,10⟩ : S84),(⟨0,4,9,0,1,15⟩ : S84),(⟨3,1,10,1,0,5⟩ : S84),(⟨13,2,12,1,0,18⟩ : S84)] : List (S84))))
set_option maxHeartbeats 8000000 in
set_option maxRecDepth 100000 in
theorem calxlaw04_Example.calls  (r1 : List Int) (r2 : List (S84)) (w : World) (h : calxlaw04_Example.f  = some (r1,r2)) :
  Calls Tryz.prog 96 #[] w fun e w' => ∃ v0_ v1_ : Value,e = .returned (.agg #[v0_,v1_]) ∧ Kd.R (Kd.int .i64) 3 w' w.heap.size (fun _ => True) v0_ r1 ∧ Kd.R k84 84 w' w.heap.size (fun _ => True) v1_ r2 ∧ Below w.heap.size w w':=by
 have hu32:=Tryz.underlying32
 have hu84:=Tryz.underlying84
 have HB:=am (Below.refl w.heap.size w)
 have H : (some ((([100,50] : List Int)),(([(⟨1,1,0,0,0,30⟩ : S84),(⟨2,1,2,0,0,20⟩ : S84),(⟨11,2,3,0,0,10⟩ : S84),(⟨0,3,4,0,0,0⟩ : S84),(⟨12,2,9,0,0,10⟩ : S84),(⟨0,4,9,0,1,15⟩ : S84),(⟨3,1,10,1,0,5⟩ : S84),(⟨13,2,12,1,0,18⟩ : S84)] : List (S84))))) = some (r1,r2):=h
 clear h
 obtain ⟨y102,hy102⟩ : ∃ y_ : List Int,y_ = (([100,50] : List Int)):=⟨_,rfl⟩
 replace H : (some (y102,(([(⟨1,1,0,0,0,30⟩ : S84),(⟨2,1,2,0,0,20⟩ : S84),(⟨11,2,3,0,0,10⟩ : S84),(⟨0,3,4,0,0,0⟩ : S84),(⟨12,2,9,0,0,10⟩ : S84),(⟨0,4,9,0,1,15⟩ : S84),(⟨3,1,10,1,0,5⟩ : S84),(⟨13,2,12,1,0,18⟩ : S84)] : List (S84))))) = some (r1,r2):=by first|(rw [hy102];with_reducible exact H)|(have H2_:=(Option.bind_some _ _).symm.trans H;rw [hy102];with_reducible exact H2_)|(have H2_:=(Option.bind_some _ _).symm.trans H;with_reducible exact H2_)|with_reducible exact H|(rw [hy102];exact H)|exact H
 have Ny102:=am hy102
 clear hy102
 obtain ⟨y105,hy105⟩ : ∃ y_ : List (S84),y_ = (([(⟨1,1,0,0,0,30⟩ : S84),(⟨2,1,2,0,0,20⟩ : S84),(⟨11,2,3,0,0,10⟩ : S84),(⟨0,3,4,0,0,0⟩ : S84),(⟨12,2,9,0,0,10⟩ : S84),(⟨0,4,9,0,1,15⟩ : S84),(⟨3,1,10,1,0,5⟩ : S84),(⟨13,2,12,1,0,18⟩ : S84)] : List (S84))):=⟨_,rfl⟩
 replace H : (some (y102,y105)) = some (r1,r2):=by first|(rw [hy105];with_reducible exact H)|(have H2_:=(Option.bind_some _ _).symm.trans H;rw [hy105];with_reducible exact H2_)|(have H2_:=(Option.bind_some _ _).symm.trans H;with_reducible exact H2_)|with_reducible exact H|(rw [hy105];exact H)|exact H
 have Ny105:=am hy105
 clear hy105
 simp only [Option.some.injEq,Prod.mk.injEq] at H
 obtain ⟨rfl,rfl⟩:=H
 go_enter Tryz.func96,Tryz.ntmps96
 go_wp2_with (first|((with_reducible refine gate_dst (N:=0) rfl ?_);refine box_event ?hg (N:=0) ?hd (cs:=#[.slice none 0 0,.slice none 0 0]) (t:=32) ?hr ?_;(case hd => rfl);(case hg => rfl);(case hr => first|(go_simp;done)|(go_simp;rfl));intro gb101 hg w1 hbox hb;have n0_:=am (below_step (v0 HB.out) hb);have n1_:=am (hbox);have n2_:=am ((by rw [hg];exact (below_size (v0 HB.out)) : w.heap.size ≤ gb101));have n3_:=am ((by rw [hg];exact (below_size (v0 HB.out)) : w.heap.size ≤ gb101));clear HB;have HB:=n0_;have BK101:=n1_;have GW101:=n2_;have GE101:=n3_;clear n0_ n1_ n2_ n3_;clear hb hbox hg)|((with_reducible refine gate_dst (N:=1) rfl ?_);refine Kd.R_lit (Kd.int .i64) _ 3 ?hg (N:=1) ?hd (xs:=([100,50] : List Int)) (inner:=[.int .i64 100,.int .i64 50]) (ok:=fun _ => True) (okp:=fun _ => True) ?hr ?hp (fun _ hk => hk) trivial (Below.refl _ _) (Nat.le_refl _) (by simp) ?_;(case hd => rfl);(case hg => rfl);(case hr => first|(go_simp;done)|(go_simp;rfl));(case hp => exact (Reps.one (show Kd.M (Kd.int .i64) _ _ _ 100 [.int .i64 100] from rfl) (Reps.one (show Kd.M (Kd.int .i64) _ _ _ 50 [.int .i64 50] from rfl) (Reps.none _ _))));intro v103 w2 ho3 hb hg_ hnew_;clear hg_ hnew_;(first|rw [← Ny102.out] at ho3|(simp only [Int.reduceToNat] at ho3;rw [← Ny102.out] at ho3));have n0_:=am (Kd.R_lower ho3 (below_size (v1 HB.out GE101.out)));have n1_:=am (blk_below (g:=gb101) (o:=.cells #[.slice none 0 0,.slice none 0 0] 32 (0,0)) (vb BK101.out) hb);have n2_:=am (below_step (v1 HB.out GE101.out) hb);clear BK101;clear HB;have HO104:=n0_;have BK101:=n1_;have HB:=n2_;clear n0_ n1_ n2_;clear hb ho3)|((with_reducible refine gate_dst (N:=10) rfl ?_);refine Kd.R_lit k84 _ 84 ?hg (N:=10) ?hd (xs:=([(⟨1,1,0,0,0,30⟩ : S84),(⟨2,1,2,0,0,20⟩ : S84),(⟨11,2,3,0,0,10⟩ : S84),(⟨0,3,4,0,0,0⟩ : S84),(⟨12,2,9,0,0,10⟩ : S84),(⟨0,4,9,0,1,15⟩ : S84),(⟨3,1,10,1,0,5⟩ : S84),(⟨13,2,12,1,0,18⟩ : S84)] : List (S84))) (inner:=[.int .i64 1,.int .i64 1,.int .i64 0,.int .i64 0,.int .i64 0,.int .i64 30,.int .i64 2,.int .i64 1,.int .i64 2,.int .i64 0,.int .i64 0,.int .i64 20,.int .i64 11,.int .i64 2,.int .i64 3,.int .i64 0,.int .i64 0,.int .i64 10,.int .i64 0,.int .i64 3,.int .i64 4,.int .i64 0,.int .i64 0,.int .i64 0,.int .i64 12,.int .i64 2,.int .i64 9,.int .i64 0,.int .i64 0,.int .i64 10,.int .i64 0,.int .i64 4,.int .i64 9,.int .i64 0,.int .i64 1,.int .i64 15,.int .i64 3,.int .i64 1,.int .i64 10,.int .i64 1,.int .i64 0,.int .i64 5,.int .i64 13,.int .i64 2,.int .i64 12,.int .i64 1,.int .i64 0,.int .i64 18]) (ok:=fun _ => True) (okp:=fun _ => True) ?hr ?hp (fun _ hk => hk) trivial (Below.refl _ _) (Nat.le_refl _) (by simp) ?_;(case hd => rfl);(case hg => rfl);(case hr => first|(go_simp;done)|(go_simp;rfl));(case hp => exact (Reps.c6 (show Kd.M k84 _ _ _ (⟨1,1,0,0,0,30⟩ : S84) [.int .i64 1,.int .i64 1,.int .i64 0,.int .i64 0,.int .i64 0,.int .i64 30] from (k84_mkM _ _ _ (⟨1,1,0,0,0,30⟩ : S84) )) (Reps.c6 (show Kd.M k84 _ _ _ (⟨2,1,2,0,0,20⟩ : S84) [.int .i64 2,.int .i64 1,.int .i64 2,.int .i64 0,.int .i64 0,.int .i64 20] from (k84_mkM _ _ _ (⟨2,1,2,0,0,20⟩ : S84) )) (Reps.c6 (show Kd.M k84 _ _ _ (⟨11,2,3,0,0,10⟩ : S84) [.int .i64 11,.int .i64 2,.int .i64 3,.int .i64 0,.int .i64 0,.int .i64 10] from (k84_mkM _ _ _ (⟨11,2,3,0,0,10⟩ : S84) )) (Reps.c6 (show Kd.M k84 _ _ _ (⟨0,3,4,0,0,0⟩ : S84) [.int .i64 0,.int .i64 3,.int .i64 4,.int .i64 0,.int .i64 0,.int .i64 0] from (k84_mkM _ _ _ (⟨0,3,4,0,0,0⟩ : S84) )) (Reps.c6 (show Kd.M k84 _ _ _ (⟨12,2,9,0,0,10⟩ : S84) [.int .i64 12,.int .i64 2,.int .i64 9,.int .i64 0,.int .i64 0,.int .i64 10] from (k84_mkM _ _ _ (⟨12,2,9,0,0,10⟩ : S84) )) (Reps.c6 (show Kd.M k84 _ _ _ (⟨0,4,9,0,1,15⟩ : S84) [.int .i64 0,.int .i64 4,.int .i64 9,.int .i64 0,.int .i64 1,.int .i64 15] from (k84_mkM _ _ _ (⟨0,4,9,0,1,15⟩ : S84) )) (Reps.c6 (show Kd.M k84 _ _ _ (⟨3,1,10,1,0,5⟩ : S84) [.int .i64 3,.int .i64 1,.int .i64 10,.int .i64 1,.int .i64 0,.int .i64 5] from (k84_mkM _ _ _ (⟨3,1,10,1,0,5⟩ : S84) )) (Reps.c6 (show Kd.M k84 _ _ _ (⟨13,2,12,1,0,18⟩ : S84) [.int .i64 13,.int .i64 2,.int .i64 12,.int .i64 1,.int .i64 0,.int .i64 18] from (k84_mkM _ _ _ (⟨13,2,12,1,0,18⟩ : S84) )) (Reps.none _ _))))))))));intro v106 w4 ho5 hb hg_ hnew_;clear hg_ hnew_;(first|rw [← Ny105.out] at ho5|(simp only [Int.reduceToNat] at ho5;rw [← Ny105.out] at ho5));have n0_:=am (Kd.R_below (by (with_reducible repeat (first|apply Kd.R_alloc|apply Kd.R_drewN|apply Kd.R_drew));exact HO104.out) hb);have n1_:=am (Kd.R_lower ho5 (below_size (v1 HB.out GE101.out)));have n2_:=am (blk_below (g:=gb101) (o:=.cells #[.slice none 0 0,.slice none 0 0] 32 (0,0)) (vb BK101.out) hb);have n3_:=am (below_step (v1 HB.out GE101.out) hb);clear HO104;clear BK101;clear HB;have HO104:=n0_;have HO107:=n1_;have BK101:=n2_;have HB:=n3_;clear n0_ n1_ n2_ n3_;clear hb ho5;obtain ⟨Ao6,co6,eo6⟩:=Kd.R_slice HO107.out;subst eo6;obtain ⟨Ao7,co7,eo7⟩:=Kd.R_slice HO104.out;subst eo7;have hcz8_0:=bc BK101.out 0 (.slice none 0 0);have hcz8_1:=bc BK101.out 1 (.slice none 0 0);have hfz8_0:=blk_frozen BK101.out 0;have hfz8_1:=blk_frozen BK101.out 1))
 refine bodyPost_ret (results_cell_row rfl _ _ gb101 32 #[.slice Ao7 y102.length co7,.slice Ao6 y105.length co6] (0,0) _ rfl (by (with_reducible repeat (first|refine blk_drewN ?_ _|refine blk_drew ?_|refine blk_alloc ?_ _));refine blk_put (cs:=#[.slice Ao7 y102.length co7,.slice none 0 0]) ?_ 1 _ rfl;(with_reducible repeat (first|refine blk_drewN ?_ _|refine blk_drew ?_|refine blk_alloc ?_ _));refine blk_put (cs:=#[.slice none 0 0,.slice none 0 0]) ?_ 0 _ rfl;(with_reducible repeat (first|refine blk_drewN ?_ _|refine blk_drew ?_|refine blk_alloc ?_ _));exact BK101.out) Tryz.underlying32 rfl kr) rfl ?_
 exact ⟨_,_,vf,by (with_reducible repeat (first|apply Kd.R_alloc|apply Kd.R_drewN|apply Kd.R_drew));exact Kd.R_mono (Kd.R_far (p:=⟨gb101,1,none⟩) (Kd.R_far (p:=⟨gb101,0,none⟩) (Kd.R_types HO104.out BK101.out (by decide)) (fun _ hk => hk.2) (.slice Ao7 y102.length co7)) (fun _ hk => hk.2) (.slice Ao6 y105.length co6)) (fun _ hk => trivial),by (with_reducible repeat (first|apply Kd.R_alloc|apply Kd.R_drewN|apply Kd.R_drew));exact Kd.R_mono (Kd.R_far (p:=⟨gb101,1,none⟩) (Kd.R_far (p:=⟨gb101,0,none⟩) (Kd.R_types HO107.out BK101.out (by decide)) (fun _ hk => hk.2) (.slice Ao7 y102.length co7)) (fun _ hk => hk.2) (.slice Ao6 y105.length co6)) (fun _ hk => trivial),v1 HB.out GE101.out⟩
def calxlaw04_frac.f (a0 : Int) (a1 : Int) : Option (Int × Int):=some (a0,a1)
set_option maxHeartbeats 8000000 in
set_option maxRecDepth 100000 in
theorem calxlaw04_frac.calls (a0 : Int) (a1 : Int) (r1 : Int) (r2 : Int) (w : World) (h : calxlaw04_frac.f a0 a1 = some (r1,r2)) :
  Calls Tryz.prog 52 #[.int .i64 a0,.int .i64 a1] w fun e w' => e = .returned (.agg #[.int .i64 r1,.int .i64 r2]) ∧ Below w.heap.size w w':=by
 have hu43:=Tryz.underlying43
 have HB:=am (Below.refl w.heap.size w)
 have H : (some (a0,a1)) = some (r1,r2):=h
 clear h
 simp only [Option.some.injEq,Prod.mk.injEq] at H
 obtain ⟨rfl,rfl⟩:=H
 go_enter Tryz.func52,Tryz.ntmps52
 go_wp2_with (first|((with_reducible refine gate_dst (N:=4) rfl ?_);refine box_event ?hg (N:=4) ?hd (cs:=#[.int .i64 0,.int .i64 0]) (t:=43) ?hr ?_;(case hd => rfl);(case hg => rfl);(case hr => first|(go_simp;done)|(go_simp;rfl));intro gb101 hg w3 hbox hb;have n0_:=am (below_step (v0 HB.out) hb);have n1_:=am (hbox);have n2_:=am ((by rw [hg];exact (below_size (v0 HB.out)) : w.heap.size ≤ gb101));have n3_:=am ((by rw [hg];exact (below_size (v0 HB.out)) : w.heap.size ≤ gb101));clear HB;have HB:=n0_;have BK101:=n1_;have GW101:=n2_;have GE101:=n3_;clear n0_ n1_ n2_ n3_;clear hb hbox hg;have hcz4_0:=bc BK101.out 0 (.int .i64 0);have hcz4_1:=bc BK101.out 1 (.int .i64 0);have hfz4_0:=blk_frozen BK101.out 0;have hfz4_1:=blk_frozen BK101.out 1))
 refine bodyPost_ret (results_cell_row rfl _ _ gb101 43 #[.int .i64 a0,.int .i64 a1] (0,0) _ rfl (by (with_reducible repeat (first|refine blk_drewN ?_ _|refine blk_drew ?_|refine blk_alloc ?_ _));refine blk_put (cs:=#[.int .i64 a0,.int .i64 0]) ?_ 1 _ rfl;(with_reducible repeat (first|refine blk_drewN ?_ _|refine blk_drew ?_|refine blk_alloc ?_ _));refine blk_put (cs:=#[.int .i64 0,.int .i64 0]) ?_ 0 _ rfl;(with_reducible repeat (first|refine blk_drewN ?_ _|refine blk_drew ?_|refine blk_alloc ?_ _));exact BK101.out) Tryz.underlying43 rfl kr) rfl ?_
 exact ⟨vf,v1 HB.out GE101.out⟩
section
attribute [local go_sem high] eqA89
def calxref04_SameParts.l0 : Nat → List (S89) → List (S89) → Int → Option (Bool)
|0,_,_,_ => none
|k + 1,x0,x1,x5 => if x5 < (x0.length : Int) then (if 0 ≤ x5 then (if x5 < (x1.length : Int) then (if (!(((rd_T89 x0 x5).f0) == ((rd_T89 x1 x5).f0)) || ((!(((rd_T89 x0 x5).f1.f0) == ((rd_T89 x1 x5).f1.f0)) || (!(((rd_T89 x0 x5).f1.f1) == ((rd_T89 x1 x5).f1.f1)))))) = true then (some false) else (calxref04_SameParts.l0 k x0 x1 (wrap64 (x5 + 1)))) else (none)) else (none)) else (some true)
def calxref04_SameParts.f (k : Nat) (l0 : List (S89)) (l1 : List (S89)) : Option (Bool):=if (l0.length : Int) = (l1.length : Int) then (calxref04_SameParts.l0 k l0 l1 0) else (some false)
set_option maxHeartbeats 8000000 in
set_option maxRecDepth 100000 in
theorem calxref04_SameParts.calls (k : Nat) (A0 : Option Addr) (c0 : Nat) (l0 : List (S89)) (A1 : Option Addr) (c1 : Nat) (l1 : List (S89)) (r : Bool) (w : World) (hr0 : Kd.C k89 w A0 l0.length l0) (hc0 : l0.length ≤ c0) (hr1 : Kd.C k89 w A1 l1.length l1) (hc1 : l1.length ≤ c1) (h : calxref04_SameParts.f k l0 l1 = some r) :
  Calls Tryz.prog 38 #[.slice A0 l0.length c0,.slice A1 l1.length c1] w fun e w' => e = .returned (.bool r) ∧ Drawn0 w w':=by
 have hu89:=Tryz.underlying89
 have HR0:=am hr0
 have HC0:=am hc0
 clear hr0 hc0
 have HR1:=am hr1
 have HC1:=am hc1
 clear hr1 hc1
 have H : (if (l0.length : Int) = (l1.length : Int) then (calxref04_SameParts.l0 k l0 l1 0) else (some false)) = some r:=h
 clear h
 by_cases c3 : (l0.length : Int) = (l1.length : Int)
 ·rw [if_pos c3] at H
  have c3b0 : ((l0.length : Int) == (l1.length : Int)) = true:=beq_iff_eq.mpr c3
  have c3b1 : ((l0.length : Int) != (l1.length : Int)) = false:=bne_eq_false_iff_eq.mpr c3
  have c3b2 : (l0.length == l1.length) = true:=by first|simpa using c3|(simp at c3 ⊢;omega)
  clear c3
  have H':=am H
  clear H
  go_enter Tryz.func38,Tryz.ntmps38
  go_wp2
  repeat (go_quiet (fail);try go_wp2)
  go_loopg [5] k (fun kq v5 w' => ∃ (x5_1 : Int),v5 = .int .i64 x5_1 ∧ Aside0 (calxref04_SameParts.l0 kq l0 l1 x5_1 = some r) ∧ Aside0 (kq ≤ k) ∧ Drawn0 w w')
  case atStart => exact ⟨(0),ve,H',⟨Nat.le_refl _⟩,by repeat (first|exact Drawn0.refl _|apply Drawn0.step)⟩
  case round =>
   clear H'
   try clear c1
   try clear p2
   try clear c3
   try clear c3b0
   try clear c3b1
   try clear c3b2
   obtain ⟨x5_1,rfl,HA,HK1,⟨m1,rfl⟩⟩:=hrel
   cases gk with
  |zero => exact absurd HA.out (by simp [calxref04_SameParts.l0])
  |succ k1 =>
    have H:=HA.out
    clear HA
    simp only [calxref04_SameParts.l0] at H
    by_cases c4 : x5_1 < (l0.length : Int)
    ·rw [if_pos c4] at H
     have c4b0 : decide (x5_1 < (l0.length : Int)) = true:=decide_eq_true c4
     clear c4
     by_cases c5 : 0 ≤ x5_1
     ·rw [if_pos c5] at H
      have c5b0 : decide (0 ≤ x5_1) = true:=decide_eq_true c5
      clear c5
      by_cases c6 : x5_1 < (l1.length : Int)
      ·rw [if_pos c6] at H
       have c6b0 : decide (x5_1 < (l1.length : Int)) = true:=decide_eq_true c6
       clear c6
       by_cases c7 : (!(((rd_T89 l0 x5_1).f0) == ((rd_T89 l1 x5_1).f0)) || ((!(((rd_T89 l0 x5_1).f1.f0) == ((rd_T89 l1 x5_1).f1.f0)) || (!(((rd_T89 l0 x5_1).f1.f1) == ((rd_T89 l1 x5_1).f1.f1)))))) = true
       ·rw [if_pos c7] at H
        have c7b0 : (!(((rd_T89 l0 x5_1).f0) == ((rd_T89 l1 x5_1).f0)) || ((!(((rd_T89 l0 x5_1).f1.f0) == ((rd_T89 l1 x5_1).f1.f0)) || (!(((rd_T89 l0 x5_1).f1.f1) == ((rd_T89 l1 x5_1).f1.f1)))))) = true:=c7
        clear c7
        obtain rfl:=Option.some.inj H
        have p101 : 0 ≤ (x5_1 : Int):=of_decide_eq_true va
        have q101 : x5_1 < (l0.length : Int):=of_decide_eq_true va
        obtain ⟨ad101,e101,hx101_0,hx101_1,hx101_2⟩:=at_T89 HR0.out x5_1 p101 q101
        cases e101
        replace p101:=eq_true p101
        replace q101:=eq_true q101
        have p102 : 0 ≤ (x5_1 : Int):=of_decide_eq_true va
        have q102 : x5_1 < (l1.length : Int):=of_decide_eq_true va
        obtain ⟨ad102,e102,hx102_0,hx102_1,hx102_2⟩:=at_T89 HR1.out x5_1 p102 q102
        cases e102
        replace p102:=eq_true p102
        replace q102:=eq_true q102
        go_wp2
        repeat (go_quiet (fail);try go_wp2)
        go_ret
        exact ⟨ve,by repeat (first|exact Drawn0.refl _|apply Drawn0.step)⟩
       ·rw [if_neg c7] at H
        have c7b0 : (!(((rd_T89 l0 x5_1).f0) == ((rd_T89 l1 x5_1).f0)) || ((!(((rd_T89 l0 x5_1).f1.f0) == ((rd_T89 l1 x5_1).f1.f0)) || (!(((rd_T89 l0 x5_1).f1.f1) == ((rd_T89 l1 x5_1).f1.f1)))))) = false:=by simpa using c7
        clear c7
        have H':=am H
        clear H
        have p101 : 0 ≤ (x5_1 : Int):=of_decide_eq_true va
        have q101 : x5_1 < (l0.length : Int):=of_decide_eq_true va
        obtain ⟨ad101,e101,hx101_0,hx101_1,hx101_2⟩:=at_T89 HR0.out x5_1 p101 q101
        cases e101
        replace p101:=eq_true p101
        replace q101:=eq_true q101
        have p102 : 0 ≤ (x5_1 : Int):=of_decide_eq_true va
        have q102 : x5_1 < (l1.length : Int):=of_decide_eq_true va
        obtain ⟨ad102,e102,hx102_0,hx102_1,hx102_2⟩:=at_T89 HR1.out x5_1 p102 q102
        cases e102
        replace p102:=eq_true p102
        replace q102:=eq_true q102
        go_wp2
        repeat (go_quiet (fail);try go_wp2)
        go_roundg k1
        case measure => have:=HK1.out;omega
        case rel => exact ⟨(wrap64 (x5_1 + 1)),ve,H',⟨by have:=HK1.out;omega⟩,by repeat (first|exact Drawn0.refl _|apply Drawn0.step)⟩
      ·rw [if_neg c6] at H
       exact absurd H (by simp)
     ·rw [if_neg c5] at H
      exact absurd H (by simp)
    ·rw [if_neg c4] at H
     have c4b0 : decide (x5_1 < (l0.length : Int)) = false:=decide_eq_false c4
     clear c4
     obtain rfl:=Option.some.inj H
     go_wp2
     repeat (go_quiet (fail);try go_wp2)
     go_ret
     exact ⟨ve,by repeat (first|exact Drawn0.refl _|apply Drawn0.step)⟩
 ·rw [if_neg c3] at H
  have c3b0 : ((l0.length : Int) == (l1.length : Int)) = false:=beq_eq_false_iff_ne.mpr c3
  have c3b1 : ((l0.length : Int) != (l1.length : Int)) = true:=bne_iff_ne.mpr c3
  have c3b2 : (l0.length == l1.length) = false:=by first|simpa using c3|(simp at c3 ⊢;omega)
  obtain rfl:=Option.some.inj H
  go_enter Tryz.func38,Tryz.ntmps38
  go_wp2
  repeat (go_quiet (fail);try go_wp2)
  go_ret
  exact ⟨ve,by repeat (first|exact Drawn0.refl _|apply Drawn0.step)⟩
end
theorem eqA139 (d : Nat) (w : World) (x0 y0 : Int) (x1 y1 : Int) (x2 y2 : Int) (x3 y3 : Int) (x4 y4 : Int) :
  (Op.equalIn (d + 3) 139 (.agg #[.int .i64 x0,.int .i64 x1,.int .i64 x2,.int .i64 x3,.int .i64 x4]) (.agg #[.int .i64 y0,.int .i64 y1,.int .i64 y2,.int .i64 y3,.int .i64 y4])).run Tryz.prog w = .ok (x0 == y0 && ((x1 == y1 && (x2 == y2)) && ((x3 == y3 && (x4 == y4))))) w:=by
 refine eqA_of Tryz.underlying139 kr ?_
 refine eqf_cons (by rfl) (by go_simp;rfl) (by go_simp;rfl) (by go_simp) ?_
 refine eqf_cons (by rfl) (by go_simp) (by go_simp) (eqA43 (d + 0) w _ _ _ _) ?_
 exact eqf_last (by rfl) (by go_simp) (by go_simp) (eqA43 (d + 0) w _ _ _ _)
section
attribute [local go_sem high] eqA139
def calxref04_SameBlames.l0 : Nat → List (S139) → List (S139) → Int → Option (Bool)
|0,_,_,_ => none
|k + 1,x0,x1,x5 => if x5 < (x0.length : Int) then (if 0 ≤ x5 then (if x5 < (x1.length : Int) then (if (!(((rd_T139 x0 x5).f0) == ((rd_T139 x1 x5).f0)) || ((!(((rd_T139 x0 x5).f1.f0) == ((rd_T139 x1 x5).f1.f0)) || (!(((rd_T139 x0 x5).f1.f1) == ((rd_T139 x1 x5).f1.f1)))) || ((!(((rd_T139 x0 x5).f2.f0) == ((rd_T139 x1 x5).f2.f0)) || (!(((rd_T139 x0 x5).f2.f1) == ((rd_T139 x1 x5).f2.f1))))))) = true then (some false) else (calxref04_SameBlames.l0 k x0 x1 (wrap64 (x5 + 1)))) else (none)) else (none)) else (some true)
def calxref04_SameBlames.f (k : Nat) (l0 : List (S139)) (l1 : List (S139)) : Option (Bool):=if (l0.length : Int) = (l1.length : Int) then (calxref04_SameBlames.l0 k l0 l1 0) else (some false)
set_option maxHeartbeats 8000000 in
set_option maxRecDepth 100000 in
theorem calxref04_SameBlames.calls (k : Nat) (A0 : Option Addr) (c0 : Nat) (l0 : List (S139)) (A1 : Option Addr) (c1 : Nat) (l1 : List (S139)) (r : Bool) (w : World) (hr0 : Kd.C k139 w A0 l0.length l0) (hc0 : l0.length ≤ c0) (hr1 : Kd.C k139 w A1 l1.length l1) (hc1 : l1.length ≤ c1) (h : calxref04_SameBlames.f k l0 l1 = some r) :
  Calls Tryz.prog 60 #[.slice A0 l0.length c0,.slice A1 l1.length c1] w fun e w' => e = .returned (.bool r) ∧ Drawn0 w w':=by
 have hu139:=Tryz.underlying139
 have HR0:=am hr0
 have HC0:=am hc0
 clear hr0 hc0
 have HR1:=am hr1
 have HC1:=am hc1
 clear hr1 hc1
 have H : (if (l0.length : Int) = (l1.length : Int) then (calxref04_SameBlames.l0 k l0 l1 0) else (some false)) = some r:=h
 clear h
 by_cases c3 : (l0.length : Int) = (l1.length : Int)
 ·rw [if_pos c3] at H
  have c3b0 : ((l0.length : Int) == (l1.length : Int)) = true:=beq_iff_eq.mpr c3
  have c3b1 : ((l0.length : Int) != (l1.length : Int)) = false:=bne_eq_false_iff_eq.mpr c3
  have c3b2 : (l0.length == l1.length) = true:=by first|simpa using c3|(simp at c3 ⊢;omega)
  clear c3
  have H':=am H
  clear H
  go_enter Tryz.func60,Tryz.ntmps60
  go_wp2
  repeat (go_quiet (fail);try go_wp2)
  go_loopg [5] k (fun kq v5 w' => ∃ (x5_1 : Int),v5 = .int .i64 x5_1 ∧ Aside0 (calxref04_SameBlames.l0 kq l0 l1 x5_1 = some r) ∧ Aside0 (kq ≤ k) ∧ Drawn0 w w')
  case atStart => exact ⟨(0),ve,H',⟨Nat.le_refl _⟩,by repeat (first|exact Drawn0.refl _|apply Drawn0.step)⟩
  case round =>
   clear H'
   try clear c1
   try clear p2
   try clear c3
   try clear c3b0
   try clear c3b1
   try clear c3b2
   obtain ⟨x5_1,rfl,HA,HK1,⟨m1,rfl⟩⟩:=hrel
   cases gk with
  |zero => exact absurd HA.out (by simp [calxref04_SameBlames.l0])
  |succ k1 =>
    have H:=HA.out
    clear HA
    simp only [calxref04_SameBlames.l0] at H
    by_cases c4 : x5_1 < (l0.length : Int)
    ·rw [if_pos c4] at H
     have c4b0 : decide (x5_1 < (l0.length : Int)) = true:=decide_eq_true c4
     clear c4
     by_cases c5 : 0 ≤ x5_1
     ·rw [if_pos c5] at H
      have c5b0 : decide (0 ≤ x5_1) = true:=decide_eq_true c5
      clear c5
      by_cases c6 : x5_1 < (l1.length : Int)
      ·rw [if_pos c6] at H
       have c6b0 : decide (x5_1 < (l1.length : Int)) = true:=decide_eq_true c6
       clear c6
       by_cases c7 : (!(((rd_T139 l0 x5_1).f0) == ((rd_T139 l1 x5_1).f0)) || ((!(((rd_T139 l0 x5_1).f1.f0) == ((rd_T139 l1 x5_1).f1.f0)) || (!(((rd_T139 l0 x5_1).f1.f1) == ((rd_T139 l1 x5_1).f1.f1)))) || ((!(((rd_T139 l0 x5_1).f2.f0) == ((rd_T139 l1 x5_1).f2.f0)) || (!(((rd_T139 l0 x5_1).f2.f1) == ((rd_T139 l1 x5_1).f2.f1))))))) = true
       ·rw [if_pos c7] at H
        have c7b0 : (!(((rd_T139 l0 x5_1).f0) == ((rd_T139 l1 x5_1).f0)) || ((!(((rd_T139 l0 x5_1).f1.f0) == ((rd_T139 l1 x5_1).f1.f0)) || (!(((rd_T139 l0 x5_1).f1.f1) == ((rd_T139 l1 x5_1).f1.f1)))) || ((!(((rd_T139 l0 x5_1).f2.f0) == ((rd_T139 l1 x5_1).f2.f0)) || (!(((rd_T139 l0 x5_1).f2.f1) == ((rd_T139 l1 x5_1).f2.f1))))))) = true:=c7
        clear c7
        obtain rfl:=Option.some.inj H
        have p101 : 0 ≤ (x5_1 : Int):=of_decide_eq_true va
        have q101 : x5_1 < (l0.length : Int):=of_decide_eq_true va
        obtain ⟨ad101,e101,hx101_0,hx101_1,hx101_2,hx101_3,hx101_4⟩:=at_T139 HR0.out x5_1 p101 q101
        cases e101
        replace p101:=eq_true p101
        replace q101:=eq_true q101
        have p102 : 0 ≤ (x5_1 : Int):=of_decide_eq_true va
        have q102 : x5_1 < (l1.length : Int):=of_decide_eq_true va
        obtain ⟨ad102,e102,hx102_0,hx102_1,hx102_2,hx102_3,hx102_4⟩:=at_T139 HR1.out x5_1 p102 q102
        cases e102
        replace p102:=eq_true p102
        replace q102:=eq_true q102
        go_wp2
        repeat (go_quiet (fail);try go_wp2)
        go_ret
        exact ⟨ve,by repeat (first|exact Drawn0.refl _|apply Drawn0.step)⟩
       ·rw [if_neg c7] at H
        have c7b0 : (!(((rd_T139 l0 x5_1).f0) == ((rd_T139 l1 x5_1).f0)) || ((!(((rd_T139 l0 x5_1).f1.f0) == ((rd_T139 l1 x5_1).f1.f0)) || (!(((rd_T139 l0 x5_1).f1.f1) == ((rd_T139 l1 x5_1).f1.f1)))) || ((!(((rd_T139 l0 x5_1).f2.f0) == ((rd_T139 l1 x5_1).f2.f0)) || (!(((rd_T139 l0 x5_1).f2.f1) == ((rd_T139 l1 x5_1).f2.f1))))))) = false:=by simpa using c7
        clear c7
        have H':=am H
        clear H
        have p101 : 0 ≤ (x5_1 : Int):=of_decide_eq_true va
        have q101 : x5_1 < (l0.length : Int):=of_decide_eq_true va
        obtain ⟨ad101,e101,hx101_0,hx101_1,hx101_2,hx101_3,hx101_4⟩:=at_T139 HR0.out x5_1 p101 q101
        cases e101
        replace p101:=eq_true p101
        replace q101:=eq_true q101
        have p102 : 0 ≤ (x5_1 : Int):=of_decide_eq_true va
        have q102 : x5_1 < (l1.length : Int):=of_decide_eq_true va
        obtain ⟨ad102,e102,hx102_0,hx102_1,hx102_2,hx102_3,hx102_4⟩:=at_T139 HR1.out x5_1 p102 q102
        cases e102
        replace p102:=eq_true p102
        replace q102:=eq_true q102
        go_wp2
        repeat (go_quiet (fail);try go_wp2)
        go_roundg k1
        case measure => have:=HK1.out;omega
        case rel => exact ⟨(wrap64 (x5_1 + 1)),ve,H',⟨by have:=HK1.out;omega⟩,by repeat (first|exact Drawn0.refl _|apply Drawn0.step)⟩
      ·rw [if_neg c6] at H
       exact absurd H (by simp)
     ·rw [if_neg c5] at H
      exact absurd H (by simp)
    ·rw [if_neg c4] at H
     have c4b0 : decide (x5_1 < (l0.length : Int)) = false:=decide_eq_false c4
     clear c4
     obtain rfl:=Option.some.inj H
     go_wp2
     repeat (go_quiet (fail);try go_wp2)
     go_ret
     exact ⟨ve,by repeat (first|exact Drawn0.refl _|apply Drawn0.step)⟩
 ·rw [if_neg c3] at H
  have c3b0 : ((l0.length : Int) == (l1.length : Int)) = false:=beq_eq_false_iff_ne.mpr c3
  have c3b1 : ((l0.length : Int) != (l1.length : Int)) = true:=bne_iff_ne.mpr c3
  have c3b2 : (l0.length == l1.length) = false:=by first|simpa using c3|(simp at c3 ⊢;omega)
  obtain rfl:=Option.some.inj H
  go_enter Tryz.func60,Tryz.ntmps60
  go_wp2
  repeat (go_quiet (fail);try go_wp2)
  go_ret
  exact ⟨ve,by repeat (first|exact Drawn0.refl _|apply Drawn0.step)⟩
end
def exR : List Int:=[100,50]
def exS : List S84:=[⟨1,1,0,0,0,30⟩,⟨2,1,2,0,0,20⟩,⟨11,2,3,0,0,10⟩,⟨0,3,4,0,0,0⟩,⟨12,2,9,0,0,10⟩,⟨0,4,9,0,1,15⟩,⟨3,1,10,1,0,5⟩,⟨13,2,12,1,0,18⟩]
def exY : Yd:=match playedP exR exS exS.length with
|.ok Y => Y
|.error _ => emptyP []
def exB : S167:=⟨13,7,18,[⟨1,⟨15,2⟩⟩,⟨2,⟨15,2⟩⟩,⟨3,⟨3,1⟩⟩]⟩
def exG : List S113:=[⟨1,⟨0,100⟩⟩,⟨2,⟨60,60⟩⟩]
def exP : List S137:=[⟨12,⟨100,120⟩⟩,⟨13,⟨50,90⟩⟩]
theorem ex_ok : playedP exR exS exS.length = .ok exY:=by kernel_rfl
theorem ex_barrow : exY.barrows.find? (isId 13) = some exB:=by kernel_rfl
theorem ex_share : shareE (playedP exR exS exS.length) 13 3 = (⟨1,6⟩,0):=by kernel_rfl
theorem ex_ages : agesE exS (playedP exR exS exS.length) 13 = ((2,12),0):=by kernel_rfl
theorem ex_ripe : ripeE exS (playedP exR exS exS.length) 12 8 = (⟨1,2⟩,0):=by kernel_rfl
theorem ex_fate : fateE (playedP exR exS exS.length) 2 = ([⟨12,⟨5,1⟩⟩,⟨13,⟨15,2⟩⟩],⟨15,2⟩,⟨0,1⟩,0):=by kernel_rfl
theorem ex_worth : worthE (playedP exR exS exS.length) 13 exG = (⟨25,1⟩,⟨700,3⟩,0):=by kernel_rfl
theorem ex_probes : probesE exY exP = 0:=by kernel_rfl
theorem ex_culp : culpP exY exP exY.pours = [⟨1,⟨200,1⟩,⟨216,1⟩⟩,⟨2,⟨200,1⟩,⟨216,1⟩⟩]:=by kernel_rfl
def exZ (step : Int) : Yd:=match swapR exR exS step with
|.ok Y => Y
|.error _ => emptyP []
theorem ex_in5 : inP 5 1 ((exS.length : Int) - 1) = true:=by kernel_rfl
theorem ex_in1 : inP 1 1 ((exS.length : Int) - 1) = true:=by kernel_rfl
theorem ex_swap5 : swapR exR exS 5 = .ok (exZ 5):=by kernel_rfl
theorem ex_swap1 : swapR exR exS 1 = .ok (exZ 1):=by kernel_rfl
theorem ex_alike5 : alikeP exY (exZ 5) = true:=by kernel_rfl
theorem ex_alike1 : alikeP exY (exZ 1) = false:=by kernel_rfl
theorem ex_frac (n d : Int) (w : World) : Calls Tryz.prog 52 #[.int .i64 n,.int .i64 d] w fun e w' => e = .returned (.agg #[.int .i64 n,.int .i64 d]) ∧ Below w.heap.size w w':=calxlaw04_frac.calls n d n d w rfl
section
def R27_13.T : Bool × List (List Nat × List Nat):=(true,[([],[]),([],[]),([1],[1]),([1],[]),([3],[3]),([3],[]),([5],[5]),([2,4,6],[2,4,6]),([0,7,5],[0,7]),([8,8],[8]),([9],[9]),([9,9],[9]),([10,11,9],[9,10,11]),([9,12],[9,12]),([13,11],[13]),([14],[14]),([14],[14]),([15,16,14],[14,15,16]),([14,17],[14,17]),([18,14],[18]),([19],[19]),([19,19],[19]),([20,21,19],[19,20,21]),([19,22],[19,22]),([23,21,0,1,2,3,4,5,6,7,8,9,10,11,12,13,14,15,16,17,18,19,20,21,22,23],[23])])
def R27_13.B : List Nat:=[0,0,2,2,10,10,42,126,255,511,1023,1023,4095,8191,16383,32767,32767,131071,262143,524287,1048575,1048575,4194303,8388607,16777215]
theorem R27_13.tab : rtab .any (opsOf Tryz.f27 13) = R27_13.T:=by kernel_rfl
theorem R27_13.bits : waitsOk R27_13.T.2 R27_13.B = true:=by kernel_rfl
def R27_14.T : Bool × List (List Nat × List Nat):=(true,[([],[]),([],[]),([1],[1]),([1],[]),([3],[3]),([2,4],[2,4]),([0,5,3],[0,5]),([6,6],[6]),([7],[7]),([7,7],[7]),([8,9,7],[7,8,9]),([7,10],[7,10]),([11,9],[11]),([12],[12]),([12,12],[12]),([13,14,12],[12,13,14]),([12,15],[12,15]),([16,14],[16]),([17],[17]),([17,17],[17]),([18,19,17],[17,18,19]),([17,20],[17,20]),([21,19],[21]),([22],[22]),([22,22],[22]),([23,24,22],[22,23,24]),([22,25],[22,25]),([26,24,0,1,2,3,4,5,6,7,8,9,10,11,12,13,14,15,16,17,18,19,20,21,22,23,24,25,26],[26])])
def R27_14.B : List Nat:=[0,0,2,2,10,30,63,127,255,255,1023,2047,4095,8191,8191,32767,65535,131071,262143,262143,1048575,2097151,4194303,8388607,8388607,33554431,67108863,134217727]
theorem R27_14.tab : rtab .any (opsOf Tryz.f27 14) = R27_14.T:=by kernel_rfl
theorem R27_14.bits : waitsOk R27_14.T.2 R27_14.B = true:=by kernel_rfl
theorem eqA66 (d : Nat) (w : World) (x0 y0 : Int) (x1 y1 : Int) :
  (Op.equalIn (d + 2) 66 (.agg #[.int .i64 x0,.int .i64 x1]) (.agg #[.int .i64 y0,.int .i64 y1])).run Tryz.prog w = .ok (x0 == y0 && (x1 == y1)) w:=by
 refine eqA_of Tryz.underlying66 kr ?_
 refine eqf_cons (by rfl) (by go_simp;rfl) (by go_simp;rfl) (by go_simp) ?_
 exact eqf_last (by rfl) (by go_simp;rfl) (by go_simp;rfl) (by go_simp)
attribute [local go_sem high] eqA43 eqA66 eqA89
theorem row89_3 (W : World) (x y z : S89) : Kd.R k89 89 (W.alloc (.cells #[.int .i64 x.f0,.int .i64 x.f1.f0,.int .i64 x.f1.f1,.int .i64 y.f0,.int .i64 y.f1.f0,.int .i64 y.f1.f1,.int .i64 z.f0,.int .i64 z.f1.f0,.int .i64 z.f1.f1] 89)) W.heap.size (fun _ => True) (.slice (some ⟨W.heap.size,0,none⟩) 3 3) [x,y,z] :=
 ⟨fun _ _ => trivial,OwnRow.lit (ps:=[x,y,z]) W W.heap.size (inner:=[.int .i64 x.f0,.int .i64 x.f1.f0,.int .i64 x.f1.f1,.int .i64 y.f0,.int .i64 y.f1.f0,.int .i64 y.f1.f1,.int .i64 z.f0,.int .i64 z.f1.f0,.int .i64 z.f1.f1]) (Reps.snoc (Reps.snoc (Reps.snoc (Reps.none _ _) (k89_mkM _ _ _ x) rfl) (k89_mkM _ _ _ y) rfl) (k89_mkM _ _ _ z) rfl) (Nat.le_refl _) (by simp)⟩
theorem row89_2 (W : World) (x y : S89) : Kd.R k89 89 (W.alloc (.cells #[.int .i64 x.f0,.int .i64 x.f1.f0,.int .i64 x.f1.f1,.int .i64 y.f0,.int .i64 y.f1.f0,.int .i64 y.f1.f1] 89)) W.heap.size (fun _ => True) (.slice (some ⟨W.heap.size,0,none⟩) 2 2) [x,y] :=
 ⟨fun _ _ => trivial,OwnRow.lit (ps:=[x,y]) W W.heap.size (inner:=[.int .i64 x.f0,.int .i64 x.f1.f0,.int .i64 x.f1.f1,.int .i64 y.f0,.int .i64 y.f1.f0,.int .i64 y.f1.f1]) (Reps.snoc (Reps.snoc (Reps.none _ _) (k89_mkM _ _ _ x) rfl) (k89_mkM _ _ _ y) rfl) (Nat.le_refl _) (by simp)⟩
theorem row113_2 (W : World) (x y : S113) : Kd.R k113 113 (W.alloc (.cells #[.int .i64 x.f0,.int .i64 x.f1.f0,.int .i64 x.f1.f1,.int .i64 y.f0,.int .i64 y.f1.f0,.int .i64 y.f1.f1] 113)) W.heap.size (fun _ => True) (.slice (some ⟨W.heap.size,0,none⟩) 2 2) [x,y] :=
 ⟨fun _ _ => trivial,OwnRow.lit (ps:=[x,y]) W W.heap.size (inner:=[.int .i64 x.f0,.int .i64 x.f1.f0,.int .i64 x.f1.f1,.int .i64 y.f0,.int .i64 y.f1.f0,.int .i64 y.f1.f1]) (Reps.snoc (Reps.snoc (Reps.none _ _) (k113_mkM _ _ _ x) rfl) (k113_mkM _ _ _ y) rfl) (Nat.le_refl _) (by simp)⟩
theorem row137_2 (W : World) (x y : S137) : Kd.R k137 137 (W.alloc (.cells #[.int .i64 x.f0,.int .i64 x.f1.f0,.int .i64 x.f1.f1,.int .i64 y.f0,.int .i64 y.f1.f0,.int .i64 y.f1.f1] 137)) W.heap.size (fun _ => True) (.slice (some ⟨W.heap.size,0,none⟩) 2 2) [x,y] :=
 ⟨fun _ _ => trivial,OwnRow.lit (ps:=[x,y]) W W.heap.size (inner:=[.int .i64 x.f0,.int .i64 x.f1.f0,.int .i64 x.f1.f1,.int .i64 y.f0,.int .i64 y.f1.f0,.int .i64 y.f1.f1]) (Reps.snoc (Reps.snoc (Reps.none _ _) (k137_mkM _ _ _ x) rfl) (k137_mkM _ _ _ y) rfl) (Nat.le_refl _) (by simp)⟩
theorem row139_2 (W : World) (x y : S139) : Kd.R k139 139 (W.alloc (.cells #[.int .i64 x.f0,.int .i64 x.f1.f0,.int .i64 x.f1.f1,.int .i64 x.f2.f0,.int .i64 x.f2.f1,.int .i64 y.f0,.int .i64 y.f1.f0,.int .i64 y.f1.f1,.int .i64 y.f2.f0,.int .i64 y.f2.f1] 139)) W.heap.size (fun _ => True) (.slice (some ⟨W.heap.size,0,none⟩) 2 2) [x,y] :=
 ⟨fun _ _ => trivial,OwnRow.lit (ps:=[x,y]) W W.heap.size (inner:=[.int .i64 x.f0,.int .i64 x.f1.f0,.int .i64 x.f1.f1,.int .i64 x.f2.f0,.int .i64 x.f2.f1,.int .i64 y.f0,.int .i64 y.f1.f0,.int .i64 y.f1.f1,.int .i64 y.f2.f0,.int .i64 y.f2.f1]) (Reps.snoc (Reps.snoc (Reps.none _ _) (k139_mkM _ _ _ x) rfl) (k139_mkM _ _ _ y) rfl) (Nat.le_refl _) (by simp)⟩
set_option maxRecDepth 100000 in
set_option maxHeartbeats 4000000 in
theorem sanity_calls (w : World) : Calls Tryz.prog 27 #[] w fun e w' => e = .returned (.bool true) ∧ Below w.heap.size w w':=by
 have hu32:=Tryz.underlying32
 have hu43:=Tryz.underlying43
 have hu66:=Tryz.underlying66
 have hu89:=Tryz.underlying89
 have hu113:=Tryz.underlying113
 have hu137:=Tryz.underlying137
 have hu139:=Tryz.underlying139
 obtain ⟨rooms,hrm⟩ : ∃ rooms,rooms = exR:=⟨_,rfl⟩
 obtain ⟨stirs,hst⟩ : ∃ stirs,stirs = exS:=⟨_,rfl⟩
 have HRM:=am hrm
 have HST:=am hst
 have HEX:=am (show calxlaw04_Example.f = some (rooms,stirs) by rw [hrm,hst];rfl)
 have HOK:=am (show playedP rooms stirs stirs.length = .ok exY by rw [hrm,hst];exact ex_ok)
 clear hrm hst
 go_enter Tryz.func27,Tryz.ntmps27
 go_wp2_with fail
 refine (calxlaw04_Example.calls rooms stirs w HEX.out).mono ?_
 rintro e w1 ⟨v0,v1,rfl,hR0,hR1,hb⟩
 obtain ⟨A,c,rfl⟩:=Kd.R_slice hR0
 obtain ⟨A2,c2,rfl⟩:=Kd.R_slice hR1
 have HCC:=am (Kd.R_reads' hR0).2.1
 have HCC2:=am (Kd.R_reads' hR1).2.1
 have HB:=am (hb)
 have HF:=am (show Kd.F (Kd.int .i64) w1 (fun k => k < w1.heap.size) A rooms.length rooms from Kd.F_mono (Kd.R_F (Kd.R_bound hR0)) (fun k hk => hk.2.2.1))
 have HS:=am ((Kd.R_reads' hR1).2.2)
 clear hR0 hR1 hb
 have HB1:=am (below_alloc HB.out (.cells #[.slice A rooms.length c,.slice A2 stirs.length c2] 32))
 have HF1:=am (Kd.F_alloc HF.out (.cells #[.slice A rooms.length c,.slice A2 stirs.length c2] 32))
 have HS1:=am (Kd.C_alloc HS.out (.cells #[.slice A rooms.length c,.slice A2 stirs.length c2] 32))
 have Hp_:=am (blk_new w1 (.cells #[.slice A rooms.length c,.slice A2 stirs.length c2] 32))
 go_wp2_with fail
 refine (barrow_calls A A2 c c2 rooms stirs _ w1.heap.size (Nat.le_of_lt (blk_lt Hp_.out)) HF1.out HCC.out HS1.out HCC2.out 13).mono ?_
 rintro e w2 ⟨hb,h⟩
 rw [HOK.out] at h
 simp only [ex_barrow] at h
 obtain ⟨A3,c3,rfl,hl3,hC3⟩:=h
 obtain ⟨pa,hpa⟩ : ∃ pa,pa = exB.f3:=⟨_,rfl⟩
 rw [← hpa] at hl3 hC3 ⊢
 have HPA:=am hpa
 have HL3:=am hl3
 clear hpa
 have HB2:=am (below_then HB1.out (below_size HB1.out) hb)
 have HF2:=am (Kd.F_below HF1.out hb)
 have HS2:=am (Kd.C_below HS1.out hb)
 have Hp_1:=am (blk_below Hp_.out hb)
 have Hb_:=am (hC3)
 clear hb hl3 hC3
 have g0:=bc Hp_1.out 0 (.slice A rooms.length c)
 have g1:=bc Hp_1.out 1 (.slice A2 stirs.length c2)
 have hh:=share_calls A A2 c c2 rooms stirs w2 w1.heap.size (Nat.le_of_lt (blk_lt Hp_1.out)) HF2.out HCC.out HS2.out HCC2.out 13 3
 rw [show shareE (playedP rooms stirs stirs.length) 13 3 = (⟨1,6⟩,0) from by rw [HRM.out,HST.out];exact ex_share] at hh
 have HH:=am hh
 clear hh
 go_wp2_with fail
 refine HH.out.mono ?_
 rintro e w3 ⟨rfl,hb⟩
 have HB3:=am (below_then HB2.out (below_size HB2.out) hb)
 have HF3:=am (Kd.F_below HF2.out hb)
 have HS3:=am (Kd.C_below HS2.out hb)
 have Hp_2:=am (blk_below Hp_1.out hb)
 have Hb_1:=am (Kd.C_below Hb_.out hb)
 clear hb g0 g1
 clear HH
 have HB4:=am (below_alloc HB3.out (.cells #[.int .i64 1,.int .i64 6] 43))
 have HF4:=am (Kd.F_alloc HF3.out (.cells #[.int .i64 1,.int .i64 6] 43))
 have HS4:=am (Kd.C_alloc HS3.out (.cells #[.int .i64 1,.int .i64 6] 43))
 have Hp_3:=am (blk_alloc Hp_2.out (.cells #[.int .i64 1,.int .i64 6] 43))
 have Hb_2:=am (Kd.C_alloc Hb_1.out (.cells #[.int .i64 1,.int .i64 6] 43))
 have Hs_:=am (blk_new' w3 (.cells #[.int .i64 1,.int .i64 6] 43) (w3.heap.size) (by simp))
 have g0:=bc Hp_3.out 0 (.slice A rooms.length c)
 have g1:=bc Hp_3.out 1 (.slice A2 stirs.length c2)
 have hh:=ages_calls A A2 c c2 rooms stirs (w3.alloc (.cells #[.int .i64 1,.int .i64 6] 43)) w1.heap.size (Nat.le_of_lt (blk_lt Hp_3.out)) HF4.out HCC.out HS4.out HCC2.out 13
 rw [show agesE stirs (playedP rooms stirs stirs.length) 13 = ((2,12),0) from by rw [HRM.out,HST.out];exact ex_ages] at hh
 have HH:=am hh
 clear hh
 go_wp2_with fail
 refine HH.out.mono ?_
 rintro e w4 ⟨rfl,hb⟩
 have HB5:=am (below_then HB4.out (below_size HB4.out) hb)
 have HF5:=am (Kd.F_below HF4.out hb)
 have HS5:=am (Kd.C_below HS4.out hb)
 have Hp_4:=am (blk_below Hp_3.out hb)
 have Hb_3:=am (Kd.C_below Hb_2.out hb)
 have Hs_1:=am (blk_below Hs_.out hb)
 clear hb g0 g1
 clear HH
 have HB6:=am (below_alloc HB5.out (.cells #[.int .i64 2,.int .i64 12] 66))
 have HF6:=am (Kd.F_alloc HF5.out (.cells #[.int .i64 2,.int .i64 12] 66))
 have HS6:=am (Kd.C_alloc HS5.out (.cells #[.int .i64 2,.int .i64 12] 66))
 have Hp_5:=am (blk_alloc Hp_4.out (.cells #[.int .i64 2,.int .i64 12] 66))
 have Hb_4:=am (Kd.C_alloc Hb_3.out (.cells #[.int .i64 2,.int .i64 12] 66))
 have Hs_2:=am (blk_alloc Hs_1.out (.cells #[.int .i64 2,.int .i64 12] 66))
 have Ha_:=am (blk_new' w4 (.cells #[.int .i64 2,.int .i64 12] 66) (w4.heap.size) (by simp))
 have g0:=bc Hp_5.out 0 (.slice A rooms.length c)
 have g1:=bc Hp_5.out 1 (.slice A2 stirs.length c2)
 have hh:=ripe_calls A A2 c c2 rooms stirs (w4.alloc (.cells #[.int .i64 2,.int .i64 12] 66)) w1.heap.size (Nat.le_of_lt (blk_lt Hp_5.out)) HF6.out HCC.out HS6.out HCC2.out 12 8
 rw [show ripeE stirs (playedP rooms stirs stirs.length) 12 8 = (⟨1,2⟩,0) from by rw [HRM.out,HST.out];exact ex_ripe] at hh
 have HH:=am hh
 clear hh
 go_wp2_with fail
 refine HH.out.mono ?_
 rintro e w5 ⟨rfl,hb⟩
 have HB7:=am (below_then HB6.out (below_size HB6.out) hb)
 have HF7:=am (Kd.F_below HF6.out hb)
 have HS7:=am (Kd.C_below HS6.out hb)
 have Hp_6:=am (blk_below Hp_5.out hb)
 have Hb_5:=am (Kd.C_below Hb_4.out hb)
 have Hs_3:=am (blk_below Hs_2.out hb)
 have Ha_1:=am (blk_below Ha_.out hb)
 clear hb g0 g1
 clear HH
 have HB8:=am (below_alloc HB7.out (.cells #[.int .i64 1,.int .i64 2] 43))
 have HF8:=am (Kd.F_alloc HF7.out (.cells #[.int .i64 1,.int .i64 2] 43))
 have HS8:=am (Kd.C_alloc HS7.out (.cells #[.int .i64 1,.int .i64 2] 43))
 have Hp_7:=am (blk_alloc Hp_6.out (.cells #[.int .i64 1,.int .i64 2] 43))
 have Hb_6:=am (Kd.C_alloc Hb_5.out (.cells #[.int .i64 1,.int .i64 2] 43))
 have Hs_4:=am (blk_alloc Hs_3.out (.cells #[.int .i64 1,.int .i64 2] 43))
 have Ha_2:=am (blk_alloc Ha_1.out (.cells #[.int .i64 1,.int .i64 2] 43))
 have Hr_:=am (blk_new' w5 (.cells #[.int .i64 1,.int .i64 2] 43) (w5.heap.size) (by simp))
 have g0:=bc Hp_7.out 0 (.slice A rooms.length c)
 have g1:=bc Hp_7.out 1 (.slice A2 stirs.length c2)
 have hh:=fate_calls A A2 c c2 rooms stirs (w5.alloc (.cells #[.int .i64 1,.int .i64 2] 43)) w1.heap.size (Nat.le_of_lt (blk_lt Hp_7.out)) HF8.out HCC.out HS8.out HCC2.out 2
 rw [show fateE (playedP rooms stirs stirs.length) 2 = ([⟨12,⟨5,1⟩⟩,⟨13,⟨15,2⟩⟩],⟨15,2⟩,⟨0,1⟩,0) from by rw [HRM.out,HST.out];exact ex_fate] at hh
 have HH:=am hh
 clear hh
 go_wp2_with fail
 refine HH.out.mono ?_
 rintro e w6 ⟨hb,A7,c7,rfl,hl7,hC7⟩
 obtain ⟨pl,hpl⟩ : ∃ pl : List S89,pl = [⟨12,⟨5,1⟩⟩,⟨13,⟨15,2⟩⟩]:=⟨_,rfl⟩
 rw [show ((([⟨12,⟨5,1⟩⟩,⟨13,⟨15,2⟩⟩],⟨15,2⟩,⟨0,1⟩,0) : List S89 × S43 × S43 × Int)).1 = pl from hpl.symm] at hl7 hC7 ⊢
 have HPL:=am hpl
 have HL7:=am hl7
 clear hpl
 have HB9:=am (below_then HB8.out (below_size HB8.out) hb)
 have HF9:=am (Kd.F_below HF8.out hb)
 have HS9:=am (Kd.C_below HS8.out hb)
 have Hp_8:=am (blk_below Hp_7.out hb)
 have Hb_7:=am (Kd.C_below Hb_6.out hb)
 have Hs_5:=am (blk_below Hs_4.out hb)
 have Ha_3:=am (blk_below Ha_2.out hb)
 have Hr_1:=am (blk_below Hr_.out hb)
 have Hq_:=am (hC7)
 clear hb g0 g1 hl7 hC7
 clear HH
 have HB10:=am (below_alloc HB9.out (.cells #[.int .i64 15,.int .i64 2] 43))
 have HF10:=am (Kd.F_alloc HF9.out (.cells #[.int .i64 15,.int .i64 2] 43))
 have HS10:=am (Kd.C_alloc HS9.out (.cells #[.int .i64 15,.int .i64 2] 43))
 have Hp_9:=am (blk_alloc Hp_8.out (.cells #[.int .i64 15,.int .i64 2] 43))
 have Hb_8:=am (Kd.C_alloc Hb_7.out (.cells #[.int .i64 15,.int .i64 2] 43))
 have Hs_6:=am (blk_alloc Hs_5.out (.cells #[.int .i64 15,.int .i64 2] 43))
 have Ha_4:=am (blk_alloc Ha_3.out (.cells #[.int .i64 15,.int .i64 2] 43))
 have Hr_2:=am (blk_alloc Hr_1.out (.cells #[.int .i64 15,.int .i64 2] 43))
 have Hq_1:=am (Kd.C_alloc Hq_.out (.cells #[.int .i64 15,.int .i64 2] 43))
 have Hf_:=am (blk_new' w6 (.cells #[.int .i64 15,.int .i64 2] 43) (w6.heap.size) (by simp))
 have HB11:=am (below_alloc HB10.out (.cells #[.int .i64 0,.int .i64 1] 43))
 have HF11:=am (Kd.F_alloc HF10.out (.cells #[.int .i64 0,.int .i64 1] 43))
 have HS11:=am (Kd.C_alloc HS10.out (.cells #[.int .i64 0,.int .i64 1] 43))
 have Hp_10:=am (blk_alloc Hp_9.out (.cells #[.int .i64 0,.int .i64 1] 43))
 have Hb_9:=am (Kd.C_alloc Hb_8.out (.cells #[.int .i64 0,.int .i64 1] 43))
 have Hs_7:=am (blk_alloc Hs_6.out (.cells #[.int .i64 0,.int .i64 1] 43))
 have Ha_5:=am (blk_alloc Ha_4.out (.cells #[.int .i64 0,.int .i64 1] 43))
 have Hr_3:=am (blk_alloc Hr_2.out (.cells #[.int .i64 0,.int .i64 1] 43))
 have Hq_2:=am (Kd.C_alloc Hq_1.out (.cells #[.int .i64 0,.int .i64 1] 43))
 have Hf_1:=am (blk_alloc Hf_.out (.cells #[.int .i64 0,.int .i64 1] 43))
 have Ho_:=am (blk_new' (w6.alloc (.cells #[.int .i64 15,.int .i64 2] 43)) (.cells #[.int .i64 0,.int .i64 1] 43) (w6.heap.size + 1) (by simp))
 have hgr:=(Kd.R_reads' (row113_2 ((w6.alloc (.cells #[.int .i64 15,.int .i64 2] 43)).alloc (.cells #[.int .i64 0,.int .i64 1] 43)) ⟨1,⟨0,100⟩⟩ ⟨2,⟨60,60⟩⟩)).2.2
 rw [show ((w6.alloc (.cells #[.int .i64 15,.int .i64 2] 43)).alloc (.cells #[.int .i64 0,.int .i64 1] 43)).heap.size = w6.heap.size + 1 + 1 by simp] at hgr
 have HGR:=am hgr
 clear hgr
 have HB12:=am (below_alloc HB11.out (.cells #[.int .i64 1,.int .i64 0,.int .i64 100,.int .i64 2,.int .i64 60,.int .i64 60] 113))
 have HF12:=am (Kd.F_alloc HF11.out (.cells #[.int .i64 1,.int .i64 0,.int .i64 100,.int .i64 2,.int .i64 60,.int .i64 60] 113))
 have HS12:=am (Kd.C_alloc HS11.out (.cells #[.int .i64 1,.int .i64 0,.int .i64 100,.int .i64 2,.int .i64 60,.int .i64 60] 113))
 have Hp_11:=am (blk_alloc Hp_10.out (.cells #[.int .i64 1,.int .i64 0,.int .i64 100,.int .i64 2,.int .i64 60,.int .i64 60] 113))
 have Hb_10:=am (Kd.C_alloc Hb_9.out (.cells #[.int .i64 1,.int .i64 0,.int .i64 100,.int .i64 2,.int .i64 60,.int .i64 60] 113))
 have Hs_8:=am (blk_alloc Hs_7.out (.cells #[.int .i64 1,.int .i64 0,.int .i64 100,.int .i64 2,.int .i64 60,.int .i64 60] 113))
 have Ha_6:=am (blk_alloc Ha_5.out (.cells #[.int .i64 1,.int .i64 0,.int .i64 100,.int .i64 2,.int .i64 60,.int .i64 60] 113))
 have Hr_4:=am (blk_alloc Hr_3.out (.cells #[.int .i64 1,.int .i64 0,.int .i64 100,.int .i64 2,.int .i64 60,.int .i64 60] 113))
 have Hq_3:=am (Kd.C_alloc Hq_2.out (.cells #[.int .i64 1,.int .i64 0,.int .i64 100,.int .i64 2,.int .i64 60,.int .i64 60] 113))
 have Hf_2:=am (blk_alloc Hf_1.out (.cells #[.int .i64 1,.int .i64 0,.int .i64 100,.int .i64 2,.int .i64 60,.int .i64 60] 113))
 have Ho_1:=am (blk_alloc Ho_.out (.cells #[.int .i64 1,.int .i64 0,.int .i64 100,.int .i64 2,.int .i64 60,.int .i64 60] 113))
 have g0:=bc Hp_10.out 0 (.slice A rooms.length c)
 have g1:=bc Hp_10.out 1 (.slice A2 stirs.length c2)
 have hh:=worth_calls A A2 c c2 rooms stirs (((w6.alloc (.cells #[.int .i64 15,.int .i64 2] 43)).alloc (.cells #[.int .i64 0,.int .i64 1] 43)).alloc (.cells #[.int .i64 1,.int .i64 0,.int .i64 100,.int .i64 2,.int .i64 60,.int .i64 60] 113)) w1.heap.size (Nat.le_of_lt (blk_lt Hp_11.out)) HF12.out HCC.out HS12.out HCC2.out 13 (some ⟨w6.heap.size + 1 + 1,0,none⟩) 2 exG HGR.out (by decide)
 rw [show worthE (playedP rooms stirs stirs.length) 13 exG = (⟨25,1⟩,⟨700,3⟩,0) from by rw [HRM.out,HST.out];exact ex_worth] at hh
 have HH:=am hh
 clear hh
 go_wp2_with fail
 refine HH.out.mono ?_
 rintro e w8 ⟨rfl,hb⟩
 have HB13:=am (below_then HB12.out (below_size HB12.out) hb)
 have HF13:=am (Kd.F_below HF12.out hb)
 have HS13:=am (Kd.C_below HS12.out hb)
 have Hp_12:=am (blk_below Hp_11.out hb)
 have Hb_11:=am (Kd.C_below Hb_10.out hb)
 have Hs_9:=am (blk_below Hs_8.out hb)
 have Ha_7:=am (blk_below Ha_6.out hb)
 have Hr_5:=am (blk_below Hr_4.out hb)
 have Hq_4:=am (Kd.C_below Hq_3.out hb)
 have Hf_3:=am (blk_below Hf_2.out hb)
 have Ho_2:=am (blk_below Ho_1.out hb)
 clear hb g0 g1 HH HGR
 have HB14:=am (below_alloc HB13.out (.cells #[.int .i64 25,.int .i64 1] 43))
 have HF14:=am (Kd.F_alloc HF13.out (.cells #[.int .i64 25,.int .i64 1] 43))
 have HS14:=am (Kd.C_alloc HS13.out (.cells #[.int .i64 25,.int .i64 1] 43))
 have Hp_13:=am (blk_alloc Hp_12.out (.cells #[.int .i64 25,.int .i64 1] 43))
 have Hb_12:=am (Kd.C_alloc Hb_11.out (.cells #[.int .i64 25,.int .i64 1] 43))
 have Hs_10:=am (blk_alloc Hs_9.out (.cells #[.int .i64 25,.int .i64 1] 43))
 have Ha_8:=am (blk_alloc Ha_7.out (.cells #[.int .i64 25,.int .i64 1] 43))
 have Hr_6:=am (blk_alloc Hr_5.out (.cells #[.int .i64 25,.int .i64 1] 43))
 have Hq_5:=am (Kd.C_alloc Hq_4.out (.cells #[.int .i64 25,.int .i64 1] 43))
 have Hf_4:=am (blk_alloc Hf_3.out (.cells #[.int .i64 25,.int .i64 1] 43))
 have Ho_3:=am (blk_alloc Ho_2.out (.cells #[.int .i64 25,.int .i64 1] 43))
 have Hl_:=am (blk_new' w8 (.cells #[.int .i64 25,.int .i64 1] 43) (w8.heap.size) (by simp))
 have HB15:=am (below_alloc HB14.out (.cells #[.int .i64 700,.int .i64 3] 43))
 have HF15:=am (Kd.F_alloc HF14.out (.cells #[.int .i64 700,.int .i64 3] 43))
 have HS15:=am (Kd.C_alloc HS14.out (.cells #[.int .i64 700,.int .i64 3] 43))
 have Hp_14:=am (blk_alloc Hp_13.out (.cells #[.int .i64 700,.int .i64 3] 43))
 have Hb_13:=am (Kd.C_alloc Hb_12.out (.cells #[.int .i64 700,.int .i64 3] 43))
 have Hs_11:=am (blk_alloc Hs_10.out (.cells #[.int .i64 700,.int .i64 3] 43))
 have Ha_9:=am (blk_alloc Ha_8.out (.cells #[.int .i64 700,.int .i64 3] 43))
 have Hr_7:=am (blk_alloc Hr_6.out (.cells #[.int .i64 700,.int .i64 3] 43))
 have Hq_6:=am (Kd.C_alloc Hq_5.out (.cells #[.int .i64 700,.int .i64 3] 43))
 have Hf_5:=am (blk_alloc Hf_4.out (.cells #[.int .i64 700,.int .i64 3] 43))
 have Ho_4:=am (blk_alloc Ho_3.out (.cells #[.int .i64 700,.int .i64 3] 43))
 have Hl_1:=am (blk_alloc Hl_.out (.cells #[.int .i64 700,.int .i64 3] 43))
 have Hh_:=am (blk_new' (w8.alloc (.cells #[.int .i64 25,.int .i64 1] 43)) (.cells #[.int .i64 700,.int .i64 3] 43) (w8.heap.size + 1) (by simp))
 have hgr:=(Kd.R_reads' (row137_2 ((w8.alloc (.cells #[.int .i64 25,.int .i64 1] 43)).alloc (.cells #[.int .i64 700,.int .i64 3] 43)) ⟨12,⟨100,120⟩⟩ ⟨13,⟨50,90⟩⟩)).2.2
 rw [show ((w8.alloc (.cells #[.int .i64 25,.int .i64 1] 43)).alloc (.cells #[.int .i64 700,.int .i64 3] 43)).heap.size = w8.heap.size + 1 + 1 by simp] at hgr
 have HGR:=am hgr
 clear hgr
 have g0:=bc Hp_14.out 0 (.slice A rooms.length c)
 have g1:=bc Hp_14.out 1 (.slice A2 stirs.length c2)
 have HB16:=am (below_alloc HB15.out (.cells #[.int .i64 12,.int .i64 100,.int .i64 120,.int .i64 13,.int .i64 50,.int .i64 90] 137))
 have HF16:=am (Kd.F_alloc HF15.out (.cells #[.int .i64 12,.int .i64 100,.int .i64 120,.int .i64 13,.int .i64 50,.int .i64 90] 137))
 have HS16:=am (Kd.C_alloc HS15.out (.cells #[.int .i64 12,.int .i64 100,.int .i64 120,.int .i64 13,.int .i64 50,.int .i64 90] 137))
 have Hp_15:=am (blk_alloc Hp_14.out (.cells #[.int .i64 12,.int .i64 100,.int .i64 120,.int .i64 13,.int .i64 50,.int .i64 90] 137))
 have Hb_14:=am (Kd.C_alloc Hb_13.out (.cells #[.int .i64 12,.int .i64 100,.int .i64 120,.int .i64 13,.int .i64 50,.int .i64 90] 137))
 have Hs_12:=am (blk_alloc Hs_11.out (.cells #[.int .i64 12,.int .i64 100,.int .i64 120,.int .i64 13,.int .i64 50,.int .i64 90] 137))
 have Ha_10:=am (blk_alloc Ha_9.out (.cells #[.int .i64 12,.int .i64 100,.int .i64 120,.int .i64 13,.int .i64 50,.int .i64 90] 137))
 have Hr_8:=am (blk_alloc Hr_7.out (.cells #[.int .i64 12,.int .i64 100,.int .i64 120,.int .i64 13,.int .i64 50,.int .i64 90] 137))
 have Hq_7:=am (Kd.C_alloc Hq_6.out (.cells #[.int .i64 12,.int .i64 100,.int .i64 120,.int .i64 13,.int .i64 50,.int .i64 90] 137))
 have Hf_6:=am (blk_alloc Hf_5.out (.cells #[.int .i64 12,.int .i64 100,.int .i64 120,.int .i64 13,.int .i64 50,.int .i64 90] 137))
 have Ho_5:=am (blk_alloc Ho_4.out (.cells #[.int .i64 12,.int .i64 100,.int .i64 120,.int .i64 13,.int .i64 50,.int .i64 90] 137))
 have Hl_2:=am (blk_alloc Hl_1.out (.cells #[.int .i64 12,.int .i64 100,.int .i64 120,.int .i64 13,.int .i64 50,.int .i64 90] 137))
 have Hh_1:=am (blk_alloc Hh_.out (.cells #[.int .i64 12,.int .i64 100,.int .i64 120,.int .i64 13,.int .i64 50,.int .i64 90] 137))
 have hh:=culprits_calls A A2 c c2 rooms stirs (((w8.alloc (.cells #[.int .i64 25,.int .i64 1] 43)).alloc (.cells #[.int .i64 700,.int .i64 3] 43)).alloc (.cells #[.int .i64 12,.int .i64 100,.int .i64 120,.int .i64 13,.int .i64 50,.int .i64 90] 137)) w1.heap.size (Nat.le_of_lt (blk_lt Hp_15.out)) HF16.out HCC.out HS16.out HCC2.out (some ⟨w8.heap.size + 1 + 1,0,none⟩) 2 exP HGR.out (by decide)
 have HH:=am hh
 clear hh
 go_wp2_with fail
 refine HH.out.mono ?_
 rintro e w10 ⟨hb,h⟩
 rw [HOK.out] at h
 dsimp only at h
 rw [if_pos ex_probes] at h
 obtain ⟨A9,c9,rfl,hl9,hC9⟩:=h
 obtain ⟨pk,hpk⟩ : ∃ pk,pk = culpP exY exP exY.pours:=⟨_,rfl⟩
 rw [← hpk] at hl9 hC9 ⊢
 have HPK:=am (hpk.trans ex_culp)
 have HL9:=am hl9
 clear hpk
 have HB17:=am (below_then HB16.out (below_size HB16.out) hb)
 have HF17:=am (Kd.F_below HF16.out hb)
 have HS17:=am (Kd.C_below HS16.out hb)
 have Hp_16:=am (blk_below Hp_15.out hb)
 have Hb_15:=am (Kd.C_below Hb_14.out hb)
 have Hs_13:=am (blk_below Hs_12.out hb)
 have Ha_11:=am (blk_below Ha_10.out hb)
 have Hr_9:=am (blk_below Hr_8.out hb)
 have Hq_8:=am (Kd.C_below Hq_7.out hb)
 have Hf_7:=am (blk_below Hf_6.out hb)
 have Ho_6:=am (blk_below Ho_5.out hb)
 have Hl_3:=am (blk_below Hl_2.out hb)
 have Hh_2:=am (blk_below Hh_1.out hb)
 have Hk_:=am (hC9)
 clear hb g0 g1 HH HGR hl9 hC9
 have g0:=bc Hp_16.out 0 (.slice A rooms.length c)
 have g1:=bc Hp_16.out 1 (.slice A2 stirs.length c2)
 have hh:=swap_calls A A2 c c2 rooms stirs w10 w1.heap.size (Nat.le_of_lt (blk_lt Hp_16.out)) HF17.out HCC.out HS17.out HCC2.out 5
 have HH:=am hh
 clear hh
 go_wp2_with fail
 refine HH.out.mono ?_
 rintro e w11 ⟨hb,h⟩
 rw [HOK.out] at h
 dsimp only at h
 rw [show inP 5 1 ((stirs.length : Int) - 1) = true from by rw [HST.out];exact ex_in5,if_pos rfl,show swapR rooms stirs 5 = .ok (exZ 5) from by rw [HRM.out,HST.out];exact ex_swap5] at h
 dsimp only at h
 rw [ex_alike5] at h
 obtain ⟨A5,A6,c5,c6,rfl,_,_,_,_⟩:=h
 have HB18:=am (below_then HB17.out (below_size HB17.out) hb)
 have HF18:=am (Kd.F_below HF17.out hb)
 have HS18:=am (Kd.C_below HS17.out hb)
 have Hp_17:=am (blk_below Hp_16.out hb)
 have Hb_16:=am (Kd.C_below Hb_15.out hb)
 have Hs_14:=am (blk_below Hs_13.out hb)
 have Ha_12:=am (blk_below Ha_11.out hb)
 have Hr_10:=am (blk_below Hr_9.out hb)
 have Hq_9:=am (Kd.C_below Hq_8.out hb)
 have Hf_8:=am (blk_below Hf_7.out hb)
 have Ho_7:=am (blk_below Ho_6.out hb)
 have Hl_4:=am (blk_below Hl_3.out hb)
 have Hh_3:=am (blk_below Hh_2.out hb)
 have Hk_1:=am (Kd.C_below Hk_.out hb)
 clear hb g0 g1 HH
 have HB19:=am (below_alloc HB18.out (.cells #[.slice A5 rooms.length c5,.slice A6 stirs.length c6] 32))
 have HF19:=am (Kd.F_alloc HF18.out (.cells #[.slice A5 rooms.length c5,.slice A6 stirs.length c6] 32))
 have HS19:=am (Kd.C_alloc HS18.out (.cells #[.slice A5 rooms.length c5,.slice A6 stirs.length c6] 32))
 have Hp_18:=am (blk_alloc Hp_17.out (.cells #[.slice A5 rooms.length c5,.slice A6 stirs.length c6] 32))
 have Hb_17:=am (Kd.C_alloc Hb_16.out (.cells #[.slice A5 rooms.length c5,.slice A6 stirs.length c6] 32))
 have Hs_15:=am (blk_alloc Hs_14.out (.cells #[.slice A5 rooms.length c5,.slice A6 stirs.length c6] 32))
 have Ha_13:=am (blk_alloc Ha_12.out (.cells #[.slice A5 rooms.length c5,.slice A6 stirs.length c6] 32))
 have Hr_11:=am (blk_alloc Hr_10.out (.cells #[.slice A5 rooms.length c5,.slice A6 stirs.length c6] 32))
 have Hq_10:=am (Kd.C_alloc Hq_9.out (.cells #[.slice A5 rooms.length c5,.slice A6 stirs.length c6] 32))
 have Hf_9:=am (blk_alloc Hf_8.out (.cells #[.slice A5 rooms.length c5,.slice A6 stirs.length c6] 32))
 have Ho_8:=am (blk_alloc Ho_7.out (.cells #[.slice A5 rooms.length c5,.slice A6 stirs.length c6] 32))
 have Hl_5:=am (blk_alloc Hl_4.out (.cells #[.slice A5 rooms.length c5,.slice A6 stirs.length c6] 32))
 have Hh_4:=am (blk_alloc Hh_3.out (.cells #[.slice A5 rooms.length c5,.slice A6 stirs.length c6] 32))
 have Hk_2:=am (Kd.C_alloc Hk_1.out (.cells #[.slice A5 rooms.length c5,.slice A6 stirs.length c6] 32))
 have g0:=bc Hp_18.out 0 (.slice A rooms.length c)
 have g1:=bc Hp_18.out 1 (.slice A2 stirs.length c2)
 have hh:=swap_calls A A2 c c2 rooms stirs (w11.alloc (.cells #[.slice A5 rooms.length c5,.slice A6 stirs.length c6] 32)) w1.heap.size (Nat.le_of_lt (blk_lt Hp_18.out)) HF19.out HCC.out HS19.out HCC2.out 1
 have HH:=am hh
 clear hh
 go_wp2_with fail
 refine HH.out.mono ?_
 rintro e w12 ⟨hb,h⟩
 rw [HOK.out] at h
 dsimp only at h
 rw [show inP 1 1 ((stirs.length : Int) - 1) = true from by rw [HST.out];exact ex_in1,if_pos rfl,show swapR rooms stirs 1 = .ok (exZ 1) from by rw [HRM.out,HST.out];exact ex_swap1] at h
 dsimp only at h
 rw [ex_alike1] at h
 obtain ⟨A5,A6,c5,c6,rfl,_,_,_,_⟩:=h
 have HB20:=am (below_then HB19.out (below_size HB19.out) hb)
 have Hb_18:=am (Kd.C_below Hb_17.out hb)
 have Hs_16:=am (blk_below Hs_15.out hb)
 have Ha_14:=am (blk_below Ha_13.out hb)
 have Hr_12:=am (blk_below Hr_11.out hb)
 have Hq_11:=am (Kd.C_below Hq_10.out hb)
 have Hf_10:=am (blk_below Hf_9.out hb)
 have Ho_9:=am (blk_below Ho_8.out hb)
 have Hl_6:=am (blk_below Hl_5.out hb)
 have Hh_5:=am (blk_below Hh_4.out hb)
 have Hk_3:=am (Kd.C_below Hk_2.out hb)
 clear hb g0 g1 HH
 have HB21:=am (below_alloc HB20.out (.cells #[.slice A5 rooms.length c5,.slice A6 stirs.length c6] 32))
 have Hb_19:=am (Kd.C_alloc Hb_18.out (.cells #[.slice A5 rooms.length c5,.slice A6 stirs.length c6] 32))
 have Hs_17:=am (blk_alloc Hs_16.out (.cells #[.slice A5 rooms.length c5,.slice A6 stirs.length c6] 32))
 have Ha_15:=am (blk_alloc Ha_14.out (.cells #[.slice A5 rooms.length c5,.slice A6 stirs.length c6] 32))
 have Hr_13:=am (blk_alloc Hr_12.out (.cells #[.slice A5 rooms.length c5,.slice A6 stirs.length c6] 32))
 have Hq_12:=am (Kd.C_alloc Hq_11.out (.cells #[.slice A5 rooms.length c5,.slice A6 stirs.length c6] 32))
 have Hf_11:=am (blk_alloc Hf_10.out (.cells #[.slice A5 rooms.length c5,.slice A6 stirs.length c6] 32))
 have Ho_10:=am (blk_alloc Ho_9.out (.cells #[.slice A5 rooms.length c5,.slice A6 stirs.length c6] 32))
 have Hl_7:=am (blk_alloc Hl_6.out (.cells #[.slice A5 rooms.length c5,.slice A6 stirs.length c6] 32))
 have Hh_6:=am (blk_alloc Hh_5.out (.cells #[.slice A5 rooms.length c5,.slice A6 stirs.length c6] 32))
 have Hk_4:=am (Kd.C_alloc Hk_3.out (.cells #[.slice A5 rooms.length c5,.slice A6 stirs.length c6] 32))
 have HB22:=am (below_drew HB21.out)
 have Hb_20:=am (Kd.C_drew Hb_19.out)
 have Hs_18:=am (blk_drew Hs_17.out)
 have Ha_16:=am (blk_drew Ha_15.out)
 have Hr_14:=am (blk_drew Hr_13.out)
 have Hq_13:=am (Kd.C_drew Hq_12.out)
 have Hf_12:=am (blk_drew Hf_11.out)
 have Ho_11:=am (blk_drew Ho_10.out)
 have Hl_8:=am (blk_drew Hl_7.out)
 have Hh_7:=am (blk_drew Hh_6.out)
 have Hk_5:=am (Kd.C_drew Hk_4.out)
 go_wp2
 refine start_ (n:=25) (S:=fun w' => w'.cell? ⟨w3.heap.size,0,none⟩ = some (.int .i64 1) ∧ w'.cell? ⟨w3.heap.size,1,none⟩ = some (.int .i64 6) ∧ w'.cell? ⟨w4.heap.size,0,none⟩ = some (.int .i64 2) ∧ w'.cell? ⟨w4.heap.size,1,none⟩ = some (.int .i64 12) ∧ w'.cell? ⟨w5.heap.size,0,none⟩ = some (.int .i64 1) ∧ w'.cell? ⟨w5.heap.size,1,none⟩ = some (.int .i64 2)) (ds:=[]) #[false,false,false,false,false,false,false,false,false,false,false,false,false,false,false,false,false,false,false,false,false,false,false,false,false] kr rfl rfl ⟨(blk_cell Hs_18.out 0).trans rfl,(blk_cell Hs_18.out 1).trans rfl,(blk_cell Ha_16.out 0).trans rfl,(blk_cell Ha_16.out 1).trans rfl,(blk_cell Hr_14.out 0).trans rfl,(blk_cell Hr_14.out 1).trans rfl⟩ (fun hHeld => ?_);refine with_tabW R27_13.tab R27_13.bits (fun HT_ HW_ => ?_)
 generalize ((w12.alloc (.cells #[.slice A5 rooms.length c5,.slice A6 stirs.length c6] 32))).drew = wd at HB22 Hb_20 Hs_18 Ha_16 Hr_14 Hq_13 Hf_12 Ho_11 Hl_8 Hh_7 Hk_5 hHeld ⊢
 refine pA 0 (some 122) ?_ 25 1 HT_.out ?_ ?_ ?_ ?_
 rotate_left
 ·intro w'
  go_simp
  with_reducible rfl
 rotate_left
 ·exact vs
 refine one_ (i:=1) (N:=(some 123)) (ab 25 3) rfl rfl (one_of HT_.out kr) (by decide) (fun K hK => ?_)
 refine goes_ Tryz.func52 kr rfl #[.int .i64 15,.int .i64 2] (by rfl) rfl rfl vm ?_
 refine (ex_frac _ _ _).mono ?_
 rintro e wd0 ⟨rfl,hb⟩
 have HB23:=am (below_then HB22.out (below_size HB22.out) hb)
 have Hb_21:=am (Kd.C_below Hb_20.out hb)
 have Hs_19:=am (blk_below Hs_18.out hb)
 have Ha_17:=am (blk_below Ha_16.out hb)
 have Hr_15:=am (blk_below Hr_14.out hb)
 have Hq_14:=am (Kd.C_below Hq_13.out hb)
 have Hf_13:=am (blk_below Hf_12.out hb)
 have Ho_12:=am (blk_below Ho_11.out hb)
 have Hl_9:=am (blk_below Hl_8.out hb)
 have Hh_8:=am (blk_below Hh_7.out hb)
 have Hk_6:=am (Kd.C_below Hk_5.out hb)
 clear hb
 refine ⟨_,rfl,?_⟩
 refine hK.out _ _ ⟨(blk_cell Hs_19.out 0).trans rfl,(blk_cell Hs_19.out 1).trans rfl,(blk_cell Ha_17.out 0).trans rfl,(blk_cell Ha_17.out 1).trans rfl,(blk_cell Hr_15.out 0).trans rfl,(blk_cell Hr_15.out 1).trans rfl⟩ (fun hHeld => ?_)
 clear hK K
 refine norm_ (a':=?_) ?_ ?_
 rotate_left
 ·show Act.put _ (some 123) _ = _;exact vs
 refine pA 2 (some 124) ?_ 25 7 HT_.out ?_ ?_ ?_ ?_
 rotate_left
 ·intro w'
  go_simp
  with_reducible rfl
 rotate_left
 ·exact vs
 refine one_ (i:=3) (N:=(some 125)) (ab 25 15) rfl rfl (one_of HT_.out kr) (by decide) (fun K hK => ?_)
 refine goes_ Tryz.func52 kr rfl #[.int .i64 15,.int .i64 2] (by rfl) rfl rfl vm ?_
 refine (ex_frac _ _ _).mono ?_
 rintro e wd1 ⟨rfl,hb⟩
 have HB24:=am (below_then HB23.out (below_size HB23.out) hb)
 have Hb_22:=am (Kd.C_below Hb_21.out hb)
 have Hs_20:=am (blk_below Hs_19.out hb)
 have Ha_18:=am (blk_below Ha_17.out hb)
 have Hr_16:=am (blk_below Hr_15.out hb)
 have Hq_15:=am (Kd.C_below Hq_14.out hb)
 have Hf_14:=am (blk_below Hf_13.out hb)
 have Ho_13:=am (blk_below Ho_12.out hb)
 have Hl_10:=am (blk_below Hl_9.out hb)
 have Hh_9:=am (blk_below Hh_8.out hb)
 have Hk_7:=am (Kd.C_below Hk_6.out hb)
 clear hb
 refine ⟨_,rfl,?_⟩
 refine hK.out _ _ ⟨(blk_cell Hs_20.out 0).trans rfl,(blk_cell Hs_20.out 1).trans rfl,(blk_cell Ha_18.out 0).trans rfl,(blk_cell Ha_18.out 1).trans rfl,(blk_cell Hr_16.out 0).trans rfl,(blk_cell Hr_16.out 1).trans rfl⟩ (fun hHeld => ?_)
 clear hK K
 refine norm_ (a':=?_) ?_ ?_
 rotate_left
 ·show Act.put _ (some 125) _ = _;exact vs
 refine pA 4 (some 126) ?_ 25 31 HT_.out ?_ ?_ ?_ ?_
 rotate_left
 ·intro w'
  go_simp
  with_reducible rfl
 rotate_left
 ·exact vs
 refine one_ (i:=5) (N:=(some 127)) (ab 25 63) rfl rfl (one_of HT_.out kr) (by decide) (fun K hK => ?_)
 refine goes_ Tryz.func52 kr rfl #[.int .i64 3,.int .i64 1] (by rfl) rfl rfl vm ?_
 refine (ex_frac _ _ _).mono ?_
 rintro e wd2 ⟨rfl,hb⟩
 have HB25:=am (below_then HB24.out (below_size HB24.out) hb)
 have Hb_23:=am (Kd.C_below Hb_22.out hb)
 have Hs_21:=am (blk_below Hs_20.out hb)
 have Ha_19:=am (blk_below Ha_18.out hb)
 have Hr_17:=am (blk_below Hr_16.out hb)
 have Hq_16:=am (Kd.C_below Hq_15.out hb)
 have Hf_15:=am (blk_below Hf_14.out hb)
 have Ho_14:=am (blk_below Ho_13.out hb)
 have Hl_11:=am (blk_below Hl_10.out hb)
 have Hh_10:=am (blk_below Hh_9.out hb)
 have Hk_8:=am (Kd.C_below Hk_7.out hb)
 clear hb
 refine ⟨_,rfl,?_⟩
 refine hK.out _ _ ⟨(blk_cell Hs_21.out 0).trans rfl,(blk_cell Hs_21.out 1).trans rfl,(blk_cell Ha_19.out 0).trans rfl,(blk_cell Ha_19.out 1).trans rfl,(blk_cell Hr_17.out 0).trans rfl,(blk_cell Hr_17.out 1).trans rfl⟩ (fun hHeld => ?_)
 clear hK K
 refine norm_ (a':=?_) ?_ ?_
 rotate_left
 ·show Act.put _ (some 127) _ = _;exact vs
 refine pA 6 (some 128) ?_ 25 127 HT_.out ?_ ?_ ?_ ?_
 rotate_left
 ·intro w'
  go_simp
  with_reducible rfl
 rotate_left
 ·exact vs
 refine one_ (i:=7) (N:=(some 129)) (ab 25 255) rfl rfl (one_of HT_.out kr) (by decide) (fun K hK => ?_)
 refine value_ (w1:=?_) (v:=?_) (by rfl) rfl ?_ ?_
 rotate_left 2
 ·go_simp
  constructor
  ·rfl
  ·rfl
 have HB26:=am (below_alloc HB25.out (.cells #[.int .i64 1,.int .i64 15,.int .i64 2,.int .i64 2,.int .i64 15,.int .i64 2,.int .i64 3,.int .i64 3,.int .i64 1] 89))
 have Hb_24:=am (Kd.C_alloc Hb_23.out (.cells #[.int .i64 1,.int .i64 15,.int .i64 2,.int .i64 2,.int .i64 15,.int .i64 2,.int .i64 3,.int .i64 3,.int .i64 1] 89))
 have Hs_22:=am (blk_alloc Hs_21.out (.cells #[.int .i64 1,.int .i64 15,.int .i64 2,.int .i64 2,.int .i64 15,.int .i64 2,.int .i64 3,.int .i64 3,.int .i64 1] 89))
 have Ha_20:=am (blk_alloc Ha_19.out (.cells #[.int .i64 1,.int .i64 15,.int .i64 2,.int .i64 2,.int .i64 15,.int .i64 2,.int .i64 3,.int .i64 3,.int .i64 1] 89))
 have Hr_18:=am (blk_alloc Hr_17.out (.cells #[.int .i64 1,.int .i64 15,.int .i64 2,.int .i64 2,.int .i64 15,.int .i64 2,.int .i64 3,.int .i64 3,.int .i64 1] 89))
 have Hq_17:=am (Kd.C_alloc Hq_16.out (.cells #[.int .i64 1,.int .i64 15,.int .i64 2,.int .i64 2,.int .i64 15,.int .i64 2,.int .i64 3,.int .i64 3,.int .i64 1] 89))
 have Hf_16:=am (blk_alloc Hf_15.out (.cells #[.int .i64 1,.int .i64 15,.int .i64 2,.int .i64 2,.int .i64 15,.int .i64 2,.int .i64 3,.int .i64 3,.int .i64 1] 89))
 have Ho_15:=am (blk_alloc Ho_14.out (.cells #[.int .i64 1,.int .i64 15,.int .i64 2,.int .i64 2,.int .i64 15,.int .i64 2,.int .i64 3,.int .i64 3,.int .i64 1] 89))
 have Hl_12:=am (blk_alloc Hl_11.out (.cells #[.int .i64 1,.int .i64 15,.int .i64 2,.int .i64 2,.int .i64 15,.int .i64 2,.int .i64 3,.int .i64 3,.int .i64 1] 89))
 have Hh_11:=am (blk_alloc Hh_10.out (.cells #[.int .i64 1,.int .i64 15,.int .i64 2,.int .i64 2,.int .i64 15,.int .i64 2,.int .i64 3,.int .i64 3,.int .i64 1] 89))
 have Hk_9:=am (Kd.C_alloc Hk_8.out (.cells #[.int .i64 1,.int .i64 15,.int .i64 2,.int .i64 2,.int .i64 15,.int .i64 2,.int .i64 3,.int .i64 3,.int .i64 1] 89))
 have Hx_:=am ((Kd.R_reads' (row89_3 wd2 ⟨1,⟨15,2⟩⟩ ⟨2,⟨15,2⟩⟩ ⟨3,⟨3,1⟩⟩)).2.2)
 refine hK.out _ _ ⟨(blk_cell Hs_22.out 0).trans rfl,(blk_cell Hs_22.out 1).trans rfl,(blk_cell Ha_20.out 0).trans rfl,(blk_cell Ha_20.out 1).trans rfl,(blk_cell Hr_18.out 0).trans rfl,(blk_cell Hr_18.out 1).trans rfl⟩ (fun hHeld => ?_)
 clear hK K
 refine norm_ (a':=?_) ?_ ?_
 rotate_left
 ·show Act.put _ (some 129) _ = _;exact vs
 refine one_ (i:=8) (N:=(some 130)) (ab 25 511) rfl rfl (one_of HT_.out kr) (by decide) (fun K hK => ?_)
 refine goes_ Tryz.func38 kr rfl #[.slice A3 pa.length c3,.slice (some ⟨wd2.heap.size,0,none⟩) 3 3] (by rfl) rfl rfl vm ?_
 refine (calxref04_SameParts.calls 100 A3 c3 pa (some ⟨wd2.heap.size,0,none⟩) 3 [(⟨1,⟨15,2⟩⟩ : S89),⟨2,⟨15,2⟩⟩,⟨3,⟨3,1⟩⟩] true _ Hb_24.out HL3.out Hx_.out (by decide) (by rw [HPA.out];kernel_rfl)).mono ?_
 rintro e w' ⟨rfl,m,rfl⟩
 have HB27:=am (pw_below_drewN HB26.out m)
 have Hs_23:=am (blk_drewN Hs_22.out m)
 have Ha_21:=am (blk_drewN Ha_20.out m)
 have Hr_19:=am (blk_drewN Hr_18.out m)
 have Hq_18:=am (Kd.C_drewN Hq_17.out m)
 have Hf_17:=am (blk_drewN Hf_16.out m)
 have Ho_16:=am (blk_drewN Ho_15.out m)
 have Hl_13:=am (blk_drewN Hl_12.out m)
 have Hh_12:=am (blk_drewN Hh_11.out m)
 have Hk_10:=am (Kd.C_drewN Hk_9.out m)
 refine ⟨_,rfl,?_⟩
 refine hK.out _ _ ⟨(blk_cell Hs_23.out 0).trans rfl,(blk_cell Hs_23.out 1).trans rfl,(blk_cell Ha_21.out 0).trans rfl,(blk_cell Ha_21.out 1).trans rfl,(blk_cell Hr_19.out 0).trans rfl,(blk_cell Hr_19.out 1).trans rfl⟩ (fun hHeld => ?_)
 clear hK K
 refine norm_ (a':=?_) ?_ ?_
 rotate_left
 ·show Act.put _ (some 130) _ = _;exact vs
 refine pA 9 (some 131) ?_ 25 1023 HT_.out ?_ ?_ ?_ ?_
 rotate_left
 ·intro w'
  go_simp
  with_reducible rfl
 rotate_left
 ·exact vs
 refine tA 10 (some 132) ?_ 25 2047 HT_.out HW_.out ?_ hHeld ?_ ?_ ?_
 rotate_left
 ·rintro w' ⟨s0,s1,s2,s3,s4,s5⟩
  go_simp
  with_reducible rfl
 rotate_left
 ·exact vs
 refine one_ (i:=11) (N:=(some 133)) (ab 25 4095) rfl rfl (one_of HT_.out kr) (by decide) (fun K hK => ?_)
 refine goes_ Tryz.func52 kr rfl #[.int .i64 1,.int .i64 6] (by rfl) rfl rfl vm ?_
 refine (ex_frac _ _ _).mono ?_
 rintro e wd5 ⟨rfl,hb⟩
 have HB28:=am (below_then HB27.out (below_size HB27.out) hb)
 have Hs_24:=am (blk_below Hs_23.out hb)
 have Ha_22:=am (blk_below Ha_21.out hb)
 have Hr_20:=am (blk_below Hr_19.out hb)
 have Hq_19:=am (Kd.C_below Hq_18.out hb)
 have Hf_18:=am (blk_below Hf_17.out hb)
 have Ho_17:=am (blk_below Ho_16.out hb)
 have Hl_14:=am (blk_below Hl_13.out hb)
 have Hh_13:=am (blk_below Hh_12.out hb)
 have Hk_11:=am (Kd.C_below Hk_10.out hb)
 clear hb
 refine ⟨_,rfl,?_⟩
 refine hK.out _ _ ⟨(blk_cell Hs_24.out 0).trans rfl,(blk_cell Hs_24.out 1).trans rfl,(blk_cell Ha_22.out 0).trans rfl,(blk_cell Ha_22.out 1).trans rfl,(blk_cell Hr_20.out 0).trans rfl,(blk_cell Hr_20.out 1).trans rfl⟩ (fun hHeld => ?_)
 clear hK K
 refine norm_ (a':=?_) ?_ ?_
 rotate_left
 ·show Act.put _ (some 133) _ = _;exact vs
 refine pA 12 (some 134) ?_ 25 8191 HT_.out ?_ ?_ ?_ ?_
 rotate_left
 ·intro w'
  go_simp
  with_reducible rfl
 rotate_left
 ·exact vs
 refine pA 13 (some 135) ?_ 25 16383 HT_.out ?_ ?_ ?_ ?_
 rotate_left
 ·intro w'
  go_simp
  with_reducible rfl
 rotate_left
 ·exact vs
 refine pA 14 (some 136) ?_ 25 32767 HT_.out ?_ ?_ ?_ ?_
 rotate_left
 ·intro w'
  go_simp
  with_reducible rfl
 rotate_left
 ·exact vs
 refine tA 15 (some 137) ?_ 25 65535 HT_.out HW_.out ?_ hHeld ?_ ?_ ?_
 rotate_left
 ·rintro w' ⟨s0,s1,s2,s3,s4,s5⟩
  go_simp
  with_reducible rfl
 rotate_left
 ·exact vs
 refine pA 16 (some 138) ?_ 25 131071 HT_.out ?_ ?_ ?_ ?_
 rotate_left
 ·intro w'
  go_simp
  with_reducible rfl
 rotate_left
 ·exact vs
 refine pA 17 (some 139) ?_ 25 262143 HT_.out ?_ ?_ ?_ ?_
 rotate_left
 ·intro w'
  go_simp
  with_reducible rfl
 rotate_left
 ·exact vs
 refine pA 18 (some 140) ?_ 25 524287 HT_.out ?_ ?_ ?_ ?_
 rotate_left
 ·intro w'
  go_simp
  with_reducible rfl
 rotate_left
 ·exact vs
 refine pA 19 (some 141) ?_ 25 1048575 HT_.out ?_ ?_ ?_ ?_
 rotate_left
 ·intro w'
  go_simp
  with_reducible rfl
 rotate_left
 ·exact vs
 refine tA 20 (some 142) ?_ 25 2097151 HT_.out HW_.out ?_ hHeld ?_ ?_ ?_
 rotate_left
 ·rintro w' ⟨s0,s1,s2,s3,s4,s5⟩
  go_simp
  with_reducible rfl
 rotate_left
 ·exact vs
 refine one_ (i:=21) (N:=(some 143)) (ab 25 4194303) rfl rfl (one_of HT_.out kr) (by decide) (fun K hK => ?_)
 refine goes_ Tryz.func52 kr rfl #[.int .i64 1,.int .i64 2] (by rfl) rfl rfl vm ?_
 refine (ex_frac _ _ _).mono ?_
 rintro e wd6 ⟨rfl,hb⟩
 have HB29:=am (below_then HB28.out (below_size HB28.out) hb)
 have Hs_25:=am (blk_below Hs_24.out hb)
 have Ha_23:=am (blk_below Ha_22.out hb)
 have Hr_21:=am (blk_below Hr_20.out hb)
 have Hq_20:=am (Kd.C_below Hq_19.out hb)
 have Hf_19:=am (blk_below Hf_18.out hb)
 have Ho_18:=am (blk_below Ho_17.out hb)
 have Hl_15:=am (blk_below Hl_14.out hb)
 have Hh_14:=am (blk_below Hh_13.out hb)
 have Hk_12:=am (Kd.C_below Hk_11.out hb)
 clear hb
 refine ⟨_,rfl,?_⟩
 refine hK.out _ _ ⟨(blk_cell Hs_25.out 0).trans rfl,(blk_cell Hs_25.out 1).trans rfl,(blk_cell Ha_23.out 0).trans rfl,(blk_cell Ha_23.out 1).trans rfl,(blk_cell Hr_21.out 0).trans rfl,(blk_cell Hr_21.out 1).trans rfl⟩ (fun hHeld => ?_)
 clear hK K
 refine norm_ (a':=?_) ?_ ?_
 rotate_left
 ·show Act.put _ (some 143) _ = _;exact vs
 refine pA 22 (some 144) ?_ 25 8388607 HT_.out ?_ ?_ ?_ ?_
 rotate_left
 ·intro w'
  go_simp
  with_reducible rfl
 rotate_left
 ·exact vs
 refine pA 23 (some 145) ?_ 25 16777215 HT_.out ?_ ?_ ?_ ?_
 rotate_left
 ·intro w'
  go_simp
  with_reducible rfl
 rotate_left
 ·exact vs
 refine pA 24 (some 25) ?_ 25 33554431 HT_.out ?_ ?_ ?_ ?_
 rotate_left
 ·intro w'
  go_simp
  with_reducible rfl
 rotate_left
 ·exact vs
 refine done_ (done_of HT_.out kr) ?_
 have HB30:=am (below_drew HB29.out)
 have Hq_21:=am (Kd.C_drew Hq_20.out)
 have Hf_20:=am (blk_drew Hf_19.out)
 have Ho_19:=am (blk_drew Ho_18.out)
 have Hl_16:=am (blk_drew Hl_15.out)
 have Hh_15:=am (blk_drew Hh_14.out)
 have Hk_13:=am (Kd.C_drew Hk_12.out)
 go_wp2
 refine start_ (n:=28) (S:=fun w' => w'.cell? ⟨w6.heap.size,0,none⟩ = some (.int .i64 15) ∧ w'.cell? ⟨w6.heap.size,1,none⟩ = some (.int .i64 2) ∧ w'.cell? ⟨w6.heap.size + 1,0,none⟩ = some (.int .i64 0) ∧ w'.cell? ⟨w6.heap.size + 1,1,none⟩ = some (.int .i64 1) ∧ w'.cell? ⟨w8.heap.size,0,none⟩ = some (.int .i64 25) ∧ w'.cell? ⟨w8.heap.size,1,none⟩ = some (.int .i64 1) ∧ w'.cell? ⟨w8.heap.size + 1,0,none⟩ = some (.int .i64 700) ∧ w'.cell? ⟨w8.heap.size + 1,1,none⟩ = some (.int .i64 3)) (ds:=[]) #[false,false,false,false,false,false,false,false,false,false,false,false,false,false,false,false,false,false,false,false,false,false,false,false,false,false,false,false] kr rfl rfl ⟨(blk_cell Hf_20.out 0).trans rfl,(blk_cell Hf_20.out 1).trans rfl,(blk_cell Ho_19.out 0).trans rfl,(blk_cell Ho_19.out 1).trans rfl,(blk_cell Hl_16.out 0).trans rfl,(blk_cell Hl_16.out 1).trans rfl,(blk_cell Hh_15.out 0).trans rfl,(blk_cell Hh_15.out 1).trans rfl⟩ (fun hHeld => ?_);refine with_tabW R27_14.tab R27_14.bits (fun HT_ HW_ => ?_)
 generalize (wd6).drew = we at HB30 Hq_21 Hf_20 Ho_19 Hl_16 Hh_15 Hk_13 hHeld ⊢
 refine pA 0 (some 146) ?_ 28 1 HT_.out ?_ ?_ ?_ ?_
 rotate_left
 ·intro w'
  go_simp
  with_reducible rfl
 rotate_left
 ·exact vs
 refine one_ (i:=1) (N:=(some 147)) (ab 28 3) rfl rfl (one_of HT_.out kr) (by decide) (fun K hK => ?_)
 refine goes_ Tryz.func52 kr rfl #[.int .i64 5,.int .i64 1] (by rfl) rfl rfl vm ?_
 refine (ex_frac _ _ _).mono ?_
 rintro e we0 ⟨rfl,hb⟩
 have HB31:=am (below_then HB30.out (below_size HB30.out) hb)
 have Hq_22:=am (Kd.C_below Hq_21.out hb)
 have Hf_21:=am (blk_below Hf_20.out hb)
 have Ho_20:=am (blk_below Ho_19.out hb)
 have Hl_17:=am (blk_below Hl_16.out hb)
 have Hh_16:=am (blk_below Hh_15.out hb)
 have Hk_14:=am (Kd.C_below Hk_13.out hb)
 clear hb
 refine ⟨_,rfl,?_⟩
 refine hK.out _ _ ⟨(blk_cell Hf_21.out 0).trans rfl,(blk_cell Hf_21.out 1).trans rfl,(blk_cell Ho_20.out 0).trans rfl,(blk_cell Ho_20.out 1).trans rfl,(blk_cell Hl_17.out 0).trans rfl,(blk_cell Hl_17.out 1).trans rfl,(blk_cell Hh_16.out 0).trans rfl,(blk_cell Hh_16.out 1).trans rfl⟩ (fun hHeld => ?_)
 clear hK K
 refine norm_ (a':=?_) ?_ ?_
 rotate_left
 ·show Act.put _ (some 147) _ = _;exact vs
 refine pA 2 (some 148) ?_ 28 7 HT_.out ?_ ?_ ?_ ?_
 rotate_left
 ·intro w'
  go_simp
  with_reducible rfl
 rotate_left
 ·exact vs
 refine one_ (i:=3) (N:=(some 149)) (ab 28 15) rfl rfl (one_of HT_.out kr) (by decide) (fun K hK => ?_)
 refine goes_ Tryz.func52 kr rfl #[.int .i64 15,.int .i64 2] (by rfl) rfl rfl vm ?_
 refine (ex_frac _ _ _).mono ?_
 rintro e we1 ⟨rfl,hb⟩
 have HB32:=am (below_then HB31.out (below_size HB31.out) hb)
 have Hq_23:=am (Kd.C_below Hq_22.out hb)
 have Hf_22:=am (blk_below Hf_21.out hb)
 have Ho_21:=am (blk_below Ho_20.out hb)
 have Hl_18:=am (blk_below Hl_17.out hb)
 have Hh_17:=am (blk_below Hh_16.out hb)
 have Hk_15:=am (Kd.C_below Hk_14.out hb)
 clear hb
 refine ⟨_,rfl,?_⟩
 refine hK.out _ _ ⟨(blk_cell Hf_22.out 0).trans rfl,(blk_cell Hf_22.out 1).trans rfl,(blk_cell Ho_21.out 0).trans rfl,(blk_cell Ho_21.out 1).trans rfl,(blk_cell Hl_18.out 0).trans rfl,(blk_cell Hl_18.out 1).trans rfl,(blk_cell Hh_17.out 0).trans rfl,(blk_cell Hh_17.out 1).trans rfl⟩ (fun hHeld => ?_)
 clear hK K
 refine norm_ (a':=?_) ?_ ?_
 rotate_left
 ·show Act.put _ (some 149) _ = _;exact vs
 refine pA 4 (some 150) ?_ 28 31 HT_.out ?_ ?_ ?_ ?_
 rotate_left
 ·intro w'
  go_simp
  with_reducible rfl
 rotate_left
 ·exact vs
 refine one_ (i:=5) (N:=(some 151)) (ab 28 63) rfl rfl (one_of HT_.out kr) (by decide) (fun K hK => ?_)
 refine value_ (w1:=?_) (v:=?_) (by rfl) rfl ?_ ?_
 rotate_left 2
 ·go_simp
  constructor
  ·rfl
  ·rfl
 have HB33:=am (below_alloc HB32.out (.cells #[.int .i64 12,.int .i64 5,.int .i64 1,.int .i64 13,.int .i64 15,.int .i64 2] 89))
 have Hq_24:=am (Kd.C_alloc Hq_23.out (.cells #[.int .i64 12,.int .i64 5,.int .i64 1,.int .i64 13,.int .i64 15,.int .i64 2] 89))
 have Hf_23:=am (blk_alloc Hf_22.out (.cells #[.int .i64 12,.int .i64 5,.int .i64 1,.int .i64 13,.int .i64 15,.int .i64 2] 89))
 have Ho_22:=am (blk_alloc Ho_21.out (.cells #[.int .i64 12,.int .i64 5,.int .i64 1,.int .i64 13,.int .i64 15,.int .i64 2] 89))
 have Hl_19:=am (blk_alloc Hl_18.out (.cells #[.int .i64 12,.int .i64 5,.int .i64 1,.int .i64 13,.int .i64 15,.int .i64 2] 89))
 have Hh_18:=am (blk_alloc Hh_17.out (.cells #[.int .i64 12,.int .i64 5,.int .i64 1,.int .i64 13,.int .i64 15,.int .i64 2] 89))
 have Hk_16:=am (Kd.C_alloc Hk_15.out (.cells #[.int .i64 12,.int .i64 5,.int .i64 1,.int .i64 13,.int .i64 15,.int .i64 2] 89))
 have Hx_:=am ((Kd.R_reads' (row89_2 we1 ⟨12,⟨5,1⟩⟩ ⟨13,⟨15,2⟩⟩)).2.2)
 refine hK.out _ _ ⟨(blk_cell Hf_23.out 0).trans rfl,(blk_cell Hf_23.out 1).trans rfl,(blk_cell Ho_22.out 0).trans rfl,(blk_cell Ho_22.out 1).trans rfl,(blk_cell Hl_19.out 0).trans rfl,(blk_cell Hl_19.out 1).trans rfl,(blk_cell Hh_18.out 0).trans rfl,(blk_cell Hh_18.out 1).trans rfl⟩ (fun hHeld => ?_)
 clear hK K
 refine norm_ (a':=?_) ?_ ?_
 rotate_left
 ·show Act.put _ (some 151) _ = _;exact vs
 refine one_ (i:=6) (N:=(some 152)) (ab 28 127) rfl rfl (one_of HT_.out kr) (by decide) (fun K hK => ?_)
 refine goes_ Tryz.func38 kr rfl #[.slice A7 pl.length c7,.slice (some ⟨we1.heap.size,0,none⟩) 2 2] (by rfl) rfl rfl vm ?_
 refine (calxref04_SameParts.calls 100 A7 c7 pl (some ⟨we1.heap.size,0,none⟩) 2 [(⟨12,⟨5,1⟩⟩ : S89),⟨13,⟨15,2⟩⟩] true _ Hq_24.out HL7.out Hx_.out (by decide) (by rw [HPL.out];kernel_rfl)).mono ?_
 rintro e w' ⟨rfl,m,rfl⟩
 have HB34:=am (pw_below_drewN HB33.out m)
 have Hf_24:=am (blk_drewN Hf_23.out m)
 have Ho_23:=am (blk_drewN Ho_22.out m)
 have Hl_20:=am (blk_drewN Hl_19.out m)
 have Hh_19:=am (blk_drewN Hh_18.out m)
 have Hk_17:=am (Kd.C_drewN Hk_16.out m)
 refine ⟨_,rfl,?_⟩
 refine hK.out _ _ ⟨(blk_cell Hf_24.out 0).trans rfl,(blk_cell Hf_24.out 1).trans rfl,(blk_cell Ho_23.out 0).trans rfl,(blk_cell Ho_23.out 1).trans rfl,(blk_cell Hl_20.out 0).trans rfl,(blk_cell Hl_20.out 1).trans rfl,(blk_cell Hh_19.out 0).trans rfl,(blk_cell Hh_19.out 1).trans rfl⟩ (fun hHeld => ?_)
 clear hK K
 refine norm_ (a':=?_) ?_ ?_
 rotate_left
 ·show Act.put _ (some 152) _ = _;exact vs
 refine pA 7 (some 153) ?_ 28 255 HT_.out ?_ ?_ ?_ ?_
 rotate_left
 ·intro w'
  go_simp
  with_reducible rfl
 rotate_left
 ·exact vs
 refine tA 8 (some 154) ?_ 28 511 HT_.out HW_.out ?_ hHeld ?_ ?_ ?_
 rotate_left
 ·rintro w' ⟨s0,s1,s2,s3,s4,s5,s6,s7⟩
  go_simp
  with_reducible rfl
 rotate_left
 ·exact vs
 refine one_ (i:=9) (N:=(some 155)) (ab 28 1023) rfl rfl (one_of HT_.out kr) (by decide) (fun K hK => ?_)
 refine goes_ Tryz.func52 kr rfl #[.int .i64 15,.int .i64 2] (by rfl) rfl rfl vm ?_
 refine (ex_frac _ _ _).mono ?_
 rintro e we4 ⟨rfl,hb⟩
 have HB35:=am (below_then HB34.out (below_size HB34.out) hb)
 have Hf_25:=am (blk_below Hf_24.out hb)
 have Ho_24:=am (blk_below Ho_23.out hb)
 have Hl_21:=am (blk_below Hl_20.out hb)
 have Hh_20:=am (blk_below Hh_19.out hb)
 have Hk_18:=am (Kd.C_below Hk_17.out hb)
 clear hb
 refine ⟨_,rfl,?_⟩
 refine hK.out _ _ ⟨(blk_cell Hf_25.out 0).trans rfl,(blk_cell Hf_25.out 1).trans rfl,(blk_cell Ho_24.out 0).trans rfl,(blk_cell Ho_24.out 1).trans rfl,(blk_cell Hl_21.out 0).trans rfl,(blk_cell Hl_21.out 1).trans rfl,(blk_cell Hh_20.out 0).trans rfl,(blk_cell Hh_20.out 1).trans rfl⟩ (fun hHeld => ?_)
 clear hK K
 refine norm_ (a':=?_) ?_ ?_
 rotate_left
 ·show Act.put _ (some 155) _ = _;exact vs
 refine pA 10 (some 156) ?_ 28 2047 HT_.out ?_ ?_ ?_ ?_
 rotate_left
 ·intro w'
  go_simp
  with_reducible rfl
 rotate_left
 ·exact vs
 refine pA 11 (some 157) ?_ 28 4095 HT_.out ?_ ?_ ?_ ?_
 rotate_left
 ·intro w'
  go_simp
  with_reducible rfl
 rotate_left
 ·exact vs
 refine pA 12 (some 158) ?_ 28 8191 HT_.out ?_ ?_ ?_ ?_
 rotate_left
 ·intro w'
  go_simp
  with_reducible rfl
 rotate_left
 ·exact vs
 refine tA 13 (some 159) ?_ 28 16383 HT_.out HW_.out ?_ hHeld ?_ ?_ ?_
 rotate_left
 ·rintro w' ⟨s0,s1,s2,s3,s4,s5,s6,s7⟩
  go_simp
  with_reducible rfl
 rotate_left
 ·exact vs
 refine one_ (i:=14) (N:=(some 160)) (ab 28 32767) rfl rfl (one_of HT_.out kr) (by decide) (fun K hK => ?_)
 refine goes_ Tryz.func52 kr rfl #[.int .i64 0,.int .i64 1] (by rfl) rfl rfl vm ?_
 refine (ex_frac _ _ _).mono ?_
 rintro e we5 ⟨rfl,hb⟩
 have HB36:=am (below_then HB35.out (below_size HB35.out) hb)
 have Hf_26:=am (blk_below Hf_25.out hb)
 have Ho_25:=am (blk_below Ho_24.out hb)
 have Hl_22:=am (blk_below Hl_21.out hb)
 have Hh_21:=am (blk_below Hh_20.out hb)
 have Hk_19:=am (Kd.C_below Hk_18.out hb)
 clear hb
 refine ⟨_,rfl,?_⟩
 refine hK.out _ _ ⟨(blk_cell Hf_26.out 0).trans rfl,(blk_cell Hf_26.out 1).trans rfl,(blk_cell Ho_25.out 0).trans rfl,(blk_cell Ho_25.out 1).trans rfl,(blk_cell Hl_22.out 0).trans rfl,(blk_cell Hl_22.out 1).trans rfl,(blk_cell Hh_21.out 0).trans rfl,(blk_cell Hh_21.out 1).trans rfl⟩ (fun hHeld => ?_)
 clear hK K
 refine norm_ (a':=?_) ?_ ?_
 rotate_left
 ·show Act.put _ (some 160) _ = _;exact vs
 refine pA 15 (some 161) ?_ 28 65535 HT_.out ?_ ?_ ?_ ?_
 rotate_left
 ·intro w'
  go_simp
  with_reducible rfl
 rotate_left
 ·exact vs
 refine pA 16 (some 162) ?_ 28 131071 HT_.out ?_ ?_ ?_ ?_
 rotate_left
 ·intro w'
  go_simp
  with_reducible rfl
 rotate_left
 ·exact vs
 refine pA 17 (some 163) ?_ 28 262143 HT_.out ?_ ?_ ?_ ?_
 rotate_left
 ·intro w'
  go_simp
  with_reducible rfl
 rotate_left
 ·exact vs
 refine tA 18 (some 164) ?_ 28 524287 HT_.out HW_.out ?_ hHeld ?_ ?_ ?_
 rotate_left
 ·rintro w' ⟨s0,s1,s2,s3,s4,s5,s6,s7⟩
  go_simp
  with_reducible rfl
 rotate_left
 ·exact vs
 refine one_ (i:=19) (N:=(some 165)) (ab 28 1048575) rfl rfl (one_of HT_.out kr) (by decide) (fun K hK => ?_)
 refine goes_ Tryz.func52 kr rfl #[.int .i64 25,.int .i64 1] (by rfl) rfl rfl vm ?_
 refine (ex_frac _ _ _).mono ?_
 rintro e we6 ⟨rfl,hb⟩
 have HB37:=am (below_then HB36.out (below_size HB36.out) hb)
 have Hf_27:=am (blk_below Hf_26.out hb)
 have Ho_26:=am (blk_below Ho_25.out hb)
 have Hl_23:=am (blk_below Hl_22.out hb)
 have Hh_22:=am (blk_below Hh_21.out hb)
 have Hk_20:=am (Kd.C_below Hk_19.out hb)
 clear hb
 refine ⟨_,rfl,?_⟩
 refine hK.out _ _ ⟨(blk_cell Hf_27.out 0).trans rfl,(blk_cell Hf_27.out 1).trans rfl,(blk_cell Ho_26.out 0).trans rfl,(blk_cell Ho_26.out 1).trans rfl,(blk_cell Hl_23.out 0).trans rfl,(blk_cell Hl_23.out 1).trans rfl,(blk_cell Hh_22.out 0).trans rfl,(blk_cell Hh_22.out 1).trans rfl⟩ (fun hHeld => ?_)
 clear hK K
 refine norm_ (a':=?_) ?_ ?_
 rotate_left
 ·show Act.put _ (some 165) _ = _;exact vs
 refine pA 20 (some 166) ?_ 28 2097151 HT_.out ?_ ?_ ?_ ?_
 rotate_left
 ·intro w'
  go_simp
  with_reducible rfl
 rotate_left
 ·exact vs
 refine pA 21 (some 167) ?_ 28 4194303 HT_.out ?_ ?_ ?_ ?_
 rotate_left
 ·intro w'
  go_simp
  with_reducible rfl
 rotate_left
 ·exact vs
 refine pA 22 (some 168) ?_ 28 8388607 HT_.out ?_ ?_ ?_ ?_
 rotate_left
 ·intro w'
  go_simp
  with_reducible rfl
 rotate_left
 ·exact vs
 refine tA 23 (some 169) ?_ 28 16777215 HT_.out HW_.out ?_ hHeld ?_ ?_ ?_
 rotate_left
 ·rintro w' ⟨s0,s1,s2,s3,s4,s5,s6,s7⟩
  go_simp
  with_reducible rfl
 rotate_left
 ·exact vs
 refine one_ (i:=24) (N:=(some 170)) (ab 28 33554431) rfl rfl (one_of HT_.out kr) (by decide) (fun K hK => ?_)
 refine goes_ Tryz.func52 kr rfl #[.int .i64 700,.int .i64 3] (by rfl) rfl rfl vm ?_
 refine (ex_frac _ _ _).mono ?_
 rintro e we7 ⟨rfl,hb⟩
 have HB38:=am (below_then HB37.out (below_size HB37.out) hb)
 have Hf_28:=am (blk_below Hf_27.out hb)
 have Ho_27:=am (blk_below Ho_26.out hb)
 have Hl_24:=am (blk_below Hl_23.out hb)
 have Hh_23:=am (blk_below Hh_22.out hb)
 have Hk_21:=am (Kd.C_below Hk_20.out hb)
 clear hb
 refine ⟨_,rfl,?_⟩
 refine hK.out _ _ ⟨(blk_cell Hf_28.out 0).trans rfl,(blk_cell Hf_28.out 1).trans rfl,(blk_cell Ho_27.out 0).trans rfl,(blk_cell Ho_27.out 1).trans rfl,(blk_cell Hl_24.out 0).trans rfl,(blk_cell Hl_24.out 1).trans rfl,(blk_cell Hh_23.out 0).trans rfl,(blk_cell Hh_23.out 1).trans rfl⟩ (fun hHeld => ?_)
 clear hK K
 refine norm_ (a':=?_) ?_ ?_
 rotate_left
 ·show Act.put _ (some 170) _ = _;exact vs
 refine pA 25 (some 171) ?_ 28 67108863 HT_.out ?_ ?_ ?_ ?_
 rotate_left
 ·intro w'
  go_simp
  with_reducible rfl
 rotate_left
 ·exact vs
 refine pA 26 (some 172) ?_ 28 134217727 HT_.out ?_ ?_ ?_ ?_
 rotate_left
 ·intro w'
  go_simp
  with_reducible rfl
 rotate_left
 ·exact vs
 refine pA 27 (some 26) ?_ 28 268435455 HT_.out ?_ ?_ ?_ ?_
 rotate_left
 ·intro w'
  go_simp
  with_reducible rfl
 rotate_left
 ·exact vs
 refine done_ (done_of HT_.out kr) ?_
 go_wp2_with fail
 refine (ex_frac _ _ _).mono ?_
 rintro e wf0 ⟨rfl,hb⟩
 have HB39:=am (below_then HB38.out (below_size HB38.out) hb)
 have Hk_22:=am (Kd.C_below Hk_21.out hb)
 clear hb
 go_wp2_with fail
 refine (ex_frac _ _ _).mono ?_
 rintro e wf1 ⟨rfl,hb⟩
 have HB40:=am (below_then HB39.out (below_size HB39.out) hb)
 have Hk_23:=am (Kd.C_below Hk_22.out hb)
 clear hb
 go_wp2_with fail
 refine (ex_frac _ _ _).mono ?_
 rintro e wf2 ⟨rfl,hb⟩
 have HB41:=am (below_then HB40.out (below_size HB40.out) hb)
 have Hk_24:=am (Kd.C_below Hk_23.out hb)
 clear hb
 go_wp2_with fail
 refine (ex_frac _ _ _).mono ?_
 rintro e wf3 ⟨rfl,hb⟩
 have HB42:=am (below_then HB41.out (below_size HB41.out) hb)
 have Hk_25:=am (Kd.C_below Hk_24.out hb)
 clear hb
 have HB43:=am (below_alloc HB42.out (.cells #[.int .i64 1,.int .i64 200,.int .i64 1,.int .i64 216,.int .i64 1,.int .i64 2,.int .i64 200,.int .i64 1,.int .i64 216,.int .i64 1] 139))
 have Hk_26:=am (Kd.C_alloc Hk_25.out (.cells #[.int .i64 1,.int .i64 200,.int .i64 1,.int .i64 216,.int .i64 1,.int .i64 2,.int .i64 200,.int .i64 1,.int .i64 216,.int .i64 1] 139))
 have HXK:=am (Kd.R_reads' (row139_2 wf3 ⟨1,⟨200,1⟩,⟨216,1⟩⟩ ⟨2,⟨200,1⟩,⟨216,1⟩⟩)).2.2
 go_wp2_with fail
 refine (calxref04_SameBlames.calls 100 A9 c9 pk (some ⟨wf3.heap.size,0,none⟩) 2 [(⟨1,⟨200,1⟩,⟨216,1⟩⟩ : S139),⟨2,⟨200,1⟩,⟨216,1⟩⟩] true _ Hk_26.out HL9.out HXK.out (by decide) (by rw [HPK.out];kernel_rfl)).mono ?_
 rintro e w' ⟨rfl,m,rfl⟩
 have HB44:=am (pw_below_drewN HB43.out m)
 go_wp2
 go_ret
 exact ⟨rfl,HB44.out⟩
end
def pit_Compare.f (k : Nat) (a0_0 : Int) (a0_1 : Int) (a1_0 : Int) (a1_1 : Int) : Option (Int × Int):=(pit_valid.f k a0_0 a0_1).bind fun t103 => (if t103 = true then ((pit_valid.f k a1_0 a1_1).bind fun t104 => (if t104 = true then ((pit_compare.f a0_0 a0_1 a1_0 a1_1).bind fun t105 => (some (t105,0))) else (some (0,1)))) else (some (0,1)))
set_option maxHeartbeats 8000000 in
set_option maxRecDepth 100000 in
theorem pit_Compare.calls (k : Nat) (a0_0 : Int) (a0_1 : Int) (a1_0 : Int) (a1_1 : Int) (r1 : Int) (r2 : Int) (w : World) (h : pit_Compare.f k a0_0 a0_1 a1_0 a1_1 = some (r1,r2)) :
  Calls Tryz.prog 23 #[.agg #[.int .i64 a0_0,.int .i64 a0_1],.agg #[.int .i64 a1_0,.int .i64 a1_1]] w fun e w' => e = .returned (.tuple #[.int .i64 r1,.int .i64 r2]) ∧ Below w.heap.size w w':=by
 have hu43:=Tryz.underlying43
 have HB:=am (Below.refl w.heap.size w)
 have H : ((pit_valid.f k a0_0 a0_1).bind fun t103 => (if t103 = true then ((pit_valid.f k a1_0 a1_1).bind fun t104 => (if t104 = true then ((pit_compare.f a0_0 a0_1 a1_0 a1_1).bind fun t105 => (some (t105,0))) else (some (0,1)))) else (some (0,1)))) = some (r1,r2):=h
 clear h
 replace H:=Option.bind_eq_some_iff.mp H
 obtain ⟨t103,A30,H⟩:=H
 replace H : (if t103 = true then ((pit_valid.f k a1_0 a1_1).bind fun t104 => (if t104 = true then ((pit_compare.f a0_0 a0_1 a1_0 a1_1).bind fun t105 => (some (t105,0))) else (some (0,1)))) else (some (0,1))) = some (r1,r2):=H
 have A3:=am A30
 clear A30
 by_cases c4 : t103 = true
 ·subst c4
  have H1 : ((pit_valid.f k a1_0 a1_1).bind fun t104 => (if t104 = true then ((pit_compare.f a0_0 a0_1 a1_0 a1_1).bind fun t105 => (some (t105,0))) else (some (0,1)))) = some (r1,r2):=by rw [if_pos rfl] at H;exact H
  clear H
  have H:=H1
  clear H1
  replace H:=Option.bind_eq_some_iff.mp H
  obtain ⟨t104,A50,H⟩:=H
  replace H : (if t104 = true then ((pit_compare.f a0_0 a0_1 a1_0 a1_1).bind fun t105 => (some (t105,0))) else (some (0,1))) = some (r1,r2):=H
  have A5:=am A50
  clear A50
  by_cases c6 : t104 = true
  ·subst c6
   have H1 : ((pit_compare.f a0_0 a0_1 a1_0 a1_1).bind fun t105 => (some (t105,0))) = some (r1,r2):=by rw [if_pos rfl] at H;exact H
   clear H
   have H:=H1
   clear H1
   replace H:=Option.bind_eq_some_iff.mp H
   obtain ⟨t105,A70,H⟩:=H
   replace H : (some (t105,0)) = some (r1,r2):=H
   have A7:=am A70
   clear A70
   simp only [Option.some.injEq,Prod.mk.injEq] at H
   obtain ⟨rfl,rfl⟩:=H
   go_enter Tryz.func23,Tryz.ntmps23
   go_wp2_with (first|((with_reducible refine gate_dst (N:=2) rfl ?_);refine box_event ?hg (N:=2) ?hd (cs:=#[.int .i64 a0_0,.int .i64 a0_1]) (t:=43) ?hr ?_;(case hd => rfl);(case hg => rfl);(case hr => first|(go_simp;done)|(go_simp;rfl));intro gb101 hg w8 hbox hb;have n0_:=am (below_step (v0 HB.out) hb);have n1_:=am (hbox);have n2_:=am ((by rw [hg];exact (below_size (v0 HB.out)) : w.heap.size ≤ gb101));have n3_:=am ((by rw [hg];exact (below_size (v0 HB.out)) : w.heap.size ≤ gb101));clear HB;have HB:=n0_;have BK101:=n1_;have GW101:=n2_;have GE101:=n3_;clear n0_ n1_ n2_ n3_;clear hb hbox hg)|((with_reducible refine gate_dst (N:=3) rfl ?_);refine box_event ?hg (N:=3) ?hd (cs:=#[.int .i64 a1_0,.int .i64 a1_1]) (t:=43) ?hr ?_;(case hd => rfl);(case hg => rfl);(case hr => first|(go_simp;done)|(go_simp;rfl));intro gb102 hg w9 hbox hb;have n0_:=am (blk_below (g:=gb101) (o:=.cells #[.int .i64 a0_0,.int .i64 a0_1] 43 (0,0)) (vb BK101.out) hb);have n1_:=am (below_step (v1 HB.out GE101.out) hb);have n2_:=am (hbox);have n3_:=am ((by rw [hg];exact (below_size (v1 HB.out GE101.out)) : w.heap.size ≤ gb102));have n4_:=am ((by rw [hg];exact (below_size (v1 HB.out GE101.out)) : w.heap.size ≤ gb102));have n5_:=am ((by rw [hg];exact Nat.ne_of_lt (blk_lt (g:=gb101) (o:=.cells #[.int .i64 a0_0,.int .i64 a0_1] 43 (0,0)) (vb BK101.out)) : gb101 ≠ gb102));have n6_:=am ((by rw [hg];exact Nat.ne_of_gt (blk_lt (g:=gb101) (o:=.cells #[.int .i64 a0_0,.int .i64 a0_1] 43 (0,0)) (vb BK101.out)) : gb102 ≠ gb101));clear BK101;clear HB;have BK101:=n0_;have HB:=n1_;have BK102:=n2_;have GW102:=n3_;have GE102:=n4_;have NB101_102:=n5_;have NB102_101:=n6_;clear n0_ n1_ n2_ n3_ n4_ n5_ n6_;clear hb hbox hg;have hnb10:=NB101_102.out;have hnc10:=NB102_101.out;have hcz11_0:=bc BK101.out 0 (.int .i64 a0_0);have hcz11_1:=bc BK101.out 1 (.int .i64 a0_1);have hfz11_0:=blk_frozen BK101.out 0;have hfz11_1:=blk_frozen BK101.out 1)|((with_reducible refine gate_callee (f:=89) rfl ?_);refine goesL_ (some 7) rfl rfl Tryz.func89 kr rfl #[.agg #[.int .i64 a0_0,.int .i64 a0_1]] rfl vm ?_;(with_reducible refine (pit_valid.calls k a0_0 a0_1 true _ A3.out).mono ?_);rintro e w12 ⟨rfl,hb⟩;refine ⟨_,rfl,?_⟩;have n0_:=am (blk_below (g:=gb101) (o:=.cells #[.int .i64 a0_0,.int .i64 a0_1] 43 (0,0)) (vb BK101.out) hb);have n1_:=am (blk_below (g:=gb102) (o:=.cells #[.int .i64 a1_0,.int .i64 a1_1] 43 (0,0)) (vb BK102.out) hb);have n2_:=am (below_step (v2 HB.out GE101.out GE102.out) hb);clear BK101;clear BK102;clear HB;have BK101:=n0_;have BK102:=n1_;have HB:=n2_;clear n0_ n1_ n2_;(try clear hb);(try clear hb2);(try clear hk);(try clear hi);have hcz13_0:=bc BK102.out 0 (.int .i64 a1_0);have hcz13_1:=bc BK102.out 1 (.int .i64 a1_1);have hfz13_0:=blk_frozen BK102.out 0;have hfz13_1:=blk_frozen BK102.out 1)|(go_at_call 89;(with_reducible refine (pit_valid.calls k a1_0 a1_1 true _ A5.out).mono ?_);rintro e w14 ⟨rfl,hb⟩;have n0_:=am (blk_below (g:=gb101) (o:=.cells #[.int .i64 a0_0,.int .i64 a0_1] 43 (0,0)) (vb BK101.out) hb);have n1_:=am (blk_below (g:=gb102) (o:=.cells #[.int .i64 a1_0,.int .i64 a1_1] 43 (0,0)) (vb BK102.out) hb);have n2_:=am (below_step (v2 HB.out GE101.out GE102.out) hb);clear BK101;clear BK102;clear HB;have BK101:=n0_;have BK102:=n1_;have HB:=n2_;clear n0_ n1_ n2_;(try clear hb);(try clear hb2);(try clear hk);(try clear hi);have hcz15_0:=bc BK101.out 0 (.int .i64 a0_0);have hcz15_1:=bc BK101.out 1 (.int .i64 a0_1);have hfz15_0:=blk_frozen BK101.out 0;have hfz15_1:=blk_frozen BK101.out 1;have hcz16_0:=bc BK102.out 0 (.int .i64 a1_0);have hcz16_1:=bc BK102.out 1 (.int .i64 a1_1);have hfz16_0:=blk_frozen BK102.out 0;have hfz16_1:=blk_frozen BK102.out 1)|((with_reducible refine gate_callee (f:=91) rfl ?_);refine goesL_ (some 16) rfl rfl Tryz.func91 kr rfl #[.agg #[.int .i64 a0_0,.int .i64 a0_1],.agg #[.int .i64 a1_0,.int .i64 a1_1]] rfl vm ?_;(with_reducible refine (pit_compare.calls a0_0 a0_1 a1_0 a1_1 t105 _ A7.out).mono ?_);rintro e w17 ⟨rfl,hb⟩;refine ⟨_,rfl,?_⟩;have n0_:=am (blk_below (g:=gb101) (o:=.cells #[.int .i64 a0_0,.int .i64 a0_1] 43 (0,0)) (vb BK101.out) hb);have n1_:=am (blk_below (g:=gb102) (o:=.cells #[.int .i64 a1_0,.int .i64 a1_1] 43 (0,0)) (vb BK102.out) hb);have n2_:=am (below_step (v2 HB.out GE101.out GE102.out) hb);clear BK101;clear BK102;clear HB;have BK101:=n0_;have BK102:=n1_;have HB:=n2_;clear n0_ n1_ n2_;(try clear hb);(try clear hb2);(try clear hk);(try clear hi)))
   go_ret2
   exact ⟨vf,v2 HB.out GE101.out GE102.out⟩
  ·replace c6:=Bool.eq_false_iff.mpr c6
   subst c6
   have H1 : (some (0,1)) = some (r1,r2):=by rw [if_neg (show ¬ (false = true) by decide)] at H;exact H
   clear H
   have H:=H1
   clear H1
   simp only [Option.some.injEq,Prod.mk.injEq] at H
   obtain ⟨rfl,rfl⟩:=H
   go_enter Tryz.func23,Tryz.ntmps23
   go_wp2_with (first|((with_reducible refine gate_dst (N:=2) rfl ?_);refine box_event ?hg (N:=2) ?hd (cs:=#[.int .i64 a0_0,.int .i64 a0_1]) (t:=43) ?hr ?_;(case hd => rfl);(case hg => rfl);(case hr => first|(go_simp;done)|(go_simp;rfl));intro gb101 hg w18 hbox hb;have n0_:=am (below_step (v0 HB.out) hb);have n1_:=am (hbox);have n2_:=am ((by rw [hg];exact (below_size (v0 HB.out)) : w.heap.size ≤ gb101));have n3_:=am ((by rw [hg];exact (below_size (v0 HB.out)) : w.heap.size ≤ gb101));clear HB;have HB:=n0_;have BK101:=n1_;have GW101:=n2_;have GE101:=n3_;clear n0_ n1_ n2_ n3_;clear hb hbox hg)|((with_reducible refine gate_dst (N:=3) rfl ?_);refine box_event ?hg (N:=3) ?hd (cs:=#[.int .i64 a1_0,.int .i64 a1_1]) (t:=43) ?hr ?_;(case hd => rfl);(case hg => rfl);(case hr => first|(go_simp;done)|(go_simp;rfl));intro gb102 hg w19 hbox hb;have n0_:=am (blk_below (g:=gb101) (o:=.cells #[.int .i64 a0_0,.int .i64 a0_1] 43 (0,0)) (vb BK101.out) hb);have n1_:=am (below_step (v1 HB.out GE101.out) hb);have n2_:=am (hbox);have n3_:=am ((by rw [hg];exact (below_size (v1 HB.out GE101.out)) : w.heap.size ≤ gb102));have n4_:=am ((by rw [hg];exact (below_size (v1 HB.out GE101.out)) : w.heap.size ≤ gb102));have n5_:=am ((by rw [hg];exact Nat.ne_of_lt (blk_lt (g:=gb101) (o:=.cells #[.int .i64 a0_0,.int .i64 a0_1] 43 (0,0)) (vb BK101.out)) : gb101 ≠ gb102));have n6_:=am ((by rw [hg];exact Nat.ne_of_gt (blk_lt (g:=gb101) (o:=.cells #[.int .i64 a0_0,.int .i64 a0_1] 43 (0,0)) (vb BK101.out)) : gb102 ≠ gb101));clear BK101;clear HB;have BK101:=n0_;have HB:=n1_;have BK102:=n2_;have GW102:=n3_;have GE102:=n4_;have NB101_102:=n5_;have NB102_101:=n6_;clear n0_ n1_ n2_ n3_ n4_ n5_ n6_;clear hb hbox hg;have hnb20:=NB101_102.out;have hnc20:=NB102_101.out;have hcz21_0:=bc BK101.out 0 (.int .i64 a0_0);have hcz21_1:=bc BK101.out 1 (.int .i64 a0_1);have hfz21_0:=blk_frozen BK101.out 0;have hfz21_1:=blk_frozen BK101.out 1)|((with_reducible refine gate_callee (f:=89) rfl ?_);refine goesL_ (some 7) rfl rfl Tryz.func89 kr rfl #[.agg #[.int .i64 a0_0,.int .i64 a0_1]] rfl vm ?_;(with_reducible refine (pit_valid.calls k a0_0 a0_1 true _ A3.out).mono ?_);rintro e w22 ⟨rfl,hb⟩;refine ⟨_,rfl,?_⟩;have n0_:=am (blk_below (g:=gb101) (o:=.cells #[.int .i64 a0_0,.int .i64 a0_1] 43 (0,0)) (vb BK101.out) hb);have n1_:=am (blk_below (g:=gb102) (o:=.cells #[.int .i64 a1_0,.int .i64 a1_1] 43 (0,0)) (vb BK102.out) hb);have n2_:=am (below_step (v2 HB.out GE101.out GE102.out) hb);clear BK101;clear BK102;clear HB;have BK101:=n0_;have BK102:=n1_;have HB:=n2_;clear n0_ n1_ n2_;(try clear hb);(try clear hb2);(try clear hk);(try clear hi);have hcz23_0:=bc BK102.out 0 (.int .i64 a1_0);have hcz23_1:=bc BK102.out 1 (.int .i64 a1_1);have hfz23_0:=blk_frozen BK102.out 0;have hfz23_1:=blk_frozen BK102.out 1)|(go_at_call 89;(with_reducible refine (pit_valid.calls k a1_0 a1_1 false _ A5.out).mono ?_);rintro e w24 ⟨rfl,hb⟩;have n0_:=am (blk_below (g:=gb101) (o:=.cells #[.int .i64 a0_0,.int .i64 a0_1] 43 (0,0)) (vb BK101.out) hb);have n1_:=am (blk_below (g:=gb102) (o:=.cells #[.int .i64 a1_0,.int .i64 a1_1] 43 (0,0)) (vb BK102.out) hb);have n2_:=am (below_step (v2 HB.out GE101.out GE102.out) hb);clear BK101;clear BK102;clear HB;have BK101:=n0_;have BK102:=n1_;have HB:=n2_;clear n0_ n1_ n2_;(try clear hb);(try clear hb2);(try clear hk);(try clear hi)))
   go_ret2
   exact ⟨vf,v2 HB.out GE101.out GE102.out⟩
 ·replace c4:=Bool.eq_false_iff.mpr c4
  subst c4
  have H1 : (some (0,1)) = some (r1,r2):=by rw [if_neg (show ¬ (false = true) by decide)] at H;exact H
  clear H
  have H:=H1
  clear H1
  simp only [Option.some.injEq,Prod.mk.injEq] at H
  obtain ⟨rfl,rfl⟩:=H
  go_enter Tryz.func23,Tryz.ntmps23
  go_wp2_with (first|((with_reducible refine gate_dst (N:=2) rfl ?_);refine box_event ?hg (N:=2) ?hd (cs:=#[.int .i64 a0_0,.int .i64 a0_1]) (t:=43) ?hr ?_;(case hd => rfl);(case hg => rfl);(case hr => first|(go_simp;done)|(go_simp;rfl));intro gb101 hg w25 hbox hb;have n0_:=am (below_step (v0 HB.out) hb);have n1_:=am (hbox);have n2_:=am ((by rw [hg];exact (below_size (v0 HB.out)) : w.heap.size ≤ gb101));have n3_:=am ((by rw [hg];exact (below_size (v0 HB.out)) : w.heap.size ≤ gb101));clear HB;have HB:=n0_;have BK101:=n1_;have GW101:=n2_;have GE101:=n3_;clear n0_ n1_ n2_ n3_;clear hb hbox hg)|((with_reducible refine gate_dst (N:=3) rfl ?_);refine box_event ?hg (N:=3) ?hd (cs:=#[.int .i64 a1_0,.int .i64 a1_1]) (t:=43) ?hr ?_;(case hd => rfl);(case hg => rfl);(case hr => first|(go_simp;done)|(go_simp;rfl));intro gb102 hg w26 hbox hb;have n0_:=am (blk_below (g:=gb101) (o:=.cells #[.int .i64 a0_0,.int .i64 a0_1] 43 (0,0)) (vb BK101.out) hb);have n1_:=am (below_step (v1 HB.out GE101.out) hb);have n2_:=am (hbox);have n3_:=am ((by rw [hg];exact (below_size (v1 HB.out GE101.out)) : w.heap.size ≤ gb102));have n4_:=am ((by rw [hg];exact (below_size (v1 HB.out GE101.out)) : w.heap.size ≤ gb102));have n5_:=am ((by rw [hg];exact Nat.ne_of_lt (blk_lt (g:=gb101) (o:=.cells #[.int .i64 a0_0,.int .i64 a0_1] 43 (0,0)) (vb BK101.out)) : gb101 ≠ gb102));have n6_:=am ((by rw [hg];exact Nat.ne_of_gt (blk_lt (g:=gb101) (o:=.cells #[.int .i64 a0_0,.int .i64 a0_1] 43 (0,0)) (vb BK101.out)) : gb102 ≠ gb101));clear BK101;clear HB;have BK101:=n0_;have HB:=n1_;have BK102:=n2_;have GW102:=n3_;have GE102:=n4_;have NB101_102:=n5_;have NB102_101:=n6_;clear n0_ n1_ n2_ n3_ n4_ n5_ n6_;clear hb hbox hg;have hnb27:=NB101_102.out;have hnc27:=NB102_101.out;have hcz28_0:=bc BK101.out 0 (.int .i64 a0_0);have hcz28_1:=bc BK101.out 1 (.int .i64 a0_1);have hfz28_0:=blk_frozen BK101.out 0;have hfz28_1:=blk_frozen BK101.out 1)|((with_reducible refine gate_callee (f:=89) rfl ?_);refine goesL_ (some 7) rfl rfl Tryz.func89 kr rfl #[.agg #[.int .i64 a0_0,.int .i64 a0_1]] rfl vm ?_;(with_reducible refine (pit_valid.calls k a0_0 a0_1 false _ A3.out).mono ?_);rintro e w29 ⟨rfl,hb⟩;refine ⟨_,rfl,?_⟩;have n0_:=am (blk_below (g:=gb101) (o:=.cells #[.int .i64 a0_0,.int .i64 a0_1] 43 (0,0)) (vb BK101.out) hb);have n1_:=am (blk_below (g:=gb102) (o:=.cells #[.int .i64 a1_0,.int .i64 a1_1] 43 (0,0)) (vb BK102.out) hb);have n2_:=am (below_step (v2 HB.out GE101.out GE102.out) hb);clear BK101;clear BK102;clear HB;have BK101:=n0_;have BK102:=n1_;have HB:=n2_;clear n0_ n1_ n2_;(try clear hb);(try clear hb2);(try clear hk);(try clear hi)))
  go_ret2
  exact ⟨vf,v2 HB.out GE101.out GE102.out⟩
def pit_Add.j0 : Nat → Bool → Int → Int → Int → Int → Option (Int × Int × Int)
|0,_,_,_,_,_ => none
|k + 1,x13,x102000,x102001,x103000,x103001 => if x13 = true then (some (0,0,1)) else ((pit_add.f k x102000 x102001 x103000 x103001).bind fun bt106 => ((pit_result.f k bt106.1 bt106.2).bind fun bt108 => (some (bt108.1,bt108.2.1,bt108.2.2))))
def pit_Add.f (k : Nat) (a0_0 : Int) (a0_1 : Int) (a1_0 : Int) (a1_1 : Int) : Option (Int × Int × Int):=(pit_valid.f k a0_0 a0_1).bind fun t104 => (if t104 = true then ((pit_valid.f k a1_0 a1_1).bind fun t105 => (pit_Add.j0 k (!t105) a0_0 a0_1 a1_0 a1_1)) else (pit_Add.j0 k true a0_0 a0_1 a1_0 a1_1))
set_option maxHeartbeats 8000000 in
set_option maxRecDepth 100000 in
theorem pit_Add.calls (k : Nat) (a0_0 : Int) (a0_1 : Int) (a1_0 : Int) (a1_1 : Int) (r1 : Int) (r2 : Int) (r3 : Int) (w : World) (h : pit_Add.f k a0_0 a0_1 a1_0 a1_1 = some (r1,r2,r3)) :
  Calls Tryz.prog 24 #[.agg #[.int .i64 a0_0,.int .i64 a0_1],.agg #[.int .i64 a1_0,.int .i64 a1_1]] w fun e w' => e = .returned (.tuple #[.agg #[.int .i64 r1,.int .i64 r2],.int .i64 r3]) ∧ Below w.heap.size w w':=by
 have hu43:=Tryz.underlying43
 have HB:=am (Below.refl w.heap.size w)
 have H : ((pit_valid.f k a0_0 a0_1).bind fun t104 => (if t104 = true then ((pit_valid.f k a1_0 a1_1).bind fun t105 => (pit_Add.j0 k (!t105) a0_0 a0_1 a1_0 a1_1)) else (pit_Add.j0 k true a0_0 a0_1 a1_0 a1_1))) = some (r1,r2,r3):=h
 clear h
 have HC3:=am H
 clear H
 go_enter Tryz.func24,Tryz.ntmps24
 go_upto_region 1 with (first|((with_reducible refine gate_dst (N:=2) rfl ?_);refine box_event ?hg (N:=2) ?hd (cs:=#[.int .i64 a0_0,.int .i64 a0_1]) (t:=43) ?hr ?_;(case hd => rfl);(case hg => rfl);(case hr => first|(go_simp;done)|(go_simp;rfl));intro gb101 hg w4 hbox hb;have n0_:=am (below_step (v0 HB.out) hb);have n1_:=am (hbox);have n2_:=am ((by rw [hg];exact (below_size (v0 HB.out)) : w.heap.size ≤ gb101));have n3_:=am ((by rw [hg];exact (below_size (v0 HB.out)) : w.heap.size ≤ gb101));clear HB;have HB:=n0_;have BK101:=n1_;have GW101:=n2_;have GE101:=n3_;clear n0_ n1_ n2_ n3_;clear hb hbox hg)|((with_reducible refine gate_dst (N:=3) rfl ?_);refine box_event ?hg (N:=3) ?hd (cs:=#[.int .i64 a1_0,.int .i64 a1_1]) (t:=43) ?hr ?_;(case hd => rfl);(case hg => rfl);(case hr => first|(go_simp;done)|(go_simp;rfl));intro gb102 hg w5 hbox hb;have n0_:=am (blk_below (g:=gb101) (o:=.cells #[.int .i64 a0_0,.int .i64 a0_1] 43 (0,0)) (vb BK101.out) hb);have n1_:=am (below_step (v1 HB.out GE101.out) hb);have n2_:=am (hbox);have n3_:=am ((by rw [hg];exact (below_size (v1 HB.out GE101.out)) : w.heap.size ≤ gb102));have n4_:=am ((by rw [hg];exact (below_size (v1 HB.out GE101.out)) : w.heap.size ≤ gb102));have n5_:=am ((by rw [hg];exact Nat.ne_of_lt (blk_lt (g:=gb101) (o:=.cells #[.int .i64 a0_0,.int .i64 a0_1] 43 (0,0)) (vb BK101.out)) : gb101 ≠ gb102));have n6_:=am ((by rw [hg];exact Nat.ne_of_gt (blk_lt (g:=gb101) (o:=.cells #[.int .i64 a0_0,.int .i64 a0_1] 43 (0,0)) (vb BK101.out)) : gb102 ≠ gb101));clear BK101;clear HB;have BK101:=n0_;have HB:=n1_;have BK102:=n2_;have GW102:=n3_;have GE102:=n4_;have NB101_102:=n5_;have NB102_101:=n6_;clear n0_ n1_ n2_ n3_ n4_ n5_ n6_;clear hb hbox hg)|((with_reducible refine gate_dst (N:=4) rfl ?_);refine box_event ?hg (N:=4) ?hd (cs:=#[.int .i64 0,.int .i64 0]) (t:=43) ?hr ?_;(case hd => rfl);(case hg => rfl);(case hr => first|(go_simp;done)|(go_simp;rfl));intro gb103 hg w6 hbox hb;have n0_:=am (blk_below (g:=gb101) (o:=.cells #[.int .i64 a0_0,.int .i64 a0_1] 43 (0,0)) (vb BK101.out) hb);have n1_:=am (blk_below (g:=gb102) (o:=.cells #[.int .i64 a1_0,.int .i64 a1_1] 43 (0,0)) (vb BK102.out) hb);have n2_:=am (below_step (v2 HB.out GE101.out GE102.out) hb);have n3_:=am (hbox);have n4_:=am ((by rw [hg];exact (below_size (v2 HB.out GE101.out GE102.out)) : w.heap.size ≤ gb103));have n5_:=am ((by rw [hg];exact (below_size (v2 HB.out GE101.out GE102.out)) : w.heap.size ≤ gb103));have n6_:=am ((by rw [hg];exact Nat.ne_of_lt (blk_lt (g:=gb101) (o:=.cells #[.int .i64 a0_0,.int .i64 a0_1] 43 (0,0)) (vb BK101.out)) : gb101 ≠ gb103));have n7_:=am ((by rw [hg];exact Nat.ne_of_gt (blk_lt (g:=gb101) (o:=.cells #[.int .i64 a0_0,.int .i64 a0_1] 43 (0,0)) (vb BK101.out)) : gb103 ≠ gb101));have n8_:=am ((by rw [hg];exact Nat.ne_of_lt (blk_lt (g:=gb102) (o:=.cells #[.int .i64 a1_0,.int .i64 a1_1] 43 (0,0)) (vb BK102.out)) : gb102 ≠ gb103));have n9_:=am ((by rw [hg];exact Nat.ne_of_gt (blk_lt (g:=gb102) (o:=.cells #[.int .i64 a1_0,.int .i64 a1_1] 43 (0,0)) (vb BK102.out)) : gb103 ≠ gb102));clear BK101;clear BK102;clear HB;have BK101:=n0_;have BK102:=n1_;have HB:=n2_;have BK103:=n3_;have GW103:=n4_;have GE103:=n5_;have NB101_103:=n6_;have NB103_101:=n7_;have NB102_103:=n8_;have NB103_102:=n9_;clear n0_ n1_ n2_ n3_ n4_ n5_ n6_ n7_ n8_ n9_;clear hb hbox hg))
 (try simp only [Act.put,List.setIfInBounds_toArray,List.set_cons_zero,List.set_cons_succ])
 go_cut [13] (fun v13 wc => ∃ (kq : Nat) (x13_2 : Bool),v13 = .bool x13_2 ∧ Aside0 (pit_Add.j0 kq x13_2 a0_0 a0_1 a1_0 a1_1 = some (r1,r2,r3)) ∧ Aside0 (kq ≤ k) ∧ Aside0 (wc.heap[gb101]? = some (.cells #[.int .i64 a0_0,.int .i64 a0_1] 43 (0,0))) ∧ Aside0 (wc.heap[gb102]? = some (.cells #[.int .i64 a1_0,.int .i64 a1_1] 43 (0,0))) ∧ Aside0 (wc.heap[gb103]? = some (.cells #[.int .i64 0,.int .i64 0] 43 (0,0))) ∧ Aside0 (Below w.heap.size w wc))
 case first =>
  have H:=HC3.out
  clear HC3
  replace H:=Option.bind_eq_some_iff.mp H
  obtain ⟨t104,A70,H⟩:=H
  replace H : (if t104 = true then ((pit_valid.f k a1_0 a1_1).bind fun t105 => (pit_Add.j0 k (!t105) a0_0 a0_1 a1_0 a1_1)) else (pit_Add.j0 k true a0_0 a0_1 a1_0 a1_1)) = some (r1,r2,r3):=H
  have A7:=am A70
  clear A70
  by_cases c8 : t104 = true
  ·subst c8
   have H1 : ((pit_valid.f k a1_0 a1_1).bind fun t105 => (pit_Add.j0 k (!t105) a0_0 a0_1 a1_0 a1_1)) = some (r1,r2,r3):=by rw [if_pos rfl] at H;exact H
   clear H
   have H:=H1
   clear H1
   replace H:=Option.bind_eq_some_iff.mp H
   obtain ⟨t105,A90,H⟩:=H
   replace H : (pit_Add.j0 k (!t105) a0_0 a0_1 a1_0 a1_1) = some (r1,r2,r3):=H
   have A9:=am A90
   clear A90
   have H':=am H
   clear H
   have hnb10:=NB101_102.out
   have hnc10:=NB102_101.out
   have hnb11:=NB101_103.out
   have hnc11:=NB103_101.out
   have hcz12_0:=bc BK101.out 0 (.int .i64 a0_0)
   have hcz12_1:=bc BK101.out 1 (.int .i64 a0_1)
   have hfz12_0:=blk_frozen BK101.out 0
   have hfz12_1:=blk_frozen BK101.out 1
   go_wp2_with (first|((with_reducible refine gate_callee (f:=89) rfl ?_);refine goesL_ (some 7) rfl rfl Tryz.func89 kr rfl #[.agg #[.int .i64 a0_0,.int .i64 a0_1]] rfl vm ?_;(with_reducible refine (pit_valid.calls k a0_0 a0_1 true _ A7.out).mono ?_);rintro e w13 ⟨rfl,hb⟩;refine ⟨_,rfl,?_⟩;have n0_:=am (blk_below (g:=gb101) (o:=.cells #[.int .i64 a0_0,.int .i64 a0_1] 43 (0,0)) (vb BK101.out) hb);have n1_:=am (blk_below (g:=gb102) (o:=.cells #[.int .i64 a1_0,.int .i64 a1_1] 43 (0,0)) (vb BK102.out) hb);have n2_:=am (blk_below (g:=gb103) (o:=.cells #[.int .i64 0,.int .i64 0] 43 (0,0)) (vb BK103.out) hb);have n3_:=am (below_step (v3 HB.out GE101.out GE102.out GE103.out) hb);clear BK101;clear BK102;clear BK103;clear HB;have BK101:=n0_;have BK102:=n1_;have BK103:=n2_;have HB:=n3_;clear n0_ n1_ n2_ n3_;(try clear hb);(try clear hb2);(try clear hk);(try clear hi);have hnb14:=NB102_103.out;have hnc14:=NB103_102.out;have hcz15_0:=bc BK102.out 0 (.int .i64 a1_0);have hcz15_1:=bc BK102.out 1 (.int .i64 a1_1);have hfz15_0:=blk_frozen BK102.out 0;have hfz15_1:=blk_frozen BK102.out 1)|(go_at_call 89;(with_reducible refine (pit_valid.calls k a1_0 a1_1 t105 _ A9.out).mono ?_);rintro e w16 ⟨rfl,hb⟩;have n0_:=am (blk_below (g:=gb101) (o:=.cells #[.int .i64 a0_0,.int .i64 a0_1] 43 (0,0)) (vb BK101.out) hb);have n1_:=am (blk_below (g:=gb102) (o:=.cells #[.int .i64 a1_0,.int .i64 a1_1] 43 (0,0)) (vb BK102.out) hb);have n2_:=am (blk_below (g:=gb103) (o:=.cells #[.int .i64 0,.int .i64 0] 43 (0,0)) (vb BK103.out) hb);have n3_:=am (below_step (v3 HB.out GE101.out GE102.out GE103.out) hb);clear BK101;clear BK102;clear BK103;clear HB;have BK101:=n0_;have BK102:=n1_;have BK103:=n2_;have HB:=n3_;clear n0_ n1_ n2_ n3_;(try clear hb);(try clear hb2);(try clear hk);(try clear hi)))
   go_meet
   case rel => exact ⟨_,(!t105),ve,H',⟨by first|omega|exact Nat.le_refl _⟩,⟨vb BK101.out⟩,⟨vb BK102.out⟩,⟨vb BK103.out⟩,⟨v3 HB.out GE101.out GE102.out GE103.out⟩⟩
  ·replace c8:=Bool.eq_false_iff.mpr c8
   subst c8
   have H1 : (pit_Add.j0 k true a0_0 a0_1 a1_0 a1_1) = some (r1,r2,r3):=by rw [if_neg (show ¬ (false = true) by decide)] at H;exact H
   clear H
   have H:=H1
   clear H1
   have H':=am H
   clear H
   have hnb17:=NB101_102.out
   have hnc17:=NB102_101.out
   have hnb18:=NB101_103.out
   have hnc18:=NB103_101.out
   have hcz19_0:=bc BK101.out 0 (.int .i64 a0_0)
   have hcz19_1:=bc BK101.out 1 (.int .i64 a0_1)
   have hfz19_0:=blk_frozen BK101.out 0
   have hfz19_1:=blk_frozen BK101.out 1
   go_wp2_with (first|((with_reducible refine gate_callee (f:=89) rfl ?_);refine goesL_ (some 7) rfl rfl Tryz.func89 kr rfl #[.agg #[.int .i64 a0_0,.int .i64 a0_1]] rfl vm ?_;(with_reducible refine (pit_valid.calls k a0_0 a0_1 false _ A7.out).mono ?_);rintro e w20 ⟨rfl,hb⟩;refine ⟨_,rfl,?_⟩;have n0_:=am (blk_below (g:=gb101) (o:=.cells #[.int .i64 a0_0,.int .i64 a0_1] 43 (0,0)) (vb BK101.out) hb);have n1_:=am (blk_below (g:=gb102) (o:=.cells #[.int .i64 a1_0,.int .i64 a1_1] 43 (0,0)) (vb BK102.out) hb);have n2_:=am (blk_below (g:=gb103) (o:=.cells #[.int .i64 0,.int .i64 0] 43 (0,0)) (vb BK103.out) hb);have n3_:=am (below_step (v3 HB.out GE101.out GE102.out GE103.out) hb);clear BK101;clear BK102;clear BK103;clear HB;have BK101:=n0_;have BK102:=n1_;have BK103:=n2_;have HB:=n3_;clear n0_ n1_ n2_ n3_;(try clear hb);(try clear hb2);(try clear hk);(try clear hi)))
   go_meet
   case rel => exact ⟨_,(true),ve,H',⟨by first|omega|exact Nat.le_refl _⟩,⟨vb BK101.out⟩,⟨vb BK102.out⟩,⟨vb BK103.out⟩,⟨v3 HB.out GE101.out GE102.out GE103.out⟩⟩
 case rest =>
  clear HC3
  try clear c1
  try clear c2
  try clear p2
  try clear c8
  try clear c10
  try clear c11
  try clear c14
  try clear c17
  try clear c18
  try clear hcz12_0
  try clear hcz12_1
  try clear hcz15_0
  try clear hcz15_1
  try clear hcz19_0
  try clear hcz19_1
  try clear hfz12_0
  try clear hfz12_1
  try clear hfz15_0
  try clear hfz15_1
  try clear hfz19_0
  try clear hfz19_1
  obtain ⟨kq,x13_2,rfl,HA,HJ2,BK101,BK102,BK103,HB⟩:=hcut
  cases kq with
 |zero => exact absurd HA.out (by simp [pit_Add.j0])
 |succ kj2 =>
   have H:=HA.out
   clear HA
   simp only [pit_Add.j0] at H
   by_cases c21 : x13_2 = true
   ·subst c21
    have H1 : (some (0,0,1)) = some (r1,r2,r3):=by rw [if_pos rfl] at H;exact H
    clear H
    have H:=H1
    clear H1
    simp only [Option.some.injEq,Prod.mk.injEq] at H
    obtain ⟨rfl,rfl,rfl⟩:=H
    have hnb22:=NB103_101.out
    have hnc22:=NB101_103.out
    have hnb23:=NB103_102.out
    have hnc23:=NB102_103.out
    have hcz24_0:=bc BK103.out 0 (.int .i64 0)
    have hcz24_1:=bc BK103.out 1 (.int .i64 0)
    have hfz24_0:=blk_frozen BK103.out 0
    have hfz24_1:=blk_frozen BK103.out 1
    go_wp2
    refine bodyPost_ret (results_ct rfl _ _ gb103 43 #[.int .i64 0,.int .i64 0] (0,0) _ rfl (by (with_reducible repeat (first|refine blk_drewN ?_ _|refine blk_drew ?_|refine blk_alloc ?_ _));refine blk_put (cs:=#[.int .i64 0,.int .i64 0]) ?_ 1 _ rfl;(with_reducible repeat (first|refine blk_drewN ?_ _|refine blk_drew ?_|refine blk_alloc ?_ _));refine blk_put (cs:=#[.int .i64 0,.int .i64 0]) ?_ 0 _ rfl;(with_reducible repeat (first|refine blk_drewN ?_ _|refine blk_drew ?_|refine blk_alloc ?_ _));exact BK103.out) Tryz.underlying43 rfl kr) rfl ?_
    exact ⟨vf,v3 HB.out GE101.out GE102.out GE103.out⟩
   ·replace c21:=Bool.eq_false_iff.mpr c21
    subst c21
    have H1 : ((pit_add.f kj2 a0_0 a0_1 a1_0 a1_1).bind fun bt106 => ((pit_result.f kj2 bt106.1 bt106.2).bind fun bt108 => (some (bt108.1,bt108.2.1,bt108.2.2)))) = some (r1,r2,r3):=by rw [if_neg (show ¬ (false = true) by decide)] at H;exact H
    clear H
    have H:=H1
    clear H1
    replace H:=Option.bind_eq_some_iff.mp H
    obtain ⟨⟨t106,t107⟩,A250,H⟩:=H
    replace H : ((pit_result.f kj2 t106 t107).bind fun bt108 => (some (bt108.1,bt108.2.1,bt108.2.2))) = some (r1,r2,r3):=H
    have A25:=am A250
    clear A250
    replace H:=Option.bind_eq_some_iff.mp H
    obtain ⟨⟨t108,t109,t110⟩,A260,H⟩:=H
    replace H : (some (t108,t109,t110)) = some (r1,r2,r3):=H
    have A26:=am A260
    clear A260
    simp only [Option.some.injEq,Prod.mk.injEq] at H
    obtain ⟨rfl,rfl,rfl⟩:=H
    have hnb27:=NB101_102.out
    have hnc27:=NB102_101.out
    have hnb28:=NB101_103.out
    have hnc28:=NB103_101.out
    have hcz29_0:=bc BK101.out 0 (.int .i64 a0_0)
    have hcz29_1:=bc BK101.out 1 (.int .i64 a0_1)
    have hfz29_0:=blk_frozen BK101.out 0
    have hfz29_1:=blk_frozen BK101.out 1
    have hnb30:=NB102_103.out
    have hnc30:=NB103_102.out
    have hcz31_0:=bc BK102.out 0 (.int .i64 a1_0)
    have hcz31_1:=bc BK102.out 1 (.int .i64 a1_1)
    have hfz31_0:=blk_frozen BK102.out 0
    have hfz31_1:=blk_frozen BK102.out 1
    go_wp2_with (first|((with_reducible refine gate_callee (f:=93) rfl ?_);refine goesL_ (some 17) rfl rfl Tryz.func93 kr rfl #[.agg #[.int .i64 a0_0,.int .i64 a0_1],.agg #[.int .i64 a1_0,.int .i64 a1_1]] rfl vm ?_;(with_reducible refine (pit_add.calls kj2 a0_0 a0_1 a1_0 a1_1 t106 t107 _ A25.out).mono ?_);rintro e w32 ⟨rfl,hb⟩;refine ⟨_,rfl,?_⟩;have n0_:=am (blk_below (g:=gb101) (o:=.cells #[.int .i64 a0_0,.int .i64 a0_1] 43 (0,0)) (vb BK101.out) hb);have n1_:=am (blk_below (g:=gb102) (o:=.cells #[.int .i64 a1_0,.int .i64 a1_1] 43 (0,0)) (vb BK102.out) hb);have n2_:=am (blk_below (g:=gb103) (o:=.cells #[.int .i64 0,.int .i64 0] 43 (0,0)) (vb BK103.out) hb);have n3_:=am (below_step (v3 HB.out GE101.out GE102.out GE103.out) hb);clear BK101;clear BK102;clear BK103;clear HB;have BK101:=n0_;have BK102:=n1_;have BK103:=n2_;have HB:=n3_;clear n0_ n1_ n2_ n3_;(try clear hb);(try clear hb2);(try clear hk);(try clear hi))|((with_reducible refine gate_callee (f:=92) rfl ?_);refine goesL_ (some 18) rfl rfl Tryz.func92 kr rfl #[.agg #[.int .i64 t106,.int .i64 t107]] rfl vm ?_;(with_reducible refine (pit_result.calls kj2 t106 t107 t108 t109 t110 _ A26.out).mono ?_);rintro e w33 ⟨rfl,hb⟩;refine ⟨_,rfl,?_⟩;have n0_:=am (blk_below (g:=gb101) (o:=.cells #[.int .i64 a0_0,.int .i64 a0_1] 43 (0,0)) (vb BK101.out) hb);have n1_:=am (blk_below (g:=gb102) (o:=.cells #[.int .i64 a1_0,.int .i64 a1_1] 43 (0,0)) (vb BK102.out) hb);have n2_:=am (blk_below (g:=gb103) (o:=.cells #[.int .i64 0,.int .i64 0] 43 (0,0)) (vb BK103.out) hb);have n3_:=am (below_step (v3 HB.out GE101.out GE102.out GE103.out) hb);clear BK101;clear BK102;clear BK103;clear HB;have BK101:=n0_;have BK102:=n1_;have BK103:=n2_;have HB:=n3_;clear n0_ n1_ n2_ n3_;(try clear hb);(try clear hb2);(try clear hk);(try clear hi);have hcz34_0:=bc BK103.out 0 (.int .i64 0);have hcz34_1:=bc BK103.out 1 (.int .i64 0);have hfz34_0:=blk_frozen BK103.out 0;have hfz34_1:=blk_frozen BK103.out 1))
    refine bodyPost_ret (results_ct rfl _ _ gb103 43 #[.int .i64 t108,.int .i64 t109] (0,0) _ rfl (by (with_reducible repeat (first|refine blk_drewN ?_ _|refine blk_drew ?_|refine blk_alloc ?_ _));refine blk_put (cs:=#[.int .i64 t108,.int .i64 0]) ?_ 1 _ rfl;(with_reducible repeat (first|refine blk_drewN ?_ _|refine blk_drew ?_|refine blk_alloc ?_ _));refine blk_put (cs:=#[.int .i64 0,.int .i64 0]) ?_ 0 _ rfl;(with_reducible repeat (first|refine blk_drewN ?_ _|refine blk_drew ?_|refine blk_alloc ?_ _));exact BK103.out) Tryz.underlying43 rfl kr) rfl ?_
    exact ⟨vf,v3 HB.out GE101.out GE102.out GE103.out⟩
def calxlaw04_sanity.f : Option Bool:=some true
theorem calxlaw04_sanity.calls (r : Bool) (w : World) (h : calxlaw04_sanity.f = some r) : Calls Tryz.prog 27 #[] w fun e w' => e = .returned (.bool r) ∧ Below w.heap.size w w':=by
 obtain rfl:=Option.some.inj h
 exact sanity_calls w
def calxref04_divisor.l0 : Nat → Int → Int → Option (Int)
|0,_,_ => none
|k + 1,x0,x1 => if x1 > 0 then (if x1 = 0 then (none) else (calxref04_divisor.l0 k x1 (Int.tmod x0 x1))) else (some x0)
def calxref04_divisor.f (k : Nat) (a0 : Int) (a1 : Int) : Option (Int):=calxref04_divisor.l0 k a0 a1
theorem calxref04_divisor.mono_l : ∀ k,(∀ y0 y1,LeO (calxref04_divisor.l0 k y0 y1) (calxref04_divisor.l0 (k + 1) y0 y1))
|0 => fun _ _ r h => by simp [calxref04_divisor.l0] at h
|k + 1 => by
  have ih0:=calxref04_divisor.mono_l k
  ·intro y0 y1
   unfold calxref04_divisor.l0
   repeat' first
  |(with_reducible exact ih0 _ _)
  |(with_reducible exact LeO.refl _)
  |(with_reducible exact LeO.none _)
  |(with_reducible refine LeO.ite ?_ ?_)
  |(with_reducible refine LeO.bind ?_ (fun _ => ?_))
  |exact ih0 _ _
  |exact LeO.none _
  |refine LeO.ite ?_ ?_
  |refine LeO.bind ?_ (fun _ => ?_)
theorem calxref04_divisor.mono : ∀ a0 a1 k,LeO (calxref04_divisor.f k a0 a1) (calxref04_divisor.f (k + 1) a0 a1):=by
 intro a0 a1 k
 have ih0:=calxref04_divisor.mono_l k
 unfold calxref04_divisor.f
 repeat' first
  |(with_reducible exact ih0 _ _)
  |(with_reducible exact LeO.refl _)
  |(with_reducible exact LeO.none _)
  |(with_reducible refine LeO.ite ?_ ?_)
  |(with_reducible refine LeO.bind ?_ (fun _ => ?_))
  |exact ih0 _ _
  |exact LeO.none _
  |refine LeO.ite ?_ ?_
  |refine LeO.bind ?_ (fun _ => ?_)
set_option maxHeartbeats 8000000 in
set_option maxRecDepth 100000 in
theorem calxref04_divisor.calls (k : Nat) (a0 : Int) (a1 : Int) (r : Int) (w : World) (h : calxref04_divisor.f k a0 a1 = some r) :
  Calls Tryz.prog 168 #[.int .i64 a0,.int .i64 a1] w fun e w' => e = .returned (.int .i64 r) ∧ Drawn0 w w':=by
 have H : (calxref04_divisor.l0 k a0 a1) = some r:=h
 clear h
 have H':=am H
 clear H
 go_enter Tryz.func168,Tryz.ntmps168
 go_wp2
 go_loopg [0,1] k (fun kq v0 v1 w' => ∃ (x0_1 : Int) (x1_1 : Int),v0 = .int .i64 x0_1 ∧ v1 = .int .i64 x1_1 ∧ Aside0 (calxref04_divisor.l0 kq x0_1 x1_1 = some r) ∧ Aside0 (kq ≤ k) ∧ Drawn0 w w')
 case atStart => exact ⟨(a0),(a1),ve,ve,H',⟨Nat.le_refl _⟩,by repeat (first|exact Drawn0.refl _|apply Drawn0.step)⟩
 case round =>
  clear H'
  try clear c1
  try clear p2
  obtain ⟨x0_1,x1_1,rfl,rfl,HA,HK1,⟨m1,rfl⟩⟩:=hrel
  cases gk with
 |zero => exact absurd HA.out (by simp [calxref04_divisor.l0])
 |succ k1 =>
   have H:=HA.out
   clear HA
   simp only [calxref04_divisor.l0] at H
   by_cases c3 : x1_1 > 0
   ·rw [if_pos c3] at H
    have c3b0 : decide (0 < x1_1) = true:=decide_eq_true c3
    clear c3
    by_cases c4 : x1_1 = 0
    ·rw [if_pos c4] at H
     exact absurd H (by simp)
    ·rw [if_neg c4] at H
     have c4b0 : (x1_1 == 0) = false:=beq_eq_false_iff_ne.mpr c4
     have c4b1 : (x1_1 != 0) = true:=bne_iff_ne.mpr c4
     have H':=am H
     clear H
     go_wp2
     go_roundg k1
     case measure => have:=HK1.out;omega
     case rel => exact ⟨(x1_1),(Int.tmod x0_1 x1_1),ve,ve,H',⟨by have:=HK1.out;omega⟩,by repeat (first|exact Drawn0.refl _|apply Drawn0.step)⟩
   ·rw [if_neg c3] at H
    have c3b0 : decide (0 < x1_1) = false:=decide_eq_false c3
    clear c3
    obtain rfl:=Option.some.inj H
    go_wp2
    go_ret
    exact ⟨ve,by repeat (first|exact Drawn0.refl _|apply Drawn0.step)⟩
def calxref04_Valid.f (k : Nat) (a0_0 : Int) (a0_1 : Int) : Option (Bool):=(calxref04_in.f a0_0 0 68719476736).bind fun t102 => (if t102 = true then ((calxref04_in.f a0_1 1 16777216).bind fun t103 => (if t103 = true then ((calxref04_divisor.f k (mx a0_0 0) (mx a0_1 1)).bind fun t104 => (some (t104 == 1))) else (some false))) else (some false))
theorem calxref04_Valid.mono : ∀ a0 a1 k,LeO (calxref04_Valid.f k a0 a1) (calxref04_Valid.f (k + 1) a0 a1):=by
 intro a0 a1 k
 unfold calxref04_Valid.f
 repeat' first
  |(with_reducible exact calxref04_divisor.mono _ _ _)
  |(with_reducible exact LeO.refl _)
  |(with_reducible exact LeO.none _)
  |(with_reducible refine LeO.ite ?_ ?_)
  |(with_reducible refine LeO.bind ?_ (fun _ => ?_))
  |exact calxref04_divisor.mono _ _ _
  |exact LeO.none _
  |refine LeO.ite ?_ ?_
  |refine LeO.bind ?_ (fun _ => ?_)
set_option maxHeartbeats 8000000 in
set_option maxRecDepth 100000 in
theorem calxref04_Valid.calls (k : Nat) (a0_0 : Int) (a0_1 : Int) (r : Bool) (w : World) (h : calxref04_Valid.f k a0_0 a0_1 = some r) :
  Calls Tryz.prog 127 #[.agg #[.int .i64 a0_0,.int .i64 a0_1]] w fun e w' => e = .returned (.bool r) ∧ Below w.heap.size w w':=by
 have hu43:=Tryz.underlying43
 have HB:=am (Below.refl w.heap.size w)
 have H : ((calxref04_in.f a0_0 0 68719476736).bind fun t102 => (if t102 = true then ((calxref04_in.f a0_1 1 16777216).bind fun t103 => (if t103 = true then ((calxref04_divisor.f k (mx a0_0 0) (mx a0_1 1)).bind fun t104 => (some (t104 == 1))) else (some false))) else (some false))) = some r:=h
 clear h
 replace H:=Option.bind_eq_some_iff.mp H
 obtain ⟨t102,A20,H⟩:=H
 replace H : (if t102 = true then ((calxref04_in.f a0_1 1 16777216).bind fun t103 => (if t103 = true then ((calxref04_divisor.f k (mx a0_0 0) (mx a0_1 1)).bind fun t104 => (some (t104 == 1))) else (some false))) else (some false)) = some r:=H
 have A2:=am A20
 clear A20
 by_cases c3 : t102 = true
 ·subst c3
  have H1 : ((calxref04_in.f a0_1 1 16777216).bind fun t103 => (if t103 = true then ((calxref04_divisor.f k (mx a0_0 0) (mx a0_1 1)).bind fun t104 => (some (t104 == 1))) else (some false))) = some r:=by rw [if_pos rfl] at H;exact H
  clear H
  have H:=H1
  clear H1
  replace H:=Option.bind_eq_some_iff.mp H
  obtain ⟨t103,A40,H⟩:=H
  replace H : (if t103 = true then ((calxref04_divisor.f k (mx a0_0 0) (mx a0_1 1)).bind fun t104 => (some (t104 == 1))) else (some false)) = some r:=H
  have A4:=am A40
  clear A40
  by_cases c5 : t103 = true
  ·subst c5
   have H1 : ((calxref04_divisor.f k (mx a0_0 0) (mx a0_1 1)).bind fun t104 => (some (t104 == 1))) = some r:=by rw [if_pos rfl] at H;exact H
   clear H
   have H:=H1
   clear H1
   obtain ⟨ji6,hji6⟩ : ∃ j_ : Int,(mx a0_0 0) = j_:=⟨_,rfl⟩
   replace H : ((calxref04_divisor.f k (ji6) (mx a0_1 1)).bind fun t104 => (some (t104 == 1))) = some r:=by first|(rw [hji6] at H;exact H)|(simp only [hji6] at H ⊢;exact H)
   (try rw [hji6] at A2)
   (try rw [hji6] at A4)
   (try (have hji6l : 0 ≤ ji6:=by (rw [← hji6];unfold mx;(repeat' split) <;> omega)))
   (try (have hji6m : 0 ≤ ji6:=by omega))
   have hji6_ : (if a0_0 < 0 then 0 else a0_0) = ji6:=hji6
   obtain ⟨ji7,hji7⟩ : ∃ j_ : Int,(mx a0_1 1) = j_:=⟨_,rfl⟩
   replace H : ((calxref04_divisor.f k (ji6) (ji7)).bind fun t104 => (some (t104 == 1))) = some r:=by first|(rw [hji7] at H;exact H)|(simp only [hji7] at H ⊢;exact H)
   (try rw [hji7] at A2)
   (try rw [hji7] at A4)
   (try (have hji7l : 1 ≤ ji7:=by (rw [← hji7];unfold mx;(repeat' split) <;> omega)))
   (try (have hji7m : 0 ≤ ji7:=by omega))
   have hji7_ : (if a0_1 < 1 then 1 else a0_1) = ji7:=hji7
   replace H:=Option.bind_eq_some_iff.mp H
   obtain ⟨t104,A80,H⟩:=H
   replace H : (some (t104 == 1)) = some r:=H
   have A8:=am A80
   clear A80
   obtain rfl:=Option.some.inj H
   go_enter Tryz.func127,Tryz.ntmps127
   go_wp2_with (first|((with_reducible refine gate_dst (N:=1) rfl ?_);(try (refine gate_guard (by rfl) ?_;dsimp only));refine box_event ?hg (N:=1) ?hd (cs:=#[.int .i64 a0_0,.int .i64 a0_1]) (t:=43) ?hr ?_;(case hd => rfl);(case hg => rfl);(case hr => first|(go_simp;done)|(go_simp;rfl));intro gb101 hg w9 hbox hb;have n0_:=am (below_step (v0 HB.out) hb);have n1_:=am (hbox);have n2_:=am ((by rw [hg];exact (below_size (v0 HB.out)) : w.heap.size ≤ gb101));have n3_:=am ((by rw [hg];exact (below_size (v0 HB.out)) : w.heap.size ≤ gb101));clear HB;have HB:=n0_;have BK101:=n1_;have GW101:=n2_;have GE101:=n3_;clear n0_ n1_ n2_ n3_;clear hb hbox hg;have hcz10_0:=bc BK101.out 0 (.int .i64 a0_0);have hcz10_1:=bc BK101.out 1 (.int .i64 a0_1);have hfz10_0:=blk_frozen BK101.out 0;have hfz10_1:=blk_frozen BK101.out 1)|((with_reducible refine gate_callee (f:=110) rfl ?_);refine goesL_ (some 5) rfl rfl Tryz.func110 kr rfl #[.int .i64 a0_0,.int .i64 0,.int .i64 68719476736] rfl vm ?_;(with_reducible refine (calxref04_in.calls a0_0 0 68719476736 true _ A2.out).mono ?_);rintro e w' ⟨rfl,⟨nd,rfl⟩⟩;refine ⟨_,rfl,?_⟩)|(go_at_call 110;(with_reducible refine (calxref04_in.calls a0_1 1 16777216 true _ A4.out).mono ?_);rintro e w' ⟨rfl,⟨nd,rfl⟩⟩)|(go_at_call 168;(with_reducible refine (calxref04_divisor.calls k ji6 ji7 t104 _ A8.out).mono ?_);rintro e w' ⟨rfl,⟨nd,rfl⟩⟩))
   go_ret
   exact ⟨by first|rfl|(simp [errW_none,errW_some] <;> rfl)|(simp only [← hji6,← hji7];first|rfl|(simp [errW_none,errW_some] <;> rfl))|(simp [*,errW_none,errW_some] <;> rfl),v1 HB.out GE101.out⟩
  ·replace c5:=Bool.eq_false_iff.mpr c5
   subst c5
   have H1 : (some false) = some r:=by rw [if_neg (show ¬ (false = true) by decide)] at H;exact H
   clear H
   have H:=H1
   clear H1
   obtain rfl:=Option.some.inj H
   go_enter Tryz.func127,Tryz.ntmps127
   go_wp2_with (first|((with_reducible refine gate_dst (N:=1) rfl ?_);(try (refine gate_guard (by rfl) ?_;dsimp only));refine box_event ?hg (N:=1) ?hd (cs:=#[.int .i64 a0_0,.int .i64 a0_1]) (t:=43) ?hr ?_;(case hd => rfl);(case hg => rfl);(case hr => first|(go_simp;done)|(go_simp;rfl));intro gb101 hg w11 hbox hb;have n0_:=am (below_step (v0 HB.out) hb);have n1_:=am (hbox);have n2_:=am ((by rw [hg];exact (below_size (v0 HB.out)) : w.heap.size ≤ gb101));have n3_:=am ((by rw [hg];exact (below_size (v0 HB.out)) : w.heap.size ≤ gb101));clear HB;have HB:=n0_;have BK101:=n1_;have GW101:=n2_;have GE101:=n3_;clear n0_ n1_ n2_ n3_;clear hb hbox hg;have hcz12_0:=bc BK101.out 0 (.int .i64 a0_0);have hcz12_1:=bc BK101.out 1 (.int .i64 a0_1);have hfz12_0:=blk_frozen BK101.out 0;have hfz12_1:=blk_frozen BK101.out 1)|((with_reducible refine gate_callee (f:=110) rfl ?_);refine goesL_ (some 5) rfl rfl Tryz.func110 kr rfl #[.int .i64 a0_0,.int .i64 0,.int .i64 68719476736] rfl vm ?_;(with_reducible refine (calxref04_in.calls a0_0 0 68719476736 true _ A2.out).mono ?_);rintro e w' ⟨rfl,⟨nd,rfl⟩⟩;refine ⟨_,rfl,?_⟩)|(go_at_call 110;(with_reducible refine (calxref04_in.calls a0_1 1 16777216 false _ A4.out).mono ?_);rintro e w' ⟨rfl,⟨nd,rfl⟩⟩))
   go_ret
   exact ⟨vf,v1 HB.out GE101.out⟩
 ·replace c3:=Bool.eq_false_iff.mpr c3
  subst c3
  have H1 : (some false) = some r:=by rw [if_neg (show ¬ (false = true) by decide)] at H;exact H
  clear H
  have H:=H1
  clear H1
  obtain rfl:=Option.some.inj H
  go_enter Tryz.func127,Tryz.ntmps127
  go_wp2_with (first|((with_reducible refine gate_dst (N:=1) rfl ?_);(try (refine gate_guard (by rfl) ?_;dsimp only));refine box_event ?hg (N:=1) ?hd (cs:=#[.int .i64 a0_0,.int .i64 a0_1]) (t:=43) ?hr ?_;(case hd => rfl);(case hg => rfl);(case hr => first|(go_simp;done)|(go_simp;rfl));intro gb101 hg w13 hbox hb;have n0_:=am (below_step (v0 HB.out) hb);have n1_:=am (hbox);have n2_:=am ((by rw [hg];exact (below_size (v0 HB.out)) : w.heap.size ≤ gb101));have n3_:=am ((by rw [hg];exact (below_size (v0 HB.out)) : w.heap.size ≤ gb101));clear HB;have HB:=n0_;have BK101:=n1_;have GW101:=n2_;have GE101:=n3_;clear n0_ n1_ n2_ n3_;clear hb hbox hg;have hcz14_0:=bc BK101.out 0 (.int .i64 a0_0);have hcz14_1:=bc BK101.out 1 (.int .i64 a0_1);have hfz14_0:=blk_frozen BK101.out 0;have hfz14_1:=blk_frozen BK101.out 1)|((with_reducible refine gate_callee (f:=110) rfl ?_);refine goesL_ (some 5) rfl rfl Tryz.func110 kr rfl #[.int .i64 a0_0,.int .i64 0,.int .i64 68719476736] rfl vm ?_;(with_reducible refine (calxref04_in.calls a0_0 0 68719476736 false _ A2.out).mono ?_);rintro e w' ⟨rfl,⟨nd,rfl⟩⟩;refine ⟨_,rfl,?_⟩))
  go_ret
  exact ⟨vf,v1 HB.out GE101.out⟩
def calxref04_made.f (k : Nat) (a0_0 : Int) (a0_1 : Int) : Option (Int × Int × Int):=(calxref04_Valid.f k a0_0 a0_1).bind fun t103 => (if t103 = true then (some (a0_0,a0_1,0)) else (some (0,0,3)))
set_option maxHeartbeats 8000000 in
set_option maxRecDepth 100000 in
theorem calxref04_made.calls (k : Nat) (a0_0 : Int) (a0_1 : Int) (r1 : Int) (r2 : Int) (r3 : Int) (w : World) (h : calxref04_made.f k a0_0 a0_1 = some (r1,r2,r3)) :
  Calls Tryz.prog 102 #[.agg #[.int .i64 a0_0,.int .i64 a0_1]] w fun e w' => e = .returned (.agg #[.int .i64 r1,.int .i64 r2,.int .i64 r3]) ∧ Below w.heap.size w w':=by
 have hu43:=Tryz.underlying43
 have hu63:=Tryz.underlying63
 have HB:=am (Below.refl w.heap.size w)
 have H : ((calxref04_Valid.f k a0_0 a0_1).bind fun t103 => (if t103 = true then (some (a0_0,a0_1,0)) else (some (0,0,3)))) = some (r1,r2,r3):=h
 clear h
 replace H:=Option.bind_eq_some_iff.mp H
 obtain ⟨t103,A20,H⟩:=H
 replace H : (if t103 = true then (some (a0_0,a0_1,0)) else (some (0,0,3))) = some (r1,r2,r3):=H
 have A2:=am A20
 clear A20
 by_cases c3 : t103 = true
 ·subst c3
  have H1 : (some (a0_0,a0_1,0)) = some (r1,r2,r3):=by rw [if_pos rfl] at H;exact H
  clear H
  have H:=H1
  clear H1
  simp only [Option.some.injEq,Prod.mk.injEq] at H
  obtain ⟨rfl,rfl,rfl⟩:=H
  go_enter Tryz.func102,Tryz.ntmps102
  go_wp2_with (first|((with_reducible refine gate_dst (N:=1) rfl ?_);refine box_event ?hg (N:=1) ?hd (cs:=#[.int .i64 a0_0,.int .i64 a0_1]) (t:=43) ?hr ?_;(case hd => rfl);(case hg => rfl);(case hr => first|(go_simp;done)|(go_simp;rfl));intro gb101 hg w4 hbox hb;have n0_:=am (below_step (v0 HB.out) hb);have n1_:=am (hbox);have n2_:=am ((by rw [hg];exact (below_size (v0 HB.out)) : w.heap.size ≤ gb101));have n3_:=am ((by rw [hg];exact (below_size (v0 HB.out)) : w.heap.size ≤ gb101));clear HB;have HB:=n0_;have BK101:=n1_;have GW101:=n2_;have GE101:=n3_;clear n0_ n1_ n2_ n3_;clear hb hbox hg)|((with_reducible refine gate_dst (N:=2) rfl ?_);refine box_event ?hg (N:=2) ?hd (cs:=#[.int .i64 0,.int .i64 0,.int .i64 0]) (t:=63) ?hr ?_;(case hd => rfl);(case hg => rfl);(case hr => first|(go_simp;done)|(go_simp;rfl));intro gb102 hg w5 hbox hb;have n0_:=am (blk_below (g:=gb101) (o:=.cells #[.int .i64 a0_0,.int .i64 a0_1] 43 (0,0)) (vb BK101.out) hb);have n1_:=am (below_step (v1 HB.out GE101.out) hb);have n2_:=am (hbox);have n3_:=am ((by rw [hg];exact (below_size (v1 HB.out GE101.out)) : w.heap.size ≤ gb102));have n4_:=am ((by rw [hg];exact (below_size (v1 HB.out GE101.out)) : w.heap.size ≤ gb102));have n5_:=am ((by rw [hg];exact Nat.ne_of_lt (blk_lt (g:=gb101) (o:=.cells #[.int .i64 a0_0,.int .i64 a0_1] 43 (0,0)) (vb BK101.out)) : gb101 ≠ gb102));have n6_:=am ((by rw [hg];exact Nat.ne_of_gt (blk_lt (g:=gb101) (o:=.cells #[.int .i64 a0_0,.int .i64 a0_1] 43 (0,0)) (vb BK101.out)) : gb102 ≠ gb101));clear BK101;clear HB;have BK101:=n0_;have HB:=n1_;have BK102:=n2_;have GW102:=n3_;have GE102:=n4_;have NB101_102:=n5_;have NB102_101:=n6_;clear n0_ n1_ n2_ n3_ n4_ n5_ n6_;clear hb hbox hg;have hnb6:=NB101_102.out;have hnc6:=NB102_101.out;have hcz7_0:=bc BK101.out 0 (.int .i64 a0_0);have hcz7_1:=bc BK101.out 1 (.int .i64 a0_1);have hfz7_0:=blk_frozen BK101.out 0;have hfz7_1:=blk_frozen BK101.out 1)|((with_reducible refine gate_callee (f:=127) rfl ?_);refine goesL_ (some 5) rfl rfl Tryz.func127 kr rfl #[.agg #[.int .i64 a0_0,.int .i64 a0_1]] rfl vm ?_;(with_reducible refine (calxref04_Valid.calls k a0_0 a0_1 true _ A2.out).mono ?_);rintro e w8 ⟨rfl,hb⟩;refine ⟨_,rfl,?_⟩;have n0_:=am (blk_below (g:=gb101) (o:=.cells #[.int .i64 a0_0,.int .i64 a0_1] 43 (0,0)) (vb BK101.out) hb);have n1_:=am (blk_below (g:=gb102) (o:=.cells #[.int .i64 0,.int .i64 0,.int .i64 0] 63 (0,0)) (vb BK102.out) hb);have n2_:=am (below_step (v2 HB.out GE101.out GE102.out) hb);clear BK101;clear BK102;clear HB;have BK101:=n0_;have BK102:=n1_;have HB:=n2_;clear n0_ n1_ n2_;(try clear hb);(try clear hb2);(try clear hk);(try clear hi);have hcz9_0:=bc BK101.out 0 (.int .i64 a0_0);have hcz9_1:=bc BK101.out 1 (.int .i64 a0_1);have hfz9_0:=blk_frozen BK101.out 0;have hfz9_1:=blk_frozen BK101.out 1;have hcz10_0:=bc BK102.out 0 (.int .i64 0);have hcz10_1:=bc BK102.out 1 (.int .i64 0);have hcz10_2:=bc BK102.out 2 (.int .i64 0);have hfz10_0:=blk_frozen BK102.out 0;have hfz10_1:=blk_frozen BK102.out 1;have hfz10_2:=blk_frozen BK102.out 2))
  refine bodyPost_ret (results_cell_row rfl _ _ gb102 63 #[.int .i64 a0_0,.int .i64 a0_1,.int .i64 0] (0,0) _ rfl (by (with_reducible repeat (first|refine blk_drewN ?_ _|refine blk_drew ?_|refine blk_alloc ?_ _));refine blk_put (cs:=#[.int .i64 a0_0,.int .i64 a0_1,.int .i64 0]) ?_ 2 _ rfl;(with_reducible repeat (first|refine blk_drewN ?_ _|refine blk_drew ?_|refine blk_alloc ?_ _));refine blk_put (cs:=#[.int .i64 a0_0,.int .i64 0,.int .i64 0]) ?_ 1 _ rfl;(with_reducible repeat (first|refine blk_drewN ?_ _|refine blk_drew ?_|refine blk_alloc ?_ _));refine blk_put (cs:=#[.int .i64 0,.int .i64 0,.int .i64 0]) ?_ 0 _ rfl;(with_reducible repeat (first|refine blk_drewN ?_ _|refine blk_drew ?_|refine blk_alloc ?_ _));exact BK102.out) Tryz.underlying63 rfl kr) rfl ?_
  exact ⟨vf,v2 HB.out GE101.out GE102.out⟩
 ·replace c3:=Bool.eq_false_iff.mpr c3
  subst c3
  have H1 : (some (0,0,3)) = some (r1,r2,r3):=by rw [if_neg (show ¬ (false = true) by decide)] at H;exact H
  clear H
  have H:=H1
  clear H1
  simp only [Option.some.injEq,Prod.mk.injEq] at H
  obtain ⟨rfl,rfl,rfl⟩:=H
  go_enter Tryz.func102,Tryz.ntmps102
  go_wp2_with (first|((with_reducible refine gate_dst (N:=1) rfl ?_);refine box_event ?hg (N:=1) ?hd (cs:=#[.int .i64 a0_0,.int .i64 a0_1]) (t:=43) ?hr ?_;(case hd => rfl);(case hg => rfl);(case hr => first|(go_simp;done)|(go_simp;rfl));intro gb101 hg w11 hbox hb;have n0_:=am (below_step (v0 HB.out) hb);have n1_:=am (hbox);have n2_:=am ((by rw [hg];exact (below_size (v0 HB.out)) : w.heap.size ≤ gb101));have n3_:=am ((by rw [hg];exact (below_size (v0 HB.out)) : w.heap.size ≤ gb101));clear HB;have HB:=n0_;have BK101:=n1_;have GW101:=n2_;have GE101:=n3_;clear n0_ n1_ n2_ n3_;clear hb hbox hg)|((with_reducible refine gate_dst (N:=2) rfl ?_);refine box_event ?hg (N:=2) ?hd (cs:=#[.int .i64 0,.int .i64 0,.int .i64 0]) (t:=63) ?hr ?_;(case hd => rfl);(case hg => rfl);(case hr => first|(go_simp;done)|(go_simp;rfl));intro gb102 hg w12 hbox hb;have n0_:=am (blk_below (g:=gb101) (o:=.cells #[.int .i64 a0_0,.int .i64 a0_1] 43 (0,0)) (vb BK101.out) hb);have n1_:=am (below_step (v1 HB.out GE101.out) hb);have n2_:=am (hbox);have n3_:=am ((by rw [hg];exact (below_size (v1 HB.out GE101.out)) : w.heap.size ≤ gb102));have n4_:=am ((by rw [hg];exact (below_size (v1 HB.out GE101.out)) : w.heap.size ≤ gb102));have n5_:=am ((by rw [hg];exact Nat.ne_of_lt (blk_lt (g:=gb101) (o:=.cells #[.int .i64 a0_0,.int .i64 a0_1] 43 (0,0)) (vb BK101.out)) : gb101 ≠ gb102));have n6_:=am ((by rw [hg];exact Nat.ne_of_gt (blk_lt (g:=gb101) (o:=.cells #[.int .i64 a0_0,.int .i64 a0_1] 43 (0,0)) (vb BK101.out)) : gb102 ≠ gb101));clear BK101;clear HB;have BK101:=n0_;have HB:=n1_;have BK102:=n2_;have GW102:=n3_;have GE102:=n4_;have NB101_102:=n5_;have NB102_101:=n6_;clear n0_ n1_ n2_ n3_ n4_ n5_ n6_;clear hb hbox hg;have hnb13:=NB101_102.out;have hnc13:=NB102_101.out;have hcz14_0:=bc BK101.out 0 (.int .i64 a0_0);have hcz14_1:=bc BK101.out 1 (.int .i64 a0_1);have hfz14_0:=blk_frozen BK101.out 0;have hfz14_1:=blk_frozen BK101.out 1)|((with_reducible refine gate_callee (f:=127) rfl ?_);refine goesL_ (some 5) rfl rfl Tryz.func127 kr rfl #[.agg #[.int .i64 a0_0,.int .i64 a0_1]] rfl vm ?_;(with_reducible refine (calxref04_Valid.calls k a0_0 a0_1 false _ A2.out).mono ?_);rintro e w15 ⟨rfl,hb⟩;refine ⟨_,rfl,?_⟩;have n0_:=am (blk_below (g:=gb101) (o:=.cells #[.int .i64 a0_0,.int .i64 a0_1] 43 (0,0)) (vb BK101.out) hb);have n1_:=am (blk_below (g:=gb102) (o:=.cells #[.int .i64 0,.int .i64 0,.int .i64 0] 63 (0,0)) (vb BK102.out) hb);have n2_:=am (below_step (v2 HB.out GE101.out GE102.out) hb);clear BK101;clear BK102;clear HB;have BK101:=n0_;have BK102:=n1_;have HB:=n2_;clear n0_ n1_ n2_;(try clear hb);(try clear hb2);(try clear hk);(try clear hi);have hcz16_0:=bc BK102.out 0 (.int .i64 0);have hcz16_1:=bc BK102.out 1 (.int .i64 0);have hcz16_2:=bc BK102.out 2 (.int .i64 0);have hfz16_0:=blk_frozen BK102.out 0;have hfz16_1:=blk_frozen BK102.out 1;have hfz16_2:=blk_frozen BK102.out 2))
  refine bodyPost_ret (results_cell_row rfl _ _ gb102 63 #[.int .i64 0,.int .i64 0,.int .i64 3] (0,0) _ rfl (by (with_reducible repeat (first|refine blk_drewN ?_ _|refine blk_drew ?_|refine blk_alloc ?_ _));refine blk_put (cs:=#[.int .i64 0,.int .i64 0,.int .i64 0]) ?_ 2 _ rfl;(with_reducible repeat (first|refine blk_drewN ?_ _|refine blk_drew ?_|refine blk_alloc ?_ _));refine blk_put (cs:=#[.int .i64 0,.int .i64 0,.int .i64 0]) ?_ 1 _ rfl;(with_reducible repeat (first|refine blk_drewN ?_ _|refine blk_drew ?_|refine blk_alloc ?_ _));refine blk_put (cs:=#[.int .i64 0,.int .i64 0,.int .i64 0]) ?_ 0 _ rfl;(with_reducible repeat (first|refine blk_drewN ?_ _|refine blk_drew ?_|refine blk_alloc ?_ _));exact BK102.out) Tryz.underlying63 rfl kr) rfl ?_
  exact ⟨vf,v2 HB.out GE101.out GE102.out⟩
def calxref04_add.f (k : Nat) (a0_0 : Int) (a0_1 : Int) (a1_0 : Int) (a1_1 : Int) : Option (Int × Int):=(calxref04_divisor.f k a0_1 a1_1).bind fun t104 => (if t104 = 0 then (none) else ((calxref04_divisor.f k (wrap64 ((wrap64 (a0_0 * (wrap64 (Int.tdiv a1_1 t104)))) + (wrap64 (a1_0 * (wrap64 (Int.tdiv a0_1 t104)))))) t104).bind fun t105 => (if t105 = 0 then (none) else (some (wrap64 (Int.tdiv (wrap64 ((wrap64 (a0_0 * (wrap64 (Int.tdiv a1_1 t104)))) + (wrap64 (a1_0 * (wrap64 (Int.tdiv a0_1 t104)))))) t105),wrap64 ((wrap64 (Int.tdiv a0_1 t104)) * (wrap64 (Int.tdiv a1_1 t105))))))))
def calxref04_add.T2 : Bool × List (List Nat × List Nat):=(true,[([],[]),([0],[0]),([],[]),([2],[2]),([],[]),([3,4],[3,4]),([1,5],[1,5]),([],[]),([7],[7]),([],[]),([9],[9]),([],[]),([10,11],[10,11]),([8,12],[8,12]),([6,13],[6,13]),([14,0,1,2,3,4,5,6,7,8,9,10,11,12,13,14],[14])])
def calxref04_add.B2 : List Nat:=[0,1,0,4,0,28,63,0,128,0,512,0,3584,8064,16383,32767]
theorem calxref04_add.tab2 : rtab .any (opsOf Tryz.f111 2) = calxref04_add.T2:=by kernel_rfl
theorem calxref04_add.bits2 : waitsOk calxref04_add.T2.2 calxref04_add.B2 = true:=by kernel_rfl
def calxref04_add.T4 : Bool × List (List Nat × List Nat):=(true,[([],[]),([],[]),([0,1],[0,1]),([],[]),([3],[3]),([],[]),([4,5],[4,5]),([],[]),([7],[7]),([],[]),([8,9],[8,9]),([6,10],[6,10]),([2,11],[2,11]),([12,0,1,2,3,4,5,6,7,8,9,10,11,12],[12])])
def calxref04_add.B4 : List Nat:=[0,0,3,0,8,0,56,0,128,0,896,2040,4095,8191]
theorem calxref04_add.tab4 : rtab .any (opsOf Tryz.f111 4) = calxref04_add.T4:=by kernel_rfl
theorem calxref04_add.bits4 : waitsOk calxref04_add.T4.2 calxref04_add.B4 = true:=by kernel_rfl
set_option maxHeartbeats 8000000 in
set_option maxRecDepth 100000 in
theorem calxref04_add.calls (k : Nat) (a0_0 : Int) (a0_1 : Int) (a1_0 : Int) (a1_1 : Int) (r1 : Int) (r2 : Int) (w : World) (h : calxref04_add.f k a0_0 a0_1 a1_0 a1_1 = some (r1,r2)) :
  Calls Tryz.prog 111 #[.agg #[.int .i64 a0_0,.int .i64 a0_1],.agg #[.int .i64 a1_0,.int .i64 a1_1]] w fun e w' => e = .returned (.agg #[.int .i64 r1,.int .i64 r2]) ∧ Below w.heap.size w w':=by
 have hu43:=Tryz.underlying43
 have HB:=am (Below.refl w.heap.size w)
 have H : ((calxref04_divisor.f k a0_1 a1_1).bind fun t104 => (if t104 = 0 then (none) else ((calxref04_divisor.f k (wrap64 ((wrap64 (a0_0 * (wrap64 (Int.tdiv a1_1 t104)))) + (wrap64 (a1_0 * (wrap64 (Int.tdiv a0_1 t104)))))) t104).bind fun t105 => (if t105 = 0 then (none) else (some (wrap64 (Int.tdiv (wrap64 ((wrap64 (a0_0 * (wrap64 (Int.tdiv a1_1 t104)))) + (wrap64 (a1_0 * (wrap64 (Int.tdiv a0_1 t104)))))) t105),wrap64 ((wrap64 (Int.tdiv a0_1 t104)) * (wrap64 (Int.tdiv a1_1 t105))))))))) = some (r1,r2):=h
 clear h
 replace H:=Option.bind_eq_some_iff.mp H
 obtain ⟨t104,A30,H⟩:=H
 replace H : (if t104 = 0 then (none) else ((calxref04_divisor.f k (wrap64 ((wrap64 (a0_0 * (wrap64 (Int.tdiv a1_1 t104)))) + (wrap64 (a1_0 * (wrap64 (Int.tdiv a0_1 t104)))))) t104).bind fun t105 => (if t105 = 0 then (none) else (some (wrap64 (Int.tdiv (wrap64 ((wrap64 (a0_0 * (wrap64 (Int.tdiv a1_1 t104)))) + (wrap64 (a1_0 * (wrap64 (Int.tdiv a0_1 t104)))))) t105),wrap64 ((wrap64 (Int.tdiv a0_1 t104)) * (wrap64 (Int.tdiv a1_1 t105)))))))) = some (r1,r2):=H
 have A3:=am A30
 clear A30
 by_cases c4 : t104 = 0
 ·rw [if_pos c4] at H
  exact absurd H (by simp)
 ·rw [if_neg c4] at H
  have c4b0 : (t104 == 0) = false:=beq_eq_false_iff_ne.mpr c4
  have c4b1 : (t104 != 0) = true:=bne_iff_ne.mpr c4
  replace H:=Option.bind_eq_some_iff.mp H
  obtain ⟨t105,A50,H⟩:=H
  replace H : (if t105 = 0 then (none) else (some (wrap64 (Int.tdiv (wrap64 ((wrap64 (a0_0 * (wrap64 (Int.tdiv a1_1 t104)))) + (wrap64 (a1_0 * (wrap64 (Int.tdiv a0_1 t104)))))) t105),wrap64 ((wrap64 (Int.tdiv a0_1 t104)) * (wrap64 (Int.tdiv a1_1 t105)))))) = some (r1,r2):=H
  have A5:=am A50
  clear A50
  by_cases c6 : t105 = 0
  ·rw [if_pos c6] at H
   exact absurd H (by simp)
  ·rw [if_neg c6] at H
   have c6b0 : (t105 == 0) = false:=beq_eq_false_iff_ne.mpr c6
   have c6b1 : (t105 != 0) = true:=bne_iff_ne.mpr c6
   simp only [Option.some.injEq,Prod.mk.injEq] at H
   obtain ⟨rfl,rfl⟩:=H
   go_enter Tryz.func111,Tryz.ntmps111
   try go_wp2_with (first|((with_reducible refine gate_dst (N:=2) rfl ?_);refine box_event ?hg (N:=2) ?hd (cs:=#[.int .i64 a0_0,.int .i64 a0_1]) (t:=43) ?hr ?_;(case hd => rfl);(case hg => rfl);(case hr => first|(go_simp;done)|(go_simp;rfl));intro gb101 hg w7 hbox hb;have n0_:=am (below_step (v0 HB.out) hb);have n1_:=am (hbox);have n2_:=am ((by rw [hg];exact (below_size (v0 HB.out)) : w.heap.size ≤ gb101));have n3_:=am ((by rw [hg];exact (below_size (v0 HB.out)) : w.heap.size ≤ gb101));clear HB;have HB:=n0_;have BK101:=n1_;have GW101:=n2_;have GE101:=n3_;clear n0_ n1_ n2_ n3_;clear hb hbox hg)|((with_reducible refine gate_dst (N:=3) rfl ?_);refine box_event ?hg (N:=3) ?hd (cs:=#[.int .i64 a1_0,.int .i64 a1_1]) (t:=43) ?hr ?_;(case hd => rfl);(case hg => rfl);(case hr => first|(go_simp;done)|(go_simp;rfl));intro gb102 hg w8 hbox hb;have n0_:=am (blk_below (g:=gb101) (o:=.cells #[.int .i64 a0_0,.int .i64 a0_1] 43 (0,0)) (vb BK101.out) hb);have n1_:=am (below_step (v1 HB.out GE101.out) hb);have n2_:=am (hbox);have n3_:=am ((by rw [hg];exact (below_size (v1 HB.out GE101.out)) : w.heap.size ≤ gb102));have n4_:=am ((by rw [hg];exact (below_size (v1 HB.out GE101.out)) : w.heap.size ≤ gb102));have n5_:=am ((by rw [hg];exact Nat.ne_of_lt (blk_lt (g:=gb101) (o:=.cells #[.int .i64 a0_0,.int .i64 a0_1] 43 (0,0)) (vb BK101.out)) : gb101 ≠ gb102));have n6_:=am ((by rw [hg];exact Nat.ne_of_gt (blk_lt (g:=gb101) (o:=.cells #[.int .i64 a0_0,.int .i64 a0_1] 43 (0,0)) (vb BK101.out)) : gb102 ≠ gb101));clear BK101;clear HB;have BK101:=n0_;have HB:=n1_;have BK102:=n2_;have GW102:=n3_;have GE102:=n4_;have NB101_102:=n5_;have NB102_101:=n6_;clear n0_ n1_ n2_ n3_ n4_ n5_ n6_;clear hb hbox hg)|((with_reducible refine gate_dst (N:=4) rfl ?_);refine box_event ?hg (N:=4) ?hd (cs:=#[.int .i64 0,.int .i64 0]) (t:=43) ?hr ?_;(case hd => rfl);(case hg => rfl);(case hr => first|(go_simp;done)|(go_simp;rfl));intro gb103 hg w9 hbox hb;have n0_:=am (blk_below (g:=gb101) (o:=.cells #[.int .i64 a0_0,.int .i64 a0_1] 43 (0,0)) (vb BK101.out) hb);have n1_:=am (blk_below (g:=gb102) (o:=.cells #[.int .i64 a1_0,.int .i64 a1_1] 43 (0,0)) (vb BK102.out) hb);have n2_:=am (below_step (v2 HB.out GE101.out GE102.out) hb);have n3_:=am (hbox);have n4_:=am ((by rw [hg];exact (below_size (v2 HB.out GE101.out GE102.out)) : w.heap.size ≤ gb103));have n5_:=am ((by rw [hg];exact (below_size (v2 HB.out GE101.out GE102.out)) : w.heap.size ≤ gb103));have n6_:=am ((by rw [hg];exact Nat.ne_of_lt (blk_lt (g:=gb101) (o:=.cells #[.int .i64 a0_0,.int .i64 a0_1] 43 (0,0)) (vb BK101.out)) : gb101 ≠ gb103));have n7_:=am ((by rw [hg];exact Nat.ne_of_gt (blk_lt (g:=gb101) (o:=.cells #[.int .i64 a0_0,.int .i64 a0_1] 43 (0,0)) (vb BK101.out)) : gb103 ≠ gb101));have n8_:=am ((by rw [hg];exact Nat.ne_of_lt (blk_lt (g:=gb102) (o:=.cells #[.int .i64 a1_0,.int .i64 a1_1] 43 (0,0)) (vb BK102.out)) : gb102 ≠ gb103));have n9_:=am ((by rw [hg];exact Nat.ne_of_gt (blk_lt (g:=gb102) (o:=.cells #[.int .i64 a1_0,.int .i64 a1_1] 43 (0,0)) (vb BK102.out)) : gb103 ≠ gb102));clear BK101;clear BK102;clear HB;have BK101:=n0_;have BK102:=n1_;have HB:=n2_;have BK103:=n3_;have GW103:=n4_;have GE103:=n5_;have NB101_103:=n6_;have NB103_101:=n7_;have NB102_103:=n8_;have NB103_102:=n9_;clear n0_ n1_ n2_ n3_ n4_ n5_ n6_ n7_ n8_ n9_;clear hb hbox hg;have hnb10:=NB101_102.out;have hnc10:=NB102_101.out;have hnb11:=NB101_103.out;have hnc11:=NB103_101.out;have hcz12_0:=bc BK101.out 0 (.int .i64 a0_0);have hcz12_1:=bc BK101.out 1 (.int .i64 a0_1);have hfz12_0:=blk_frozen BK101.out 0;have hfz12_1:=blk_frozen BK101.out 1;have hnb13:=NB102_103.out;have hnc13:=NB103_102.out;have hcz14_0:=bc BK102.out 0 (.int .i64 a1_0);have hcz14_1:=bc BK102.out 1 (.int .i64 a1_1);have hfz14_0:=blk_frozen BK102.out 0;have hfz14_1:=blk_frozen BK102.out 1)|((with_reducible refine gate_callee (f:=168) rfl ?_);refine goesL_ (some 12) rfl rfl Tryz.func168 kr rfl #[.int .i64 a0_1,.int .i64 a1_1] rfl vm ?_;(with_reducible refine (calxref04_divisor.calls k a0_1 a1_1 t104 _ A3.out).mono ?_);rintro e w' ⟨rfl,⟨nd,rfl⟩⟩;refine ⟨_,rfl,?_⟩;(try (rw [drewN_self w9];generalize hq_ : World.drewN w9 _ = w9;have n0_ : Aside0 (w9.heap[gb101]? = some (.cells #[.int .i64 a0_0,.int .i64 a0_1] 43 (0,0))):=⟨by rw [← hq_];exact (vb BK101.out)⟩;have n1_ : Aside0 (w9.heap[gb102]? = some (.cells #[.int .i64 a1_0,.int .i64 a1_1] 43 (0,0))):=⟨by rw [← hq_];exact (vb BK102.out)⟩;have n2_ : Aside0 (w9.heap[gb103]? = some (.cells #[.int .i64 0,.int .i64 0] 43 (0,0))):=⟨by rw [← hq_];exact (vb BK103.out)⟩;have n3_ : Aside0 (Below w.heap.size w w9):=⟨by rw [← hq_];exact (v3 HB.out GE101.out GE102.out GE103.out)⟩;clear BK101 BK102 BK103 HB hq_;have BK101:=n0_;have BK102:=n1_;have BK103:=n2_;have HB:=n3_;clear n0_ n1_ n2_ n3_))))
   have n0_:=am (blk_drew BK101.out)
   have n1_:=am (blk_drew BK102.out)
   have n2_:=am (blk_drew BK103.out)
   have n3_:=am (below_drew1 HB.out)
   clear BK101
   clear BK102
   clear BK103
   clear HB
   have BK101:=n0_
   have BK102:=n1_
   have BK103:=n2_
   have HB:=n3_
   clear n0_ n1_ n2_ n3_
   refine start_ (n:=16) (S:=fun w' => w'.cell? ⟨gb101,0,none⟩ = some (.int .i64 a0_0) ∧ w'.cell? ⟨gb101,1,none⟩ = some (.int .i64 a0_1) ∧ w'.cell? ⟨gb102,0,none⟩ = some (.int .i64 a1_0) ∧ w'.cell? ⟨gb102,1,none⟩ = some (.int .i64 a1_1)) (ds:=[]) #[false,false,false,false,false,false,false,false,false,false,false,false,false,false,false,false] kr rfl rfl ⟨(blk_cell BK101.out 0).trans rfl,(blk_cell BK101.out 1).trans rfl,(blk_cell BK102.out 0).trans rfl,(blk_cell BK102.out 1).trans rfl⟩ (fun hHeld => ?_);refine with_tabW calxref04_add.tab2 calxref04_add.bits2 (fun HT_ HW_ => ?_)
   generalize w9.drew = w15 at BK101 BK102 BK103 HB hHeld ⊢
   refine pA 0 (some 13) ?_ 16 1 HT_.out ?_ ?_ ?_ ?_
   rotate_left
   ·intro w'
    go_simp
    with_reducible rfl
   rotate_left
   ·exact vs
   refine pA 2 (some 15) ?_ 16 5 HT_.out ?_ ?_ ?_ ?_
   rotate_left
   ·intro w'
    go_simp
    with_reducible rfl
   rotate_left
   ·exact vs
   refine pA 4 (some 17) ?_ 16 21 HT_.out ?_ ?_ ?_ ?_
   rotate_left
   ·intro w'
    go_simp
    with_reducible rfl
   rotate_left
   ·exact vs
   refine pA 7 (some 20) ?_ 16 149 HT_.out ?_ ?_ ?_ ?_
   rotate_left
   ·intro w'
    go_simp
    with_reducible rfl
   rotate_left
   ·exact vs
   refine pA 9 (some 22) ?_ 16 661 HT_.out ?_ ?_ ?_ ?_
   rotate_left
   ·intro w'
    go_simp
    with_reducible rfl
   rotate_left
   ·exact vs
   refine pA 11 (some 24) ?_ 16 2709 HT_.out ?_ ?_ ?_ ?_
   rotate_left
   ·intro w'
    go_simp
    with_reducible rfl
   rotate_left
   ·exact vs
   refine tA 1 (some 14) ?_ 16 2711 HT_.out HW_.out ?_ hHeld ?_ ?_ ?_
   rotate_left
   ·rintro w' ⟨s0,s1,s2,s3⟩
    go_simp
    with_reducible rfl
   rotate_left
   ·exact vs
   refine tA 3 (some 16) ?_ 16 2719 HT_.out HW_.out ?_ hHeld ?_ ?_ ?_
   rotate_left
   ·rintro w' ⟨s0,s1,s2,s3⟩
    go_simp
    with_reducible rfl
   rotate_left
   ·exact vs
   refine pA 5 (some 18) ?_ 16 2751 HT_.out ?_ ?_ ?_ ?_
   rotate_left
   ·intro w'
    go_simp
    with_reducible rfl
   rotate_left
   ·exact vs
   refine pA 6 (some 19) ?_ 16 2815 HT_.out ?_ ?_ ?_ ?_
   rotate_left
   ·intro w'
    go_simp
    with_reducible rfl
   rotate_left
   ·exact vs
   refine tA 8 (some 21) ?_ 16 3071 HT_.out HW_.out ?_ hHeld ?_ ?_ ?_
   rotate_left
   ·rintro w' ⟨s0,s1,s2,s3⟩
    go_simp
    with_reducible rfl
   rotate_left
   ·exact vs
   refine tA 10 (some 23) ?_ 16 4095 HT_.out HW_.out ?_ hHeld ?_ ?_ ?_
   rotate_left
   ·rintro w' ⟨s0,s1,s2,s3⟩
    go_simp
    with_reducible rfl
   rotate_left
   ·exact vs
   refine pA 12 (some 25) ?_ 16 8191 HT_.out ?_ ?_ ?_ ?_
   rotate_left
   ·intro w'
    go_simp
    with_reducible rfl
   rotate_left
   ·exact vs
   refine pA 13 (some 26) ?_ 16 16383 HT_.out ?_ ?_ ?_ ?_
   rotate_left
   ·intro w'
    go_simp
    with_reducible rfl
   rotate_left
   ·exact vs
   refine pA 14 (some 27) ?_ 16 32767 HT_.out ?_ ?_ ?_ ?_
   rotate_left
   ·intro w'
    go_simp
    with_reducible rfl
   rotate_left
   ·exact vs
   refine pA 15 (some 6) ?_ 16 65535 HT_.out ?_ ?_ ?_ ?_
   rotate_left
   ·intro w'
    go_simp
    with_reducible rfl
   rotate_left
   ·exact vs
   refine done_ (done_of HT_.out kr) ?_
   try go_wp2_with (first|((with_reducible refine gate_callee (f:=168) rfl ?_);refine goesL_ (some 30) rfl rfl Tryz.func168 kr rfl #[.int .i64 (wrap64 ((wrap64 (a0_0 * (wrap64 (Int.tdiv a1_1 t104)))) + (wrap64 (a1_0 * (wrap64 (Int.tdiv a0_1 t104)))))),.int .i64 t104] rfl vm ?_;(with_reducible refine (calxref04_divisor.calls k (wrap64 ((wrap64 (a0_0 * (wrap64 (Int.tdiv a1_1 t104)))) + (wrap64 (a1_0 * (wrap64 (Int.tdiv a0_1 t104)))))) t104 t105 _ A5.out).mono ?_);rintro e w' ⟨rfl,⟨nd,rfl⟩⟩;refine ⟨_,rfl,?_⟩;(try (rw [drewN_self w15];generalize hq_ : World.drewN w15 _ = w15;have n0_ : Aside0 (w15.heap[gb101]? = some (.cells #[.int .i64 a0_0,.int .i64 a0_1] 43 (0,0))):=⟨by rw [← hq_];exact (vb BK101.out)⟩;have n1_ : Aside0 (w15.heap[gb102]? = some (.cells #[.int .i64 a1_0,.int .i64 a1_1] 43 (0,0))):=⟨by rw [← hq_];exact (vb BK102.out)⟩;have n2_ : Aside0 (w15.heap[gb103]? = some (.cells #[.int .i64 0,.int .i64 0] 43 (0,0))):=⟨by rw [← hq_];exact (vb BK103.out)⟩;have n3_ : Aside0 (Below w.heap.size w w15):=⟨by rw [← hq_];exact (v3 HB.out GE101.out GE102.out GE103.out)⟩;clear BK101 BK102 BK103 HB hq_;have BK101:=n0_;have BK102:=n1_;have BK103:=n2_;have HB:=n3_;clear n0_ n1_ n2_ n3_))))
   have n0_:=am (blk_drew BK101.out)
   have n1_:=am (blk_drew BK102.out)
   have n2_:=am (blk_drew BK103.out)
   have n3_:=am (below_drew1 HB.out)
   clear BK101
   clear BK102
   clear BK103
   clear HB
   have BK101:=n0_
   have BK102:=n1_
   have BK103:=n2_
   have HB:=n3_
   clear n0_ n1_ n2_ n3_
   refine start_ (n:=14) (S:=fun w' => w'.cell? ⟨gb101,0,none⟩ = some (.int .i64 a0_0) ∧ w'.cell? ⟨gb101,1,none⟩ = some (.int .i64 a0_1) ∧ w'.cell? ⟨gb102,0,none⟩ = some (.int .i64 a1_0) ∧ w'.cell? ⟨gb102,1,none⟩ = some (.int .i64 a1_1)) (ds:=[]) #[false,false,false,false,false,false,false,false,false,false,false,false,false,false] kr rfl rfl ⟨(blk_cell BK101.out 0).trans rfl,(blk_cell BK101.out 1).trans rfl,(blk_cell BK102.out 0).trans rfl,(blk_cell BK102.out 1).trans rfl⟩ (fun hHeld => ?_);refine with_tabW calxref04_add.tab4 calxref04_add.bits4 (fun HT_ HW_ => ?_)
   generalize w15.drew = w16 at BK101 BK102 BK103 HB hHeld ⊢
   refine pA 0 (some 31) ?_ 14 1 HT_.out ?_ ?_ ?_ ?_
   rotate_left
   ·intro w'
    go_simp
    with_reducible rfl
   rotate_left
   ·exact vs
   refine pA 1 (some 32) ?_ 14 3 HT_.out ?_ ?_ ?_ ?_
   rotate_left
   ·intro w'
    go_simp
    with_reducible rfl
   rotate_left
   ·exact vs
   refine pA 2 (some 33) ?_ 14 7 HT_.out ?_ ?_ ?_ ?_
   rotate_left
   ·intro w'
    go_simp
    with_reducible rfl
   rotate_left
   ·exact vs
   refine pA 3 (some 34) ?_ 14 15 HT_.out ?_ ?_ ?_ ?_
   rotate_left
   ·intro w'
    go_simp
    with_reducible rfl
   rotate_left
   ·exact vs
   refine pA 5 (some 36) ?_ 14 47 HT_.out ?_ ?_ ?_ ?_
   rotate_left
   ·intro w'
    go_simp
    with_reducible rfl
   rotate_left
   ·exact vs
   refine pA 7 (some 38) ?_ 14 175 HT_.out ?_ ?_ ?_ ?_
   rotate_left
   ·intro w'
    go_simp
    with_reducible rfl
   rotate_left
   ·exact vs
   refine pA 9 (some 40) ?_ 14 687 HT_.out ?_ ?_ ?_ ?_
   rotate_left
   ·intro w'
    go_simp
    with_reducible rfl
   rotate_left
   ·exact vs
   refine tA 4 (some 35) ?_ 14 703 HT_.out HW_.out ?_ hHeld ?_ ?_ ?_
   rotate_left
   ·rintro w' ⟨s0,s1,s2,s3⟩
    go_simp
    with_reducible rfl
   rotate_left
   ·exact vs
   refine pA 6 (some 37) ?_ 14 767 HT_.out ?_ ?_ ?_ ?_
   rotate_left
   ·intro w'
    go_simp
    with_reducible rfl
   rotate_left
   ·exact vs
   refine tA 8 (some 39) ?_ 14 1023 HT_.out HW_.out ?_ hHeld ?_ ?_ ?_
   rotate_left
   ·rintro w' ⟨s0,s1,s2,s3⟩
    go_simp
    with_reducible rfl
   rotate_left
   ·exact vs
   refine pA 10 (some 41) ?_ 14 2047 HT_.out ?_ ?_ ?_ ?_
   rotate_left
   ·intro w'
    go_simp
    with_reducible rfl
   rotate_left
   ·exact vs
   refine pA 11 (some 42) ?_ 14 4095 HT_.out ?_ ?_ ?_ ?_
   rotate_left
   ·intro w'
    go_simp
    with_reducible rfl
   rotate_left
   ·exact vs
   refine pA 12 (some 43) ?_ 14 8191 HT_.out ?_ ?_ ?_ ?_
   rotate_left
   ·intro w'
    go_simp
    with_reducible rfl
   rotate_left
   ·exact vs
   refine one_ (i:=13) (N:=none) (ab 14 16383) rfl rfl (one_of HT_.out kr) (by decide) (fun K hK => ?_)
   have hs17:=bc BK103.out 0 (.int .i64 0)
   have hfs17:=blk_frozen BK103.out 0
   have hns17_0:=NB101_103.out
   have hns17_1:=NB102_103.out
   have hms17_0:=NB103_101.out
   have hms17_1:=NB103_102.out
   have hs18:=bc BK103.out 1 (.int .i64 0)
   have hfs18:=blk_frozen BK103.out 1
   have hns18_0:=NB101_103.out
   have hns18_1:=NB102_103.out
   have hms18_0:=NB103_101.out
   have hms18_1:=NB103_102.out
   refine skip_ (w1:=?_) (by rfl) rfl ?_ ?_
   rotate_left
   ·go_simp
    rfl
   refine hK.out _ _ ⟨((cell_far (p:=⟨gb103,_,none⟩) NB101_103.out _).trans (((cell_far (p:=⟨gb103,_,none⟩) NB101_103.out _).trans (hHeld.1)))),((cell_far (p:=⟨gb103,_,none⟩) NB101_103.out _).trans (((cell_far (p:=⟨gb103,_,none⟩) NB101_103.out _).trans (hHeld.2.1)))),((cell_far (p:=⟨gb103,_,none⟩) NB102_103.out _).trans (((cell_far (p:=⟨gb103,_,none⟩) NB102_103.out _).trans (hHeld.2.2.1)))),((cell_far (p:=⟨gb103,_,none⟩) NB102_103.out _).trans (((cell_far (p:=⟨gb103,_,none⟩) NB102_103.out _).trans (hHeld.2.2.2))))⟩ (fun hHeld => ?_)
   clear hK K
   refine done_ (done_of HT_.out kr) ?_
   try go_wp2
   refine bodyPost_ret (results_cell_row rfl _ _ gb103 43 #[.int .i64 (wrap64 (Int.tdiv (wrap64 ((wrap64 (a0_0 * (wrap64 (Int.tdiv a1_1 t104)))) + (wrap64 (a1_0 * (wrap64 (Int.tdiv a0_1 t104)))))) t105)),.int .i64 (wrap64 ((wrap64 (Int.tdiv a0_1 t104)) * (wrap64 (Int.tdiv a1_1 t105))))] (0,0) _ rfl (by (with_reducible repeat (first|refine blk_drewN ?_ _|refine blk_drew ?_|refine blk_alloc ?_ _));refine blk_put (cs:=#[.int .i64 (wrap64 (Int.tdiv (wrap64 ((wrap64 (a0_0 * (wrap64 (Int.tdiv a1_1 t104)))) + (wrap64 (a1_0 * (wrap64 (Int.tdiv a0_1 t104)))))) t105)),.int .i64 0]) ?_ 1 _ rfl;(with_reducible repeat (first|refine blk_drewN ?_ _|refine blk_drew ?_|refine blk_alloc ?_ _));refine blk_put (cs:=#[.int .i64 0,.int .i64 0]) ?_ 0 _ rfl;(with_reducible repeat (first|refine blk_drewN ?_ _|refine blk_drew ?_|refine blk_alloc ?_ _));exact BK103.out) Tryz.underlying43 rfl kr) rfl ?_
   exact ⟨vf,v3 HB.out GE101.out GE102.out GE103.out⟩
def calxref04_Add.j0 : Nat → Bool → Int → Int → Int → Int → Option (Int × Int × Int)
|0,_,_,_,_,_ => none
|k + 1,x16,x102000,x102001,x103000,x103001 => if x16 = true then (some (0,0,1)) else ((calxref04_add.f k x102000 x102001 x103000 x103001).bind fun bt106 => ((calxref04_made.f k bt106.1 bt106.2).bind fun bt108 => (some (bt108.1,bt108.2.1,bt108.2.2))))
def calxref04_Add.f (k : Nat) (a0_0 : Int) (a0_1 : Int) (a1_0 : Int) (a1_1 : Int) : Option (Int × Int × Int):=(calxref04_Valid.f k a0_0 a0_1).bind fun t104 => ((calxref04_Valid.f k a1_0 a1_1).bind fun t105 => (if t104 = true then (calxref04_Add.j0 k (!t105) a0_0 a0_1 a1_0 a1_1) else (calxref04_Add.j0 k true a0_0 a0_1 a1_0 a1_1)))
set_option maxHeartbeats 8000000 in
set_option maxRecDepth 100000 in
theorem calxref04_Add.calls (k : Nat) (a0_0 : Int) (a0_1 : Int) (a1_0 : Int) (a1_1 : Int) (r1 : Int) (r2 : Int) (r3 : Int) (w : World) (h : calxref04_Add.f k a0_0 a0_1 a1_0 a1_1 = some (r1,r2,r3)) :
  Calls Tryz.prog 47 #[.agg #[.int .i64 a0_0,.int .i64 a0_1],.agg #[.int .i64 a1_0,.int .i64 a1_1]] w fun e w' => e = .returned (.agg #[.int .i64 r1,.int .i64 r2,.int .i64 r3]) ∧ Below w.heap.size w w':=by
 have hu43:=Tryz.underlying43
 have hu63:=Tryz.underlying63
 have HB:=am (Below.refl w.heap.size w)
 have H : ((calxref04_Valid.f k a0_0 a0_1).bind fun t104 => ((calxref04_Valid.f k a1_0 a1_1).bind fun t105 => (if t104 = true then (calxref04_Add.j0 k (!t105) a0_0 a0_1 a1_0 a1_1) else (calxref04_Add.j0 k true a0_0 a0_1 a1_0 a1_1)))) = some (r1,r2,r3):=h
 clear h
 replace H:=Option.bind_eq_some_iff.mp H
 obtain ⟨t104,A30,H⟩:=H
 replace H : ((calxref04_Valid.f k a1_0 a1_1).bind fun t105 => (if t104 = true then (calxref04_Add.j0 k (!t105) a0_0 a0_1 a1_0 a1_1) else (calxref04_Add.j0 k true a0_0 a0_1 a1_0 a1_1))) = some (r1,r2,r3):=H
 have A3:=am A30
 clear A30
 replace H:=Option.bind_eq_some_iff.mp H
 obtain ⟨t105,A40,H⟩:=H
 replace H : (if t104 = true then (calxref04_Add.j0 k (!t105) a0_0 a0_1 a1_0 a1_1) else (calxref04_Add.j0 k true a0_0 a0_1 a1_0 a1_1)) = some (r1,r2,r3):=H
 have A4:=am A40
 clear A40
 have HC5:=am H
 clear H
 go_enter Tryz.func47,Tryz.ntmps47
 go_upto_region 3 with (first|((with_reducible refine gate_dst (N:=2) rfl ?_);refine box_event ?hg (N:=2) ?hd (cs:=#[.int .i64 a0_0,.int .i64 a0_1]) (t:=43) ?hr ?_;(case hd => rfl);(case hg => rfl);(case hr => first|(go_simp;done)|(go_simp;rfl));intro gb101 hg w6 hbox hb;have n0_:=am (below_step (v0 HB.out) hb);have n1_:=am (hbox);have n2_:=am ((by rw [hg];exact (below_size (v0 HB.out)) : w.heap.size ≤ gb101));have n3_:=am ((by rw [hg];exact (below_size (v0 HB.out)) : w.heap.size ≤ gb101));clear HB;have HB:=n0_;have BK101:=n1_;have GW101:=n2_;have GE101:=n3_;clear n0_ n1_ n2_ n3_;clear hb hbox hg)|((with_reducible refine gate_dst (N:=3) rfl ?_);refine box_event ?hg (N:=3) ?hd (cs:=#[.int .i64 a1_0,.int .i64 a1_1]) (t:=43) ?hr ?_;(case hd => rfl);(case hg => rfl);(case hr => first|(go_simp;done)|(go_simp;rfl));intro gb102 hg w7 hbox hb;have n0_:=am (blk_below (g:=gb101) (o:=.cells #[.int .i64 a0_0,.int .i64 a0_1] 43 (0,0)) (vb BK101.out) hb);have n1_:=am (below_step (v1 HB.out GE101.out) hb);have n2_:=am (hbox);have n3_:=am ((by rw [hg];exact (below_size (v1 HB.out GE101.out)) : w.heap.size ≤ gb102));have n4_:=am ((by rw [hg];exact (below_size (v1 HB.out GE101.out)) : w.heap.size ≤ gb102));have n5_:=am ((by rw [hg];exact Nat.ne_of_lt (blk_lt (g:=gb101) (o:=.cells #[.int .i64 a0_0,.int .i64 a0_1] 43 (0,0)) (vb BK101.out)) : gb101 ≠ gb102));have n6_:=am ((by rw [hg];exact Nat.ne_of_gt (blk_lt (g:=gb101) (o:=.cells #[.int .i64 a0_0,.int .i64 a0_1] 43 (0,0)) (vb BK101.out)) : gb102 ≠ gb101));clear BK101;clear HB;have BK101:=n0_;have HB:=n1_;have BK102:=n2_;have GW102:=n3_;have GE102:=n4_;have NB101_102:=n5_;have NB102_101:=n6_;clear n0_ n1_ n2_ n3_ n4_ n5_ n6_;clear hb hbox hg)|((with_reducible refine gate_dst (N:=4) rfl ?_);refine box_event ?hg (N:=4) ?hd (cs:=#[.int .i64 0,.int .i64 0,.int .i64 0]) (t:=63) ?hr ?_;(case hd => rfl);(case hg => rfl);(case hr => first|(go_simp;done)|(go_simp;rfl));intro gb103 hg w8 hbox hb;have n0_:=am (blk_below (g:=gb101) (o:=.cells #[.int .i64 a0_0,.int .i64 a0_1] 43 (0,0)) (vb BK101.out) hb);have n1_:=am (blk_below (g:=gb102) (o:=.cells #[.int .i64 a1_0,.int .i64 a1_1] 43 (0,0)) (vb BK102.out) hb);have n2_:=am (below_step (v2 HB.out GE101.out GE102.out) hb);have n3_:=am (hbox);have n4_:=am ((by rw [hg];exact (below_size (v2 HB.out GE101.out GE102.out)) : w.heap.size ≤ gb103));have n5_:=am ((by rw [hg];exact (below_size (v2 HB.out GE101.out GE102.out)) : w.heap.size ≤ gb103));have n6_:=am ((by rw [hg];exact Nat.ne_of_lt (blk_lt (g:=gb101) (o:=.cells #[.int .i64 a0_0,.int .i64 a0_1] 43 (0,0)) (vb BK101.out)) : gb101 ≠ gb103));have n7_:=am ((by rw [hg];exact Nat.ne_of_gt (blk_lt (g:=gb101) (o:=.cells #[.int .i64 a0_0,.int .i64 a0_1] 43 (0,0)) (vb BK101.out)) : gb103 ≠ gb101));have n8_:=am ((by rw [hg];exact Nat.ne_of_lt (blk_lt (g:=gb102) (o:=.cells #[.int .i64 a1_0,.int .i64 a1_1] 43 (0,0)) (vb BK102.out)) : gb102 ≠ gb103));have n9_:=am ((by rw [hg];exact Nat.ne_of_gt (blk_lt (g:=gb102) (o:=.cells #[.int .i64 a1_0,.int .i64 a1_1] 43 (0,0)) (vb BK102.out)) : gb103 ≠ gb102));clear BK101;clear BK102;clear HB;have BK101:=n0_;have BK102:=n1_;have HB:=n2_;have BK103:=n3_;have GW103:=n4_;have GE103:=n5_;have NB101_103:=n6_;have NB103_101:=n7_;have NB102_103:=n8_;have NB103_102:=n9_;clear n0_ n1_ n2_ n3_ n4_ n5_ n6_ n7_ n8_ n9_;clear hb hbox hg;have hnb9:=NB101_102.out;have hnc9:=NB102_101.out;have hnb10:=NB101_103.out;have hnc10:=NB103_101.out;have hcz11_0:=bc BK101.out 0 (.int .i64 a0_0);have hcz11_1:=bc BK101.out 1 (.int .i64 a0_1);have hfz11_0:=blk_frozen BK101.out 0;have hfz11_1:=blk_frozen BK101.out 1)|((with_reducible refine gate_callee (f:=127) rfl ?_);refine goesL_ (some 8) rfl rfl Tryz.func127 kr rfl #[.agg #[.int .i64 a0_0,.int .i64 a0_1]] rfl vm ?_;(with_reducible refine (calxref04_Valid.calls k a0_0 a0_1 t104 _ A3.out).mono ?_);rintro e w12 ⟨rfl,hb⟩;refine ⟨_,rfl,?_⟩;have n0_:=am (blk_below (g:=gb101) (o:=.cells #[.int .i64 a0_0,.int .i64 a0_1] 43 (0,0)) (vb BK101.out) hb);have n1_:=am (blk_below (g:=gb102) (o:=.cells #[.int .i64 a1_0,.int .i64 a1_1] 43 (0,0)) (vb BK102.out) hb);have n2_:=am (blk_below (g:=gb103) (o:=.cells #[.int .i64 0,.int .i64 0,.int .i64 0] 63 (0,0)) (vb BK103.out) hb);have n3_:=am (below_step (v3 HB.out GE101.out GE102.out GE103.out) hb);clear BK101;clear BK102;clear BK103;clear HB;have BK101:=n0_;have BK102:=n1_;have BK103:=n2_;have HB:=n3_;clear n0_ n1_ n2_ n3_;(try clear hb);(try clear hb2);(try clear hk);(try clear hi);have hnb13:=NB102_103.out;have hnc13:=NB103_102.out;have hcz14_0:=bc BK102.out 0 (.int .i64 a1_0);have hcz14_1:=bc BK102.out 1 (.int .i64 a1_1);have hfz14_0:=blk_frozen BK102.out 0;have hfz14_1:=blk_frozen BK102.out 1)|((with_reducible refine gate_callee (f:=127) rfl ?_);refine goesL_ (some 10) rfl rfl Tryz.func127 kr rfl #[.agg #[.int .i64 a1_0,.int .i64 a1_1]] rfl vm ?_;(with_reducible refine (calxref04_Valid.calls k a1_0 a1_1 t105 _ A4.out).mono ?_);rintro e w15 ⟨rfl,hb⟩;refine ⟨_,rfl,?_⟩;have n0_:=am (blk_below (g:=gb101) (o:=.cells #[.int .i64 a0_0,.int .i64 a0_1] 43 (0,0)) (vb BK101.out) hb);have n1_:=am (blk_below (g:=gb102) (o:=.cells #[.int .i64 a1_0,.int .i64 a1_1] 43 (0,0)) (vb BK102.out) hb);have n2_:=am (blk_below (g:=gb103) (o:=.cells #[.int .i64 0,.int .i64 0,.int .i64 0] 63 (0,0)) (vb BK103.out) hb);have n3_:=am (below_step (v3 HB.out GE101.out GE102.out GE103.out) hb);clear BK101;clear BK102;clear BK103;clear HB;have BK101:=n0_;have BK102:=n1_;have BK103:=n2_;have HB:=n3_;clear n0_ n1_ n2_ n3_;(try clear hb);(try clear hb2);(try clear hk);(try clear hi)))
 (try simp only [Act.put,List.setIfInBounds_toArray,List.set_cons_zero,List.set_cons_succ])
 go_cut [16] (fun v16 wc => ∃ (kq : Nat) (x16_4 : Bool),v16 = .bool x16_4 ∧ Aside0 (calxref04_Add.j0 kq x16_4 a0_0 a0_1 a1_0 a1_1 = some (r1,r2,r3)) ∧ Aside0 (kq ≤ k) ∧ Aside0 (wc.heap[gb101]? = some (.cells #[.int .i64 a0_0,.int .i64 a0_1] 43 (0,0))) ∧ Aside0 (wc.heap[gb102]? = some (.cells #[.int .i64 a1_0,.int .i64 a1_1] 43 (0,0))) ∧ Aside0 (wc.heap[gb103]? = some (.cells #[.int .i64 0,.int .i64 0,.int .i64 0] 63 (0,0))) ∧ Aside0 (Below w.heap.size w wc))
 case first =>
  have H:=HC5.out
  clear HC5
  by_cases c16 : t104 = true
  ·subst c16
   have H1 : (calxref04_Add.j0 k (!t105) a0_0 a0_1 a1_0 a1_1) = some (r1,r2,r3):=by rw [if_pos rfl] at H;exact H
   clear H
   have H:=H1
   clear H1
   have H':=am H
   clear H
   go_wp2
   go_meet
   case rel => exact ⟨_,(!t105),ve,H',⟨by first|omega|exact Nat.le_refl _⟩,⟨vb BK101.out⟩,⟨vb BK102.out⟩,⟨vb BK103.out⟩,⟨v3 HB.out GE101.out GE102.out GE103.out⟩⟩
  ·replace c16:=Bool.eq_false_iff.mpr c16
   subst c16
   have H1 : (calxref04_Add.j0 k true a0_0 a0_1 a1_0 a1_1) = some (r1,r2,r3):=by rw [if_neg (show ¬ (false = true) by decide)] at H;exact H
   clear H
   have H:=H1
   clear H1
   have H':=am H
   clear H
   go_wp2
   go_meet
   case rel => exact ⟨_,(true),ve,H',⟨by first|omega|exact Nat.le_refl _⟩,⟨vb BK101.out⟩,⟨vb BK102.out⟩,⟨vb BK103.out⟩,⟨v3 HB.out GE101.out GE102.out GE103.out⟩⟩
 case rest =>
  clear HC5
  try clear c1
  try clear p2
  try clear c4
  try clear c9
  try clear c10
  try clear c12
  try clear c13
  try clear c16
  try clear hcz11_0
  try clear hcz11_1
  try clear hcz14_0
  try clear hcz14_1
  try clear hfz11_0
  try clear hfz11_1
  try clear hfz14_0
  try clear hfz14_1
  obtain ⟨kq,x16_4,rfl,HA,HJ4,BK101,BK102,BK103,HB⟩:=hcut
  cases kq with
 |zero => exact absurd HA.out (by simp [calxref04_Add.j0])
 |succ kj4 =>
   have H:=HA.out
   clear HA
   simp only [calxref04_Add.j0] at H
   by_cases c17 : x16_4 = true
   ·subst c17
    have H1 : (some (0,0,1)) = some (r1,r2,r3):=by rw [if_pos rfl] at H;exact H
    clear H
    have H:=H1
    clear H1
    simp only [Option.some.injEq,Prod.mk.injEq] at H
    obtain ⟨rfl,rfl,rfl⟩:=H
    have hnb18:=NB103_101.out
    have hnc18:=NB101_103.out
    have hnb19:=NB103_102.out
    have hnc19:=NB102_103.out
    have hcz20_0:=bc BK103.out 0 (.int .i64 0)
    have hcz20_1:=bc BK103.out 1 (.int .i64 0)
    have hcz20_2:=bc BK103.out 2 (.int .i64 0)
    have hfz20_0:=blk_frozen BK103.out 0
    have hfz20_1:=blk_frozen BK103.out 1
    have hfz20_2:=blk_frozen BK103.out 2
    go_wp2
    refine bodyPost_ret (results_cell_row rfl _ _ gb103 63 #[.int .i64 0,.int .i64 0,.int .i64 1] (0,0) _ rfl (by (with_reducible repeat (first|refine blk_drewN ?_ _|refine blk_drew ?_|refine blk_alloc ?_ _));refine blk_put (cs:=#[.int .i64 0,.int .i64 0,.int .i64 0]) ?_ 2 _ rfl;(with_reducible repeat (first|refine blk_drewN ?_ _|refine blk_drew ?_|refine blk_alloc ?_ _));refine blk_put (cs:=#[.int .i64 0,.int .i64 0,.int .i64 0]) ?_ 1 _ rfl;(with_reducible repeat (first|refine blk_drewN ?_ _|refine blk_drew ?_|refine blk_alloc ?_ _));refine blk_put (cs:=#[.int .i64 0,.int .i64 0,.int .i64 0]) ?_ 0 _ rfl;(with_reducible repeat (first|refine blk_drewN ?_ _|refine blk_drew ?_|refine blk_alloc ?_ _));exact BK103.out) Tryz.underlying63 rfl kr) rfl ?_
    exact ⟨vf,v3 HB.out GE101.out GE102.out GE103.out⟩
   ·replace c17:=Bool.eq_false_iff.mpr c17
    subst c17
    have H1 : ((calxref04_add.f kj4 a0_0 a0_1 a1_0 a1_1).bind fun bt106 => ((calxref04_made.f kj4 bt106.1 bt106.2).bind fun bt108 => (some (bt108.1,bt108.2.1,bt108.2.2)))) = some (r1,r2,r3):=by rw [if_neg (show ¬ (false = true) by decide)] at H;exact H
    clear H
    have H:=H1
    clear H1
    replace H:=Option.bind_eq_some_iff.mp H
    obtain ⟨⟨t106,t107⟩,A210,H⟩:=H
    replace H : ((calxref04_made.f kj4 t106 t107).bind fun bt108 => (some (bt108.1,bt108.2.1,bt108.2.2))) = some (r1,r2,r3):=H
    have A21:=am A210
    clear A210
    replace H:=Option.bind_eq_some_iff.mp H
    obtain ⟨⟨t108,t109,t110⟩,A220,H⟩:=H
    replace H : (some (t108,t109,t110)) = some (r1,r2,r3):=H
    have A22:=am A220
    clear A220
    simp only [Option.some.injEq,Prod.mk.injEq] at H
    obtain ⟨rfl,rfl,rfl⟩:=H
    have hnb23:=NB101_102.out
    have hnc23:=NB102_101.out
    have hnb24:=NB101_103.out
    have hnc24:=NB103_101.out
    have hcz25_0:=bc BK101.out 0 (.int .i64 a0_0)
    have hcz25_1:=bc BK101.out 1 (.int .i64 a0_1)
    have hfz25_0:=blk_frozen BK101.out 0
    have hfz25_1:=blk_frozen BK101.out 1
    have hnb26:=NB102_103.out
    have hnc26:=NB103_102.out
    have hcz27_0:=bc BK102.out 0 (.int .i64 a1_0)
    have hcz27_1:=bc BK102.out 1 (.int .i64 a1_1)
    have hfz27_0:=blk_frozen BK102.out 0
    have hfz27_1:=blk_frozen BK102.out 1
    go_wp2_with (first|((with_reducible refine gate_callee (f:=111) rfl ?_);refine goesL_ (some 20) rfl rfl Tryz.func111 kr rfl #[.agg #[.int .i64 a0_0,.int .i64 a0_1],.agg #[.int .i64 a1_0,.int .i64 a1_1]] rfl vm ?_;(with_reducible refine (calxref04_add.calls kj4 a0_0 a0_1 a1_0 a1_1 t106 t107 _ A21.out).mono ?_);rintro e w28 ⟨rfl,hb⟩;refine ⟨_,rfl,?_⟩;have n0_:=am (blk_below (g:=gb101) (o:=.cells #[.int .i64 a0_0,.int .i64 a0_1] 43 (0,0)) (vb BK101.out) hb);have n1_:=am (blk_below (g:=gb102) (o:=.cells #[.int .i64 a1_0,.int .i64 a1_1] 43 (0,0)) (vb BK102.out) hb);have n2_:=am (blk_below (g:=gb103) (o:=.cells #[.int .i64 0,.int .i64 0,.int .i64 0] 63 (0,0)) (vb BK103.out) hb);have n3_:=am (below_step (v3 HB.out GE101.out GE102.out GE103.out) hb);clear BK101;clear BK102;clear BK103;clear HB;have BK101:=n0_;have BK102:=n1_;have BK103:=n2_;have HB:=n3_;clear n0_ n1_ n2_ n3_;(try clear hb);(try clear hb2);(try clear hk);(try clear hi))|((with_reducible refine gate_callee (f:=102) rfl ?_);refine goesL_ (some 21) rfl rfl Tryz.func102 kr rfl #[.agg #[.int .i64 t106,.int .i64 t107]] rfl vm ?_;(with_reducible refine (calxref04_made.calls kj4 t106 t107 t108 t109 t110 _ A22.out).mono ?_);rintro e w29 ⟨rfl,hb⟩;refine ⟨_,rfl,?_⟩;have n0_:=am (blk_below (g:=gb101) (o:=.cells #[.int .i64 a0_0,.int .i64 a0_1] 43 (0,0)) (vb BK101.out) hb);have n1_:=am (blk_below (g:=gb102) (o:=.cells #[.int .i64 a1_0,.int .i64 a1_1] 43 (0,0)) (vb BK102.out) hb);have n2_:=am (blk_below (g:=gb103) (o:=.cells #[.int .i64 0,.int .i64 0,.int .i64 0] 63 (0,0)) (vb BK103.out) hb);have n3_:=am (below_step (v3 HB.out GE101.out GE102.out GE103.out) hb);clear BK101;clear BK102;clear BK103;clear HB;have BK101:=n0_;have BK102:=n1_;have BK103:=n2_;have HB:=n3_;clear n0_ n1_ n2_ n3_;(try clear hb);(try clear hb2);(try clear hk);(try clear hi);have hcz30_0:=bc BK103.out 0 (.int .i64 0);have hcz30_1:=bc BK103.out 1 (.int .i64 0);have hcz30_2:=bc BK103.out 2 (.int .i64 0);have hfz30_0:=blk_frozen BK103.out 0;have hfz30_1:=blk_frozen BK103.out 1;have hfz30_2:=blk_frozen BK103.out 2))
    refine bodyPost_ret (results_cell_row rfl _ _ gb103 63 #[.int .i64 t108,.int .i64 t109,.int .i64 t110] (0,0) _ rfl (by (with_reducible repeat (first|refine blk_drewN ?_ _|refine blk_drew ?_|refine blk_alloc ?_ _));refine blk_put (cs:=#[.int .i64 t108,.int .i64 t109,.int .i64 0]) ?_ 2 _ rfl;(with_reducible repeat (first|refine blk_drewN ?_ _|refine blk_drew ?_|refine blk_alloc ?_ _));refine blk_put (cs:=#[.int .i64 t108,.int .i64 0,.int .i64 0]) ?_ 1 _ rfl;(with_reducible repeat (first|refine blk_drewN ?_ _|refine blk_drew ?_|refine blk_alloc ?_ _));refine blk_put (cs:=#[.int .i64 0,.int .i64 0,.int .i64 0]) ?_ 0 _ rfl;(with_reducible repeat (first|refine blk_drewN ?_ _|refine blk_drew ?_|refine blk_alloc ?_ _));exact BK103.out) Tryz.underlying63 rfl kr) rfl ?_
    exact ⟨vf,v3 HB.out GE101.out GE102.out GE103.out⟩
def pit_Times.j0 : Nat → Int → Int → Bool → Int → Int → Option (Int × Int × Int)
|0,_,_,_,_,_ => none
|k + 1,x1,x2,x20,x102000,x102001 => if x20 = true then (some (0,0,1)) else ((pit_times.f k x102000 x102001 x1 x2).bind fun bt106 => ((pit_result.f k bt106.1 bt106.2).bind fun bt108 => (some (bt108.1,bt108.2.1,bt108.2.2))))
def pit_Times.f (k : Nat) (a0_0 : Int) (a0_1 : Int) (a1 : Int) (a2 : Int) : Option (Int × Int × Int):=(pit_valid.f k a0_0 a0_1).bind fun t103 => (if t103 = true then ((pit_within.f a1 0 16384).bind fun t104 => (if t104 = true then ((pit_within.f a2 1 16384).bind fun t105 => (pit_Times.j0 k a1 a2 (!t105) a0_0 a0_1)) else (pit_Times.j0 k a1 a2 true a0_0 a0_1))) else (pit_Times.j0 k a1 a2 true a0_0 a0_1))
set_option maxHeartbeats 8000000 in
set_option maxRecDepth 100000 in
theorem pit_Times.calls (k : Nat) (a0_0 : Int) (a0_1 : Int) (a1 : Int) (a2 : Int) (r1 : Int) (r2 : Int) (r3 : Int) (w : World) (h : pit_Times.f k a0_0 a0_1 a1 a2 = some (r1,r2,r3)) :
  Calls Tryz.prog 48 #[.agg #[.int .i64 a0_0,.int .i64 a0_1],.int .i64 a1,.int .i64 a2] w fun e w' => e = .returned (.tuple #[.agg #[.int .i64 r1,.int .i64 r2],.int .i64 r3]) ∧ Below w.heap.size w w':=by
 have hu43:=Tryz.underlying43
 have HB:=am (Below.refl w.heap.size w)
 have H : ((pit_valid.f k a0_0 a0_1).bind fun t103 => (if t103 = true then ((pit_within.f a1 0 16384).bind fun t104 => (if t104 = true then ((pit_within.f a2 1 16384).bind fun t105 => (pit_Times.j0 k a1 a2 (!t105) a0_0 a0_1)) else (pit_Times.j0 k a1 a2 true a0_0 a0_1))) else (pit_Times.j0 k a1 a2 true a0_0 a0_1))) = some (r1,r2,r3):=h
 clear h
 have HC4:=am H
 clear H
 go_enter Tryz.func48,Tryz.ntmps48
 go_upto_region 1 with (first|((with_reducible refine gate_dst (N:=3) rfl ?_);refine box_event ?hg (N:=3) ?hd (cs:=#[.int .i64 a0_0,.int .i64 a0_1]) (t:=43) ?hr ?_;(case hd => rfl);(case hg => rfl);(case hr => first|(go_simp;done)|(go_simp;rfl));intro gb101 hg w5 hbox hb;have n0_:=am (below_step (v0 HB.out) hb);have n1_:=am (hbox);have n2_:=am ((by rw [hg];exact (below_size (v0 HB.out)) : w.heap.size ≤ gb101));have n3_:=am ((by rw [hg];exact (below_size (v0 HB.out)) : w.heap.size ≤ gb101));clear HB;have HB:=n0_;have BK101:=n1_;have GW101:=n2_;have GE101:=n3_;clear n0_ n1_ n2_ n3_;clear hb hbox hg)|((with_reducible refine gate_dst (N:=6) rfl ?_);refine box_event ?hg (N:=6) ?hd (cs:=#[.int .i64 0,.int .i64 0]) (t:=43) ?hr ?_;(case hd => rfl);(case hg => rfl);(case hr => first|(go_simp;done)|(go_simp;rfl));intro gb102 hg w6 hbox hb;have n0_:=am (blk_below (g:=gb101) (o:=.cells #[.int .i64 a0_0,.int .i64 a0_1] 43 (0,0)) (vb BK101.out) hb);have n1_:=am (below_step (v1 HB.out GE101.out) hb);have n2_:=am (hbox);have n3_:=am ((by rw [hg];exact (below_size (v1 HB.out GE101.out)) : w.heap.size ≤ gb102));have n4_:=am ((by rw [hg];exact (below_size (v1 HB.out GE101.out)) : w.heap.size ≤ gb102));have n5_:=am ((by rw [hg];exact Nat.ne_of_lt (blk_lt (g:=gb101) (o:=.cells #[.int .i64 a0_0,.int .i64 a0_1] 43 (0,0)) (vb BK101.out)) : gb101 ≠ gb102));have n6_:=am ((by rw [hg];exact Nat.ne_of_gt (blk_lt (g:=gb101) (o:=.cells #[.int .i64 a0_0,.int .i64 a0_1] 43 (0,0)) (vb BK101.out)) : gb102 ≠ gb101));clear BK101;clear HB;have BK101:=n0_;have HB:=n1_;have BK102:=n2_;have GW102:=n3_;have GE102:=n4_;have NB101_102:=n5_;have NB102_101:=n6_;clear n0_ n1_ n2_ n3_ n4_ n5_ n6_;clear hb hbox hg))
 (try simp only [Act.put,List.setIfInBounds_toArray,List.set_cons_zero,List.set_cons_succ])
 go_cut [20] (fun v20 wc => ∃ (kq : Nat) (x20_3 : Bool),v20 = .bool x20_3 ∧ Aside0 (pit_Times.j0 kq a1 a2 x20_3 a0_0 a0_1 = some (r1,r2,r3)) ∧ Aside0 (kq ≤ k) ∧ Aside0 (wc.heap[gb101]? = some (.cells #[.int .i64 a0_0,.int .i64 a0_1] 43 (0,0))) ∧ Aside0 (wc.heap[gb102]? = some (.cells #[.int .i64 0,.int .i64 0] 43 (0,0))) ∧ Aside0 (Below w.heap.size w wc))
 case first =>
  have H:=HC4.out
  clear HC4
  replace H:=Option.bind_eq_some_iff.mp H
  obtain ⟨t103,A70,H⟩:=H
  replace H : (if t103 = true then ((pit_within.f a1 0 16384).bind fun t104 => (if t104 = true then ((pit_within.f a2 1 16384).bind fun t105 => (pit_Times.j0 k a1 a2 (!t105) a0_0 a0_1)) else (pit_Times.j0 k a1 a2 true a0_0 a0_1))) else (pit_Times.j0 k a1 a2 true a0_0 a0_1)) = some (r1,r2,r3):=H
  have A7:=am A70
  clear A70
  by_cases c8 : t103 = true
  ·subst c8
   have H1 : ((pit_within.f a1 0 16384).bind fun t104 => (if t104 = true then ((pit_within.f a2 1 16384).bind fun t105 => (pit_Times.j0 k a1 a2 (!t105) a0_0 a0_1)) else (pit_Times.j0 k a1 a2 true a0_0 a0_1))) = some (r1,r2,r3):=by rw [if_pos rfl] at H;exact H
   clear H
   have H:=H1
   clear H1
   replace H:=Option.bind_eq_some_iff.mp H
   obtain ⟨t104,A90,H⟩:=H
   replace H : (if t104 = true then ((pit_within.f a2 1 16384).bind fun t105 => (pit_Times.j0 k a1 a2 (!t105) a0_0 a0_1)) else (pit_Times.j0 k a1 a2 true a0_0 a0_1)) = some (r1,r2,r3):=H
   have A9:=am A90
   clear A90
   by_cases c10 : t104 = true
   ·subst c10
    have H1 : ((pit_within.f a2 1 16384).bind fun t105 => (pit_Times.j0 k a1 a2 (!t105) a0_0 a0_1)) = some (r1,r2,r3):=by rw [if_pos rfl] at H;exact H
    clear H
    have H:=H1
    clear H1
    replace H:=Option.bind_eq_some_iff.mp H
    obtain ⟨t105,A110,H⟩:=H
    replace H : (pit_Times.j0 k a1 a2 (!t105) a0_0 a0_1) = some (r1,r2,r3):=H
    have A11:=am A110
    clear A110
    have H':=am H
    clear H
    have hnb12:=NB101_102.out
    have hnc12:=NB102_101.out
    have hcz13_0:=bc BK101.out 0 (.int .i64 a0_0)
    have hcz13_1:=bc BK101.out 1 (.int .i64 a0_1)
    have hfz13_0:=blk_frozen BK101.out 0
    have hfz13_1:=blk_frozen BK101.out 1
    go_wp2_with (first|((with_reducible refine gate_callee (f:=89) rfl ?_);refine goesL_ (some 9) rfl rfl Tryz.func89 kr rfl #[.agg #[.int .i64 a0_0,.int .i64 a0_1]] rfl vm ?_;(with_reducible refine (pit_valid.calls k a0_0 a0_1 true _ A7.out).mono ?_);rintro e w14 ⟨rfl,hb⟩;refine ⟨_,rfl,?_⟩;have n0_:=am (blk_below (g:=gb101) (o:=.cells #[.int .i64 a0_0,.int .i64 a0_1] 43 (0,0)) (vb BK101.out) hb);have n1_:=am (blk_below (g:=gb102) (o:=.cells #[.int .i64 0,.int .i64 0] 43 (0,0)) (vb BK102.out) hb);have n2_:=am (below_step (v2 HB.out GE101.out GE102.out) hb);clear BK101;clear BK102;clear HB;have BK101:=n0_;have BK102:=n1_;have HB:=n2_;clear n0_ n1_ n2_;(try clear hb);(try clear hb2);(try clear hk);(try clear hi))|(go_at_call 106;(with_reducible refine (pit_within.calls a1 0 16384 true _ A9.out).mono ?_);rintro e w' ⟨rfl,⟨nd,rfl⟩⟩)|(go_at_call 106;(with_reducible refine (pit_within.calls a2 1 16384 t105 _ A11.out).mono ?_);rintro e w' ⟨rfl,⟨nd,rfl⟩⟩))
    go_meet
    case rel => exact ⟨_,(!t105),ve,H',⟨by first|omega|exact Nat.le_refl _⟩,⟨vb BK101.out⟩,⟨vb BK102.out⟩,⟨v2 HB.out GE101.out GE102.out⟩⟩
   ·replace c10:=Bool.eq_false_iff.mpr c10
    subst c10
    have H1 : (pit_Times.j0 k a1 a2 true a0_0 a0_1) = some (r1,r2,r3):=by rw [if_neg (show ¬ (false = true) by decide)] at H;exact H
    clear H
    have H:=H1
    clear H1
    have H':=am H
    clear H
    have hnb15:=NB101_102.out
    have hnc15:=NB102_101.out
    have hcz16_0:=bc BK101.out 0 (.int .i64 a0_0)
    have hcz16_1:=bc BK101.out 1 (.int .i64 a0_1)
    have hfz16_0:=blk_frozen BK101.out 0
    have hfz16_1:=blk_frozen BK101.out 1
    go_wp2_with (first|((with_reducible refine gate_callee (f:=89) rfl ?_);refine goesL_ (some 9) rfl rfl Tryz.func89 kr rfl #[.agg #[.int .i64 a0_0,.int .i64 a0_1]] rfl vm ?_;(with_reducible refine (pit_valid.calls k a0_0 a0_1 true _ A7.out).mono ?_);rintro e w17 ⟨rfl,hb⟩;refine ⟨_,rfl,?_⟩;have n0_:=am (blk_below (g:=gb101) (o:=.cells #[.int .i64 a0_0,.int .i64 a0_1] 43 (0,0)) (vb BK101.out) hb);have n1_:=am (blk_below (g:=gb102) (o:=.cells #[.int .i64 0,.int .i64 0] 43 (0,0)) (vb BK102.out) hb);have n2_:=am (below_step (v2 HB.out GE101.out GE102.out) hb);clear BK101;clear BK102;clear HB;have BK101:=n0_;have BK102:=n1_;have HB:=n2_;clear n0_ n1_ n2_;(try clear hb);(try clear hb2);(try clear hk);(try clear hi))|(go_at_call 106;(with_reducible refine (pit_within.calls a1 0 16384 false _ A9.out).mono ?_);rintro e w' ⟨rfl,⟨nd,rfl⟩⟩))
    go_meet
    case rel => exact ⟨_,(true),ve,H',⟨by first|omega|exact Nat.le_refl _⟩,⟨vb BK101.out⟩,⟨vb BK102.out⟩,⟨v2 HB.out GE101.out GE102.out⟩⟩
  ·replace c8:=Bool.eq_false_iff.mpr c8
   subst c8
   have H1 : (pit_Times.j0 k a1 a2 true a0_0 a0_1) = some (r1,r2,r3):=by rw [if_neg (show ¬ (false = true) by decide)] at H;exact H
   clear H
   have H:=H1
   clear H1
   have H':=am H
   clear H
   have hnb18:=NB101_102.out
   have hnc18:=NB102_101.out
   have hcz19_0:=bc BK101.out 0 (.int .i64 a0_0)
   have hcz19_1:=bc BK101.out 1 (.int .i64 a0_1)
   have hfz19_0:=blk_frozen BK101.out 0
   have hfz19_1:=blk_frozen BK101.out 1
   go_wp2_with (first|((with_reducible refine gate_callee (f:=89) rfl ?_);refine goesL_ (some 9) rfl rfl Tryz.func89 kr rfl #[.agg #[.int .i64 a0_0,.int .i64 a0_1]] rfl vm ?_;(with_reducible refine (pit_valid.calls k a0_0 a0_1 false _ A7.out).mono ?_);rintro e w20 ⟨rfl,hb⟩;refine ⟨_,rfl,?_⟩;have n0_:=am (blk_below (g:=gb101) (o:=.cells #[.int .i64 a0_0,.int .i64 a0_1] 43 (0,0)) (vb BK101.out) hb);have n1_:=am (blk_below (g:=gb102) (o:=.cells #[.int .i64 0,.int .i64 0] 43 (0,0)) (vb BK102.out) hb);have n2_:=am (below_step (v2 HB.out GE101.out GE102.out) hb);clear BK101;clear BK102;clear HB;have BK101:=n0_;have BK102:=n1_;have HB:=n2_;clear n0_ n1_ n2_;(try clear hb);(try clear hb2);(try clear hk);(try clear hi)))
   go_meet
   case rel => exact ⟨_,(true),ve,H',⟨by first|omega|exact Nat.le_refl _⟩,⟨vb BK101.out⟩,⟨vb BK102.out⟩,⟨v2 HB.out GE101.out GE102.out⟩⟩
 case rest =>
  clear HC4
  try clear c1
  try clear p2
  try clear c4
  try clear c8
  try clear c10
  try clear c12
  try clear c15
  try clear c18
  try clear hcz13_0
  try clear hcz13_1
  try clear hcz16_0
  try clear hcz16_1
  try clear hcz19_0
  try clear hcz19_1
  try clear hfz13_0
  try clear hfz13_1
  try clear hfz16_0
  try clear hfz16_1
  try clear hfz19_0
  try clear hfz19_1
  obtain ⟨kq,x20_3,rfl,HA,HJ3,BK101,BK102,HB⟩:=hcut
  cases kq with
 |zero => exact absurd HA.out (by simp [pit_Times.j0])
 |succ kj3 =>
   have H:=HA.out
   clear HA
   simp only [pit_Times.j0] at H
   by_cases c21 : x20_3 = true
   ·subst c21
    have H1 : (some (0,0,1)) = some (r1,r2,r3):=by rw [if_pos rfl] at H;exact H
    clear H
    have H:=H1
    clear H1
    simp only [Option.some.injEq,Prod.mk.injEq] at H
    obtain ⟨rfl,rfl,rfl⟩:=H
    have hnb22:=NB102_101.out
    have hnc22:=NB101_102.out
    have hcz23_0:=bc BK102.out 0 (.int .i64 0)
    have hcz23_1:=bc BK102.out 1 (.int .i64 0)
    have hfz23_0:=blk_frozen BK102.out 0
    have hfz23_1:=blk_frozen BK102.out 1
    go_wp2
    refine bodyPost_ret (results_ct rfl _ _ gb102 43 #[.int .i64 0,.int .i64 0] (0,0) _ rfl (by (with_reducible repeat (first|refine blk_drewN ?_ _|refine blk_drew ?_|refine blk_alloc ?_ _));refine blk_put (cs:=#[.int .i64 0,.int .i64 0]) ?_ 1 _ rfl;(with_reducible repeat (first|refine blk_drewN ?_ _|refine blk_drew ?_|refine blk_alloc ?_ _));refine blk_put (cs:=#[.int .i64 0,.int .i64 0]) ?_ 0 _ rfl;(with_reducible repeat (first|refine blk_drewN ?_ _|refine blk_drew ?_|refine blk_alloc ?_ _));exact BK102.out) Tryz.underlying43 rfl kr) rfl ?_
    exact ⟨vf,v2 HB.out GE101.out GE102.out⟩
   ·replace c21:=Bool.eq_false_iff.mpr c21
    subst c21
    have H1 : ((pit_times.f kj3 a0_0 a0_1 a1 a2).bind fun bt106 => ((pit_result.f kj3 bt106.1 bt106.2).bind fun bt108 => (some (bt108.1,bt108.2.1,bt108.2.2)))) = some (r1,r2,r3):=by rw [if_neg (show ¬ (false = true) by decide)] at H;exact H
    clear H
    have H:=H1
    clear H1
    replace H:=Option.bind_eq_some_iff.mp H
    obtain ⟨⟨t106,t107⟩,A240,H⟩:=H
    replace H : ((pit_result.f kj3 t106 t107).bind fun bt108 => (some (bt108.1,bt108.2.1,bt108.2.2))) = some (r1,r2,r3):=H
    have A24:=am A240
    clear A240
    replace H:=Option.bind_eq_some_iff.mp H
    obtain ⟨⟨t108,t109,t110⟩,A250,H⟩:=H
    replace H : (some (t108,t109,t110)) = some (r1,r2,r3):=H
    have A25:=am A250
    clear A250
    simp only [Option.some.injEq,Prod.mk.injEq] at H
    obtain ⟨rfl,rfl,rfl⟩:=H
    have hnb26:=NB101_102.out
    have hnc26:=NB102_101.out
    have hcz27_0:=bc BK101.out 0 (.int .i64 a0_0)
    have hcz27_1:=bc BK101.out 1 (.int .i64 a0_1)
    have hfz27_0:=blk_frozen BK101.out 0
    have hfz27_1:=blk_frozen BK101.out 1
    go_wp2_with (first|((with_reducible refine gate_callee (f:=88) rfl ?_);refine goesL_ (some 25) rfl rfl Tryz.func88 kr rfl #[.agg #[.int .i64 a0_0,.int .i64 a0_1],.int .i64 a1,.int .i64 a2] rfl vm ?_;(with_reducible refine (pit_times.calls kj3 a0_0 a0_1 a1 a2 t106 t107 _ A24.out).mono ?_);rintro e w28 ⟨rfl,hb⟩;refine ⟨_,rfl,?_⟩;have n0_:=am (blk_below (g:=gb101) (o:=.cells #[.int .i64 a0_0,.int .i64 a0_1] 43 (0,0)) (vb BK101.out) hb);have n1_:=am (blk_below (g:=gb102) (o:=.cells #[.int .i64 0,.int .i64 0] 43 (0,0)) (vb BK102.out) hb);have n2_:=am (below_step (v2 HB.out GE101.out GE102.out) hb);clear BK101;clear BK102;clear HB;have BK101:=n0_;have BK102:=n1_;have HB:=n2_;clear n0_ n1_ n2_;(try clear hb);(try clear hb2);(try clear hk);(try clear hi))|((with_reducible refine gate_callee (f:=92) rfl ?_);refine goesL_ (some 26) rfl rfl Tryz.func92 kr rfl #[.agg #[.int .i64 t106,.int .i64 t107]] rfl vm ?_;(with_reducible refine (pit_result.calls kj3 t106 t107 t108 t109 t110 _ A25.out).mono ?_);rintro e w29 ⟨rfl,hb⟩;refine ⟨_,rfl,?_⟩;have n0_:=am (blk_below (g:=gb101) (o:=.cells #[.int .i64 a0_0,.int .i64 a0_1] 43 (0,0)) (vb BK101.out) hb);have n1_:=am (blk_below (g:=gb102) (o:=.cells #[.int .i64 0,.int .i64 0] 43 (0,0)) (vb BK102.out) hb);have n2_:=am (below_step (v2 HB.out GE101.out GE102.out) hb);clear BK101;clear BK102;clear HB;have BK101:=n0_;have BK102:=n1_;have HB:=n2_;clear n0_ n1_ n2_;(try clear hb);(try clear hb2);(try clear hk);(try clear hi);have hcz30_0:=bc BK102.out 0 (.int .i64 0);have hcz30_1:=bc BK102.out 1 (.int .i64 0);have hfz30_0:=blk_frozen BK102.out 0;have hfz30_1:=blk_frozen BK102.out 1))
    refine bodyPost_ret (results_ct rfl _ _ gb102 43 #[.int .i64 t108,.int .i64 t109] (0,0) _ rfl (by (with_reducible repeat (first|refine blk_drewN ?_ _|refine blk_drew ?_|refine blk_alloc ?_ _));refine blk_put (cs:=#[.int .i64 t108,.int .i64 0]) ?_ 1 _ rfl;(with_reducible repeat (first|refine blk_drewN ?_ _|refine blk_drew ?_|refine blk_alloc ?_ _));refine blk_put (cs:=#[.int .i64 0,.int .i64 0]) ?_ 0 _ rfl;(with_reducible repeat (first|refine blk_drewN ?_ _|refine blk_drew ?_|refine blk_alloc ?_ _));exact BK102.out) Tryz.underlying43 rfl kr) rfl ?_
    exact ⟨vf,v2 HB.out GE101.out GE102.out⟩
end Go.Proofs.YtjjfpmapjjemcaaGreat.B
end
