import Derived.Test.YtjjfpmapjjemcaaGreatQ11
import Derived.Test.YtjjfpmapjjemcaaGreatQ19
import Derived.Test.YtjjfpmapjjemcaaGreatQ22
import Derived.Test.YtjjfpmapjjemcaaGreatQ39
import Derived.Test.YtjjfpmapjjemcaaGreatQ40
import Derived.Test.YtjjfpmapjjemcaaGreatQ44
import Derived.Test.YtjjfpmapjjemcaaGreatQ45
import Derived.Test.YtjjfpmapjjemcaaGreatQ47
import Derived.Test.YtjjfpmapjjemcaaGreatQ48
import Derived.Test.YtjjfpmapjjemcaaGreatQ7
import Derived.Test.YtjjfpmapjjemcaaGreatQ9
set_option linter.unusedVariables false
set_option linter.unusedSimpArgs false
section
namespace Go.Proofs.YtjjfpmapjjemcaaGreat.B
open Go.RowKit Go.Proofs.YtjjfpmapjjemcaaGreatW.PrintWords Go.Proofs.YtjjfpmapjjemcaaGreatW.PrintLast Go.Proofs.YtjjfpmapjjemcaaGreatW.PrintMore
attribute [local go_sem] max2_int min2_int max_two min_two max_three min_three max_four min_four
def R44_6.T : Bool × List (List Nat × List Nat):=(true,[([],[]),([0],[0]),([1],[1]),([],[]),([3],[3]),([4,2],[4]),([2,5],[2,5]),([],[]),([7,6,5,0,1,2,3,4,5,6,7],[6,7])])
def R44_6.B : List Nat:=[0,1,3,0,8,31,63,0,255]
theorem R44_6.tab : rtab .any (opsOf Tryz.f44 6) = R44_6.T:=by kernel_rfl
theorem R44_6.bits : waitsOk R44_6.T.2 R44_6.B = true:=by kernel_rfl
def R44_7.T : Bool × List (List Nat × List Nat):=(true,[([],[]),([0],[0]),([],[]),([2],[2]),([1,3],[1,3]),([],[]),([5],[5]),([],[]),([6,7],[6,7]),([4,0,1,2,3,4],[4]),([8,9,0,1,2,3,4,5,6,7,8,9],[8])])
def R44_7.B : List Nat:=[0,1,0,4,15,0,32,0,224,31,1023]
theorem R44_7.tab : rtab .any (opsOf Tryz.f44 7) = R44_7.T:=by kernel_rfl
theorem R44_7.bits : waitsOk R44_7.T.2 R44_7.B = true:=by kernel_rfl
def R44_8.T : Bool × List (List Nat × List Nat):=(true,[([],[]),([],[]),([],[]),([2],[2]),([3],[3]),([],[]),([5],[5]),([6],[6]),([0,0,2,3,4,7],[0]),([8,4,0,2,3,4,7],[4,8]),([1,0,1,2,3,4,5,6,7,8,9],[1]),([10,7,9,0,1,2,3,4,5,6,7,8,9],[7,10])])
def R44_8.B : List Nat:=[0,0,0,4,12,0,32,96,253,509,1023,2047]
theorem R44_8.tab : rtab .any (opsOf Tryz.f44 8) = R44_8.T:=by kernel_rfl
theorem R44_8.bits : waitsOk R44_8.T.2 R44_8.B = true:=by kernel_rfl
def R44_9.T : Bool × List (List Nat × List Nat):=(true,[([],[]),([],[]),([],[]),([2],[2]),([3],[3]),([4],[4]),([],[]),([6],[6]),([7],[7]),([8],[8]),([0,0,2,3,4,5,9],[0]),([10,0,2,3,4,5,9],[10]),([11,5,0,2,3,4,5,9],[5,11]),([1,0,1,2,3,4,5,6,7,8,9,10,11,12],[1]),([13,0,1,2,3,4,5,6,7,8,9,10,11,12],[13]),([14,9,12,0,1,2,3,4,5,6,7,8,9,10,11,12],[9,14])])
def R44_9.B : List Nat:=[0,0,0,4,12,28,0,64,192,448,1021,2045,4093,8191,16383,32767]
theorem R44_9.tab : rtab .any (opsOf Tryz.f44 9) = R44_9.T:=by kernel_rfl
theorem R44_9.bits : waitsOk R44_9.T.2 R44_9.B = true:=by kernel_rfl
def R44_13.T : Bool × List (List Nat × List Nat):=(true,[([],[]),([],[]),([],[]),([1,2],[1,2]),([0,3,0],[0]),([3,4,0,1,2,3,4],[3]),([5,0,1,2,3,4,5],[])])
def R44_13.B : List Nat:=[0,0,0,6,15,31,63]
theorem R44_13.tab : rtab .any (opsOf Tryz.f44 13) = R44_13.T:=by kernel_rfl
theorem R44_13.bits : waitsOk R44_13.T.2 R44_13.B = true:=by kernel_rfl
theorem heap84 : Kd.Heap k84:=Kd.heap_iso _ (Kd.heap_pair (Kd.heap_int _) (Kd.heap_pair (Kd.heap_int _) (Kd.heap_pair (Kd.heap_int _) (Kd.heap_pair (Kd.heap_int _) (Kd.heap_pair (Kd.heap_int _) (Kd.heap_int _))))))
def swapR (rooms : List Int) (stirs : List S84) (step : Int) : Except (Int × Int) Yd:=playedP rooms (swapP stirs (step.toNat - 1)) (swapP stirs (step.toNat - 1)).length
def SwapPost (W : World) (rooms : List Int) (stirs : List S84) (step : Int) (e : Ending) (W' : World) : Prop :=
 Below W.heap.size W W' ∧ (match playedP rooms stirs stirs.length with
 |.error x => e = .returned (.tuple #[.agg #[.slice none 0 0,.slice none 0 0],.bool false,ii x.1])
 |.ok Y => if inP step 1 ((stirs.length : Int) - 1) = true then (match swapR rooms stirs step with
   |.error x => e = .returned (.tuple #[.agg #[.slice none 0 0,.slice none 0 0],.bool false,ii x.1])
   |.ok Z => ∃ (A5 A6 : Option Addr) (c5 c6 : Nat),e = .returned (.tuple #[.agg #[.slice A5 rooms.length c5,.slice A6 stirs.length c6],.bool (alikeP Y Z),ii 0]) ∧ rooms.length ≤ c5 ∧ stirs.length ≤ c6 ∧ Kd.F (Kd.int .i64) W' (fun k => W.heap.size ≤ k) A5 rooms.length rooms ∧ Kd.F k84 W' (fun k => W.heap.size ≤ k) A6 stirs.length (swapP stirs (step.toNat - 1)))
   else e = .returned (.tuple #[.agg #[.slice none 0 0,.slice none 0 0],.bool false,ii 1]))
set_option maxRecDepth 100000 in
set_option maxHeartbeats 800000 in
theorem swap_calls (A A2 : Option Addr) (c c2 : Nat) (rooms : List Int) (stirs : List S84) (W : World) (lo : Nat) (hlo : lo ≤ W.heap.size) (hC : Kd.F (Kd.int .i64) W (fun k => k < lo) A rooms.length rooms) (hc : rooms.length ≤ c) (hS : Kd.C k84 W A2 stirs.length stirs) (hc2 : stirs.length ≤ c2) (step : Int) :
  Calls Tryz.prog 44 #[.agg #[.slice A rooms.length c,.slice A2 stirs.length c2],ii step] W fun e W' => SwapPost W rooms stirs step e W':=by
 have hu:=Tryz.underlying32
 have hu84:=Tryz.underlying84
 have hsm:=hS.2.1
 have hrm:=(Kd.F_now hC).2.1
 have HC:=am (hC)
 have HS:=am (hS)
 have HB:=am (Below.refl W.heap.size W)
 have HC1:=am (Kd.F_alloc HC.out (.cells #[.slice A rooms.length c,.slice A2 stirs.length c2] 32))
 have HS1:=am (Kd.C_alloc HS.out (.cells #[.slice A rooms.length c,.slice A2 stirs.length c2] 32))
 have HB1:=am (below_alloc HB.out (.cells #[.slice A rooms.length c,.slice A2 stirs.length c2] 32))
 have HP:=am (blk_new W (.cells #[.slice A rooms.length c,.slice A2 stirs.length c2] 32))
 have HC2:=am (Kd.F_alloc HC1.out (.cells #[.slice none 0 0,.slice none 0 0] 32))
 have HS2:=am (Kd.C_alloc HS1.out (.cells #[.slice none 0 0,.slice none 0 0] 32))
 have HB2:=am (below_alloc HB1.out (.cells #[.slice none 0 0,.slice none 0 0] 32))
 have HP1:=am (blk_alloc HP.out (.cells #[.slice none 0 0,.slice none 0 0] 32))
 have HR:=am (blk_new' (W.alloc (.cells #[.slice A rooms.length c,.slice A2 stirs.length c2] 32)) (.cells #[.slice none 0 0,.slice none 0 0] 32) (W.heap.size + 1) (by simp))
 clear hC hS
 obtain ⟨r,hr⟩ : ∃ r,r = playedP rooms stirs stirs.length:=⟨_,rfl⟩
 have HQP:=am hr.symm
 clear hr
 go_enter Tryz.func44,Tryz.ntmps44
 go_wp2_with fail
 refine (all_calls A A2 c c2 rooms stirs _ lo (Nat.le_trans hlo (by simp;omega)) HC2.out hc HS2.out hc2).mono ?_
 rintro e w1 ⟨hb,h⟩
 rw [HQP.out] at h
 have HC3:=am (Kd.F_below HC2.out hb)
 have HS3:=am (Kd.C_below HS2.out hb)
 have HB3:=am (below_then HB2.out (below_size HB2.out) hb)
 have HP2:=am (blk_below HP1.out hb)
 have HR1:=am (blk_below HR.out hb)
 clear hb
 cases r with
|error x =>
  subst h
  have hx : ¬ x.1 = 0:=playedP_code HQP.out
  have u0:=bd HR1.out 0
  have fu0:=blk_frozen HR1.out 0
  have u1:=bd HR1.out 1
  have fu1:=blk_frozen HR1.out 1
  go_wp2
  have bz:=blk_put (cs':=#[.slice none 0 0,.slice none 0 0]) (blk_put (cs':=#[.slice none 0 0,.slice none 0 0]) (HR1.out) 0 (.slice none 0 0) rfl) 1 (.slice none 0 0) rfl
  have z0:=bd bz 0
  have z1:=bd bz 1
  exact bodyPost_ret (v:=.tuple #[.agg #[.slice none 0 0,.slice none 0 0],.bool false,ii x.1]) (by simp [results,Tryz.results44,go_sem,z0,z1,hu]) rfl ⟨((HB3.out).setCell (p:=⟨W.heap.size + 1,0,none⟩) (by first|(simp;done)|(simp;omega)) (.slice none 0 0)).setCell (p:=⟨W.heap.size + 1,1,none⟩) (by first|(simp;done)|(simp;omega)) (.slice none 0 0),by rw [HQP.out]⟩
|ok Y =>
  obtain ⟨L,base,hbase,hbad,rfl,hY⟩:=h
  have HY:=am (hY)
  clear hbase hbad hY
  obtain ⟨k1,hk1⟩ : ∃ k1,k1 = inP step 1 ((stirs.length : Int) - 1):=⟨_,rfl⟩
  have HK:=am hk1
  have HWI:=am (show pit_within.f step 1 ((stirs.length : Int) - 1) = some k1 by rw [within_some,hk1];rfl)
  clear hk1
  have hwl : IntKind.i64.wrap ((stirs.length : Int) - 1) = (stirs.length : Int) - 1:=IntWalk.i64_in _ (by omega)
  have g1:=bd HP2.out 1
  go_wp2_with fail
  refine (pit_within.calls _ _ _ _ _ HWI.out).mono ?_
  rintro e w2 ⟨rfl,m,rfl⟩
  have HC4:=am (Kd.F_drewN HC3.out m)
  have HS4:=am (Kd.C_drewN HS3.out m)
  have HB4:=am (pw_below_drewN HB3.out m)
  have HP3:=am (blk_drewN HP2.out m)
  have HR2:=am (blk_drewN HR1.out m)
  have HY1:=am (HY.out.move (pw_below_drewN (Below.refl _ _) m))
  clear g1 hwl
  generalize w1.drewN m = w2 at HC4 HS4 HB4 HP3 HR2 HY1 ⊢
  cases k1 with
 |false =>
   have u0:=bd HR2.out 0
   have fu0:=blk_frozen HR2.out 0
   have u1:=bd HR2.out 1
   have fu1:=blk_frozen HR2.out 1
   go_wp2
   have bz:=blk_put (cs':=#[.slice none 0 0,.slice none 0 0]) (blk_put (cs':=#[.slice none 0 0,.slice none 0 0]) (HR2.out) 0 (.slice none 0 0) rfl) 1 (.slice none 0 0) rfl
   have z0:=bd bz 0
   have z1:=bd bz 1
   exact bodyPost_ret (v:=.tuple #[.agg #[.slice none 0 0,.slice none 0 0],.bool false,ii 1]) (by simp [results,Tryz.results44,go_sem,z0,z1,hu]) rfl ⟨((HB4.out).setCell (p:=⟨W.heap.size + 1,0,none⟩) (by first|(simp;done)|(simp;omega)) (.slice none 0 0)).setCell (p:=⟨W.heap.size + 1,1,none⟩) (by first|(simp;done)|(simp;omega)) (.slice none 0 0),by rw [HQP.out];dsimp only;rw [if_neg (by rw [← HK.out];simp)]⟩
 |true =>
   obtain ⟨k,hk,hkl⟩ : ∃ k : Nat,step = ((k + 1 : Nat) : Int) ∧ k + 1 < stirs.length:=by
    have h:=HK.out
    unfold inP at h
    have h:=of_decide_eq_true h.symm
    exact ⟨step.toNat - 1,by omega,by omega⟩
   subst hk
   have HC5:=am (Kd.F_drew HC4.out)
   have HS5:=am (Kd.C_drew HS4.out)
   have HB5:=am (below_drew HB4.out)
   have HP4:=am (blk_drew HP3.out)
   have HR3:=am (blk_drew HR2.out)
   have HY2:=am (HY1.out.move (below_drew (Below.refl _ _)))
   have HR6:=am (show rooms.length ≤ 100000000 by have h:=(played_ok HQP.out).2.2;have:=h.1.r6;rw [h.2] at this;omega)
   have HS6:=am (show stirs.length ≤ 100000000 by have:=(played_ok HQP.out).2.1;omega)
   go_wp2
   refine start_ (n:=9) (S:=fun w' => w'.cell? ⟨W.heap.size,0,none⟩ = some (.slice A rooms.length c) ∧ w'.cell? ⟨W.heap.size,1,none⟩ = some (.slice A2 stirs.length c2)) (ds:=[8]) (ab 9 0) kr rfl kr ⟨(blk_cell HP4.out 0).trans rfl,(blk_cell HP4.out 1).trans rfl⟩ (fun hHeld => ?_);refine with_tabW R44_6.tab R44_6.bits (fun HT_ HW_ => ?_)
   generalize (w2).drew = wd at HC5 HS5 HB5 HP4 HR3 HY2 hHeld ⊢
   refine pure_ (i:=0) (N:=(some 30)) (v:=?_) (a':=?_) (ab 9 1) rfl rfl (any_of HT_.out kr) (fun _ _ _ h => h) (Or.inl ⟨by rfl,?_⟩) ?_ ?_
   rotate_left
   ·intro w'
    go_simp
    with_reducible rfl
   rotate_left
   ·exact vs
   refine take_ (i:=1) (N:=(some 31)) (v:=?_) (a':=?_) (ab 9 3) rfl rfl (take_ofW HT_.out HW_.out kr) (fun _ _ _ h => h) (Or.inl ⟨by rfl,?_⟩) hHeld ?_ ?_
   rotate_left
   ·rintro w' ⟨s0,s1⟩
    go_simp
    with_reducible rfl
   rotate_left
   ·exact vs
   refine pure_ (i:=3) (N:=(some 33)) (v:=?_) (a':=?_) (ab 9 11) rfl rfl (any_of HT_.out kr) (fun _ _ _ h => h) (Or.inl ⟨by rfl,?_⟩) ?_ ?_
   rotate_left
   ·intro w'
    go_simp
    with_reducible rfl
   rotate_left
   ·exact vs
   refine take_ (i:=4) (N:=(some 34)) (v:=?_) (a':=?_) (ab 9 27) rfl rfl (take_ofW HT_.out HW_.out kr) (fun _ _ _ h => h) (Or.inl ⟨by rfl,?_⟩) hHeld ?_ ?_
   rotate_left
   ·rintro w' ⟨s0,s1⟩
    go_simp
    with_reducible rfl
   rotate_left
   ·exact vs
   refine join_ (σ:=Value × Value × Nat) 1 (ab 9 255) (fun x => [(32,x.1),(35,x.2.1),(36,.agg #[x.1,x.2.1]),(9,.pointer (some ⟨x.2.2,0,none⟩))]) (fun x w' => Below wd.heap.size wd w' ∧ (Kd.int .i64).R 3 w' wd.heap.size (fun _ => True) x.1 rooms ∧ k84.R 84 w' wd.heap.size (fun _ => True) x.2.1 stirs ∧ w'.heap[x.2.2]? = some (.cells #[.slice none 0 0,.slice none 0 0] 32 (0,0)) ∧ wd.heap.size ≤ x.2.2) ?_ ?_
   rotate_left
   ·intro hCont
    refine two_ (i:=2) (j:=7) (Ni:=some 32) (Nj:=some 9) (ab 9 31) (ab 9 155) rfl rfl rfl rfl  (two_of HT_.out kr) (by decide) (by decide) (fun K hK => ?_) (fun K hK => ?_)
    ·skip
     refine gC Tryz.func78 #[.slice A rooms.length c] ?_
     refine (clone78_calls A c rooms _ _ (Kd.F_below HC5.out (Below.refl wd.heap.size wd)) hc HR6.out).mono ?_
     rintro e wf1 ⟨v1,rfl,hb,hR⟩
     have hB_wf1 : Below wd.heap.size wd wf1:=below_then (Below.refl wd.heap.size wd) (below_size (Below.refl wd.heap.size wd)) hb
     have hR_wf1:=R3_of_ft hR
     have hRb_wf1:=Kd.R_lower (base':=wd.heap.size) hR_wf1 (by have h:=(Below.refl wd.heap.size wd).size;first|exact h|first|(simp;done)|simpa using h)
     obtain ⟨B_wf1,b_wf1,rfl⟩:=Kd.R_slice hRb_wf1
     refine ⟨_,rfl,?_⟩
     refine hK.out _ _ ⟨(blk_cell (blk_below HP4.out hB_wf1) 0).trans rfl,(blk_cell (blk_below HP4.out hB_wf1) 1).trans rfl⟩ (fun hHeld => ?_)
     clear hK K
     refine qN (some 32) ?_
     refine two_ (i:=5) (j:=7) (Ni:=some 35) (Nj:=some 9) (ab 9 63) (ab 9 159) rfl rfl rfl rfl  (two_of HT_.out kr) (by decide) (by decide) (fun K hK => ?_) (fun K hK => ?_)
     ·skip
      refine gC Tryz.func124 #[.slice A2 stirs.length c2] ?_
      refine (clone124_calls A2 c2 stirs _ (fun k => k < wf1.heap.size) (Kd.C_F heap84 (Kd.C_below HS5.out (hB_wf1))) hc2 HS6.out).mono ?_
      rintro e wf2 ⟨v2,rfl,hb,hR⟩
      have hB_wf2 : Below wd.heap.size wd wf2:=below_then (hB_wf1) (below_size (hB_wf1)) hb
      have hR_wf2:=R84_of_ft hR
      have hRb_wf2:=Kd.R_lower (base':=wd.heap.size) hR_wf2 (by have h:=(hB_wf1).size;first|exact h|first|(simp;done)|simpa using h)
      obtain ⟨B_wf2,b_wf2,rfl⟩:=Kd.R_slice hRb_wf2
      have hr2_wf2:=Kd.R_below (hRb_wf1) hb
      refine ⟨_,rfl,?_⟩
      refine hK.out _ _ ⟨(blk_cell (blk_below HP4.out hB_wf2) 0).trans rfl,(blk_cell (blk_below HP4.out hB_wf2) 1).trans rfl⟩ (fun hHeld => ?_)
      clear hK K
      refine qN (some 35) ?_
      refine pure_ (i:=6) (N:=(some 36)) (v:=?_) (a':=?_) (ab 9 127) rfl rfl (any_of HT_.out kr) (fun _ _ _ h => h) (Or.inl ⟨by rfl,?_⟩) ?_ ?_
      rotate_left
      ·intro w'
       go_simp
       with_reducible rfl
      rotate_left
      ·exact vs
      refine one_ (i:=7) (N:=some 9) (ab 9 255) rfl rfl  (one_of HT_.out kr) (by decide) (fun K hK => ?_)
      refine value_ (w1:=?_) (v:=?_) (by rfl) rfl ?_ ?_
      rotate_left 2
      ·go_simp
       constructor
       ·rfl
       ·rfl
      refine hK.out _ _ ⟨(blk_cell (blk_below HP4.out (below_alloc (hB_wf2) (.cells #[.slice none 0 0,.slice none 0 0] 32))) 0).trans rfl,(blk_cell (blk_below HP4.out (below_alloc (hB_wf2) (.cells #[.slice none 0 0,.slice none 0 0] 32))) 1).trans rfl⟩ (fun hHeld => ?_)
      clear hK K
      refine qN (some 9) ?_
      exact nI (hCont ⟨(.slice B_wf1 rooms.length b_wf1),(.slice B_wf2 stirs.length b_wf2),wf2.heap.size⟩ _ ⟨(below_alloc (hB_wf2) (.cells #[.slice none 0 0,.slice none 0 0] 32)),(Kd.R_alloc (hr2_wf2) (.cells #[.slice none 0 0,.slice none 0 0] 32)),(Kd.R_alloc (hRb_wf2) (.cells #[.slice none 0 0,.slice none 0 0] 32)),(blk_new' wf2 (.cells #[.slice none 0 0,.slice none 0 0] 32) (wf2.heap.size) (by simp)),(by have h:=(hB_wf2).size;first|(simp;done)|simpa using h)⟩)
     ·skip
      refine value_ (w1:=?_) (v:=?_) (by rfl) rfl ?_ ?_
      rotate_left 2
      ·go_simp
       constructor
       ·rfl
       ·rfl
      refine hK.out _ _ ⟨(blk_cell (blk_below HP4.out (below_alloc (hB_wf1) (.cells #[.slice none 0 0,.slice none 0 0] 32))) 0).trans rfl,(blk_cell (blk_below HP4.out (below_alloc (hB_wf1) (.cells #[.slice none 0 0,.slice none 0 0] 32))) 1).trans rfl⟩ (fun hHeld => ?_)
      clear hK K
      refine qN (some 9) ?_
      refine one_ (i:=5) (N:=some 35) (ab 9 191) rfl rfl  (one_of HT_.out kr) (by decide) (fun K hK => ?_)
      refine gC Tryz.func124 #[.slice A2 stirs.length c2] ?_
      refine (clone124_calls A2 c2 stirs _ (fun k => k < (wf1.alloc (.cells #[.slice none 0 0,.slice none 0 0] 32)).heap.size) (Kd.C_F heap84 (Kd.C_below HS5.out ((below_alloc (hB_wf1) (.cells #[.slice none 0 0,.slice none 0 0] 32))))) hc2 HS6.out).mono ?_
      rintro e wf3 ⟨v3,rfl,hb,hR⟩
      have hB_wf3 : Below wd.heap.size wd wf3:=below_then ((below_alloc (hB_wf1) (.cells #[.slice none 0 0,.slice none 0 0] 32))) (below_size ((below_alloc (hB_wf1) (.cells #[.slice none 0 0,.slice none 0 0] 32)))) hb
      have hR_wf3:=R84_of_ft hR
      have hRb_wf3:=Kd.R_lower (base':=wd.heap.size) hR_wf3 (by have h:=((below_alloc (hB_wf1) (.cells #[.slice none 0 0,.slice none 0 0] 32))).size;first|exact h|first|(simp;done)|simpa using h)
      obtain ⟨B_wf3,b_wf3,rfl⟩:=Kd.R_slice hRb_wf3
      have hr2_wf3:=Kd.R_below ((Kd.R_alloc (hRb_wf1) (.cells #[.slice none 0 0,.slice none 0 0] 32))) hb
      have hp_wf3:=blk_below ((blk_new' wf1 (.cells #[.slice none 0 0,.slice none 0 0] 32) (wf1.heap.size) (by simp))) hb
      refine ⟨_,rfl,?_⟩
      refine hK.out _ _ ⟨(blk_cell (blk_below HP4.out hB_wf3) 0).trans rfl,(blk_cell (blk_below HP4.out hB_wf3) 1).trans rfl⟩ (fun hHeld => ?_)
      clear hK K
      refine qN (some 35) ?_
      refine pure_ (i:=6) (N:=(some 36)) (v:=?_) (a':=?_) (ab 9 255) rfl rfl (any_of HT_.out kr) (fun _ _ _ h => h) (Or.inl ⟨by rfl,?_⟩) ?_ ?_
      rotate_left
      ·intro w'
       go_simp
       with_reducible rfl
      rotate_left
      ·exact vs
      exact nI (hCont ⟨(.slice B_wf1 rooms.length b_wf1),(.slice B_wf3 stirs.length b_wf3),wf1.heap.size⟩ _ ⟨hB_wf3,hr2_wf3,hRb_wf3,hp_wf3,(by have h:=(hB_wf1).size;first|(simp;done)|simpa using h)⟩)
    ·skip
     refine value_ (w1:=?_) (v:=?_) (by rfl) rfl ?_ ?_
     rotate_left 2
     ·go_simp
      constructor
      ·rfl
      ·rfl
     refine hK.out _ _ ⟨(blk_cell (blk_below HP4.out (below_alloc (Below.refl wd.heap.size wd) (.cells #[.slice none 0 0,.slice none 0 0] 32))) 0).trans rfl,(blk_cell (blk_below HP4.out (below_alloc (Below.refl wd.heap.size wd) (.cells #[.slice none 0 0,.slice none 0 0] 32))) 1).trans rfl⟩ (fun hHeld => ?_)
     clear hK K
     refine qN (some 9) ?_
     refine one_ (i:=2) (N:=some 32) (ab 9 159) rfl rfl  (one_of HT_.out kr) (by decide) (fun K hK => ?_)
     refine gC Tryz.func78 #[.slice A rooms.length c] ?_
     refine (clone78_calls A c rooms _ _ (Kd.F_below HC5.out ((below_alloc (Below.refl wd.heap.size wd) (.cells #[.slice none 0 0,.slice none 0 0] 32)))) hc HR6.out).mono ?_
     rintro e wf4 ⟨v4,rfl,hb,hR⟩
     have hB_wf4 : Below wd.heap.size wd wf4:=below_then ((below_alloc (Below.refl wd.heap.size wd) (.cells #[.slice none 0 0,.slice none 0 0] 32))) (below_size ((below_alloc (Below.refl wd.heap.size wd) (.cells #[.slice none 0 0,.slice none 0 0] 32)))) hb
     have hR_wf4:=R3_of_ft hR
     have hRb_wf4:=Kd.R_lower (base':=wd.heap.size) hR_wf4 (by have h:=((below_alloc (Below.refl wd.heap.size wd) (.cells #[.slice none 0 0,.slice none 0 0] 32))).size;first|exact h|first|(simp;done)|simpa using h)
     obtain ⟨B_wf4,b_wf4,rfl⟩:=Kd.R_slice hRb_wf4
     have hp_wf4:=blk_below ((blk_new' wd (.cells #[.slice none 0 0,.slice none 0 0] 32) (wd.heap.size) (by simp))) hb
     refine ⟨_,rfl,?_⟩
     refine hK.out _ _ ⟨(blk_cell (blk_below HP4.out hB_wf4) 0).trans rfl,(blk_cell (blk_below HP4.out hB_wf4) 1).trans rfl⟩ (fun hHeld => ?_)
     clear hK K
     refine qN (some 32) ?_
     refine one_ (i:=5) (N:=some 35) (ab 9 191) rfl rfl  (one_of HT_.out kr) (by decide) (fun K hK => ?_)
     refine gC Tryz.func124 #[.slice A2 stirs.length c2] ?_
     refine (clone124_calls A2 c2 stirs _ (fun k => k < wf4.heap.size) (Kd.C_F heap84 (Kd.C_below HS5.out (hB_wf4))) hc2 HS6.out).mono ?_
     rintro e wf5 ⟨v5,rfl,hb,hR⟩
     have hB_wf5 : Below wd.heap.size wd wf5:=below_then (hB_wf4) (below_size (hB_wf4)) hb
     have hR_wf5:=R84_of_ft hR
     have hRb_wf5:=Kd.R_lower (base':=wd.heap.size) hR_wf5 (by have h:=(hB_wf4).size;first|exact h|first|(simp;done)|simpa using h)
     obtain ⟨B_wf5,b_wf5,rfl⟩:=Kd.R_slice hRb_wf5
     have hr2_wf5:=Kd.R_below (hRb_wf4) hb
     have hp_wf5:=blk_below (hp_wf4) hb
     refine ⟨_,rfl,?_⟩
     refine hK.out _ _ ⟨(blk_cell (blk_below HP4.out hB_wf5) 0).trans rfl,(blk_cell (blk_below HP4.out hB_wf5) 1).trans rfl⟩ (fun hHeld => ?_)
     clear hK K
     refine qN (some 35) ?_
     refine pure_ (i:=6) (N:=(some 36)) (v:=?_) (a':=?_) (ab 9 255) rfl rfl (any_of HT_.out kr) (fun _ _ _ h => h) (Or.inl ⟨by rfl,?_⟩) ?_ ?_
     rotate_left
     ·intro w'
      go_simp
      with_reducible rfl
     rotate_left
     ·exact vs
     exact nI (hCont ⟨(.slice B_wf4 rooms.length b_wf4),(.slice B_wf5 stirs.length b_wf5),wd.heap.size⟩ _ ⟨hB_wf5,hr2_wf5,hRb_wf5,hp_wf5,(by have h:=(Below.refl wd.heap.size wd).size;first|(simp;done)|simpa using h)⟩)
   rintro ⟨v5,v6,p9⟩ w7 ⟨hb,hr5,hr6,hp9,hl9⟩
   obtain ⟨A5,c5,rfl⟩:=Kd.R_slice hr5
   obtain ⟨A6,c6,rfl⟩:=Kd.R_slice hr6
   obtain ⟨g,hg⟩ : ∃ g,A6 = some ⟨g,0,none⟩:=by
    obtain ⟨_,inner,hown,hr⟩:=hr6
    rcases hown.2 with ⟨hv,hnil⟩|⟨g',cap',cur,hv,_⟩
    ·injection hv with _ hl0 _
     omega
    ·injection hv with ha _ _
     exact ⟨g',ha⟩
   subst hg
   have HGN:=am (Kd.R_base hr6 g rfl)
   have HL9:=am hl9
   have HN:=am hb
   have HH5:=am hr5
   have HH6:=am hr6
   have H9:=am hp9
   have HNE:=am (show p9 ≠ g from fun e => R_offg hr6 hp9 (by decide) (by rw [e];rfl))
   clear hb hr5 hr6 hp9 hl9
   refine norm_ (a':=?_) ?_ ?_
   rotate_left
   ·simp only [putAll,Act.put,List.setIfInBounds_toArray,List.set_cons_zero,List.set_cons_succ]
    rfl
   refine last_ (i:=8) (N:=none) (ab 9 511) rfl rfl (one_of HT_.out kr) (by decide) (fun K hK => ?_)
   have u0:=bd H9.out 0
   have fu0:=blk_frozen H9.out 0
   have u1:=bd H9.out 1
   have fu1:=blk_frozen H9.out 1
   refine skip_ (w1:=?_) (by rfl) rfl ?_ ?_
   rotate_left
   ·go_simp
    rfl
   refine hK.out _ _ ?_
   clear hK K
   refine done_ (done_of HT_.out kr) ?_
   clear u0 u1 fu0 fu1
   have HN1:=am ((HN.out.setCell (p:=⟨p9,0,none⟩) HL9.out (.slice A5 rooms.length c5)).setCell (p:=⟨p9,1,none⟩) HL9.out (.slice (some ⟨g,0,none⟩) stirs.length c6))
   have H91:=am (blk_put (cs':=#[.slice A5 rooms.length c5,.slice (some ⟨g,0,none⟩) stirs.length c6]) (blk_put (cs':=#[.slice A5 rooms.length c5,.slice none 0 0]) H9.out 0 (.slice A5 rooms.length c5) rfl) 1 (.slice (some ⟨g,0,none⟩) stirs.length c6) rfl)
   have HH51:=am (Kd.R_set (Kd.R_set HH5.out H9.out (by decide) 0 (.slice A5 rooms.length c5)) (blk_put (cs':=#[.slice A5 rooms.length c5,.slice none 0 0]) H9.out 0 (.slice A5 rooms.length c5) rfl) (by decide) 1 (.slice (some ⟨g,0,none⟩) stirs.length c6))
   have HH61:=am (Kd.R_set (Kd.R_set HH6.out H9.out (by decide) 0 (.slice A5 rooms.length c5)) (blk_put (cs':=#[.slice A5 rooms.length c5,.slice none 0 0]) H9.out 0 (.slice A5 rooms.length c5) rfl) (by decide) 1 (.slice (some ⟨g,0,none⟩) stirs.length c6))
   generalize ((w7.setCell ⟨p9,0,none⟩ (.slice A5 rooms.length c5)).setCell ⟨p9,1,none⟩ (.slice (some ⟨g,0,none⟩) stirs.length c6)) = w8 at HN1 H91 HH51 HH61 ⊢
   obtain ⟨ad,had⟩ : ∃ ad : Addr,ad = ⟨g,0,none⟩:=⟨_,rfl⟩
   have HAD:=am had
   rw [← had] at H91
   have hw0 : wrap64 (k : Int) = (k : Int):=wrap_in (by omega) (by omega)
   have hkt : ((k : Int) + 1).toNat = k + 1:=by omega
   have hk0 : (0 : Int) ≤ (k : Int) + 1:=by omega
   have hk00 : (0 : Int) ≤ (k : Int):=by omega
   clear had HN H9 HH5 HH6
   have hkn : (k : Int) < (stirs.length : Int):=by omega
   have hkn1 : (k : Int) + 1 < (stirs.length : Int):=by omega
   have HN2:=am (below_drew HN1.out)
   have H92:=am (blk_drew H91.out)
   have HH52:=am (Kd.R_drew HH51.out)
   have HH62:=am (Kd.R_drew HH61.out)
   go_wp2
   refine start_ (n:=11) (S:=fun w' => w'.cell? ⟨p9,1,none⟩ = some (.slice (some ad) stirs.length c6)) (ds:=[]) (ab 11 0) kr rfl kr ((blk_cell H92.out 1).trans rfl) (fun hHeld => ?_);refine with_tabW R44_7.tab R44_7.bits (fun HT_ HW_ => ?_)
   generalize (w8).drew = w9 at HN2 H92 HH52 HH62 hHeld ⊢
   refine pure_ (i:=0) (N:=(some 37)) (v:=?_) (a':=?_) (ab 11 1) rfl rfl (any_of HT_.out kr) (fun _ _ _ h => h) (Or.inl ⟨by rfl,?_⟩) ?_ ?_
   rotate_left
   ·intro w'
    go_simp
    with_reducible rfl
   rotate_left
   ·exact vs
   refine take_ (i:=1) (N:=(some 38)) (v:=?_) (a':=?_) (ab 11 3) rfl rfl (take_ofW HT_.out HW_.out kr) (fun _ _ _ h => h) (Or.inl ⟨by rfl,?_⟩) hHeld ?_ ?_
   rotate_left
   ·rintro w' s0
    go_simp
    with_reducible rfl
   rotate_left
   ·exact vs
   refine pure_ (i:=2) (N:=(some 39)) (v:=?_) (a':=?_) (ab 11 7) rfl rfl (any_of HT_.out kr) (fun _ _ _ h => h) (Or.inl ⟨by rfl,?_⟩) ?_ ?_
   rotate_left
   ·intro w'
    go_simp
    with_reducible rfl
   rotate_left
   ·exact vs
   refine pure_ (i:=3) (N:=(some 40)) (v:=?_) (a':=?_) (ab 11 15) rfl rfl (any_of HT_.out kr) (fun _ _ _ h => h) (Or.inl ⟨by rfl,?_⟩) ?_ ?_
   rotate_left
   ·intro w'
    go_simp
    with_reducible rfl
   rotate_left
   ·exact vs
   refine pure_ (i:=4) (N:=(some 41)) (v:=?_) (a':=?_) (ab 11 31) rfl rfl (any_of HT_.out kr) (fun _ _ _ h => h) (Or.inl ⟨by rfl,?_⟩) ?_ ?_
   rotate_left
   ·intro w'
    go_simp
    with_reducible rfl
   rotate_left
   ·exact vs
   refine pure_ (i:=5) (N:=(some 42)) (v:=?_) (a':=?_) (ab 11 63) rfl rfl (any_of HT_.out kr) (fun _ _ _ h => h) (Or.inl ⟨by rfl,?_⟩) ?_ ?_
   rotate_left
   ·intro w'
    go_simp
    with_reducible rfl
   rotate_left
   ·exact vs
   refine take_ (i:=6) (N:=(some 43)) (v:=?_) (a':=?_) (ab 11 127) rfl rfl (take_ofW HT_.out HW_.out kr) (fun _ _ _ h => h) (Or.inl ⟨by rfl,?_⟩) hHeld ?_ ?_
   rotate_left
   ·rintro w' s0
    go_simp
    with_reducible rfl
   rotate_left
   ·exact vs
   refine pure_ (i:=7) (N:=(some 44)) (v:=?_) (a':=?_) (ab 11 255) rfl rfl (any_of HT_.out kr) (fun _ _ _ h => h) (Or.inl ⟨by rfl,?_⟩) ?_ ?_
   rotate_left
   ·intro w'
    go_simp
    with_reducible rfl
   rotate_left
   ·exact vs
   refine pure_ (i:=8) (N:=(some 45)) (v:=?_) (a':=?_) (ab 11 511) rfl rfl (any_of HT_.out kr) (fun _ _ _ h => h) (Or.inl ⟨by rfl,?_⟩) ?_ ?_
   rotate_left
   ·intro w'
    go_simp
    with_reducible rfl
   rotate_left
   ·exact vs
   refine pure_ (i:=9) (N:=(some 10)) (v:=?_) (a':=?_) (ab 11 1023) rfl rfl (any_of HT_.out kr) (fun _ _ _ h => h) (Or.inl ⟨by rfl,?_⟩) ?_ ?_
   rotate_left
   ·intro w'
    go_simp
    with_reducible rfl
   rotate_left
   ·exact vs
   refine pure_ (i:=10) (N:=(some 11)) (v:=?_) (a':=?_) (ab 11 2047) rfl rfl (any_of HT_.out kr) (fun _ _ _ h => h) (Or.inl ⟨by rfl,?_⟩) ?_ ?_
   rotate_left
   ·intro w'
    go_simp
    with_reducible rfl
   rotate_left
   ·exact vs
   refine done_ (done_of HT_.out kr) ?_
   clear HN1 H91 HH51 HH61
   obtain ⟨s0,hs0⟩ : ∃ s0,s0 = rd_T84 stirs (k : Int):=⟨_,rfl⟩
   obtain ⟨s1,hs1⟩ : ∃ s1,s1 = rd_T84 stirs ((k + 1 : Nat) : Int):=⟨_,rfl⟩
   have HS0:=am hs0
   have HS1:=am hs1
   have HN3:=am (below_drew HN2.out)
   have H93:=am (blk_drew H92.out)
   have HH53:=am (Kd.R_drew HH52.out)
   have HH63:=am (Kd.R_drew HH62.out)
   have HCE:=am (show (w9.drew.cell? (ad.add (k * 6)) = some (ii s0.f0) ∧ w9.drew.cell? ⟨(ad.add (k * 6)).block,(ad.add (k * 6)).off + 1,none⟩ = some (ii s0.f1) ∧ w9.drew.cell? ⟨(ad.add (k * 6)).block,(ad.add (k * 6)).off + 2,none⟩ = some (ii s0.f2) ∧ w9.drew.cell? ⟨(ad.add (k * 6)).block,(ad.add (k * 6)).off + 3,none⟩ = some (ii s0.f3) ∧ w9.drew.cell? ⟨(ad.add (k * 6)).block,(ad.add (k * 6)).off + 4,none⟩ = some (ii s0.f4) ∧ w9.drew.cell? ⟨(ad.add (k * 6)).block,(ad.add (k * 6)).off + 5,none⟩ = some (ii s0.f5)) ∧ w9.drew.cell? (ad.add ((k + 1) * 6)) = some (ii s1.f0) ∧ w9.drew.cell? ⟨(ad.add ((k + 1) * 6)).block,(ad.add ((k + 1) * 6)).off + 1,none⟩ = some (ii s1.f1) ∧ w9.drew.cell? ⟨(ad.add ((k + 1) * 6)).block,(ad.add ((k + 1) * 6)).off + 2,none⟩ = some (ii s1.f2) ∧ w9.drew.cell? ⟨(ad.add ((k + 1) * 6)).block,(ad.add ((k + 1) * 6)).off + 3,none⟩ = some (ii s1.f3) ∧ w9.drew.cell? ⟨(ad.add ((k + 1) * 6)).block,(ad.add ((k + 1) * 6)).off + 4,none⟩ = some (ii s1.f4) ∧ w9.drew.cell? ⟨(ad.add ((k + 1) * 6)).block,(ad.add ((k + 1) * 6)).off + 5,none⟩ = some (ii s1.f5) from by
    have hC:=(Kd.R_reads' HH63.out).2.2
    rw [← HAD.out] at hC
    obtain ⟨a1,e1,q0,q1,q2,q3,q4,q5⟩:=at_T84 hC (k : Int) (by omega) (by omega)
    obtain ⟨a2,e2,r0,r1,r2,r3,r4,r5⟩:=at_T84 hC ((k + 1 : Nat) : Int) (by omega) (by omega)
    cases e1
    cases e2
    rw [Int.toNat_natCast,← hs0] at q0 q1 q2 q3 q4 q5
    rw [Int.toNat_natCast,← hs1] at r0 r1 r2 r3 r4 r5
    exact ⟨⟨q0,q1,q2,q3,q4,q5⟩,r0,r1,r2,r3,r4,r5⟩)
   clear hs0 hs1
   go_wp2
   refine start_ (n:=12) (S:=fun w' => (w'.cell? (ad.add (k * 6)) = some (ii s0.f0) ∧ w'.cell? ⟨(ad.add (k * 6)).block,(ad.add (k * 6)).off + 1,none⟩ = some (ii s0.f1) ∧ w'.cell? ⟨(ad.add (k * 6)).block,(ad.add (k * 6)).off + 2,none⟩ = some (ii s0.f2) ∧ w'.cell? ⟨(ad.add (k * 6)).block,(ad.add (k * 6)).off + 3,none⟩ = some (ii s0.f3) ∧ w'.cell? ⟨(ad.add (k * 6)).block,(ad.add (k * 6)).off + 4,none⟩ = some (ii s0.f4) ∧ w'.cell? ⟨(ad.add (k * 6)).block,(ad.add (k * 6)).off + 5,none⟩ = some (ii s0.f5)) ∧ w'.cell? (ad.add ((k + 1) * 6)) = some (ii s1.f0) ∧ w'.cell? ⟨(ad.add ((k + 1) * 6)).block,(ad.add ((k + 1) * 6)).off + 1,none⟩ = some (ii s1.f1) ∧ w'.cell? ⟨(ad.add ((k + 1) * 6)).block,(ad.add ((k + 1) * 6)).off + 2,none⟩ = some (ii s1.f2) ∧ w'.cell? ⟨(ad.add ((k + 1) * 6)).block,(ad.add ((k + 1) * 6)).off + 3,none⟩ = some (ii s1.f3) ∧ w'.cell? ⟨(ad.add ((k + 1) * 6)).block,(ad.add ((k + 1) * 6)).off + 4,none⟩ = some (ii s1.f4) ∧ w'.cell? ⟨(ad.add ((k + 1) * 6)).block,(ad.add ((k + 1) * 6)).off + 5,none⟩ = some (ii s1.f5)) (ds:=[9,11]) (ab 12 0) kr rfl kr HCE.out (fun hHeld => ?_);refine with_tabW R44_8.tab R44_8.bits (fun HT_ HW_ => ?_)
   generalize (w9).drew = wx at HN3 H93 HH53 HH63 HCE hHeld ⊢
   refine pure_ (i:=0) (N:=(some 46)) (v:=?_) (a':=?_) (ab 12 1) rfl rfl (any_of HT_.out kr) (fun _ _ _ h => h) (Or.inl ⟨by rfl,?_⟩) ?_ ?_
   rotate_left
   ·intro w'
    go_simp
    with_reducible rfl
   rotate_left
   ·exact vs
   refine pure_ (i:=1) (N:=(some 47)) (v:=?_) (a':=?_) (ab 12 3) rfl rfl (any_of HT_.out kr) (fun _ _ _ h => h) (Or.inl ⟨by rfl,?_⟩) ?_ ?_
   rotate_left
   ·intro w'
    go_simp
    with_reducible rfl
   rotate_left
   ·exact vs
   refine pure_ (i:=2) (N:=(some 48)) (v:=?_) (a':=?_) (ab 12 7) rfl rfl (any_of HT_.out kr) (fun _ _ _ h => h) (Or.inl ⟨by rfl,?_⟩) ?_ ?_
   rotate_left
   ·intro w'
    go_simp
    with_reducible rfl
   rotate_left
   ·exact vs
   refine pure_ (i:=3) (N:=(some 49)) (v:=?_) (a':=?_) (ab 12 15) rfl rfl (any_of HT_.out kr) (fun _ _ _ h => h) (Or.inl ⟨by rfl,?_⟩) ?_ ?_
   rotate_left
   ·intro w'
    go_simp
    with_reducible rfl
   rotate_left
   ·exact vs
   refine take_ (i:=4) (N:=(some 50)) (v:=?_) (a':=?_) (ab 12 31) rfl rfl (take_ofW HT_.out HW_.out kr) (fun _ _ _ h => h) (Or.inl ⟨by rfl,?_⟩) hHeld ?_ ?_
   rotate_left
   ·rintro w' ⟨⟨q0,q1,q2,q3,q4,q5⟩,r0,r1,r2,r3,r4,r5⟩
    go_simp
    with_reducible rfl
   rotate_left
   ·exact vs
   refine pure_ (i:=5) (N:=(some 51)) (v:=?_) (a':=?_) (ab 12 63) rfl rfl (any_of HT_.out kr) (fun _ _ _ h => h) (Or.inl ⟨by rfl,?_⟩) ?_ ?_
   rotate_left
   ·intro w'
    go_simp
    with_reducible rfl
   rotate_left
   ·exact vs
   refine pure_ (i:=6) (N:=(some 52)) (v:=?_) (a':=?_) (ab 12 127) rfl rfl (any_of HT_.out kr) (fun _ _ _ h => h) (Or.inl ⟨by rfl,?_⟩) ?_ ?_
   rotate_left
   ·intro w'
    go_simp
    with_reducible rfl
   rotate_left
   ·exact vs
   refine take_ (i:=7) (N:=(some 53)) (v:=?_) (a':=?_) (ab 12 255) rfl rfl (take_ofW HT_.out HW_.out kr) (fun _ _ _ h => h) (Or.inl ⟨by rfl,?_⟩) hHeld ?_ ?_
   rotate_left
   ·rintro w' ⟨⟨q0,q1,q2,q3,q4,q5⟩,r0,r1,r2,r3,r4,r5⟩
    go_simp
    with_reducible rfl
   rotate_left
   ·exact vs
   refine pure_ (i:=8) (N:=(some 54)) (v:=?_) (a':=?_) (ab 12 511) rfl rfl (any_of HT_.out kr) (fun _ _ _ h => h) (Or.inl ⟨by rfl,?_⟩) ?_ ?_
   rotate_left
   ·intro w'
    go_simp
    with_reducible rfl
   rotate_left
   ·exact vs
   refine last_ (i:=9) (N:=none) (ab 12 1023) rfl rfl (one_of HT_.out kr) (by decide) (fun K hK => ?_)
   have hx:=row84_set HH63.out (i:=k) (Nat.lt_of_succ_lt hkl) s1
   obtain ⟨wa,hwa⟩ : ∃ wa,wa = wx.setCells g (k * 6) (cells84 s1):=⟨_,rfl⟩
   rw [← hwa] at hx
   have hr : (Instr.storeAt 84 (.pointer (some (ad.add (k * 6)))) (.agg #[ii s1.f0,ii s1.f1,ii s1.f2,ii s1.f3,ii s1.f4,ii s1.f5])).run Tryz.prog wx = .ok () wa:=by
    rw [HAD.out,add_plain]
    exact hx.1
   have x2:=hx.2.1
   have x3:=hx.2.2
   clear hx hwa
   refine skip_ (w1:=wa) ?ha ?hb ?hrun ?hrest
   case ha => rfl
   case hb => rfl
   case hrun => exact exec_store (t:=84) (p:=.tmp 54) (q:=.tmp 50) rfl rfl rfl hr
   clear hr
   have HN4:=am (below_grown HN3.out HN3.out.size x3 HGN.out)
   have H94:=am (blk_grown H93.out x3 (by intro e;injection e with e;exact HNE.out e))
   have HH54:=am (R_own_move rfl HH53.out (fun k hk => x3.block k (Kd.R_lt HH53.out k hk) (fun e => by rw [e] at hk;exact R_off HH53.out HH63.out (by decide) g hk rfl)))
   have HH64:=am (x2)
   clear x2 x3
   refine hK.out _ _ ?_
   clear hK K
   refine pure_ (i:=10) (N:=(some 55)) (v:=?_) (a':=?_) (ab 12 2047) rfl rfl (any_of HT_.out kr) (fun _ _ _ h => h) (Or.inl ⟨by rfl,?_⟩) ?_ ?_
   rotate_left
   ·intro w'
    go_simp
    with_reducible rfl
   rotate_left
   ·exact vs
   refine last_ (i:=11) (N:=none) (ab 12 4095) rfl rfl (one_of HT_.out kr) (by decide) (fun K hK => ?_)
   have hx:=row84_set HH64.out (i:=k + 1) hkl s0
   obtain ⟨wb,hwb⟩ : ∃ wb,wb = wa.setCells g ((k + 1) * 6) (cells84 s0):=⟨_,rfl⟩
   rw [← hwb] at hx
   have hr : (Instr.storeAt 84 (.pointer (some (ad.add ((k + 1) * 6)))) (.agg #[ii s0.f0,ii s0.f1,ii s0.f2,ii s0.f3,ii s0.f4,ii s0.f5])).run Tryz.prog wa = .ok () wb:=by
    rw [HAD.out,add_plain]
    exact hx.1
   have x2:=hx.2.1
   have x3:=hx.2.2
   clear hx hwb
   refine skip_ (w1:=wb) ?ha2 ?hb2 ?hrun2 ?hrest2
   case ha2 => rfl
   case hb2 => rfl
   case hrun2 => exact exec_store (t:=84) (p:=.tmp 55) (q:=.tmp 53) rfl rfl rfl hr
   clear hr
   refine hK.out _ _ ?_
   clear hK K
   refine done_ (done_of HT_.out kr) ?_
   have HN5:=am (below_grown HN4.out HN4.out.size x3 HGN.out)
   have H95:=am (blk_grown H94.out x3 (by intro e;injection e with e;exact HNE.out e))
   have HH55:=am (R_own_move rfl HH54.out (fun k hk => x3.block k (Kd.R_lt HH54.out k hk) (fun e => by rw [e] at hk;exact R_off HH54.out HH64.out (by decide) g hk rfl)))
   have HH65:=am (x2)
   clear x2 x3 HN2 H92 HH52 HH62 HN3 H93 HH53 HH63 HN4 H94 HH54 HH64 HCE
   have HN6:=am (below_drew HN5.out)
   have H96:=am (blk_drew H95.out)
   have HH56:=am (Kd.R_drew HH55.out)
   have HH66:=am (Kd.R_drew HH65.out)
   obtain ⟨ls,hls⟩ : ∃ ls,ls = (stirs.set k s1).set (k + 1) s0:=⟨_,rfl⟩
   rw [← hls] at HH66
   have HLS:=am hls
   have HE0:=am (show (ls.getD k z84).f2 = s1.f2 by rw [hls,getD84_set s0 (by rw [List.length_set];omega),if_neg (by omega),getD84_set s1 (by omega),if_pos rfl])
   have HE1:=am (show (ls.getD (k + 1) z84).f2 = s0.f2 by rw [hls,getD84_set s0 (by rw [List.length_set];omega),if_pos rfl])
   clear hls HN5 H95 HH55 HH65
   have HCE:=am (show wb.drew.cell? ⟨(ad.add (k * 6)).block,(ad.add (k * 6)).off + 2,none⟩ = some (ii s1.f2) ∧ wb.drew.cell? ⟨(ad.add ((k + 1) * 6)).block,(ad.add ((k + 1) * 6)).off + 2,none⟩ = some (ii s0.f2) from by
    rw [HAD.out,add_plain,add_plain]
    exact ⟨by rw [← HE0.out];exact (row84_day HH66.out (i:=k) (Nat.lt_of_succ_lt hkl) 0).2.2.1,by rw [← HE1.out];exact (row84_day HH66.out (i:=k + 1) hkl 0).2.2.1⟩)
   go_wp2
   refine start_ (n:=16) (S:=fun w' => w'.cell? ⟨(ad.add (k * 6)).block,(ad.add (k * 6)).off + 2,none⟩ = some (ii s1.f2) ∧ w'.cell? ⟨(ad.add ((k + 1) * 6)).block,(ad.add ((k + 1) * 6)).off + 2,none⟩ = some (ii s0.f2)) (ds:=[12,15]) (ab 16 0) kr rfl kr HCE.out (fun hHeld => ?_);refine with_tabW R44_9.tab R44_9.bits (fun HT_ HW_ => ?_)
   generalize (wb).drew = wx at HN6 H96 HH56 HH66 HCE hHeld ⊢
   refine pure_ (i:=0) (N:=(some 56)) (v:=?_) (a':=?_) (ab 16 1) rfl rfl (any_of HT_.out kr) (fun _ _ _ h => h) (Or.inl ⟨by rfl,?_⟩) ?_ ?_
   rotate_left
   ·intro w'
    go_simp
    with_reducible rfl
   rotate_left
   ·exact vs
   refine pure_ (i:=1) (N:=(some 57)) (v:=?_) (a':=?_) (ab 16 3) rfl rfl (any_of HT_.out kr) (fun _ _ _ h => h) (Or.inl ⟨by rfl,?_⟩) ?_ ?_
   rotate_left
   ·intro w'
    go_simp
    with_reducible rfl
   rotate_left
   ·exact vs
   refine pure_ (i:=2) (N:=(some 58)) (v:=?_) (a':=?_) (ab 16 7) rfl rfl (any_of HT_.out kr) (fun _ _ _ h => h) (Or.inl ⟨by rfl,?_⟩) ?_ ?_
   rotate_left
   ·intro w'
    go_simp
    with_reducible rfl
   rotate_left
   ·exact vs
   refine pure_ (i:=3) (N:=(some 59)) (v:=?_) (a':=?_) (ab 16 15) rfl rfl (any_of HT_.out kr) (fun _ _ _ h => h) (Or.inl ⟨by rfl,?_⟩) ?_ ?_
   rotate_left
   ·intro w'
    go_simp
    with_reducible rfl
   rotate_left
   ·exact vs
   refine pure_ (i:=4) (N:=(some 60)) (v:=?_) (a':=?_) (ab 16 31) rfl rfl (any_of HT_.out kr) (fun _ _ _ h => h) (Or.inl ⟨by rfl,?_⟩) ?_ ?_
   rotate_left
   ·intro w'
    go_simp
    with_reducible rfl
   rotate_left
   ·exact vs
   refine take_ (i:=5) (N:=(some 61)) (v:=?_) (a':=?_) (ab 16 63) rfl rfl (take_ofW HT_.out HW_.out kr) (fun _ _ _ h => h) (Or.inl ⟨by rfl,?_⟩) hHeld ?_ ?_
   rotate_left
   ·rintro w' ⟨q0,q1⟩
    go_simp
    with_reducible rfl
   rotate_left
   ·exact vs
   refine pure_ (i:=6) (N:=(some 62)) (v:=?_) (a':=?_) (ab 16 127) rfl rfl (any_of HT_.out kr) (fun _ _ _ h => h) (Or.inl ⟨by rfl,?_⟩) ?_ ?_
   rotate_left
   ·intro w'
    go_simp
    with_reducible rfl
   rotate_left
   ·exact vs
   refine pure_ (i:=7) (N:=(some 63)) (v:=?_) (a':=?_) (ab 16 255) rfl rfl (any_of HT_.out kr) (fun _ _ _ h => h) (Or.inl ⟨by rfl,?_⟩) ?_ ?_
   rotate_left
   ·intro w'
    go_simp
    with_reducible rfl
   rotate_left
   ·exact vs
   refine pure_ (i:=8) (N:=(some 64)) (v:=?_) (a':=?_) (ab 16 511) rfl rfl (any_of HT_.out kr) (fun _ _ _ h => h) (Or.inl ⟨by rfl,?_⟩) ?_ ?_
   rotate_left
   ·intro w'
    go_simp
    with_reducible rfl
   rotate_left
   ·exact vs
   refine take_ (i:=9) (N:=(some 65)) (v:=?_) (a':=?_) (ab 16 1023) rfl rfl (take_ofW HT_.out HW_.out kr) (fun _ _ _ h => h) (Or.inl ⟨by rfl,?_⟩) hHeld ?_ ?_
   rotate_left
   ·rintro w' ⟨q0,q1⟩
    go_simp
    with_reducible rfl
   rotate_left
   ·exact vs
   refine pure_ (i:=10) (N:=(some 66)) (v:=?_) (a':=?_) (ab 16 2047) rfl rfl (any_of HT_.out kr) (fun _ _ _ h => h) (Or.inl ⟨by rfl,?_⟩) ?_ ?_
   rotate_left
   ·intro w'
    go_simp
    with_reducible rfl
   rotate_left
   ·exact vs
   refine pure_ (i:=11) (N:=(some 67)) (v:=?_) (a':=?_) (ab 16 4095) rfl rfl (any_of HT_.out kr) (fun _ _ _ h => h) (Or.inl ⟨by rfl,?_⟩) ?_ ?_
   rotate_left
   ·intro w'
    go_simp
    with_reducible rfl
   rotate_left
   ·exact vs
   refine last_ (i:=12) (N:=none) (ab 16 8191) rfl rfl (one_of HT_.out kr) (by decide) (fun K hK => ?_)
   have hx:=row84_day HH66.out (i:=k) (Nat.lt_of_succ_lt hkl) s0.f2
   have x2:=hx.1
   have x3:=hx.2.1
   have x4:=hx.2.2.1
   have x5:=hx.2.2.2
   clear hx
   have u0 : wx.cell? ⟨(ad.add (k * 6)).block,(ad.add (k * 6)).off + 2,none⟩ = some (ii (ls.getD k z84).f2):=by rw [HAD.out,add_plain];exact x4
   have f0 : wx.frozen? ⟨(ad.add (k * 6)).block,(ad.add (k * 6)).off + 2,none⟩ = false:=by rw [HAD.out,add_plain];exact x5
   refine skip_ (w1:=?_) (by rfl) rfl ?_ ?_
   rotate_left
   ·go_simp
    rfl
   rw [show wx.setCell ⟨(ad.add (k * 6)).block,(ad.add (k * 6)).off + 2,none⟩ (ii s0.f2) = wx.setCell ⟨g,k * 6 + 2,none⟩ (ii s0.f2) by rw [HAD.out,add_plain]]
   have HN7:=am (below_grown HN6.out HN6.out.size x3 HGN.out)
   have H97:=am (blk_grown H96.out x3 (by intro e;injection e with e;exact HNE.out e))
   have HH57:=am (R_own_move rfl HH56.out (fun k hk => x3.block k (Kd.R_lt HH56.out k hk) (fun e => by rw [e] at hk;exact R_off HH56.out HH66.out (by decide) g hk rfl)))
   have HH67:=am (x2)
   clear x2 x3 x4 x5 u0 f0
   refine hK.out _ _ ?_
   clear hK K
   refine pure_ (i:=13) (N:=(some 68)) (v:=?_) (a':=?_) (ab 16 16383) rfl rfl (any_of HT_.out kr) (fun _ _ _ h => h) (Or.inl ⟨by rfl,?_⟩) ?_ ?_
   rotate_left
   ·intro w'
    go_simp
    with_reducible rfl
   rotate_left
   ·exact vs
   refine pure_ (i:=14) (N:=(some 69)) (v:=?_) (a':=?_) (ab 16 32767) rfl rfl (any_of HT_.out kr) (fun _ _ _ h => h) (Or.inl ⟨by rfl,?_⟩) ?_ ?_
   rotate_left
   ·intro w'
    go_simp
    with_reducible rfl
   rotate_left
   ·exact vs
   refine last_ (i:=15) (N:=none) (ab 16 65535) rfl rfl (one_of HT_.out kr) (by decide) (fun K hK => ?_)
   have hx:=row84_day HH67.out (i:=k + 1) hkl s1.f2
   have x2:=hx.1
   have x3:=hx.2.1
   have x4:=hx.2.2.1
   have x5:=hx.2.2.2
   clear hx
   have u0 : (wx.setCell ⟨g,k * 6 + 2,none⟩ (ii s0.f2)).cell? ⟨(ad.add ((k + 1) * 6)).block,(ad.add ((k + 1) * 6)).off + 2,none⟩ = some (ii ((ls.set k { ls.getD k z84 with f2:=s0.f2 }).getD (k + 1) z84).f2):=by rw [HAD.out,add_plain];exact x4
   have f0 : (wx.setCell ⟨g,k * 6 + 2,none⟩ (ii s0.f2)).frozen? ⟨(ad.add ((k + 1) * 6)).block,(ad.add ((k + 1) * 6)).off + 2,none⟩ = false:=by rw [HAD.out,add_plain];exact x5
   refine skip_ (w1:=?_) (by rfl) rfl ?_ ?_
   rotate_left
   ·go_simp
    rfl
   rw [show (wx.setCell ⟨g,k * 6 + 2,none⟩ (ii s0.f2)).setCell ⟨(ad.add ((k + 1) * 6)).block,(ad.add ((k + 1) * 6)).off + 2,none⟩ (ii s1.f2) = (wx.setCell ⟨g,k * 6 + 2,none⟩ (ii s0.f2)).setCell ⟨g,(k + 1) * 6 + 2,none⟩ (ii s1.f2) by rw [HAD.out,add_plain]]
   refine hK.out _ _ ?_
   clear hK K
   refine done_ (done_of HT_.out kr) ?_
   have HN8:=am (below_grown HN7.out HN7.out.size x3 HGN.out)
   have H98:=am (blk_grown H97.out x3 (by intro e;injection e with e;exact HNE.out e))
   have HH58:=am (R_own_move rfl HH57.out (fun k hk => x3.block k (Kd.R_lt HH57.out k hk) (fun e => by rw [e] at hk;exact R_off HH57.out HH67.out (by decide) g hk rfl)))
   have HH68:=am (x2)
   clear x2 x3 x4 x5 u0 f0 HN6 H96 HH56 HH66 HN7 H97 HH57 HH67 HCE
   generalize (wx.setCell ⟨g,k * 6 + 2,none⟩ (ii s0.f2)).setCell ⟨g,(k + 1) * 6 + 2,none⟩ (ii s1.f2) = w11 at HN8 H98 HH58 HH68 ⊢
   obtain ⟨ns,hns⟩ : ∃ ns,ns = swapP stirs k:=⟨_,rfl⟩
   have HNS:=am hns
   have HH69:=am (show k84.R 84 w11 wd.heap.size (fun _ => True) (.slice (some ⟨g,0,none⟩) stirs.length c6) ns from by
    have h:=HH68.out
    rw [HLS.out,swap_steps hkl s0 s1 HS0.out HS1.out,← hns] at h
    exact h)
   have hnl : ns.length = stirs.length:=by rw [hns,swapP_length]
   clear hns HH68 HLS HE0 HE1 HS0 HS1
   have HF5:=am (show Kd.F (Kd.int .i64) w11 (fun k => k < w11.heap.size) A5 rooms.length rooms from Kd.F_mono (Kd.R_F (Kd.R_bound HH58.out)) (fun k hk => hk.2.2.1))
   have HF9:=am (show Kd.F (Kd.int .i64) w11 (fun k => wd.heap.size ≤ k) A5 rooms.length rooms from Kd.F_mono (Kd.R_F (Kd.R_bound HH58.out)) (fun k hk => hk.2.1))
   have HFS0:=am (show Kd.F k84 w11 (fun k => wd.heap.size ≤ k) (some ad) stirs.length ns from by have h:=Kd.F_mono (Kd.R_F (Kd.R_bound HH69.out)) (fun k hk => hk.2.1);rw [HAD.out];exact h)
   have HC6:=am (show Kd.C k84 w11 (some ⟨g,0,none⟩) ns.length ns from (Kd.R_reads' HH69.out).2.2)
   have HL5:=am (Kd.R_reads' HH58.out).2.1
   have HL6:=am (Kd.R_reads' HH69.out).2.1
   have HNL:=am hnl
   clear HH58 HH69 hnl
   obtain ⟨r2,hr2⟩ : ∃ r2,r2 = playedP rooms ns ns.length:=⟨_,rfl⟩
   have HQ2:=am hr2.symm
   clear hr2
   rw [← HAD.out] at HC6
   have hall:=all_calls A5 (some ad) c5 c6 rooms ns w11 w11.heap.size (Nat.le_refl _) HF5.out HL5.out HC6.out (by rw [HNL.out];exact HL6.out)
   rw [HNL.out] at hall
   have HALL:=am hall
   clear hall
   have g0:=bd H98.out 0
   have g1:=bd H98.out 1
   go_wp2_with fail
   refine HALL.out.mono ?_
   rintro e w12 ⟨hb,h⟩
   rw [← HNL.out,HQ2.out] at h
   have HN9:=am (below_then HN8.out HN8.out.size hb)
   have H99:=am (blk_below H98.out hb)
   have HF6:=am (Kd.F_below HF9.out hb)
   have HFS:=am (Kd.F_below HFS0.out hb)
   clear hb g0 g1 HALL
   have HRZ:=am (blk_below HR3.out HN9.out)
   have HBZ:=am (below_then HB5.out (below_size HB5.out) HN9.out)
   have HYZ:=am (HY2.out.move HN9.out)
   have hsw : swapR rooms stirs ((k + 1 : Nat) : Int) = r2:=by unfold swapR;rw [Int.toNat_natCast,show k + 1 - 1 = k by omega,← HNS.out];exact HQ2.out
   have HSW:=am hsw
   clear hsw
   cases r2 with
  |error x =>
    subst h
    have hx : ¬ x.1 = 0:=playedP_code HQ2.out
    have u0:=bd HRZ.out 0
    have fu0:=blk_frozen HRZ.out 0
    have u1:=bd HRZ.out 1
    have fu1:=blk_frozen HRZ.out 1
    go_wp2
    have bz:=blk_put (cs':=#[.slice none 0 0,.slice none 0 0]) (blk_put (cs':=#[.slice none 0 0,.slice none 0 0]) (HRZ.out) 0 (.slice none 0 0) rfl) 1 (.slice none 0 0) rfl
    have z0:=bd bz 0
    have z1:=bd bz 1
    exact bodyPost_ret (v:=.tuple #[.agg #[.slice none 0 0,.slice none 0 0],.bool false,ii x.1]) (by simp [results,Tryz.results44,go_sem,z0,z1,hu]) rfl ⟨((HBZ.out).setCell (p:=⟨W.heap.size + 1,0,none⟩) (by first|(simp;done)|(simp;omega)) (.slice none 0 0)).setCell (p:=⟨W.heap.size + 1,1,none⟩) (by first|(simp;done)|(simp;omega)) (.slice none 0 0),by rw [HQP.out];dsimp only;rw [if_pos HK.out.symm,HSW.out]⟩
  |ok Z =>
    obtain ⟨M,base2,hbase2,hbad2,rfl,hZ⟩:=h
    have HZZ:=am (hZ)
    have HWZ:=am (played_ok HQ2.out).2.2.1
    clear hbase2 hbad2 hZ
    have HSZ:=am (show W.heap.size ≤ wd.heap.size from HB5.out.size)
    have HLTW:=am (show W.heap.size + 1 < wd.heap.size from blk_lt HR3.out)
    have HRZ1:=am (blk_drew HRZ.out)
    have HBZ1:=am (below_drew HBZ.out)
    have HYZ1:=am (HYZ.out.move (below_drew (Below.refl _ _)))
    have H991:=am (blk_drew H99.out)
    have HF61:=am (Kd.F_drew HF6.out)
    have HFS1:=am (Kd.F_drew HFS.out)
    have HZZ1:=am (HZZ.out.move (below_drew (Below.refl _ _)))
    go_wp2
    refine start_ (n:=7) (S:=fun w' => w'.cell? ⟨p9,0,none⟩ = some (.slice A5 rooms.length c5) ∧ w'.cell? ⟨p9,1,none⟩ = some (.slice (some ad) stirs.length c6)) (ds:=[4]) (ab 7 0) kr rfl kr ⟨(blk_cell H991.out 0).trans rfl,(blk_cell H991.out 1).trans rfl⟩ (fun hHeld => ?_);refine with_tabW R44_13.tab R44_13.bits (fun HT_ HW_ => ?_)
    generalize (w12).drew = wx at HRZ1 HBZ1 HYZ1 H991 HF61 HFS1 HZZ1 hHeld ⊢
    refine take_ (i:=0) (N:=(some 79)) (v:=?_) (a':=?_) (ab 7 1) rfl rfl (take_ofW HT_.out HW_.out kr) (fun _ _ _ h => h) (Or.inl ⟨by rfl,?_⟩) hHeld ?_ ?_
    rotate_left
    ·rintro w' ⟨q0,q1⟩
     go_simp
     with_reducible rfl
    rotate_left
    ·exact vs
    refine pure_ (i:=1) (N:=(some 80)) (v:=?_) (a':=?_) (ab 7 3) rfl rfl (any_of HT_.out kr) (fun _ _ _ h => h) (Or.inl ⟨by rfl,?_⟩) ?_ ?_
    rotate_left
    ·intro w'
     go_simp
     with_reducible rfl
    rotate_left
    ·exact vs
    refine pure_ (i:=2) (N:=(some 81)) (v:=?_) (a':=?_) (ab 7 7) rfl rfl (any_of HT_.out kr) (fun _ _ _ h => h) (Or.inl ⟨by rfl,?_⟩) ?_ ?_
    rotate_left
    ·intro w'
     go_simp
     with_reducible rfl
    rotate_left
    ·exact vs
    refine one_ (i:=3) (N:=(some 82)) (ab 7 15) rfl rfl (one_of HT_.out kr) (by decide) (fun K hK => ?_)
    refine gC Tryz.func125 #[.pointer (some ⟨L.g,0,none⟩),.pointer (some ⟨M.g,0,none⟩)] ?_
    refine (alike_calls HYZ1.out HZZ1.out HWZ.out (Nat.le_refl _)).mono ?_
    rintro e w13 ⟨rfl,hb⟩
    have HRZ2:=am (blk_below HRZ1.out hb)
    have HBZ2:=am (below_then HBZ1.out (below_size HBZ1.out) hb)
    have H992:=am (blk_below H991.out hb)
    have HF62:=am (Kd.F_below HF61.out hb)
    have HFS2:=am (Kd.F_below HFS1.out hb)
    clear hb
    refine ⟨_,rfl,?_⟩
    refine hK.out _ _ ⟨(blk_cell H992.out 0).trans rfl,(blk_cell H992.out 1).trans rfl⟩ (fun hHeld => ?_)
    clear hK K
    refine qN (some 82) ?_
    refine last_ (i:=4) (N:=none) (ab 7 31) rfl rfl (one_of HT_.out kr) (by decide) (fun K hK => ?_)
    have u0:=bd HRZ2.out 0
    have fu0:=blk_frozen HRZ2.out 0
    have u1:=bd HRZ2.out 1
    have fu1:=blk_frozen HRZ2.out 1
    refine skip_ (w1:=?_) (by rfl) rfl ?_ ?_
    rotate_left
    ·go_simp
     rfl
    refine hK.out _ _ ?_
    clear hK K
    refine pure_ (i:=5) (N:=(some 5)) (v:=?_) (a':=?_) (ab 7 63) rfl rfl (any_of HT_.out kr) (fun _ _ _ h => h) (Or.inl ⟨by rfl,?_⟩) ?_ ?_
    rotate_left
    ·intro w'
     go_simp
     with_reducible rfl
    rotate_left
    ·exact vs
    refine pure_ (i:=6) (N:=(some 6)) (v:=?_) (a':=?_) (ab 7 127) rfl rfl (any_of HT_.out kr) (fun _ _ _ h => h) (Or.inl ⟨by rfl,?_⟩) ?_ ?_
    rotate_left
    ·intro w'
     go_simp
     with_reducible rfl
    rotate_left
    ·exact vs
    refine done_ (done_of HT_.out kr) ?_
    go_wp2
    have HF7:=am (Kd.F_far (Kd.F_far HF62.out (p:=⟨W.heap.size + 1,0,none⟩) (fun k hk => by have h:=HLTW.out;(try dsimp only);omega) (.slice A5 rooms.length c5)) (p:=⟨W.heap.size + 1,1,none⟩) (fun k hk => by have h:=HLTW.out;(try dsimp only);omega) (.slice (some ad) stirs.length c6))
    have HC8:=am ((Kd.F_far (Kd.F_far HFS2.out (p:=⟨W.heap.size + 1,0,none⟩) (fun k hk => by have h:=HLTW.out;(try dsimp only);omega) (.slice A5 rooms.length c5)) (p:=⟨W.heap.size + 1,1,none⟩) (fun k hk => by have h:=HLTW.out;(try dsimp only);omega) (.slice (some ad) stirs.length c6)))
    have bz:=blk_put (cs':=#[.slice A5 rooms.length c5,.slice (some ad) stirs.length c6]) (blk_put (cs':=#[.slice A5 rooms.length c5,.slice none 0 0]) (HRZ2.out) 0 (.slice A5 rooms.length c5) rfl) 1 (.slice (some ad) stirs.length c6) rfl
    have z0:=bd bz 0
    have z1:=bd bz 1
    exact bodyPost_ret (v:=.tuple #[.agg #[.slice A5 rooms.length c5,.slice (some ad) stirs.length c6],.bool (alikeP Y Z),ii 0]) (by simp [results,Tryz.results44,go_sem,z0,z1,hu]) rfl ⟨((HBZ2.out).setCell (p:=⟨W.heap.size + 1,0,none⟩) (by first|(simp;done)|(simp;omega)) (.slice A5 rooms.length c5)).setCell (p:=⟨W.heap.size + 1,1,none⟩) (by first|(simp;done)|(simp;omega)) (.slice (some ad) stirs.length c6),by
     rw [HQP.out]
     dsimp only
     rw [if_pos HK.out.symm,HSW.out]
     exact ⟨A5,some ad,c5,c6,rfl,HL5.out,HL6.out,Kd.F_mono HF7.out (fun k hk => Nat.le_trans HSZ.out hk),by rw [Int.toNat_natCast,show k + 1 - 1 = k by omega,← HNS.out];exact Kd.F_mono HC8.out (fun k hk => Nat.le_trans HSZ.out hk)⟩⟩
def exR : List Int:=[100,50]
def exS : List S84:=[⟨1,1,0,0,0,30⟩,⟨2,1,2,0,0,20⟩,⟨11,2,3,0,0,10⟩,⟨0,3,4,0,0,0⟩,⟨12,2,9,0,0,10⟩,⟨0,4,9,0,1,15⟩,⟨3,1,10,1,0,5⟩,⟨13,2,12,1,0,18⟩]
def exY : Yd:=match playedP exR exS exS.length with
|.ok Y => Y
|.error _ => emptyP []
def exB : S167:=⟨13,7,18,[⟨1,⟨15,2⟩⟩,⟨2,⟨15,2⟩⟩,⟨3,⟨3,1⟩⟩]⟩
def exG : List S113:=[⟨1,⟨0,100⟩⟩,⟨2,⟨60,60⟩⟩]
def exP : List S137:=[⟨12,⟨100,120⟩⟩,⟨13,⟨50,90⟩⟩]
theorem ex_ok : playedP exR exS exS.length = .ok exY:=by kernel_rfl
theorem ex_barrow : exY.barrows.find? (isId 13) = some exB:=by kernel_rfl
theorem ex_share : shareE (playedP exR exS exS.length) 13 3 = (⟨1,6⟩,0):=by kernel_rfl
theorem ex_ages : agesE exS (playedP exR exS exS.length) 13 = ((2,12),0):=by kernel_rfl
theorem ex_ripe : ripeE exS (playedP exR exS exS.length) 12 8 = (⟨1,2⟩,0):=by kernel_rfl
theorem ex_fate : fateE (playedP exR exS exS.length) 2 = ([⟨12,⟨5,1⟩⟩,⟨13,⟨15,2⟩⟩],⟨15,2⟩,⟨0,1⟩,0):=by kernel_rfl
theorem ex_worth : worthE (playedP exR exS exS.length) 13 exG = (⟨25,1⟩,⟨700,3⟩,0):=by kernel_rfl
theorem ex_probes : probesE exY exP = 0:=by kernel_rfl
theorem ex_culp : culpP exY exP exY.pours = [⟨1,⟨200,1⟩,⟨216,1⟩⟩,⟨2,⟨200,1⟩,⟨216,1⟩⟩]:=by kernel_rfl
def exZ (step : Int) : Yd:=match swapR exR exS step with
|.ok Y => Y
|.error _ => emptyP []
theorem ex_in5 : inP 5 1 ((exS.length : Int) - 1) = true:=by kernel_rfl
theorem ex_in1 : inP 1 1 ((exS.length : Int) - 1) = true:=by kernel_rfl
theorem ex_swap5 : swapR exR exS 5 = .ok (exZ 5):=by kernel_rfl
theorem ex_swap1 : swapR exR exS 1 = .ok (exZ 1):=by kernel_rfl
theorem ex_alike5 : alikeP exY (exZ 5) = true:=by kernel_rfl
theorem ex_alike1 : alikeP exY (exZ 1) = false:=by kernel_rfl
theorem ex_frac (n d : Int) (w : World) : Calls Tryz.prog 52 #[ii n,ii d] w fun e w' => e = .returned (.agg #[ii n,ii d]) ∧ Below w.heap.size w w':=calxlaw04_frac.calls n d n d w rfl
end Go.Proofs.YtjjfpmapjjemcaaGreat.B
end
