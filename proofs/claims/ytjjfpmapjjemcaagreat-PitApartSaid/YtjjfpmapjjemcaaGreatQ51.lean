import Derived.Test.YtjjfpmapjjemcaaGreatQ49
import Derived.Test.YtjjfpmapjjemcaaGreatQ7
set_option linter.unusedVariables false
set_option linter.unusedSimpArgs false
section
namespace Go.Proofs.YtjjfpmapjjemcaaGreat.B
open Go.RowKit Go.Proofs.YtjjfpmapjjemcaaGreatW.PrintWords Go.Proofs.YtjjfpmapjjemcaaGreatW.PrintLast Go.Proofs.YtjjfpmapjjemcaaGreatW.PrintMore
attribute [local go_sem] max2_int min2_int max_two min_two max_three min_three max_four min_four
def R42_6.T : Bool × List (List Nat × List Nat):=(true,[([],[]),([0],[0]),([1],[1]),([],[]),([3],[3]),([],[]),([4,5],[4,5]),([6,2],[6]),([2,7],[2,7]),([8,7,0,1,2,3,4,5,6,7,8],[8]),([9,0,1,2,3,4,5,6,7,8,9],[])])
def R42_6.B : List Nat:=[0,1,3,0,8,0,56,127,255,511,1023]
theorem R42_6.tab : rtab .any (opsOf Tryz.f42 6) = R42_6.T:=by kernel_rfl
theorem R42_6.bits : waitsOk R42_6.T.2 R42_6.B = true:=by kernel_rfl
def cutE (rooms : List Int) (stirs : List S84) (steps : Int) : List Int × List S84 × Int:=match playedP rooms stirs stirs.length with
|.error x => ([],[],x.1)
|.ok _ => if inP steps 0 (stirs.length : Int) = true then (rooms,stirs.take steps.toNat,0) else ([],[],1)
def CutPost (W : World) (q : List Int × List S84 × Int) (e : Ending) (W' : World) : Prop :=
 Below W.heap.size W W' ∧ ∃ (A5 A6 : Option Addr) (c5 c6 : Nat),e = .returned (.tuple #[.agg #[.slice A5 q.1.length c5,.slice A6 q.2.1.length c6],ii q.2.2]) ∧ q.1.length ≤ c5 ∧ q.2.1.length ≤ c6 ∧ Kd.F (Kd.int .i64) W' (fun k => W.heap.size ≤ k) A5 q.1.length q.1 ∧ Kd.F k84 W' (fun k => W.heap.size ≤ k) A6 q.2.1.length q.2.1
set_option maxRecDepth 100000 in
set_option maxHeartbeats 2000000 in
theorem cut_calls (A A2 : Option Addr) (c c2 : Nat) (rooms : List Int) (stirs : List S84) (W : World) (lo : Nat) (hlo : lo ≤ W.heap.size) (hC : Kd.F (Kd.int .i64) W (fun k => k < lo) A rooms.length rooms) (hc : rooms.length ≤ c) (hS : Kd.C k84 W A2 stirs.length stirs) (hc2 : stirs.length ≤ c2) (steps : Int) :
  Calls Tryz.prog 42 #[.agg #[.slice A rooms.length c,.slice A2 stirs.length c2],ii steps] W fun e W' => CutPost W (cutE rooms stirs steps) e W':=by
 have hu:=Tryz.underlying32
 have hu84:=Tryz.underlying84
 have hsm:=hS.2.1
 have hrm:=(Kd.F_now hC).2.1
 have HC:=am (hC)
 have HS:=am (hS)
 have HB:=am (Below.refl W.heap.size W)
 have HC1:=am (Kd.F_alloc HC.out (.cells #[.slice A rooms.length c,.slice A2 stirs.length c2] 32))
 have HS1:=am (Kd.C_alloc HS.out (.cells #[.slice A rooms.length c,.slice A2 stirs.length c2] 32))
 have HB1:=am (below_alloc HB.out (.cells #[.slice A rooms.length c,.slice A2 stirs.length c2] 32))
 have HP:=am (blk_new W (.cells #[.slice A rooms.length c,.slice A2 stirs.length c2] 32))
 have HC2:=am (Kd.F_alloc HC1.out (.cells #[.slice none 0 0,.slice none 0 0] 32))
 have HS2:=am (Kd.C_alloc HS1.out (.cells #[.slice none 0 0,.slice none 0 0] 32))
 have HB2:=am (below_alloc HB1.out (.cells #[.slice none 0 0,.slice none 0 0] 32))
 have HP1:=am (blk_alloc HP.out (.cells #[.slice none 0 0,.slice none 0 0] 32))
 have HR:=am (blk_new' (W.alloc (.cells #[.slice A rooms.length c,.slice A2 stirs.length c2] 32)) (.cells #[.slice none 0 0,.slice none 0 0] 32) (W.heap.size + 1) (by simp))
 clear hC hS
 obtain ⟨r,hr⟩ : ∃ r,r = playedP rooms stirs stirs.length:=⟨_,rfl⟩
 have HQP:=am hr.symm
 clear hr
 obtain ⟨q,hq⟩ : ∃ q,q = cutE rooms stirs steps:=⟨_,rfl⟩
 rw [← hq]
 have HQ:=am hq
 clear hq
 go_enter Tryz.func42,Tryz.ntmps42
 go_wp2_with fail
 refine (check_calls A A2 c c2 rooms stirs _ lo (Nat.le_trans hlo (by simp;omega)) HC2.out hc HS2.out hc2).mono ?_
 rintro e w1 ⟨rfl,hb⟩
 rw [HQP.out]
 have HC3:=am (Kd.F_below HC2.out hb)
 have HS3:=am (Kd.C_below HS2.out hb)
 have HB3:=am (below_then HB2.out (below_size HB2.out) hb)
 have HP2:=am (blk_below HP1.out hb)
 have HR1:=am (blk_below HR.out hb)
 clear hb
 cases r with
|error x =>
  have hx : ¬ x.1 = 0:=playedP_code HQP.out
  obtain ⟨x1,x2⟩:=x
  dsimp only [codeOf] at hx ⊢
  have HE:=am (show q = ([],[],x1) by rw [HQ.out];unfold cutE;rw [HQP.out];try rfl)
  have u0:=bd HR1.out 0
  have fu0:=blk_frozen HR1.out 0
  have u1:=bd HR1.out 1
  have fu1:=blk_frozen HR1.out 1
  go_wp2
  rw [HE.out]
  have bz:=blk_put (cs':=#[.slice none 0 0,.slice none 0 0]) (blk_put (cs':=#[.slice none 0 0,.slice none 0 0]) (HR1.out) 0 (.slice none 0 0) rfl) 1 (.slice none 0 0) rfl
  have z0:=bd bz 0
  have z1:=bd bz 1
  exact bodyPost_ret (v:=.tuple #[.agg #[.slice none 0 0,.slice none 0 0],ii x1]) (by simp [results,Tryz.results42,go_sem,z0,z1,hu]) rfl ⟨((HB3.out).setCell (p:=⟨W.heap.size + 1,0,none⟩) (by first|(simp;done)|(simp;omega)) (.slice none 0 0)).setCell (p:=⟨W.heap.size + 1,1,none⟩) (by first|(simp;done)|(simp;omega)) (.slice none 0 0),none,none,0,0,rfl,Nat.le_refl 0,Nat.le_refl 0,Kd.F_nil _ _ _,Kd.F_nil _ _ _⟩
|ok Y =>
  obtain ⟨k1,hk1⟩ : ∃ k1,k1 = inP steps 0 (stirs.length : Int):=⟨_,rfl⟩
  have HK:=am hk1
  have HWI:=am (show pit_within.f steps 0 (stirs.length : Int) = some k1 by rw [within_some,hk1];rfl)
  clear hk1
  dsimp only [codeOf]
  have g1:=bd HP2.out 1
  go_wp2_with fail
  refine (pit_within.calls _ _ _ _ _ HWI.out).mono ?_
  rintro e w2 ⟨rfl,m,rfl⟩
  have HC4:=am (Kd.F_drewN HC3.out m)
  have HS4:=am (Kd.C_drewN HS3.out m)
  have HB4:=am (pw_below_drewN HB3.out m)
  have HP3:=am (blk_drewN HP2.out m)
  have HR2:=am (blk_drewN HR1.out m)
  clear g1
  generalize w1.drewN m = w2 at HC4 HS4 HB4 HP3 HR2 ⊢
  cases k1 with
 |false =>
   have HE:=am (show q = ([],[],1) by rw [HQ.out];unfold cutE;rw [HQP.out];dsimp only;rw [if_neg (by rw [← HK.out];simp)])
   have u0:=bd HR2.out 0
   have fu0:=blk_frozen HR2.out 0
   have u1:=bd HR2.out 1
   have fu1:=blk_frozen HR2.out 1
   go_wp2
   rw [HE.out]
   have bz:=blk_put (cs':=#[.slice none 0 0,.slice none 0 0]) (blk_put (cs':=#[.slice none 0 0,.slice none 0 0]) (HR2.out) 0 (.slice none 0 0) rfl) 1 (.slice none 0 0) rfl
   have z0:=bd bz 0
   have z1:=bd bz 1
   exact bodyPost_ret (v:=.tuple #[.agg #[.slice none 0 0,.slice none 0 0],ii 1]) (by simp [results,Tryz.results42,go_sem,z0,z1,hu]) rfl ⟨((HB4.out).setCell (p:=⟨W.heap.size + 1,0,none⟩) (by first|(simp;done)|(simp;omega)) (.slice none 0 0)).setCell (p:=⟨W.heap.size + 1,1,none⟩) (by first|(simp;done)|(simp;omega)) (.slice none 0 0),none,none,0,0,rfl,Nat.le_refl 0,Nat.le_refl 0,Kd.F_nil _ _ _,Kd.F_nil _ _ _⟩
 |true =>
   obtain ⟨j,hj,hjl⟩ : ∃ j : Nat,steps = (j : Int) ∧ j ≤ stirs.length:=by
    have h:=HK.out
    unfold inP at h
    have h:=of_decide_eq_true h.symm
    exact ⟨steps.toNat,by omega,by omega⟩
   subst hj
   obtain ⟨tk,htk⟩ : ∃ tk,tk = stirs.take j:=⟨_,rfl⟩
   have htl : tk.length = j:=by rw [htk,List.length_take];omega
   have HE:=am (show q = (rooms,tk,0) by rw [HQ.out];unfold cutE;rw [HQP.out];dsimp only;rw [if_pos HK.out.symm,Int.toNat_natCast,htk])
   obtain ⟨i30,hi30⟩ : ∃ i,Tryz.prog.info? 84 = some i:=by
    cases h : Tryz.prog.info? 84 with
   |none => exact absurd h (by decide +kernel)
   |some i => exact ⟨i,rfl⟩
   have hcut : ∀ w : World,(Instr.slice 30 (.slice A2 stirs.length c2) none (some (ii (j : Int))) none).run Tryz.prog w = .ok (.slice A2 tk.length c2) w:=by
    intro w
    have h:=cut_to (P:=Tryz.prog) 30 84 .i64 Tryz.underlying30 hi30 A2 stirs.length c2 (j : Int) (by omega) (by omega) hc2 w
    rw [Int.toNat_natCast] at h
    rw [htl]
    exact h
   have HTK:=am htk
   have hsl : stirs.length ≤ 60:=(played_ok HQP.out).2.1
   have HR6:=am (show rooms.length ≤ 100000000 by have h:=(played_ok HQP.out).2.2;have:=h.1.r6;rw [h.2] at this;omega)
   have HT6:=am (show tk.length ≤ 100000000 by omega)
   have HTC:=am (show tk.length ≤ c2 by omega)
   clear htk htl hi30
   have HC5:=am (Kd.F_drew HC4.out)
   have HS5:=am (Kd.C_drew HS4.out)
   have HB5:=am (below_drew HB4.out)
   have HP4:=am (blk_drew HP3.out)
   have HR3:=am (blk_drew HR2.out)
   go_wp2
   refine start_ (n:=11) (S:=fun w' => w'.cell? ⟨W.heap.size,0,none⟩ = some (.slice A rooms.length c) ∧ w'.cell? ⟨W.heap.size,1,none⟩ = some (.slice A2 stirs.length c2)) (ds:=[9]) (ab 11 0) kr rfl kr ⟨(blk_cell HP4.out 0).trans rfl,(blk_cell HP4.out 1).trans rfl⟩ (fun hHeld => ?_);refine with_tabW R42_6.tab R42_6.bits (fun HT_ HW_ => ?_)
   generalize (w2).drew = wd at HC5 HS5 HB5 HP4 HR3 hHeld ⊢
   refine qA 0 (some 24) ?_;refine qT 1 (some 25) ?_;refine qA 3 (some 27) ?_;refine qT 4 (some 28) ?_;refine qA 5 (some 29) ?_;refine qA 6 (some 30) ?_
   refine qE 2 (some 26) fun K hK => ?_
   refine gC Tryz.func78 #[.slice A rooms.length c] ?_
   have HLTW:=am (blk_lt HR3.out)
   refine (clone78_calls A c rooms _ _ HC5.out hc HR6.out).mono ?_
   rintro e w3 ⟨v5,rfl,hb,hR5⟩
   have HS6:=am (Kd.C_below HS5.out hb)
   have HB6:=am (below_then HB5.out (below_size HB5.out) hb)
   have HP5:=am (blk_below HP4.out hb)
   have HR4:=am (blk_below HR3.out hb)
   obtain ⟨A5,c5,rfl⟩:=Kd.R_slice hR5
   have H5:=am (R3_of_ft hR5)
   have HSZ:=am (below_size hb)
   clear hb hR5
   refine ⟨_,rfl,?_⟩
   refine hK.out _ _ ⟨(blk_cell HP5.out 0).trans rfl,(blk_cell HP5.out 1).trans rfl⟩ (fun hHeld => ?_)
   clear hK K
   refine qN (some 26) ?_
   refine qE 7 (some 31) fun K hK => ?_
   refine gC Tryz.func124 #[.slice A2 tk.length c2] ?_
   refine (clone124_calls A2 c2 tk _ (fun k => k < w3.heap.size) (Kd.C_F heap84 (show Kd.C k84 w3 A2 tk.length tk by rw [HTK.out];exact Kd.C_take HS6.out hjl)) HTC.out HT6.out).mono ?_
   rintro e w4 ⟨v6,rfl,hb,hR6⟩
   have HB7:=am (below_then HB6.out (below_size HB6.out) hb)
   have HP6:=am (blk_below HP5.out hb)
   have HR5:=am (blk_below HR4.out hb)
   have H51:=am (Kd.R_below H5.out hb)
   obtain ⟨A6,c6,rfl⟩:=Kd.R_slice hR6
   have H6:=am (R84_of_ft hR6)
   clear hb hR6
   refine ⟨_,rfl,?_⟩
   refine hK.out _ _ ⟨(blk_cell HP6.out 0).trans rfl,(blk_cell HP6.out 1).trans rfl⟩ (fun hHeld => ?_)
   clear hK K
   refine qN (some 31) ?_
   refine qA 8 (some 32) ?_
   refine qL 9 (none) fun K hK => ?_
   have u0:=bd HR5.out 0
   have fu0:=blk_frozen HR5.out 0
   have u1:=bd HR5.out 1
   have fu1:=blk_frozen HR5.out 1
   refine skip_ (w1:=?_) (by rfl) rfl ?_ ?_
   rotate_left
   ·go_simp
    rfl
   refine hK.out _ _ ?_
   clear hK K
   refine qA 10 (some 5) ?_
   refine done_ (done_of HT_.out kr) ?_
   go_wp2
   rw [HE.out]
   have HL5:=am (Kd.R_reads' H51.out).2.1
   have HL6:=am (Kd.R_reads' H6.out).2.1
   have HF5:=am (Kd.F_far (Kd.F_far (show Kd.F _ w4 (fun k => wd.heap.size ≤ k) _ _ _ from Kd.F_mono (Kd.R_F (Kd.R_bound H51.out)) (fun k hk => hk.2.1)) (p:=⟨W.heap.size + 1,0,none⟩) (fun k hk => by have h1:=HLTW.out;have h2:=HSZ.out;(try dsimp only at *);omega) (.slice A5 rooms.length c5)) (p:=⟨W.heap.size + 1,1,none⟩) (fun k hk => by have h1:=HLTW.out;have h2:=HSZ.out;(try dsimp only at *);omega) (.slice A6 tk.length c6))
   have HF6:=am (Kd.F_far (Kd.F_far (show Kd.F _ w4 (fun k => wd.heap.size ≤ k) _ _ _ from Kd.F_mono (Kd.R_F (Kd.R_bound H6.out)) (fun k hk => Nat.le_trans HSZ.out hk.2.1)) (p:=⟨W.heap.size + 1,0,none⟩) (fun k hk => by have h1:=HLTW.out;have h2:=HSZ.out;(try dsimp only at *);omega) (.slice A5 rooms.length c5)) (p:=⟨W.heap.size + 1,1,none⟩) (fun k hk => by have h1:=HLTW.out;have h2:=HSZ.out;(try dsimp only at *);omega) (.slice A6 tk.length c6))
   have HLE:=am (show W.heap.size ≤ wd.heap.size by have h1:=HLTW.out;omega)
   have bz:=blk_put (cs':=#[.slice A5 rooms.length c5,.slice A6 tk.length c6]) (blk_put (cs':=#[.slice A5 rooms.length c5,.slice none 0 0]) (HR5.out) 0 (.slice A5 rooms.length c5) rfl) 1 (.slice A6 tk.length c6) rfl
   have z0:=bd bz 0
   have z1:=bd bz 1
   exact bodyPost_ret (v:=.tuple #[.agg #[.slice A5 rooms.length c5,.slice A6 tk.length c6],ii 0]) (by simp [results,Tryz.results42,go_sem,z0,z1,hu]) rfl ⟨((HB7.out).setCell (p:=⟨W.heap.size + 1,0,none⟩) (by first|(simp;done)|(simp;omega)) (.slice A5 rooms.length c5)).setCell (p:=⟨W.heap.size + 1,1,none⟩) (by first|(simp;done)|(simp;omega)) (.slice A6 tk.length c6),A5,A6,c5,c6,rfl,HL5.out,HL6.out,Kd.F_mono HF5.out (fun k hk => Nat.le_trans HLE.out hk),Kd.F_mono HF6.out (fun k hk => Nat.le_trans HLE.out hk)⟩
end Go.Proofs.YtjjfpmapjjemcaaGreat.B
end
