import Derived.Test.YtjjfpmapjjemcaaGreatQ44
import Derived.Test.YtjjfpmapjjemcaaGreatQ7
set_option linter.unusedVariables false
set_option linter.unusedSimpArgs false
section
namespace Go.Proofs.YtjjfpmapjjemcaaGreat.B
open Go.RowKit Go.Proofs.YtjjfpmapjjemcaaGreatW.PrintWords Go.Proofs.YtjjfpmapjjemcaaGreatW.PrintLast Go.Proofs.YtjjfpmapjjemcaaGreatW.PrintMore
attribute [local go_sem] max2_int min2_int max_two min_two max_three min_three max_four min_four
def R21_12.T : Bool × List (List Nat × List Nat):=(true,[([],[]),([],[]),([1],[1]),([0,2],[0,2]),([],[]),([],[]),([5],[5]),([4,6,3],[4,6]),([3,7,0,1,2,3],[3]),([7,8,0,1,2,3,4,5,6,7,8],[7])])
def R21_12.B : List Nat:=[0,0,2,7,0,0,32,127,255,511]
theorem R21_12.tab : rtab .any (opsOf Tryz.f21 12) = R21_12.T:=by kernel_rfl
theorem R21_12.bits : waitsOk R21_12.T.2 R21_12.B = true:=by kernel_rfl
def R21_15.T : Bool × List (List Nat × List Nat):=(true,[([],[]),([],[]),([0,0],[0]),([1,2,0,1,2],[1]),([3,0,1,2,3],[])])
def R21_15.B : List Nat:=[0,0,1,7,15]
theorem R21_15.tab : rtab .any (opsOf Tryz.f21 15) = R21_15.T:=by kernel_rfl
theorem R21_15.bits : waitsOk R21_15.T.2 R21_15.B = true:=by kernel_rfl
def loP (l : List S113) (x : S89) : S43:=timesP x.f1 (gradeL l x.f0).f0 1
def hiP (l : List S113) (x : S89) : S43:=timesP x.f1 (gradeL l x.f0).f1 1
def worthB (b : S167) (l : List S113) : S43 × S43 × Int :=
 if (totalP (loP l) b.f3).isSome = true then (if (totalP (hiP l) b.f3).isSome = true then
  (if validP (timesP ((totalP (loP l) b.f3).getD ⟨0,0⟩) 1 b.f2) = true then (if validP (timesP ((totalP (hiP l) b.f3).getD ⟨0,0⟩) 1 b.f2) = true then (timesP ((totalP (loP l) b.f3).getD ⟨0,0⟩) 1 b.f2,timesP ((totalP (hiP l) b.f3).getD ⟨0,0⟩) 1 b.f2,0) else (⟨0,0⟩,⟨0,0⟩,3)) else (⟨0,0⟩,⟨0,0⟩,3)) else (⟨0,0⟩,⟨0,0⟩,3)) else (⟨0,0⟩,⟨0,0⟩,3)
def worthE (r : Except (Int × Int) Yd) (id : Int) (l : List S113) : S43 × S43 × Int:=match r with
|.error x => (⟨0,0⟩,⟨0,0⟩,x.1)
|.ok Y => (match Y.barrows.find? (isId id) with
 |none => (⟨0,0⟩,⟨0,0⟩,5)
 |some b => if gradesE Y l = 0 then worthB b l else (⟨0,0⟩,⟨0,0⟩,gradesE Y l))
theorem totalE_eq (o : Option S43) : totalE o = .returned (.tuple #[.agg #[ii (o.getD ⟨0,0⟩).f0,ii (o.getD ⟨0,0⟩).f1],.bool o.isSome]):=by
 cases o <;> rfl
theorem total_valid_of {α : Type} {g : α → S43} {l : List α} (h : (totalP g l).isSome = true) : validP ((totalP g l).getD ⟨0,0⟩) = true:=by
 obtain ⟨r,hr⟩:=Option.isSome_iff_exists.1 h
 rw [hr]
 exact totalP_valid hr
set_option maxRecDepth 100000 in
set_option maxHeartbeats 4000000 in
theorem worth_calls (A A2 : Option Addr) (c c2 : Nat) (rooms : List Int) (stirs : List S84) (W : World) (lo : Nat) (hlo : lo ≤ W.heap.size) (hC : Kd.F (Kd.int .i64) W (fun k => k < lo) A rooms.length rooms) (hc : rooms.length ≤ c) (hS : Kd.C k84 W A2 stirs.length stirs) (hc2 : stirs.length ≤ c2) (id : Int) (B : Option Addr) (cb : Nat) (l : List S113) (hL : Kd.C k113 W B l.length l) (hlb : l.length ≤ cb) :
  Calls Tryz.prog 21 #[.agg #[.slice A rooms.length c,.slice A2 stirs.length c2],ii id,.slice B l.length cb] W fun e W' => e = .returned (.tuple #[.agg #[ii (worthE (playedP rooms stirs stirs.length) id l).1.f0,ii (worthE (playedP rooms stirs stirs.length) id l).1.f1],.agg #[ii (worthE (playedP rooms stirs stirs.length) id l).2.1.f0,ii (worthE (playedP rooms stirs stirs.length) id l).2.1.f1],ii (worthE (playedP rooms stirs stirs.length) id l).2.2]) ∧ Below W.heap.size W W':=by
 have hu:=Tryz.underlying32
 have hu167:=Tryz.underlying167
 have hu43:=Tryz.underlying43
 have hmf : ∀ (fn : Fn) (first cap : Array Value) (w : World),(Instr.makeFunc fn first cap).run Tryz.prog w = .ok (.func fn first cap) w:=fun _ _ _ _ => rfl
 have hsf : ∀ (p : Addr) (fn : Fn) (first cap : Array Value) (m : Mode) (w : World),(store p (.func fn first cap) m).run Tryz.prog w = stored Tryz.prog w p (.func fn first cap) m:=fun p fn first cap m w => run_store Tryz.prog w p _ m rfl
 have HC:=am (hC)
 have HS:=am (hS)
 have HL:=am (hL)
 have HB:=am (Below.refl W.heap.size W)
 have HC1:=am (Kd.F_alloc HC.out (.cells #[.slice A rooms.length c,.slice A2 stirs.length c2] 32))
 have HS1:=am (Kd.C_alloc HS.out (.cells #[.slice A rooms.length c,.slice A2 stirs.length c2] 32))
 have HL1:=am (Kd.C_alloc HL.out (.cells #[.slice A rooms.length c,.slice A2 stirs.length c2] 32))
 have HB1:=am (below_alloc HB.out (.cells #[.slice A rooms.length c,.slice A2 stirs.length c2] 32))
 have HC2:=am (Kd.F_alloc HC1.out (.cells #[.slice B l.length cb] 39))
 have HS2:=am (Kd.C_alloc HS1.out (.cells #[.slice B l.length cb] 39))
 have HL2:=am (Kd.C_alloc HL1.out (.cells #[.slice B l.length cb] 39))
 have HB2:=am (below_alloc HB1.out (.cells #[.slice B l.length cb] 39))
 have HG:=am (blk_new' (W.alloc (.cells #[.slice A rooms.length c,.slice A2 stirs.length c2] 32)) (.cells #[.slice B l.length cb] 39) (W.heap.size + 1) (by simp))
 have HC3:=am (Kd.F_alloc HC2.out (.cells #[ii 0,ii 0] 43))
 have HS3:=am (Kd.C_alloc HS2.out (.cells #[ii 0,ii 0] 43))
 have HL3:=am (Kd.C_alloc HL2.out (.cells #[ii 0,ii 0] 43))
 have HB3:=am (below_alloc HB2.out (.cells #[ii 0,ii 0] 43))
 have HG1:=am (blk_alloc HG.out (.cells #[ii 0,ii 0] 43))
 have HR:=am (blk_new' ((W.alloc (.cells #[.slice A rooms.length c,.slice A2 stirs.length c2] 32)).alloc (.cells #[.slice B l.length cb] 39)) (.cells #[ii 0,ii 0] 43) (W.heap.size + 1 + 1) (by simp))
 have HC4:=am (Kd.F_alloc HC3.out (.cells #[ii 0,ii 0] 43))
 have HS4:=am (Kd.C_alloc HS3.out (.cells #[ii 0,ii 0] 43))
 have HL4:=am (Kd.C_alloc HL3.out (.cells #[ii 0,ii 0] 43))
 have HB4:=am (below_alloc HB3.out (.cells #[ii 0,ii 0] 43))
 have HG2:=am (blk_alloc HG1.out (.cells #[ii 0,ii 0] 43))
 have HR1:=am (blk_alloc HR.out (.cells #[ii 0,ii 0] 43))
 have HT:=am (blk_new' (((W.alloc (.cells #[.slice A rooms.length c,.slice A2 stirs.length c2] 32)).alloc (.cells #[.slice B l.length cb] 39)).alloc (.cells #[ii 0,ii 0] 43)) (.cells #[ii 0,ii 0] 43) (W.heap.size + 1 + 1 + 1) (by simp))
 clear hC hS hL
 obtain ⟨r,hr⟩ : ∃ r,r = playedP rooms stirs stirs.length:=⟨_,rfl⟩
 rw [← hr]
 have HQP:=am hr.symm
 clear hr
 obtain ⟨q,hq⟩ : ∃ q,q = worthE r id l:=⟨_,rfl⟩
 rw [← hq]
 have HQ:=am hq
 clear hq
 go_enter Tryz.func21,Tryz.ntmps21
 go_wp2_with fail
 refine (barrowOf_calls A A2 c c2 rooms stirs _ lo (Nat.le_trans hlo (by simp;omega)) HC4.out hc HS4.out hc2 id).mono ?_
 rintro e w1 ⟨hb,h⟩
 rw [HQP.out] at h
 have HL5:=am (Kd.C_below HL4.out hb)
 have HB5:=am (below_then HB4.out (below_size HB4.out) hb)
 have HG3:=am (blk_below HG2.out hb)
 have HR2:=am (blk_below HR1.out hb)
 have HT1:=am (blk_below HT.out hb)
 clear hb
 have HLT:=am (show W.heap.size + 1 + 1 + 1 < w1.heap.size from blk_lt HT1.out)
 cases r with
|error x =>
  subst h
  have hx : ¬ x.1 = 0:=playedP_code HQP.out
  have HB6:=am (below_alloc HB5.out (.cells #[ii 0,ii 0,ii 0,.slice none 0 0] 167))
  have HR3:=am (blk_alloc HR2.out (.cells #[ii 0,ii 0,ii 0,.slice none 0 0] 167))
  have HT2:=am (blk_alloc HT1.out (.cells #[ii 0,ii 0,ii 0,.slice none 0 0] 167))
  have HE:=am (show q = (⟨0,0⟩,⟨0,0⟩,x.1) by rw [HQ.out];rfl)
  have u0:=bd HR3.out 0
  have fu0:=blk_frozen HR3.out 0
  have u1:=bd HR3.out 1
  have fu1:=blk_frozen HR3.out 1
  have v0:=bd HT2.out 0
  have fv0:=blk_frozen HT2.out 0
  have v1:=bd HT2.out 1
  have fv1:=blk_frozen HT2.out 1
  go_wp2
  rw [HE.out]
  have by_:=blk_far (p:=⟨W.heap.size + 1 + 1 + 1,1,none⟩) (blk_far (p:=⟨W.heap.size + 1 + 1 + 1,0,none⟩) (blk_put (cs':=#[ii 0,ii 0]) (blk_put (cs':=#[ii 0,ii 0]) (HR3.out) 0 (ii 0) rfl) 1 (ii 0) rfl) (by simp) (ii 0)) (by simp) (ii 0)
  have bz:=blk_put (cs':=#[ii 0,ii 0]) (blk_put (cs':=#[ii 0,ii 0]) (blk_far (p:=⟨W.heap.size + 1 + 1,1,none⟩) (blk_far (p:=⟨W.heap.size + 1 + 1,0,none⟩) (HT2.out) (by simp) (ii 0)) (by simp) (ii 0)) 0 (ii 0) rfl) 1 (ii 0) rfl
  have y0:=bd by_ 0
  have y1:=bd by_ 1
  have z0:=bd bz 0
  have z1:=bd bz 1
  exact bodyPost_ret (v:=.tuple #[.agg #[ii 0,ii 0],.agg #[ii 0,ii 0],ii x.1]) (by simp [results,Tryz.results21,go_sem,y0,y1,z0,z1,hu43]) rfl ⟨rfl,((((HB6.out).setCell (p:=⟨W.heap.size + 1 + 1,0,none⟩) (by first|(simp;done)|(simp;omega)) (ii 0)).setCell (p:=⟨W.heap.size + 1 + 1,1,none⟩) (by first|(simp;done)|(simp;omega)) (ii 0)).setCell (p:=⟨W.heap.size + 1 + 1 + 1,0,none⟩) (by first|(simp;done)|(simp;omega)) (ii 0)).setCell (p:=⟨W.heap.size + 1 + 1 + 1,1,none⟩) (by first|(simp;done)|(simp;omega)) (ii 0)⟩
|ok Y =>
  cases hf : Y.barrows.find? (isId id) with
 |none =>
   have HE0:=am (show q = (⟨0,0⟩,⟨0,0⟩,5) by rw [HQ.out];unfold worthE;simp only [hf])
   simp only [hf] at h
   clear hf
   subst h
   have HB6:=am (below_alloc HB5.out (.cells #[ii 0,ii 0,ii 0,.slice none 0 0] 167))
   have HR3:=am (blk_alloc HR2.out (.cells #[ii 0,ii 0,ii 0,.slice none 0 0] 167))
   have HT2:=am (blk_alloc HT1.out (.cells #[ii 0,ii 0,ii 0,.slice none 0 0] 167))
   have HE:=am (show q = (⟨0,0⟩,⟨0,0⟩,5) by exact HE0.out)
   have u0:=bd HR3.out 0
   have fu0:=blk_frozen HR3.out 0
   have u1:=bd HR3.out 1
   have fu1:=blk_frozen HR3.out 1
   have v0:=bd HT2.out 0
   have fv0:=blk_frozen HT2.out 0
   have v1:=bd HT2.out 1
   have fv1:=blk_frozen HT2.out 1
   go_wp2
   rw [HE.out]
   have by_:=blk_far (p:=⟨W.heap.size + 1 + 1 + 1,1,none⟩) (blk_far (p:=⟨W.heap.size + 1 + 1 + 1,0,none⟩) (blk_put (cs':=#[ii 0,ii 0]) (blk_put (cs':=#[ii 0,ii 0]) (HR3.out) 0 (ii 0) rfl) 1 (ii 0) rfl) (by simp) (ii 0)) (by simp) (ii 0)
   have bz:=blk_put (cs':=#[ii 0,ii 0]) (blk_put (cs':=#[ii 0,ii 0]) (blk_far (p:=⟨W.heap.size + 1 + 1,1,none⟩) (blk_far (p:=⟨W.heap.size + 1 + 1,0,none⟩) (HT2.out) (by simp) (ii 0)) (by simp) (ii 0)) 0 (ii 0) rfl) 1 (ii 0) rfl
   have y0:=bd by_ 0
   have y1:=bd by_ 1
   have z0:=bd bz 0
   have z1:=bd bz 1
   exact bodyPost_ret (v:=.tuple #[.agg #[ii 0,ii 0],.agg #[ii 0,ii 0],ii 5]) (by simp [results,Tryz.results21,go_sem,y0,y1,z0,z1,hu43]) rfl ⟨rfl,((((HB6.out).setCell (p:=⟨W.heap.size + 1 + 1,0,none⟩) (by first|(simp;done)|(simp;omega)) (ii 0)).setCell (p:=⟨W.heap.size + 1 + 1,1,none⟩) (by first|(simp;done)|(simp;omega)) (ii 0)).setCell (p:=⟨W.heap.size + 1 + 1 + 1,0,none⟩) (by first|(simp;done)|(simp;omega)) (ii 0)).setCell (p:=⟨W.heap.size + 1 + 1 + 1,1,none⟩) (by first|(simp;done)|(simp;omega)) (ii 0)⟩
 |some b =>
   have HF:=am hf
   have HQ1:=am (show q = (if gradesE Y l = 0 then worthB b l else (⟨0,0⟩,⟨0,0⟩,gradesE Y l)) by rw [HQ.out];unfold worthE;simp only [hf])
   simp only [hf] at h
   clear hf
   obtain ⟨L,base,A3,c3,hbase,hbad,rfl,hY,hl3,hF3⟩:=h
   have HWF:=am (played_wf HQP.out)
   have HSL:=am (played_ok HQP.out).2.1
   have HBO:=am (HWF.out.barrows b (List.mem_of_find?_eq_some HF.out))
   have HL3:=am hl3
   have HY:=am (hY)
   have HF3:=am (Kd.F_now hF3)
   have HL6:=am (Kd.C_alloc HL5.out (.cells #[ii b.f0,ii b.f1,ii b.f2,.slice A3 b.f3.length c3] 167))
   have HB6:=am (below_alloc HB5.out (.cells #[ii b.f0,ii b.f1,ii b.f2,.slice A3 b.f3.length c3] 167))
   have HG4:=am (blk_alloc HG3.out (.cells #[ii b.f0,ii b.f1,ii b.f2,.slice A3 b.f3.length c3] 167))
   have HR3:=am (blk_alloc HR2.out (.cells #[ii b.f0,ii b.f1,ii b.f2,.slice A3 b.f3.length c3] 167))
   have HT2:=am (blk_alloc HT1.out (.cells #[ii b.f0,ii b.f1,ii b.f2,.slice A3 b.f3.length c3] 167))
   have HY1:=am (HY.out.move (below_alloc (Below.refl _ _) (.cells #[ii b.f0,ii b.f1,ii b.f2,.slice A3 b.f3.length c3] 167)))
   have HF31:=am (Kd.C_alloc HF3.out (.cells #[ii b.f0,ii b.f1,ii b.f2,.slice A3 b.f3.length c3] 167))
   have HX:=am (blk_new w1 (.cells #[ii b.f0,ii b.f1,ii b.f2,.slice A3 b.f3.length c3] 167))
   clear hbase hbad hY hl3 hF3
   have g0:=bd HG4.out 0
   go_wp2_with fail
   refine (grades_calls HY1.out HWF.out HSL.out B cb l HL6.out hlb).mono ?_
   rintro e w2 ⟨rfl,hb⟩
   have HL7:=am (Kd.C_below HL6.out hb)
   have HB7:=am (below_then HB6.out (below_size HB6.out) hb)
   have HG5:=am (blk_below HG4.out hb)
   have HR4:=am (blk_below HR3.out hb)
   have HT3:=am (blk_below HT2.out hb)
   have HF32:=am (Kd.C_below HF31.out hb)
   have HX1:=am (blk_below HX.out hb)
   clear hb g0
   obtain ⟨ge,hge⟩ : ∃ ge,ge = gradesE Y l:=⟨_,rfl⟩
   rw [← hge] at HQ1 ⊢
   have HGE:=am hge
   clear hge
   by_cases hg0 : ¬ ge = 0
   ·
    have HE0:=am (show q = (⟨0,0⟩,⟨0,0⟩,ge) by rw [HQ1.out];exact if_neg hg0)
    have HE:=am (show q = (⟨0,0⟩,⟨0,0⟩,ge) by exact HE0.out)
    have u0:=bd HR4.out 0
    have fu0:=blk_frozen HR4.out 0
    have u1:=bd HR4.out 1
    have fu1:=blk_frozen HR4.out 1
    have v0:=bd HT3.out 0
    have fv0:=blk_frozen HT3.out 0
    have v1:=bd HT3.out 1
    have fv1:=blk_frozen HT3.out 1
    go_wp2
    rw [HE.out]
    have by_:=blk_far (p:=⟨W.heap.size + 1 + 1 + 1,1,none⟩) (blk_far (p:=⟨W.heap.size + 1 + 1 + 1,0,none⟩) (blk_put (cs':=#[ii 0,ii 0]) (blk_put (cs':=#[ii 0,ii 0]) (HR4.out) 0 (ii 0) rfl) 1 (ii 0) rfl) (by simp) (ii 0)) (by simp) (ii 0)
    have bz:=blk_put (cs':=#[ii 0,ii 0]) (blk_put (cs':=#[ii 0,ii 0]) (blk_far (p:=⟨W.heap.size + 1 + 1,1,none⟩) (blk_far (p:=⟨W.heap.size + 1 + 1,0,none⟩) (HT3.out) (by simp) (ii 0)) (by simp) (ii 0)) 0 (ii 0) rfl) 1 (ii 0) rfl
    have y0:=bd by_ 0
    have y1:=bd by_ 1
    have z0:=bd bz 0
    have z1:=bd bz 1
    exact bodyPost_ret (v:=.tuple #[.agg #[ii 0,ii 0],.agg #[ii 0,ii 0],ii ge]) (by simp [results,Tryz.results21,go_sem,y0,y1,z0,z1,hu43]) rfl ⟨rfl,((((HB7.out).setCell (p:=⟨W.heap.size + 1 + 1,0,none⟩) (by first|(simp;done)|(simp;omega)) (ii 0)).setCell (p:=⟨W.heap.size + 1 + 1,1,none⟩) (by first|(simp;done)|(simp;omega)) (ii 0)).setCell (p:=⟨W.heap.size + 1 + 1 + 1,0,none⟩) (by first|(simp;done)|(simp;omega)) (ii 0)).setCell (p:=⟨W.heap.size + 1 + 1 + 1,1,none⟩) (by first|(simp;done)|(simp;omega)) (ii 0)⟩
   ·
    have hg0:=Decidable.not_not.1 hg0
    have HM:=am (gradesE_ok (HGE.out.symm.trans hg0)).2
    have HQ2:=am (show q = worthB b l by rw [HQ1.out];exact if_pos hg0)
    subst hg0
    have HL8:=am (Kd.C_alloc HL7.out (.cells #[.func (.func 85) #[] #[.pointer (some ⟨W.heap.size + 1,0,none⟩)]] 176))
    have HB8:=am (below_alloc HB7.out (.cells #[.func (.func 85) #[] #[.pointer (some ⟨W.heap.size + 1,0,none⟩)]] 176))
    have HG6:=am (blk_alloc HG5.out (.cells #[.func (.func 85) #[] #[.pointer (some ⟨W.heap.size + 1,0,none⟩)]] 176))
    have HR5:=am (blk_alloc HR4.out (.cells #[.func (.func 85) #[] #[.pointer (some ⟨W.heap.size + 1,0,none⟩)]] 176))
    have HT4:=am (blk_alloc HT3.out (.cells #[.func (.func 85) #[] #[.pointer (some ⟨W.heap.size + 1,0,none⟩)]] 176))
    have HF33:=am (Kd.C_alloc HF32.out (.cells #[.func (.func 85) #[] #[.pointer (some ⟨W.heap.size + 1,0,none⟩)]] 176))
    have HX2:=am (blk_alloc HX1.out (.cells #[.func (.func 85) #[] #[.pointer (some ⟨W.heap.size + 1,0,none⟩)]] 176))
    have HF:=am (blk_new w2 (.cells #[.func (.func 85) #[] #[.pointer (some ⟨W.heap.size + 1,0,none⟩)]] 176))
    have g3:=bd HX2.out 3
    have HSZ:=am (show w1.heap.size < w2.heap.size from blk_lt HX1.out)
    have ek87 : ∀ args w,(callFunc 87 args).run Tryz.prog w = .ok (.enter 87 args) w:=enters_of Tryz.func87 kr rfl
    have ek90 : ∀ args w,(callFunc 90 args).run Tryz.prog w = .ok (.enter 90 args) w:=enters_of Tryz.func90 kr rfl
    have HIN:=am (Below.refl (w2.alloc (.cells #[.func (.func 85) #[] #[.pointer (some ⟨W.heap.size + 1,0,none⟩)]] 176)).heap.size (w2.alloc (.cells #[.func (.func 85) #[] #[.pointer (some ⟨W.heap.size + 1,0,none⟩)]] 176)))
    go_wp2_with fail
    refine (total86_calls A3 c3 b.f3 (loP l) 87 _ (Below (w2.alloc (.cells #[.func (.func 85) #[] #[.pointer (some ⟨W.heap.size + 1,0,none⟩)]] 176)).heap.size (w2.alloc (.cells #[.func (.func 85) #[] #[.pointer (some ⟨W.heap.size + 1,0,none⟩)]] 176))) _ (Kd.C_below HF33.out HIN.out) HL3.out ek87 HIN.out (fun w w' h hb => below_then h (below_size h) hb) (fun x w hx h => cl87_calls B cb l (Kd.C_below HL8.out h) hlb (W.heap.size + 1) w2.heap.size (blk_below HG6.out h) (blk_below HF.out h) HM.out x (HBO.out.par.parts x hx).1)).mono ?_
    rintro e w3 ⟨rfl,hb⟩
    rw [totalE_eq]
    have HI3:=am (show Below (w2.alloc (.cells #[.func (.func 85) #[] #[.pointer (some ⟨W.heap.size + 1,0,none⟩)]] 176)).heap.size (w2.alloc (.cells #[.func (.func 85) #[] #[.pointer (some ⟨W.heap.size + 1,0,none⟩)]] 176)) w3 from hb)
    have HB9:=am (below_then HB8.out (below_size HB8.out) hb)
    have HR6:=am (blk_below HR5.out hb)
    have HT5:=am (blk_below HT4.out hb)
    have HX3:=am (blk_below HX2.out hb)
    clear hb g3
    have HSP1:=am (show w1.heap.size < w3.heap.size from Nat.lt_of_lt_of_le (show w1.heap.size < (w2.alloc (.cells #[.func (.func 85) #[] #[.pointer (some ⟨W.heap.size + 1,0,none⟩)]] 176)).heap.size from Nat.lt_of_lt_of_le HSZ.out (by simp)) HI3.out.size)
    obtain ⟨n1,hn1⟩ : ∃ n1,n1 = (totalP (loP l) b.f3).getD ⟨0,0⟩:=⟨_,rfl⟩
    obtain ⟨k1,hk1⟩ : ∃ k1,k1 = (totalP (loP l) b.f3).isSome:=⟨_,rfl⟩
    rw [← hn1,← hk1]
    have HN1:=am hn1
    have HK1:=am hk1
    clear hn1 hk1
    have HB10:=am (below_alloc HB9.out (.cells #[ii n1.f0,ii n1.f1] 43))
    have HR7:=am (blk_alloc HR6.out (.cells #[ii n1.f0,ii n1.f1] 43))
    have HT6:=am (blk_alloc HT5.out (.cells #[ii n1.f0,ii n1.f1] 43))
    have HX4:=am (blk_alloc HX3.out (.cells #[ii n1.f0,ii n1.f1] 43))
    have HP:=am (blk_new w3 (.cells #[ii n1.f0,ii n1.f1] 43))
    have HI4:=am (below_alloc HI3.out (.cells #[ii n1.f0,ii n1.f1] 43))
    have g3:=bd HX4.out 3
    go_wp2_with fail
    refine (total86_calls A3 c3 b.f3 (hiP l) 90 _ (Below (w2.alloc (.cells #[.func (.func 85) #[] #[.pointer (some ⟨W.heap.size + 1,0,none⟩)]] 176)).heap.size (w2.alloc (.cells #[.func (.func 85) #[] #[.pointer (some ⟨W.heap.size + 1,0,none⟩)]] 176))) _ (Kd.C_below HF33.out HI4.out) HL3.out ek90 HI4.out (fun w w' h hb => below_then h (below_size h) hb) (fun x w hx h => cl90_calls B cb l (Kd.C_below HL8.out h) hlb (W.heap.size + 1) w2.heap.size (blk_below HG6.out h) (blk_below HF.out h) HM.out x (HBO.out.par.parts x hx).1)).mono ?_
    rintro e w4 ⟨rfl,hb⟩
    rw [totalE_eq]
    have HB11:=am (below_then HB10.out (below_size HB10.out) hb)
    have HR8:=am (blk_below HR7.out hb)
    have HT7:=am (blk_below HT6.out hb)
    have HX5:=am (blk_below HX4.out hb)
    have HP1:=am (blk_below HP.out hb)
    clear hb g3 HI3 HI4 HIN
    have HSP2:=am (show w3.heap.size < w4.heap.size from blk_lt HP1.out)
    obtain ⟨n2,hn2⟩ : ∃ n2,n2 = (totalP (hiP l) b.f3).getD ⟨0,0⟩:=⟨_,rfl⟩
    obtain ⟨k2,hk2⟩ : ∃ k2,k2 = (totalP (hiP l) b.f3).isSome:=⟨_,rfl⟩
    rw [← hn2,← hk2]
    have HN2:=am hn2
    have HK2:=am hk2
    clear hn2 hk2
    have HB12:=am (below_alloc HB11.out (.cells #[ii n2.f0,ii n2.f1] 43))
    have HR9:=am (blk_alloc HR8.out (.cells #[ii n2.f0,ii n2.f1] 43))
    have HT8:=am (blk_alloc HT7.out (.cells #[ii n2.f0,ii n2.f1] 43))
    have HX6:=am (blk_alloc HX5.out (.cells #[ii n2.f0,ii n2.f1] 43))
    have HP2:=am (blk_alloc HP1.out (.cells #[ii n2.f0,ii n2.f1] 43))
    have HH:=am (blk_new w4 (.cells #[ii n2.f0,ii n2.f1] 43))
    cases k1 with
   |false =>
     have HE:=am (show q = (⟨0,0⟩,⟨0,0⟩,3) by rw [HQ2.out];unfold worthB;rw [if_neg (by rw [← HK1.out];simp)])
     have u0:=bd HR9.out 0
     have fu0:=blk_frozen HR9.out 0
     have u1:=bd HR9.out 1
     have fu1:=blk_frozen HR9.out 1
     have v0:=bd HT8.out 0
     have fv0:=blk_frozen HT8.out 0
     have v1:=bd HT8.out 1
     have fv1:=blk_frozen HT8.out 1
     go_wp2
     rw [HE.out]
     have by_:=blk_far (p:=⟨W.heap.size + 1 + 1 + 1,1,none⟩) (blk_far (p:=⟨W.heap.size + 1 + 1 + 1,0,none⟩) (blk_put (cs':=#[ii 0,ii 0]) (blk_put (cs':=#[ii 0,ii 0]) (HR9.out) 0 (ii 0) rfl) 1 (ii 0) rfl) (by simp) (ii 0)) (by simp) (ii 0)
     have bz:=blk_put (cs':=#[ii 0,ii 0]) (blk_put (cs':=#[ii 0,ii 0]) (blk_far (p:=⟨W.heap.size + 1 + 1,1,none⟩) (blk_far (p:=⟨W.heap.size + 1 + 1,0,none⟩) (HT8.out) (by simp) (ii 0)) (by simp) (ii 0)) 0 (ii 0) rfl) 1 (ii 0) rfl
     have y0:=bd by_ 0
     have y1:=bd by_ 1
     have z0:=bd bz 0
     have z1:=bd bz 1
     exact bodyPost_ret (v:=.tuple #[.agg #[ii 0,ii 0],.agg #[ii 0,ii 0],ii 3]) (by simp [results,Tryz.results21,go_sem,y0,y1,z0,z1,hu43]) rfl ⟨rfl,((((HB12.out).setCell (p:=⟨W.heap.size + 1 + 1,0,none⟩) (by first|(simp;done)|(simp;omega)) (ii 0)).setCell (p:=⟨W.heap.size + 1 + 1,1,none⟩) (by first|(simp;done)|(simp;omega)) (ii 0)).setCell (p:=⟨W.heap.size + 1 + 1 + 1,0,none⟩) (by first|(simp;done)|(simp;omega)) (ii 0)).setCell (p:=⟨W.heap.size + 1 + 1 + 1,1,none⟩) (by first|(simp;done)|(simp;omega)) (ii 0)⟩
   |true =>
     cases k2 with
    |false =>
      have HE:=am (show q = (⟨0,0⟩,⟨0,0⟩,3) by rw [HQ2.out];unfold worthB;rw [if_pos HK1.out.symm,if_neg (by rw [← HK2.out];simp)])
      have u0:=bd HR9.out 0
      have fu0:=blk_frozen HR9.out 0
      have u1:=bd HR9.out 1
      have fu1:=blk_frozen HR9.out 1
      have v0:=bd HT8.out 0
      have fv0:=blk_frozen HT8.out 0
      have v1:=bd HT8.out 1
      have fv1:=blk_frozen HT8.out 1
      go_wp2
      rw [HE.out]
      have by_:=blk_far (p:=⟨W.heap.size + 1 + 1 + 1,1,none⟩) (blk_far (p:=⟨W.heap.size + 1 + 1 + 1,0,none⟩) (blk_put (cs':=#[ii 0,ii 0]) (blk_put (cs':=#[ii 0,ii 0]) (HR9.out) 0 (ii 0) rfl) 1 (ii 0) rfl) (by simp) (ii 0)) (by simp) (ii 0)
      have bz:=blk_put (cs':=#[ii 0,ii 0]) (blk_put (cs':=#[ii 0,ii 0]) (blk_far (p:=⟨W.heap.size + 1 + 1,1,none⟩) (blk_far (p:=⟨W.heap.size + 1 + 1,0,none⟩) (HT8.out) (by simp) (ii 0)) (by simp) (ii 0)) 0 (ii 0) rfl) 1 (ii 0) rfl
      have y0:=bd by_ 0
      have y1:=bd by_ 1
      have z0:=bd bz 0
      have z1:=bd bz 1
      exact bodyPost_ret (v:=.tuple #[.agg #[ii 0,ii 0],.agg #[ii 0,ii 0],ii 3]) (by simp [results,Tryz.results21,go_sem,y0,y1,z0,z1,hu43]) rfl ⟨rfl,((((HB12.out).setCell (p:=⟨W.heap.size + 1 + 1,0,none⟩) (by first|(simp;done)|(simp;omega)) (ii 0)).setCell (p:=⟨W.heap.size + 1 + 1,1,none⟩) (by first|(simp;done)|(simp;omega)) (ii 0)).setCell (p:=⟨W.heap.size + 1 + 1 + 1,0,none⟩) (by first|(simp;done)|(simp;omega)) (ii 0)).setCell (p:=⟨W.heap.size + 1 + 1 + 1,1,none⟩) (by first|(simp;done)|(simp;omega)) (ii 0)⟩
    |true =>
      have HV1:=am (show validP n1 = true by rw [HN1.out];exact total_valid_of HK1.out.symm)
      have HV2:=am (show validP n2 = true by rw [HN2.out];exact total_valid_of HK2.out.symm)
      have HT1:=am (times_valid HV1.out (n:=1) (m:=b.f2) (by omega) (by omega) HBO.out.lo (by have:=HBO.out.hi;omega))
      have HT2:=am (times_valid HV2.out (n:=1) (m:=b.f2) (by omega) (by omega) HBO.out.lo (by have:=HBO.out.hi;omega))
      have HQ3:=am (show q = (if validP (timesP n1 1 b.f2) = true then (if validP (timesP n2 1 b.f2) = true then (timesP n1 1 b.f2,timesP n2 1 b.f2,0) else (⟨0,0⟩,⟨0,0⟩,3)) else (⟨0,0⟩,⟨0,0⟩,3)) by rw [HQ2.out];unfold worthB;rw [if_pos HK1.out.symm,if_pos HK2.out.symm,← HN1.out,← HN2.out])
      obtain ⟨r1,hr1⟩ : ∃ r1,r1 = timesP n1 1 b.f2:=⟨_,rfl⟩
      obtain ⟨r2,hr2⟩ : ∃ r2,r2 = timesP n2 1 b.f2:=⟨_,rfl⟩
      rw [← hr1] at HT1 HQ3
      rw [← hr2] at HT2 HQ3
      clear hr1 hr2
      obtain ⟨m1,hm1⟩ : ∃ m1,m1 = validP r1:=⟨_,rfl⟩
      obtain ⟨m2,hm2⟩ : ∃ m2,m2 = validP r2:=⟨_,rfl⟩
      have HVA:=am (show pit_valid.f FU r1.f0 r1.f1 = some m1 by rw [hm1];exact valid_some r1)
      have HVB:=am (show pit_valid.f FU r2.f0 r2.f1 = some m2 by rw [hm2];exact valid_some r2)
      rw [← hm1,← hm2] at HQ3
      clear hm1 hm2
      have HS1:=am (show w1.heap.size < w3.heap.size from HSP1.out)
      have HS2:=am (show w3.heap.size < w4.heap.size from HSP2.out)
      have HB13:=am (below_drew HB12.out)
      have HR10:=am (blk_drew HR9.out)
      have HT9:=am (blk_drew HT8.out)
      have HX7:=am (blk_drew HX6.out)
      have HP3:=am (blk_drew HP2.out)
      have HH1:=am (blk_drew HH.out)
      go_wp2
      refine start_ (n:=10) (S:=fun w' => w'.cell? ⟨w3.heap.size,0,none⟩ = some (ii n1.f0) ∧ w'.cell? ⟨w3.heap.size,1,none⟩ = some (ii n1.f1) ∧ w'.cell? ⟨w1.heap.size,2,none⟩ = some (ii b.f2) ∧ w'.cell? ⟨w4.heap.size,0,none⟩ = some (ii n2.f0) ∧ w'.cell? ⟨w4.heap.size,1,none⟩ = some (ii n2.f1)) (ds:=[8,9]) (ab 10 0) kr rfl kr ⟨(blk_cell HP3.out 0).trans rfl,(blk_cell HP3.out 1).trans rfl,(blk_cell HX7.out 2).trans rfl,(blk_cell HH1.out 0).trans rfl,(blk_cell HH1.out 1).trans rfl⟩ (fun hHeld => ?_);refine with_tabW R21_12.tab R21_12.bits (fun HT_ HW_ => ?_)
      generalize ((w4.alloc (.cells #[ii n2.f0,ii n2.f1] 43))).drew = wd at HB13 HR10 HT9 HX7 HP3 HH1 hHeld ⊢
      refine qT 0 (some 61) ?_;refine qA 1 (some 62) ?_;refine qT 2 (some 63) ?_;refine qT 4 (some 65) ?_;refine qA 5 (some 66) ?_;refine qT 6 (some 67) ?_
      refine qE 3 (some 64) fun K hK => ?_
      refine gC Tryz.func88 #[.agg #[ii n1.f0,ii n1.f1],ii 1,ii b.f2] ?_
      refine (pit_times.calls FU _ _ _ _ _ _ _ HT1.out).mono ?_
      rintro e w6 ⟨rfl,hb⟩
      have HB14:=am (below_then HB13.out (below_size HB13.out) hb)
      have HR11:=am (blk_below HR10.out hb)
      have HT10:=am (blk_below HT9.out hb)
      have HX8:=am (blk_below HX7.out hb)
      have HP4:=am (blk_below HP3.out hb)
      have HH2:=am (blk_below HH1.out hb)
      clear hb
      refine ⟨_,rfl,?_⟩
      refine hK.out _ _ ⟨(blk_cell HP4.out 0).trans rfl,(blk_cell HP4.out 1).trans rfl,(blk_cell HX8.out 2).trans rfl,(blk_cell HH2.out 0).trans rfl,(blk_cell HH2.out 1).trans rfl⟩ (fun hHeld => ?_)
      clear hK K
      refine qN (some 64) ?_
      refine qE 7 (some 68) fun K hK => ?_
      refine gC Tryz.func88 #[.agg #[ii n2.f0,ii n2.f1],ii 1,ii b.f2] ?_
      refine (pit_times.calls FU _ _ _ _ _ _ _ HT2.out).mono ?_
      rintro e w7 ⟨rfl,hb⟩
      have HB15:=am (below_then HB14.out (below_size HB14.out) hb)
      have HR12:=am (blk_below HR11.out hb)
      have HT11:=am (blk_below HT10.out hb)
      have HX9:=am (blk_below HX8.out hb)
      have HP5:=am (blk_below HP4.out hb)
      have HH3:=am (blk_below HH2.out hb)
      clear hb
      refine ⟨_,rfl,?_⟩
      refine hK.out _ _ ⟨(blk_cell HP5.out 0).trans rfl,(blk_cell HP5.out 1).trans rfl,(blk_cell HX9.out 2).trans rfl,(blk_cell HH3.out 0).trans rfl,(blk_cell HH3.out 1).trans rfl⟩ (fun hHeld => ?_)
      clear hK K
      refine qN (some 68) ?_
      refine qL 8 (none) fun K hK => ?_
      have u0:=bd HP5.out 0
      have fu0:=blk_frozen HP5.out 0
      have u1:=bd HP5.out 1
      have fu1:=blk_frozen HP5.out 1
      refine skip_ (w1:=?_) (by rfl) rfl ?_ ?_
      rotate_left
      ·go_simp
       rfl
      have HB16:=am (((HB15.out).setCell (p:=⟨w3.heap.size,0,none⟩) (by have h1:=HS1.out;have h2:=HS2.out;have h3:=HLT.out;(try dsimp only);omega) (ii r1.f0)).setCell (p:=⟨w3.heap.size,1,none⟩) (by have h1:=HS1.out;have h2:=HS2.out;have h3:=HLT.out;(try dsimp only);omega) (ii r1.f1))
      have HR13:=am (blk_far (p:=⟨w3.heap.size,1,none⟩) (blk_far (p:=⟨w3.heap.size,0,none⟩) (HR12.out) (by have h1:=HS1.out;have h2:=HS2.out;have h3:=HLT.out;(try dsimp only);omega) (ii r1.f0)) (by have h1:=HS1.out;have h2:=HS2.out;have h3:=HLT.out;(try dsimp only);omega) (ii r1.f1))
      have HT12:=am (blk_far (p:=⟨w3.heap.size,1,none⟩) (blk_far (p:=⟨w3.heap.size,0,none⟩) (HT11.out) (by have h1:=HS1.out;have h2:=HS2.out;have h3:=HLT.out;(try dsimp only);omega) (ii r1.f0)) (by have h1:=HS1.out;have h2:=HS2.out;have h3:=HLT.out;(try dsimp only);omega) (ii r1.f1))
      have HX10:=am (blk_far (p:=⟨w3.heap.size,1,none⟩) (blk_far (p:=⟨w3.heap.size,0,none⟩) (HX9.out) (by have h1:=HS1.out;have h2:=HS2.out;have h3:=HLT.out;(try dsimp only);omega) (ii r1.f0)) (by have h1:=HS1.out;have h2:=HS2.out;have h3:=HLT.out;(try dsimp only);omega) (ii r1.f1))
      have HH4:=am (blk_far (p:=⟨w3.heap.size,1,none⟩) (blk_far (p:=⟨w3.heap.size,0,none⟩) (HH3.out) (by have h1:=HS1.out;have h2:=HS2.out;have h3:=HLT.out;(try dsimp only);omega) (ii r1.f0)) (by have h1:=HS1.out;have h2:=HS2.out;have h3:=HLT.out;(try dsimp only);omega) (ii r1.f1))
      have HP6:=am (blk_put (cs':=#[ii r1.f0,ii r1.f1]) (blk_put (cs':=#[ii r1.f0,ii n1.f1]) (HP5.out) 0 (ii r1.f0) rfl) 1 (ii r1.f1) rfl)
      refine hK.out _ _ ?_
      clear hK K
      refine qL 9 (none) fun K hK => ?_
      have v0:=bd HH4.out 0
      have fv0:=blk_frozen HH4.out 0
      have v1:=bd HH4.out 1
      have fv1:=blk_frozen HH4.out 1
      refine skip_ (w1:=?_) (by rfl) rfl ?_ ?_
      rotate_left
      ·go_simp
       rfl
      have HB17:=am (((HB16.out).setCell (p:=⟨w4.heap.size,0,none⟩) (by have h1:=HS1.out;have h2:=HS2.out;have h3:=HLT.out;(try dsimp only);omega) (ii r2.f0)).setCell (p:=⟨w4.heap.size,1,none⟩) (by have h1:=HS1.out;have h2:=HS2.out;have h3:=HLT.out;(try dsimp only);omega) (ii r2.f1))
      have HR14:=am (blk_far (p:=⟨w4.heap.size,1,none⟩) (blk_far (p:=⟨w4.heap.size,0,none⟩) (HR13.out) (by have h1:=HS1.out;have h2:=HS2.out;have h3:=HLT.out;(try dsimp only);omega) (ii r2.f0)) (by have h1:=HS1.out;have h2:=HS2.out;have h3:=HLT.out;(try dsimp only);omega) (ii r2.f1))
      have HT13:=am (blk_far (p:=⟨w4.heap.size,1,none⟩) (blk_far (p:=⟨w4.heap.size,0,none⟩) (HT12.out) (by have h1:=HS1.out;have h2:=HS2.out;have h3:=HLT.out;(try dsimp only);omega) (ii r2.f0)) (by have h1:=HS1.out;have h2:=HS2.out;have h3:=HLT.out;(try dsimp only);omega) (ii r2.f1))
      have HX11:=am (blk_far (p:=⟨w4.heap.size,1,none⟩) (blk_far (p:=⟨w4.heap.size,0,none⟩) (HX10.out) (by have h1:=HS1.out;have h2:=HS2.out;have h3:=HLT.out;(try dsimp only);omega) (ii r2.f0)) (by have h1:=HS1.out;have h2:=HS2.out;have h3:=HLT.out;(try dsimp only);omega) (ii r2.f1))
      have HP7:=am (blk_far (p:=⟨w4.heap.size,1,none⟩) (blk_far (p:=⟨w4.heap.size,0,none⟩) (HP6.out) (by have h1:=HS1.out;have h2:=HS2.out;have h3:=HLT.out;(try dsimp only);omega) (ii r2.f0)) (by have h1:=HS1.out;have h2:=HS2.out;have h3:=HLT.out;(try dsimp only);omega) (ii r2.f1))
      have HH5:=am (blk_put (cs':=#[ii r2.f0,ii r2.f1]) (blk_put (cs':=#[ii r2.f0,ii n2.f1]) (HH4.out) 0 (ii r2.f0) rfl) 1 (ii r2.f1) rfl)
      refine hK.out _ _ ?_
      clear hK K
      refine done_ (done_of HT_.out kr) ?_
      clear u0 u1 fu0 fu1 v0 v1 fv0 fv1
      generalize ((((w7.setCell ⟨w3.heap.size,0,none⟩ (ii r1.f0)).setCell ⟨w3.heap.size,1,none⟩ (ii r1.f1)).setCell ⟨w4.heap.size,0,none⟩ (ii r2.f0)).setCell ⟨w4.heap.size,1,none⟩ (ii r2.f1)) = w9 at HB17 HR14 HT13 HX11 HP7 HH5 ⊢
      have g0:=bd HP7.out 0
      have g1:=bd HP7.out 1
      go_wp2_with fail
      refine (pit_valid.calls FU _ _ _ _ HVA.out).mono ?_
      rintro e w10 ⟨rfl,hb⟩
      have HB18:=am (below_then HB17.out (below_size HB17.out) hb)
      have HR15:=am (blk_below HR14.out hb)
      have HT14:=am (blk_below HT13.out hb)
      have HP8:=am (blk_below HP7.out hb)
      have HH6:=am (blk_below HH5.out hb)
      clear hb g0 g1
      cases m1 with
     |false =>
       have HE:=am (show q = (⟨0,0⟩,⟨0,0⟩,3) by rw [HQ3.out];exact if_neg (by simp))
       have u0:=bd HR15.out 0
       have fu0:=blk_frozen HR15.out 0
       have u1:=bd HR15.out 1
       have fu1:=blk_frozen HR15.out 1
       have v0:=bd HT14.out 0
       have fv0:=blk_frozen HT14.out 0
       have v1:=bd HT14.out 1
       have fv1:=blk_frozen HT14.out 1
       go_wp2
       rw [HE.out]
       have by_:=blk_far (p:=⟨W.heap.size + 1 + 1 + 1,1,none⟩) (blk_far (p:=⟨W.heap.size + 1 + 1 + 1,0,none⟩) (blk_put (cs':=#[ii 0,ii 0]) (blk_put (cs':=#[ii 0,ii 0]) (HR15.out) 0 (ii 0) rfl) 1 (ii 0) rfl) (by simp) (ii 0)) (by simp) (ii 0)
       have bz:=blk_put (cs':=#[ii 0,ii 0]) (blk_put (cs':=#[ii 0,ii 0]) (blk_far (p:=⟨W.heap.size + 1 + 1,1,none⟩) (blk_far (p:=⟨W.heap.size + 1 + 1,0,none⟩) (HT14.out) (by simp) (ii 0)) (by simp) (ii 0)) 0 (ii 0) rfl) 1 (ii 0) rfl
       have y0:=bd by_ 0
       have y1:=bd by_ 1
       have z0:=bd bz 0
       have z1:=bd bz 1
       exact bodyPost_ret (v:=.tuple #[.agg #[ii 0,ii 0],.agg #[ii 0,ii 0],ii 3]) (by simp [results,Tryz.results21,go_sem,y0,y1,z0,z1,hu43]) rfl ⟨rfl,((((HB18.out).setCell (p:=⟨W.heap.size + 1 + 1,0,none⟩) (by first|(simp;done)|(simp;omega)) (ii 0)).setCell (p:=⟨W.heap.size + 1 + 1,1,none⟩) (by first|(simp;done)|(simp;omega)) (ii 0)).setCell (p:=⟨W.heap.size + 1 + 1 + 1,0,none⟩) (by first|(simp;done)|(simp;omega)) (ii 0)).setCell (p:=⟨W.heap.size + 1 + 1 + 1,1,none⟩) (by first|(simp;done)|(simp;omega)) (ii 0)⟩
     |true =>
       have g0:=bd HH6.out 0
       have g1:=bd HH6.out 1
       go_wp2_with fail
       refine (pit_valid.calls FU _ _ _ _ HVB.out).mono ?_
       rintro e w11 ⟨rfl,hb⟩
       have HB19:=am (below_then HB18.out (below_size HB18.out) hb)
       have HR16:=am (blk_below HR15.out hb)
       have HT15:=am (blk_below HT14.out hb)
       have HP9:=am (blk_below HP8.out hb)
       have HH7:=am (blk_below HH6.out hb)
       clear hb g0 g1
       cases m2 with
      |false =>
        have HE:=am (show q = (⟨0,0⟩,⟨0,0⟩,3) by rw [HQ3.out];rfl)
        have u0:=bd HR16.out 0
        have fu0:=blk_frozen HR16.out 0
        have u1:=bd HR16.out 1
        have fu1:=blk_frozen HR16.out 1
        have v0:=bd HT15.out 0
        have fv0:=blk_frozen HT15.out 0
        have v1:=bd HT15.out 1
        have fv1:=blk_frozen HT15.out 1
        go_wp2
        rw [HE.out]
        have by_:=blk_far (p:=⟨W.heap.size + 1 + 1 + 1,1,none⟩) (blk_far (p:=⟨W.heap.size + 1 + 1 + 1,0,none⟩) (blk_put (cs':=#[ii 0,ii 0]) (blk_put (cs':=#[ii 0,ii 0]) (HR16.out) 0 (ii 0) rfl) 1 (ii 0) rfl) (by simp) (ii 0)) (by simp) (ii 0)
        have bz:=blk_put (cs':=#[ii 0,ii 0]) (blk_put (cs':=#[ii 0,ii 0]) (blk_far (p:=⟨W.heap.size + 1 + 1,1,none⟩) (blk_far (p:=⟨W.heap.size + 1 + 1,0,none⟩) (HT15.out) (by simp) (ii 0)) (by simp) (ii 0)) 0 (ii 0) rfl) 1 (ii 0) rfl
        have y0:=bd by_ 0
        have y1:=bd by_ 1
        have z0:=bd bz 0
        have z1:=bd bz 1
        exact bodyPost_ret (v:=.tuple #[.agg #[ii 0,ii 0],.agg #[ii 0,ii 0],ii 3]) (by simp [results,Tryz.results21,go_sem,y0,y1,z0,z1,hu43]) rfl ⟨rfl,((((HB19.out).setCell (p:=⟨W.heap.size + 1 + 1,0,none⟩) (by first|(simp;done)|(simp;omega)) (ii 0)).setCell (p:=⟨W.heap.size + 1 + 1,1,none⟩) (by first|(simp;done)|(simp;omega)) (ii 0)).setCell (p:=⟨W.heap.size + 1 + 1 + 1,0,none⟩) (by first|(simp;done)|(simp;omega)) (ii 0)).setCell (p:=⟨W.heap.size + 1 + 1 + 1,1,none⟩) (by first|(simp;done)|(simp;omega)) (ii 0)⟩
      |true =>
        have HE:=am (show q = (r1,r2,0) by rw [HQ3.out];rfl)
        have HB20:=am (below_drew HB19.out)
        have HR17:=am (blk_drew HR16.out)
        have HT16:=am (blk_drew HT15.out)
        have HP10:=am (blk_drew HP9.out)
        have HH8:=am (blk_drew HH7.out)
        go_wp2
        refine start_ (n:=5) (S:=fun w' => w'.cell? ⟨w3.heap.size,0,none⟩ = some (ii r1.f0) ∧ w'.cell? ⟨w3.heap.size,1,none⟩ = some (ii r1.f1) ∧ w'.cell? ⟨w4.heap.size,0,none⟩ = some (ii r2.f0) ∧ w'.cell? ⟨w4.heap.size,1,none⟩ = some (ii r2.f1)) (ds:=[3]) (ab 5 0) kr rfl kr ⟨(blk_cell HP10.out 0).trans rfl,(blk_cell HP10.out 1).trans rfl,(blk_cell HH8.out 0).trans rfl,(blk_cell HH8.out 1).trans rfl⟩ (fun hHeld => ?_);refine with_tabW R21_15.tab R21_15.bits (fun HT_ HW_ => ?_)
        generalize (w11).drew = wd at HB20 HR17 HT16 HP10 HH8 hHeld ⊢
        refine qT 0 (some 79) ?_;refine qT 1 (some 80) ?_
        refine qE 2 (none) fun K hK => ?_
        have u0:=bd HR17.out 0
        have fu0:=blk_frozen HR17.out 0
        have u1:=bd HR17.out 1
        have fu1:=blk_frozen HR17.out 1
        refine skip_ (w1:=?_) (by rfl) rfl ?_ ?_
        rotate_left
        ·go_simp
         rfl
        have HT17:=am (blk_far (p:=⟨W.heap.size + 1 + 1,1,none⟩) (blk_far (p:=⟨W.heap.size + 1 + 1,0,none⟩) (HT16.out) (by have h1:=HS1.out;have h2:=HS2.out;have h3:=HLT.out;(try dsimp only);omega) (ii r1.f0)) (by have h1:=HS1.out;have h2:=HS2.out;have h3:=HLT.out;(try dsimp only);omega) (ii r1.f1))
        have HP11:=am (blk_far (p:=⟨W.heap.size + 1 + 1,1,none⟩) (blk_far (p:=⟨W.heap.size + 1 + 1,0,none⟩) (HP10.out) (by have h1:=HS1.out;have h2:=HS2.out;have h3:=HLT.out;(try dsimp only);omega) (ii r1.f0)) (by have h1:=HS1.out;have h2:=HS2.out;have h3:=HLT.out;(try dsimp only);omega) (ii r1.f1))
        have HH9:=am (blk_far (p:=⟨W.heap.size + 1 + 1,1,none⟩) (blk_far (p:=⟨W.heap.size + 1 + 1,0,none⟩) (HH8.out) (by have h1:=HS1.out;have h2:=HS2.out;have h3:=HLT.out;(try dsimp only);omega) (ii r1.f0)) (by have h1:=HS1.out;have h2:=HS2.out;have h3:=HLT.out;(try dsimp only);omega) (ii r1.f1))
        refine hK.out _ _ ⟨(blk_cell HP11.out 0).trans rfl,(blk_cell HP11.out 1).trans rfl,(blk_cell HH9.out 0).trans rfl,(blk_cell HH9.out 1).trans rfl⟩ (fun hHeld => ?_)
        clear hK K
        refine qL 3 (none) fun K hK => ?_
        have v0:=bd HT17.out 0
        have fv0:=blk_frozen HT17.out 0
        have v1:=bd HT17.out 1
        have fv1:=blk_frozen HT17.out 1
        refine skip_ (w1:=?_) (by rfl) rfl ?_ ?_
        rotate_left
        ·go_simp
         rfl
        refine hK.out _ _ ?_
        clear hK K
        refine qA 4 (some 8) ?_
        refine done_ (done_of HT_.out kr) ?_
        go_wp2
        rw [HE.out]
        have by_:=blk_far (p:=⟨W.heap.size + 1 + 1 + 1,1,none⟩) (blk_far (p:=⟨W.heap.size + 1 + 1 + 1,0,none⟩) (blk_put (cs':=#[ii r1.f0,ii r1.f1]) (blk_put (cs':=#[ii r1.f0,ii 0]) (HR17.out) 0 (ii r1.f0) rfl) 1 (ii r1.f1) rfl) (by simp) (ii r2.f0)) (by simp) (ii r2.f1)
        have bz:=blk_put (cs':=#[ii r2.f0,ii r2.f1]) (blk_put (cs':=#[ii r2.f0,ii 0]) (blk_far (p:=⟨W.heap.size + 1 + 1,1,none⟩) (blk_far (p:=⟨W.heap.size + 1 + 1,0,none⟩) (HT16.out) (by simp) (ii r1.f0)) (by simp) (ii r1.f1)) 0 (ii r2.f0) rfl) 1 (ii r2.f1) rfl
        have y0:=bd by_ 0
        have y1:=bd by_ 1
        have z0:=bd bz 0
        have z1:=bd bz 1
        exact bodyPost_ret (v:=.tuple #[.agg #[ii r1.f0,ii r1.f1],.agg #[ii r2.f0,ii r2.f1],ii 0]) (by simp [results,Tryz.results21,go_sem,y0,y1,z0,z1,hu43]) rfl ⟨rfl,((((HB20.out).setCell (p:=⟨W.heap.size + 1 + 1,0,none⟩) (by first|(simp;done)|(simp;omega)) (ii r1.f0)).setCell (p:=⟨W.heap.size + 1 + 1,1,none⟩) (by first|(simp;done)|(simp;omega)) (ii r1.f1)).setCell (p:=⟨W.heap.size + 1 + 1 + 1,0,none⟩) (by first|(simp;done)|(simp;omega)) (ii r2.f0)).setCell (p:=⟨W.heap.size + 1 + 1 + 1,1,none⟩) (by first|(simp;done)|(simp;omega)) (ii r2.f1)⟩
theorem ratioP_le {n d : Int} (hn : 0 ≤ n) (hd : 1 ≤ d) : (ratioP n d).f0 ≤ n ∧ (ratioP n d).f1 ≤ d:=⟨Int.ediv_le_self _ hn,Int.ediv_le_self _ (by omega)⟩
theorem ratioP_mono {n d : Int} (hn : 0 ≤ n) (hd : 1 ≤ d) (h : n ≤ d) : (ratioP n d).f0 ≤ (ratioP n d).f1:=Int.ediv_le_ediv (by have:=gcd_ne (a:=n) hd;omega) h
theorem partL_le {pours : List Int} {n : Int} {l : List S89} (h : ∀ x ∈ l,x.f1.f0 ≤ n * x.f1.f1) (hn : 0 ≤ n) (pour : Int) : (partL l pour).f0 ≤ n * (partL l pour).f1:=by
 induction l with
|nil => show (0 : Int) ≤ n * 1;omega
|cons x r ih =>
  rw [partL_cons]
  split
  ·exact h x List.mem_cons_self
  ·exact ih fun y hy => h y (List.mem_cons_of_mem _ hy)
theorem shareP_bnd {n : Nat} {pours : List Int} {b : S167} (h : BarrowOk n pours b) (pour : Int) : Rok (shareP b pour) ∧ (shareP b pour).f0 ≤ (shareP b pour).f1 ∧ (shareP b pour).f1 ≤ 16384000:=by
 obtain ⟨h1,h2,h3⟩:=partP_ok h pour
 have h4:=h.lo
 have h5:=h.hi
 have h6 : (partP b pour).f0 ≤ b.f2 * (partP b pour).f1:=partL_le (pours:=pours) (n:=b.f2) (fun x hx => h.par.part_le hx) (by omega) pour
 have h7:=mul_pos_ h1.2.1 h4
 have h8:=mul_bound (show 0 ≤ (partP b pour).f1 by have:=h1.2.1;omega) (show 0 ≤ b.f2 by omega) h3 h5
 have h9 : 0 ≤ (partP b pour).f0 * 1:=by have:=h1.1;omega
 have h10:=ratioP_le h9 h7
 have h11:=ratioP_mono h9 h7 (by rw [Int.mul_comm (partP b pour).f1];omega)
 exact ⟨timesP_ok h1 (by omega) h4,h11,by show (ratioP _ _).f1 ≤ _;omega⟩
def EndOk (r : S43) : Prop:=Rok r ∧ r.f0 ≤ 16384000000 ∧ r.f1 ≤ 16384000
def endP (m : Int) (s : S43) : S43:=ratioP (m * s.f1) s.f0
theorem endP_ok {m : Int} {s : S43} (hm : 0 ≤ m) (hm2 : m ≤ 1000) (h : Rok s) (h1 : s.f0 ≤ s.f1) (h2 : s.f1 ≤ 16384000) (h3 : 1 ≤ s.f0) :
  EndOk (endP m s) ∧ 0 ≤ m * s.f1 ∧ m * s.f1 ≤ 16384000000 ∧ pit_ratio.f FU (m * s.f1) s.f0 = some ((endP m s).f0,(endP m s).f1):=by
 have b1:=mul_bound hm (show 0 ≤ s.f1 by have:=h.2.1;omega) hm2 h2
 have b2:=ratioP_le b1.1 h3
 refine ⟨⟨ratioP_ok b1.1 h3,by show (ratioP _ _).f0 ≤ _;omega,by show (ratioP _ _).f1 ≤ _;omega⟩,b1.1,by omega,ratio_some b1.1 (by omega) h3 (by omega)⟩
theorem cmp_end {a b : S43} (ha : EndOk a) (hb : EndOk b) : pit_compare.f a.f0 a.f1 b.f0 b.f1 = some (cmpP a b):=by
 have b1:=mul_bound ha.1.1 (show 0 ≤ b.f1 by have:=hb.1.2.1;omega) ha.2.1 hb.2.2
 have b2:=mul_bound hb.1.1 (show 0 ≤ a.f1 by have:=ha.1.2.1;omega) hb.2.1 ha.2.2
 exact compare_some ha.1 hb.1 (by omega) (by omega)
def barrowD (Y : Yd) (id : Int) : S167:=(Y.barrows.find? (isId id)).getD z167
def maxR (a lo : S43) : S43:=if cmpP a lo > 0 then a else lo
def minR (a hi : S43) : S43:=if cmpP a hi < 0 then a else hi
def blameL (Y : Yd) (pour : Int) : S43 → S43 → Int → List S137 → S139 × Int × Bool
|lo,hi,_,[] => (⟨pour,lo,hi⟩,0,true)
|lo,hi,i,x :: r =>
  if (shareP (barrowD Y x.f0) pour).f0 = 0 then (if x.f1.f0 > 0 then (⟨0,⟨0,0⟩,⟨0,0⟩⟩,i,false) else blameL Y pour lo hi (i + 1) r)
  else if cmpP (maxR (endP x.f1.f0 (shareP (barrowD Y x.f0) pour)) lo) (minR (endP x.f1.f1 (shareP (barrowD Y x.f0) pour)) hi) > 0 then (⟨0,⟨0,0⟩,⟨0,0⟩⟩,i,false)
  else blameL Y pour (maxR (endP x.f1.f0 (shareP (barrowD Y x.f0) pour)) lo) (minR (endP x.f1.f1 (shareP (barrowD Y x.f0) pour)) hi) (i + 1) r
def blamedP (Y : Yd) (l : List S137) (pour : Int) : S139 × Int × Bool:=blameL Y pour (wholeP 0) (wholeP 1000) 0 l
def ProbedPost (W : World) (lo : Nat) (r : Except (Int × Int) Yd) (l : List S137) (e : Ending) (W' : World) : Prop :=
 Below W.heap.size W W' ∧ (match r with
 |.error x => e = .returned (.tuple #[.pointer none,ii x.1])
 |.ok Y => if probesE Y l = 0 then ∃ (L : Loc) (base : Nat),W.heap.size ≤ base ∧ (∀ k,lo ≤ k → k < W.heap.size → L.bad k) ∧ e = .returned (.tuple #[.pointer (some ⟨L.g,0,none⟩),ii 0]) ∧ YardAt W' base L Y
   else e = .returned (.tuple #[.pointer none,ii (probesE Y l)]))
set_option maxRecDepth 100000 in
set_option maxHeartbeats 2000000 in
theorem probed_calls (A A2 : Option Addr) (c c2 : Nat) (rooms : List Int) (stirs : List S84) (W : World) (lo : Nat) (hlo : lo ≤ W.heap.size) (hC : Kd.F (Kd.int .i64) W (fun k => k < lo) A rooms.length rooms) (hc : rooms.length ≤ c) (hS : Kd.C k84 W A2 stirs.length stirs) (hc2 : stirs.length ≤ c2) (B : Option Addr) (cb : Nat) (l : List S137) (hL : Kd.C k137 W B l.length l) (hlb : l.length ≤ cb) :
  Calls Tryz.prog 131 #[.agg #[.slice A rooms.length c,.slice A2 stirs.length c2],.slice B l.length cb] W fun e W' => ProbedPost W lo (playedP rooms stirs stirs.length) l e W':=by
 have hu:=Tryz.underlying32
 have HC:=am (hC)
 have HS:=am (hS)
 have HL:=am (hL)
 have HB:=am (Below.refl W.heap.size W)
 have HC1:=am (Kd.F_alloc HC.out (.cells #[.slice A rooms.length c,.slice A2 stirs.length c2] 32))
 have HS1:=am (Kd.C_alloc HS.out (.cells #[.slice A rooms.length c,.slice A2 stirs.length c2] 32))
 have HL1:=am (Kd.C_alloc HL.out (.cells #[.slice A rooms.length c,.slice A2 stirs.length c2] 32))
 have HB1:=am (below_alloc HB.out (.cells #[.slice A rooms.length c,.slice A2 stirs.length c2] 32))
 clear hC hS hL
 obtain ⟨r,hr⟩ : ∃ r,r = playedP rooms stirs stirs.length:=⟨_,rfl⟩
 rw [← hr]
 have HQP:=am hr.symm
 clear hr
 go_enter Tryz.func131,Tryz.ntmps131
 go_wp2_with fail
 refine (all_calls A A2 c c2 rooms stirs _ lo (Nat.le_trans hlo (by simp)) HC1.out hc HS1.out hc2).mono ?_
 rintro e w1 ⟨hb,h⟩
 rw [HQP.out] at h
 have HL2:=am (Kd.C_below HL1.out hb)
 have HB2:=am (below_then HB1.out (below_size HB1.out) hb)
 clear hb
 cases r with
|error x =>
  subst h
  have hx : ¬ x.1 = 0:=playedP_code HQP.out
  go_wp2
  go_ret2
  exact ⟨HB2.out,rfl⟩
|ok Y =>
  obtain ⟨L,base,hbase,hbad,rfl,hY⟩:=h
  have HBA:=am hbad
  have HBS:=am hbase
  have HWF:=am (played_wf HQP.out)
  have HSL:=am (played_ok HQP.out).2.1
  have HY:=am (hY)
  clear hbad hbase hY
  go_wp2_with fail
  refine (probes_calls HY.out HWF.out HSL.out B cb l HL2.out hlb).mono ?_
  rintro e w2 ⟨rfl,hb⟩
  have HB3:=am (below_then HB2.out (below_size HB2.out) hb)
  have HY1:=am (HY.out.move hb)
  clear hb
  obtain ⟨ge,hge⟩ : ∃ ge,ge = probesE Y l:=⟨_,rfl⟩
  rw [← hge]
  have HGE:=am hge
  clear hge
  by_cases hg0 : ge = 0
  ·
   subst hg0
   go_wp2
   go_ret2
   refine ⟨HB3.out,?_⟩
   dsimp only
   rw [if_pos HGE.out.symm]
   exact ⟨L,base,Nat.le_trans (by simp) HBS.out,fun k h1 h2 => HBA.out k h1 (Nat.lt_of_lt_of_le h2 (by simp)),rfl,HY1.out⟩
  ·
   go_wp2
   go_ret2
   refine ⟨HB3.out,?_⟩
   dsimp only
   rw [← HGE.out,if_neg hg0]
   rfl
end Go.Proofs.YtjjfpmapjjemcaaGreat.B
end
