import Derived.Test.YtjjfpmapjjemcaaGreatQ26
import Derived.Test.YtjjfpmapjjemcaaGreatQ27
import Derived.Test.YtjjfpmapjjemcaaGreatQ30
import Derived.Test.YtjjfpmapjjemcaaGreatQ36
import Derived.Test.YtjjfpmapjjemcaaGreatQ38
import Derived.Test.YtjjfpmapjjemcaaGreatQ40
import Derived.Test.YtjjfpmapjjemcaaGreatQ7
import Derived.Test.YtjjfpmapjjemcaaGreatQ8
set_option linter.unusedVariables false
set_option linter.unusedSimpArgs false
section
namespace Go.Proofs.YtjjfpmapjjemcaaGreat.B
open Go.RowKit Go.Proofs.YtjjfpmapjjemcaaGreatW.PrintWords Go.Proofs.YtjjfpmapjjemcaaGreatW.PrintLast Go.Proofs.YtjjfpmapjjemcaaGreatW.PrintMore
attribute [local go_sem] max2_int min2_int max_two min_two max_three min_three max_four min_four
def R108_1.T : Bool × List (List Nat × List Nat):=(true,[([],[]),([],[]),([],[]),([],[]),([3],[3]),([0,1,2,4],[0,1,2,4]),([],[]),([5,6],[5,6]),([7,5,0,1,2,3,4,5,6,7],[7])])
def R108_1.B : List Nat:=[0,0,0,0,8,31,0,127,255]
theorem R108_1.tab : rtab .any (opsOf Tryz.f108 1) = R108_1.T:=by kernel_rfl
theorem R108_1.bits : waitsOk R108_1.T.2 R108_1.B = true:=by kernel_rfl
theorem R_of_ft {W w : World} {okf ok : Nat → Prop} {N : Nat} {v : Value} {l : List S89} (h : (ft k89 W okf).R 89 w N ok v l) : k89.R 89 w N ok v l :=
 ⟨h.1,h.2.imp_ (fun x cs (hp : Kd.FK k89 W okf x cs) => by
  obtain rfl:=k89_open (Foot.now hp)
  exact k89_mkM _ _ _ x)⟩
def ripeE (stirs : List S84) (r : Except (Int × Int) Yd) (id days : Int) : S43 × Int:=match r with
|.error x => (⟨0,0⟩,x.1)
|.ok Y => if inP days 0 682 = true then (match Y.barrows.find? (isId id) with
 |none => (⟨0,0⟩,5)
 |some b => (match totalP (·.f1) (b.f3.filter (fun x => !decide (ageP stirs Y b x.f0 < days))) with
  |none => (⟨0,0⟩,3)
  |some n => resultP (timesP n 1 b.f2))) else (⟨0,0⟩,1)
theorem times_valid {a : S43} (h : validP a = true) {n m : Int} (hn : 0 ≤ n) (hn2 : n ≤ 16384) (hm : 1 ≤ m) (hm2 : m ≤ 16384) : pit_times.f FU a.f0 a.f1 n m = some ((timesP a n m).f0,(timesP a n m).f1):=by
 obtain ⟨h1,h2,h3⟩:=validP_ok h
 exact times_some h1 h2 h3 hn hn2 hm hm2
theorem totalL_valid {α : Type} {g : α → S43} : ∀ {l : List α} {acc r : S43},validP acc = true → totalL g acc l = some r → validP r = true
|[],acc,r,ha,h => by simp only [totalL,Option.some.injEq] at h;subst h;exact ha
|x :: l,acc,r,ha,h => by
  simp only [totalL] at h
  split at h
  ·split at h
   ·rename_i h2;exact totalL_valid h2 h
   ·cases h
  ·cases h
theorem totalP_valid {α : Type} {g : α → S43} {l : List α} {r : S43} (h : totalP g l = some r) : validP r = true:=totalL_valid (acc:=wholeP 0) (by decide) h
set_option maxRecDepth 100000 in
set_option maxHeartbeats 2000000 in
theorem cl109_calls (x : S89) (w : World) : Calls Tryz.prog 109 (#[.agg #[ii x.f0,ii x.f1.f0,ii x.f1.f1]] ++ #[]) w fun e w' => e = .returned (.agg #[ii x.f1.f0,ii x.f1.f1]) ∧ Below w.heap.size w w':=by
 have hu89:=Tryz.underlying89
 have hu43:=Tryz.underlying43
 go_enter Tryz.func109,Tryz.ntmps109
 go_wp2
 have HB:=am (Below.refl w.heap.size w)
 have HB1:=am (below_alloc HB.out (.cells #[ii x.f0,ii x.f1.f0,ii x.f1.f1] 89))
 have HB2:=am (below_alloc HB1.out (.cells #[ii x.f1.f0,ii x.f1.f1] 43))
 have HR:=am (blk_new' (w.alloc (.cells #[ii x.f0,ii x.f1.f0,ii x.f1.f1] 89)) (.cells #[ii x.f1.f0,ii x.f1.f1] 43) (w.heap.size + 1) (by simp))
 have z0:=bd HR.out 0
 have z1:=bd HR.out 1
 exact bodyPost_ret (v:=.agg #[ii x.f1.f0,ii x.f1.f1]) (by simp [results,Tryz.results109,go_sem,z0,z1,hu43]) rfl ⟨rfl,HB2.out⟩
set_option maxRecDepth 100000 in
set_option maxHeartbeats 2000000 in
theorem cl108_calls {w : World} {base n : Nat} {L : Loc} {Y : Yd} (hY : YardAt w base L Y) (hw : Wf n Y) (hn : n ≤ 60) (A : Option Addr) (R c : Nat) (A2 : Option Addr) (c2 : Nat) (stirs : List S84) (hS : Kd.C k84 w A2 stirs.length stirs) (b : S167) (A3 : Option Addr) (c3 : Nat) (hb0 : 0 ≤ b.f1) (hb1 : b.f1 < stirs.length) (hday : 0 ≤ (rd_T84 stirs b.f1).f2 ∧ (rd_T84 stirs b.f1).f2 ≤ 682) (days : Int) (gy gp gb gd : Nat)
  (hgy : w.heap[gy]? = some (.cells #[.pointer (some ⟨L.g,0,none⟩)] 159 (0,0))) (hgp : w.heap[gp]? = some (.cells #[.slice A R c,.slice A2 stirs.length c2] 32 (0,0))) (hgb : w.heap[gb]? = some (.cells #[ii b.f0,ii b.f1,ii b.f2,.slice A3 b.f3.length c3] 167 (0,0))) (hgd : w.heap[gd]? = some (.cells #[ii days] 3 (0,0))) (x : S89) (hp : x.f0 ∈ Y.pours) :
  Calls Tryz.prog 108 (#[.agg #[ii x.f0,ii x.f1.f0,ii x.f1.f1]] ++ #[.pointer (some ⟨gy,0,none⟩),.pointer (some ⟨gp,0,none⟩),.pointer (some ⟨gb,0,none⟩),.pointer (some ⟨gd,0,none⟩)]) w fun e w' => e = .returned (.bool (decide (ageP stirs Y b x.f0 < days))) ∧ Below w.heap.size w w':=by
 have hu32:=Tryz.underlying32
 have hu167:=Tryz.underlying167
 have hu89:=Tryz.underlying89
 have hu43:=Tryz.underlying43
 have HG:=am (hgy)
 have HP:=am (hgp)
 have HK:=am (hgb)
 have HD:=am (hgd)
 have HY:=am (hY)
 have HS:=am (hS)
 have HB:=am (Below.refl w.heap.size w)
 have HG1:=am (blk_alloc HG.out (.cells #[ii x.f0,ii x.f1.f0,ii x.f1.f1] 89))
 have HP1:=am (blk_alloc HP.out (.cells #[ii x.f0,ii x.f1.f0,ii x.f1.f1] 89))
 have HK1:=am (blk_alloc HK.out (.cells #[ii x.f0,ii x.f1.f0,ii x.f1.f1] 89))
 have HD1:=am (blk_alloc HD.out (.cells #[ii x.f0,ii x.f1.f0,ii x.f1.f1] 89))
 have HY1:=am (HY.out.move (below_alloc (Below.refl _ _) (.cells #[ii x.f0,ii x.f1.f0,ii x.f1.f1] 89)))
 have HS1:=am (Kd.C_alloc HS.out (.cells #[ii x.f0,ii x.f1.f0,ii x.f1.f1] 89))
 have HB1:=am (below_alloc HB.out (.cells #[ii x.f0,ii x.f1.f0,ii x.f1.f1] 89))
 have HX:=am (blk_new w (.cells #[ii x.f0,ii x.f1.f0,ii x.f1.f1] 89))
 have HG2:=am (blk_drew HG1.out)
 have HP2:=am (blk_drew HP1.out)
 have HK2:=am (blk_drew HK1.out)
 have HD2:=am (blk_drew HD1.out)
 have HY2:=am (HY1.out.move (below_drew (Below.refl _ _)))
 have HS2:=am (Kd.C_drew HS1.out)
 have HB2:=am (below_drew HB1.out)
 have HX1:=am (blk_drew HX.out)
 have HWF:=am hw
 have HDAY:=am hday
 have HPR:=am hp
 clear hgy hgp hgb hgd hY hS hw hday hp
 go_enter Tryz.func108,Tryz.ntmps108
 go_wp2
 refine start_ (n:=9) (S:=fun w' => w'.cell? ⟨gy,0,none⟩ = some (.pointer (some ⟨L.g,0,none⟩)) ∧ w'.cell? ⟨gp,0,none⟩ = some (.slice A R c) ∧ w'.cell? ⟨gp,1,none⟩ = some (.slice A2 stirs.length c2) ∧ w'.cell? ⟨gb,0,none⟩ = some (ii b.f0) ∧ w'.cell? ⟨gb,1,none⟩ = some (ii b.f1) ∧ w'.cell? ⟨gb,2,none⟩ = some (ii b.f2) ∧ w'.cell? ⟨gb,3,none⟩ = some (.slice A3 b.f3.length c3) ∧ w'.cell? ⟨w.heap.size,0,none⟩ = some (ii x.f0) ∧ w'.cell? ⟨gd,0,none⟩ = some (ii days)) (ds:=[]) (ab 9 0) kr rfl kr ⟨(blk_cell HG2.out 0).trans rfl,(blk_cell HP2.out 0).trans rfl,(blk_cell HP2.out 1).trans rfl,(blk_cell HK2.out 0).trans rfl,(blk_cell HK2.out 1).trans rfl,(blk_cell HK2.out 2).trans rfl,(blk_cell HK2.out 3).trans rfl,(blk_cell HX1.out 0).trans rfl,(blk_cell HD2.out 0).trans rfl⟩ (fun hHeld => ?_);refine with_tabW R108_1.tab R108_1.bits (fun HT_ HW_ => ?_)
 generalize ((w.alloc (.cells #[ii x.f0,ii x.f1.f0,ii x.f1.f1] 89))).drew = wd at HG2 HP2 HK2 HD2 HY2 HS2 HB2 HX1 hHeld ⊢
 refine qT 0 (some 7) ?_;refine qT 1 (some 8) ?_;refine qT 2 (some 9) ?_;refine qA 3 (some 10) ?_;refine qT 4 (some 11) ?_;refine qT 6 (some 13) ?_
 refine qE 5 (some 12) fun K hK => ?_
 refine gC Tryz.func104 #[.pointer (some ⟨L.g,0,none⟩),.agg #[.slice A R c,.slice A2 stirs.length c2],.agg #[ii b.f0,ii b.f1,ii b.f2,.slice A3 b.f3.length c3],ii x.f0] ?_
 refine (age_calls HY2.out HWF.out hn A R c A2 c2 stirs HS2.out b A3 c3 hb0 hb1 HDAY.out x.f0 HPR.out).mono ?_
 rintro e w1 ⟨rfl,hb⟩
 have HG3:=am (blk_below HG2.out hb)
 have HP3:=am (blk_below HP2.out hb)
 have HK3:=am (blk_below HK2.out hb)
 have HD3:=am (blk_below HD2.out hb)
 have HB3:=am (below_then HB2.out (below_size HB2.out) hb)
 have HX2:=am (blk_below HX1.out hb)
 clear hb
 refine ⟨_,rfl,?_⟩
 refine hK.out _ _ ⟨(blk_cell HG3.out 0).trans rfl,(blk_cell HP3.out 0).trans rfl,(blk_cell HP3.out 1).trans rfl,(blk_cell HK3.out 0).trans rfl,(blk_cell HK3.out 1).trans rfl,(blk_cell HK3.out 2).trans rfl,(blk_cell HK3.out 3).trans rfl,(blk_cell HX2.out 0).trans rfl,(blk_cell HD3.out 0).trans rfl⟩ (fun hHeld => ?_)
 clear hK K
 refine qN (some 12) ?_
 refine qA 7 (some 14) ?_;refine qA 8 (some 6) ?_
 refine done_ (done_of HT_.out kr) ?_
 go_wp2
 go_ret
 exact ⟨rfl,HB3.out⟩
set_option maxRecDepth 100000 in
set_option maxHeartbeats 2000000 in
theorem ripe_calls (A A2 : Option Addr) (c c2 : Nat) (rooms : List Int) (stirs : List S84) (W : World) (lo : Nat) (hlo : lo ≤ W.heap.size) (hC : Kd.F (Kd.int .i64) W (fun k => k < lo) A rooms.length rooms) (hc : rooms.length ≤ c) (hS : Kd.C k84 W A2 stirs.length stirs) (hc2 : stirs.length ≤ c2) (id days : Int) :
  Calls Tryz.prog 34 #[.agg #[.slice A rooms.length c,.slice A2 stirs.length c2],ii id,ii days] W fun e W' => e = .returned (.tuple #[.agg #[ii (ripeE stirs (playedP rooms stirs stirs.length) id days).1.f0,ii (ripeE stirs (playedP rooms stirs stirs.length) id days).1.f1],ii (ripeE stirs (playedP rooms stirs stirs.length) id days).2]) ∧ Below W.heap.size W W':=by
 have hu:=Tryz.underlying32
 have hu167:=Tryz.underlying167
 have hu43:=Tryz.underlying43
 have hmf : ∀ (fn : Fn) (first cap : Array Value) (w : World),(Instr.makeFunc fn first cap).run Tryz.prog w = .ok (.func fn first cap) w:=fun _ _ _ _ => rfl
 have HC:=am (hC)
 have HS:=am (hS)
 have HB:=am (Below.refl W.heap.size W)
 have HC1:=am (Kd.F_alloc HC.out (.cells #[.slice A rooms.length c,.slice A2 stirs.length c2] 32))
 have HS1:=am (Kd.C_alloc HS.out (.cells #[.slice A rooms.length c,.slice A2 stirs.length c2] 32))
 have HB1:=am (below_alloc HB.out (.cells #[.slice A rooms.length c,.slice A2 stirs.length c2] 32))
 have HP:=am (blk_new W (.cells #[.slice A rooms.length c,.slice A2 stirs.length c2] 32))
 have HC2:=am (Kd.F_alloc HC1.out (.cells #[ii days] 3))
 have HS2:=am (Kd.C_alloc HS1.out (.cells #[ii days] 3))
 have HB2:=am (below_alloc HB1.out (.cells #[ii days] 3))
 have HP1:=am (blk_alloc HP.out (.cells #[ii days] 3))
 have HD:=am (blk_new' (W.alloc (.cells #[.slice A rooms.length c,.slice A2 stirs.length c2] 32)) (.cells #[ii days] 3) (W.heap.size + 1) (by simp))
 have HC3:=am (Kd.F_alloc HC2.out (.cells #[ii 0,ii 0] 43))
 have HS3:=am (Kd.C_alloc HS2.out (.cells #[ii 0,ii 0] 43))
 have HB3:=am (below_alloc HB2.out (.cells #[ii 0,ii 0] 43))
 have HP2:=am (blk_alloc HP1.out (.cells #[ii 0,ii 0] 43))
 have HD1:=am (blk_alloc HD.out (.cells #[ii 0,ii 0] 43))
 have HR:=am (blk_new' ((W.alloc (.cells #[.slice A rooms.length c,.slice A2 stirs.length c2] 32)).alloc (.cells #[ii days] 3)) (.cells #[ii 0,ii 0] 43) (W.heap.size + 1 + 1) (by simp))
 clear hC hS
 obtain ⟨r,hr⟩ : ∃ r,r = playedP rooms stirs stirs.length:=⟨_,rfl⟩
 rw [← hr]
 have HQP:=am hr.symm
 clear hr
 obtain ⟨q,hq⟩ : ∃ q,q = ripeE stirs r id days:=⟨_,rfl⟩
 rw [← hq]
 have HQ:=am hq
 clear hq
 go_enter Tryz.func34,Tryz.ntmps34
 go_wp2_with fail
 refine (check_calls A A2 c c2 rooms stirs _ lo (Nat.le_trans hlo (by simp;omega)) HC3.out hc HS3.out hc2).mono ?_
 rintro e w1 ⟨rfl,hb⟩
 rw [HQP.out]
 have HC4:=am (Kd.F_below HC3.out hb)
 have HS4:=am (Kd.C_below HS3.out hb)
 have HB4:=am (below_then HB3.out (below_size HB3.out) hb)
 have HP3:=am (blk_below HP2.out hb)
 have HD2:=am (blk_below HD1.out hb)
 have HR1:=am (blk_below HR.out hb)
 clear hb
 cases r with
|error x =>
  have hx : ¬ x.1 = 0:=playedP_code HQP.out
  rw [show codeOf (.error x) = x from rfl]
  have HE:=am (show q = (⟨0,0⟩,x.1) by rw [HQ.out];rfl)
  have u0:=bd HR1.out 0
  have fu0:=blk_frozen HR1.out 0
  have u1:=bd HR1.out 1
  have fu1:=blk_frozen HR1.out 1
  go_wp2
  rw [HE.out]
  have bz:=blk_put (cs':=#[ii 0,ii 0]) (blk_put (cs':=#[ii 0,ii 0]) (HR1.out) 0 (ii 0) rfl) 1 (ii 0) rfl
  have z0:=bd bz 0
  have z1:=bd bz 1
  exact bodyPost_ret (v:=.tuple #[.agg #[ii 0,ii 0],ii x.1]) (by simp [results,Tryz.results34,go_sem,z0,z1,hu43]) rfl ⟨rfl,((HB4.out).setCell (p:=⟨W.heap.size + 1 + 1,0,none⟩) (by first|(simp;done)|(simp;omega)) (ii 0)).setCell (p:=⟨W.heap.size + 1 + 1,1,none⟩) (by first|(simp;done)|(simp;omega)) (ii 0)⟩
|ok Y =>
  rw [show codeOf (.ok Y) = (0,0) from rfl]
  obtain ⟨k,hk⟩ : ∃ k,k = inP days 0 682:=⟨_,rfl⟩
  have HK:=am hk
  have HWI:=am (show pit_within.f days 0 682 = some k by rw [within_some,hk];rfl)
  clear hk
  have g0:=bd HD2.out 0
  go_wp2_with fail
  refine (pit_within.calls _ _ _ _ _ HWI.out).mono ?_
  rintro e w2 ⟨rfl,m,rfl⟩
  have HC5:=am (Kd.F_drewN HC4.out m)
  have HS5:=am (Kd.C_drewN HS4.out m)
  have HB5:=am (pw_below_drewN HB4.out m)
  have HP4:=am (blk_drewN HP3.out m)
  have HD3:=am (blk_drewN HD2.out m)
  have HR2:=am (blk_drewN HR1.out m)
  clear g0
  generalize w1.drewN m = w2 at HC5 HS5 HB5 HP4 HD3 HR2 ⊢
  cases k with
 |false =>
   have HE:=am (show q = (⟨0,0⟩,1) by rw [HQ.out];unfold ripeE;simp only [← HK.out];rfl)
   have u0:=bd HR2.out 0
   have fu0:=blk_frozen HR2.out 0
   have u1:=bd HR2.out 1
   have fu1:=blk_frozen HR2.out 1
   go_wp2
   rw [HE.out]
   have bz:=blk_put (cs':=#[ii 0,ii 0]) (blk_put (cs':=#[ii 0,ii 0]) (HR2.out) 0 (ii 0) rfl) 1 (ii 0) rfl
   have z0:=bd bz 0
   have z1:=bd bz 1
   exact bodyPost_ret (v:=.tuple #[.agg #[ii 0,ii 0],ii 1]) (by simp [results,Tryz.results34,go_sem,z0,z1,hu43]) rfl ⟨rfl,((HB5.out).setCell (p:=⟨W.heap.size + 1 + 1,0,none⟩) (by first|(simp;done)|(simp;omega)) (ii 0)).setCell (p:=⟨W.heap.size + 1 + 1,1,none⟩) (by first|(simp;done)|(simp;omega)) (ii 0)⟩
 |true =>
   have HQ1:=am (show q = (match Y.barrows.find? (isId id) with|none => (⟨0,0⟩,5)|some b => (match totalP (·.f1) (b.f3.filter (fun x => !decide (ageP stirs Y b x.f0 < days))) with|none => (⟨0,0⟩,3)|some n => resultP (timesP n 1 b.f2))) by rw [HQ.out];unfold ripeE;exact if_pos HK.out.symm)
   have g0:=bd HP4.out 0
   have g1:=bd HP4.out 1
   go_wp2_with fail
   refine (barrowOf_calls A A2 c c2 rooms stirs _ lo (Nat.le_trans hlo HB5.out.size) HC5.out hc HS5.out hc2 id).mono ?_
   rintro e w3 ⟨hb,h⟩
   rw [HQP.out] at h
   have HS6:=am (Kd.C_below HS5.out hb)
   have HB6:=am (below_then HB5.out (below_size HB5.out) hb)
   have HP5:=am (blk_below HP4.out hb)
   have HD4:=am (blk_below HD3.out hb)
   have HR3:=am (blk_below HR2.out hb)
   clear hb g0 g1
   cases hf : Y.barrows.find? (isId id) with
  |none =>
    have HE0:=am (show q = (⟨0,0⟩,5) by rw [HQ1.out,hf])
    simp only [hf] at h
    clear hf
    subst h
    have HB7:=am (below_alloc HB6.out (.cells #[.pointer none] 159))
    have HR4:=am (blk_alloc HR3.out (.cells #[.pointer none] 159))
    have HG:=am (blk_new w3 (.cells #[.pointer none] 159))
    have HB8:=am (below_alloc HB7.out (.cells #[ii 0,ii 0,ii 0,.slice none 0 0] 167))
    have HR5:=am (blk_alloc HR4.out (.cells #[ii 0,ii 0,ii 0,.slice none 0 0] 167))
    have HG1:=am (blk_alloc HG.out (.cells #[ii 0,ii 0,ii 0,.slice none 0 0] 167))
    have HX:=am (blk_new' (w3.alloc (.cells #[.pointer none] 159)) (.cells #[ii 0,ii 0,ii 0,.slice none 0 0] 167) (w3.heap.size + 1) (by simp))
    have HE:=am (show q = (⟨0,0⟩,5) by exact HE0.out)
    have u0:=bd HR5.out 0
    have fu0:=blk_frozen HR5.out 0
    have u1:=bd HR5.out 1
    have fu1:=blk_frozen HR5.out 1
    go_wp2
    rw [HE.out]
    have bz:=blk_put (cs':=#[ii 0,ii 0]) (blk_put (cs':=#[ii 0,ii 0]) (HR5.out) 0 (ii 0) rfl) 1 (ii 0) rfl
    have z0:=bd bz 0
    have z1:=bd bz 1
    exact bodyPost_ret (v:=.tuple #[.agg #[ii 0,ii 0],ii 5]) (by simp [results,Tryz.results34,go_sem,z0,z1,hu43]) rfl ⟨rfl,((HB8.out).setCell (p:=⟨W.heap.size + 1 + 1,0,none⟩) (by first|(simp;done)|(simp;omega)) (ii 0)).setCell (p:=⟨W.heap.size + 1 + 1,1,none⟩) (by first|(simp;done)|(simp;omega)) (ii 0)⟩
  |some b =>
    have HF:=am hf
    have HQ2:=am (show q = (match totalP (·.f1) (b.f3.filter (fun x => !decide (ageP stirs Y b x.f0 < days))) with|none => (⟨0,0⟩,3)|some n => resultP (timesP n 1 b.f2)) by rw [HQ1.out,hf])
    simp only [hf] at h
    clear hf
    obtain ⟨L,base,A3,c3,hbase,hbad,rfl,hY,hl3,hF3⟩:=h
    have HWF:=am (played_wf HQP.out)
    have HSL:=am (played_ok HQP.out).2.1
    have HDY:=am (playedP_days HQP.out)
    have HBO:=am (HWF.out.barrows b (List.mem_of_find?_eq_some HF.out))
    have HL3:=am hl3
    have HLEN:=am (show b.f3.length ≤ 60 from HBO.out.par.len)
    have HY:=am (hY)
    have HF3:=am (hF3)
    have HS7:=am (Kd.C_alloc HS6.out (.cells #[.pointer (some ⟨L.g,0,none⟩)] 159))
    have HB7:=am (below_alloc HB6.out (.cells #[.pointer (some ⟨L.g,0,none⟩)] 159))
    have HP6:=am (blk_alloc HP5.out (.cells #[.pointer (some ⟨L.g,0,none⟩)] 159))
    have HD5:=am (blk_alloc HD4.out (.cells #[.pointer (some ⟨L.g,0,none⟩)] 159))
    have HR4:=am (blk_alloc HR3.out (.cells #[.pointer (some ⟨L.g,0,none⟩)] 159))
    have HY1:=am (HY.out.move (below_alloc (Below.refl _ _) (.cells #[.pointer (some ⟨L.g,0,none⟩)] 159)))
    have HF31:=am (Kd.F_alloc HF3.out (.cells #[.pointer (some ⟨L.g,0,none⟩)] 159))
    have HG:=am (blk_new w3 (.cells #[.pointer (some ⟨L.g,0,none⟩)] 159))
    have HS8:=am (Kd.C_alloc HS7.out (.cells #[ii b.f0,ii b.f1,ii b.f2,.slice A3 b.f3.length c3] 167))
    have HB8:=am (below_alloc HB7.out (.cells #[ii b.f0,ii b.f1,ii b.f2,.slice A3 b.f3.length c3] 167))
    have HP7:=am (blk_alloc HP6.out (.cells #[ii b.f0,ii b.f1,ii b.f2,.slice A3 b.f3.length c3] 167))
    have HD6:=am (blk_alloc HD5.out (.cells #[ii b.f0,ii b.f1,ii b.f2,.slice A3 b.f3.length c3] 167))
    have HR5:=am (blk_alloc HR4.out (.cells #[ii b.f0,ii b.f1,ii b.f2,.slice A3 b.f3.length c3] 167))
    have HY2:=am (HY1.out.move (below_alloc (Below.refl _ _) (.cells #[ii b.f0,ii b.f1,ii b.f2,.slice A3 b.f3.length c3] 167)))
    have HF32:=am (Kd.F_alloc HF31.out (.cells #[ii b.f0,ii b.f1,ii b.f2,.slice A3 b.f3.length c3] 167))
    have HG1:=am (blk_alloc HG.out (.cells #[ii b.f0,ii b.f1,ii b.f2,.slice A3 b.f3.length c3] 167))
    have HX:=am (blk_new' (w3.alloc (.cells #[.pointer (some ⟨L.g,0,none⟩)] 159)) (.cells #[ii b.f0,ii b.f1,ii b.f2,.slice A3 b.f3.length c3] 167) (w3.heap.size + 1) (by simp))
    clear hbase hbad hY hl3 hF3
    go_wp2_with fail
    refine (clone97_calls A3 c3 b.f3 _ L.Not HF32.out HL3.out (by have:=HLEN.out;omega)).mono ?_
    rintro e w4 ⟨v,rfl,hb,hR⟩
    have HR4:=am (R_of_ft hR)
    have HBN:=am hb
    clear hb hR
    obtain ⟨wN,hwN⟩ : ∃ wN,wN = ((w3.alloc (.cells #[.pointer (some ⟨L.g,0,none⟩)] 159)).alloc (.cells #[ii b.f0,ii b.f1,ii b.f2,.slice A3 b.f3.length c3] 167)):=⟨_,rfl⟩
    rw [← hwN] at HR4 HBN HS8 HB8 HP7 HD6 HR5 HY2 HF32 HG1 HX
    have HZ1:=am (show W.heap.size ≤ wN.heap.size from HB8.out.size)
    clear hwN
    have HD9:=am (HDY.out (rd_T84 stirs b.f1) (by rw [List.take_length];exact getD_mem_ (by have:=HBO.out.step0;have:=HBO.out.step1;omega)))
    have HCL:=am (fun (x : S89) (w : World) (hx : x ∈ b.f3) (h : Below wN.heap.size wN w) => cl108_calls (HY2.out.move h) HWF.out HSL.out A rooms.length c A2 c2 stirs (Kd.C_below HS8.out h) b A3 c3 HBO.out.step0 HBO.out.step1 HD9.out days w3.heap.size W.heap.size (w3.heap.size + 1) (W.heap.size + 1) (blk_below HG1.out h) (blk_below HP7.out h) (blk_below HX.out h) (blk_below HD6.out h) x (HBO.out.par.parts x hx).2.2)
    have ek108 : ∀ args w,(callFunc 108 args).run Tryz.prog w = .ok (.enter 108 args) w:=enters_of Tryz.func108 kr rfl
    go_wp2_with fail
    refine (del107_calls v b.f3 (fun x => decide (ageP stirs Y b x.f0 < days)) 108 _ (Below wN.heap.size wN) w4 wN.heap.size _ HR4.out HBN.out.size ek108 HBN.out (fun w w' h hb => h.trans hb) HCL.out).mono ?_
    rintro e w5 ⟨hb,A5,c5,rfl,hl5,hC5⟩
    have HB5:=am (HBN.out.trans hb)
    have HC5:=am hC5
    have HL5:=am hl5
    clear hb hl5 hC5
    obtain ⟨ls,hls⟩ : ∃ ls,ls = b.f3.filter (fun x => !decide (ageP stirs Y b x.f0 < days)):=⟨_,rfl⟩
    rw [← hls] at HC5 HL5 HQ2 ⊢
    clear hls HCL
    have ek109 : ∀ args w,(callFunc 109 args).run Tryz.prog w = .ok (.enter 109 args) w:=enters_of Tryz.func109 kr rfl
    go_wp2_with fail
    refine (total86_calls A5 c5 ls (·.f1) 109 #[] (fun _ => True) w5 HC5.out HL5.out ek109 trivial (fun _ _ _ _ => trivial) (fun x w _ _ => cl109_calls x w)).mono ?_
    rintro e w6 ⟨rfl,hb⟩
    have HB6:=am (HB5.out.trans (hb.mono HB5.out.size))
    clear hb
    have HR9:=am (blk_below HR5.out HB6.out)
    have HX9:=am (blk_below HX.out HB6.out)
    have HB9:=am (below_then HB8.out HZ1.out HB6.out)
    cases hto : totalP (·.f1) ls with
   |none =>
     have HE0:=am (show q = (⟨0,0⟩,3) by rw [HQ2.out,hto])
     clear hto
     unfold totalE
     have HR91:=am (blk_alloc HR9.out (.cells #[ii 0,ii 0] 43))
     have HX91:=am (blk_alloc HX9.out (.cells #[ii 0,ii 0] 43))
     have HB91:=am (below_alloc HB9.out (.cells #[ii 0,ii 0] 43))
     have HE:=am (show q = (⟨0,0⟩,3) by exact HE0.out)
     have u0:=bd HR91.out 0
     have fu0:=blk_frozen HR91.out 0
     have u1:=bd HR91.out 1
     have fu1:=blk_frozen HR91.out 1
     go_wp2
     rw [HE.out]
     have bz:=blk_put (cs':=#[ii 0,ii 0]) (blk_put (cs':=#[ii 0,ii 0]) (HR91.out) 0 (ii 0) rfl) 1 (ii 0) rfl
     have z0:=bd bz 0
     have z1:=bd bz 1
     exact bodyPost_ret (v:=.tuple #[.agg #[ii 0,ii 0],ii 3]) (by simp [results,Tryz.results34,go_sem,z0,z1,hu43]) rfl ⟨rfl,((HB91.out).setCell (p:=⟨W.heap.size + 1 + 1,0,none⟩) (by first|(simp;done)|(simp;omega)) (ii 0)).setCell (p:=⟨W.heap.size + 1 + 1,1,none⟩) (by first|(simp;done)|(simp;omega)) (ii 0)⟩
   |some n =>
     have HE:=am (show q = resultP (timesP n 1 b.f2) by rw [HQ2.out,hto])
     have HV:=am (totalP_valid hto)
     clear hto
     unfold totalE
     have HT:=am (times_valid HV.out (n:=1) (m:=b.f2) (by omega) (by omega) HBO.out.lo (by have:=HBO.out.hi;omega))
     obtain ⟨s,hs⟩ : ∃ s,s = timesP n 1 b.f2:=⟨_,rfl⟩
     rw [← hs] at HT HE
     clear hs
     have HRS:=am (result_some s)
     rw [← HE.out] at HRS
     have HR91:=am (blk_alloc HR9.out (.cells #[ii n.f0,ii n.f1] 43))
     have HX91:=am (blk_alloc HX9.out (.cells #[ii n.f0,ii n.f1] 43))
     have HB91:=am (below_alloc HB9.out (.cells #[ii n.f0,ii n.f1] 43))
     have g2:=bd HX91.out 2
     go_wp2_with fail
     refine (pit_times.calls FU _ _ _ _ _ _ _ HT.out).mono ?_
     rintro e w7 ⟨rfl,hb⟩
     have HR92:=am (blk_below HR91.out hb)
     have HB92:=am (below_then HB91.out (below_size HB91.out) hb)
     clear hb g2
     go_wp2_with fail
     refine (pit_result.calls FU _ _ _ _ _ _ HRS.out).mono ?_
     rintro e w8 ⟨rfl,hb⟩
     have HR93:=am (blk_below HR92.out hb)
     have HB93:=am (below_then HB92.out (below_size HB92.out) hb)
     clear hb
     have u0:=bd HR93.out 0
     have fu0:=blk_frozen HR93.out 0
     have u1:=bd HR93.out 1
     have fu1:=blk_frozen HR93.out 1
     go_wp2
     have bz:=blk_put (cs':=#[ii q.1.f0,ii q.1.f1]) (blk_put (cs':=#[ii q.1.f0,ii 0]) (HR93.out) 0 (ii q.1.f0) rfl) 1 (ii q.1.f1) rfl
     have z0:=bd bz 0
     have z1:=bd bz 1
     exact bodyPost_ret (v:=.tuple #[.agg #[ii q.1.f0,ii q.1.f1],ii q.2]) (by simp [results,Tryz.results34,go_sem,z0,z1,hu43]) rfl ⟨rfl,((HB93.out).setCell (p:=⟨W.heap.size + 1 + 1,0,none⟩) (by first|(simp;done)|(simp;omega)) (ii q.1.f0)).setCell (p:=⟨W.heap.size + 1 + 1,1,none⟩) (by first|(simp;done)|(simp;omega)) (ii q.1.f1)⟩
section
def milleP (s : S66) : Bool:=decide (0 ≤ s.f0 ∧ s.f0 ≤ s.f1 ∧ s.f1 ≤ 1000)
theorem mille_some (s : S66) : pit_mille.f s.f0 s.f1 = some (milleP s):=by
 unfold pit_mille.f milleP
 by_cases h1 : 0 ≤ s.f0
 ·rw [if_pos h1]
  by_cases h2 : s.f0 ≤ s.f1
  ·rw [if_pos h2];simp [h1,h2]
  ·rw [if_neg h2];simp [h2]
 ·rw [if_neg h1];simp [h1]
def askL {α : Type} (a : α → Int) (m : α → S66) (known : Int → Bool) : List α → List α → Int
|_,[] => 0
|done,g :: r => if known (a g) = true then (if milleP (m g) = true then (if (done.any fun x => decide (a x = a g)) = true then 6 else askL a m known (done ++ [g]) r) else 1) else 5
section
variable {α : Type} {a : α → Int} {m : α → S66} {known : Int → Bool} {done r : List α} {g : α}
theorem askL_5 (h : known (a g) = false) : askL a m known done (g :: r) = 5:=by simp only [askL];rw [if_neg (by rw [h];simp)]
theorem askL_1 (h : known (a g) = true) (h1 : milleP (m g) = false) : askL a m known done (g :: r) = 1:=by simp only [askL];rw [if_pos h,if_neg (by rw [h1];simp)]
theorem askL_6 (h : known (a g) = true) (h1 : milleP (m g) = true) (h2 : (done.any fun x => decide (a x = a g)) = true) : askL a m known done (g :: r) = 6:=by simp only [askL];rw [if_pos h,if_pos h1,if_pos h2]
theorem askL_go (h : known (a g) = true) (h1 : milleP (m g) = true) (h2 : (done.any fun x => decide (a x = a g)) = false) : askL a m known done (g :: r) = askL a m known (done ++ [g]) r:=by simp only [askL];rw [if_pos h,if_pos h1,if_neg (by rw [h2];simp)]
end
def gradesE (Y : Yd) (l : List S113) : Int:=if l.length ≤ 60 then askL (·.f0) (·.f1) (fun i => decide (i ∈ Y.pours)) [] l else 2
theorem cl155_calls (gx : Nat) (x y : S113) (w : World) (BK : w.heap[gx]? = some (.cells #[ii x.f0,ii x.f1.f0,ii x.f1.f1] 113 (0,0))) :
  Calls Tryz.prog 155 (#[.agg #[ii y.f0,ii y.f1.f0,ii y.f1.f1]] ++ #[.pointer (some ⟨gx,0,none⟩)]) w fun e w' => e = .returned (.bool (decide (y.f0 = x.f0))) ∧ Below w.heap.size w w':=by
 have hu:=Tryz.underlying113
 have hu66:=Tryz.underlying66
 have hc : ∀ o,(w.alloc o).cell? ⟨gx,0,none⟩ = some (ii x.f0):=fun o => (blk_cell (blk_alloc BK o) 0).trans rfl
 clear BK
 go_enter Tryz.func155,Tryz.ntmps155
 go_wp2
 go_ret
 exact ⟨by simp [beqd],below_alloc (Below.refl _ _) _⟩
theorem drop_rd113 {l : List S113} {j : Nat} (h : j < l.length) : l.drop j = rd_T113 l (j : Int) :: l.drop (j + 1):=by
 rw [List.drop_eq_getElem_cons h];unfold rd_T113;rw [Int.toNat_natCast,List.getD_eq_getElem?_getD,List.getElem?_eq_getElem h];rfl
theorem take_rd113 {l : List S113} {j : Nat} (h : j < l.length) : l.take (j + 1) = l.take j ++ [rd_T113 l (j : Int)]:=by
 rw [List.take_succ_eq_append_getElem h];unfold rd_T113;rw [Int.toNat_natCast,List.getD_eq_getElem?_getD,List.getElem?_eq_getElem h];rfl
set_option maxRecDepth 100000 in
set_option maxHeartbeats 2000000 in
theorem grades_calls {W : World} {base n : Nat} {L : Loc} {Y : Yd} (hY : YardAt W base L Y) (hw : Wf n Y) (hn : n ≤ 60) (A : Option Addr) (c : Nat) (l : List S113) (hr : Kd.C k113 W A l.length l) (hlc : l.length ≤ c) :
  Calls Tryz.prog 84 #[.pointer (some ⟨L.g,0,none⟩),.slice A l.length c] W fun e W' => e = .returned (ii (gradesE Y l)) ∧ Below W.heap.size W W':=by
 have hu:=Tryz.underlying113
 have hu66:=Tryz.underlying66
 have hu167:=Tryz.underlying167
 have hmf : ∀ (fn : Fn) (first cap : Array Value) (w : World),(Instr.makeFunc fn first cap).run Tryz.prog w = .ok (.func fn first cap) w:=fun _ _ _ _ => rfl
 have hmx:=hr.2.1
 have HW:=am hw
 have HC:=am hr
 have HY:=am hY
 have ekc : ∀ args w,(callFunc 155 args).run Tryz.prog w = .ok (.enter 155 args) w:=enters_of Tryz.func155 kr rfl
 obtain ⟨q,hq⟩ : ∃ q,q = gradesE Y l:=⟨_,rfl⟩
 rw [← hq]
 have HQ:=am hq
 clear hq hY hw hr
 by_cases hlim : 60 < l.length
 ·
  have HE:=am (show q = 2 by rw [HQ.out];exact if_neg (by omega))
  go_enter Tryz.func84,Tryz.ntmps84
  go_wp2
  go_ret
  exact ⟨by rw [HE.out];rfl,Below.refl _ _⟩
 ·
  have HQ1:=am (show q = askL (·.f0) (·.f1) (fun i => decide (i ∈ Y.pours)) [] l by rw [HQ.out];exact if_pos (by omega))
  clear HQ
  go_enter Tryz.func84,Tryz.ntmps84
  go_wp2
  go_loopw [12] (fun v12 wr => ∃ (j : Nat),j ≤ l.length ∧ v12 = ii (j : Int) ∧ Aside0 (Below W.heap.size W wr) ∧ Aside0 (q = askL (·.f0) (·.f1) (fun i => decide (i ∈ Y.pours)) (l.take j) (l.drop j))) (fun v12 _ => l.length - (intOf v12).toNat)
  case atStart => exact ⟨0,Nat.zero_le _,rfl,⟨Below.refl _ _⟩,⟨by rw [HQ1.out];rfl⟩⟩
  case round =>
   obtain ⟨j,hj,rfl,HB,HA⟩:=hrel
   by_cases hlt : j < l.length
   ·
    obtain ⟨ae,e,hx0,hx1,hx2⟩:=at_T113 (Kd.C_below HC.out HB.out) (j : Int) (by omega) (by omega)
    cases e
    rw [Int.toNat_natCast] at hx0 hx1 hx2
    rw [drop_rd113 hlt] at HA
    have HT:=am (take_rd113 hlt)
    have HCT:=am (Kd.C_take HC.out (m:=j) (by omega))
    have hlj : (l.take j).length = j:=by rw [List.length_take];omega
    obtain ⟨x,hx⟩ : ∃ x,x = rd_T113 l (j : Int):=⟨_,rfl⟩
    rw [← hx] at hx0 hx1 hx2 HA HT
    obtain ⟨dn,hdn⟩ : ∃ dn,dn = l.take j:=⟨_,rfl⟩
    rw [← hdn] at HA HT HCT hlj
    have HLJ:=am hlj
    clear hx hdn hlj
    have HB1:=am (below_alloc HB.out (.cells #[ii x.f0,ii x.f1.f0,ii x.f1.f1] 113))
    have HX:=am (blk_new wr (.cells #[ii x.f0,ii x.f1.f0,ii x.f1.f1] 113))
    obtain ⟨k1,hk1⟩ : ∃ k1,k1 = (fun i => decide (i ∈ Y.pours)) x.f0:=⟨_,rfl⟩
    have HK1:=am hk1
    clear hk1
    go_wp2_with fail
    refine (known_calls (HY.out.move (HB1.out)) HW.out (by omega) x.f0).mono ?_
    rintro e w5 ⟨rfl,hb⟩
    rw [show decide (x.f0 ∈ Y.pours) = k1 from HK1.out.symm]
    have HB2:=am (below_then HB1.out (below_size HB1.out) hb)
    have HX1:=am (blk_below HX.out hb)
    clear hb hx0 hx1 hx2
    cases k1 with
   |false =>
     go_wp2
     go_ret
     refine ⟨?_,HB2.out⟩
     rw [HA.out,askL_5 (known:=(fun i => decide (i ∈ Y.pours))) HK1.out.symm]
     rfl
   |true =>
     have g0:=bd HX1.out 0
     have g1:=bd HX1.out 1
     have g2:=bd HX1.out 2
     obtain ⟨k2,hk2⟩ : ∃ k2,k2 = milleP x.f1:=⟨_,rfl⟩
     have HM:=am (show pit_mille.f x.f1.f0 x.f1.f1 = some k2 by rw [hk2];exact mille_some x.f1)
     have HK2:=am hk2
     clear hk2
     go_wp2_with fail
     refine (pit_mille.calls _ _ _ _ HM.out).mono ?_
     rintro e w6 ⟨rfl,hb⟩
     have HB3:=am (below_then HB2.out (below_size HB2.out) hb)
     have HX2:=am (blk_below HX1.out hb)
     clear hb g0 g1 g2
     cases k2 with
    |false =>
      go_wp2
      go_ret
      refine ⟨?_,HB3.out⟩
      rw [HA.out,askL_1 (known:=(fun i => decide (i ∈ Y.pours))) HK1.out.symm HK2.out.symm]
      rfl
    |true =>
      have HH:=am (has154_calls (some ae) c dn (fun y => decide (y.f0 = x.f0)) 155 _ (fun w => w.heap[wr.heap.size]? = some (.cells #[ii x.f0,ii x.f1.f0,ii x.f1.f1] 113 (0,0))) w6 (Kd.C_below HCT.out HB3.out) (by rw [HLJ.out];omega) ekc HX2.out (fun w w' h hb => blk_below h hb) (fun y w _ h => cl155_calls _ x y w h))
      rw [HLJ.out] at HH
      obtain ⟨k3,hk3⟩ : ∃ k3,k3 = dn.any (fun y => decide (y.f0 = x.f0)):=⟨_,rfl⟩
      rw [← hk3] at HH
      have HK3:=am hk3
      clear hk3
      go_wp2_with fail
      refine HH.out.mono ?_
      rintro e w7 ⟨rfl,hb⟩
      have HB4:=am (below_then HB3.out (below_size HB3.out) hb)
      clear hb
      cases k3 with
     |true =>
       go_wp2
       go_ret
       refine ⟨?_,HB4.out⟩
       rw [HA.out,askL_6 (known:=(fun i => decide (i ∈ Y.pours))) HK1.out.symm HK2.out.symm HK3.out.symm]
       rfl
     |false =>
       go_wp2
       go_roundw
       case rel => exact ⟨j + 1,by omega,by go_num,HB4,⟨by rw [HA.out,HT.out,askL_go (known:=(fun i => decide (i ∈ Y.pours))) HK1.out.symm HK2.out.symm HK3.out.symm]⟩⟩
       case measure => simp [intOf];omega
   ·
    have HE:=am (show q = 0 by rw [HA.out,List.drop_eq_nil_of_le (by omega)];rfl)
    go_wp2
    go_ret
    exact ⟨by rw [HE.out];rfl,HB.out⟩
end
def R87_1.T : Bool × List (List Nat × List Nat):=(true,[([],[]),([0],[0]),([],[]),([],[]),([3],[3]),([2,4],[2,4]),([5],[5]),([1,6,5],[1,6]),([7,7,0,1,2,3,4,5,6,7],[7])])
def R87_1.B : List Nat:=[0,1,0,0,8,28,60,127,255]
theorem R87_1.tab : rtab .any (opsOf Tryz.f87 1) = R87_1.T:=by kernel_rfl
theorem R87_1.bits : waitsOk R87_1.T.2 R87_1.B = true:=by kernel_rfl
def R90_1.T : Bool × List (List Nat × List Nat):=(true,[([],[]),([0],[0]),([],[]),([],[]),([3],[3]),([2,4],[2,4]),([5],[5]),([1,6,5],[1,6]),([7,7,0,1,2,3,4,5,6,7],[7])])
def R90_1.B : List Nat:=[0,1,0,0,8,28,60,127,255]
theorem R90_1.tab : rtab .any (opsOf Tryz.f90 1) = R90_1.T:=by kernel_rfl
theorem R90_1.bits : waitsOk R90_1.T.2 R90_1.B = true:=by kernel_rfl
theorem goesv_ {P : Program} {ops : Array Oper} {Q : Exit → Act → World → Prop} {oi : Oper} {N : Option Tmp} {a : Act} {w : World} {K : Act → World → Prop} {f : FuncId} {fn : Func} {xs : Array Operand} {ts : Array TypeId} {x : Operand} {caps : Array Value} (hf : P.funcs[f]? = some fn) (hname : (fn.name == "runtime.NumGoroutine") = false) (hb : fn.body.isSome = true) (args : Array Value)
  (hw : Region.wanted oi (yielded ops a.tmps) = true) (hN : oi.dst = N) (hop : oi.op = .call { callee:=.value x,args:=xs,argTypes:=ts }) (hx : a.eval x = .func (.func f) #[] caps) (hargs : xs.map a.eval = args)
  (h : Calls P f (args ++ caps) w fun e w' => ∃ v,e = .returned v ∧ K (a.put N v) w') : if Region.wanted oi (yielded ops a.tmps) = true then Oper.wp P oi a w K Q else K (a.put N undef) w:=by
 refine call_ f (args ++ caps) hw hN ?_ h
 have he:=enters_ hf hname hb (args ++ caps) w
 unfold execOp
 simp only [hop,resolve,hargs,hx]
 simp [Deferred.ofValue,invoke,he]
theorem fd66_0 (a b : Int) (W : World) : (Instr.field 66 (.agg #[ii a,ii b]) 0).run Tryz.prog W = .ok (ii a) W:=by kernel_rfl
theorem fd66_1 (a b : Int) (W : World) : (Instr.field 66 (.agg #[ii a,ii b]) 1).run Tryz.prog W = .ok (ii b) W:=by kernel_rfl
def gradeL (l : List S113) (pour : Int) : S66:=match l.find? (fun g => decide (g.f0 = pour)) with
|some g => g.f1
|none => ⟨0,1000⟩
theorem gradeL_cons (g : S113) (l : List S113) (pour : Int) : gradeL (g :: l) pour = if g.f0 = pour then g.f1 else gradeL l pour:=by
 unfold gradeL
 rw [List.find?_cons]
 by_cases h : g.f0 = pour
 ·simp [h]
 ·simp [h]
theorem gradeL_mille {l : List S113} (h : ∀ g ∈ l,milleP g.f1 = true) (pour : Int) : milleP (gradeL l pour) = true:=by
 induction l with
|nil => exact (by decide : milleP ⟨0,1000⟩ = true)
|cons g r ih =>
  rw [gradeL_cons]
  split
  ·exact h g List.mem_cons_self
  ·exact ih fun y hy => h y (List.mem_cons_of_mem _ hy)
theorem askL_mille {α : Type} {a : α → Int} {m : α → S66} {known : Int → Bool} : ∀ {r done : List α},askL a m known done r = 0 → ∀ g ∈ r,known (a g) = true ∧ milleP (m g) = true
|[],_,_ => by simp
|g :: r,done,h => by
  simp only [askL] at h
  split at h
  ·rename_i h1
   split at h
   ·rename_i h2
    split at h
    ·cases h
    ·intro x hx
     rcases List.mem_cons.1 hx with rfl|hx
     ·exact ⟨h1,h2⟩
     ·exact askL_mille h x hx
   ·cases h
  ·cases h
theorem gradesE_ok {Y : Yd} {l : List S113} (h : gradesE Y l = 0) : l.length ≤ 60 ∧ ∀ g ∈ l,milleP g.f1 = true:=by
 unfold gradesE at h
 split at h
 ·rename_i h1
  exact ⟨h1,fun g hg => (askL_mille h g hg).2⟩
 ·cases h
theorem milleP_of {s : S66} (h : milleP s = true) : 0 ≤ s.f0 ∧ s.f0 ≤ 1000 ∧ 0 ≤ s.f1 ∧ s.f1 ≤ 1000:=by
 have:=of_decide_eq_true h
 omega
set_option maxRecDepth 100000 in
set_option maxHeartbeats 2000000 in
theorem cl85_calls {w : World} (A : Option Addr) (c : Nat) (l : List S113) (hr : Kd.C k113 w A l.length l) (hlc : l.length ≤ c) (gl : Nat) (hgl : w.heap[gl]? = some (.cells #[.slice A l.length c] 39 (0,0))) (pour : Int) :
  Calls Tryz.prog 85 (#[ii pour] ++ #[.pointer (some ⟨gl,0,none⟩)]) w fun e w' => e = .returned (.agg #[ii (gradeL l pour).f0,ii (gradeL l pour).f1]) ∧ Below w.heap.size w w':=by
 have hu113:=Tryz.underlying113
 have hu66:=Tryz.underlying66
 have hmx:=hr.2.1
 have HG:=am (hgl)
 have HC:=am (hr)
 have HB:=am (Below.refl w.heap.size w)
 have HG1:=am (blk_alloc HG.out (.cells #[ii 0,ii 0] 66))
 have HC1:=am (Kd.C_alloc HC.out (.cells #[ii 0,ii 0] 66))
 have HB1:=am (below_alloc HB.out (.cells #[ii 0,ii 0] 66))
 have HR:=am (blk_new w (.cells #[ii 0,ii 0] 66))
 obtain ⟨q,hq⟩ : ∃ q,q = gradeL l pour:=⟨_,rfl⟩
 rw [← hq]
 have HQ:=am hq
 clear hq hgl hr
 have a0:=bd HG1.out 0
 go_enter Tryz.func85,Tryz.ntmps85
 go_wp2
 clear a0
 go_loopw [8] (fun v8 wr => ∃ (j : Nat),j ≤ l.length ∧ v8 = ii (j : Int) ∧ Aside0 (Below (w.alloc (.cells #[ii 0,ii 0] 66)).heap.size (w.alloc (.cells #[ii 0,ii 0] 66)) wr) ∧ Aside0 (q = gradeL (l.drop j) pour)) (fun v8 _ => l.length - (intOf v8).toNat)
 case atStart => exact ⟨0,Nat.zero_le _,rfl,⟨Below.refl _ _⟩,⟨by rw [HQ.out];rfl⟩⟩
 case round =>
  obtain ⟨j,hj,rfl,HN,HA⟩:=hrel
  have HRw:=am (blk_below HR.out HN.out)
  have HBw:=am (below_then HB1.out (below_size HB1.out) HN.out)
  by_cases hlt : j < l.length
  ·
   obtain ⟨ae,e,hx0,hx1,hx2⟩:=at_T113 (Kd.C_below HC1.out HN.out) (j : Int) (by omega) (by omega)
   cases e
   rw [Int.toNat_natCast] at hx0 hx1 hx2
   rw [drop_rd113 hlt,gradeL_cons] at HA
   obtain ⟨x,hx⟩ : ∃ x,x = rd_T113 l (j : Int):=⟨_,rfl⟩
   rw [← hx] at hx0 hx1 hx2 HA
   clear hx
   have HN1:=am (below_alloc HN.out (.cells #[ii x.f0,ii x.f1.f0,ii x.f1.f1] 113))
   have HRw1:=am (blk_alloc HRw.out (.cells #[ii x.f0,ii x.f1.f0,ii x.f1.f1] 113))
   have HBw1:=am (below_alloc HBw.out (.cells #[ii x.f0,ii x.f1.f0,ii x.f1.f1] 113))
   by_cases he : x.f0 = pour
   ·
    have HE:=am (show q = x.f1 by rw [HA.out,if_pos he])
    subst he
    have u0:=bd HRw1.out 0
    have fu0:=blk_frozen HRw1.out 0
    have u1:=bd HRw1.out 1
    have fu1:=blk_frozen HRw1.out 1
    go_wp2
    rw [HE.out]
    have bz:=blk_put (cs':=#[ii x.f1.f0,ii x.f1.f1]) (blk_put (cs':=#[ii x.f1.f0,ii 0]) (HRw1.out) 0 (ii x.f1.f0) rfl) 1 (ii x.f1.f1) rfl
    have z0:=bd bz 0
    have z1:=bd bz 1
    exact bodyPost_ret (v:=.agg #[ii x.f1.f0,ii x.f1.f1]) (by simp [results,Tryz.results85,go_sem,z0,z1,hu66]) rfl ⟨rfl,((HBw1.out).setCell (p:=⟨w.heap.size,0,none⟩) (by first|(simp;done)|(simp;omega)) (ii x.f1.f0)).setCell (p:=⟨w.heap.size,1,none⟩) (by first|(simp;done)|(simp;omega)) (ii x.f1.f1)⟩
   ·
    rw [if_neg he] at HA
    go_wp2
    go_roundw
    case rel => exact ⟨j + 1,by omega,by go_num,HN1,HA⟩
    case measure => simp [intOf];omega
  ·
   have HE:=am (show q = ⟨0,1000⟩ by rw [HA.out,List.drop_eq_nil_of_le (by omega)];rfl)
   have u0:=bd HRw.out 0
   have fu0:=blk_frozen HRw.out 0
   have u1:=bd HRw.out 1
   have fu1:=blk_frozen HRw.out 1
   go_wp2
   rw [HE.out]
   have bz:=blk_put (cs':=#[ii 0,ii 1000]) (blk_put (cs':=#[ii 0,ii 0]) (HRw.out) 0 (ii 0) rfl) 1 (ii 1000) rfl
   have z0:=bd bz 0
   have z1:=bd bz 1
   exact bodyPost_ret (v:=.agg #[ii 0,ii 1000]) (by simp [results,Tryz.results85,go_sem,z0,z1,hu66]) rfl ⟨rfl,((HBw.out).setCell (p:=⟨w.heap.size,0,none⟩) (by first|(simp;done)|(simp;omega)) (ii 0)).setCell (p:=⟨w.heap.size,1,none⟩) (by first|(simp;done)|(simp;omega)) (ii 1000)⟩
set_option maxRecDepth 100000 in
set_option maxHeartbeats 2000000 in
theorem cl87_calls {w : World} (A : Option Addr) (c : Nat) (l : List S113) (hr : Kd.C k113 w A l.length l) (hlc : l.length ≤ c) (gl gf : Nat) (hgl : w.heap[gl]? = some (.cells #[.slice A l.length c] 39 (0,0))) (hgf : w.heap[gf]? = some (.cells #[.func (.func 85) #[] #[.pointer (some ⟨gl,0,none⟩)]] 176 (0,0))) (hm : ∀ g ∈ l,milleP g.f1 = true) (x : S89) (hx : fineP x.f1 = true) :
  Calls Tryz.prog 87 (#[.agg #[ii x.f0,ii x.f1.f0,ii x.f1.f1]] ++ #[.pointer (some ⟨gf,0,none⟩)]) w fun e w' => e = .returned (.agg #[ii (timesP x.f1 (gradeL l x.f0).f0 1).f0,ii (timesP x.f1 (gradeL l x.f0).f0 1).f1]) ∧ Below w.heap.size w w':=by
 have hu89:=Tryz.underlying89
 have hu43:=Tryz.underlying43
 have hfd:=fd66_0
 have HG:=am (hgl)
 have HF:=am (hgf)
 have HC:=am (hr)
 have HB:=am (Below.refl w.heap.size w)
 have HG1:=am (blk_alloc HG.out (.cells #[ii x.f0,ii x.f1.f0,ii x.f1.f1] 89))
 have HF1:=am (blk_alloc HF.out (.cells #[ii x.f0,ii x.f1.f0,ii x.f1.f1] 89))
 have HC1:=am (Kd.C_alloc HC.out (.cells #[ii x.f0,ii x.f1.f0,ii x.f1.f1] 89))
 have HB1:=am (below_alloc HB.out (.cells #[ii x.f0,ii x.f1.f0,ii x.f1.f1] 89))
 have HX:=am (blk_new w (.cells #[ii x.f0,ii x.f1.f0,ii x.f1.f1] 89))
 have HG2:=am (blk_alloc HG1.out (.cells #[ii 0,ii 0] 43))
 have HF2:=am (blk_alloc HF1.out (.cells #[ii 0,ii 0] 43))
 have HC2:=am (Kd.C_alloc HC1.out (.cells #[ii 0,ii 0] 43))
 have HB2:=am (below_alloc HB1.out (.cells #[ii 0,ii 0] 43))
 have HX1:=am (blk_alloc HX.out (.cells #[ii 0,ii 0] 43))
 have HR:=am (blk_new' (w.alloc (.cells #[ii x.f0,ii x.f1.f0,ii x.f1.f1] 89)) (.cells #[ii 0,ii 0] 43) (w.heap.size + 1) (by simp))
 have HG3:=am (blk_drew HG2.out)
 have HF3:=am (blk_drew HF2.out)
 have HC3:=am (Kd.C_drew HC2.out)
 have HB3:=am (below_drew HB2.out)
 have HX2:=am (blk_drew HX1.out)
 have HR1:=am (blk_drew HR.out)
 obtain ⟨hm0,hm1,hm2,hm3⟩:=milleP_of (gradeL_mille hm x.f0)
 obtain ⟨hx0,hx1,hx2⟩:=fineP_of hx
 have HT:=am (times_some (n:=(gradeL l x.f0).f0) (m:=1) hx0 hx1 (by omega) (by omega) (by omega) (by omega) (by omega))
 obtain ⟨q,hq⟩ : ∃ q,q = timesP x.f1 (gradeL l x.f0).f0 1:=⟨_,rfl⟩
 rw [← hq] at HT ⊢
 obtain ⟨y,hy⟩ : ∃ y,y = gradeL l x.f0:=⟨_,rfl⟩
 rw [← hy] at HT
 have HYE:=am hy
 clear hq hy hm hm0 hm1 hm2 hm3 hx0 hx1 hx2 hx hgl hgf hr
 go_enter Tryz.func87,Tryz.ntmps87
 go_wp2
 refine start_ (n:=9) (S:=fun w' => w'.cell? ⟨gf,0,none⟩ = some (.func (.func 85) #[] #[.pointer (some ⟨gl,0,none⟩)]) ∧ w'.cell? ⟨w.heap.size,0,none⟩ = some (ii x.f0) ∧ w'.cell? ⟨w.heap.size,1,none⟩ = some (ii x.f1.f0) ∧ w'.cell? ⟨w.heap.size,2,none⟩ = some (ii x.f1.f1)) (ds:=[8]) (ab 9 0) kr rfl kr ⟨(blk_cell HF3.out 0).trans rfl,(blk_cell HX2.out 0).trans rfl,(blk_cell HX2.out 1).trans rfl,(blk_cell HX2.out 2).trans rfl⟩ (fun hHeld => ?_);refine with_tabW R87_1.tab R87_1.bits (fun HT_ HW_ => ?_)
 generalize (((w.alloc (.cells #[ii x.f0,ii x.f1.f0,ii x.f1.f1] 89)).alloc (.cells #[ii 0,ii 0] 43))).drew = wd at HG3 HF3 HC3 HB3 HX2 HR1 hHeld ⊢
 refine qA 0 (some 4) ?_;refine qT 1 (some 5) ?_;refine qT 2 (some 6) ?_;refine qA 3 (some 7) ?_;refine qT 4 (some 8) ?_
 refine qE 5 (some 9) fun K hK => ?_
 refine goesv_ (f:=85) Tryz.func85 kr rfl #[ii x.f0] (by rfl) rfl rfl rfl vn ?_
 refine (cl85_calls A c l HC3.out hlc gl HG3.out x.f0).mono ?_
 rintro e w1 ⟨rfl,hb⟩
 rw [← HYE.out]
 have HF4:=am (blk_below HF3.out hb)
 have HB4:=am (below_then HB3.out (below_size HB3.out) hb)
 have HX3:=am (blk_below HX2.out hb)
 have HR2:=am (blk_below HR1.out hb)
 clear hb
 refine ⟨_,rfl,?_⟩
 refine hK.out _ _ ⟨(blk_cell HF4.out 0).trans rfl,(blk_cell HX3.out 0).trans rfl,(blk_cell HX3.out 1).trans rfl,(blk_cell HX3.out 2).trans rfl⟩ (fun hHeld => ?_)
 clear hK K
 refine qN (some 9) ?_
 refine qA 6 (some 10) ?_
 refine qE 7 (some 11) fun K hK => ?_
 refine gC Tryz.func88 #[.agg #[ii x.f1.f0,ii x.f1.f1],ii y.f0,ii 1] ?_
 refine (pit_times.calls FU _ _ _ _ _ _ _ HT.out).mono ?_
 rintro e w2 ⟨rfl,hb⟩
 have HF5:=am (blk_below HF4.out hb)
 have HB5:=am (below_then HB4.out (below_size HB4.out) hb)
 have HX4:=am (blk_below HX3.out hb)
 have HR3:=am (blk_below HR2.out hb)
 clear hb
 refine ⟨_,rfl,?_⟩
 refine hK.out _ _ ⟨(blk_cell HF5.out 0).trans rfl,(blk_cell HX4.out 0).trans rfl,(blk_cell HX4.out 1).trans rfl,(blk_cell HX4.out 2).trans rfl⟩ (fun hHeld => ?_)
 clear hK K
 refine qN (some 11) ?_
 refine qL 8 (none) fun K hK => ?_
 have u0:=bd HR3.out 0
 have fu0:=blk_frozen HR3.out 0
 have u1:=bd HR3.out 1
 have fu1:=blk_frozen HR3.out 1
 refine skip_ (w1:=?_) (by rfl) rfl ?_ ?_
 rotate_left
 ·go_simp
  rfl
 refine hK.out _ _ ?_
 clear hK K
 refine done_ (done_of HT_.out kr) ?_
 go_wp2
 have bz:=blk_put (cs':=#[ii q.f0,ii q.f1]) (blk_put (cs':=#[ii q.f0,ii 0]) (HR3.out) 0 (ii q.f0) rfl) 1 (ii q.f1) rfl
 have z0:=bd bz 0
 have z1:=bd bz 1
 exact bodyPost_ret (v:=.agg #[ii q.f0,ii q.f1]) (by simp [results,Tryz.results87,go_sem,z0,z1,hu43]) rfl ⟨rfl,((HB5.out).setCell (p:=⟨w.heap.size + 1,0,none⟩) (by first|(simp;done)|(simp;omega)) (ii q.f0)).setCell (p:=⟨w.heap.size + 1,1,none⟩) (by first|(simp;done)|(simp;omega)) (ii q.f1)⟩
set_option maxRecDepth 100000 in
set_option maxHeartbeats 2000000 in
theorem cl90_calls {w : World} (A : Option Addr) (c : Nat) (l : List S113) (hr : Kd.C k113 w A l.length l) (hlc : l.length ≤ c) (gl gf : Nat) (hgl : w.heap[gl]? = some (.cells #[.slice A l.length c] 39 (0,0))) (hgf : w.heap[gf]? = some (.cells #[.func (.func 85) #[] #[.pointer (some ⟨gl,0,none⟩)]] 176 (0,0))) (hm : ∀ g ∈ l,milleP g.f1 = true) (x : S89) (hx : fineP x.f1 = true) :
  Calls Tryz.prog 90 (#[.agg #[ii x.f0,ii x.f1.f0,ii x.f1.f1]] ++ #[.pointer (some ⟨gf,0,none⟩)]) w fun e w' => e = .returned (.agg #[ii (timesP x.f1 (gradeL l x.f0).f1 1).f0,ii (timesP x.f1 (gradeL l x.f0).f1 1).f1]) ∧ Below w.heap.size w w':=by
 have hu89:=Tryz.underlying89
 have hu43:=Tryz.underlying43
 have hfd:=fd66_1
 have HG:=am (hgl)
 have HF:=am (hgf)
 have HC:=am (hr)
 have HB:=am (Below.refl w.heap.size w)
 have HG1:=am (blk_alloc HG.out (.cells #[ii x.f0,ii x.f1.f0,ii x.f1.f1] 89))
 have HF1:=am (blk_alloc HF.out (.cells #[ii x.f0,ii x.f1.f0,ii x.f1.f1] 89))
 have HC1:=am (Kd.C_alloc HC.out (.cells #[ii x.f0,ii x.f1.f0,ii x.f1.f1] 89))
 have HB1:=am (below_alloc HB.out (.cells #[ii x.f0,ii x.f1.f0,ii x.f1.f1] 89))
 have HX:=am (blk_new w (.cells #[ii x.f0,ii x.f1.f0,ii x.f1.f1] 89))
 have HG2:=am (blk_alloc HG1.out (.cells #[ii 0,ii 0] 43))
 have HF2:=am (blk_alloc HF1.out (.cells #[ii 0,ii 0] 43))
 have HC2:=am (Kd.C_alloc HC1.out (.cells #[ii 0,ii 0] 43))
 have HB2:=am (below_alloc HB1.out (.cells #[ii 0,ii 0] 43))
 have HX1:=am (blk_alloc HX.out (.cells #[ii 0,ii 0] 43))
 have HR:=am (blk_new' (w.alloc (.cells #[ii x.f0,ii x.f1.f0,ii x.f1.f1] 89)) (.cells #[ii 0,ii 0] 43) (w.heap.size + 1) (by simp))
 have HG3:=am (blk_drew HG2.out)
 have HF3:=am (blk_drew HF2.out)
 have HC3:=am (Kd.C_drew HC2.out)
 have HB3:=am (below_drew HB2.out)
 have HX2:=am (blk_drew HX1.out)
 have HR1:=am (blk_drew HR.out)
 obtain ⟨hm0,hm1,hm2,hm3⟩:=milleP_of (gradeL_mille hm x.f0)
 obtain ⟨hx0,hx1,hx2⟩:=fineP_of hx
 have HT:=am (times_some (n:=(gradeL l x.f0).f1) (m:=1) hx0 hx1 (by omega) (by omega) (by omega) (by omega) (by omega))
 obtain ⟨q,hq⟩ : ∃ q,q = timesP x.f1 (gradeL l x.f0).f1 1:=⟨_,rfl⟩
 rw [← hq] at HT ⊢
 obtain ⟨y,hy⟩ : ∃ y,y = gradeL l x.f0:=⟨_,rfl⟩
 rw [← hy] at HT
 have HYE:=am hy
 clear hq hy hm hm0 hm1 hm2 hm3 hx0 hx1 hx2 hx hgl hgf hr
 go_enter Tryz.func90,Tryz.ntmps90
 go_wp2
 refine start_ (n:=9) (S:=fun w' => w'.cell? ⟨gf,0,none⟩ = some (.func (.func 85) #[] #[.pointer (some ⟨gl,0,none⟩)]) ∧ w'.cell? ⟨w.heap.size,0,none⟩ = some (ii x.f0) ∧ w'.cell? ⟨w.heap.size,1,none⟩ = some (ii x.f1.f0) ∧ w'.cell? ⟨w.heap.size,2,none⟩ = some (ii x.f1.f1)) (ds:=[8]) (ab 9 0) kr rfl kr ⟨(blk_cell HF3.out 0).trans rfl,(blk_cell HX2.out 0).trans rfl,(blk_cell HX2.out 1).trans rfl,(blk_cell HX2.out 2).trans rfl⟩ (fun hHeld => ?_);refine with_tabW R90_1.tab R90_1.bits (fun HT_ HW_ => ?_)
 generalize (((w.alloc (.cells #[ii x.f0,ii x.f1.f0,ii x.f1.f1] 89)).alloc (.cells #[ii 0,ii 0] 43))).drew = wd at HG3 HF3 HC3 HB3 HX2 HR1 hHeld ⊢
 refine qA 0 (some 4) ?_;refine qT 1 (some 5) ?_;refine qT 2 (some 6) ?_;refine qA 3 (some 7) ?_;refine qT 4 (some 8) ?_
 refine qE 5 (some 9) fun K hK => ?_
 refine goesv_ (f:=85) Tryz.func85 kr rfl #[ii x.f0] (by rfl) rfl rfl rfl vn ?_
 refine (cl85_calls A c l HC3.out hlc gl HG3.out x.f0).mono ?_
 rintro e w1 ⟨rfl,hb⟩
 rw [← HYE.out]
 have HF4:=am (blk_below HF3.out hb)
 have HB4:=am (below_then HB3.out (below_size HB3.out) hb)
 have HX3:=am (blk_below HX2.out hb)
 have HR2:=am (blk_below HR1.out hb)
 clear hb
 refine ⟨_,rfl,?_⟩
 refine hK.out _ _ ⟨(blk_cell HF4.out 0).trans rfl,(blk_cell HX3.out 0).trans rfl,(blk_cell HX3.out 1).trans rfl,(blk_cell HX3.out 2).trans rfl⟩ (fun hHeld => ?_)
 clear hK K
 refine qN (some 9) ?_
 refine qA 6 (some 10) ?_
 refine qE 7 (some 11) fun K hK => ?_
 refine gC Tryz.func88 #[.agg #[ii x.f1.f0,ii x.f1.f1],ii y.f1,ii 1] ?_
 refine (pit_times.calls FU _ _ _ _ _ _ _ HT.out).mono ?_
 rintro e w2 ⟨rfl,hb⟩
 have HF5:=am (blk_below HF4.out hb)
 have HB5:=am (below_then HB4.out (below_size HB4.out) hb)
 have HX4:=am (blk_below HX3.out hb)
 have HR3:=am (blk_below HR2.out hb)
 clear hb
 refine ⟨_,rfl,?_⟩
 refine hK.out _ _ ⟨(blk_cell HF5.out 0).trans rfl,(blk_cell HX4.out 0).trans rfl,(blk_cell HX4.out 1).trans rfl,(blk_cell HX4.out 2).trans rfl⟩ (fun hHeld => ?_)
 clear hK K
 refine qN (some 11) ?_
 refine qL 8 (none) fun K hK => ?_
 have u0:=bd HR3.out 0
 have fu0:=blk_frozen HR3.out 0
 have u1:=bd HR3.out 1
 have fu1:=blk_frozen HR3.out 1
 refine skip_ (w1:=?_) (by rfl) rfl ?_ ?_
 rotate_left
 ·go_simp
  rfl
 refine hK.out _ _ ?_
 clear hK K
 refine done_ (done_of HT_.out kr) ?_
 go_wp2
 have bz:=blk_put (cs':=#[ii q.f0,ii q.f1]) (blk_put (cs':=#[ii q.f0,ii 0]) (HR3.out) 0 (ii q.f0) rfl) 1 (ii q.f1) rfl
 have z0:=bd bz 0
 have z1:=bd bz 1
 exact bodyPost_ret (v:=.agg #[ii q.f0,ii q.f1]) (by simp [results,Tryz.results90,go_sem,z0,z1,hu43]) rfl ⟨rfl,((HB5.out).setCell (p:=⟨w.heap.size + 1,0,none⟩) (by first|(simp;done)|(simp;omega)) (ii q.f0)).setCell (p:=⟨w.heap.size + 1,1,none⟩) (by first|(simp;done)|(simp;omega)) (ii q.f1)⟩
def probesE (Y : Yd) (l : List S137) : Int:=if l.length ≤ 20 then askL (·.f0) (·.f1) (fun i => Y.barrows.any (isId i)) [] l else 2
theorem cl230_calls (gx : Nat) (x y : S137) (w : World) (BK : w.heap[gx]? = some (.cells #[ii x.f0,ii x.f1.f0,ii x.f1.f1] 137 (0,0))) :
  Calls Tryz.prog 230 (#[.agg #[ii y.f0,ii y.f1.f0,ii y.f1.f1]] ++ #[.pointer (some ⟨gx,0,none⟩)]) w fun e w' => e = .returned (.bool (decide (y.f0 = x.f0))) ∧ Below w.heap.size w w':=by
 have hu:=Tryz.underlying137
 have hu66:=Tryz.underlying66
 have hc : ∀ o,(w.alloc o).cell? ⟨gx,0,none⟩ = some (ii x.f0):=fun o => (blk_cell (blk_alloc BK o) 0).trans rfl
 clear BK
 go_enter Tryz.func230,Tryz.ntmps230
 go_wp2
 go_ret
 exact ⟨by simp [beqd],below_alloc (Below.refl _ _) _⟩
theorem drop_rd137 {l : List S137} {j : Nat} (h : j < l.length) : l.drop j = rd_T137 l (j : Int) :: l.drop (j + 1):=by
 rw [List.drop_eq_getElem_cons h];unfold rd_T137;rw [Int.toNat_natCast,List.getD_eq_getElem?_getD,List.getElem?_eq_getElem h];rfl
theorem take_rd137 {l : List S137} {j : Nat} (h : j < l.length) : l.take (j + 1) = l.take j ++ [rd_T137 l (j : Int)]:=by
 rw [List.take_succ_eq_append_getElem h];unfold rd_T137;rw [Int.toNat_natCast,List.getD_eq_getElem?_getD,List.getElem?_eq_getElem h];rfl
set_option maxRecDepth 100000 in
set_option maxHeartbeats 2000000 in
theorem probes_calls {W : World} {base n : Nat} {L : Loc} {Y : Yd} (hY : YardAt W base L Y) (hw : Wf n Y) (hn : n ≤ 60) (A : Option Addr) (c : Nat) (l : List S137) (hr : Kd.C k137 W A l.length l) (hlc : l.length ≤ c) :
  Calls Tryz.prog 184 #[.pointer (some ⟨L.g,0,none⟩),.slice A l.length c] W fun e W' => e = .returned (ii (probesE Y l)) ∧ Below W.heap.size W W':=by
 have hu:=Tryz.underlying137
 have hu66:=Tryz.underlying66
 have hu167:=Tryz.underlying167
 have hmf : ∀ (fn : Fn) (first cap : Array Value) (w : World),(Instr.makeFunc fn first cap).run Tryz.prog w = .ok (.func fn first cap) w:=fun _ _ _ _ => rfl
 have hmx:=hr.2.1
 have HW:=am hw
 have HC:=am hr
 have HY:=am hY
 have ekc : ∀ args w,(callFunc 230 args).run Tryz.prog w = .ok (.enter 230 args) w:=enters_of Tryz.func230 kr rfl
 obtain ⟨q,hq⟩ : ∃ q,q = probesE Y l:=⟨_,rfl⟩
 rw [← hq]
 have HQ:=am hq
 clear hq hY hw hr
 by_cases hlim : 20 < l.length
 ·
  have HE:=am (show q = 2 by rw [HQ.out];exact if_neg (by omega))
  go_enter Tryz.func184,Tryz.ntmps184
  go_wp2
  go_ret
  exact ⟨by rw [HE.out];rfl,Below.refl _ _⟩
 ·
  have HQ1:=am (show q = askL (·.f0) (·.f1) (fun i => Y.barrows.any (isId i)) [] l by rw [HQ.out];exact if_pos (by omega))
  clear HQ
  go_enter Tryz.func184,Tryz.ntmps184
  go_wp2
  go_loopw [14] (fun v14 wr => ∃ (j : Nat),j ≤ l.length ∧ v14 = ii (j : Int) ∧ Aside0 (Below W.heap.size W wr) ∧ Aside0 (q = askL (·.f0) (·.f1) (fun i => Y.barrows.any (isId i)) (l.take j) (l.drop j))) (fun v14 _ => l.length - (intOf v14).toNat)
  case atStart => exact ⟨0,Nat.zero_le _,rfl,⟨Below.refl _ _⟩,⟨by rw [HQ1.out];rfl⟩⟩
  case round =>
   obtain ⟨j,hj,rfl,HB,HA⟩:=hrel
   by_cases hlt : j < l.length
   ·
    obtain ⟨ae,e,hx0,hx1,hx2⟩:=at_T137 (Kd.C_below HC.out HB.out) (j : Int) (by omega) (by omega)
    cases e
    rw [Int.toNat_natCast] at hx0 hx1 hx2
    rw [drop_rd137 hlt] at HA
    have HT:=am (take_rd137 hlt)
    have HCT:=am (Kd.C_take HC.out (m:=j) (by omega))
    have hlj : (l.take j).length = j:=by rw [List.length_take];omega
    obtain ⟨x,hx⟩ : ∃ x,x = rd_T137 l (j : Int):=⟨_,rfl⟩
    rw [← hx] at hx0 hx1 hx2 HA HT
    obtain ⟨dn,hdn⟩ : ∃ dn,dn = l.take j:=⟨_,rfl⟩
    rw [← hdn] at HA HT HCT hlj
    have HLJ:=am hlj
    clear hx hdn hlj
    have HB1:=am (below_alloc HB.out (.cells #[ii x.f0,ii x.f1.f0,ii x.f1.f1] 137))
    have HX:=am (blk_new wr (.cells #[ii x.f0,ii x.f1.f0,ii x.f1.f1] 137))
    obtain ⟨k1,hk1⟩ : ∃ k1,k1 = (fun i => Y.barrows.any (isId i)) x.f0:=⟨_,rfl⟩
    have HK1:=am hk1
    clear hk1
    go_wp2_with fail
    refine (find_calls (HY.out.move (HB1.out)) HW.out (by omega) x.f0).mono ?_
    rintro e w5 ⟨hb,h⟩
    have HB2:=am (below_then HB1.out (below_size HB1.out) hb)
    have HX1:=am (blk_below HX.out hb)
    clear hb hx0 hx1 hx2
    cases k1 with
   |false =>
     rcases h with ⟨_,rfl⟩|⟨b,A3,c3,hfd,_⟩
     ·
      have HB3:=am (below_alloc HB2.out (.cells #[ii 0,ii 0,ii 0,.slice none 0 0] 167))
      have HX2:=am (blk_alloc HX1.out (.cells #[ii 0,ii 0,ii 0,.slice none 0 0] 167))
      go_wp2
      go_ret
      refine ⟨?_,HB3.out⟩
      rw [HA.out,askL_5 (known:=(fun i => Y.barrows.any (isId i))) HK1.out.symm]
      rfl
     ·exact absurd (HK1.out.trans (List.any_eq_true.2 ⟨b,List.mem_of_find?_eq_some hfd,List.find?_some hfd⟩)) (by simp)
   |true =>
     rcases h with ⟨hno,_⟩|⟨b,A3,c3,hfd,rfl,hl3,hF3⟩
     ·exact absurd (HK1.out.trans hno) (by simp)
     clear hfd hl3 hF3
     have HB3:=am (below_alloc HB2.out (.cells #[ii b.f0,ii b.f1,ii b.f2,.slice A3 b.f3.length c3] 167))
     have HX2:=am (blk_alloc HX1.out (.cells #[ii b.f0,ii b.f1,ii b.f2,.slice A3 b.f3.length c3] 167))
     have g0:=bd HX2.out 0
     have g1:=bd HX2.out 1
     have g2:=bd HX2.out 2
     obtain ⟨k2,hk2⟩ : ∃ k2,k2 = milleP x.f1:=⟨_,rfl⟩
     have HM:=am (show pit_mille.f x.f1.f0 x.f1.f1 = some k2 by rw [hk2];exact mille_some x.f1)
     have HK2:=am hk2
     clear hk2
     go_wp2_with fail
     refine (pit_mille.calls _ _ _ _ HM.out).mono ?_
     rintro e w6 ⟨rfl,hb⟩
     have HB4:=am (below_then HB3.out (below_size HB3.out) hb)
     have HX3:=am (blk_below HX2.out hb)
     clear hb g0 g1 g2
     cases k2 with
    |false =>
      go_wp2
      go_ret
      refine ⟨?_,HB4.out⟩
      rw [HA.out,askL_1 (known:=(fun i => Y.barrows.any (isId i))) HK1.out.symm HK2.out.symm]
      rfl
    |true =>
      have HH:=am (has229_calls (some ae) c dn (fun y => decide (y.f0 = x.f0)) 230 _ (fun w => w.heap[wr.heap.size]? = some (.cells #[ii x.f0,ii x.f1.f0,ii x.f1.f1] 137 (0,0))) w6 (Kd.C_below HCT.out HB4.out) (by rw [HLJ.out];omega) ekc HX3.out (fun w w' h hb => blk_below h hb) (fun y w _ h => cl230_calls _ x y w h))
      rw [HLJ.out] at HH
      obtain ⟨k3,hk3⟩ : ∃ k3,k3 = dn.any (fun y => decide (y.f0 = x.f0)):=⟨_,rfl⟩
      rw [← hk3] at HH
      have HK3:=am hk3
      clear hk3
      go_wp2_with fail
      refine HH.out.mono ?_
      rintro e w7 ⟨rfl,hb⟩
      have HB5:=am (below_then HB4.out (below_size HB4.out) hb)
      clear hb
      cases k3 with
     |true =>
       go_wp2
       go_ret
       refine ⟨?_,HB5.out⟩
       rw [HA.out,askL_6 (known:=(fun i => Y.barrows.any (isId i))) HK1.out.symm HK2.out.symm HK3.out.symm]
       rfl
     |false =>
       go_wp2
       go_roundw
       case rel => exact ⟨j + 1,by omega,by go_num,HB5,⟨by rw [HA.out,HT.out,askL_go (known:=(fun i => Y.barrows.any (isId i))) HK1.out.symm HK2.out.symm HK3.out.symm]⟩⟩
       case measure => simp [intOf];omega
   ·
    have HE:=am (show q = 0 by rw [HA.out,List.drop_eq_nil_of_le (by omega)];rfl)
    go_wp2
    go_ret
    exact ⟨by rw [HE.out];rfl,HB.out⟩
end Go.Proofs.YtjjfpmapjjemcaaGreat.B
end
