import Derived.Test.YtjjfpmapjjemcaaGreatQ36
import Derived.Test.YtjjfpmapjjemcaaGreatQ38
import Derived.Test.YtjjfpmapjjemcaaGreatQ7
set_option linter.unusedVariables false
set_option linter.unusedSimpArgs false
section
namespace Go.Proofs.YtjjfpmapjjemcaaGreat.B
open Go.RowKit Go.Proofs.YtjjfpmapjjemcaaGreatW.PrintWords Go.Proofs.YtjjfpmapjjemcaaGreatW.PrintLast Go.Proofs.YtjjfpmapjjemcaaGreatW.PrintMore
attribute [local go_sem] max2_int min2_int max_two min_two max_three min_three max_four min_four
theorem ratioP_le {n d : Int} (hn : 0 ≤ n) (hd : 1 ≤ d) : (ratioP n d).f0 ≤ n ∧ (ratioP n d).f1 ≤ d:=⟨Int.ediv_le_self _ hn,Int.ediv_le_self _ (by omega)⟩
theorem ratioP_mono {n d : Int} (hn : 0 ≤ n) (hd : 1 ≤ d) (h : n ≤ d) : (ratioP n d).f0 ≤ (ratioP n d).f1:=Int.ediv_le_ediv (by have:=gcd_ne (a:=n) hd;omega) h
theorem partL_le {pours : List Int} {n : Int} {l : List S89} (h : ∀ x ∈ l,x.f1.f0 ≤ n * x.f1.f1) (hn : 0 ≤ n) (pour : Int) : (partL l pour).f0 ≤ n * (partL l pour).f1:=by
 induction l with
|nil => show (0 : Int) ≤ n * 1;omega
|cons x r ih =>
  rw [partL_cons]
  split
  ·exact h x List.mem_cons_self
  ·exact ih fun y hy => h y (List.mem_cons_of_mem _ hy)
theorem shareP_bnd {n : Nat} {pours : List Int} {b : S167} (h : BarrowOk n pours b) (pour : Int) : Rok (shareP b pour) ∧ (shareP b pour).f0 ≤ (shareP b pour).f1 ∧ (shareP b pour).f1 ≤ 16384000:=by
 obtain ⟨h1,h2,h3⟩:=partP_ok h pour
 have h4:=h.lo
 have h5:=h.hi
 have h6 : (partP b pour).f0 ≤ b.f2 * (partP b pour).f1:=partL_le (pours:=pours) (n:=b.f2) (fun x hx => h.par.part_le hx) (by omega) pour
 have h7:=mul_pos_ h1.2.1 h4
 have h8:=mul_bound (show 0 ≤ (partP b pour).f1 by have:=h1.2.1;omega) (show 0 ≤ b.f2 by omega) h3 h5
 have h9 : 0 ≤ (partP b pour).f0 * 1:=by have:=h1.1;omega
 have h10:=ratioP_le h9 h7
 have h11:=ratioP_mono h9 h7 (by rw [Int.mul_comm (partP b pour).f1];omega)
 exact ⟨timesP_ok h1 (by omega) h4,h11,by show (ratioP _ _).f1 ≤ _;omega⟩
def EndOk (r : S43) : Prop:=Rok r ∧ r.f0 ≤ 16384000000 ∧ r.f1 ≤ 16384000
def endP (m : Int) (s : S43) : S43:=ratioP (m * s.f1) s.f0
theorem endP_ok {m : Int} {s : S43} (hm : 0 ≤ m) (hm2 : m ≤ 1000) (h : Rok s) (h1 : s.f0 ≤ s.f1) (h2 : s.f1 ≤ 16384000) (h3 : 1 ≤ s.f0) :
  EndOk (endP m s) ∧ 0 ≤ m * s.f1 ∧ m * s.f1 ≤ 16384000000 ∧ pit_ratio.f FU (m * s.f1) s.f0 = some ((endP m s).f0,(endP m s).f1):=by
 have b1:=mul_bound hm (show 0 ≤ s.f1 by have:=h.2.1;omega) hm2 h2
 have b2:=ratioP_le b1.1 h3
 refine ⟨⟨ratioP_ok b1.1 h3,by show (ratioP _ _).f0 ≤ _;omega,by show (ratioP _ _).f1 ≤ _;omega⟩,b1.1,by omega,ratio_some b1.1 (by omega) h3 (by omega)⟩
theorem cmp_end {a b : S43} (ha : EndOk a) (hb : EndOk b) : pit_compare.f a.f0 a.f1 b.f0 b.f1 = some (cmpP a b):=by
 have b1:=mul_bound ha.1.1 (show 0 ≤ b.f1 by have:=hb.1.2.1;omega) ha.2.1 hb.2.2
 have b2:=mul_bound hb.1.1 (show 0 ≤ a.f1 by have:=ha.1.2.1;omega) hb.2.1 ha.2.2
 exact compare_some ha.1 hb.1 (by omega) (by omega)
def barrowD (Y : Yd) (id : Int) : S167:=(Y.barrows.find? (isId id)).getD z167
def maxR (a lo : S43) : S43:=if cmpP a lo > 0 then a else lo
def minR (a hi : S43) : S43:=if cmpP a hi < 0 then a else hi
def blameL (Y : Yd) (pour : Int) : S43 → S43 → Int → List S137 → S139 × Int × Bool
|lo,hi,_,[] => (⟨pour,lo,hi⟩,0,true)
|lo,hi,i,x :: r =>
  if (shareP (barrowD Y x.f0) pour).f0 = 0 then (if x.f1.f0 > 0 then (⟨0,⟨0,0⟩,⟨0,0⟩⟩,i,false) else blameL Y pour lo hi (i + 1) r)
  else if cmpP (maxR (endP x.f1.f0 (shareP (barrowD Y x.f0) pour)) lo) (minR (endP x.f1.f1 (shareP (barrowD Y x.f0) pour)) hi) > 0 then (⟨0,⟨0,0⟩,⟨0,0⟩⟩,i,false)
  else blameL Y pour (maxR (endP x.f1.f0 (shareP (barrowD Y x.f0) pour)) lo) (minR (endP x.f1.f1 (shareP (barrowD Y x.f0) pour)) hi) (i + 1) r
def blamedP (Y : Yd) (l : List S137) (pour : Int) : S139 × Int × Bool:=blameL Y pour (wholeP 0) (wholeP 1000) 0 l
def ProbedPost (W : World) (lo : Nat) (r : Except (Int × Int) Yd) (l : List S137) (e : Ending) (W' : World) : Prop :=
 Below W.heap.size W W' ∧ (match r with
 |.error x => e = .returned (.tuple #[.pointer none,ii x.1])
 |.ok Y => if probesE Y l = 0 then ∃ (L : Loc) (base : Nat),W.heap.size ≤ base ∧ (∀ k,lo ≤ k → k < W.heap.size → L.bad k) ∧ e = .returned (.tuple #[.pointer (some ⟨L.g,0,none⟩),ii 0]) ∧ YardAt W' base L Y
   else e = .returned (.tuple #[.pointer none,ii (probesE Y l)]))
set_option maxRecDepth 100000 in
set_option maxHeartbeats 2000000 in
theorem probed_calls (A A2 : Option Addr) (c c2 : Nat) (rooms : List Int) (stirs : List S84) (W : World) (lo : Nat) (hlo : lo ≤ W.heap.size) (hC : Kd.F (Kd.int .i64) W (fun k => k < lo) A rooms.length rooms) (hc : rooms.length ≤ c) (hS : Kd.C k84 W A2 stirs.length stirs) (hc2 : stirs.length ≤ c2) (B : Option Addr) (cb : Nat) (l : List S137) (hL : Kd.C k137 W B l.length l) (hlb : l.length ≤ cb) :
  Calls Tryz.prog 131 #[.agg #[.slice A rooms.length c,.slice A2 stirs.length c2],.slice B l.length cb] W fun e W' => ProbedPost W lo (playedP rooms stirs stirs.length) l e W':=by
 have hu:=Tryz.underlying32
 have HC:=am (hC)
 have HS:=am (hS)
 have HL:=am (hL)
 have HB:=am (Below.refl W.heap.size W)
 have HC1:=am (Kd.F_alloc HC.out (.cells #[.slice A rooms.length c,.slice A2 stirs.length c2] 32))
 have HS1:=am (Kd.C_alloc HS.out (.cells #[.slice A rooms.length c,.slice A2 stirs.length c2] 32))
 have HL1:=am (Kd.C_alloc HL.out (.cells #[.slice A rooms.length c,.slice A2 stirs.length c2] 32))
 have HB1:=am (below_alloc HB.out (.cells #[.slice A rooms.length c,.slice A2 stirs.length c2] 32))
 clear hC hS hL
 obtain ⟨r,hr⟩ : ∃ r,r = playedP rooms stirs stirs.length:=⟨_,rfl⟩
 rw [← hr]
 have HQP:=am hr.symm
 clear hr
 go_enter Tryz.func131,Tryz.ntmps131
 go_wp2_with fail
 refine (all_calls A A2 c c2 rooms stirs _ lo (Nat.le_trans hlo (by simp)) HC1.out hc HS1.out hc2).mono ?_
 rintro e w1 ⟨hb,h⟩
 rw [HQP.out] at h
 have HL2:=am (Kd.C_below HL1.out hb)
 have HB2:=am (below_then HB1.out (below_size HB1.out) hb)
 clear hb
 cases r with
|error x =>
  subst h
  have hx : ¬ x.1 = 0:=playedP_code HQP.out
  go_wp2
  go_ret2
  exact ⟨HB2.out,rfl⟩
|ok Y =>
  obtain ⟨L,base,hbase,hbad,rfl,hY⟩:=h
  have HBA:=am hbad
  have HBS:=am hbase
  have HWF:=am (played_wf HQP.out)
  have HSL:=am (played_ok HQP.out).2.1
  have HY:=am (hY)
  clear hbad hbase hY
  go_wp2_with fail
  refine (probes_calls HY.out HWF.out HSL.out B cb l HL2.out hlb).mono ?_
  rintro e w2 ⟨rfl,hb⟩
  have HB3:=am (below_then HB2.out (below_size HB2.out) hb)
  have HY1:=am (HY.out.move hb)
  clear hb
  obtain ⟨ge,hge⟩ : ∃ ge,ge = probesE Y l:=⟨_,rfl⟩
  rw [← hge]
  have HGE:=am hge
  clear hge
  by_cases hg0 : ge = 0
  ·
   subst hg0
   go_wp2
   go_ret2
   refine ⟨HB3.out,?_⟩
   dsimp only
   rw [if_pos HGE.out.symm]
   exact ⟨L,base,Nat.le_trans (by simp) HBS.out,fun k h1 h2 => HBA.out k h1 (Nat.lt_of_lt_of_le h2 (by simp)),rfl,HY1.out⟩
  ·
   go_wp2
   go_ret2
   refine ⟨HB3.out,?_⟩
   dsimp only
   rw [← HGE.out,if_neg hg0]
   rfl
end Go.Proofs.YtjjfpmapjjemcaaGreat.B
end
