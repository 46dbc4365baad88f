import Derived.Test.YtjjfpmapjjemcaaGreatQ7
set_option linter.unusedVariables false
set_option linter.unusedSimpArgs false
section
namespace Go.Proofs.YtjjfpmapjjemcaaGreat.B
open Go.RowKit Go.Proofs.YtjjfpmapjjemcaaGreatW.PrintWords Go.Proofs.YtjjfpmapjjemcaaGreatW.PrintLast Go.Proofs.YtjjfpmapjjemcaaGreatW.PrintMore
attribute [local go_sem] max2_int min2_int max_two min_two max_three min_three max_four min_four
structure Yd where
 rooms : List Int
 pits : List (List S212)
 pours : List Int
 days : List Int
 barrows : List S167
 lost : List S212
def heldP : List S212 → Int
|[] => 0
|p :: l => p.f0 + heldP l
def isNew (Y : Yd) (id : Int) : Bool:=!decide (id ∈ Y.pours) && !(Y.barrows.any fun b => decide (b.f0 = id))
def partsP : List S212 → List S89
|[] => []
|p :: l => p.f1 ++ partsP l
abbrev ByPour:=Int → Option S43
def putBy (M : ByPour) (i : Int) (r : S43) : ByPour:=fun k => if k = i then some r else M k
def sumAll : ByPour → List S89 → Option ByPour
|M,[] => some M
|M,x :: r => if fineP (addP ((M x.f0).getD (wholeP 0)) x.f1) = true then sumAll (putBy M x.f0 (addP ((M x.f0).getD (wholeP 0)) x.f1)) r else none
def outOf (M : ByPour) : List Int → List S89
|[] => []
|id :: r => match M id with
 |some n => ⟨id,n⟩ :: outOf M r
 |none => outOf M r
def summedP (pours : List Int) (l : List S212) : Option (List S89):=(sumAll (fun _ => none) (partsP l)).map fun M => outOf M pours
def divParts : List S89 → Int → Int → Option (List S89)
|[],_,_ => some []
|x :: r,n,m => if fineP (timesP x.f1 n m) = true then (divParts r n m).map (⟨x.f0,timesP x.f1 n m⟩ :: ·) else none
def dividedP (p : S212) (n : Int) : Option S212:=(divParts p.f1 n p.f0).map fun l => ⟨n,l⟩
def aheadP : List S212 → Int → Option (List S212 × List S212)
|[],_ => some ([],[])
|p :: l,n => if 0 < n then (if p.f0 ≤ n then (aheadP l (n - p.f0)).map (fun x => (p :: x.1,x.2)) else (dividedP p n).bind fun a => (dividedP p (p.f0 - n)).map fun b => ([a],b :: l)) else some ([],p :: l)
def pitP (Y : Yd) (i : Int) : List S212:=Y.pits.getD i.toNat []
def roomP (Y : Yd) (i : Int) : Int:=Y.rooms.getD i.toNat 0
def setPit (Y : Yd) (i : Int) (l : List S212) : Yd:={ Y with pits:=Y.pits.set i.toNat l }
def pourP (Y : Yd) (s : S84) : Except Int Yd :=
 if isNew Y s.f0 = true then (if heldP (pitP Y s.f3) + s.f5 ≤ roomP Y s.f3 then .ok { Y with pours:=Y.pours ++ [s.f0],days:=Y.days ++ [s.f2],pits:=Y.pits.set s.f3.toNat (pitP Y s.f3 ++ [⟨s.f5,[⟨s.f0,wholeP s.f5⟩]⟩]) } else .error 2) else .error 6
def takeP (Y : Yd) (s : S84) (step : Int) : Except Int Yd :=
 if isNew Y s.f0 = true then (if s.f5 ≤ heldP (pitP Y s.f3) then (match aheadP (pitP Y s.f3) s.f5 with
 |some (a,b) => (match summedP Y.pours a with
  |some ps => .ok { Y with pits:=Y.pits.set s.f3.toNat b,barrows:=Y.barrows ++ [⟨s.f0,step,s.f5,ps⟩] }
  |none => .error 3)
 |none => .error 3) else .error 4) else .error 6
def turnP (Y : Yd) (s : S84) : Except Int Yd :=
 if 0 < heldP (pitP Y s.f3) then (match summedP Y.pours (pitP Y s.f3) with
 |some ps => .ok (setPit Y s.f3 [⟨heldP (pitP Y s.f3),ps⟩])
 |none => .error 3) else .ok Y
def moveP (Y : Yd) (s : S84) : Except Int Yd :=
 if s.f5 ≤ heldP (pitP Y s.f3) then (if heldP (pitP Y s.f4) + s.f5 ≤ roomP Y s.f4 then (match aheadP (pitP Y s.f3) s.f5 with
 |some (a,b) => .ok { Y with pits:=(Y.pits.set s.f3.toNat b).set s.f4.toNat ((Y.pits.set s.f3.toNat b).getD s.f4.toNat [] ++ a) }
 |none => .error 3) else .error 2) else .error 4
def spillP (Y : Yd) (s : S84) : Except Int Yd :=
 if s.f5 ≤ heldP (pitP Y s.f3) then (match aheadP (pitP Y s.f3) s.f5 with
 |some (a,b) => .ok { Y with pits:=Y.pits.set s.f3.toNat b,lost:=Y.lost ++ a }
 |none => .error 3) else .error 4
def stepP (Y : Yd) (s : S84) (step : Int) : Except Int Yd :=
 if s.f1 = 1 then pourP Y s else if s.f1 = 2 then takeP Y s step else if s.f1 = 3 then turnP Y s else if s.f1 = 4 then moveP Y s else spillP Y s
def inP (n lo hi : Int) : Bool:=decide (lo ≤ n ∧ n ≤ hi)
def formedP (rooms : Int) (s : S84) (day : Int) : Bool :=
 inP s.f2 day 682 && inP s.f3 0 (rooms - 1) &&
 (if s.f1 = 1 ∨ s.f1 = 2 then inP s.f0 1 1099511627776 && inP s.f5 1 1000 && decide (s.f4 = 0)
  else if s.f1 = 3 then decide (s.f0 = 0 ∧ s.f5 = 0 ∧ s.f4 = 0)
  else if s.f1 = 4 then decide (s.f0 = 0) && inP s.f5 1 1000 && inP s.f4 0 (rooms - 1) && decide (s.f4 ≠ s.f3)
  else if s.f1 = 5 then decide (s.f0 = 0) && inP s.f5 1 1000 && decide (s.f4 = 0)
  else false)
def goP : Yd → Int → Int → List S84 → Except (Int × Int) Yd
|Y,_,_,[] => .ok Y
|Y,day,i,s :: r => if formedP Y.rooms.length s day = true then (match stepP Y s i with
 |.ok Y' => goP Y' s.f2 (i + 1) r
 |.error e => .error (e,i + 1)) else .error (7,i + 1)
def emptyP (rooms : List Int) : Yd:=⟨rooms,List.replicate rooms.length [],[],[],[],[]⟩
def roomsOk (rooms : List Int) : Bool:=inP rooms.length 1 6 && rooms.all fun n => inP n 1 4096
def playedP (rooms : List Int) (stirs : List S84) (steps : Nat) : Except (Int × Int) Yd :=
 if roomsOk rooms = true then (if stirs.length ≤ 60 then goP (emptyP rooms) 0 0 (stirs.take steps) else .error (2,0)) else .error (1,0)
theorem eqA43 (d : Nat) (w : World) (x0 y0 : Int) (x1 y1 : Int) :
  (Op.equalIn (d + 2) 43 (.agg #[ii x0,ii x1]) (.agg #[ii y0,ii y1])).run Tryz.prog w = .ok (x0 == y0 && (x1 == y1)) w:=by
 refine eqA_of Tryz.underlying43 kr ?_
 refine eqf_cons (by rfl) (by go_simp;rfl) (by go_simp;rfl) (by go_simp) ?_
 exact eqf_last (by rfl) (by go_simp;rfl) (by go_simp;rfl) (by go_simp)
def pit_own.f (a0_0 : Int) (a0_1 : Int) : Option (Int × Int):=some (a0_0,a0_1)
set_option maxHeartbeats 8000000 in
set_option maxRecDepth 100000 in
theorem pit_own.calls (a0_0 : Int) (a0_1 : Int) (r1 : Int) (r2 : Int) (w : World) (h : pit_own.f a0_0 a0_1 = some (r1,r2)) :
  Calls Tryz.prog 117 #[.agg #[ii a0_0,ii a0_1]] w fun e w' => e = .returned (.agg #[ii r1,ii r2]) ∧ Below w.heap.size w w':=by
 have hu43:=Tryz.underlying43
 have HB:=am (Below.refl w.heap.size w)
 have H : (some (a0_0,a0_1)) = some (r1,r2):=h
 clear h
 simp only [Option.some.injEq,Prod.mk.injEq] at H
 obtain ⟨rfl,rfl⟩:=H
 go_enter Tryz.func117,Tryz.ntmps117
 go_wp2_with (first|(refine bE 1 #[ii a0_0,ii a0_1] 43 ?_;intro gb101 hg w2 hbox hb;have BK101:=am (hbox);have GW101:=am (lg hg (below_size (v0 HB.out)) : w.heap.size ≤ gb101);have GE101:=GW101;replace HB:=am (below_step (v0 HB.out) hb);clear hb hbox hg)|(refine bE 2 #[ii 0,ii 0] 43 ?_;intro gb102 hg w3 hbox hb;have BK102:=am (hbox);have GW102:=am (lg hg (below_size (v1 HB.out GE101.out)) : w.heap.size ≤ gb102);have GE102:=GW102;have NB101_102:=am (nl hg (vb BK101.out));have NB102_101:=am ((nl hg (vb BK101.out)).symm);replace BK101:=am (blk_below (vb BK101.out) hb);replace HB:=am (below_step (v1 HB.out GE101.out) hb);clear hb hbox hg;have hnb4:=NB101_102.out;have hnc4:=NB102_101.out;have hcz5_0:=bd BK101.out 0;have hcz5_1:=bd BK101.out 1;have hfz5_0:=blk_frozen BK101.out 0;have hfz5_1:=blk_frozen BK101.out 1;have hcz6_0:=bd BK102.out 0;have hcz6_1:=bd BK102.out 1;have hfz6_0:=blk_frozen BK102.out 0;have hfz6_1:=blk_frozen BK102.out 1))
 refine bodyPost_ret (results_cell_row rfl _ _ gb102 43 #[ii a0_0,ii a0_1] (0,0) _ rfl (by (with_reducible repeat (first|refine blk_drewN ?_ _|refine blk_drew ?_|refine blk_alloc ?_ _));refine blk_put (cs:=#[ii a0_0,ii 0]) ?_ 1 _ rfl;(with_reducible repeat (first|refine blk_drewN ?_ _|refine blk_drew ?_|refine blk_alloc ?_ _));refine blk_put (cs:=#[ii 0,ii 0]) ?_ 0 _ rfl;(with_reducible repeat (first|refine blk_drewN ?_ _|refine blk_drew ?_|refine blk_alloc ?_ _));exact BK102.out) Tryz.underlying43 rfl kr) rfl ?_
 exact ⟨vf,v2 HB.out GE101.out GE102.out⟩
def calxref04_SameInts.l0 : Nat → List Int → List Int → Int → Option (Bool)
|0,_,_,_ => none
|k + 1,x0,x1,x5 => if x5 < (x0.length : Int) then (if 0 ≤ x5 then (if x5 < (x1.length : Int) then (if (rd x0 x5) = (rd x1 x5) then (calxref04_SameInts.l0 k x0 x1 (wrap64 (x5 + 1))) else (some false)) else (none)) else (none)) else (some true)
def calxref04_SameInts.f (k : Nat) (l0 : List Int) (l1 : List Int) : Option (Bool):=if (l0.length : Int) = (l1.length : Int) then (calxref04_SameInts.l0 k l0 l1 0) else (some false)
set_option maxHeartbeats 8000000 in
set_option maxRecDepth 100000 in
theorem calxref04_SameInts.calls (k : Nat) (A0 : Option Addr) (c0 : Nat) (l0 : List Int) (A1 : Option Addr) (c1 : Nat) (l1 : List Int) (r : Bool) (w : World) (hr0 : Kd.C (Kd.int .i64) w A0 l0.length l0) (hc0 : l0.length ≤ c0) (hr1 : Kd.C (Kd.int .i64) w A1 l1.length l1) (hc1 : l1.length ≤ c1) (h : calxref04_SameInts.f k l0 l1 = some r) :
  Calls Tryz.prog 72 #[.slice A0 l0.length c0,.slice A1 l1.length c1] w fun e w' => e = .returned (.bool r) ∧ Drawn0 w w':=by
 have HR0:=am hr0
 have HC0:=am hc0
 clear hr0 hc0
 have HR1:=am hr1
 have HC1:=am hc1
 clear hr1 hc1
 have H : (if (l0.length : Int) = (l1.length : Int) then (calxref04_SameInts.l0 k l0 l1 0) else (some false)) = some r:=h
 clear h
 by_cases c3 : (l0.length : Int) = (l1.length : Int)
 ·rw [if_pos c3] at H
  have c3b0 : ((l0.length : Int) == (l1.length : Int)) = true:=beq_iff_eq.mpr c3
  have c3b1 : ((l0.length : Int) != (l1.length : Int)) = false:=bne_eq_false_iff_eq.mpr c3
  have c3b2 : (l0.length == l1.length) = true:=by first|simpa using c3|(simp at c3 ⊢;omega)
  clear c3
  have H':=am H
  clear H
  go_enter Tryz.func72,Tryz.ntmps72
  go_wp2
  repeat (go_quiet (fail);try go_wp2)
  go_loopg [5] k (fun kq v5 w' => ∃ (x5_1 : Int),v5 = ii x5_1 ∧ Aside0 (calxref04_SameInts.l0 kq l0 l1 x5_1 = some r) ∧ Aside0 (kq ≤ k) ∧ Drawn0 w w')
  case atStart => exact ⟨(0),ve,H',⟨Nat.le_refl _⟩,by repeat (first|exact Drawn0.refl _|apply Drawn0.step)⟩
  case round =>
   clear H'
   try clear c1;try clear p2;try clear c3;try clear c3b0;try clear c3b1;try clear c3b2
   obtain ⟨x5_1,rfl,HA,HK1,⟨m1,rfl⟩⟩:=hrel
   cases gk with
  |zero => exact absurd HA.out (by simp [calxref04_SameInts.l0])
  |succ k1 =>
    have H:=HA.out
    clear HA
    simp only [calxref04_SameInts.l0] at H
    by_cases c4 : x5_1 < (l0.length : Int)
    ·rw [if_pos c4] at H
     have c4b0 : decide (x5_1 < (l0.length : Int)) = true:=decide_eq_true c4
     clear c4
     by_cases c5 : 0 ≤ x5_1
     ·rw [if_pos c5] at H
      have c5b0 : decide (0 ≤ x5_1) = true:=decide_eq_true c5
      clear c5
      by_cases c6 : x5_1 < (l1.length : Int)
      ·rw [if_pos c6] at H
       have c6b0 : decide (x5_1 < (l1.length : Int)) = true:=decide_eq_true c6
       clear c6
       by_cases c7 : (rd l0 x5_1) = (rd l1 x5_1)
       ·rw [if_pos c7] at H
        have c7b0 : ((rd l0 x5_1) == (rd l1 x5_1)) = true:=beq_iff_eq.mpr c7
        have c7b1 : ((rd l0 x5_1) != (rd l1 x5_1)) = false:=bne_eq_false_iff_eq.mpr c7
        clear c7
        have H':=am H
        clear H
        have p101 : 0 ≤ (x5_1 : Int):=of_decide_eq_true va
        have q101 : x5_1 < (l0.length : Int):=of_decide_eq_true va
        obtain ⟨ad101,e101,hx101_0⟩:=Kd.at_int HR0.out x5_1 p101 q101
        cases e101
        replace p101:=eq_true p101
        replace q101:=eq_true q101
        have p102 : 0 ≤ (x5_1 : Int):=of_decide_eq_true va
        have q102 : x5_1 < (l1.length : Int):=of_decide_eq_true va
        obtain ⟨ad102,e102,hx102_0⟩:=Kd.at_int HR1.out x5_1 p102 q102
        cases e102
        replace p102:=eq_true p102
        replace q102:=eq_true q102
        go_wp2
        repeat (go_quiet (fail);try go_wp2)
        go_roundg k1
        case measure => have:=HK1.out;omega
        case rel => exact ⟨(wrap64 (x5_1 + 1)),ve,H',⟨by have:=HK1.out;omega⟩,by repeat (first|exact Drawn0.refl _|apply Drawn0.step)⟩
       ·rw [if_neg c7] at H
        have c7b0 : ((rd l0 x5_1) == (rd l1 x5_1)) = false:=beq_eq_false_iff_ne.mpr c7
        have c7b1 : ((rd l0 x5_1) != (rd l1 x5_1)) = true:=bne_iff_ne.mpr c7
        obtain rfl:=Option.some.inj H
        have p101 : 0 ≤ (x5_1 : Int):=of_decide_eq_true va
        have q101 : x5_1 < (l0.length : Int):=of_decide_eq_true va
        obtain ⟨ad101,e101,hx101_0⟩:=Kd.at_int HR0.out x5_1 p101 q101
        cases e101
        replace p101:=eq_true p101
        replace q101:=eq_true q101
        have p102 : 0 ≤ (x5_1 : Int):=of_decide_eq_true va
        have q102 : x5_1 < (l1.length : Int):=of_decide_eq_true va
        obtain ⟨ad102,e102,hx102_0⟩:=Kd.at_int HR1.out x5_1 p102 q102
        cases e102
        replace p102:=eq_true p102
        replace q102:=eq_true q102
        go_wp2
        repeat (go_quiet (fail);try go_wp2)
        go_ret
        exact ⟨ve,by repeat (first|exact Drawn0.refl _|apply Drawn0.step)⟩
      ·rw [if_neg c6] at H
       exact absurd H (by simp)
     ·rw [if_neg c5] at H
      exact absurd H (by simp)
    ·rw [if_neg c4] at H
     have c4b0 : decide (x5_1 < (l0.length : Int)) = false:=decide_eq_false c4
     clear c4
     obtain rfl:=Option.some.inj H
     go_wp2
     repeat (go_quiet (fail);try go_wp2)
     go_ret
     exact ⟨ve,by repeat (first|exact Drawn0.refl _|apply Drawn0.step)⟩
 ·rw [if_neg c3] at H
  have c3b0 : ((l0.length : Int) == (l1.length : Int)) = false:=beq_eq_false_iff_ne.mpr c3
  have c3b1 : ((l0.length : Int) != (l1.length : Int)) = true:=bne_iff_ne.mpr c3
  have c3b2 : (l0.length == l1.length) = false:=by first|simpa using c3|(simp at c3 ⊢;omega)
  obtain rfl:=Option.some.inj H
  go_enter Tryz.func72,Tryz.ntmps72
  go_wp2
  repeat (go_quiet (fail);try go_wp2)
  go_ret
  exact ⟨ve,by repeat (first|exact Drawn0.refl _|apply Drawn0.step)⟩
end Go.Proofs.YtjjfpmapjjemcaaGreat.B
end
