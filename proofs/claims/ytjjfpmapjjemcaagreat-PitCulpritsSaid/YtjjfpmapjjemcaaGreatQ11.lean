import Derived.Test.YtjjfpmapjjemcaaGreatQ7
set_option linter.unusedVariables false
set_option linter.unusedSimpArgs false
section
namespace Go.Proofs.YtjjfpmapjjemcaaGreat.B
open Go.RowKit Go.Proofs.YtjjfpmapjjemcaaGreatW.PrintWords Go.Proofs.YtjjfpmapjjemcaaGreatW.PrintLast Go.Proofs.YtjjfpmapjjemcaaGreatW.PrintMore
attribute [local go_sem] max2_int min2_int max_two min_two max_three min_three max_four min_four
structure Yd where
 rooms : List Int
 pits : List (List S212)
 pours : List Int
 days : List Int
 barrows : List S167
 lost : List S212
def heldP : List S212 → Int
|[] => 0
|p :: l => p.f0 + heldP l
def isNew (Y : Yd) (id : Int) : Bool:=!decide (id ∈ Y.pours) && !(Y.barrows.any fun b => decide (b.f0 = id))
def partsP : List S212 → List S89
|[] => []
|p :: l => p.f1 ++ partsP l
abbrev ByPour:=Int → Option S43
def putBy (M : ByPour) (i : Int) (r : S43) : ByPour:=fun k => if k = i then some r else M k
def sumAll : ByPour → List S89 → Option ByPour
|M,[] => some M
|M,x :: r => if fineP (addP ((M x.f0).getD (wholeP 0)) x.f1) = true then sumAll (putBy M x.f0 (addP ((M x.f0).getD (wholeP 0)) x.f1)) r else none
def outOf (M : ByPour) : List Int → List S89
|[] => []
|id :: r => match M id with
 |some n => ⟨id,n⟩ :: outOf M r
 |none => outOf M r
def summedP (pours : List Int) (l : List S212) : Option (List S89):=(sumAll (fun _ => none) (partsP l)).map fun M => outOf M pours
def divParts : List S89 → Int → Int → Option (List S89)
|[],_,_ => some []
|x :: r,n,m => if fineP (timesP x.f1 n m) = true then (divParts r n m).map (⟨x.f0,timesP x.f1 n m⟩ :: ·) else none
def dividedP (p : S212) (n : Int) : Option S212:=(divParts p.f1 n p.f0).map fun l => ⟨n,l⟩
def aheadP : List S212 → Int → Option (List S212 × List S212)
|[],_ => some ([],[])
|p :: l,n => if 0 < n then (if p.f0 ≤ n then (aheadP l (n - p.f0)).map (fun x => (p :: x.1,x.2)) else (dividedP p n).bind fun a => (dividedP p (p.f0 - n)).map fun b => ([a],b :: l)) else some ([],p :: l)
def pitP (Y : Yd) (i : Int) : List S212:=Y.pits.getD i.toNat []
def roomP (Y : Yd) (i : Int) : Int:=Y.rooms.getD i.toNat 0
def setPit (Y : Yd) (i : Int) (l : List S212) : Yd:={ Y with pits:=Y.pits.set i.toNat l }
def pourP (Y : Yd) (s : S84) : Except Int Yd :=
 if isNew Y s.f0 = true then (if heldP (pitP Y s.f3) + s.f5 ≤ roomP Y s.f3 then .ok { Y with pours:=Y.pours ++ [s.f0],days:=Y.days ++ [s.f2],pits:=Y.pits.set s.f3.toNat (pitP Y s.f3 ++ [⟨s.f5,[⟨s.f0,wholeP s.f5⟩]⟩]) } else .error 2) else .error 6
def takeP (Y : Yd) (s : S84) (step : Int) : Except Int Yd :=
 if isNew Y s.f0 = true then (if s.f5 ≤ heldP (pitP Y s.f3) then (match aheadP (pitP Y s.f3) s.f5 with
 |some (a,b) => (match summedP Y.pours a with
  |some ps => .ok { Y with pits:=Y.pits.set s.f3.toNat b,barrows:=Y.barrows ++ [⟨s.f0,step,s.f5,ps⟩] }
  |none => .error 3)
 |none => .error 3) else .error 4) else .error 6
def turnP (Y : Yd) (s : S84) : Except Int Yd :=
 if 0 < heldP (pitP Y s.f3) then (match summedP Y.pours (pitP Y s.f3) with
 |some ps => .ok (setPit Y s.f3 [⟨heldP (pitP Y s.f3),ps⟩])
 |none => .error 3) else .ok Y
def moveP (Y : Yd) (s : S84) : Except Int Yd :=
 if s.f5 ≤ heldP (pitP Y s.f3) then (if heldP (pitP Y s.f4) + s.f5 ≤ roomP Y s.f4 then (match aheadP (pitP Y s.f3) s.f5 with
 |some (a,b) => .ok { Y with pits:=(Y.pits.set s.f3.toNat b).set s.f4.toNat ((Y.pits.set s.f3.toNat b).getD s.f4.toNat [] ++ a) }
 |none => .error 3) else .error 2) else .error 4
def spillP (Y : Yd) (s : S84) : Except Int Yd :=
 if s.f5 ≤ heldP (pitP Y s.f3) then (match aheadP (pitP Y s.f3) s.f5 with
 |some (a,b) => .ok { Y with pits:=Y.pits.set s.f3.toNat b,lost:=Y.lost ++ a }
 |none => .error 3) else .error 4
def stepP (Y : Yd) (s : S84) (step : Int) : Except Int Yd :=
 if s.f1 = 1 then pourP Y s else if s.f1 = 2 then takeP Y s step else if s.f1 = 3 then turnP Y s else if s.f1 = 4 then moveP Y s else spillP Y s
def inP (n lo hi : Int) : Bool:=decide (lo ≤ n ∧ n ≤ hi)
def formedP (rooms : Int) (s : S84) (day : Int) : Bool :=
 inP s.f2 day 682 && inP s.f3 0 (rooms - 1) &&
 (if s.f1 = 1 ∨ s.f1 = 2 then inP s.f0 1 1099511627776 && inP s.f5 1 1000 && decide (s.f4 = 0)
  else if s.f1 = 3 then decide (s.f0 = 0 ∧ s.f5 = 0 ∧ s.f4 = 0)
  else if s.f1 = 4 then decide (s.f0 = 0) && inP s.f5 1 1000 && inP s.f4 0 (rooms - 1) && decide (s.f4 ≠ s.f3)
  else if s.f1 = 5 then decide (s.f0 = 0) && inP s.f5 1 1000 && decide (s.f4 = 0)
  else false)
def goP : Yd → Int → Int → List S84 → Except (Int × Int) Yd
|Y,_,_,[] => .ok Y
|Y,day,i,s :: r => if formedP Y.rooms.length s day = true then (match stepP Y s i with
 |.ok Y' => goP Y' s.f2 (i + 1) r
 |.error e => .error (e,i + 1)) else .error (7,i + 1)
def emptyP (rooms : List Int) : Yd:=⟨rooms,List.replicate rooms.length [],[],[],[],[]⟩
def roomsOk (rooms : List Int) : Bool:=inP rooms.length 1 6 && rooms.all fun n => inP n 1 4096
def playedP (rooms : List Int) (stirs : List S84) (steps : Nat) : Except (Int × Int) Yd :=
 if roomsOk rooms = true then (if stirs.length ≤ 60 then goP (emptyP rooms) 0 0 (stirs.take steps) else .error (2,0)) else .error (1,0)
def pit_mille.f (a0_0 : Int) (a0_1 : Int) : Option (Bool):=if 0 ≤ a0_0 then (if a0_0 ≤ a0_1 then (some (decide (a0_1 ≤ 1000))) else (some false)) else (some false)
set_option maxHeartbeats 8000000 in
set_option maxRecDepth 100000 in
theorem pit_mille.calls (a0_0 : Int) (a0_1 : Int) (r : Bool) (w : World) (h : pit_mille.f a0_0 a0_1 = some r) :
  Calls Tryz.prog 153 #[.agg #[ii a0_0,ii a0_1]] w fun e w' => e = .returned (.bool r) ∧ Below w.heap.size w w':=by
 have hu66:=Tryz.underlying66
 have HB:=am (Below.refl w.heap.size w)
 have H : (if 0 ≤ a0_0 then (if a0_0 ≤ a0_1 then (some (decide (a0_1 ≤ 1000))) else (some false)) else (some false)) = some r:=h
 clear h
 by_cases c2 : 0 ≤ a0_0
 ·rw [if_pos c2] at H
  have c2b0 : decide (0 ≤ a0_0) = true:=decide_eq_true c2
  clear c2
  by_cases c3 : a0_0 ≤ a0_1
  ·rw [if_pos c3] at H
   have c3b0 : decide (a0_0 ≤ a0_1) = true:=decide_eq_true c3
   clear c3
   obtain rfl:=Option.some.inj H
   go_enter Tryz.func153,Tryz.ntmps153
   go_wp2_with (first|(refine bE 1 #[ii a0_0,ii a0_1] 66 ?_;intro gb101 hg w4 hbox hb;have BK101:=am (hbox);have GW101:=am (lg hg (below_size (v0 HB.out)) : w.heap.size ≤ gb101);have GE101:=GW101;replace HB:=am (below_step (v0 HB.out) hb);clear hb hbox hg;have hcz5_0:=bd BK101.out 0;have hcz5_1:=bd BK101.out 1;have hfz5_0:=blk_frozen BK101.out 0;have hfz5_1:=blk_frozen BK101.out 1))
   go_ret
   exact ⟨vf,v1 HB.out GE101.out⟩
  ·rw [if_neg c3] at H
   have c3b0 : decide (a0_0 ≤ a0_1) = false:=decide_eq_false c3
   clear c3
   obtain rfl:=Option.some.inj H
   go_enter Tryz.func153,Tryz.ntmps153
   go_wp2_with (first|(refine bE 1 #[ii a0_0,ii a0_1] 66 ?_;intro gb101 hg w6 hbox hb;have BK101:=am (hbox);have GW101:=am (lg hg (below_size (v0 HB.out)) : w.heap.size ≤ gb101);have GE101:=GW101;replace HB:=am (below_step (v0 HB.out) hb);clear hb hbox hg;have hcz7_0:=bd BK101.out 0;have hcz7_1:=bd BK101.out 1;have hfz7_0:=blk_frozen BK101.out 0;have hfz7_1:=blk_frozen BK101.out 1))
   go_ret
   exact ⟨vf,v1 HB.out GE101.out⟩
 ·rw [if_neg c2] at H
  have c2b0 : decide (0 ≤ a0_0) = false:=decide_eq_false c2
  clear c2
  obtain rfl:=Option.some.inj H
  go_enter Tryz.func153,Tryz.ntmps153
  go_wp2_with (first|(refine bE 1 #[ii a0_0,ii a0_1] 66 ?_;intro gb101 hg w8 hbox hb;have BK101:=am (hbox);have GW101:=am (lg hg (below_size (v0 HB.out)) : w.heap.size ≤ gb101);have GE101:=GW101;replace HB:=am (below_step (v0 HB.out) hb);clear hb hbox hg;have hcz9_0:=bd BK101.out 0;have hcz9_1:=bd BK101.out 1;have hfz9_0:=blk_frozen BK101.out 0;have hfz9_1:=blk_frozen BK101.out 1))
  go_ret
  exact ⟨vf,v1 HB.out GE101.out⟩
def calxlaw04_few.f (l0_0 : List Int) (l0_1 : List (S84)) : Option (Bool):=if (l0_0.length : Int) ≤ 8 then (if (l0_1.length : Int) ≤ 16 then (some true) else (if (l0_1.length : Int) > 60 then (some (decide ((l0_1.length : Int) ≤ 70))) else (some false))) else (some false)
set_option maxHeartbeats 8000000 in
set_option maxRecDepth 100000 in
theorem calxlaw04_few.calls (A0_0 : Option Addr) (c0_0 : Nat) (l0_0 : List Int) (A0_1 : Option Addr) (c0_1 : Nat) (l0_1 : List (S84)) (r : Bool) (w : World) (hr0_0 : Kd.C (Kd.int .i64) w A0_0 l0_0.length l0_0) (hc0_0 : l0_0.length ≤ c0_0) (hr0_1 : Kd.C k84 w A0_1 l0_1.length l0_1) (hc0_1 : l0_1.length ≤ c0_1) (h : calxlaw04_few.f l0_0 l0_1 = some r) :
  Calls Tryz.prog 26 #[.agg #[.slice A0_0 l0_0.length c0_0,.slice A0_1 l0_1.length c0_1]] w fun e w' => e = .returned (.bool r) ∧ Below w.heap.size w w':=by
 have hu32:=Tryz.underlying32
 have HR0_0:=am hr0_0
 have HC0_0:=am hc0_0
 clear hr0_0 hc0_0
 have HR0_1:=am hr0_1
 have HC0_1:=am hc0_1
 clear hr0_1 hc0_1
 have HB:=am (Below.refl w.heap.size w)
 have H : (if (l0_0.length : Int) ≤ 8 then (if (l0_1.length : Int) ≤ 16 then (some true) else (if (l0_1.length : Int) > 60 then (some (decide ((l0_1.length : Int) ≤ 70))) else (some false))) else (some false)) = some r:=h
 clear h
 by_cases c2 : (l0_0.length : Int) ≤ 8
 ·rw [if_pos c2] at H
  have c2b0 : decide ((l0_0.length : Int) ≤ 8) = true:=decide_eq_true c2
  have c2b1 : decide (l0_0.length ≤ 8) = true:=decide_eq_true (by omega)
  clear c2
  by_cases c3 : (l0_1.length : Int) ≤ 16
  ·rw [if_pos c3] at H
   have c3b0 : decide ((l0_1.length : Int) ≤ 16) = true:=decide_eq_true c3
   have c3b1 : decide (l0_1.length ≤ 16) = true:=decide_eq_true (by omega)
   clear c3
   obtain rfl:=Option.some.inj H
   go_enter Tryz.func26,Tryz.ntmps26
   go_wp2_with (first|((with_reducible refine gate_dst (N:=1) rfl ?_);(try (refine gate_guard (by rfl) ?_;dsimp only));refine bE 1 #[.slice A0_0 l0_0.length c0_0,.slice A0_1 l0_1.length c0_1] 32 ?_;intro gb101 hg w4 hbox hb;have BK101:=am (hbox);have GW101:=am (lg hg (below_size (v0 HB.out)) : w.heap.size ≤ gb101);have GE101:=GW101;replace HB:=am (below_step (v0 HB.out) hb);clear hb hbox hg;have hcz5_0:=bd BK101.out 0;have hcz5_1:=bd BK101.out 1;have hfz5_0:=blk_frozen BK101.out 0;have hfz5_1:=blk_frozen BK101.out 1))
   go_ret
   exact ⟨vf,v1 HB.out GE101.out⟩
  ·rw [if_neg c3] at H
   have c3b0 : decide ((l0_1.length : Int) ≤ 16) = false:=decide_eq_false c3
   have c3b1 : decide (l0_1.length ≤ 16) = false:=decide_eq_false (by omega)
   clear c3
   by_cases c6 : (l0_1.length : Int) > 60
   ·rw [if_pos c6] at H
    have c6b0 : decide (60 < (l0_1.length : Int)) = true:=decide_eq_true c6
    have c6b1 : decide (60 < l0_1.length) = true:=decide_eq_true (by omega)
    clear c6
    obtain rfl:=Option.some.inj H
    go_enter Tryz.func26,Tryz.ntmps26
    go_wp2_with (first|((with_reducible refine gate_dst (N:=1) rfl ?_);(try (refine gate_guard (by rfl) ?_;dsimp only));refine bE 1 #[.slice A0_0 l0_0.length c0_0,.slice A0_1 l0_1.length c0_1] 32 ?_;intro gb101 hg w7 hbox hb;have BK101:=am (hbox);have GW101:=am (lg hg (below_size (v0 HB.out)) : w.heap.size ≤ gb101);have GE101:=GW101;replace HB:=am (below_step (v0 HB.out) hb);clear hb hbox hg;have hcz8_0:=bd BK101.out 0;have hcz8_1:=bd BK101.out 1;have hfz8_0:=blk_frozen BK101.out 0;have hfz8_1:=blk_frozen BK101.out 1))
    go_ret
    exact ⟨vf,v1 HB.out GE101.out⟩
   ·rw [if_neg c6] at H
    have c6b0 : decide (60 < (l0_1.length : Int)) = false:=decide_eq_false c6
    have c6b1 : decide (60 < l0_1.length) = false:=decide_eq_false (by omega)
    clear c6
    obtain rfl:=Option.some.inj H
    go_enter Tryz.func26,Tryz.ntmps26
    go_wp2_with (first|((with_reducible refine gate_dst (N:=1) rfl ?_);(try (refine gate_guard (by rfl) ?_;dsimp only));refine bE 1 #[.slice A0_0 l0_0.length c0_0,.slice A0_1 l0_1.length c0_1] 32 ?_;intro gb101 hg w9 hbox hb;have BK101:=am (hbox);have GW101:=am (lg hg (below_size (v0 HB.out)) : w.heap.size ≤ gb101);have GE101:=GW101;replace HB:=am (below_step (v0 HB.out) hb);clear hb hbox hg;have hcz10_0:=bd BK101.out 0;have hcz10_1:=bd BK101.out 1;have hfz10_0:=blk_frozen BK101.out 0;have hfz10_1:=blk_frozen BK101.out 1))
    go_ret
    exact ⟨vf,v1 HB.out GE101.out⟩
 ·rw [if_neg c2] at H
  have c2b0 : decide ((l0_0.length : Int) ≤ 8) = false:=decide_eq_false c2
  have c2b1 : decide (l0_0.length ≤ 8) = false:=decide_eq_false (by omega)
  clear c2
  obtain rfl:=Option.some.inj H
  go_enter Tryz.func26,Tryz.ntmps26
  go_wp2_with (first|((with_reducible refine gate_dst (N:=1) rfl ?_);(try (refine gate_guard (by rfl) ?_;dsimp only));refine bE 1 #[.slice A0_0 l0_0.length c0_0,.slice A0_1 l0_1.length c0_1] 32 ?_;intro gb101 hg w11 hbox hb;have BK101:=am (hbox);have GW101:=am (lg hg (below_size (v0 HB.out)) : w.heap.size ≤ gb101);have GE101:=GW101;replace HB:=am (below_step (v0 HB.out) hb);clear hb hbox hg;have hcz12_0:=bd BK101.out 0;have hcz12_1:=bd BK101.out 1;have hfz12_0:=blk_frozen BK101.out 0;have hfz12_1:=blk_frozen BK101.out 1))
  go_ret
  exact ⟨vf,v1 HB.out GE101.out⟩
end Go.Proofs.YtjjfpmapjjemcaaGreat.B
end
