import Derived.Test.YtjjfpmapjjemcaaGreatQ19
import Derived.Test.YtjjfpmapjjemcaaGreatQ7
set_option linter.unusedVariables false
set_option linter.unusedSimpArgs false
section
namespace Go.Proofs.YtjjfpmapjjemcaaGreat.B
open Go.RowKit Go.Proofs.YtjjfpmapjjemcaaGreatW.PrintWords Go.Proofs.YtjjfpmapjjemcaaGreatW.PrintLast Go.Proofs.YtjjfpmapjjemcaaGreatW.PrintMore
attribute [local go_sem] max2_int min2_int max_two min_two max_three min_three max_four min_four
def calxref04_SameParcels.l0 : Nat → List (S212) → List (S212) → Int → Option (Bool)
|0,_,_,_ => none
|k + 1,x0,x1,x5 => if x5 < (x0.length : Int) then (if 0 ≤ x5 then (if x5 < (x1.length : Int) then ((calxref04_SameParts.f k ((rd_T212 x0 x5).f1) ((rd_T212 x1 x5).f1)).bind fun t103 => (if t103 = true then (if ((rd_T212 x0 x5).f0) = ((rd_T212 x1 x5).f0) then (calxref04_SameParcels.l0 k x0 x1 (wrap64 (x5 + 1))) else (some false)) else (some false))) else (none)) else (none)) else (some true)
def calxref04_SameParcels.f (k : Nat) (l0 : List (S212)) (l1 : List (S212)) : Option (Bool):=if (l0.length : Int) = (l1.length : Int) then (calxref04_SameParcels.l0 k l0 l1 0) else (some false)
set_option maxHeartbeats 8000000 in
set_option maxRecDepth 100000 in
theorem calxref04_SameParcels.calls (k : Nat) (A0 : Option Addr) (c0 : Nat) (l0 : List (S212)) (A1 : Option Addr) (c1 : Nat) (l1 : List (S212)) (r : Bool) (w : World) (hr0 : Kd.C k212 w A0 l0.length l0) (hc0 : l0.length ≤ c0) (hr1 : Kd.C k212 w A1 l1.length l1) (hc1 : l1.length ≤ c1) (h : calxref04_SameParcels.f k l0 l1 = some r) :
  Calls Tryz.prog 65 #[.slice A0 l0.length c0,.slice A1 l1.length c1] w fun e w' => e = .returned (.bool r) ∧ Drawn0 w w':=by
 have HR0:=am hr0
 have HC0:=am hc0
 clear hr0 hc0
 have HR1:=am hr1
 have HC1:=am hc1
 clear hr1 hc1
 have H : (if (l0.length : Int) = (l1.length : Int) then (calxref04_SameParcels.l0 k l0 l1 0) else (some false)) = some r:=h
 clear h
 by_cases c3 : (l0.length : Int) = (l1.length : Int)
 ·rw [if_pos c3] at H
  have c3b0 : ((l0.length : Int) == (l1.length : Int)) = true:=beq_iff_eq.mpr c3
  have c3b1 : ((l0.length : Int) != (l1.length : Int)) = false:=bne_eq_false_iff_eq.mpr c3
  have c3b2 : (l0.length == l1.length) = true:=by first|simpa using c3|(simp at c3 ⊢;omega)
  clear c3
  have H':=am H
  clear H
  go_enter Tryz.func65,Tryz.ntmps65
  go_wp2
  repeat (go_quiet (fail);try go_wp2)
  go_loopg [5] k (fun kq v5 w' => ∃ (x5_1 : Int),v5 = ii x5_1 ∧ Aside0 (calxref04_SameParcels.l0 kq l0 l1 x5_1 = some r) ∧ Aside0 (kq ≤ k) ∧ Drawn0 w w')
  case atStart => exact ⟨(0),ve,H',⟨Nat.le_refl _⟩,by repeat (first|exact Drawn0.refl _|apply Drawn0.step)⟩
  case round =>
   clear H'
   try clear c1;try clear p2;try clear c3;try clear c3b0;try clear c3b1;try clear c3b2
   obtain ⟨x5_1,rfl,HA,HK1,⟨m1,rfl⟩⟩:=hrel
   cases gk with
  |zero => exact absurd HA.out (by simp [calxref04_SameParcels.l0])
  |succ k1 =>
    have H:=HA.out
    clear HA
    simp only [calxref04_SameParcels.l0] at H
    by_cases c4 : x5_1 < (l0.length : Int)
    ·rw [if_pos c4] at H
     have c4b0 : decide (x5_1 < (l0.length : Int)) = true:=decide_eq_true c4
     clear c4
     by_cases c5 : 0 ≤ x5_1
     ·rw [if_pos c5] at H
      have c5b0 : decide (0 ≤ x5_1) = true:=decide_eq_true c5
      clear c5
      by_cases c6 : x5_1 < (l1.length : Int)
      ·rw [if_pos c6] at H
       have c6b0 : decide (x5_1 < (l1.length : Int)) = true:=decide_eq_true c6
       clear c6
       replace H:=Option.bind_eq_some_iff.mp H
       obtain ⟨t103,A70,H⟩:=H
       replace H : (if t103 = true then (if ((rd_T212 l0 x5_1).f0) = ((rd_T212 l1 x5_1).f0) then (calxref04_SameParcels.l0 k1 l0 l1 (wrap64 (x5_1 + 1))) else (some false)) else (some false)) = some r:=H
       have A7:=am A70
       clear A70
       by_cases c8 : t103 = true
       ·subst c8
        have H1 : (if ((rd_T212 l0 x5_1).f0) = ((rd_T212 l1 x5_1).f0) then (calxref04_SameParcels.l0 k1 l0 l1 (wrap64 (x5_1 + 1))) else (some false)) = some r:=by rw [if_pos rfl] at H;exact H
        clear H
        have H:=H1
        clear H1
        by_cases c9 : ((rd_T212 l0 x5_1).f0) = ((rd_T212 l1 x5_1).f0)
        ·rw [if_pos c9] at H
         have c9b0 : (((rd_T212 l0 x5_1).f0) == ((rd_T212 l1 x5_1).f0)) = true:=beq_iff_eq.mpr c9
         have c9b1 : (((rd_T212 l0 x5_1).f0) != ((rd_T212 l1 x5_1).f0)) = false:=bne_eq_false_iff_eq.mpr c9
         clear c9
         have H':=am H
         clear H
         have p101 : 0 ≤ (x5_1 : Int):=of_decide_eq_true va
         have q101 : x5_1 < (l0.length : Int):=of_decide_eq_true va
         obtain ⟨ad101,A101_1,c101_1,e101,hx101_0,hx101_1,hl101_1,hi101_1⟩:=at_T212 HR0.out x5_1 p101 q101
         cases e101
         have HR101_1:=am hi101_1
         have HC101_1:=am hl101_1
         clear hi101_1 hl101_1
         replace p101:=eq_true p101
         replace q101:=eq_true q101
         have p102 : 0 ≤ (x5_1 : Int):=of_decide_eq_true va
         have q102 : x5_1 < (l1.length : Int):=of_decide_eq_true va
         obtain ⟨ad102,A102_1,c102_1,e102,hx102_0,hx102_1,hl102_1,hi102_1⟩:=at_T212 HR1.out x5_1 p102 q102
         cases e102
         have HR102_1:=am hi102_1
         have HC102_1:=am hl102_1
         clear hi102_1 hl102_1
         replace p102:=eq_true p102
         replace q102:=eq_true q102
         go_wp2_with (first|(go_at_call 38;(with_reducible refine (calxref04_SameParts.calls k1 _ _ ((rd_T212 l0 x5_1).f1) _ _ ((rd_T212 l1 x5_1).f1) true _ ?side1 ?side2 ?side3 ?side4 A7.out).mono ?_);(case side1 => repeat (first|exact HR101_1.out|(with_reducible refine Kd.C_alloc ?_ _)|(with_reducible refine Kd.C_drewN ?_ _)|(with_reducible refine Kd.C_drew ?_)));(case side2 => exact HC101_1.out);(case side3 => repeat (first|exact HR102_1.out|(with_reducible refine Kd.C_alloc ?_ _)|(with_reducible refine Kd.C_drewN ?_ _)|(with_reducible refine Kd.C_drew ?_)));(case side4 => exact HC102_1.out);rintro e w' ⟨rfl,⟨nd,rfl⟩⟩;(try first|exact ⟨rfl,_,World.drewN_drewN _ _ _⟩|exact ⟨rfl,_,Eq.trans (World.drewN_drewN _ _ _) (congrArg (World.drewN _) (Nat.add_assoc _ _ _))⟩);have p104 : 0 ≤ (x5_1 : Int):=of_decide_eq_true va;have q104 : x5_1 < (l0.length : Int):=of_decide_eq_true va;obtain ⟨ad104,A104_1,c104_1,e104,hx104_0,hx104_1,hl104_1,hi104_1⟩:=at_T212 HR0.out x5_1 p104 q104;obtain rfl : ad101 = ad104:=(by injection e104);have HR104_1:=am hi104_1;have HC104_1:=am hl104_1;clear hi104_1 hl104_1;replace p104:=eq_true p104;replace q104:=eq_true q104;have ea_:=Option.some.inj (hx101_1.symm.trans hx104_1);injection ea_ with ea_ en_ ec_;subst ea_;subst ec_;clear en_;have p105 : 0 ≤ (x5_1 : Int):=of_decide_eq_true va;have q105 : x5_1 < (l1.length : Int):=of_decide_eq_true va;obtain ⟨ad105,A105_1,c105_1,e105,hx105_0,hx105_1,hl105_1,hi105_1⟩:=at_T212 HR1.out x5_1 p105 q105;obtain rfl : ad102 = ad105:=(by injection e105);have HR105_1:=am hi105_1;have HC105_1:=am hl105_1;clear hi105_1 hl105_1;replace p105:=eq_true p105;replace q105:=eq_true q105;have ea_:=Option.some.inj (hx102_1.symm.trans hx105_1);injection ea_ with ea_ en_ ec_;subst ea_;subst ec_;clear en_))
         repeat (go_quiet (first|(go_at_call 38;(with_reducible refine (calxref04_SameParts.calls k1 _ _ ((rd_T212 l0 x5_1).f1) _ _ ((rd_T212 l1 x5_1).f1) true _ ?side1 ?side2 ?side3 ?side4 A7.out).mono ?_);(case side1 => repeat (first|exact HR101_1.out|(with_reducible refine Kd.C_alloc ?_ _)|(with_reducible refine Kd.C_drewN ?_ _)|(with_reducible refine Kd.C_drew ?_)));(case side2 => exact HC101_1.out);(case side3 => repeat (first|exact HR102_1.out|(with_reducible refine Kd.C_alloc ?_ _)|(with_reducible refine Kd.C_drewN ?_ _)|(with_reducible refine Kd.C_drew ?_)));(case side4 => exact HC102_1.out);rintro e w' ⟨rfl,⟨nd,rfl⟩⟩;(try first|exact ⟨rfl,_,World.drewN_drewN _ _ _⟩|exact ⟨rfl,_,Eq.trans (World.drewN_drewN _ _ _) (congrArg (World.drewN _) (Nat.add_assoc _ _ _))⟩);have p104 : 0 ≤ (x5_1 : Int):=of_decide_eq_true va;have q104 : x5_1 < (l0.length : Int):=of_decide_eq_true va;obtain ⟨ad104,A104_1,c104_1,e104,hx104_0,hx104_1,hl104_1,hi104_1⟩:=at_T212 HR0.out x5_1 p104 q104;obtain rfl : ad101 = ad104:=(by injection e104);have HR104_1:=am hi104_1;have HC104_1:=am hl104_1;clear hi104_1 hl104_1;replace p104:=eq_true p104;replace q104:=eq_true q104;have ea_:=Option.some.inj (hx101_1.symm.trans hx104_1);injection ea_ with ea_ en_ ec_;subst ea_;subst ec_;clear en_;have p105 : 0 ≤ (x5_1 : Int):=of_decide_eq_true va;have q105 : x5_1 < (l1.length : Int):=of_decide_eq_true va;obtain ⟨ad105,A105_1,c105_1,e105,hx105_0,hx105_1,hl105_1,hi105_1⟩:=at_T212 HR1.out x5_1 p105 q105;obtain rfl : ad102 = ad105:=(by injection e105);have HR105_1:=am hi105_1;have HC105_1:=am hl105_1;clear hi105_1 hl105_1;replace p105:=eq_true p105;replace q105:=eq_true q105;have ea_:=Option.some.inj (hx102_1.symm.trans hx105_1);injection ea_ with ea_ en_ ec_;subst ea_;subst ec_;clear en_));try go_wp2_with (first|(go_at_call 38;(with_reducible refine (calxref04_SameParts.calls k1 _ _ ((rd_T212 l0 x5_1).f1) _ _ ((rd_T212 l1 x5_1).f1) true _ ?side1 ?side2 ?side3 ?side4 A7.out).mono ?_);(case side1 => repeat (first|exact HR101_1.out|(with_reducible refine Kd.C_alloc ?_ _)|(with_reducible refine Kd.C_drewN ?_ _)|(with_reducible refine Kd.C_drew ?_)));(case side2 => exact HC101_1.out);(case side3 => repeat (first|exact HR102_1.out|(with_reducible refine Kd.C_alloc ?_ _)|(with_reducible refine Kd.C_drewN ?_ _)|(with_reducible refine Kd.C_drew ?_)));(case side4 => exact HC102_1.out);rintro e w' ⟨rfl,⟨nd,rfl⟩⟩;(try first|exact ⟨rfl,_,World.drewN_drewN _ _ _⟩|exact ⟨rfl,_,Eq.trans (World.drewN_drewN _ _ _) (congrArg (World.drewN _) (Nat.add_assoc _ _ _))⟩);have p104 : 0 ≤ (x5_1 : Int):=of_decide_eq_true va;have q104 : x5_1 < (l0.length : Int):=of_decide_eq_true va;obtain ⟨ad104,A104_1,c104_1,e104,hx104_0,hx104_1,hl104_1,hi104_1⟩:=at_T212 HR0.out x5_1 p104 q104;obtain rfl : ad101 = ad104:=(by injection e104);have HR104_1:=am hi104_1;have HC104_1:=am hl104_1;clear hi104_1 hl104_1;replace p104:=eq_true p104;replace q104:=eq_true q104;have ea_:=Option.some.inj (hx101_1.symm.trans hx104_1);injection ea_ with ea_ en_ ec_;subst ea_;subst ec_;clear en_;have p105 : 0 ≤ (x5_1 : Int):=of_decide_eq_true va;have q105 : x5_1 < (l1.length : Int):=of_decide_eq_true va;obtain ⟨ad105,A105_1,c105_1,e105,hx105_0,hx105_1,hl105_1,hi105_1⟩:=at_T212 HR1.out x5_1 p105 q105;obtain rfl : ad102 = ad105:=(by injection e105);have HR105_1:=am hi105_1;have HC105_1:=am hl105_1;clear hi105_1 hl105_1;replace p105:=eq_true p105;replace q105:=eq_true q105;have ea_:=Option.some.inj (hx102_1.symm.trans hx105_1);injection ea_ with ea_ en_ ec_;subst ea_;subst ec_;clear en_)))
         go_roundg k1
         case measure => have:=HK1.out;omega
         case rel => exact ⟨(wrap64 (x5_1 + 1)),ve,H',⟨by have:=HK1.out;omega⟩,by repeat (first|exact Drawn0.refl _|apply Drawn0.step)⟩
        ·rw [if_neg c9] at H
         have c9b0 : (((rd_T212 l0 x5_1).f0) == ((rd_T212 l1 x5_1).f0)) = false:=beq_eq_false_iff_ne.mpr c9
         have c9b1 : (((rd_T212 l0 x5_1).f0) != ((rd_T212 l1 x5_1).f0)) = true:=bne_iff_ne.mpr c9
         obtain rfl:=Option.some.inj H
         have p101 : 0 ≤ (x5_1 : Int):=of_decide_eq_true va
         have q101 : x5_1 < (l0.length : Int):=of_decide_eq_true va
         obtain ⟨ad101,A101_1,c101_1,e101,hx101_0,hx101_1,hl101_1,hi101_1⟩:=at_T212 HR0.out x5_1 p101 q101
         cases e101
         have HR101_1:=am hi101_1
         have HC101_1:=am hl101_1
         clear hi101_1 hl101_1
         replace p101:=eq_true p101
         replace q101:=eq_true q101
         have p102 : 0 ≤ (x5_1 : Int):=of_decide_eq_true va
         have q102 : x5_1 < (l1.length : Int):=of_decide_eq_true va
         obtain ⟨ad102,A102_1,c102_1,e102,hx102_0,hx102_1,hl102_1,hi102_1⟩:=at_T212 HR1.out x5_1 p102 q102
         cases e102
         have HR102_1:=am hi102_1
         have HC102_1:=am hl102_1
         clear hi102_1 hl102_1
         replace p102:=eq_true p102
         replace q102:=eq_true q102
         go_wp2_with (first|(go_at_call 38;(with_reducible refine (calxref04_SameParts.calls k1 _ _ ((rd_T212 l0 x5_1).f1) _ _ ((rd_T212 l1 x5_1).f1) true _ ?side1 ?side2 ?side3 ?side4 A7.out).mono ?_);(case side1 => repeat (first|exact HR101_1.out|(with_reducible refine Kd.C_alloc ?_ _)|(with_reducible refine Kd.C_drewN ?_ _)|(with_reducible refine Kd.C_drew ?_)));(case side2 => exact HC101_1.out);(case side3 => repeat (first|exact HR102_1.out|(with_reducible refine Kd.C_alloc ?_ _)|(with_reducible refine Kd.C_drewN ?_ _)|(with_reducible refine Kd.C_drew ?_)));(case side4 => exact HC102_1.out);rintro e w' ⟨rfl,⟨nd,rfl⟩⟩;(try first|exact ⟨rfl,_,World.drewN_drewN _ _ _⟩|exact ⟨rfl,_,Eq.trans (World.drewN_drewN _ _ _) (congrArg (World.drewN _) (Nat.add_assoc _ _ _))⟩);have p104 : 0 ≤ (x5_1 : Int):=of_decide_eq_true va;have q104 : x5_1 < (l0.length : Int):=of_decide_eq_true va;obtain ⟨ad104,A104_1,c104_1,e104,hx104_0,hx104_1,hl104_1,hi104_1⟩:=at_T212 HR0.out x5_1 p104 q104;obtain rfl : ad101 = ad104:=(by injection e104);have HR104_1:=am hi104_1;have HC104_1:=am hl104_1;clear hi104_1 hl104_1;replace p104:=eq_true p104;replace q104:=eq_true q104;have ea_:=Option.some.inj (hx101_1.symm.trans hx104_1);injection ea_ with ea_ en_ ec_;subst ea_;subst ec_;clear en_;have p105 : 0 ≤ (x5_1 : Int):=of_decide_eq_true va;have q105 : x5_1 < (l1.length : Int):=of_decide_eq_true va;obtain ⟨ad105,A105_1,c105_1,e105,hx105_0,hx105_1,hl105_1,hi105_1⟩:=at_T212 HR1.out x5_1 p105 q105;obtain rfl : ad102 = ad105:=(by injection e105);have HR105_1:=am hi105_1;have HC105_1:=am hl105_1;clear hi105_1 hl105_1;replace p105:=eq_true p105;replace q105:=eq_true q105;have ea_:=Option.some.inj (hx102_1.symm.trans hx105_1);injection ea_ with ea_ en_ ec_;subst ea_;subst ec_;clear en_))
         repeat (go_quiet (first|(go_at_call 38;(with_reducible refine (calxref04_SameParts.calls k1 _ _ ((rd_T212 l0 x5_1).f1) _ _ ((rd_T212 l1 x5_1).f1) true _ ?side1 ?side2 ?side3 ?side4 A7.out).mono ?_);(case side1 => repeat (first|exact HR101_1.out|(with_reducible refine Kd.C_alloc ?_ _)|(with_reducible refine Kd.C_drewN ?_ _)|(with_reducible refine Kd.C_drew ?_)));(case side2 => exact HC101_1.out);(case side3 => repeat (first|exact HR102_1.out|(with_reducible refine Kd.C_alloc ?_ _)|(with_reducible refine Kd.C_drewN ?_ _)|(with_reducible refine Kd.C_drew ?_)));(case side4 => exact HC102_1.out);rintro e w' ⟨rfl,⟨nd,rfl⟩⟩;(try first|exact ⟨rfl,_,World.drewN_drewN _ _ _⟩|exact ⟨rfl,_,Eq.trans (World.drewN_drewN _ _ _) (congrArg (World.drewN _) (Nat.add_assoc _ _ _))⟩);have p104 : 0 ≤ (x5_1 : Int):=of_decide_eq_true va;have q104 : x5_1 < (l0.length : Int):=of_decide_eq_true va;obtain ⟨ad104,A104_1,c104_1,e104,hx104_0,hx104_1,hl104_1,hi104_1⟩:=at_T212 HR0.out x5_1 p104 q104;obtain rfl : ad101 = ad104:=(by injection e104);have HR104_1:=am hi104_1;have HC104_1:=am hl104_1;clear hi104_1 hl104_1;replace p104:=eq_true p104;replace q104:=eq_true q104;have ea_:=Option.some.inj (hx101_1.symm.trans hx104_1);injection ea_ with ea_ en_ ec_;subst ea_;subst ec_;clear en_;have p105 : 0 ≤ (x5_1 : Int):=of_decide_eq_true va;have q105 : x5_1 < (l1.length : Int):=of_decide_eq_true va;obtain ⟨ad105,A105_1,c105_1,e105,hx105_0,hx105_1,hl105_1,hi105_1⟩:=at_T212 HR1.out x5_1 p105 q105;obtain rfl : ad102 = ad105:=(by injection e105);have HR105_1:=am hi105_1;have HC105_1:=am hl105_1;clear hi105_1 hl105_1;replace p105:=eq_true p105;replace q105:=eq_true q105;have ea_:=Option.some.inj (hx102_1.symm.trans hx105_1);injection ea_ with ea_ en_ ec_;subst ea_;subst ec_;clear en_));try go_wp2_with (first|(go_at_call 38;(with_reducible refine (calxref04_SameParts.calls k1 _ _ ((rd_T212 l0 x5_1).f1) _ _ ((rd_T212 l1 x5_1).f1) true _ ?side1 ?side2 ?side3 ?side4 A7.out).mono ?_);(case side1 => repeat (first|exact HR101_1.out|(with_reducible refine Kd.C_alloc ?_ _)|(with_reducible refine Kd.C_drewN ?_ _)|(with_reducible refine Kd.C_drew ?_)));(case side2 => exact HC101_1.out);(case side3 => repeat (first|exact HR102_1.out|(with_reducible refine Kd.C_alloc ?_ _)|(with_reducible refine Kd.C_drewN ?_ _)|(with_reducible refine Kd.C_drew ?_)));(case side4 => exact HC102_1.out);rintro e w' ⟨rfl,⟨nd,rfl⟩⟩;(try first|exact ⟨rfl,_,World.drewN_drewN _ _ _⟩|exact ⟨rfl,_,Eq.trans (World.drewN_drewN _ _ _) (congrArg (World.drewN _) (Nat.add_assoc _ _ _))⟩);have p104 : 0 ≤ (x5_1 : Int):=of_decide_eq_true va;have q104 : x5_1 < (l0.length : Int):=of_decide_eq_true va;obtain ⟨ad104,A104_1,c104_1,e104,hx104_0,hx104_1,hl104_1,hi104_1⟩:=at_T212 HR0.out x5_1 p104 q104;obtain rfl : ad101 = ad104:=(by injection e104);have HR104_1:=am hi104_1;have HC104_1:=am hl104_1;clear hi104_1 hl104_1;replace p104:=eq_true p104;replace q104:=eq_true q104;have ea_:=Option.some.inj (hx101_1.symm.trans hx104_1);injection ea_ with ea_ en_ ec_;subst ea_;subst ec_;clear en_;have p105 : 0 ≤ (x5_1 : Int):=of_decide_eq_true va;have q105 : x5_1 < (l1.length : Int):=of_decide_eq_true va;obtain ⟨ad105,A105_1,c105_1,e105,hx105_0,hx105_1,hl105_1,hi105_1⟩:=at_T212 HR1.out x5_1 p105 q105;obtain rfl : ad102 = ad105:=(by injection e105);have HR105_1:=am hi105_1;have HC105_1:=am hl105_1;clear hi105_1 hl105_1;replace p105:=eq_true p105;replace q105:=eq_true q105;have ea_:=Option.some.inj (hx102_1.symm.trans hx105_1);injection ea_ with ea_ en_ ec_;subst ea_;subst ec_;clear en_)))
         go_ret
         exact ⟨ve,by repeat (first|exact Drawn0.refl _|apply Drawn0.step)⟩
       ·replace c8:=Bool.eq_false_iff.mpr c8
        subst c8
        have H1 : (some false) = some r:=by rw [if_neg (show ¬ (false = true) by decide)] at H;exact H
        clear H
        have H:=H1
        clear H1
        obtain rfl:=Option.some.inj H
        have p101 : 0 ≤ (x5_1 : Int):=of_decide_eq_true va
        have q101 : x5_1 < (l0.length : Int):=of_decide_eq_true va
        obtain ⟨ad101,A101_1,c101_1,e101,hx101_0,hx101_1,hl101_1,hi101_1⟩:=at_T212 HR0.out x5_1 p101 q101
        cases e101
        have HR101_1:=am hi101_1
        have HC101_1:=am hl101_1
        clear hi101_1 hl101_1
        replace p101:=eq_true p101
        replace q101:=eq_true q101
        have p102 : 0 ≤ (x5_1 : Int):=of_decide_eq_true va
        have q102 : x5_1 < (l1.length : Int):=of_decide_eq_true va
        obtain ⟨ad102,A102_1,c102_1,e102,hx102_0,hx102_1,hl102_1,hi102_1⟩:=at_T212 HR1.out x5_1 p102 q102
        cases e102
        have HR102_1:=am hi102_1
        have HC102_1:=am hl102_1
        clear hi102_1 hl102_1
        replace p102:=eq_true p102
        replace q102:=eq_true q102
        go_wp2_with (first|(go_at_call 38;(with_reducible refine (calxref04_SameParts.calls k1 _ _ ((rd_T212 l0 x5_1).f1) _ _ ((rd_T212 l1 x5_1).f1) false _ ?side1 ?side2 ?side3 ?side4 A7.out).mono ?_);(case side1 => repeat (first|exact HR101_1.out|(with_reducible refine Kd.C_alloc ?_ _)|(with_reducible refine Kd.C_drewN ?_ _)|(with_reducible refine Kd.C_drew ?_)));(case side2 => exact HC101_1.out);(case side3 => repeat (first|exact HR102_1.out|(with_reducible refine Kd.C_alloc ?_ _)|(with_reducible refine Kd.C_drewN ?_ _)|(with_reducible refine Kd.C_drew ?_)));(case side4 => exact HC102_1.out);rintro e w' ⟨rfl,⟨nd,rfl⟩⟩;(try first|exact ⟨rfl,_,World.drewN_drewN _ _ _⟩|exact ⟨rfl,_,Eq.trans (World.drewN_drewN _ _ _) (congrArg (World.drewN _) (Nat.add_assoc _ _ _))⟩)))
        repeat (go_quiet (first|(go_at_call 38;(with_reducible refine (calxref04_SameParts.calls k1 _ _ ((rd_T212 l0 x5_1).f1) _ _ ((rd_T212 l1 x5_1).f1) false _ ?side1 ?side2 ?side3 ?side4 A7.out).mono ?_);(case side1 => repeat (first|exact HR101_1.out|(with_reducible refine Kd.C_alloc ?_ _)|(with_reducible refine Kd.C_drewN ?_ _)|(with_reducible refine Kd.C_drew ?_)));(case side2 => exact HC101_1.out);(case side3 => repeat (first|exact HR102_1.out|(with_reducible refine Kd.C_alloc ?_ _)|(with_reducible refine Kd.C_drewN ?_ _)|(with_reducible refine Kd.C_drew ?_)));(case side4 => exact HC102_1.out);rintro e w' ⟨rfl,⟨nd,rfl⟩⟩;(try first|exact ⟨rfl,_,World.drewN_drewN _ _ _⟩|exact ⟨rfl,_,Eq.trans (World.drewN_drewN _ _ _) (congrArg (World.drewN _) (Nat.add_assoc _ _ _))⟩)));try go_wp2_with (first|(go_at_call 38;(with_reducible refine (calxref04_SameParts.calls k1 _ _ ((rd_T212 l0 x5_1).f1) _ _ ((rd_T212 l1 x5_1).f1) false _ ?side1 ?side2 ?side3 ?side4 A7.out).mono ?_);(case side1 => repeat (first|exact HR101_1.out|(with_reducible refine Kd.C_alloc ?_ _)|(with_reducible refine Kd.C_drewN ?_ _)|(with_reducible refine Kd.C_drew ?_)));(case side2 => exact HC101_1.out);(case side3 => repeat (first|exact HR102_1.out|(with_reducible refine Kd.C_alloc ?_ _)|(with_reducible refine Kd.C_drewN ?_ _)|(with_reducible refine Kd.C_drew ?_)));(case side4 => exact HC102_1.out);rintro e w' ⟨rfl,⟨nd,rfl⟩⟩;(try first|exact ⟨rfl,_,World.drewN_drewN _ _ _⟩|exact ⟨rfl,_,Eq.trans (World.drewN_drewN _ _ _) (congrArg (World.drewN _) (Nat.add_assoc _ _ _))⟩))))
        go_ret
        exact ⟨ve,by repeat (first|exact Drawn0.refl _|apply Drawn0.step)⟩
      ·rw [if_neg c6] at H
       exact absurd H (by simp)
     ·rw [if_neg c5] at H
      exact absurd H (by simp)
    ·rw [if_neg c4] at H
     have c4b0 : decide (x5_1 < (l0.length : Int)) = false:=decide_eq_false c4
     clear c4
     obtain rfl:=Option.some.inj H
     go_wp2
     repeat (go_quiet (fail);try go_wp2)
     go_ret
     exact ⟨ve,by repeat (first|exact Drawn0.refl _|apply Drawn0.step)⟩
 ·rw [if_neg c3] at H
  have c3b0 : ((l0.length : Int) == (l1.length : Int)) = false:=beq_eq_false_iff_ne.mpr c3
  have c3b1 : ((l0.length : Int) != (l1.length : Int)) = true:=bne_iff_ne.mpr c3
  have c3b2 : (l0.length == l1.length) = false:=by first|simpa using c3|(simp at c3 ⊢;omega)
  obtain rfl:=Option.some.inj H
  go_enter Tryz.func65,Tryz.ntmps65
  go_wp2
  repeat (go_quiet (fail);try go_wp2)
  go_ret
  exact ⟨ve,by repeat (first|exact Drawn0.refl _|apply Drawn0.step)⟩
end Go.Proofs.YtjjfpmapjjemcaaGreat.B
end
