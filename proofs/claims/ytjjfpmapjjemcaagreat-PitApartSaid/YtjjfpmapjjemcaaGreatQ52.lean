import Derived.Test.YtjjfpmapjjemcaaGreatQ35
import Derived.Test.YtjjfpmapjjemcaaGreatQ49
import Derived.Test.YtjjfpmapjjemcaaGreatQ7
set_option linter.unusedVariables false
set_option linter.unusedSimpArgs false
section
namespace Go.Proofs.YtjjfpmapjjemcaaGreat.B
open Go.RowKit Go.Proofs.YtjjfpmapjjemcaaGreatW.PrintWords Go.Proofs.YtjjfpmapjjemcaaGreatW.PrintLast Go.Proofs.YtjjfpmapjjemcaaGreatW.PrintMore
attribute [local go_sem] max2_int min2_int max_two min_two max_three min_three max_four min_four
def swapE (rooms : List Int) (stirs : List S84) (step : Int) : List Int × List S84 × Bool × Int:=match playedP rooms stirs stirs.length with
|.error x => ([],[],false,x.1)
|.ok Y => if inP step 1 ((stirs.length : Int) - 1) = true then (match swapR rooms stirs step with
  |.error x => ([],[],false,x.1)
  |.ok Z => (rooms,swapP stirs (step.toNat - 1),alikeP Y Z,0))
  else ([],[],false,1)
def pit_Swap.f (l0_0 : List Int) (l0_1 : List S84) (a1 : Int) : Option (List Int × List S84 × Bool × Int):=some (swapE l0_0 l0_1 a1)
theorem pit_Swap.calls (A0_0 : Option Addr) (c0_0 : Nat) (l0_0 : List Int) (A0_1 : Option Addr) (c0_1 : Nat) (l0_1 : List S84) (a1 : Int) (r1 : List Int) (r2 : List S84) (r3 : Bool) (r4 : Int) (w : World) (hr0_0 : Kd.C (Kd.int .i64) w A0_0 l0_0.length l0_0) (hc0_0 : l0_0.length ≤ c0_0) (hr0_1 : Kd.C k84 w A0_1 l0_1.length l0_1) (hc0_1 : l0_1.length ≤ c0_1) (h : pit_Swap.f l0_0 l0_1 a1 = some (r1,r2,r3,r4)) :
  Calls Tryz.prog 44 #[.agg #[.slice A0_0 l0_0.length c0_0,.slice A0_1 l0_1.length c0_1],ii a1] w fun e w' => ∃ v1_ v2_ : Value,e = .returned (.tuple #[.agg #[v1_,v2_],.bool r3,ii r4]) ∧ Kd.V (Kd.int .i64) 3 w' w.heap.size (fun k_ => w.heap.size ≤ k_) v1_ r1 ∧ Kd.V k84 84 w' w.heap.size (fun k_ => w.heap.size ≤ k_) v2_ r2 ∧ Below w.heap.size w w':=by
 have h':=Option.some.inj h
 refine (swap_calls A0_0 A0_1 c0_0 c0_1 l0_0 l0_1 w w.heap.size (Nat.le_refl _) (C_lo hr0_0) hc0_0 hr0_1 hc0_1 a1).mono ?_
 rintro e w' ⟨hb,hm⟩
 unfold swapE at h'
 cases hp : playedP l0_0 l0_1 l0_1.length with
|error x =>
  rw [hp] at h' hm
  simp only [Prod.mk.injEq] at h'
  obtain ⟨rfl,rfl,rfl,rfl⟩:=h'
  exact ⟨_,_,hm,Kd.V_nil _ _ _ _ _,Kd.V_nil _ _ _ _ _,hb⟩
|ok Y =>
  rw [hp] at h' hm
  dsimp only at h' hm
  by_cases c : inP a1 1 ((l0_1.length : Int) - 1) = true
  ·rw [if_pos c] at h' hm
   cases hs : swapR l0_0 l0_1 a1 with
  |error x =>
    rw [hs] at h' hm
    simp only [Prod.mk.injEq] at h'
    obtain ⟨rfl,rfl,rfl,rfl⟩:=h'
    exact ⟨_,_,hm,Kd.V_nil _ _ _ _ _,Kd.V_nil _ _ _ _ _,hb⟩
  |ok Z =>
    rw [hs] at h' hm
    simp only [Prod.mk.injEq] at h'
    obtain ⟨rfl,rfl,rfl,rfl⟩:=h'
    obtain ⟨A5,A6,c5,c6,he,hl5,hl6,hF5,hF6⟩:=hm
    have hsl : l0_1.length = (swapP l0_1 (a1.toNat - 1)).length:=(Kd.F_now hF6).1.symm
    rw [hsl] at he hl6 hF6
    exact ⟨_,_,he,Kd.V_mk hl5 hF5,Kd.V_mk hl6 hF6,hb⟩
  ·rw [if_neg c] at h' hm
   simp only [Prod.mk.injEq] at h'
   obtain ⟨rfl,rfl,rfl,rfl⟩:=h'
   exact ⟨_,_,hm,Kd.V_nil _ _ _ _ _,Kd.V_nil _ _ _ _ _,hb⟩
end Go.Proofs.YtjjfpmapjjemcaaGreat.B
end
