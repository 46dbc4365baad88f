import Derived.Test.YtjjfpmapjjemcaaGreatQ35
import Derived.Test.YtjjfpmapjjemcaaGreatQ7
set_option linter.unusedVariables false
set_option linter.unusedSimpArgs false
section
namespace Go.Proofs.YtjjfpmapjjemcaaGreat.B
open Go.RowKit Go.Proofs.YtjjfpmapjjemcaaGreatW.PrintWords Go.Proofs.YtjjfpmapjjemcaaGreatW.PrintLast Go.Proofs.YtjjfpmapjjemcaaGreatW.PrintMore
attribute [local go_sem] max2_int min2_int max_two min_two max_three min_three max_four min_four
def pit_Barrows.f (l0_0 : List Int) (l0_1 : List S84) : Option (List Int × Int):=some (idsE (fun Y => Y.barrows.map (·.f0)) (playedP l0_0 l0_1 l0_1.length))
theorem pit_Barrows.calls (A0_0 : Option Addr) (c0_0 : Nat) (l0_0 : List Int) (A0_1 : Option Addr) (c0_1 : Nat) (l0_1 : List S84) (r1 : List Int) (r2 : Int) (w : World) (hr0_0 : Kd.C (Kd.int .i64) w A0_0 l0_0.length l0_0) (hc0_0 : l0_0.length ≤ c0_0) (hr0_1 : Kd.C k84 w A0_1 l0_1.length l0_1) (hc0_1 : l0_1.length ≤ c0_1) (h : pit_Barrows.f l0_0 l0_1 = some (r1,r2)) :
  Calls Tryz.prog 18 #[.agg #[.slice A0_0 l0_0.length c0_0,.slice A0_1 l0_1.length c0_1]] w fun e w' => ∃ v_ : Value,e = .returned (.tuple #[v_,ii r2]) ∧ Kd.V (Kd.int .i64) 3 w' w.heap.size (fun k_ => w.heap.size ≤ k_) v_ r1 ∧ Below w.heap.size w w':=by
 have h':=Option.some.inj h
 refine (barrows_calls A0_0 A0_1 c0_0 c0_1 l0_0 l0_1 w w.heap.size (Nat.le_refl _) (C_lo hr0_0) hc0_0 hr0_1 hc0_1).mono ?_
 rintro e w' ⟨hb,hm⟩
 cases hp : playedP l0_0 l0_1 l0_1.length with
|error x =>
  rw [hp] at h' hm
  obtain ⟨rfl,rfl⟩:=Prod.mk.inj h'
  exact ⟨_,hm,Kd.V_nil _ _ _ _ _,hb⟩
|ok Y =>
  rw [hp] at h' hm
  obtain ⟨rfl,rfl⟩:=Prod.mk.inj h'
  obtain ⟨A3,c3,he,hl,hF⟩:=hm
  exact ⟨_,he,Kd.V_mk hl hF,hb⟩
end Go.Proofs.YtjjfpmapjjemcaaGreat.B
end
