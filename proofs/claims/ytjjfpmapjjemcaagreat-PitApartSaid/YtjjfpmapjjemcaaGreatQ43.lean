import Derived.Test.YtjjfpmapjjemcaaGreatQ35
import Derived.Test.YtjjfpmapjjemcaaGreatQ37
import Derived.Test.YtjjfpmapjjemcaaGreatQ7
set_option linter.unusedVariables false
set_option linter.unusedSimpArgs false
section
namespace Go.Proofs.YtjjfpmapjjemcaaGreat.B
open Go.RowKit Go.Proofs.YtjjfpmapjjemcaaGreatW.PrintWords Go.Proofs.YtjjfpmapjjemcaaGreatW.PrintLast Go.Proofs.YtjjfpmapjjemcaaGreatW.PrintMore
attribute [local go_sem] max2_int min2_int max_two min_two max_three min_three max_four min_four
def pit_Content.f (l0_0 : List Int) (l0_1 : List S84) (a1 : Int) (a2 : Int) : Option (List S212 × Int):=some (contentE l0_0 l0_1 a1 a2)
theorem pit_Content.calls (A0_0 : Option Addr) (c0_0 : Nat) (l0_0 : List Int) (A0_1 : Option Addr) (c0_1 : Nat) (l0_1 : List S84) (a1 : Int) (a2 : Int) (r1 : List S212) (r2 : Int) (w : World) (hr0_0 : Kd.C (Kd.int .i64) w A0_0 l0_0.length l0_0) (hc0_0 : l0_0.length ≤ c0_0) (hr0_1 : Kd.C k84 w A0_1 l0_1.length l0_1) (hc0_1 : l0_1.length ≤ c0_1) (h : pit_Content.f l0_0 l0_1 a1 a2 = some (r1,r2)) :
  Calls Tryz.prog 64 #[.agg #[.slice A0_0 l0_0.length c0_0,.slice A0_1 l0_1.length c0_1],ii a1,ii a2] w fun e w' => ∃ v_ : Value,e = .returned (.tuple #[v_,ii r2]) ∧ Kd.V k212 212 w' w.heap.size (fun k_ => w.heap.size ≤ k_) v_ r1 ∧ Below w.heap.size w w':=by
 have h':=Option.some.inj h
 have hh:=content_calls A0_0 A0_1 c0_0 c0_1 l0_0 l0_1 w w.heap.size (Nat.le_refl _) (C_lo hr0_0) hc0_0 hr0_1 hc0_1 a1 a2
 rw [h'] at hh
 refine hh.mono ?_
 rintro e w' ⟨hb,v,he,hR⟩
 obtain ⟨A,c,rfl⟩:=Kd.R_slice hR
 exact ⟨_,he,Kd.V_mk (Kd.R_reads' hR).2.1 (Kd.F_mono (Kd.R_F (Kd.R_bound hR)) fun k hk => hk.2.1),hb⟩
end Go.Proofs.YtjjfpmapjjemcaaGreat.B
end
