import Derived.Test.YtjjfpmapjjemcaaGreatQ20
import Derived.Test.YtjjfpmapjjemcaaGreatQ38
import Derived.Test.YtjjfpmapjjemcaaGreatQ47
import Derived.Test.YtjjfpmapjjemcaaGreatQ7
set_option linter.unusedVariables false
set_option linter.unusedSimpArgs false
section
namespace Go.Proofs.YtjjfpmapjjemcaaGreat.B
open Go.RowKit Go.Proofs.YtjjfpmapjjemcaaGreatW.PrintWords Go.Proofs.YtjjfpmapjjemcaaGreatW.PrintLast Go.Proofs.YtjjfpmapjjemcaaGreatW.PrintMore
attribute [local go_sem] max2_int min2_int max_two min_two max_three min_three max_four min_four
theorem purePitWorth (lA : List Int) (_ : lA.length ≤ 9223372036854775807) (_ : ∀ x ∈ lA,W64 x) (lB : List S84) (_ : lB.length ≤ 9223372036854775807) (_ : ∀ x ∈ lB,Wf6 x) (a1 : Int) (w1 : (Lit.int .u8 a1).wf = true) (l : List S113) (_ : l.length ≤ 9223372036854775807) (_ : ∀ x ∈ l,Wf113 x) (ss : List Int) (_ : ss.length ≤ 9223372036854775807) (ho : ∀ x ∈ ss,(Lit.int .u16 x).wf = true) : ∃ k,calxlaw04_PitWorth.f k lA lB a1 l ss = some true:=by
 have u8 : ∀ x : Int,(Lit.int .u8 x).wf = true → 0 ≤ x ∧ x ≤ 255:=by
  intro x hx
  have h1 : IntKind.u8.min = 0:=rfl
  have h2 : IntKind.u8.max = 255:=rfl
  simp only [Lit.wf,Bool.and_eq_true,decide_eq_true_eq] at hx
  omega
 have u16 : ∀ x : Int,(Lit.int .u16 x).wf = true → 0 ≤ x ∧ x ≤ 65535:=by
  intro x hx
  have h1 : IntKind.u16.min = 0:=rfl
  have h2 : IntKind.u16.max = 65535:=rfl
  simp only [Lit.wf,Bool.and_eq_true,decide_eq_true_eq] at hx
  omega
 exact ⟨0,if_pos ⟨(u8 a1 w1).1,(u8 a1 w1).2,fun x hx => u16 x (ho x hx)⟩⟩
end Go.Proofs.YtjjfpmapjjemcaaGreat.B
end
