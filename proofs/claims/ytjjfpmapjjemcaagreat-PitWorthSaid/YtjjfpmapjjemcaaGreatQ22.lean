import Derived.Test.YtjjfpmapjjemcaaGreatQ20
import Derived.Test.YtjjfpmapjjemcaaGreatQ7
set_option linter.unusedVariables false
set_option linter.unusedSimpArgs false
section
namespace Go.Proofs.YtjjfpmapjjemcaaGreat.B
open Go.RowKit Go.Proofs.YtjjfpmapjjemcaaGreatW.PrintWords Go.Proofs.YtjjfpmapjjemcaaGreatW.PrintLast Go.Proofs.YtjjfpmapjjemcaaGreatW.PrintMore
attribute [local go_sem] max2_int min2_int max_two min_two max_three min_three max_four min_four
set_option maxRecDepth 100000 in
theorem has154_calls (A : Option Addr) (c : Nat) (l : List S113) (p : S113 → Bool) (K : Nat) (caps : Array Value) (Inv : World → Prop) (W : World) (hr : Kd.C k113 W A l.length l) (hc : l.length ≤ c)
  (ek : ∀ args w,(callFunc K args).run Tryz.prog w = .ok (.enter K args) w) (hi0 : Inv W) (hi1 : ∀ w w',Inv w → Below w.heap.size w w' → Inv w')
  (hcl : ∀ (x : S113) (w : World),x ∈ l → Inv w → Calls Tryz.prog K (#[.agg #[ii x.f0,ii x.f1.f0,ii x.f1.f1]] ++ caps) w fun e w' => e = .returned (.bool (p x)) ∧ Below w.heap.size w w') :
  Calls Tryz.prog 154 #[.slice A l.length c,.func (.func K) #[] caps] W fun e W' => e = .returned (.bool (l.any p)) ∧ Below W.heap.size W W':=by
 have HC:=am (idx209_calls A c l p K caps Inv W hr hc ek hi0 hi1 hcl)
 clear hr hc hi0 hi1 hcl
 go_enter Tryz.func154,Tryz.ntmps154
 go_wp2_with fail
 refine HC.out.mono ?_
 rintro e w' ⟨rfl,hd⟩
 have HD:=am hd
 clear hd
 go_wp2
 go_ret
 exact ⟨by rw [← idxP_nn];rfl,HD.out⟩
end Go.Proofs.YtjjfpmapjjemcaaGreat.B
end
