import Derived.Test.YtjjfpmapjjemcaaGreatQ11
import Derived.Test.YtjjfpmapjjemcaaGreatQ31
import Derived.Test.YtjjfpmapjjemcaaGreatQ35
import Derived.Test.YtjjfpmapjjemcaaGreatQ44
import Derived.Test.YtjjfpmapjjemcaaGreatQ7
set_option linter.unusedVariables false
set_option linter.unusedSimpArgs false
section
namespace Go.Proofs.YtjjfpmapjjemcaaGreat.B
open Go.RowKit Go.Proofs.YtjjfpmapjjemcaaGreatW.PrintWords Go.Proofs.YtjjfpmapjjemcaaGreatW.PrintLast Go.Proofs.YtjjfpmapjjemcaaGreatW.PrintMore
attribute [local go_sem] max2_int min2_int max_two min_two max_three min_three max_four min_four
def R6_29.T : Bool × List (List Nat × List Nat):=(true,[([],[]),([],[]),([1],[1]),([],[]),([],[]),([],[]),([5],[5]),([6],[6]),([4,7],[4,7]),([8],[8]),([9],[9]),([3,10],[3,10]),([0,2,11,11,0,1,2,3,4,5,6,7,8,9,10,11],[0,2,11])])
def R6_29.B : List Nat:=[0,0,2,0,0,0,32,96,240,496,1008,2040,4095]
theorem R6_29.tab : rtab .any (opsOf Tryz.f6 29) = R6_29.T:=by kernel_rfl
theorem R6_29.bits : waitsOk R6_29.T.2 R6_29.B = true:=by kernel_rfl
theorem below3 {w w1 w2 w3 : World} (h1 : Below w.heap.size w w1) (h2 : Below w1.heap.size w1 w2) (h3 : Below w2.heap.size w2 w3) : Below w.heap.size w w3 :=
 have h:=below_then h1 (below_size h1) h2
 below_then h (below_size h) h3
end Go.Proofs.YtjjfpmapjjemcaaGreat.B
end
