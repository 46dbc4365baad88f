/- Proved: for every book, entry, list of numbers and five further numbers the law BookDigests returns true and leaves its arguments as they were. Conditions: none. -/
import Derived.WalkKit
import Derived.ProofKit
import Derived.OpenShut
import Derived.ShutString
import Derived.ChangeOld
import Derived.Below
import Derived.SizedLaws
import Derived.Test.YtmfphlfakmnbmaaRows
import Derived.Test.YtmfphlfakmnbmaaQ1
import Derived.Test.YtmfphlfakmnbmaaQ2
import Derived.Test.YtmfphlfakmnbmaaQ3
import Derived.Test.YtmfphlfakmnbmaaQ4
import Derived.Test.YtmfphlfakmnbmaaQ5
import Derived.Test.YtmfphlfakmnbmaaPBookDigests1
import Derived.Test.YtmfphlfakmnbmaaPBookDigests2
set_option linter.unusedVariables false
set_option linter.unusedSimpArgs false
section
namespace Go.Proofs.Ytmfphlfakmnbmaa.B
open Go.RowKit Go.Proofs.YtmfphlfakmnbmaaW.PrintWords Go.Proofs.YtmfphlfakmnbmaaW.PrintLast Go.Proofs.YtmfphlfakmnbmaaW.PrintMore
attribute [local go_sem] max2_int min2_int max_two min_two max_three min_three max_four min_four
theorem any_not2 (l : List Int) : l.any (fun n => !isDigP n) = !l.all isDigP := by
  induction l with
  | nil => rfl
  | cons a r ih => simp only [List.any_cons, List.all_cons, ih, Bool.not_and]
theorem ref_Digest_is {l : List Int} (hl : l.length ≤ 12) : calxref08_Digest.f 100 l = some (digestP l) := by
  unfold calxref08_Digest.f digestP
  rw [any_not2]
  by_cases h : 8 < l.length
  · rw [if_pos (by omega), if_pos h]
  · rw [if_neg (by omega), if_neg h, ref_numbers (by omega) (by omega), Option.bind_some, ref_digest (by omega) (by omega)]
    cases l.all isDigP <;> rfl
def leafA (x : S29) : Int × Int := if rightP x = true then (leafP x, 0) else (0, 1)
theorem book_Leaf_is (a b c d : Int) : book_Leaf.f a b c d = some (leafA ⟨a, b, c, d⟩) := by
  unfold book_Leaf.f leafA book_leaf.f
  rw [right_some]
  simp only [Option.bind_some]
  by_cases h : rightP ⟨a, b, c, d⟩ = true
  · rw [if_pos h, if_pos h]; rfl
  · rw [if_neg h, if_neg h]
theorem ref_leaf_is (a b c d : Int) : calxref08_leaf.f 100 a b c d = some (leafP ⟨a, b, c, d⟩) := by
  unfold calxref08_leaf.f calxref08_parts.f
  simp only [Option.bind_some]
  rw [ref_digest (by simp) (by simp)]
  rfl
theorem ref_Leaf_is (a b c d : Int) : calxref08_Leaf.f 100 a b c d = some (leafA ⟨a, b, c, d⟩) := by
  unfold calxref08_Leaf.f leafA
  rw [ref_entry, ref_leaf_is]
  simp only [Option.bind_some]
  by_cases h : rightP ⟨a, b, c, d⟩ = true
  · rw [if_pos h, if_pos h]
  · rw [if_neg h, if_neg h]
def nodeA (a b c : Int) : Int × Int := if (2 ≤ a ∧ a ≤ 64) ∧ isDigP b = true ∧ isDigP c = true then (dig [1, a, b, c], 0) else (0, 1)
theorem book_node_is (a b c : Int) : book_node.f a b c = some (dig [1, a, b, c]) := rfl
theorem book_Node_is (a b c : Int) : book_Node.f a b c = some (nodeA a b c) := by
  unfold book_Node.f nodeA
  rw [within_some, isDigest_some, isDigest_some, book_node_is]
  simp only [Option.bind_some]
  by_cases h1 : 2 ≤ a ∧ a ≤ 64
  · rw [if_pos (by simpa using h1)]
    by_cases h2 : isDigP b = true
    · rw [if_pos h2]
      by_cases h3 : isDigP c = true
      · rw [if_pos h3, if_pos ⟨h1, h2, h3⟩]
      · rw [if_neg h3, if_neg (fun h => h3 h.2.2)]
    · rw [if_neg h2, if_neg (fun h => h2 h.2.1)]
  · rw [if_neg (by simpa using h1), if_neg (fun h => h1 h.1)]
theorem ref_node_is (a b c : Int) : calxref08_node.f 100 a b c = some (dig [1, a, b, c]) := by
  unfold calxref08_node.f
  rw [ref_digest (by simp) (by simp)]
  rfl
theorem ref_Node_is (a b c : Int) : calxref08_Node.f 100 a b c = some (nodeA a b c) := by
  unfold calxref08_Node.f nodeA
  rw [ref_within, ref_isDigest, ref_isDigest, ref_node_is]
  simp only [Option.bind_some]
  by_cases h1 : 2 ≤ a ∧ a ≤ 64
  · rw [if_pos (by simpa using h1)]
    by_cases h2 : isDigP b = true
    · rw [if_pos h2]
      by_cases h3 : isDigP c = true
      · rw [if_pos h3, if_pos ⟨h1, h2, h3⟩]
      · rw [if_neg h3, if_neg (fun h => h3 h.2.2)]
    · rw [if_neg h2, if_neg (fun h => h2 h.2.1)]
  · rw [if_neg (by simpa using h1), if_neg (fun h => h1 h.1)]
def rootA (l : List S29) : Int × Int := if checkP l = 0 then (rootP l, 0) else (0, checkP l)
theorem book_Root_is (l : List S29) : book_Root.f l = some (rootA l) := by
  unfold book_Root.f rootA book_Check.f
  simp only [Option.bind_some]
  by_cases h : checkP l = 0
  · rw [if_pos h, if_pos h]
    unfold book_root.f
    rw [if_pos (check_len h)]
    rfl
  · rw [if_neg h, if_neg h]
theorem ref_Root_is (l : List S29) : calxref08_Root.f 100 l = some (rootA l) := by
  unfold calxref08_Root.f rootA
  rw [ref_check l (by omega)]
  simp only [Option.bind_some]
  by_cases h : checkP l = 0
  · rw [if_pos h, if_pos h]
    unfold calxref08_root.f
    rw [if_pos (check_len h)]
    rfl
  · rw [if_neg h, if_neg h]
theorem pureBookDigests (l : List S29) (_ : l.length ≤ 9223372036854775807) (_ : ∀ x ∈ l, Wf4 x) (x : S29) (_ : Wf4 x) (n : List Int) (_ : n.length ≤ 9223372036854775807) (_ : ∀ x ∈ n, W64 x) (long : Int) (_ : (Lit.int .i64 long).wf = true) (left : Int) (_ : (Lit.int .i64 left).wf = true) (right : Int) (_ : (Lit.int .i64 right).wf = true) (fr : Int) (_ : (Lit.int .i64 fr).wf = true) (many : Int) (_ : (Lit.int .i64 many).wf = true) :
    ∃ k, calxlaw08_BookDigests.f k l x.f0 x.f1 x.f2 x.f3 n long left right fr many = some true := by
  refine ⟨101, ?_⟩
  have hj : ∀ b, (b = false → n.length ≤ 12) → calxlaw08_BookDigests.j0 101 l n long left right fr many b x.f0 x.f1 x.f2 x.f3 = some true := by
    intro b hb
    cases b with
    | true => rfl
    | false =>
      simp only [calxlaw08_BookDigests.j0]
      rw [ref_Digest_is (hb rfl), book_Leaf_is, ref_Leaf_is, book_Node_is, ref_Node_is, book_Root_is, ref_Root_is, ref_check l (by omega)]
      unfold book_Digest.f book_Part.f calxref08_Part.f book_Check.f calxlaw08_sanity.f
      simp
  have hf : ∃ b, calxlaw08_few.f l = some b := by unfold calxlaw08_few.f; split; exact ⟨_, rfl⟩; split <;> exact ⟨_, rfl⟩
  obtain ⟨b, hb⟩ := hf
  unfold calxlaw08_BookDigests.f
  rw [hb]
  cases b with
  | true =>
    show calxlaw08_BookDigests.j0 101 l n long left right fr many (decide ((n.length : Int) > 12)) x.f0 x.f1 x.f2 x.f3 = some true
    exact hj _ (fun h => by have := of_decide_eq_false h; omega)
  | false => exact hj true (fun h => by cases h)
end Go.Proofs.Ytmfphlfakmnbmaa.B
end

section
namespace Go.Proofs.Ytmfphlfakmnbmaa.bookDigests
open Go.ChangeShapes Go.WideShapes Go.ChangeAt Go.RowKit Go.Proofs.Ytmfphlfakmnbmaa.B
open Go.ChangeMaps (open_string shut_string)
theorem own : ownKnob Try.prog.godebug = none := by kernel_rfl
theorem laidOut : laidOutB Try.prog = true := by kernel_rfl
set_option maxRecDepth 100000 in
theorem lifted (os : Os) (started : os.Started) (H : Type) (enc : TypeId × Value → H) :
    ReturnsInHanded {} Try.checked os 7 .any (Rows.bookDigestsSpec.pre6 enc Try.prog Try.f7 Rows.bookDigestsRow.domain false) (Rows.bookDigestsSpec.post enc Try.prog Try.f7 false true false false) := by
  refine returnsInHanded_of_change_sized (C := Try.checked) own started (by kernel_rfl) Try.func7
    (ChangeSpec.witness6 (enc := enc) (C := Try.checked) false ⟨#[], #[.slice none 0 0, .agg #[.int .i64 0, .int .i64 0, .int .i64 0, .int .i64 0], .slice none 0 0, .int .i64 0, .int .i64 0, .int .i64 0, .int .i64 0, .int .i64 0], []⟩ 8 (by kernel_rfl) (by kernel_rfl) (by kernel_rfl) (by kernel_rfl)) ?_
  intro W base args ds gs before hval0 hW hcnd hsz0 _
  have hval : ∀ (j : Nat) t v, Try.f7.params[j]? = some t → args[j]? = some v → Value.okWide Try.prog W .any base t v := hval0
  have hW' := hW
  obtain ⟨p, q, hA0, hV, rfl, hfz, hnd⟩ := hW
  have hA : DataW.TrodAll enc Try.prog W 0 (fun _ => true) true Try.f7.params.toList args.toList ds p := hA0
  rw [Try.params7] at hA hval
  obtain ⟨v0, vs0, d0, ds0, p0, q0, hargs, rfl, rfl, h0, r0⟩ := trodAll_cons hA
  obtain ⟨v1, vs1, d1, ds1, p1, q1, rfl, rfl, rfl, h1, r1⟩ := trodAll_cons r0
  obtain ⟨v2, vs2, d2, ds2, p2, q2, rfl, rfl, rfl, h2, r2⟩ := trodAll_cons r1
  obtain ⟨v3, vs3, d3, ds3, p3, q3, rfl, rfl, rfl, h3, r3⟩ := trodAll_cons r2
  obtain ⟨v4, vs4, d4, ds4, p4, q4, rfl, rfl, rfl, h4, r4⟩ := trodAll_cons r3
  obtain ⟨v5, vs5, d5, ds5, p5, q5, rfl, rfl, rfl, h5, r5⟩ := trodAll_cons r4
  obtain ⟨v6, vs6, d6, ds6, p6, q6, rfl, rfl, rfl, h6, r6⟩ := trodAll_cons r5
  obtain ⟨v7, vs7, d7, ds7, p7, q7, rfl, rfl, rfl, h7, r7⟩ := trodAll_cons r6
  obtain ⟨rfl, rfl, rfl⟩ := trodAll_nil r7
  obtain rfl : args = #[v0, v1, v2, v3, v4, v5, v6, v7] := by cases args; simp_all
  obtain ⟨rfl, rfl⟩ := trodVars_none hV
  have k0 := h0
  have lt0 : ∀ x ∈ p0, x.block < W.heap.size := by obtain ⟨m, hm⟩ := k0; exact DataW.trod_lt m _ _ _ hm
  obtain ⟨a0, len0, cap0, rfl⟩ := okWide_slice Try.underlying32 (hval 0 32 v0 rfl rfl)
  obtain ⟨l0, rfl, c0, r0C, o0⟩ := arg_slice opens32 h0
  have k1 := h1
  have lt1 : ∀ x ∈ p1, x.block < W.heap.size := by obtain ⟨m, hm⟩ := k1; exact DataW.trod_lt m _ _ _ hm
  obtain ⟨x1, rfl, o1⟩ := arg29 (hval 1 29 v1 rfl rfl) h1
  have k2 := h2
  have lt2 : ∀ x ∈ p2, x.block < W.heap.size := by obtain ⟨m, hm⟩ := k2; exact DataW.trod_lt m _ _ _ hm
  obtain ⟨a2, len2, cap2, rfl⟩ := okWide_slice Try.underlying58 (hval 2 58 v2 rfl rfl)
  obtain ⟨l2, rfl, c2, r2C, o2⟩ := arg_slice opens58 h2
  obtain ⟨a3, rfl, rfl, rfl, w3⟩ := open_int Try.underlying3 (hval 3 3 v3 rfl rfl) h3
  obtain ⟨a4, rfl, rfl, rfl, w4⟩ := open_int Try.underlying3 (hval 4 3 v4 rfl rfl) h4
  obtain ⟨a5, rfl, rfl, rfl, w5⟩ := open_int Try.underlying3 (hval 5 3 v5 rfl rfl) h5
  obtain ⟨a6, rfl, rfl, rfl, w6⟩ := open_int Try.underlying3 (hval 6 3 v6 rfl rfl) h6
  obtain ⟨a7, rfl, rfl, rfl, w7⟩ := open_int Try.underlying3 (hval 7 3 v7 rfl rfl) h7
  clear hA0 hval0 hsz0
  obtain ⟨k, hk⟩ := pureBookDigests l0 r0C.2.1 o0 x1 o1 l2 r2C.2.1 o2 a3 w3 a4 w4 a5 w5 a6 w6 a7 w7
  refine (calxlaw08_BookDigests.calls k _ _ l0 x1.f0 x1.f1 x1.f2 x1.f3 _ _ l2 a3 a4 a5 a6 a7 true W r0C c0 r2C c2 hk).mono fun e W' ⟨he, bel⟩ => ?_
  subst he
  exact ⟨_, rfl, _, _, _, [], _, [], hW', trodAll_mk1 (shut_bool Try.underlying4 _), (trodAll_cons_mk (Below.trod laidOut (by kernel_rfl) (of_decide_eq_true (by kernel_rfl)) k0 bel lt0) (trodAll_cons_mk (Below.trod laidOut (by kernel_rfl) (of_decide_eq_true (by kernel_rfl)) k1 bel lt1) (trodAll_cons_mk (Below.trod laidOut (by kernel_rfl) (of_decide_eq_true (by kernel_rfl)) k2 bel lt2) (trodAll_cons_mk (shut_int Try.underlying3 w3) (trodAll_cons_mk (shut_int Try.underlying3 w4) (trodAll_cons_mk (shut_int Try.underlying3 w5) (trodAll_cons_mk (shut_int Try.underlying3 w6) (trodAll_cons_mk (shut_int Try.underlying3 w7) trodAll_mk0)))))))), rfl, bel.frame _, fun h => by cases h⟩
theorem over : Rows.bookDigestsRow.holds Try.pinned (OpenSpec.ofChange Rows.bookDigestsSpec) :=
  OpenClaim.holds_of_wide 7 Try.f7 rfl rfl rfl rfl rfl rfl rfl ⟨rfl, rfl, rfl, rfl, rfl⟩ rfl rfl rfl rfl rfl (by kernel_rfl) Try.func7 (by kernel_rfl)
    (of_decide_eq_true (by kernel_rfl)) (by unfold Func.isWrapper; first | (rw [if_pos (by decide +kernel)]; kernel_rfl) | (rw [if_neg (by decide +kernel)]; exact ⟨rfl, rfl⟩))
    (fun os started H enc _ => lifted os started H enc)
theorem proved : Rows.BookDigestsSaid := over
end Go.Proofs.Ytmfphlfakmnbmaa.bookDigests
namespace Go.Proofs.Ytmfphlfakmnbmaa
theorem bookDigests_holds : Rows.BookDigestsSaid := bookDigests.proved
end Go.Proofs.Ytmfphlfakmnbmaa
end
