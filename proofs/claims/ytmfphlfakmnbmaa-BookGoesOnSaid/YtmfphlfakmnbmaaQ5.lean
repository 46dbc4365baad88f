import Derived.Test.YtmfphlfakmnbmaaQ1
import Derived.Test.YtmfphlfakmnbmaaQ2
import Derived.Test.YtmfphlfakmnbmaaQ3
import Derived.Test.YtmfphlfakmnbmaaQ4
set_option linter.unusedVariables false
set_option linter.unusedSimpArgs false
section
namespace Go.Proofs.Ytmfphlfakmnbmaa.B
open Go.RowKit Go.Proofs.YtmfphlfakmnbmaaW.PrintWords Go.Proofs.YtmfphlfakmnbmaaW.PrintLast Go.Proofs.YtmfphlfakmnbmaaW.PrintMore
attribute [local go_sem] max2_int min2_int max_two min_two max_three min_three max_four min_four
def R170_2.T : Bool × List (List Nat × List Nat) := (true, [([], []), ([0], [0]), ([], []), ([2], [2]), ([], []), ([4], [4]), ([3, 5], [3, 5]), ([1, 6], [1, 6]), ([], []), ([8], [8]), ([], []), ([10], [10]), ([9, 11], [9, 11]), ([], []), ([], []), ([14], [14]), ([12, 13, 15], [12, 13, 15]), ([7, 0, 1, 2, 3, 4, 5, 6, 7], [7]), ([16, 17, 0, 1, 2, 3, 4, 5, 6, 7, 8, 9, 10, 11, 12, 13, 14, 15, 16, 17], [16])])
def R170_2.B : List Nat := [0, 1, 0, 4, 0, 16, 60, 127, 0, 256, 0, 1024, 3840, 0, 0, 16384, 65280, 255, 262143]
theorem R170_2.tab : rtab .any (opsOf Try.f170 2) = R170_2.T := by kernel_rfl
theorem R170_2.bits : waitsOk R170_2.T.2 R170_2.B = true := by kernel_rfl
def R170_3.T : Bool × List (List Nat × List Nat) := (true, [([], []), ([0], [0]), ([], []), ([2], [2]), ([], []), ([4], [4]), ([3, 5], [3, 5]), ([1, 6], [1, 6]), ([], []), ([8], [8]), ([], []), ([10], [10]), ([9, 11], [9, 11]), ([], []), ([13], [13]), ([], []), ([12, 14, 15], [12, 14, 15]), ([7, 0, 1, 2, 3, 4, 5, 6, 7], [7]), ([16, 17, 0, 1, 2, 3, 4, 5, 6, 7, 8, 9, 10, 11, 12, 13, 14, 15, 16, 17], [16])])
def R170_3.B : List Nat := [0, 1, 0, 4, 0, 16, 60, 127, 0, 256, 0, 1024, 3840, 0, 8192, 0, 65280, 255, 262143]
theorem R170_3.tab : rtab .any (opsOf Try.f170 3) = R170_3.T := by kernel_rfl
theorem R170_3.bits : waitsOk R170_3.T.2 R170_3.B = true := by kernel_rfl
end Go.Proofs.Ytmfphlfakmnbmaa.B
end

section
namespace Go.Proofs.Ytmfphlfakmnbmaa.B
open Go.RowKit Go.Proofs.YtmfphlfakmnbmaaW.PrintWords Go.Proofs.YtmfphlfakmnbmaaW.PrintLast Go.Proofs.YtmfphlfakmnbmaaW.PrintMore
attribute [local go_sem] max2_int min2_int max_two min_two max_three min_three max_four min_four
def R142_9.T : Bool × List (List Nat × List Nat) := (true, [([], []), ([], []), ([1], [1]), ([0, 2], [0, 2]), ([], []), ([4, 3], [4]), ([3, 5, 0, 1, 2, 3], [0, 3]), ([5, 6, 0, 1, 2, 3, 4, 5, 6], [5])])
def R142_9.B : List Nat := [0, 0, 2, 7, 0, 31, 63, 127]
theorem R142_9.tab : rtab .any (opsOf Try.f142 9) = R142_9.T := by kernel_rfl
theorem R142_9.bits : waitsOk R142_9.T.2 R142_9.B = true := by kernel_rfl
end Go.Proofs.Ytmfphlfakmnbmaa.B
end

section
namespace Go.Proofs.Ytmfphlfakmnbmaa.B
open Go.RowKit Go.Proofs.YtmfphlfakmnbmaaW.PrintWords Go.Proofs.YtmfphlfakmnbmaaW.PrintLast Go.Proofs.YtmfphlfakmnbmaaW.PrintMore
attribute [local go_sem] max2_int min2_int max_two min_two max_three min_three max_four min_four
theorem eqA164 (d : Nat) (w : World) (x0 y0 : Int) (x1 y1 : Int) :
    (Op.equalIn (d + 2) 164 (.agg #[.int .i64 x0, .int .i64 x1]) (.agg #[.int .i64 y0, .int .i64 y1])).run Try.prog w = .ok (x0 == y0 && (x1 == y1)) w := by
  refine eqA_of Try.underlying164 (by kernel_rfl) ?_
  refine eqf_cons (by rfl) (by go_simp; rfl) (by go_simp; rfl) (by go_simp) ?_
  exact eqf_last (by rfl) (by go_simp; rfl) (by go_simp; rfl) (by go_simp)
end Go.Proofs.Ytmfphlfakmnbmaa.B
end

section
namespace Go.Proofs.Ytmfphlfakmnbmaa.B
open Go.RowKit Go.Proofs.YtmfphlfakmnbmaaW.PrintWords Go.Proofs.YtmfphlfakmnbmaaW.PrintLast Go.Proofs.YtmfphlfakmnbmaaW.PrintMore
attribute [local go_sem] max2_int min2_int max_two min_two max_three min_three max_four min_four
attribute [local go_sem high] eqA164
theorem placed162_calls (a b c d e' : Int) (w : World) : Calls Try.prog 162 #[.agg #[.int .i64 a, .int .i64 b, .int .i64 c], .agg #[.int .i64 d, .int .i64 e']] w fun e w' => e = .returned (.bool (a == d && b == e')) ∧ Below w.heap.size w w' := by
  have hu129 := Try.underlying129
  have hu164 := Try.underlying164
  go_enter Try.func162, Try.ntmps162
  go_wp2
  go_ret
  exact ⟨by simp, by repeat (first | exact Below.refl _ _ | apply below_alloc | apply pw_below_drewN)⟩
def sameAt (p : List S129) (t : List S164) (i : Nat) : Bool := (p.getD i z129).f0 == (t.getD i z164).f0 && (p.getD i z129).f1 == (t.getD i z164).f1
def placedP (p : List S129) (t : List S164) : Bool := decide (p.length = t.length) && (List.range p.length).all (sameAt p t)
set_option maxRecDepth 100000 in
set_option maxHeartbeats 1000000 in
theorem equal162_calls (A0 : Option Addr) (c0 : Nat) (l0 : List S129) (A1 : Option Addr) (c1 : Nat) (l1 : List S164) (w : World) (hr0 : Kd.C k129 w A0 l0.length l0) (hc0 : l0.length ≤ c0) (hr1 : Kd.C k164 w A1 l1.length l1) (hc1 : l1.length ≤ c1) :
    Calls Try.prog 161 #[.slice A0 l0.length c0, .slice A1 l1.length c1, .func (.func 162) #[] #[]] w fun e w' => e = .returned (.bool (placedP l0 l1)) ∧ Below w.heap.size w w' := by
  have HR0 := Aside0.mk hr0
  have HR1 := Aside0.mk hr1
  have hm := hr0.2.1
  clear hr0 hc0 hr1 hc1
  have hu129 := Try.underlying129
  have hu164 := Try.underlying164
  have hn := run_not
  by_cases hl : l0.length = l1.length
  · have g1 : ((l0.length : Int) != (l1.length : Int)) = false := by rw [hl]; simp
    have g2 : (l0.length != l1.length) = false := by rw [hl]; simp
    have g3 : (l0.length == l1.length) = true := by rw [hl]; simp
    have HL := Aside0.mk hl
    clear hl
    go_enter Try.func161, Try.ntmps161
    go_wp2
    go_loopw [17] (fun v17 wr => ∃ j : Nat, j ≤ l0.length ∧ v17 = .int .i64 (j : Int) ∧ Aside0 (∀ i, i < j → sameAt l0 l1 i = true) ∧ Aside0 (Below w.heap.size w wr)) (fun v17 _ => l0.length - (intOf v17).toNat)
    case atStart => exact ⟨0, Nat.zero_le _, rfl, ⟨fun i hi => absurd hi (by omega)⟩, ⟨Below.refl _ _⟩⟩
    case round =>
      obtain ⟨j, hj, rfl, HA, HBw⟩ := hrel
      by_cases hlt : j < l0.length
      · have hlt1 : j < l1.length := by have := HL.out; omega
        obtain ⟨ad, e, hx0, hx1, hx2⟩ := at_T129 (Kd.C_below HR0.out HBw.out) (j : Int) (by omega) (by omega)
        cases e
        obtain ⟨ae, e, hy0, hy1⟩ := at_T164 (Kd.C_below HR1.out HBw.out) (j : Int) (by omega) (by omega)
        cases e
        rw [Int.toNat_natCast] at hx0 hx1 hx2 hy0 hy1
        have hz0 : ∀ o, (wr.alloc o).cell? _ = _ := fun o => pw_cell_below (below_alloc (Below.refl _ _) o) hy0
        have hz1 : ∀ o, (wr.alloc o).cell? _ = _ := fun o => pw_cell_below (below_alloc (Below.refl _ _) o) hy1
        clear hy0 hy1
        cases hb : sameAt l0 l1 j with
        | true =>
          have HB := Aside0.mk (show ((rd_T129 l0 (j : Int)).f0 == (rd_T164 l1 (j : Int)).f0 && (rd_T129 l0 (j : Int)).f1 == (rd_T164 l1 (j : Int)).f1) = true from hb)
          clear hb
          go_wp2_with (go_at_call 162; refine (placed162_calls _ _ _ _ _ _).mono ?_; rintro e w' ⟨rfl, hd⟩; rw [HB.out]; have HD := Aside0.mk hd; clear hd)
          go_roundw
          case rel => exact ⟨j + 1, by omega, by go_num, ⟨fun i hi => if h : i = j then by subst h; exact HB.out else HA.out i (by omega)⟩, ⟨below_then (below_alloc (below_alloc HBw.out _) _) (below_size (below_alloc (below_alloc HBw.out _) _)) HD.out⟩⟩
          case measure => simp [intOf]; omega
        | false =>
          have HF := Aside0.mk (show placedP l0 l1 = false by
            unfold placedP
            rw [Bool.and_eq_false_iff]
            refine .inr ?_
            rw [List.all_eq_false]
            exact ⟨j, List.mem_range.2 hlt, by rw [hb]; decide⟩)
          have HB := Aside0.mk (show ((rd_T129 l0 (j : Int)).f0 == (rd_T164 l1 (j : Int)).f0 && (rd_T129 l0 (j : Int)).f1 == (rd_T164 l1 (j : Int)).f1) = false from hb)
          clear hb
          go_wp2_with (go_at_call 162; refine (placed162_calls _ _ _ _ _ _).mono ?_; rintro e w' ⟨rfl, hd⟩; rw [HB.out]; have HD := Aside0.mk hd; clear hd)
          go_ret
          exact ⟨by rw [HF.out]; rfl, below_then (below_alloc (below_alloc HBw.out _) _) (below_size (below_alloc (below_alloc HBw.out _) _)) HD.out⟩
      · have HF := Aside0.mk (show placedP l0 l1 = true by
          unfold placedP
          rw [Bool.and_eq_true]
          refine ⟨by simpa using HL.out, ?_⟩
          rw [List.all_eq_true]
          exact fun i hi => HA.out i (by have := List.mem_range.1 hi; omega))
        go_wp2
        go_ret
        exact ⟨by rw [HF.out]; rfl, HBw.out⟩
  · have g1 : ((l0.length : Int) != (l1.length : Int)) = true := by simp; omega
    have g2 : (l0.length != l1.length) = true := by simp; omega
    have g3 : (l0.length == l1.length) = false := by simp; omega
    have HF := Aside0.mk (show placedP l0 l1 = false by
      unfold placedP
      rw [Bool.and_eq_false_iff]
      exact .inl (by simpa using hl))
    clear hl
    go_enter Try.func161, Try.ntmps161
    go_wp2
    go_ret
    exact ⟨by rw [HF.out]; rfl, Below.refl _ _⟩
def book_placed.f (l0 : List S129) (l1 : List S164) : Option Bool := some (placedP l0 l1)
set_option maxRecDepth 100000 in
theorem book_placed.calls (A0 : Option Addr) (c0 : Nat) (l0 : List S129) (A1 : Option Addr) (c1 : Nat) (l1 : List S164) (r : Bool) (w : World) (hr0 : Kd.C k129 w A0 l0.length l0) (hc0 : l0.length ≤ c0) (hr1 : Kd.C k164 w A1 l1.length l1) (hc1 : l1.length ≤ c1) (h : book_placed.f l0 l1 = some r) :
    Calls Try.prog 126 #[.slice A0 l0.length c0, .slice A1 l1.length c1] w fun e w' => e = .returned (.bool r) ∧ Below w.heap.size w w' := by
  obtain rfl := Option.some.inj h
  have HR0 := Aside0.mk hr0
  have HC0 := Aside0.mk hc0
  have HR1 := Aside0.mk hr1
  have HC1 := Aside0.mk hc1
  clear hr0 hc0 hr1 hc1 h
  go_enter Try.func126, Try.ntmps126
  go_wp2_with (go_at_call 161; refine (equal162_calls _ _ _ _ _ _ _ HR0.out HC0.out HR1.out HC1.out).mono ?_; rintro e w' ⟨rfl, hd⟩; have HD := Aside0.mk hd; clear hd)
  go_ret
  exact ⟨rfl, HD.out⟩
end Go.Proofs.Ytmfphlfakmnbmaa.B
end

section
namespace Go.Proofs.Ytmfphlfakmnbmaa.B
open Go.RowKit Go.Proofs.YtmfphlfakmnbmaaW.PrintWords Go.Proofs.YtmfphlfakmnbmaaW.PrintLast Go.Proofs.YtmfphlfakmnbmaaW.PrintMore
attribute [local go_sem] max2_int min2_int max_two min_two max_three min_three max_four min_four
theorem digests159_calls (a b c : Int) (w : World) : Calls Try.prog 159 #[.agg #[.int .i64 a, .int .i64 b, .int .i64 c]] w fun e w' => e = .returned (.bool (!isDigP c)) ∧ Below w.heap.size w w' := by
  have hn := run_not
  have hu129 := Try.underlying129
  go_enter Try.func159, Try.ntmps159
  go_wp2_with (go_at_call 92; refine (book_isDigest.calls _ _ _ (isDigest_some c)).mono ?_; rintro e w' ⟨rfl, nq, rfl⟩)
  go_ret
  exact ⟨rfl, by repeat (first | exact Below.refl _ _ | apply below_alloc | apply pw_below_drewN)⟩
def digestsP (l : List S129) : Bool := l.all fun x => isDigP x.f2
def badTwig (l : List S129) : Int := match l.findIdx? (fun x => !isDigP x.f2) with | some i => (i : Int) | none => -1
theorem badTwig_hit (l : List S129) (j : Nat) (h : j < l.length) (hb : isDigP (l.getD j z129).f2 = false) (hall : ∀ i, i < j → isDigP (l.getD i z129).f2 = true) : badTwig l = (j : Int) := by
  unfold badTwig
  have : l.findIdx? (fun x => !isDigP x.f2) = some j := by
    rw [List.findIdx?_eq_some_iff_getElem]
    refine ⟨h, by simpa [List.getD_eq_getElem?_getD, List.getElem?_eq_getElem h] using hb, fun i hi => ?_⟩
    have := hall i hi
    simpa [List.getD_eq_getElem?_getD, List.getElem?_eq_getElem (Nat.lt_trans hi h)] using this
  rw [this]
theorem badTwig_none (l : List S129) (hall : ∀ i, i < l.length → isDigP (l.getD i z129).f2 = true) : badTwig l = -1 := by
  unfold badTwig
  have : l.findIdx? (fun x => !isDigP x.f2) = none := by
    rw [List.findIdx?_eq_none_iff]
    intro x hx
    obtain ⟨i, hi, rfl⟩ := List.mem_iff_getElem.1 hx
    have := hall i hi
    simpa [List.getD_eq_getElem?_getD, List.getElem?_eq_getElem hi] using this
  rw [this]
theorem badTwig_ge (l : List S129) : decide (0 ≤ badTwig l) = !digestsP l := by
  unfold badTwig digestsP
  cases h : l.findIdx? (fun x => !isDigP x.f2) with
  | none =>
    rw [List.findIdx?_eq_none_iff] at h
    have : (l.all fun x => isDigP x.f2) = true := List.all_eq_true.2 fun x hx => by simpa using h x hx
    rw [this]
    simp
  | some i =>
    rw [List.findIdx?_eq_some_iff_getElem] at h
    obtain ⟨h1, h2, _⟩ := h
    have : (l.all fun x => isDigP x.f2) = false := List.all_eq_false.2 ⟨l[i], List.getElem_mem h1, by simpa using h2⟩
    rw [this]
    simp
set_option maxRecDepth 100000 in
set_option maxHeartbeats 1000000 in
theorem index159_calls (A0 : Option Addr) (c0 : Nat) (l0 : List S129) (w : World) (hr0 : Kd.C k129 w A0 l0.length l0) (hc0 : l0.length ≤ c0) :
    Calls Try.prog 173 #[.slice A0 l0.length c0, .func (.func 159) #[] #[]] w fun e w' => e = .returned (.int .i64 (badTwig l0)) ∧ Below w.heap.size w w' := by
  have HR0 := Aside0.mk hr0
  have hm := hr0.2.1
  have HC0 := Aside0.mk hc0
  clear hr0 hc0
  have hu129 := Try.underlying129
  go_enter Try.func173, Try.ntmps173
  go_wp2
  go_loopw [8] (fun v8 wr => ∃ j : Nat, j ≤ l0.length ∧ v8 = .int .i64 (j : Int) ∧ Aside0 (∀ i, i < j → isDigP (l0.getD i z129).f2 = true) ∧ Aside0 (Below w.heap.size w wr)) (fun v8 _ => l0.length - (intOf v8).toNat)
  case atStart => exact ⟨0, Nat.zero_le _, rfl, ⟨fun i hi => absurd hi (by omega)⟩, ⟨Below.refl _ _⟩⟩
  case round =>
    obtain ⟨j, hj, rfl, HA, HBw⟩ := hrel
    by_cases hlt : j < l0.length
    · obtain ⟨ad, e, hx0, hx1, hx2⟩ := at_T129 (Kd.C_below HR0.out HBw.out) (j : Int) (by omega) (by omega)
      cases e
      rw [Int.toNat_natCast] at hx0 hx1 hx2
      cases hb : isDigP (rd_T129 l0 (j : Int)).f2 with
      | true =>
        have HB := Aside0.mk hb
        clear hb
        go_wp2_with (go_at_call 159; refine (digests159_calls _ _ _ _).mono ?_; rintro e w' ⟨rfl, hd⟩; rw [HB.out]; have HD := Aside0.mk hd; clear hd)
        go_roundw
        case rel => exact ⟨j + 1, by omega, by go_num, ⟨fun i hi => if h : i = j then by subst h; exact HB.out else HA.out i (by omega)⟩, ⟨below_then HBw.out (below_size HBw.out) HD.out⟩⟩
        case measure => simp [intOf]; omega
      | false =>
        have HB := Aside0.mk hb
        clear hb
        go_wp2_with (go_at_call 159; refine (digests159_calls _ _ _ _).mono ?_; rintro e w' ⟨rfl, hd⟩; rw [HB.out]; have HD := Aside0.mk hd; clear hd)
        go_ret
        exact ⟨by rw [badTwig_hit l0 j hlt HB.out HA.out]; rfl, below_then HBw.out (below_size HBw.out) HD.out⟩
    · go_wp2
      go_ret
      exact ⟨by rw [badTwig_none l0 (fun i hi => HA.out i (by omega))]; rfl, HBw.out⟩
set_option maxRecDepth 100000 in
theorem contains159_calls (A0 : Option Addr) (c0 : Nat) (l0 : List S129) (w : World) (hr0 : Kd.C k129 w A0 l0.length l0) (hc0 : l0.length ≤ c0) :
    Calls Try.prog 158 #[.slice A0 l0.length c0, .func (.func 159) #[] #[]] w fun e w' => e = .returned (.bool (!digestsP l0)) ∧ Below w.heap.size w w' := by
  have HR0 := Aside0.mk hr0
  have HC0 := Aside0.mk hc0
  clear hr0 hc0
  have HG := Aside0.mk (badTwig_ge l0)
  go_enter Try.func158, Try.ntmps158
  go_wp2_with (go_at_call 173; refine (index159_calls _ _ _ _ HR0.out HC0.out).mono ?_; rintro e w' ⟨rfl, hd⟩; have HD := Aside0.mk hd; clear hd)
  go_ret
  exact ⟨by rw [← HG.out]; rfl, HD.out⟩
def book_digests.f (l0 : List S129) : Option Bool := some (digestsP l0)
set_option maxRecDepth 100000 in
theorem book_digests.calls (A0 : Option Addr) (c0 : Nat) (l0 : List S129) (r : Bool) (w : World) (hr0 : Kd.C k129 w A0 l0.length l0) (hc0 : l0.length ≤ c0) (h : book_digests.f l0 = some r) :
    Calls Try.prog 123 #[.slice A0 l0.length c0] w fun e w' => e = .returned (.bool r) ∧ Below w.heap.size w w' := by
  obtain rfl := Option.some.inj h
  have HR0 := Aside0.mk hr0
  have HC0 := Aside0.mk hc0
  clear hr0 hc0 h
  have hn := run_not
  go_enter Try.func123, Try.ntmps123
  go_wp2_with (go_at_call 158; refine (contains159_calls _ _ _ _ HR0.out HC0.out).mono ?_; rintro e w' ⟨rfl, hd⟩; have HD := Aside0.mk hd; clear hd)
  go_ret
  exact ⟨by simp, HD.out⟩
end Go.Proofs.Ytmfphlfakmnbmaa.B
end

section
namespace Go.Proofs.Ytmfphlfakmnbmaa.B
open Go.RowKit Go.Proofs.YtmfphlfakmnbmaaW.PrintWords Go.Proofs.YtmfphlfakmnbmaaW.PrintLast Go.Proofs.YtmfphlfakmnbmaaW.PrintMore
attribute [local go_sem] max2_int min2_int max_two min_two max_three min_three max_four min_four
theorem placed_len {p : List S129} {ts : List S164} (h : placedP p ts = true) : p.length = ts.length := by
  unfold placedP at h
  rw [Bool.and_eq_true, decide_eq_true_eq] at h
  exact h.1
theorem placed_at {p : List S129} {ts : List S164} (h : placedP p ts = true) {i : Nat} (hi : i < p.length) : (p.getD i z129).f0 = (ts.getD i z164).f0 ∧ (p.getD i z129).f1 = (ts.getD i z164).f1 := by
  unfold placedP at h
  rw [Bool.and_eq_true, List.all_eq_true] at h
  have := h.2 i (List.mem_range.2 hi)
  unfold sameAt at this
  rw [Bool.and_eq_true, beq_iff_eq, beq_iff_eq] at this
  exact this
theorem placed_iff {p : List S129} {ts : List S164} : placedP p ts = true ↔ p.map (fun y => (⟨y.f0, y.f1⟩ : S164)) = ts := by
  constructor
  · intro h
    have hl := placed_len h
    refine List.ext_getElem (by rw [List.length_map]; exact hl) (fun i h1 h2 => ?_)
    have hi : i < p.length := by rw [List.length_map] at h1; exact h1
    have h3 := placed_at h hi
    rw [List.getElem_map]
    have e1 : p.getD i z129 = p[i] := by simp [List.getD_eq_getElem?_getD, List.getElem?_eq_getElem hi]
    have e2 : ts.getD i z164 = ts[i] := by simp [List.getD_eq_getElem?_getD, List.getElem?_eq_getElem h2]
    rw [e1, e2] at h3
    cases hts : ts[i] with
    | mk f g => rw [hts] at h3; rw [h3.1, h3.2]
  · intro h
    subst h
    unfold placedP
    rw [Bool.and_eq_true, decide_eq_true_eq, List.all_eq_true]
    refine ⟨by rw [List.length_map], fun i hi => ?_⟩
    have hi := List.mem_range.1 hi
    unfold sameAt
    have e1 : p.getD i z129 = p[i] := by simp [List.getD_eq_getElem?_getD, List.getElem?_eq_getElem hi]
    have e2 : (p.map (fun y => (⟨y.f0, y.f1⟩ : S164))).getD i z164 = ⟨p[i].f0, p[i].f1⟩ := by simp [List.getD_eq_getElem?_getD, List.getElem?_eq_getElem hi]
    rw [e1, e2]
    simp
theorem own_placed (l : List S29) (ts : List S164) : placedP (twigsP l ts) ts = true := by
  rw [placed_iff]
  unfold twigsP
  rw [List.map_map]
  conv => rhs; rw [← List.map_id ts]
  refine List.map_congr_left (fun t _ => ?_)
  rfl
theorem own_digests {l : List S29} (hc : checkP l = 0) (ts : List S164) : digestsP (twigsP l ts) = true := by
  have h64 := check_len hc
  have hr := check_rights hc
  unfold digestsP
  rw [List.all_eq_true]
  intro y hy
  unfold twigsP at hy
  obtain ⟨t, _, rfl⟩ := List.mem_map.1 hy
  have := root_range (cutP l t.f0 t.f1).length (cutP l t.f0 t.f1) (by unfold cutP; rw [List.length_drop, List.length_take]; omega) (fun x hx => by
    unfold cutP at hx
    exact hr x (List.mem_of_mem_take (List.mem_of_mem_drop hx)))
  show isDigP (rootP (cutP l t.f0 t.f1)) = true
  unfold isDigP rootP
  rw [decide_eq_true_eq]
  exact ⟨this.1, by omega⟩
end Go.Proofs.Ytmfphlfakmnbmaa.B
end

section
namespace Go.Proofs.Ytmfphlfakmnbmaa.B
open Go.RowKit Go.Proofs.YtmfphlfakmnbmaaW.PrintWords Go.Proofs.YtmfphlfakmnbmaaW.PrintLast Go.Proofs.YtmfphlfakmnbmaaW.PrintMore
attribute [local go_sem] max2_int min2_int max_two min_two max_three min_three max_four min_four
def partedF : Nat → Nat → Nat → Nat → List S164
  | 0, f, g, _ => [⟨(f : Int), (g : Int)⟩]
  | k + 1, f, g, x => if f + g ≤ x ∨ x ≤ f then [⟨(f : Int), (g : Int)⟩] else partedF k f (halfP g) x ++ partedF k (f + halfP g) (g - halfP g) x
theorem partedF_length : ∀ (n g f x : Nat), g ≤ n → g ≤ 64 → (partedF n f g x).length ≤ g + 1 ∧ (1 ≤ g → (partedF n f g x).length ≤ g)
  | 0, g, f, x, h, _ => by
    obtain rfl : g = 0 := by omega
    exact ⟨Nat.le_refl _, fun h => by omega⟩
  | n + 1, g, f, x, h, h64 => by
    rw [partedF]
    split
    · exact ⟨by rw [List.length_singleton]; omega, fun h => by rw [List.length_singleton]; omega⟩
    · rename_i hx
      have hb := halfP_bounds (n := g) (by omega) h64
      have h1 := (partedF_length n (halfP g) f x (by omega) (by omega)).2 (by omega)
      have h2 := (partedF_length n (g - halfP g) (f + halfP g) x (by omega) (by omega)).2 (by omega)
      rw [List.length_append]
      exact ⟨by omega, fun _ => by omega⟩
theorem parted_some (x : Nat) : ∀ (n g f k : Nat), g ≤ n → f + g ≤ 64 → 2 * n + 13 ≤ k → book_parted.f k (f : Int) (g : Int) (x : Int) = some (partedF n f g x) := by
  intro n
  induction n with
  | zero =>
    intro g f k hg hfg hk
    obtain ⟨k, rfl⟩ : ∃ m, k = m + 2 := ⟨k - 2, by omega⟩
    obtain rfl : g = 0 := by omega
    rw [show k + 2 = (k + 1) + 1 from rfl]
    simp only [book_parted.f]
    rw [show wrap64 ((f : Int) + ((0 : Nat) : Int)) = (f : Int) by unfold wrap64; omega]
    by_cases h : f ≤ x
    · rw [if_pos (by omega)]
      simp only [book_parted.j0]
      rw [if_pos trivial]
      rfl
    · rw [if_neg (by omega)]
      simp only [book_parted.j0]
      rw [if_pos (by rw [decide_eq_true_eq]; omega)]
      rfl
  | succ n ih =>
    intro g f k hg hfg hk
    obtain ⟨k, rfl⟩ : ∃ m, k = m + 2 := ⟨k - 2, by omega⟩
    rw [show k + 2 = (k + 1) + 1 from rfl]
    simp only [book_parted.f]
    rw [show wrap64 ((f : Int) + (g : Int)) = ((f + g : Nat) : Int) by unfold wrap64; omega, partedF]
    by_cases h1 : f + g ≤ x
    · rw [if_pos (by omega), if_pos (Or.inl h1)]
      simp only [book_parted.j0]
      rw [if_pos trivial]
    · rw [if_neg (by omega)]
      by_cases h2 : x ≤ f
      · rw [if_pos (Or.inr h2)]
        simp only [book_parted.j0]
        rw [if_pos (by rw [decide_eq_true_eq]; omega)]
      · rw [if_neg (by omega)]
        have hb := halfP_bounds (n := g) (by omega) (by omega)
        obtain ⟨h, hh⟩ : ∃ h, h = halfP g := ⟨_, rfl⟩
        rw [← hh] at hb ⊢
        have hhalf : book_half.f k (g : Int) = some (h : Int) := by rw [hh]; exact at_rounds (g := fun k => book_half.f k (g : Int)) (fun k => book_half.mono _ _) (show 10 ≤ k by omega) (book_half_some (by omega))
        have l1 := (partedF_length n h f x (by omega) (by omega)).2 (by omega)
        have l2 := (partedF_length n (g - h) (f + h) x (by omega) (by omega)).2 (by omega)
        simp only [book_parted.j0]
        unfold book_tree_halves.f
        rw [if_neg (by rw [decide_eq_true_eq]; omega), hhalf, Option.bind_some, Option.bind_some, show wrap64 ((f : Int) + (h : Int)) = ((f + h : Nat) : Int) by unfold wrap64; omega, show wrap64 ((g : Int) - (h : Int)) = ((g - h : Nat) : Int) by unfold wrap64; omega]
        dsimp only
        rw [ih h f k (by omega) (by omega) (by omega), Option.bind_some, ih (g - h) (f + h) k (by omega) (by omega) (by omega), Option.bind_some, if_pos (by omega)]
end Go.Proofs.Ytmfphlfakmnbmaa.B
end

section
namespace Go.Proofs.Ytmfphlfakmnbmaa.B
open Go.RowKit Go.Proofs.YtmfphlfakmnbmaaW.PrintWords Go.Proofs.YtmfphlfakmnbmaaW.PrintLast Go.Proofs.YtmfphlfakmnbmaaW.PrintMore
attribute [local go_sem] max2_int min2_int max_two min_two max_three min_three max_four min_four
open Go.Maps (Keyed)
theorem row164 : (164 : TypeId) < Try.prog.types.size := of_decide_eq_true (by kernel_rfl)
theorem wide164 : (match Try.prog.underlying 164 with | some (.array _ _) | some (.struct _) => true | _ => false) = true := by rw [Try.underlying164]
set_option maxRecDepth 100000 in
theorem law164 : WideMaps.KeyLaw Try.prog 164 := deep_law_laid laidOut_ (m := 3) (by omega) row164 (by kernel_rfl) wide164
theorem K164 : Keyed Try.prog 164 := Keyed.of_law law164
theorem keyT164 : Try.prog.keyType 164 = true := by kernel_rfl
theorem cells164 : Try.prog.cellsOf 164 = 2 := by kernel_rfl
def ek164 (x : S164) : Value := .agg #[.int .i64 x.f0, .int .i64 x.f1]
def Wf164 (x : S164) : Prop := (Lit.int .i64 x.f0).wf = true ∧ (Lit.int .i64 x.f1).wf = true
theorem keyOf164 {x : S164} (h : Wf164 x) : ∃ l, keyOf Try.prog 164 (ek164 x) = some l := by
  obtain ⟨h0, h1⟩ := h
  obtain ⟨m, hm⟩ : ∃ m, Try.prog.types.size + 1 = m + 2 := ⟨Try.prog.types.size - 1, by have h : (164 : Nat) < Try.prog.types.size := row164; omega⟩
  unfold keyOf
  rw [Try.underlying164]
  have hf : (ek164 x).formed Try.prog 164 = true := by simp [ek164, Value.formed, Try.underlying164, cells164]
  simp only [keyT164, hf, Bool.and_self, if_true, hm]
  simp [ek164, Value.cells, Program.keyLits, Try.underlying164, Try.underlying3, cells164, cells3, h0, h1]
noncomputable def kl164 (x : S164) : Lit := (keyOf Try.prog 164 (ek164 x)).getD (.bool true)
theorem kl164_eq {x : S164} (h : Wf164 x) : keyOf Try.prog 164 (ek164 x) = some (kl164 x) := by
  obtain ⟨l, hl⟩ := keyOf164 h
  unfold kl164
  rw [hl]; rfl
theorem ek164_inj {x y : S164} (h : ek164 x = ek164 y) : x = y := by
  cases x; cases y
  simp [ek164] at h
  simp [h]
theorem zero3_ (u : World) : (zeroValue 3).run Try.prog u = .ok (evI 0) u := by kernel_rfl
theorem wf_nat {n : Nat} (h : n ≤ 1000) : (Lit.int .i64 (n : Int)).wf = true := by
  have h1 : IntKind.i64.min = -9223372036854775808 := rfl
  have h2 : IntKind.i64.max = 9223372036854775807 := rfl
  simp [Lit.wf]
  omega
abbrev Known := S164 → Option Int
instance : DecidableEq S164 := fun a b =>
  if h : a.f0 = b.f0 ∧ a.f1 = b.f1 then isTrue (by cases a; cases b; simp only [S164.mk.injEq]; exact h) else isFalse (fun e => h (by subst e; exact ⟨rfl, rfl⟩))
def aboveF : Nat → Known → Nat → Nat → Int × Bool
  | 0, M, f, g => match M ⟨(f : Int), (g : Int)⟩ with
    | some d => (d, true)
    | none => (dig [2], decide (g = 0))
  | k + 1, M, f, g => match M ⟨(f : Int), (g : Int)⟩ with
    | some d => (d, true)
    | none => if g < 2 then (dig [2], decide (g = 0)) else (dig [1, (g : Int), (aboveF k M f (halfP g)).1, (aboveF k M (f + halfP g) (g - halfP g)).1], (aboveF k M f (halfP g)).2 && (aboveF k M (f + halfP g) (g - halfP g)).2)
end Go.Proofs.Ytmfphlfakmnbmaa.B
end

section
namespace Go.Proofs.Ytmfphlfakmnbmaa.B
open Go.RowKit Go.Proofs.YtmfphlfakmnbmaaW.PrintWords Go.Proofs.YtmfphlfakmnbmaaW.PrintLast Go.Proofs.YtmfphlfakmnbmaaW.PrintMore
attribute [local go_sem] max2_int min2_int max_two min_two max_three min_three max_four min_four
def R127_5.T : Bool × List (List Nat × List Nat) := (true, [([], []), ([], []), ([1], [1]), ([2], [2]), ([0, 0, 0], [0]), ([3, 4, 0, 1, 2, 3, 4], [3])])
def R127_5.B : List Nat := [0, 0, 2, 6, 1, 31]
theorem R127_5.tab : rtab .any (opsOf Try.f127 5) = R127_5.T := by kernel_rfl
theorem R127_5.bits : waitsOk R127_5.T.2 R127_5.B = true := by kernel_rfl
theorem above_known (f g : Nat) (hf : f ≤ 1000) (hg : g ≤ 1000) : keyOf Try.prog 164 (ek164 ⟨(f : Int), (g : Int)⟩) = some (kl164 ⟨(f : Int), (g : Int)⟩) := kl164_eq (x := ⟨(f : Int), (g : Int)⟩) ⟨wf_nat hf, wf_nat hg⟩
set_option maxRecDepth 100000 in
set_option maxHeartbeats 1000000 in
theorem above_hit (b cnt : Nat) (M : Known) (f g : Nat) (d : Int) (w : World) (hf : f ≤ 1000) (hg : g ≤ 1000) (hM : MapIs Try.prog 164 ek164 evI w b cnt M) (hm : M ⟨(f : Int), (g : Int)⟩ = some d) :
    Calls Try.prog 127 #[.agg #[.int .i64 (f : Int), .int .i64 (g : Int)], .map (some b)] w fun e w' => e = .returned (.tuple #[.int .i64 d, .bool true]) ∧ Below w.heap.size w w' := by
  have HM := Aside0.mk hM
  have HKEY := Aside0.mk (above_known f g hf hg)
  have hu164 := Try.underlying164
  have HM0 := Aside0.mk hm
  clear hM hm
  go_enter Try.func127, Try.ntmps127
  go_wp2_with (first | (at_lookup; refine wpList_lookup_map _ rfl _ _ 166 true rfl 164 3 K164 Try.underlying166 _ (zero3_ _) ek164 evI b cnt M rfl (HM.out.alloc _) (⟨(f : Int), (g : Int)⟩ : S164) _ rfl HKEY.out (.tuple #[.int .i64 d, .bool true]) (by rw [HM0.out]; rfl) ?_) | fail)
  go_ret2
  exact ⟨rfl, below_alloc (Below.refl _ _) _⟩
set_option maxRecDepth 100000 in
set_option maxHeartbeats 1000000 in
theorem above_low (b cnt : Nat) (M : Known) (f g : Nat) (w : World) (hf : f ≤ 1000) (hg : g < 2) (hM : MapIs Try.prog 164 ek164 evI w b cnt M) (hm : M ⟨(f : Int), (g : Int)⟩ = none) :
    Calls Try.prog 127 #[.agg #[.int .i64 (f : Int), .int .i64 (g : Int)], .map (some b)] w fun e w' => e = .returned (.tuple #[.int .i64 (dig [2]), .bool (decide (g = 0))]) ∧ Below w.heap.size w w' := by
  have HM := Aside0.mk hM
  have HKEY := Aside0.mk (above_known f g hf (by omega))
  have hu164 := Try.underlying164
  have HM0 := Aside0.mk hm
  have HE : Aside0 (((g : Int) == 0) = decide (g = 0)) := ⟨by rw [Bool.eq_iff_iff, beq_iff_eq, decide_eq_true_eq]; omega⟩
  have HNN := Aside0.mk (show book_none.f = some (dig [2]) from rfl)
  have g2 : (g : Int) < 2 := by omega
  obtain ⟨d2, hd2⟩ : ∃ d2, d2 = dig [2] := ⟨_, rfl⟩
  rw [← hd2] at HNN ⊢
  clear hM hm hd2
  rw [← HE.out]
  clear HE
  go_enter Try.func127, Try.ntmps127
  go_wp2_with (first | (at_lookup; refine wpList_lookup_map _ rfl _ _ 166 true rfl 164 3 K164 Try.underlying166 _ (zero3_ _) ek164 evI b cnt M rfl (HM.out.alloc _) (⟨(f : Int), (g : Int)⟩ : S164) _ rfl HKEY.out (.tuple #[.int .i64 0, .bool false]) (by rw [HM0.out]; rfl) ?_) | fail)
  have BK := Aside0.mk (blk_drew (blk_new' w (.cells #[.int .i64 (f : Int), .int .i64 (g : Int)] 164) w.heap.size rfl))
  have HB := Aside0.mk (below_drew1 (below_alloc (Below.refl w.heap.size w) (.cells #[.int .i64 (f : Int), .int .i64 (g : Int)] 164)))
  refine start_ (n := 6) (S := fun w' => w'.cell? ⟨w.heap.size, 0, none⟩ = some (.int .i64 (f : Int)) ∧ w'.cell? ⟨w.heap.size, 1, none⟩ = some (.int .i64 (g : Int))) (ds := []) #[false, false, false, false, false, false] (by kernel_rfl) rfl rfl ⟨(blk_cell BK.out 0).trans rfl, (blk_cell BK.out 1).trans rfl⟩ (fun hHeld => ?_); refine with_tabW R127_5.tab R127_5.bits (fun HT_ HW_ => ?_)
  generalize ((w.alloc (.cells #[.int .i64 (f : Int), .int .i64 (g : Int)] 164))).drew = wd at BK HB hHeld ⊢
  refine pure_ (i := 1) (N := (some 26)) (v := ?_) (a' := ?_) #[false, true, false, false, false, false] rfl rfl (any_of HT_.out (by kernel_rfl)) (fun _ _ _ h => h) (Or.inl ⟨by rfl, ?_⟩) ?_ ?_
  rotate_left
  · intro w'
    go_simp
    with_reducible rfl
  rotate_left
  · simp only [Act.put, List.setIfInBounds_toArray, List.set_cons_zero, List.set_cons_succ, i64_w, i32_w]
    rfl
  refine take_ (i := 2) (N := (some 27)) (v := ?_) (a' := ?_) #[false, true, true, false, false, false] rfl rfl (take_ofW HT_.out HW_.out (by kernel_rfl)) (fun _ _ _ h => h) (Or.inl ⟨by rfl, ?_⟩) hHeld ?_ ?_
  rotate_left
  · rintro w' ⟨s0, s1⟩
    go_simp
    with_reducible rfl
  rotate_left
  · simp only [Act.put, List.setIfInBounds_toArray, List.set_cons_zero, List.set_cons_succ, i64_w, i32_w]
    rfl
  refine pure_ (i := 3) (N := (some 28)) (v := ?_) (a' := ?_) #[false, true, true, true, false, false] rfl rfl (any_of HT_.out (by kernel_rfl)) (fun _ _ _ h => h) (Or.inl ⟨by rfl, ?_⟩) ?_ ?_
  rotate_left
  · intro w'
    go_simp
    with_reducible rfl
  rotate_left
  · simp only [Act.put, List.setIfInBounds_toArray, List.set_cons_zero, List.set_cons_succ, i64_w, i32_w]
    rfl
  refine one_ (i := 0) (N := (some 25)) #[true, true, true, true, false, false] rfl rfl (one_of HT_.out (by kernel_rfl)) (by decide) (fun K hK => ?_)
  refine goes_ Try.func128 (by kernel_rfl) rfl #[] (by rfl) rfl rfl (by (try simp only [List.map_toArray, List.map_cons, List.map_nil]); first | done | rfl | (simp only [List.length_drop, List.length_take]; rfl)) ?_
  refine (book_none.calls _ _ HNN.out).mono ?_
  rintro e w2 ⟨rfl, hd⟩
  have HD := Aside0.mk hd
  clear hd
  refine ⟨_, rfl, ?_⟩
  refine hK.out _ _ ⟨(blk_cell (blk_below BK.out HD.out) 0).trans rfl, (blk_cell (blk_below BK.out HD.out) 1).trans rfl⟩ (fun hHeld => ?_)
  clear hK K
  refine norm_ (a' := ?_) ?_ ?_
  rotate_left
  · show Act.put _ (some 25) _ = _
    simp only [Act.put, List.setIfInBounds_toArray, List.set_cons_zero, List.set_cons_succ, i64_w, i32_w]
    rfl
  refine pure_ (i := 4) (N := (some 4)) (v := ?_) (a' := ?_) #[true, true, true, true, true, false] rfl rfl (any_of HT_.out (by kernel_rfl)) (fun _ _ _ h => h) (Or.inl ⟨by rfl, ?_⟩) ?_ ?_
  rotate_left
  · intro w'
    go_simp
    with_reducible rfl
  rotate_left
  · simp only [Act.put, List.setIfInBounds_toArray, List.set_cons_zero, List.set_cons_succ, i64_w, i32_w]
    rfl
  refine pure_ (i := 5) (N := (some 5)) (v := ?_) (a' := ?_) #[true, true, true, true, true, true] rfl rfl (any_of HT_.out (by kernel_rfl)) (fun _ _ _ h => h) (Or.inl ⟨by rfl, ?_⟩) ?_ ?_
  rotate_left
  · intro w'
    go_simp
    with_reducible rfl
  rotate_left
  · simp only [Act.put, List.setIfInBounds_toArray, List.set_cons_zero, List.set_cons_succ, i64_w, i32_w]
    rfl
  refine done_ (done_of HT_.out (by kernel_rfl)) ?_
  go_wp2
  go_ret2
  exact ⟨rfl, below_then HB.out (below_size HB.out) HD.out⟩
theorem halves_nat {f g : Nat} (hf : f ≤ 64) (hg : g ≤ 64) : book_tree_halves.f 10 (f : Int) (g : Int) = some ((f : Int), ((halfP g : Nat) : Int), ((f + halfP g : Nat) : Int), (g : Int) - ((halfP g : Nat) : Int)) := by
  unfold book_tree_halves.f
  rw [book_half_some hg, Option.bind_some]
  have hb : halfP g ≤ 64 := by
    have : ∀ m : Fin 65, halfP m.val ≤ 64 := by decide +kernel
    exact this ⟨g, by omega⟩
  rw [show wrap64 ((f : Int) + ((halfP g : Nat) : Int)) = ((f + halfP g : Nat) : Int) by unfold wrap64; omega, show wrap64 ((g : Int) - ((halfP g : Nat) : Int)) = (g : Int) - ((halfP g : Nat) : Int) by unfold wrap64; omega]
set_option maxRecDepth 100000 in
set_option maxHeartbeats 1000000 in
theorem above_calls (b cnt : Nat) (M : Known) : ∀ (n g f : Nat) (w : World), g ≤ n → f + g ≤ 64 → MapIs Try.prog 164 ek164 evI w b cnt M →
    Calls Try.prog 127 #[.agg #[.int .i64 (f : Int), .int .i64 (g : Int)], .map (some b)] w fun e w' => e = .returned (.tuple #[.int .i64 (aboveF n M f g).1, .bool (aboveF n M f g).2]) ∧ Below w.heap.size w w' := by
  intro n
  induction n with
  | zero =>
    intro g f w hg hfg hM
    rw [aboveF]
    cases hm : M ⟨(f : Int), (g : Int)⟩ with
    | some d => exact above_hit b cnt M f g d w (by omega) (by omega) hM hm
    | none => exact above_low b cnt M f g w (by omega) (by omega) hM hm
  | succ n ih =>
    intro g f w hg hfg hM
    rw [aboveF]
    cases hm : M ⟨(f : Int), (g : Int)⟩ with
    | some d => exact above_hit b cnt M f g d w (by omega) (by omega) hM hm
    | none =>
      dsimp only
      by_cases hg2 : g < 2
      · rw [if_pos hg2]
        exact above_low b cnt M f g w (by omega) hg2 hM hm
      · rw [if_neg hg2]
        have hb := halfP_bounds (n := g) (by omega) (by omega)
        have hhv := halves_nat (f := f) (g := g) (by omega) (by omega)
        obtain ⟨h, hh⟩ : ∃ h, h = halfP g := ⟨_, rfl⟩
        rw [← hh] at hb hhv ⊢
        rw [show (g : Int) - (h : Int) = ((g - h : Nat) : Int) by omega] at hhv
        have i1 := fun w => ih h f w (by omega) (by omega)
        have i2 := fun w => ih (g - h) (f + h) w (by omega) (by omega)
        obtain ⟨L, hL⟩ : ∃ L, L = (aboveF n M f h).1 := ⟨_, rfl⟩
        obtain ⟨l, hl⟩ : ∃ l, l = (aboveF n M f h).2 := ⟨_, rfl⟩
        obtain ⟨R, hR⟩ : ∃ R, R = (aboveF n M (f + h) (g - h)).1 := ⟨_, rfl⟩
        obtain ⟨r, hr⟩ : ∃ r, r = (aboveF n M (f + h) (g - h)).2 := ⟨_, rfl⟩
        rw [← hL, ← hl, ← hR, ← hr]
        simp only [← hL, ← hl] at i1
        simp only [← hR, ← hr] at i2
        obtain ⟨c, hc⟩ : ∃ c, c = g - h := ⟨_, rfl⟩
        obtain ⟨m, hm2⟩ : ∃ m, m = f + h := ⟨_, rfl⟩
        rw [← hc, ← hm2] at hhv
        rw [← hc, ← hm2] at i2
        have HM := Aside0.mk hM
        have HKEY := Aside0.mk (above_known f g (by omega) (by omega))
        have hu164 := Try.underlying164
        have HM0 := Aside0.mk hm
        have HHV := Aside0.mk hhv
        have I1 := Aside0.mk i1
        have I2 := Aside0.mk i2
        have HN := Aside0.mk (show book_node.f (g : Int) L R = some (dig [1, (g : Int), L, R]) from rfl)
        obtain ⟨dg, hdg⟩ : ∃ dg, dg = dig [1, (g : Int), L, R] := ⟨_, rfl⟩
        rw [← hdg] at HN ⊢
        have g2 : ¬ ((g : Int) < 2) := by omega
        clear hM hm hb hhv hh hL hl hR hr i1 i2 hc hm2 hdg hg2 ih
        go_enter Try.func127, Try.ntmps127
        go_wp2_with (first
          | (at_lookup; refine wpList_lookup_map _ rfl _ _ 166 true rfl 164 3 K164 Try.underlying166 _ (zero3_ _) ek164 evI b cnt M rfl (HM.out.alloc _) (⟨(f : Int), (g : Int)⟩ : S164) _ rfl HKEY.out (.tuple #[.int .i64 0, .bool false]) (by rw [HM0.out]; rfl) ?_)
          | fail)
        refine (book_tree_halves.calls 10 _ _ _ _ _ _ _ HHV.out).mono ?_
        rintro e w2 ⟨rfl, hd⟩
        obtain ⟨xb, hxb⟩ : ∃ xb, xb = w.heap.size := ⟨_, rfl⟩
        have HB2 := Aside0.mk (below_then (below_alloc (Below.refl w.heap.size w) _) (below_size (below_alloc (Below.refl w.heap.size w) _)) hd)
        have HX2 := Aside0.mk (blk_below (blk_new' w (.cells #[.int .i64 (f : Int), .int .i64 (g : Int)] 164) xb hxb) hd)
        have HM2 := Aside0.mk (MapIs.below (HM.out.alloc (.cells #[.int .i64 (f : Int), .int .i64 (g : Int)] 164)) hd (HM.out.alloc (.cells #[.int .i64 (f : Int), .int .i64 (g : Int)] 164)).lt)
        rw [← hxb]
        have HXS := Aside0.mk hxb
        clear hd hxb
        go_wp2_with fail
        refine (I1.out _ ((HM2.out.alloc _).alloc _)).mono ?_
        rintro e w3 ⟨rfl, hd⟩
        obtain ⟨nb, hnb⟩ : ∃ nb, nb = w2.heap.size + 1 := ⟨_, rfl⟩
        have HB2' := Aside0.mk (below_alloc (below_alloc HB2.out (.cells #[.int .i64 (f : Int), .int .i64 (h : Int)] 164)) (.cells #[.int .i64 (m : Int), .int .i64 (c : Int)] 164))
        have HB3 := Aside0.mk (below_then HB2'.out (below_size HB2'.out) hd)
        have HX3 := Aside0.mk (blk_below (blk_alloc (blk_alloc HX2.out _) _) hd)
        have HN3 := Aside0.mk (blk_below (blk_new' _ (.cells #[.int .i64 (m : Int), .int .i64 (c : Int)] 164) nb (by simp; exact hnb)) hd)
        have HM3 := Aside0.mk (MapIs.below ((HM2.out.alloc (.cells #[.int .i64 (f : Int), .int .i64 (h : Int)] 164)).alloc (.cells #[.int .i64 (m : Int), .int .i64 (c : Int)] 164)) hd ((HM2.out.alloc (.cells #[.int .i64 (f : Int), .int .i64 (h : Int)] 164)).alloc (.cells #[.int .i64 (m : Int), .int .i64 (c : Int)] 164)).lt)
        rw [← hnb]
        clear hd hnb
        have n0 : w3.cell? ⟨nb, 0, none⟩ = some (.int .i64 (m : Int)) := (blk_cell HN3.out 0).trans rfl
        have n1 : w3.cell? ⟨nb, 1, none⟩ = some (.int .i64 (c : Int)) := (blk_cell HN3.out 1).trans rfl
        go_wp2_with fail
        refine (I2.out _ HM3.out).mono ?_
        rintro e w4 ⟨rfl, hd⟩
        have HB4 := Aside0.mk (below_then HB3.out (below_size HB3.out) hd)
        have HX4 := Aside0.mk (blk_below HX3.out hd)
        clear hd n0 n1
        have n0 : w4.cell? ⟨xb, 0, none⟩ = some (.int .i64 (f : Int)) := (blk_cell HX4.out 0).trans rfl
        have n1 : w4.cell? ⟨xb, 1, none⟩ = some (.int .i64 (g : Int)) := (blk_cell HX4.out 1).trans rfl
        go_wp2_with fail
        refine (book_node.calls _ _ _ _ _ HN.out).mono ?_
        rintro e w5 ⟨rfl, hd⟩
        have HB5 := Aside0.mk (below_then HB4.out (below_size HB4.out) hd)
        clear hd n0 n1
        cases l with
        | true =>
          go_wp2
          go_ret2
          exact ⟨by rw [Bool.true_and]; rfl, HB5.out⟩
        | false =>
          go_wp2
          go_ret2
          exact ⟨by rw [Bool.false_and]; rfl, HB5.out⟩
end Go.Proofs.Ytmfphlfakmnbmaa.B
end

section
namespace Go.Proofs.Ytmfphlfakmnbmaa.B
open Go.RowKit Go.Proofs.YtmfphlfakmnbmaaW.PrintWords Go.Proofs.YtmfphlfakmnbmaaW.PrintLast Go.Proofs.YtmfphlfakmnbmaaW.PrintMore
attribute [local go_sem] max2_int min2_int max_two min_two max_three min_three max_four min_four
def knownOf : List S129 → Known → Known
  | [], M => M
  | y :: r, M => knownOf r (fun c' => if c' = ⟨y.f0, y.f1⟩ then some y.f2 else M c')
def grownOk (before : Int) (first : Nat) (r : Int) (many : Nat) (p : List S129) : Bool :=
  ((aboveF many (knownOf p (fun _ => none)) 0 many).2 && (if 0 < first then (aboveF first (knownOf p (fun _ => none)) 0 first).2 else true)) &&
    ((aboveF many (knownOf p (fun _ => none)) 0 many).1 == r && (if 0 < first then (aboveF first (knownOf p (fun _ => none)) 0 first).1 else dig [2]) == before)
def cgP (before first r many : Int) (p : List S129) : Int :=
  if ¬ (0 ≤ many ∧ many ≤ 64) then 1 else if ¬ (0 ≤ first ∧ first ≤ many) then 1 else if isDigP before = false then 1 else if isDigP r = false then 1 else if digestsP p = false then 1
  else if placedP p (partedF many.toNat 0 many.toNat first.toNat) = false then 8 else if grownOk before first.toNat r many.toNat p = true then 0 else 8
def book_CheckGrown.f (a0 a1 a2 a3 : Int) (l4 : List S129) : Option Int := some (cgP a0 a1 a2 a3 l4)
theorem placed_wf {p : List S129} {ts : List S164} (h : placedP p ts = true) (hts : ∀ t ∈ ts, Wf164 t) {i : Nat} (hi : i < p.length) : Wf164 ⟨(p.getD i z129).f0, (p.getD i z129).f1⟩ := by
  obtain ⟨h1, h2⟩ := placed_at h hi
  have hl := placed_len h
  rw [h1, h2]
  refine hts _ ?_
  rw [List.getD_eq_getElem?_getD, List.getElem?_eq_getElem (by omega)]
  exact List.getElem_mem _
theorem parted_wf (x : Nat) : ∀ (n g f : Nat), f + g ≤ 64 → g ≤ n → ∀ t ∈ partedF n f g x, Wf164 t := by
  intro n
  induction n with
  | zero =>
    intro g f h hg t ht
    rw [partedF] at ht
    rw [List.mem_singleton.1 ht]
    exact ⟨wf_nat (by omega), wf_nat (by omega)⟩
  | succ n ih =>
    intro g f h hg t ht
    rw [partedF] at ht
    split at ht
    · rw [List.mem_singleton.1 ht]
      exact ⟨wf_nat (by omega), wf_nat (by omega)⟩
    · rename_i hx
      have hb := halfP_bounds (n := g) (by omega) (by omega)
      rcases List.mem_append.1 ht with ht | ht
      · exact ih (halfP g) f (by omega) (by omega) t ht
      · exact ih (g - halfP g) (f + halfP g) (by omega) (by omega) t ht
theorem known_step {p : List S129} {i : Nat} (h : i < p.length) (M : Known) : knownOf (p.drop i) M = knownOf (p.drop (i + 1)) (fun c' => if c' = ⟨(p.getD i z129).f0, (p.getD i z129).f1⟩ then some (p.getD i z129).f2 else M c') := by
  rw [List.drop_eq_getElem_cons h, knownOf]
  simp [List.getD_eq_getElem?_getD, List.getElem?_eq_getElem h]
set_option maxRecDepth 100000 in
set_option maxHeartbeats 2000000 in
theorem book_CheckGrown.calls (a0 a1 a2 a3 : Int) (A4 : Option Addr) (c4 : Nat) (l4 : List S129) (r : Int) (w : World) (hr4 : Kd.C k129 w A4 l4.length l4) (hc4 : l4.length ≤ c4) (h : book_CheckGrown.f a0 a1 a2 a3 l4 = some r) :
    Calls Try.prog 56 #[.int .i64 a0, .int .i64 a1, .int .i64 a2, .int .i64 a3, .slice A4 l4.length c4] w fun e w' => e = .returned (.int .i64 r) ∧ Below w.heap.size w w' := by
  have H := Option.some.inj h
  clear h
  have HR4 := Aside0.mk hr4
  have HC4 := Aside0.mk hc4
  clear hr4 hc4
  have hn := run_not'
  have hmm := @run_makeMap Try.prog
  have hu129 := Try.underlying129
  have hu164 := Try.underlying164
  unfold cgP at H
  by_cases h1 : 0 ≤ a3 ∧ a3 ≤ 64
  · rw [if_neg (fun h => h h1)] at H
    have HW1 := Aside0.mk (show book_within.f a3 0 64 = some true by rw [within_some, decide_eq_true h1])
    by_cases h2 : 0 ≤ a1 ∧ a1 ≤ a3
    · rw [if_neg (fun h => h h2)] at H
      have HW2 := Aside0.mk (show book_within.f a1 0 a3 = some true by rw [within_some, decide_eq_true h2])
      cases h3 : isDigP a0 with
      | false =>
        rw [if_pos h3] at H
        obtain rfl := H
        have HD1 := Aside0.mk (show book_isDigest.f a0 = some false by rw [isDigest_some, h3])
        clear h1 h2 h3
        go_enter Try.func56, Try.ntmps56
        go_wp2_with fail
        refine (book_within.calls _ _ _ true _ HW1.out).mono ?_
        rintro e w1 ⟨rfl, n1, rfl⟩
        go_wp2_with fail
        refine (book_within.calls _ _ _ true _ HW2.out).mono ?_
        rintro e w2 ⟨rfl, n2, rfl⟩
        go_wp2_with fail
        refine (book_isDigest.calls _ false _ HD1.out).mono ?_
        rintro e w3 ⟨rfl, n3, rfl⟩
        go_wp2
        go_ret
        exact ⟨rfl, pw_below_drewN (Below.refl w.heap.size w) _⟩
      | true =>
        rw [if_neg (by rw [h3]; decide)] at H
        have HD1 := Aside0.mk (show book_isDigest.f a0 = some true by rw [isDigest_some, h3])
        cases h4 : isDigP a2 with
        | false =>
          rw [if_pos h4] at H
          obtain rfl := H
          have HD2 := Aside0.mk (show book_isDigest.f a2 = some false by rw [isDigest_some, h4])
          clear h1 h2 h3 h4
          go_enter Try.func56, Try.ntmps56
          go_wp2_with fail
          refine (book_within.calls _ _ _ true _ HW1.out).mono ?_
          rintro e w1 ⟨rfl, n1, rfl⟩
          go_wp2_with fail
          refine (book_within.calls _ _ _ true _ HW2.out).mono ?_
          rintro e w2 ⟨rfl, n2, rfl⟩
          go_wp2_with fail
          refine (book_isDigest.calls _ true _ HD1.out).mono ?_
          rintro e w3 ⟨rfl, n3, rfl⟩
          go_wp2_with fail
          refine (book_isDigest.calls _ false _ HD2.out).mono ?_
          rintro e w4 ⟨rfl, n4, rfl⟩
          go_wp2
          go_ret
          exact ⟨rfl, pw_below_drewN (Below.refl w.heap.size w) _⟩
        | true =>
          rw [if_neg (by rw [h4]; decide)] at H
          have HD2 := Aside0.mk (show book_isDigest.f a2 = some true by rw [isDigest_some, h4])
          cases h5 : digestsP l4 with
          | false =>
            rw [if_pos h5] at H
            obtain rfl := H
            have HDG := Aside0.mk (show book_digests.f l4 = some false by unfold book_digests.f; rw [h5])
            clear h1 h2 h3 h4 h5
            go_enter Try.func56, Try.ntmps56
            go_wp2_with fail
            refine (book_within.calls _ _ _ true _ HW1.out).mono ?_
            rintro e w1 ⟨rfl, n1, rfl⟩
            go_wp2_with fail
            refine (book_within.calls _ _ _ true _ HW2.out).mono ?_
            rintro e w2 ⟨rfl, n2, rfl⟩
            go_wp2_with fail
            refine (book_isDigest.calls _ true _ HD1.out).mono ?_
            rintro e w3 ⟨rfl, n3, rfl⟩
            go_wp2_with fail
            refine (book_isDigest.calls _ true _ HD2.out).mono ?_
            rintro e w4 ⟨rfl, n4, rfl⟩
            go_wp2_with fail
            refine (book_digests.calls _ _ l4 false _ (Kd.C_drewN HR4.out _) HC4.out HDG.out).mono ?_
            rintro e w5 ⟨rfl, hd⟩
            have HB5 := Aside0.mk (below_then (pw_below_drewN (Below.refl w.heap.size w) _) (below_size (pw_below_drewN (Below.refl w.heap.size w) _)) hd)
            clear hd
            go_wp2
            go_ret
            exact ⟨rfl, HB5.out⟩
          | true =>
            rw [if_neg (by rw [h5]; decide)] at H
            have HDG := Aside0.mk (show book_digests.f l4 = some true by unfold book_digests.f; rw [h5])
            clear h3 h4 h5
            obtain ⟨m, rfl⟩ := Int.eq_ofNat_of_zero_le h1.1
            obtain ⟨x, rfl⟩ := Int.eq_ofNat_of_zero_le h2.1
            rw [Int.toNat_natCast, Int.toNat_natCast] at H
            have hm64 : m ≤ 64 := by omega
            have hxm : x ≤ m := by omega
            obtain ⟨T, hT⟩ : ∃ T, T = partedF m 0 m x := ⟨_, rfl⟩
            have hPF := parted_some x m m 0 (2 * m + 13) (Nat.le_refl _) (by omega) (Nat.le_refl _)
            have hTW := parted_wf x m m 0 (by omega) (Nat.le_refl _)
            have hTL := (partedF_length m m 0 x (Nat.le_refl _) hm64).1
            rw [← hT] at H hPF hTW hTL
            have HPF := Aside0.mk hPF
            have HTW := Aside0.mk hTW
            have HTL := Aside0.mk (show T.length ≤ 65 by omega)
            have HPL := Aside0.mk (show book_placed.f l4 T = some (placedP l4 T) from rfl)
            have HXM := Aside0.mk (show x ≤ m ∧ m ≤ 64 from ⟨hxm, hm64⟩)
            clear h1 h2 hT hPF hTW hTL
            cases h6 : placedP l4 T with
            | false =>
              rw [if_pos h6] at H
              obtain rfl := H
              rw [h6] at HPL
              clear h6
              go_enter Try.func56, Try.ntmps56
              go_wp2_with fail
              refine (book_within.calls _ _ _ true _ HW1.out).mono ?_
              rintro e w1 ⟨rfl, n1, rfl⟩
              go_wp2_with fail
              refine (book_within.calls _ _ _ true _ HW2.out).mono ?_
              rintro e w2 ⟨rfl, n2, rfl⟩
              go_wp2_with fail
              refine (book_isDigest.calls _ true _ HD1.out).mono ?_
              rintro e w3 ⟨rfl, n3, rfl⟩
              go_wp2_with fail
              refine (book_isDigest.calls _ true _ HD2.out).mono ?_
              rintro e w4 ⟨rfl, n4, rfl⟩
              go_wp2_with fail
              refine (book_digests.calls _ _ l4 true _ (Kd.C_drewN HR4.out _) HC4.out HDG.out).mono ?_
              rintro e w5 ⟨rfl, hd⟩
              have HB5 := Aside0.mk (below_then (pw_below_drewN (Below.refl w.heap.size w) _) (below_size (pw_below_drewN (Below.refl w.heap.size w) _)) hd)
              clear hd
              go_wp2_with fail
              refine (book_parted.calls (2 * m + 13) 0 _ _ _ _ HPF.out).mono ?_
              rintro e w6 ⟨v6, rfl, hs6, hd⟩
              obtain ⟨A6, c6, rfl, hl6, hC6⟩ := Kd.R_reads hs6
              have HB6 := Aside0.mk (below_then HB5.out (below_size HB5.out) hd)
              have HC6 := Aside0.mk hC6
              have HL6 := Aside0.mk hl6
              clear hs6 hd hl6 hC6
              go_wp2_with fail
              refine (book_placed.calls _ _ l4 _ _ T false _ (Kd.C_below HR4.out HB6.out) HC4.out HC6.out HL6.out HPL.out).mono ?_
              rintro e w7 ⟨rfl, hd⟩
              have HB7 := Aside0.mk (below_then HB6.out (below_size HB6.out) hd)
              clear hd
              go_wp2
              go_ret
              exact ⟨rfl, HB7.out⟩
            | true =>
              rw [if_neg (by rw [h6]; decide)] at H
              rw [h6] at HPL
              have hlen := placed_len h6
              have HKW : Aside0 (∀ i, i < l4.length → Wf164 ⟨(l4.getD i z129).f0, (l4.getD i z129).f1⟩) := ⟨fun i hi => placed_wf h6 HTW.out hi⟩
              have HLN := Aside0.mk (show l4.length ≤ 65 by have := HTL.out; omega)
              obtain ⟨K, hK⟩ : ∃ K, K = knownOf l4 (fun _ => none) := ⟨_, rfl⟩
              unfold grownOk at H
              rw [← hK] at H
              have HKK := Aside0.mk hK
              have HH := Aside0.mk H
              clear h6 hlen hK H
              go_enter Try.func56, Try.ntmps56
              go_wp2_with fail
              refine (book_within.calls _ _ _ true _ HW1.out).mono ?_
              rintro e w1 ⟨rfl, n1, rfl⟩
              go_wp2_with fail
              refine (book_within.calls _ _ _ true _ HW2.out).mono ?_
              rintro e w2 ⟨rfl, n2, rfl⟩
              go_wp2_with fail
              refine (book_isDigest.calls _ true _ HD1.out).mono ?_
              rintro e w3 ⟨rfl, n3, rfl⟩
              go_wp2_with fail
              refine (book_isDigest.calls _ true _ HD2.out).mono ?_
              rintro e w4 ⟨rfl, n4, rfl⟩
              go_wp2_with fail
              refine (book_digests.calls _ _ l4 true _ (Kd.C_drewN HR4.out _) HC4.out HDG.out).mono ?_
              rintro e w5 ⟨rfl, hd⟩
              have HB5 := Aside0.mk (below_then (pw_below_drewN (Below.refl w.heap.size w) _) (below_size (pw_below_drewN (Below.refl w.heap.size w) _)) hd)
              clear hd
              go_wp2_with fail
              refine (book_parted.calls (2 * m + 13) 0 _ _ _ _ HPF.out).mono ?_
              rintro e w6 ⟨v6, rfl, hs6, hd⟩
              obtain ⟨A6, c6, rfl, hl6, hC6⟩ := Kd.R_reads hs6
              have HB6 := Aside0.mk (below_then HB5.out (below_size HB5.out) hd)
              have HC6 := Aside0.mk hC6
              have HL6 := Aside0.mk hl6
              clear hs6 hd hl6 hC6
              go_wp2_with fail
              refine (book_placed.calls _ _ l4 _ _ T true _ (Kd.C_below HR4.out HB6.out) HC4.out HC6.out HL6.out HPL.out).mono ?_
              rintro e w7 ⟨rfl, hd⟩
              have HB7 := Aside0.mk (below_then HB6.out (below_size HB6.out) hd)
              clear hd
              go_wp2
              go_loopw [52] (fun v52 wr => ∃ i : Nat, i ≤ l4.length ∧ v52 = .int .i64 (i : Int) ∧ Aside0 (Below w.heap.size w wr) ∧ Aside0 (∃ M, MapIs Try.prog 164 ek164 evI wr w7.heap.size i M ∧ knownOf (l4.drop i) M = K)) (fun v52 _ => l4.length - (intOf v52).toNat)
              case atStart => exact ⟨0, Nat.zero_le _, rfl, ⟨below_alloc HB7.out _⟩, ⟨⟨_, MapIs.made _ _ _ _ _, HKK.out.symm⟩⟩⟩
              case round =>
                obtain ⟨i, hi, rfl, HBr, HMr⟩ := hrel
                by_cases hlt : i < l4.length
                · obtain ⟨M, hM, hMK⟩ := HMr.out
                  obtain ⟨ad, e, hx0, hx1, hx2⟩ := at_T129 (Kd.C_below HR4.out HBr.out) (i : Int) (by omega) (by omega)
                  cases e
                  rw [Int.toNat_natCast] at hx0 hx1 hx2
                  obtain ⟨y, hy⟩ : ∃ y, y = rd_T129 l4 (i : Int) := ⟨_, rfl⟩
                  rw [← hy] at hx0 hx1 hx2
                  have hy2 : y = l4.getD i z129 := hy
                  rw [known_step hlt M, ← hy2] at hMK
                  have HMK := Aside0.mk hMK
                  have HM := Aside0.mk hM
                  have HKEY := Aside0.mk (kl164_eq (by rw [hy2]; exact HKW.out i hlt : Wf164 ⟨y.f0, y.f1⟩))
                  have HNM := Aside0.mk (show i < maxLen by have := HLN.out; simp only [maxLen]; omega)
                  have z0 : (i : Int) < (l4.length : Int) := by omega
                  have hl65 : l4.length ≤ 65 := HLN.out
                  clear hM hMK hy hy2
                  go_wp2_with (first
                    | (at_mapUpdate; refine wpList_update_map _ rfl _ _ _ 166 rfl 164 3 K164 Try.underlying166 ek164 evI w7.heap.size i M rfl (HM.out.alloc _) HNM.out (⟨y.f0, y.f1⟩ : S164) y.f2 _ rfl rfl HKEY.out (fun _ => ek164_inj) ?_; intro w8 hm8 hg8)
                    | fail)
                  have HB8 := Aside0.mk (pw_below_grown (below_alloc HBr.out _) (some w7.heap.size) (below_size (below_alloc HBr.out _)) hg8 (fun k hk => by injection hk with hk; rw [← hk]; exact below_size HB7.out))
                  have HM8 := Aside0.mk hm8
                  clear hm8 hg8
                  go_roundw
                  case rel => exact ⟨i + 1, by omega, by push_cast; rfl, HB8, ⟨⟨_, HM8.out, HMK.out⟩⟩⟩
                  case measure => simp [intOf]; omega
                · obtain rfl : i = l4.length := by omega
                  obtain ⟨M, hM, hMK⟩ := HMr.out
                  rw [List.drop_length, knownOf] at hMK
                  rw [hMK] at hM
                  have HM := Aside0.mk hM
                  clear hM hMK
                  have A1 := fun w hM => above_calls w7.heap.size l4.length K m m 0 w (Nat.le_refl _) (by have := HXM.out; omega) hM
                  have A2 := fun w hM => above_calls w7.heap.size l4.length K x x 0 w (Nat.le_refl _) (by have := HXM.out; omega) hM
                  simp only [Int.natCast_zero] at A1 A2
                  have hh := HH.out
                  obtain ⟨L, hL⟩ : ∃ L, L = (aboveF m K 0 m).1 := ⟨_, rfl⟩
                  obtain ⟨o, ho⟩ : ∃ o, o = (aboveF m K 0 m).2 := ⟨_, rfl⟩
                  obtain ⟨R, hR⟩ : ∃ R, R = (aboveF x K 0 x).1 := ⟨_, rfl⟩
                  obtain ⟨q, hq⟩ : ∃ q, q = (aboveF x K 0 x).2 := ⟨_, rfl⟩
                  obtain ⟨d2, hd2⟩ : ∃ d2, d2 = dig [2] := ⟨_, rfl⟩
                  have HNN := Aside0.mk (show book_none.f = some d2 by rw [hd2]; rfl)
                  simp only [← hL, ← ho] at A1
                  simp only [← hR, ← hq] at A2
                  rw [← hL, ← ho, ← hR, ← hq, ← hd2] at hh
                  have I1 := Aside0.mk A1
                  have I2 := Aside0.mk A2
                  have HM' := Aside0.mk HM.out
                  clear A1 A2 hL ho hR hq hd2 HH HM HKK
                  by_cases hx : 0 < x
                  · rw [if_pos hx, if_pos hx] at hh
                    have z1 : (0 : Int) < (x : Int) := by omega
                    cases o with
                    | false =>
                      replace hh : (8 : Int) = r := hh
                      obtain rfl := hh
                      clear hx
                      go_wp2_with fail
                      refine (I1.out _ HM'.out).mono ?_
                      rintro e w9 ⟨rfl, hd⟩
                      have HB9 := Aside0.mk (below_then HBr.out (below_size HBr.out) hd)
                      have HM9 := Aside0.mk (MapIs.below HM'.out hd HM'.out.lt)
                      clear hd
                      go_wp2_with fail
                      refine (book_none.calls _ _ HNN.out).mono ?_
                      rintro e w10 ⟨rfl, hd⟩
                      have HB10 := Aside0.mk (below_then HB9.out (below_size HB9.out) hd)
                      have HM10 := Aside0.mk (MapIs.below HM9.out hd HM9.out.lt)
                      clear hd
                      go_wp2_with fail
                      refine (I2.out _ HM10.out).mono ?_
                      rintro e w11 ⟨rfl, hd⟩
                      have HB11 := Aside0.mk (below_then HB10.out (below_size HB10.out) hd)
                      clear hd
                      go_wp2
                      go_ret
                      exact ⟨rfl, HB11.out⟩
                    | true =>
                      cases q with
                      | false =>
                        replace hh : (8 : Int) = r := hh
                        obtain rfl := hh
                        clear hx
                        go_wp2_with fail
                        refine (I1.out _ HM'.out).mono ?_
                        rintro e w9 ⟨rfl, hd⟩
                        have HB9 := Aside0.mk (below_then HBr.out (below_size HBr.out) hd)
                        have HM9 := Aside0.mk (MapIs.below HM'.out hd HM'.out.lt)
                        clear hd
                        go_wp2_with fail
                        refine (book_none.calls _ _ HNN.out).mono ?_
                        rintro e w10 ⟨rfl, hd⟩
                        have HB10 := Aside0.mk (below_then HB9.out (below_size HB9.out) hd)
                        have HM10 := Aside0.mk (MapIs.below HM9.out hd HM9.out.lt)
                        clear hd
                        go_wp2_with fail
                        refine (I2.out _ HM10.out).mono ?_
                        rintro e w11 ⟨rfl, hd⟩
                        have HB11 := Aside0.mk (below_then HB10.out (below_size HB10.out) hd)
                        clear hd
                        go_wp2
                        go_ret
                        exact ⟨rfl, HB11.out⟩
                      | true =>
                        by_cases e1 : L = a2
                        · have k1 : (L == a2) = true := beq_iff_eq.2 e1
                          have k2 : (L != a2) = false := by simp [e1]
                          rw [k1] at hh
                          by_cases e2 : R = a0
                          · have k3 : (R == a0) = true := beq_iff_eq.2 e2
                            have k4 : (R != a0) = false := by simp [e2]
                            rw [k3] at hh
                            clear e1 e2
                            replace hh : (0 : Int) = r := hh
                            obtain rfl := hh
                            clear hx
                            go_wp2_with fail
                            refine (I1.out _ HM'.out).mono ?_
                            rintro e w9 ⟨rfl, hd⟩
                            have HB9 := Aside0.mk (below_then HBr.out (below_size HBr.out) hd)
                            have HM9 := Aside0.mk (MapIs.below HM'.out hd HM'.out.lt)
                            clear hd
                            go_wp2_with fail
                            refine (book_none.calls _ _ HNN.out).mono ?_
                            rintro e w10 ⟨rfl, hd⟩
                            have HB10 := Aside0.mk (below_then HB9.out (below_size HB9.out) hd)
                            have HM10 := Aside0.mk (MapIs.below HM9.out hd HM9.out.lt)
                            clear hd
                            go_wp2_with fail
                            refine (I2.out _ HM10.out).mono ?_
                            rintro e w11 ⟨rfl, hd⟩
                            have HB11 := Aside0.mk (below_then HB10.out (below_size HB10.out) hd)
                            clear hd
                            go_wp2
                            go_ret
                            exact ⟨rfl, HB11.out⟩
                          · have k3 : (R == a0) = false := beq_eq_false_iff_ne.2 e2
                            have k4 : (R != a0) = true := by simpa using e2
                            rw [k3] at hh
                            clear e1 e2
                            replace hh : (8 : Int) = r := hh
                            obtain rfl := hh
                            clear hx
                            go_wp2_with fail
                            refine (I1.out _ HM'.out).mono ?_
                            rintro e w9 ⟨rfl, hd⟩
                            have HB9 := Aside0.mk (below_then HBr.out (below_size HBr.out) hd)
                            have HM9 := Aside0.mk (MapIs.below HM'.out hd HM'.out.lt)
                            clear hd
                            go_wp2_with fail
                            refine (book_none.calls _ _ HNN.out).mono ?_
                            rintro e w10 ⟨rfl, hd⟩
                            have HB10 := Aside0.mk (below_then HB9.out (below_size HB9.out) hd)
                            have HM10 := Aside0.mk (MapIs.below HM9.out hd HM9.out.lt)
                            clear hd
                            go_wp2_with fail
                            refine (I2.out _ HM10.out).mono ?_
                            rintro e w11 ⟨rfl, hd⟩
                            have HB11 := Aside0.mk (below_then HB10.out (below_size HB10.out) hd)
                            clear hd
                            go_wp2
                            go_ret
                            exact ⟨rfl, HB11.out⟩
                        · have k1 : (L == a2) = false := beq_eq_false_iff_ne.2 e1
                          have k2 : (L != a2) = true := by simpa using e1
                          rw [k1] at hh
                          clear e1
                          replace hh : (8 : Int) = r := hh
                          obtain rfl := hh
                          clear hx
                          go_wp2_with fail
                          refine (I1.out _ HM'.out).mono ?_
                          rintro e w9 ⟨rfl, hd⟩
                          have HB9 := Aside0.mk (below_then HBr.out (below_size HBr.out) hd)
                          have HM9 := Aside0.mk (MapIs.below HM'.out hd HM'.out.lt)
                          clear hd
                          go_wp2_with fail
                          refine (book_none.calls _ _ HNN.out).mono ?_
                          rintro e w10 ⟨rfl, hd⟩
                          have HB10 := Aside0.mk (below_then HB9.out (below_size HB9.out) hd)
                          have HM10 := Aside0.mk (MapIs.below HM9.out hd HM9.out.lt)
                          clear hd
                          go_wp2_with fail
                          refine (I2.out _ HM10.out).mono ?_
                          rintro e w11 ⟨rfl, hd⟩
                          have HB11 := Aside0.mk (below_then HB10.out (below_size HB10.out) hd)
                          clear hd
                          go_wp2
                          go_ret
                          exact ⟨rfl, HB11.out⟩
                  · rw [if_neg hx, if_neg hx] at hh
                    obtain rfl : x = 0 := by omega
                    have z1 : ¬ ((0 : Int) < ((0 : Nat) : Int)) := by decide
                    clear hx
                    cases o with
                    | false =>
                      replace hh : (8 : Int) = r := hh
                      obtain rfl := hh
                      go_wp2_with fail
                      refine (I1.out _ HM'.out).mono ?_
                      rintro e w9 ⟨rfl, hd⟩
                      have HB9 := Aside0.mk (below_then HBr.out (below_size HBr.out) hd)
                      have HM9 := Aside0.mk (MapIs.below HM'.out hd HM'.out.lt)
                      clear hd
                      go_wp2_with fail
                      refine (book_none.calls _ _ HNN.out).mono ?_
                      rintro e w10 ⟨rfl, hd⟩
                      have HB10 := Aside0.mk (below_then HB9.out (below_size HB9.out) hd)
                      have HM10 := Aside0.mk (MapIs.below HM9.out hd HM9.out.lt)
                      clear hd
                      go_wp2
                      go_ret
                      exact ⟨rfl, HB10.out⟩
                    | true =>
                      by_cases e1 : L = a2
                      · have k1 : (L == a2) = true := beq_iff_eq.2 e1
                        have k2 : (L != a2) = false := by simp [e1]
                        rw [k1] at hh
                        by_cases e2 : d2 = a0
                        · have k3 : (d2 == a0) = true := beq_iff_eq.2 e2
                          have k4 : (d2 != a0) = false := by simp [e2]
                          rw [k3] at hh
                          clear e1 e2
                          replace hh : (0 : Int) = r := hh
                          obtain rfl := hh
                          go_wp2_with fail
                          refine (I1.out _ HM'.out).mono ?_
                          rintro e w9 ⟨rfl, hd⟩
                          have HB9 := Aside0.mk (below_then HBr.out (below_size HBr.out) hd)
                          have HM9 := Aside0.mk (MapIs.below HM'.out hd HM'.out.lt)
                          clear hd
                          go_wp2_with fail
                          refine (book_none.calls _ _ HNN.out).mono ?_
                          rintro e w10 ⟨rfl, hd⟩
                          have HB10 := Aside0.mk (below_then HB9.out (below_size HB9.out) hd)
                          have HM10 := Aside0.mk (MapIs.below HM9.out hd HM9.out.lt)
                          clear hd
                          go_wp2
                          go_ret
                          exact ⟨rfl, HB10.out⟩
                        · have k3 : (d2 == a0) = false := beq_eq_false_iff_ne.2 e2
                          have k4 : (d2 != a0) = true := by simpa using e2
                          rw [k3] at hh
                          clear e1 e2
                          replace hh : (8 : Int) = r := hh
                          obtain rfl := hh
                          go_wp2_with fail
                          refine (I1.out _ HM'.out).mono ?_
                          rintro e w9 ⟨rfl, hd⟩
                          have HB9 := Aside0.mk (below_then HBr.out (below_size HBr.out) hd)
                          have HM9 := Aside0.mk (MapIs.below HM'.out hd HM'.out.lt)
                          clear hd
                          go_wp2_with fail
                          refine (book_none.calls _ _ HNN.out).mono ?_
                          rintro e w10 ⟨rfl, hd⟩
                          have HB10 := Aside0.mk (below_then HB9.out (below_size HB9.out) hd)
                          have HM10 := Aside0.mk (MapIs.below HM9.out hd HM9.out.lt)
                          clear hd
                          go_wp2
                          go_ret
                          exact ⟨rfl, HB10.out⟩
                      · have k1 : (L == a2) = false := beq_eq_false_iff_ne.2 e1
                        have k2 : (L != a2) = true := by simpa using e1
                        rw [k1] at hh
                        clear e1
                        replace hh : (8 : Int) = r := hh
                        obtain rfl := hh
                        go_wp2_with fail
                        refine (I1.out _ HM'.out).mono ?_
                        rintro e w9 ⟨rfl, hd⟩
                        have HB9 := Aside0.mk (below_then HBr.out (below_size HBr.out) hd)
                        have HM9 := Aside0.mk (MapIs.below HM'.out hd HM'.out.lt)
                        clear hd
                        go_wp2_with fail
                        refine (book_none.calls _ _ HNN.out).mono ?_
                        rintro e w10 ⟨rfl, hd⟩
                        have HB10 := Aside0.mk (below_then HB9.out (below_size HB9.out) hd)
                        have HM10 := Aside0.mk (MapIs.below HM9.out hd HM9.out.lt)
                        clear hd
                        go_wp2
                        go_ret
                        exact ⟨rfl, HB10.out⟩
    · rw [if_pos h2] at H
      obtain rfl := H
      have HW2 := Aside0.mk (show book_within.f a1 0 a3 = some false by rw [within_some, decide_eq_false h2])
      clear h1 h2
      go_enter Try.func56, Try.ntmps56
      go_wp2_with fail
      refine (book_within.calls _ _ _ true _ HW1.out).mono ?_
      rintro e w1 ⟨rfl, n1, rfl⟩
      go_wp2_with fail
      refine (book_within.calls _ _ _ false _ HW2.out).mono ?_
      rintro e w2 ⟨rfl, n2, rfl⟩
      go_wp2
      go_ret
      exact ⟨rfl, pw_below_drewN (Below.refl w.heap.size w) _⟩
  · rw [if_pos h1] at H
    obtain rfl := H
    have HW1 := Aside0.mk (show book_within.f a3 0 64 = some false by rw [within_some, decide_eq_false h1])
    clear h1
    go_enter Try.func56, Try.ntmps56
    go_wp2_with fail
    refine (book_within.calls _ _ _ false _ HW1.out).mono ?_
    rintro e w1 ⟨rfl, n1, rfl⟩
    go_wp2
    go_ret
    exact ⟨rfl, pw_below_drewN (Below.refl w.heap.size w) _⟩
end Go.Proofs.Ytmfphlfakmnbmaa.B
end

section
namespace Go.Proofs.Ytmfphlfakmnbmaa.B
open Go.RowKit Go.Proofs.YtmfphlfakmnbmaaW.PrintWords Go.Proofs.YtmfphlfakmnbmaaW.PrintLast Go.Proofs.YtmfphlfakmnbmaaW.PrintMore
attribute [local go_sem] max2_int min2_int max_two min_two max_three min_three max_four min_four
def begins (P l : List S29) : Bool := decide (l.take P.length = P)
def beg (ls : List (List S29)) (P : List S29) : Nat := (ls.filter (begins P)).length
theorem begins_iff {P l : List S29} : begins P l = true ↔ l.take P.length = P := by simp [begins]
theorem begins_take {P l : List S29} (h : begins P l = true) (n : Nat) : begins (P.take n) l = true := by
  rw [begins_iff] at h ⊢
  rw [List.length_take]
  conv => rhs; rw [← h]
  rw [List.take_take]
theorem filter_le {α : Type} {p q : α → Bool} (h : ∀ x, p x = true → q x = true) : ∀ l : List α, (l.filter p).length ≤ (l.filter q).length
  | [] => Nat.le_refl _
  | a :: r => by
    have ih := filter_le h r
    rw [List.filter_cons, List.filter_cons]
    by_cases hp : p a = true
    · rw [if_pos hp, if_pos (h a hp), List.length_cons, List.length_cons]; omega
    · rw [if_neg hp]
      split
      · rw [List.length_cons]; omega
      · exact ih
def Maj (l : List (List S29)) (P : List S29) : Prop := l.length < 2 * beg l P
theorem Maj.take {l : List (List S29)} {P : List S29} (h : Maj l P) (n : Nat) : Maj l (P.take n) := by
  have := filter_le (fun x hx => begins_take (P := P) (l := x) hx n) l
  unfold Maj beg at *
  omega
theorem Maj.some {l : List (List S29)} {P : List S29} (h : Maj l P) : ∃ x ∈ l, begins P x = true := by
  unfold Maj beg at h
  obtain ⟨x, hx⟩ := List.exists_mem_of_length_pos (l := l.filter (begins P)) (by omega)
  exact ⟨x, (List.mem_filter.1 hx).1, (List.mem_filter.1 hx).2⟩
end Go.Proofs.Ytmfphlfakmnbmaa.B
end

section
namespace Go.Proofs.Ytmfphlfakmnbmaa.B
open Go.RowKit Go.Proofs.YtmfphlfakmnbmaaW.PrintWords Go.Proofs.YtmfphlfakmnbmaaW.PrintLast Go.Proofs.YtmfphlfakmnbmaaW.PrintMore
attribute [local go_sem] max2_int min2_int max_two min_two max_three min_three max_four min_four
def Ev {α : Type} (f : Nat → Option α) (r : α) : Prop := ∃ k0, ∀ k, k0 ≤ k → f k = some r
theorem Ev.step {α : Type} {f g : Nat → Option α} {r : α} (h : Ev g r) (k1 : Nat) (hs : ∀ k, k1 ≤ k → f (k + 1) = g k) : Ev f r := by
  obtain ⟨k0, hk⟩ := h
  refine ⟨k0 + k1 + 1, fun k hle => ?_⟩
  obtain ⟨m, rfl⟩ : ∃ m, k = m + 1 := ⟨k - 1, by omega⟩
  rw [hs m (by omega)]
  exact hk m (by omega)
theorem Ev.same {α : Type} {f g : Nat → Option α} {r : α} (h : Ev g r) (k1 : Nat) (hs : ∀ k, k1 ≤ k → f k = g k) : Ev f r := by
  obtain ⟨k0, hk⟩ := h
  exact ⟨k0 + k1, fun k hle => by rw [hs k (by omega)]; exact hk k (by omega)⟩
theorem Ev.at_ {α : Type} {f : Nat → Option α} {r : α} (h : Ev f r) : ∃ k, f k = some r := by
  obtain ⟨k0, hk⟩ := h
  exact ⟨k0, hk k0 (Nat.le_refl _)⟩
end Go.Proofs.Ytmfphlfakmnbmaa.B
end

section
namespace Go.Proofs.Ytmfphlfakmnbmaa.B
open Go.RowKit Go.Proofs.YtmfphlfakmnbmaaW.PrintWords Go.Proofs.YtmfphlfakmnbmaaW.PrintLast Go.Proofs.YtmfphlfakmnbmaaW.PrintMore
attribute [local go_sem] max2_int min2_int max_two min_two max_three min_three max_four min_four
def placeOf (y : S129) : S164 := ⟨y.f0, y.f1⟩
def firstOf : List S129 → Known
  | [], _ => none
  | y :: r, t => if t = placeOf y then some y.f2 else firstOf r t
def Cover (ts : List S164) : Nat → Nat → Nat → Prop
  | 0, f, g => (⟨(f : Int), (g : Int)⟩ : S164) ∈ ts
  | n + 1, f, g => (⟨(f : Int), (g : Int)⟩ : S164) ∈ ts ∨ (2 ≤ g ∧ Cover ts n f (halfP g) ∧ Cover ts n (f + halfP g) (g - halfP g))
theorem Cover.sub {ts us : List S164} (h : ∀ t ∈ ts, t ∈ us) : ∀ (n f g : Nat), Cover ts n f g → Cover us n f g
  | 0, _, _, hc => h _ hc
  | n + 1, f, g, hc => by
    rcases hc with hc | ⟨h2, h3, h4⟩
    · exact Or.inl (h _ hc)
    · exact Or.inr ⟨h2, Cover.sub h n f _ h3, Cover.sub h n _ _ h4⟩
theorem Cover.one {ts : List S164} {n f g : Nat} (h : (⟨(f : Int), (g : Int)⟩ : S164) ∈ ts) : Cover ts n f g := by
  cases n with
  | zero => exact h
  | succ n => exact Or.inl h
theorem half_of {g n : Nat} (h64 : g ≤ 64) (h2 : 2 ≤ g) (h1 : halfP g < n) (hn : n ≤ g) : halfP n = halfP g := by
  have : ∀ x : Fin 65, ∀ y : Fin 65, 2 ≤ x.val → halfP x.val < y.val → y.val ≤ x.val → halfP y.val = halfP x.val := by decide +kernel
  exact this ⟨g, by omega⟩ ⟨n, by omega⟩ h2 h1 hn
theorem cover_all (x : Nat) : ∀ (n g f : Nat), g ≤ n → g ≤ 64 → Cover (partedF n f g x) n f g := by
  intro n
  induction n with
  | zero =>
    intro g f hg h64
    rw [partedF]
    exact List.mem_singleton.2 rfl
  | succ n ih =>
    intro g f hg h64
    rw [partedF]
    split
    · exact Or.inl (List.mem_singleton.2 rfl)
    · rename_i hx
      have hb := halfP_bounds (n := g) (by omega) h64
      exact Or.inr ⟨by omega, (ih (halfP g) f (by omega) (by omega)).sub (fun t ht => List.mem_append_left _ ht), (ih (g - halfP g) (f + halfP g) (by omega) (by omega)).sub (fun t ht => List.mem_append_right _ ht)⟩
theorem cover_first (x : Nat) : ∀ (n g f m : Nat), g ≤ n → g ≤ 64 → f < x → x ≤ f + g → x - f ≤ m → Cover (partedF n f g x) m f (x - f) := by
  intro n
  induction n with
  | zero => intro g f m hg _ h1 h2; omega
  | succ n ih =>
    intro g f m hg h64 h1 h2 hm
    rw [partedF]
    by_cases he : x = f + g
    · rw [if_pos (Or.inl (by omega)), show x - f = g by omega]
      exact Cover.one (List.mem_singleton.2 rfl)
    · rw [if_neg (by omega)]
      have hb := halfP_bounds (n := g) (by omega) h64
      by_cases hx : x ≤ f + halfP g
      · exact (ih (halfP g) f m (by omega) (by omega) h1 hx hm).sub (fun t ht => List.mem_append_left _ ht)
      · obtain ⟨m, rfl⟩ : ∃ q, m = q + 1 := ⟨m - 1, by omega⟩
        have hh := half_of (g := g) (n := x - f) h64 (by omega) (by omega) (by omega)
        have hleft : partedF n f (halfP g) x = [⟨(f : Int), ((halfP g : Nat) : Int)⟩] := by
          cases n with
          | zero => rfl
          | succ n => rw [partedF, if_pos (Or.inl (by omega))]
        refine Or.inr ⟨by omega, ?_, ?_⟩
        · rw [hh, hleft]
          exact Cover.one (List.mem_append_left _ (List.mem_singleton.2 rfl))
        · rw [hh, show x - f - halfP g = x - (f + halfP g) by omega]
          exact (ih (g - halfP g) (f + halfP g) m (by omega) (by omega) (by omega) (by omega) (by omega)).sub (fun t ht => List.mem_append_right _ ht)
theorem parted_in (x : Nat) : ∀ (n g f : Nat), g ≤ n → g ≤ 64 → 1 ≤ g → ∀ t ∈ partedF n f g x, (f : Int) ≤ t.f0 ∧ t.f0 < (f : Int) + (g : Int) ∧ 1 ≤ t.f1 ∧ t.f0 + t.f1 ≤ (f : Int) + (g : Int) := by
  intro n
  induction n with
  | zero => intro g f hg _ h1; omega
  | succ n ih =>
    intro g f hg h64 h1 t ht
    rw [partedF] at ht
    split at ht
    · rw [List.mem_singleton.1 ht]
      refine ⟨Int.le_refl _, ?_, ?_, Int.le_refl _⟩
      · show (f : Int) < (f : Int) + (g : Int); omega
      · show 1 ≤ (g : Int); omega
    · rename_i hx
      have hb := halfP_bounds (n := g) (by omega) h64
      rcases List.mem_append.1 ht with ht | ht
      · have := ih (halfP g) f (by omega) (by omega) (by omega) t ht; omega
      · have := ih (g - halfP g) (f + halfP g) (by omega) (by omega) (by omega) t ht; omega
theorem parted_nodup (x : Nat) : ∀ (n g f : Nat), g ≤ n → g ≤ 64 → (partedF n f g x).Nodup := by
  intro n
  induction n with
  | zero => intro g f _ _; rw [partedF]; exact List.nodup_cons.2 ⟨List.not_mem_nil, List.nodup_nil⟩
  | succ n ih =>
    intro g f hg h64
    rw [partedF]
    split
    · exact List.nodup_cons.2 ⟨List.not_mem_nil, List.nodup_nil⟩
    · rename_i hx
      have hb := halfP_bounds (n := g) (by omega) h64
      refine List.nodup_append.2 ⟨ih (halfP g) f (by omega) (by omega), ih (g - halfP g) (f + halfP g) (by omega) (by omega), fun s hs t ht he => ?_⟩
      have h1 := parted_in x n (halfP g) f (by omega) (by omega) (by omega) s hs
      have h2 := parted_in x n (g - halfP g) (f + halfP g) (by omega) (by omega) (by omega) t ht
      rw [he] at h1
      omega
theorem firstOf_none : ∀ {p : List S129} {t : S164}, t ∉ p.map placeOf → firstOf p t = none
  | [], _, _ => rfl
  | y :: r, t, h => by
    rw [List.map_cons, List.mem_cons] at h
    rw [firstOf, if_neg (fun e => h (Or.inl e))]
    exact firstOf_none (fun e => h (Or.inr e))
theorem firstOf_some : ∀ {p : List S129} {t : S164}, t ∈ p.map placeOf → ∃ y ∈ p, placeOf y = t ∧ firstOf p t = some y.f2
  | [], _, h => by cases h
  | y :: r, t, h => by
    rw [List.map_cons, List.mem_cons] at h
    by_cases e : t = placeOf y
    · exact ⟨y, List.mem_cons_self, e.symm, by rw [firstOf, if_pos e]⟩
    · rcases h with h | h
      · exact absurd h e
      · obtain ⟨z, h1, h2, h3⟩ := firstOf_some h
        exact ⟨z, List.mem_cons_of_mem _ h1, h2, by rw [firstOf, if_neg e]; exact h3⟩
theorem known_first : ∀ (p : List S129) (M : Known) (t : S164), (p.map placeOf).Nodup → knownOf p M t = match firstOf p t with | some d => some d | none => M t
  | [], _, _, _ => rfl
  | y :: r, M, t, h => by
    rw [List.map_cons, List.nodup_cons] at h
    rw [knownOf, known_first r _ t h.2, firstOf]
    by_cases e : t = placeOf y
    · rw [if_pos e, firstOf_none (by rw [e]; exact h.1)]
      show (if t = ⟨y.f0, y.f1⟩ then some y.f2 else M t) = some y.f2
      rw [if_pos (show t = ⟨y.f0, y.f1⟩ from e)]
    · rw [if_neg e]
      cases firstOf r t with
      | some d => rfl
      | none =>
        show (if t = ⟨y.f0, y.f1⟩ then some y.f2 else M t) = M t
        rw [if_neg (show ¬ t = ⟨y.f0, y.f1⟩ from e)]
def togF : Nat → Known → Nat → Nat → Int
  | 0, F, f, g => match F ⟨(f : Int), (g : Int)⟩ with
    | some d => d
    | none => dig [2]
  | k + 1, F, f, g => match F ⟨(f : Int), (g : Int)⟩ with
    | some d => d
    | none => if g < 2 then dig [2] else dig [1, (g : Int), togF k F f (halfP g), togF k F (f + halfP g) (g - halfP g)]
theorem above_cover {F : Known} {ts : List S164} (hF : ∀ t ∈ ts, ∃ d, F t = some d) : ∀ (n f g : Nat), Cover ts n f g → aboveF n F f g = (togF n F f g, true)
  | 0, f, g, h => by
    obtain ⟨d, hd⟩ := hF _ h
    rw [aboveF, togF, hd]
  | n + 1, f, g, h => by
    rw [aboveF, togF]
    cases hd : F ⟨(f : Int), (g : Int)⟩ with
    | some d => rfl
    | none =>
      rcases h with h | ⟨h2, h3, h4⟩
      · obtain ⟨d, hd2⟩ := hF _ h
        rw [hd] at hd2
        cases hd2
      · dsimp only
        rw [if_neg (by omega), if_neg (by omega), above_cover hF n _ _ h3, above_cover hF n _ _ h4]
        rfl
def grownT (before : Int) (first : Nat) (r : Int) (many : Nat) (p : List S129) : Bool :=
  togF many (firstOf p) 0 many == r && (if 0 < first then togF first (firstOf p) 0 first else dig [2]) == before
theorem grown_ok {before r : Int} {first many : Nat} {p : List S129} (hf : first ≤ many) (hm : many ≤ 64) (h : placedP p (partedF many 0 many first) = true) : grownOk before first r many p = grownT before first r many p := by
  have hpl : p.map placeOf = partedF many 0 many first := placed_iff.1 h
  have hnd : (p.map placeOf).Nodup := by rw [hpl]; exact parted_nodup first many many 0 (Nat.le_refl _) hm
  have hK : knownOf p (fun _ => none) = firstOf p := by
    funext t
    rw [known_first p _ t hnd]
    cases firstOf p t <;> rfl
  have hF : ∀ t ∈ p.map placeOf, ∃ d, firstOf p t = some d := fun t ht => by
    obtain ⟨y, _, _, h3⟩ := firstOf_some ht
    exact ⟨_, h3⟩
  have c1 : Cover (p.map placeOf) many 0 many := by rw [hpl]; exact cover_all first many many 0 (Nat.le_refl _) hm
  unfold grownOk grownT
  rw [hK, above_cover hF many 0 many c1]
  by_cases h0 : 0 < first
  · have c2 : Cover (p.map placeOf) first 0 first := by
      have := cover_first first many many 0 first (Nat.le_refl _) hm h0 (by omega) (by omega)
      rw [hpl]
      simpa using this
    rw [if_pos h0, if_pos h0, if_pos h0, above_cover hF first 0 first c2]
    rfl
  · rw [if_neg h0, if_neg h0, if_neg h0]
    rfl
end Go.Proofs.Ytmfphlfakmnbmaa.B
end

section
namespace Go.Proofs.Ytmfphlfakmnbmaa.B
open Go.RowKit Go.Proofs.YtmfphlfakmnbmaaW.PrintWords Go.Proofs.YtmfphlfakmnbmaaW.PrintLast Go.Proofs.YtmfphlfakmnbmaaW.PrintMore
attribute [local go_sem] max2_int min2_int max_two min_two max_three min_three max_four min_four
theorem parted_inbook {l : List S29} (h64 : l.length ≤ 64) (x : Nat) : ∀ t ∈ partedF l.length 0 l.length x, InBook l t := by
  intro t ht
  by_cases h0 : l.length = 0
  · rw [h0, partedF] at ht
    rw [List.mem_singleton.1 ht]
    exact ⟨by simp, by simp, by simp⟩
  · have := parted_in x l.length l.length 0 (Nat.le_refl _) h64 (by omega) t ht
    unfold InBook
    omega
def grownP (l : List S29) (a : Int) : List S129 × Int := if checkP l = 0 then (if 0 ≤ a ∧ a ≤ (l.length : Int) then (twigsP l (partedF l.length 0 l.length a.toNat), 0) else ([], 1)) else ([], checkP l)
theorem book_Grown_is (l : List S29) (a : Int) {k : Nat} (hk : 300 ≤ k) : book_Grown.f k l a = some (grownP l a) := by
  unfold book_Grown.f book_Check.f grownP
  rw [Option.bind_some]
  by_cases hc : checkP l = 0
  · have h64 := check_len hc
    rw [if_pos hc, if_pos hc, within_some, Option.bind_some]
    by_cases ha : 0 ≤ a ∧ a ≤ (l.length : Int)
    · obtain ⟨x, rfl⟩ := Int.eq_ofNat_of_zero_le ha.1
      have hp := parted_some x l.length l.length 0 k (Nat.le_refl _) (by omega) (by omega)
      have hl := (partedF_length l.length l.length 0 x (Nat.le_refl _) h64).1
      rw [decide_eq_true ha, if_pos rfl, if_pos ha, Int.toNat_natCast, show (0 : Int) = ((0 : Nat) : Int) from rfl, hp, Option.bind_some]
      rw [at_rounds (g := fun k => book_twigs.f k l (partedF l.length 0 l.length x)) (fun k => book_twigs.mono _ _ k) hk (twigs_some l h64 _ (parted_inbook h64 x) (by omega)), Option.bind_some]
    · rw [decide_eq_false ha, if_neg (by decide), if_neg ha]
  · rw [if_neg hc, if_neg hc]
end Go.Proofs.Ytmfphlfakmnbmaa.B
end

section
namespace Go.Proofs.Ytmfphlfakmnbmaa.B
open Go.RowKit Go.Proofs.YtmfphlfakmnbmaaW.PrintWords Go.Proofs.YtmfphlfakmnbmaaW.PrintLast Go.Proofs.YtmfphlfakmnbmaaW.PrintMore
attribute [local go_sem] max2_int min2_int max_two min_two max_three min_three max_four min_four
def book_Known.f (l0 : List (S29)) (a1 : Int) : Option (Int × Int) := (book_Check.f l0).bind fun t101 => (if t101 = 0 then ((book_within.f a1 0 682).bind fun t102 => (if t102 = true then ((book_known.f l0 a1).bind fun t103 => (some (t103, 0))) else (some (0, 1)))) else (some (0, t101)))
set_option maxHeartbeats 8000000 in
set_option maxRecDepth 100000 in
theorem book_Known.calls (A0 : Option Addr) (c0 : Nat) (l0 : List (S29)) (a1 : Int) (r1 : Int) (r2 : Int) (w : World) (hr0 : Kd.C k29 w A0 l0.length l0) (hc0 : l0.length ≤ c0) (h : book_Known.f l0 a1 = some (r1, r2)) :
    Calls Try.prog 44 #[.slice A0 l0.length c0, .int .i64 a1] w fun e w' => e = .returned (.tuple #[.int .i64 r1, .int .i64 r2]) ∧ Below w.heap.size w w' := by
  have HR0 := Aside0.mk hr0
  have HC0 := Aside0.mk hc0
  clear hr0 hc0
  have HB := Aside0.mk (Below.refl w.heap.size w)
  have H : ((book_Check.f l0).bind fun t101 => (if t101 = 0 then ((book_within.f a1 0 682).bind fun t102 => (if t102 = true then ((book_known.f l0 a1).bind fun t103 => (some (t103, 0))) else (some (0, 1)))) else (some (0, t101)))) = some (r1, r2) := h
  clear h
  replace H := Option.bind_eq_some_iff.mp H
  obtain ⟨t101, A30, H⟩ := H
  replace H : (if t101 = 0 then ((book_within.f a1 0 682).bind fun t102 => (if t102 = true then ((book_known.f l0 a1).bind fun t103 => (some (t103, 0))) else (some (0, 1)))) else (some (0, t101))) = some (r1, r2) := H
  have A3 := Aside0.mk A30
  clear A30
  by_cases c4 : t101 = 0
  · rw [if_pos c4] at H
    have c4b0 : (t101 == 0) = true := beq_iff_eq.mpr c4
    have c4b1 : (t101 != 0) = false := bne_eq_false_iff_eq.mpr c4
    clear c4
    replace H := Option.bind_eq_some_iff.mp H
    obtain ⟨t102, A50, H⟩ := H
    replace H : (if t102 = true then ((book_known.f l0 a1).bind fun t103 => (some (t103, 0))) else (some (0, 1))) = some (r1, r2) := H
    have A5 := Aside0.mk A50
    clear A50
    by_cases c6 : t102 = true
    · subst c6
      have H1 : ((book_known.f l0 a1).bind fun t103 => (some (t103, 0))) = some (r1, r2) := by rw [if_pos rfl] at H; exact H
      clear H
      have H := H1
      clear H1
      replace H := Option.bind_eq_some_iff.mp H
      obtain ⟨t103, A70, H⟩ := H
      replace H : (some (t103, 0)) = some (r1, r2) := H
      have A7 := Aside0.mk A70
      clear A70
      simp only [Option.some.injEq, Prod.mk.injEq] at H
      obtain ⟨rfl, rfl⟩ := H
      go_enter Try.func44, Try.ntmps44
      go_wp2_with (first | ((with_reducible refine gate_callee (f := 42) rfl ?_); refine goesL_ (some 8) rfl rfl Try.func42 (by kernel_rfl) rfl #[.slice A0 l0.length c0] rfl (by (try simp only [List.map_toArray, List.map_cons, List.map_nil]); first | done | rfl | (simp only [List.length_drop, List.length_take]; rfl)) ?_; (with_reducible refine (book_Check.calls _ _ l0 t101 _ ?side1 ?side2 A3.out).mono ?_); (case side1 => repeat (first | exact HR0.out | (with_reducible refine Kd.C_alloc ?_ _) | (with_reducible refine Kd.C_drewN ?_ _) | (with_reducible refine Kd.C_drew ?_))); (case side2 => exact HC0.out); rintro e w8 ⟨rfl, hb⟩; refine ⟨_, rfl, ?_⟩; have n0_ := Aside0.mk (below_step (by repeat (first | (with_reducible first | exact HB.out | apply below_alloc | apply pw_below_drewN | apply below_drew1) | exact HB.out)) hb); clear HB; have HB := n0_; clear n0_; (try clear hb); (try clear hb2); (try clear hk); (try clear hi)) | ((with_reducible refine gate_callee (f := 86) rfl ?_); refine goesL_ (some 13) rfl rfl Try.func86 (by kernel_rfl) rfl #[.int .i64 a1, .int .i64 0, .int .i64 682] rfl (by (try simp only [List.map_toArray, List.map_cons, List.map_nil]); first | done | rfl | (simp only [List.length_drop, List.length_take]; rfl)) ?_; (with_reducible refine (book_within.calls a1 0 682 true _ A5.out).mono ?_); rintro e w' ⟨rfl, ⟨nd, rfl⟩⟩; refine ⟨_, rfl, ?_⟩) | ((with_reducible refine gate_callee (f := 109) rfl ?_); refine goesL_ (some 17) rfl rfl Try.func109 (by kernel_rfl) rfl #[.slice A0 l0.length c0, .int .i64 a1] rfl (by (try simp only [List.map_toArray, List.map_cons, List.map_nil]); first | done | rfl | (simp only [List.length_drop, List.length_take]; rfl)) ?_; (with_reducible refine (book_known.calls _ _ l0 a1 t103 _ ?side1 ?side2 A7.out).mono ?_); (case side1 => repeat (first | exact (Kd.C_below HR0.out (by repeat (first | (with_reducible first | exact HB.out | apply below_alloc | apply pw_below_drewN | apply below_drew1) | exact HB.out))) | (with_reducible refine Kd.C_alloc ?_ _) | (with_reducible refine Kd.C_drewN ?_ _) | (with_reducible refine Kd.C_drew ?_))); (case side2 => exact HC0.out); rintro e w9 ⟨rfl, hb⟩; refine ⟨_, rfl, ?_⟩; have n0_ := Aside0.mk (below_step (by repeat (first | (with_reducible first | exact HB.out | apply below_alloc | apply pw_below_drewN | apply below_drew1) | exact HB.out)) hb); clear HB; have HB := n0_; clear n0_; (try clear hb); (try clear hb2); (try clear hk); (try clear hi)))
      go_ret2
      exact ⟨by first | rfl | (simp [errW_none, errW_some] <;> rfl) | (simp [*, errW_none, errW_some] <;> rfl), by repeat (first | (with_reducible first | exact HB.out | apply below_alloc | apply pw_below_drewN | apply below_drew1) | exact HB.out)⟩
    · replace c6 := Bool.eq_false_iff.mpr c6
      subst c6
      have H1 : (some (0, 1)) = some (r1, r2) := by rw [if_neg (show ¬ (false = true) by decide)] at H; exact H
      clear H
      have H := H1
      clear H1
      simp only [Option.some.injEq, Prod.mk.injEq] at H
      obtain ⟨rfl, rfl⟩ := H
      go_enter Try.func44, Try.ntmps44
      go_wp2_with (first | ((with_reducible refine gate_callee (f := 42) rfl ?_); refine goesL_ (some 8) rfl rfl Try.func42 (by kernel_rfl) rfl #[.slice A0 l0.length c0] rfl (by (try simp only [List.map_toArray, List.map_cons, List.map_nil]); first | done | rfl | (simp only [List.length_drop, List.length_take]; rfl)) ?_; (with_reducible refine (book_Check.calls _ _ l0 t101 _ ?side1 ?side2 A3.out).mono ?_); (case side1 => repeat (first | exact HR0.out | (with_reducible refine Kd.C_alloc ?_ _) | (with_reducible refine Kd.C_drewN ?_ _) | (with_reducible refine Kd.C_drew ?_))); (case side2 => exact HC0.out); rintro e w10 ⟨rfl, hb⟩; refine ⟨_, rfl, ?_⟩; have n0_ := Aside0.mk (below_step (by repeat (first | (with_reducible first | exact HB.out | apply below_alloc | apply pw_below_drewN | apply below_drew1) | exact HB.out)) hb); clear HB; have HB := n0_; clear n0_; (try clear hb); (try clear hb2); (try clear hk); (try clear hi)) | ((with_reducible refine gate_callee (f := 86) rfl ?_); refine goesL_ (some 13) rfl rfl Try.func86 (by kernel_rfl) rfl #[.int .i64 a1, .int .i64 0, .int .i64 682] rfl (by (try simp only [List.map_toArray, List.map_cons, List.map_nil]); first | done | rfl | (simp only [List.length_drop, List.length_take]; rfl)) ?_; (with_reducible refine (book_within.calls a1 0 682 false _ A5.out).mono ?_); rintro e w' ⟨rfl, ⟨nd, rfl⟩⟩; refine ⟨_, rfl, ?_⟩))
      go_ret2
      exact ⟨by first | rfl | (simp [errW_none, errW_some] <;> rfl) | (simp [*, errW_none, errW_some] <;> rfl), by repeat (first | (with_reducible first | exact HB.out | apply below_alloc | apply pw_below_drewN | apply below_drew1) | exact HB.out)⟩
  · rw [if_neg c4] at H
    have c4b0 : (t101 == 0) = false := beq_eq_false_iff_ne.mpr c4
    have c4b1 : (t101 != 0) = true := bne_iff_ne.mpr c4
    simp only [Option.some.injEq, Prod.mk.injEq] at H
    obtain ⟨rfl, rfl⟩ := H
    go_enter Try.func44, Try.ntmps44
    go_wp2_with (first | ((with_reducible refine gate_callee (f := 42) rfl ?_); refine goesL_ (some 8) rfl rfl Try.func42 (by kernel_rfl) rfl #[.slice A0 l0.length c0] rfl (by (try simp only [List.map_toArray, List.map_cons, List.map_nil]); first | done | rfl | (simp only [List.length_drop, List.length_take]; rfl)) ?_; (with_reducible refine (book_Check.calls _ _ l0 t101 _ ?side1 ?side2 A3.out).mono ?_); (case side1 => repeat (first | exact HR0.out | (with_reducible refine Kd.C_alloc ?_ _) | (with_reducible refine Kd.C_drewN ?_ _) | (with_reducible refine Kd.C_drew ?_))); (case side2 => exact HC0.out); rintro e w11 ⟨rfl, hb⟩; refine ⟨_, rfl, ?_⟩; have n0_ := Aside0.mk (below_step (by repeat (first | (with_reducible first | exact HB.out | apply below_alloc | apply pw_below_drewN | apply below_drew1) | exact HB.out)) hb); clear HB; have HB := n0_; clear n0_; (try clear hb); (try clear hb2); (try clear hk); (try clear hi)))
    go_ret2
    exact ⟨by first | rfl | (simp [errW_none, errW_some] <;> rfl) | (simp [*, errW_none, errW_some] <;> rfl), by repeat (first | (with_reducible first | exact HB.out | apply below_alloc | apply pw_below_drewN | apply below_drew1) | exact HB.out)⟩
end Go.Proofs.Ytmfphlfakmnbmaa.B
end

section
namespace Go.Proofs.Ytmfphlfakmnbmaa.B
open Go.RowKit Go.Proofs.YtmfphlfakmnbmaaW.PrintWords Go.Proofs.YtmfphlfakmnbmaaW.PrintLast Go.Proofs.YtmfphlfakmnbmaaW.PrintMore
attribute [local go_sem] max2_int min2_int max_two min_two max_three min_three max_four min_four
mutual
def calxlaw08_BookGoesOn.j0 : Nat → List (S29) → Int → Int → Int → Bool → Option (Bool)
  | 0, _, _, _, _, _ => none
  | k + 1, x0, x2, x3, x4, x74 => if x74 = true then (some false) else ((book_Known.f x0 x4).bind fun bt123 => (if bt123.2 = 0 then (if bt123.1 < 0 then (calxlaw08_BookGoesOn.j1 k x0 x2 x3 x4 bt123.1 true) else (calxlaw08_BookGoesOn.j1 k x0 x2 x3 x4 bt123.1 (decide (bt123.1 > (x0.length : Int))))) else ((calxlaw08_sanity.f).bind fun t125 => (some t125))))
def calxlaw08_BookGoesOn.j1 : Nat → List (S29) → Int → Int → Int → Int → Bool → Option (Bool)
  | 0, _, _, _, _, _, _ => none
  | k + 1, x0, x2, x3, x4, x18, x91 => if x91 = true then (some false) else ((some (([] : List (S29)) : List (S29))).bind fun y126 => (if 0 ≤ x18 then (if x18 ≤ (x0.length : Int) then ((some (x0.take (x18 : Int).toNat : List (S29))).bind fun y129 => (if y126.length + y129.length < 4398046511104 then ((book_Known.f (y126 ++ y129) x4).bind fun bt136 => ((book_Total.f x0 x2 x3 x4).bind fun bt138 => ((some (([] : List (S29)) : List (S29))).bind fun y140 => ((some (x0.take (x18 : Int).toNat : List (S29))).bind fun y143 => (if y140.length + y143.length < 4398046511104 then ((book_Total.f (y140 ++ y143) x2 x3 x4).bind fun bt150 => ((calxlaw08_sanity.f).bind fun t152 => (if t152 = true then (if bt136.2 = 0 then (if bt136.1 = x18 then (if bt138.1 = bt150.1 then (some (bt138.2 == bt150.2)) else (some false)) else (some false)) else (some false)) else (some false)))) else (none)))))) else (none))) else (none)) else (none)))
end
def calxlaw08_BookGoesOn.f (k : Nat) (l0 : List (S29)) (a1 : Int) (a2 : Int) (a3 : Int) (a4 : Int) : Option (Bool) := (calxlaw08_few.f l0).bind fun t101 => (if t101 = true then ((book_Root.f l0).bind fun bt103 => (if bt103.2 = 0 then (if (wrap64 ((l0.length : Int) + 1)) = 0 then (none) else ((some (([] : List (S29)) : List (S29))).bind fun y106 => (if 0 ≤ (Int.tmod (wrap64 (a1)) (wrap64 ((l0.length : Int) + 1))) then (if (Int.tmod (wrap64 (a1)) (wrap64 ((l0.length : Int) + 1))) ≤ (l0.length : Int) then ((some (l0.take ((Int.tmod (wrap64 (a1)) (wrap64 ((l0.length : Int) + 1))) : Int).toNat : List (S29))).bind fun y109 => (if y106.length + y109.length < 4398046511104 then ((book_Root.f (y106 ++ y109)).bind fun bt116 => ((book_Grown.f k l0 (Int.tmod (wrap64 (a1)) (wrap64 ((l0.length : Int) + 1)))).bind fun bt118 => (if bt116.2 = 0 then (if bt118.2 = 0 then ((book_CheckGrown.f bt116.1 (Int.tmod (wrap64 (a1)) (wrap64 ((l0.length : Int) + 1))) bt103.1 (l0.length : Int) bt118.1).bind fun t122 => (calxlaw08_BookGoesOn.j0 k l0 a2 a3 a4 (t122 != 0))) else (calxlaw08_BookGoesOn.j0 k l0 a2 a3 a4 true)) else (calxlaw08_BookGoesOn.j0 k l0 a2 a3 a4 true)))) else (none))) else (none)) else (none)))) else ((calxlaw08_sanity.f).bind fun t105 => (some t105)))) else ((calxlaw08_sanity.f).bind fun t102 => (some t102)))
set_option maxHeartbeats 8000000 in
set_option maxRecDepth 100000 in
theorem calxlaw08_BookGoesOn.calls (k : Nat) (A0 : Option Addr) (c0 : Nat) (l0 : List (S29)) (a1 : Int) (a2 : Int) (a3 : Int) (a4 : Int) (r : Bool) (w : World) (hr0 : Kd.C k29 w A0 l0.length l0) (hc0 : l0.length ≤ c0) (h : calxlaw08_BookGoesOn.f k l0 a1 a2 a3 a4 = some r) :
    Calls Try.prog 17 #[.slice A0 l0.length c0, .int .u8 a1, .int .i64 a2, .int .i64 a3, .int .i64 a4] w fun e w' => e = .returned (.bool r) ∧ Below w.heap.size w w' := by
  have HR0 := Aside0.mk hr0
  have HC0 := Aside0.mk hc0
  clear hr0 hc0
  have HB := Aside0.mk (Below.refl w.heap.size w)
  have H : ((calxlaw08_few.f l0).bind fun t101 => (if t101 = true then ((book_Root.f l0).bind fun bt103 => (if bt103.2 = 0 then (if (wrap64 ((l0.length : Int) + 1)) = 0 then (none) else ((some (([] : List (S29)) : List (S29))).bind fun y106 => (if 0 ≤ (Int.tmod (wrap64 (a1)) (wrap64 ((l0.length : Int) + 1))) then (if (Int.tmod (wrap64 (a1)) (wrap64 ((l0.length : Int) + 1))) ≤ (l0.length : Int) then ((some (l0.take ((Int.tmod (wrap64 (a1)) (wrap64 ((l0.length : Int) + 1))) : Int).toNat : List (S29))).bind fun y109 => (if y106.length + y109.length < 4398046511104 then ((book_Root.f (y106 ++ y109)).bind fun bt116 => ((book_Grown.f k l0 (Int.tmod (wrap64 (a1)) (wrap64 ((l0.length : Int) + 1)))).bind fun bt118 => (if bt116.2 = 0 then (if bt118.2 = 0 then ((book_CheckGrown.f bt116.1 (Int.tmod (wrap64 (a1)) (wrap64 ((l0.length : Int) + 1))) bt103.1 (l0.length : Int) bt118.1).bind fun t122 => (calxlaw08_BookGoesOn.j0 k l0 a2 a3 a4 (t122 != 0))) else (calxlaw08_BookGoesOn.j0 k l0 a2 a3 a4 true)) else (calxlaw08_BookGoesOn.j0 k l0 a2 a3 a4 true)))) else (none))) else (none)) else (none)))) else ((calxlaw08_sanity.f).bind fun t105 => (some t105)))) else ((calxlaw08_sanity.f).bind fun t102 => (some t102)))) = some r := h
  clear h
  replace H := Option.bind_eq_some_iff.mp H
  obtain ⟨t101, A60, H⟩ := H
  replace H : (if t101 = true then ((book_Root.f l0).bind fun bt103 => (if bt103.2 = 0 then (if (wrap64 ((l0.length : Int) + 1)) = 0 then (none) else ((some (([] : List (S29)) : List (S29))).bind fun y106 => (if 0 ≤ (Int.tmod (wrap64 (a1)) (wrap64 ((l0.length : Int) + 1))) then (if (Int.tmod (wrap64 (a1)) (wrap64 ((l0.length : Int) + 1))) ≤ (l0.length : Int) then ((some (l0.take ((Int.tmod (wrap64 (a1)) (wrap64 ((l0.length : Int) + 1))) : Int).toNat : List (S29))).bind fun y109 => (if y106.length + y109.length < 4398046511104 then ((book_Root.f (y106 ++ y109)).bind fun bt116 => ((book_Grown.f k l0 (Int.tmod (wrap64 (a1)) (wrap64 ((l0.length : Int) + 1)))).bind fun bt118 => (if bt116.2 = 0 then (if bt118.2 = 0 then ((book_CheckGrown.f bt116.1 (Int.tmod (wrap64 (a1)) (wrap64 ((l0.length : Int) + 1))) bt103.1 (l0.length : Int) bt118.1).bind fun t122 => (calxlaw08_BookGoesOn.j0 k l0 a2 a3 a4 (t122 != 0))) else (calxlaw08_BookGoesOn.j0 k l0 a2 a3 a4 true)) else (calxlaw08_BookGoesOn.j0 k l0 a2 a3 a4 true)))) else (none))) else (none)) else (none)))) else ((calxlaw08_sanity.f).bind fun t105 => (some t105)))) else ((calxlaw08_sanity.f).bind fun t102 => (some t102))) = some r := H
  have A6 := Aside0.mk A60
  clear A60
  by_cases c7 : t101 = true
  · subst c7
    have H1 : ((book_Root.f l0).bind fun bt103 => (if bt103.2 = 0 then (if (wrap64 ((l0.length : Int) + 1)) = 0 then (none) else ((some (([] : List (S29)) : List (S29))).bind fun y106 => (if 0 ≤ (Int.tmod (wrap64 (a1)) (wrap64 ((l0.length : Int) + 1))) then (if (Int.tmod (wrap64 (a1)) (wrap64 ((l0.length : Int) + 1))) ≤ (l0.length : Int) then ((some (l0.take ((Int.tmod (wrap64 (a1)) (wrap64 ((l0.length : Int) + 1))) : Int).toNat : List (S29))).bind fun y109 => (if y106.length + y109.length < 4398046511104 then ((book_Root.f (y106 ++ y109)).bind fun bt116 => ((book_Grown.f k l0 (Int.tmod (wrap64 (a1)) (wrap64 ((l0.length : Int) + 1)))).bind fun bt118 => (if bt116.2 = 0 then (if bt118.2 = 0 then ((book_CheckGrown.f bt116.1 (Int.tmod (wrap64 (a1)) (wrap64 ((l0.length : Int) + 1))) bt103.1 (l0.length : Int) bt118.1).bind fun t122 => (calxlaw08_BookGoesOn.j0 k l0 a2 a3 a4 (t122 != 0))) else (calxlaw08_BookGoesOn.j0 k l0 a2 a3 a4 true)) else (calxlaw08_BookGoesOn.j0 k l0 a2 a3 a4 true)))) else (none))) else (none)) else (none)))) else ((calxlaw08_sanity.f).bind fun t105 => (some t105)))) = some r := by rw [if_pos rfl] at H; exact H
    clear H
    have H := H1
    clear H1
    replace H := Option.bind_eq_some_iff.mp H
    obtain ⟨⟨t103, t104⟩, A80, H⟩ := H
    replace H : (if t104 = 0 then (if (wrap64 ((l0.length : Int) + 1)) = 0 then (none) else ((some (([] : List (S29)) : List (S29))).bind fun y106 => (if 0 ≤ (Int.tmod (wrap64 (a1)) (wrap64 ((l0.length : Int) + 1))) then (if (Int.tmod (wrap64 (a1)) (wrap64 ((l0.length : Int) + 1))) ≤ (l0.length : Int) then ((some (l0.take ((Int.tmod (wrap64 (a1)) (wrap64 ((l0.length : Int) + 1))) : Int).toNat : List (S29))).bind fun y109 => (if y106.length + y109.length < 4398046511104 then ((book_Root.f (y106 ++ y109)).bind fun bt116 => ((book_Grown.f k l0 (Int.tmod (wrap64 (a1)) (wrap64 ((l0.length : Int) + 1)))).bind fun bt118 => (if bt116.2 = 0 then (if bt118.2 = 0 then ((book_CheckGrown.f bt116.1 (Int.tmod (wrap64 (a1)) (wrap64 ((l0.length : Int) + 1))) t103 (l0.length : Int) bt118.1).bind fun t122 => (calxlaw08_BookGoesOn.j0 k l0 a2 a3 a4 (t122 != 0))) else (calxlaw08_BookGoesOn.j0 k l0 a2 a3 a4 true)) else (calxlaw08_BookGoesOn.j0 k l0 a2 a3 a4 true)))) else (none))) else (none)) else (none)))) else ((calxlaw08_sanity.f).bind fun t105 => (some t105))) = some r := H
    have A8 := Aside0.mk A80
    clear A80
    by_cases c9 : t104 = 0
    · rw [if_pos c9] at H
      have c9b0 : (t104 == 0) = true := beq_iff_eq.mpr c9
      have c9b1 : (t104 != 0) = false := bne_eq_false_iff_eq.mpr c9
      clear c9
      by_cases c10 : (wrap64 ((l0.length : Int) + 1)) = 0
      · rw [if_pos c10] at H
        exact absurd H (by simp)
      · rw [if_neg c10] at H
        have c10b0 : ((wrap64 ((l0.length : Int) + 1)) == 0) = false := beq_eq_false_iff_ne.mpr c10
        have c10b1 : ((wrap64 ((l0.length : Int) + 1)) != 0) = true := bne_iff_ne.mpr c10
        obtain ⟨y106, hy106⟩ : ∃ y_ : List (S29), y_ = (([] : List (S29))) := ⟨_, rfl⟩
        replace H : (if 0 ≤ (Int.tmod (wrap64 (a1)) (wrap64 ((l0.length : Int) + 1))) then (if (Int.tmod (wrap64 (a1)) (wrap64 ((l0.length : Int) + 1))) ≤ (l0.length : Int) then ((some (l0.take ((Int.tmod (wrap64 (a1)) (wrap64 ((l0.length : Int) + 1))) : Int).toNat : List (S29))).bind fun y109 => (if y106.length + y109.length < 4398046511104 then ((book_Root.f (y106 ++ y109)).bind fun bt116 => ((book_Grown.f k l0 (Int.tmod (wrap64 (a1)) (wrap64 ((l0.length : Int) + 1)))).bind fun bt118 => (if bt116.2 = 0 then (if bt118.2 = 0 then ((book_CheckGrown.f bt116.1 (Int.tmod (wrap64 (a1)) (wrap64 ((l0.length : Int) + 1))) t103 (l0.length : Int) bt118.1).bind fun t122 => (calxlaw08_BookGoesOn.j0 k l0 a2 a3 a4 (t122 != 0))) else (calxlaw08_BookGoesOn.j0 k l0 a2 a3 a4 true)) else (calxlaw08_BookGoesOn.j0 k l0 a2 a3 a4 true)))) else (none))) else (none)) else (none)) = some r := by first | (rw [hy106]; with_reducible exact H) | (have H2_ := (Option.bind_some _ _).symm.trans H; rw [hy106]; with_reducible exact H2_) | (have H2_ := (Option.bind_some _ _).symm.trans H; with_reducible exact H2_) | with_reducible exact H | (rw [hy106]; exact H) | exact H
        have Ny106 := Aside0.mk hy106
        clear hy106
        obtain ⟨ji11, hji11⟩ : ∃ j_ : Int, (Int.tmod (wrap64 (a1)) (wrap64 ((l0.length : Int) + 1))) = j_ := ⟨_, rfl⟩
        replace H : (if 0 ≤ (ji11) then (if (ji11) ≤ (l0.length : Int) then ((some (l0.take ((ji11) : Int).toNat : List (S29))).bind fun y109 => (if y106.length + y109.length < 4398046511104 then ((book_Root.f (y106 ++ y109)).bind fun bt116 => ((book_Grown.f k l0 (ji11)).bind fun bt118 => (if bt116.2 = 0 then (if bt118.2 = 0 then ((book_CheckGrown.f bt116.1 (ji11) t103 (l0.length : Int) bt118.1).bind fun t122 => (calxlaw08_BookGoesOn.j0 k l0 a2 a3 a4 (t122 != 0))) else (calxlaw08_BookGoesOn.j0 k l0 a2 a3 a4 true)) else (calxlaw08_BookGoesOn.j0 k l0 a2 a3 a4 true)))) else (none))) else (none)) else (none)) = some r := by first | (rw [hji11] at H; exact H) | (simp only [hji11] at H ⊢; exact H)
        (try rw [hji11] at A6)
        (try rw [hji11] at A8)
        by_cases c12 : 0 ≤ (ji11)
        · rw [if_pos c12] at H
          have c12b0 := eq_true c12
          have c12b1 : decide (0 ≤ (ji11)) = true := decide_eq_true c12
          clear c12
          by_cases c13 : (ji11) ≤ (l0.length : Int)
          · rw [if_pos c13] at H
            have c13b0 := eq_true c13
            have c13b1 : decide ((ji11) ≤ (l0.length : Int)) = true := decide_eq_true c13
            clear c13
            obtain ⟨y109, hy109⟩ : ∃ y_ : List (S29), y_ = (l0.take ((ji11) : Int).toNat) := ⟨_, rfl⟩
            replace H : (if y106.length + y109.length < 4398046511104 then ((book_Root.f (y106 ++ y109)).bind fun bt116 => ((book_Grown.f k l0 (ji11)).bind fun bt118 => (if bt116.2 = 0 then (if bt118.2 = 0 then ((book_CheckGrown.f bt116.1 (ji11) t103 (l0.length : Int) bt118.1).bind fun t122 => (calxlaw08_BookGoesOn.j0 k l0 a2 a3 a4 (t122 != 0))) else (calxlaw08_BookGoesOn.j0 k l0 a2 a3 a4 true)) else (calxlaw08_BookGoesOn.j0 k l0 a2 a3 a4 true)))) else (none)) = some r := by first | (rw [hy109]; with_reducible exact H) | (have H2_ := (Option.bind_some _ _).symm.trans H; rw [hy109]; with_reducible exact H2_) | (have H2_ := (Option.bind_some _ _).symm.trans H; with_reducible exact H2_) | with_reducible exact H | (rw [hy109]; exact H) | exact H
            have Ny109 := Aside0.mk hy109
            clear hy109
            by_cases c14 : y106.length + y109.length < 4398046511104
            · rw [if_pos c14] at H
              have LMc14 := Aside0.mk c14
              clear c14
              obtain ⟨y113, hy113⟩ : ∃ y_ : List (S29), y_ = (y106 ++ y109) := ⟨_, rfl⟩
              replace H : ((book_Root.f y113).bind fun bt116 => ((book_Grown.f k l0 (ji11)).bind fun bt118 => (if bt116.2 = 0 then (if bt118.2 = 0 then ((book_CheckGrown.f bt116.1 (ji11) t103 (l0.length : Int) bt118.1).bind fun t122 => (calxlaw08_BookGoesOn.j0 k l0 a2 a3 a4 (t122 != 0))) else (calxlaw08_BookGoesOn.j0 k l0 a2 a3 a4 true)) else (calxlaw08_BookGoesOn.j0 k l0 a2 a3 a4 true)))) = some r := by first | (rw [hy113]; with_reducible exact H) | (have H2_ := (Option.bind_some _ _).symm.trans H; rw [hy113]; with_reducible exact H2_) | (have H2_ := (Option.bind_some _ _).symm.trans H; with_reducible exact H2_) | with_reducible exact H | (rw [hy113]; exact H) | exact H
              have Ny113 := Aside0.mk hy113
              clear hy113
              replace H := Option.bind_eq_some_iff.mp H
              obtain ⟨⟨t116, t117⟩, A150, H⟩ := H
              replace H : ((book_Grown.f k l0 (ji11)).bind fun bt118 => (if t117 = 0 then (if bt118.2 = 0 then ((book_CheckGrown.f t116 (ji11) t103 (l0.length : Int) bt118.1).bind fun t122 => (calxlaw08_BookGoesOn.j0 k l0 a2 a3 a4 (t122 != 0))) else (calxlaw08_BookGoesOn.j0 k l0 a2 a3 a4 true)) else (calxlaw08_BookGoesOn.j0 k l0 a2 a3 a4 true))) = some r := H
              have A15 := Aside0.mk A150
              clear A150
              replace H := Option.bind_eq_some_iff.mp H
              obtain ⟨⟨t118, t119⟩, A160, H⟩ := H
              replace H : (if t117 = 0 then (if t119 = 0 then ((book_CheckGrown.f t116 (ji11) t103 (l0.length : Int) t118).bind fun t122 => (calxlaw08_BookGoesOn.j0 k l0 a2 a3 a4 (t122 != 0))) else (calxlaw08_BookGoesOn.j0 k l0 a2 a3 a4 true)) else (calxlaw08_BookGoesOn.j0 k l0 a2 a3 a4 true)) = some r := H
              have A16 := Aside0.mk A160
              clear A160
              have HC17 := Aside0.mk H
              clear H
              go_enter Try.func17, Try.ntmps17
              go_upto_region 9 with (first | ((with_reducible refine gate_callee (f := 27) rfl ?_); refine goesL_ (some 27) rfl rfl Try.func27 (by kernel_rfl) rfl #[.slice A0 l0.length c0] rfl (by (try simp only [List.map_toArray, List.map_cons, List.map_nil]); first | done | rfl | (simp only [List.length_drop, List.length_take]; rfl)) ?_; (with_reducible refine (calxlaw08_few.calls _ _ l0 true _ ?side1 ?side2 A6.out).mono ?_); (case side1 => repeat (first | exact HR0.out | (with_reducible refine Kd.C_alloc ?_ _) | (with_reducible refine Kd.C_drewN ?_ _) | (with_reducible refine Kd.C_drew ?_))); (case side2 => exact HC0.out); rintro e w' ⟨rfl, ⟨nd, rfl⟩⟩; refine ⟨_, rfl, ?_⟩) | ((with_reducible refine gate_callee (f := 32) rfl ?_); refine goesL_ (some 32) rfl rfl Try.func32 (by kernel_rfl) rfl #[.slice A0 l0.length c0] rfl (by (try simp only [List.map_toArray, List.map_cons, List.map_nil]); first | done | rfl | (simp only [List.length_drop, List.length_take]; rfl)) ?_; (with_reducible refine (book_Root.calls _ _ l0 t103 t104 _ ?side1 ?side2 A8.out).mono ?_); (case side1 => repeat (first | exact HR0.out | (with_reducible refine Kd.C_alloc ?_ _) | (with_reducible refine Kd.C_drewN ?_ _) | (with_reducible refine Kd.C_drew ?_))); (case side2 => exact HC0.out); rintro e w18 ⟨rfl, hb⟩; refine ⟨_, rfl, ?_⟩; have n0_ := Aside0.mk (below_step (by repeat (first | (with_reducible first | exact HB.out | apply below_alloc | apply pw_below_drewN | apply below_drew1) | exact HB.out)) hb); clear HB; have HB := n0_; clear n0_; (try clear hb); (try clear hb2); (try clear hk); (try clear hi)) | ((with_reducible refine gate_dst (N := 45) rfl ?_); (try (refine gate_guard (by rfl) ?_; dsimp only)); refine Kd.R_lit k29 _ 29 ?hg (N := 45) ?hd (xs := ([] : List (S29))) (inner := []) (ok := fun _ => True) (okp := fun _ => True) ?hr ?hp (fun _ hk => hk) trivial (Below.refl _ _) (Nat.le_refl _) (by simp) ?_; (case hd => rfl); (case hg => rfl); (case hr => first | (go_simp; done) | (go_simp; rfl)); (case hp => exact (Reps.none _ _)); intro v107 w19 ho20 hb hg_ hnew_; clear hg_ hnew_; (first | rw [← Ny106.out] at ho20 | (simp only [Int.reduceToNat] at ho20; rw [← Ny106.out] at ho20)); have n0_ := Aside0.mk (Kd.R_lower ho20 (below_size (by repeat (first | (with_reducible first | exact HB.out | apply below_alloc | apply pw_below_drewN | apply below_drew1) | exact HB.out)))); have n1_ := Aside0.mk (below_step (by repeat (first | (with_reducible first | exact HB.out | apply below_alloc | apply pw_below_drewN | apply below_drew1) | exact HB.out)) hb); clear HB; have HO108 := n0_; have HB := n1_; clear n0_ n1_; clear hb ho20; have q21 : ((ji11) : Int) ≤ ((l0.length : Int) : Int) := of_decide_eq_true (by first | (with_reducible assumption) | assumption); obtain ⟨i021, hi021, _, hsz21, _⟩ := info_parts info29; have hroom21 : l0.length ≤ c0 := HC0.out; have hC21 : Kd.C k29 _ A0 l0.length l0 := HR0.out; have hcut21 := cut_to (P := Try.prog) 32 29 .i64 Try.underlying32 hi021 A0 l0.length c0 (ji11) (of_decide_eq_true (by first | (with_reducible assumption) | assumption)) q21 hroom21; have hr21 := Kd.C_take (m := ((ji11) : Int).toNat) hC21 (by omega); have hy21 : y109.length = ((ji11) : Int).toNat := (by rw [Ny109.out, List.length_take]; omega); rw [← Ny109.out] at hr21; rw [← hy21] at hcut21; have HR112 := Aside0.mk hr21; have HC112 := Aside0.mk (show y109.length ≤ c0 from by omega); clear hr21 hC21 hroom21 hi021 hsz21; have KY21 := Aside0.mk hy21; clear hy21; replace q21 := eq_true q21) | ((with_reducible refine gate_builtin (b := .append) (xs := #[.tmp 45, .tmp 48]) rfl ?_); (try (refine gate_guard (by rfl) ?_; dsimp only)); at_builtin; refine Kd.R_append_rows k29 (w0 := w) w.heap.size rfl (.tmp 45) (.tmp 48) 32 29 (.agg #[(.int .i64 0), (.int .i64 0), (.int .i64 0), (.int .i64 0)]) 32 rfl Try.underlying32 info29 rfl (by decide) (by omega) v107 y106 y109 _ _ _ (fun _ => True) (fun _ => False) rfl rfl ?aO ?aR (fun _ _ h => h) (fun _ h => h.elim) ?aF ?aB ?aS ?aL ?_; (case aR => repeat (first | exact (Kd.C_below HR112.out HB.out) | (with_reducible refine Kd.C_alloc ?_ _) | (with_reducible refine Kd.C_drewN ?_ _) | (with_reducible refine Kd.C_drew ?_))); (case aB => exact (by repeat (first | (with_reducible first | exact HB.out | apply below_alloc | apply pw_below_drewN | apply below_drew1) | exact HB.out))); (case aF => exact (fun _ _ => trivial)); (case aO => exact (by (with_reducible repeat (first | apply Kd.R_alloc | apply Kd.R_drewN | apply Kd.R_drew)); exact HO108.out)); (case aS => exact (below_size (by repeat (first | (with_reducible first | exact HB.out | apply below_alloc | apply pw_below_drewN | apply below_drew1) | exact HB.out)))); (case aL => have := LMc14.out; omega); intro v114 w22 ho hb hg hat; rw [← Ny113.out] at ho; have n0_ := Aside0.mk (hb); have n1_ := Aside0.mk (ho); clear HB; clear HO108; have HB := n0_; have HO115 := n1_; clear n0_ n1_; clear ho hb hg hat; obtain ⟨Ao23, co23, eo23⟩ := Kd.R_slice HO115.out; subst eo23) | ((with_reducible refine gate_callee (f := 32) rfl ?_); refine goesL_ (some 50) rfl rfl Try.func32 (by kernel_rfl) rfl #[.slice Ao23 y113.length co23] rfl (by (try simp only [List.map_toArray, List.map_cons, List.map_nil]); first | done | rfl | (simp only [List.length_drop, List.length_take]; rfl)) ?_; (with_reducible refine (book_Root.calls _ _ y113 t116 t117 _ ?side1 ?side2 A15.out).mono ?_); (case side1 => repeat (first | exact (Kd.R_reads' HO115.out).2.2 | (with_reducible refine Kd.C_alloc ?_ _) | (with_reducible refine Kd.C_drewN ?_ _) | (with_reducible refine Kd.C_drew ?_))); (case side2 => exact (Kd.R_reads' HO115.out).2.1); rintro e w24 ⟨rfl, hb⟩; refine ⟨_, rfl, ?_⟩; have n0_ := Aside0.mk (Kd.R_below (by (with_reducible repeat (first | apply Kd.R_alloc | apply Kd.R_drewN | apply Kd.R_drew)); exact HO115.out) hb); have n1_ := Aside0.mk (below_step (by repeat (first | (with_reducible first | exact HB.out | apply below_alloc | apply pw_below_drewN | apply below_drew1) | exact HB.out)) hb); clear HO115; clear HB; have HO115 := n0_; have HB := n1_; clear n0_ n1_; (try clear hb); (try clear hb2); (try clear hk); (try clear hi)) | ((with_reducible refine gate_callee (f := 55) rfl ?_); refine goesL_ (some 56) rfl rfl Try.func55 (by kernel_rfl) rfl #[.slice A0 l0.length c0, .int .i64 ji11] rfl (by (try simp only [List.map_toArray, List.map_cons, List.map_nil]); first | done | (simp only [hji11]; rfl) | rfl | (simp only [List.length_drop, List.length_take]; rfl)) ?_; (with_reducible refine (book_Grown.calls k _ _ l0 ji11 t118 t119 _ ?side1 ?side2 A16.out).mono ?_); (case side1 => repeat (first | exact (Kd.C_below HR0.out HB.out) | (with_reducible refine Kd.C_alloc ?_ _) | (with_reducible refine Kd.C_drewN ?_ _) | (with_reducible refine Kd.C_drew ?_))); (case side2 => exact HC0.out); rintro e w25 ⟨v120, rfl, ho0, hb⟩; refine ⟨_, rfl, ?_⟩; have n0_ := Aside0.mk (Kd.R_below (by (with_reducible repeat (first | apply Kd.R_alloc | apply Kd.R_drewN | apply Kd.R_drew)); exact HO115.out) hb); have n1_ := Aside0.mk (Kd.R_lower ho0 (below_size (by repeat (first | (with_reducible first | exact HB.out | apply below_alloc | apply pw_below_drewN | apply below_drew1) | exact HB.out)))); have n2_ := Aside0.mk (below_step (by repeat (first | (with_reducible first | exact HB.out | apply below_alloc | apply pw_below_drewN | apply below_drew1) | exact HB.out)) hb); clear HO115; clear HB; have HO115 := n0_; have HO121 := n1_; have HB := n2_; clear n0_ n1_ n2_; (try clear hb); (try clear hb2); (try clear hk); (try clear hi); (try clear ho0)))
              (try simp only [Act.put, List.setIfInBounds_toArray, List.set_cons_zero, List.set_cons_succ])
              go_cut [74] (fun v74 wc => ∃ (kq : Nat) (x74_16 : Bool), v74 = .bool x74_16 ∧ Aside0 (calxlaw08_BookGoesOn.j0 kq l0 a2 a3 a4 x74_16 = some r) ∧ Aside0 (kq ≤ k) ∧ Aside0 (Below w.heap.size w wc))
              case first =>
                have H := HC17.out
                clear HC17
                by_cases c26 : t117 = 0
                · rw [if_pos c26] at H
                  have c26b0 : (t117 == 0) = true := beq_iff_eq.mpr c26
                  have c26b1 : (t117 != 0) = false := bne_eq_false_iff_eq.mpr c26
                  clear c26
                  (first | rw [c26b0] | (simp only [i64_w, i32_w]; rw [c26b0]) | skip)
                  by_cases c27 : t119 = 0
                  · rw [if_pos c27] at H
                    have c27b0 : (t119 == 0) = true := beq_iff_eq.mpr c27
                    have c27b1 : (t119 != 0) = false := bne_eq_false_iff_eq.mpr c27
                    clear c27
                    replace H := Option.bind_eq_some_iff.mp H
                    obtain ⟨t122, A280, H⟩ := H
                    replace H : (calxlaw08_BookGoesOn.j0 k l0 a2 a3 a4 (t122 != 0)) = some r := H
                    have A28 := Aside0.mk A280
                    clear A280
                    have H' := Aside0.mk H
                    clear H
                    obtain ⟨Ao29, co29, eo29⟩ := Kd.R_slice HO121.out
                    subst eo29
                    go_wp2_with (first | (go_at_call 56; (with_reducible refine (book_CheckGrown.calls t116 ji11 t103 (l0.length : Int) _ _ t118 t122 _ ?side1 ?side2 A28.out).mono ?_); (case side1 => repeat (first | exact (Kd.R_reads' HO121.out).2.2 | (with_reducible refine Kd.C_alloc ?_ _) | (with_reducible refine Kd.C_drewN ?_ _) | (with_reducible refine Kd.C_drew ?_))); (case side2 => exact (Kd.R_reads' HO121.out).2.1); rintro e w30 ⟨rfl, hb⟩; have n0_ := Aside0.mk (Kd.R_below (by (with_reducible repeat (first | apply Kd.R_alloc | apply Kd.R_drewN | apply Kd.R_drew)); exact HO115.out) hb); have n1_ := Aside0.mk (Kd.R_below (by (with_reducible repeat (first | apply Kd.R_alloc | apply Kd.R_drewN | apply Kd.R_drew)); exact HO121.out) hb); have n2_ := Aside0.mk (below_step (by repeat (first | (with_reducible first | exact HB.out | apply below_alloc | apply pw_below_drewN | apply below_drew1) | exact HB.out)) hb); clear HO115; clear HO121; clear HB; have HO115 := n0_; have HO121 := n1_; have HB := n2_; clear n0_ n1_ n2_; (try clear hb); (try clear hb2); (try clear hk); (try clear hi)))
                    go_meet
                    case rel => exact ⟨_, ((t122 != 0)), (by first | rfl | (simp; done) | (simp [*]; done)), H', ⟨by first | omega | exact Nat.le_refl _⟩, ⟨by repeat (first | (with_reducible first | exact HB.out | apply below_alloc | apply pw_below_drewN | apply below_drew1) | exact HB.out)⟩⟩
                  · rw [if_neg c27] at H
                    have c27b0 : (t119 == 0) = false := beq_eq_false_iff_ne.mpr c27
                    have c27b1 : (t119 != 0) = true := bne_iff_ne.mpr c27
                    have H' := Aside0.mk H
                    clear H
                    go_wp2
                    go_meet
                    case rel => exact ⟨_, (true), (by first | rfl | (simp; done) | (simp [*]; done)), H', ⟨by first | omega | exact Nat.le_refl _⟩, ⟨by repeat (first | (with_reducible first | exact HB.out | apply below_alloc | apply pw_below_drewN | apply below_drew1) | exact HB.out)⟩⟩
                · rw [if_neg c26] at H
                  have c26b0 : (t117 == 0) = false := beq_eq_false_iff_ne.mpr c26
                  have c26b1 : (t117 != 0) = true := bne_iff_ne.mpr c26
                  (first | rw [c26b0] | (simp only [i64_w, i32_w]; rw [c26b0]) | skip)
                  have H' := Aside0.mk H
                  clear H
                  go_wp2
                  go_meet
                  case rel => exact ⟨_, (true), (by first | rfl | (simp; done) | (simp [*]; done)), H', ⟨by first | omega | exact Nat.le_refl _⟩, ⟨by repeat (first | (with_reducible first | exact HB.out | apply below_alloc | apply pw_below_drewN | apply below_drew1) | exact HB.out)⟩⟩
              case rest =>
                clear HC17
                try clear c1
                try clear c2
                try clear p2
                try clear q2
                try clear c3
                try clear c5
                try clear p6
                try clear c7
                try clear c9
                try clear c9b0
                try clear c9b1
                try clear c10
                try clear c10b0
                try clear c10b1
                try clear c12
                try clear c12b0
                try clear c12b1
                try clear c13
                try clear c13b0
                try clear c13b1
                try clear c14
                try clear c17
                try clear q21
                try clear c26
                try clear c26b0
                try clear c26b1
                try clear c27
                try clear c27b0
                try clear c27b1
                try clear q21
                obtain ⟨kq, x74_16, rfl, HA, HJ16, HB⟩ := hcut
                cases kq with
                | zero => exact absurd HA.out (by simp [calxlaw08_BookGoesOn.j0])
                | succ kj16 =>
                  have H := HA.out
                  clear HA
                  simp only [calxlaw08_BookGoesOn.j0] at H
                  by_cases c31 : x74_16 = true
                  · subst c31
                    have H1 : (some false) = some r := by rw [if_pos rfl] at H; exact H
                    clear H
                    have H := H1
                    clear H1
                    obtain rfl := Option.some.inj H
                    go_wp2
                    go_ret
                    exact ⟨by first | rfl | (simp [errW_none, errW_some] <;> rfl) | (simp only [← hji11]; first | rfl | (simp [errW_none, errW_some] <;> rfl)) | (simp [*, errW_none, errW_some] <;> rfl), by repeat (first | (with_reducible first | exact HB.out | apply below_alloc | apply pw_below_drewN | apply below_drew1) | exact HB.out)⟩
                  · replace c31 := Bool.eq_false_iff.mpr c31
                    subst c31
                    have H1 : ((book_Known.f l0 a4).bind fun bt123 => (if bt123.2 = 0 then (if bt123.1 < 0 then (calxlaw08_BookGoesOn.j1 kj16 l0 a2 a3 a4 bt123.1 true) else (calxlaw08_BookGoesOn.j1 kj16 l0 a2 a3 a4 bt123.1 (decide (bt123.1 > (l0.length : Int))))) else ((calxlaw08_sanity.f).bind fun t125 => (some t125)))) = some r := by rw [if_neg (show ¬ (false = true) by decide)] at H; exact H
                    clear H
                    have H := H1
                    clear H1
                    replace H := Option.bind_eq_some_iff.mp H
                    obtain ⟨⟨t123, t124⟩, A320, H⟩ := H
                    replace H : (if t124 = 0 then (if t123 < 0 then (calxlaw08_BookGoesOn.j1 kj16 l0 a2 a3 a4 t123 true) else (calxlaw08_BookGoesOn.j1 kj16 l0 a2 a3 a4 t123 (decide (t123 > (l0.length : Int))))) else ((calxlaw08_sanity.f).bind fun t125 => (some t125))) = some r := H
                    have A32 := Aside0.mk A320
                    clear A320
                    by_cases c33 : t124 = 0
                    · rw [if_pos c33] at H
                      have c33b0 : (t124 == 0) = true := beq_iff_eq.mpr c33
                      have c33b1 : (t124 != 0) = false := bne_eq_false_iff_eq.mpr c33
                      clear c33
                      have HC34 := Aside0.mk H
                      clear H
                      go_upto_region 14 with (first | ((with_reducible refine gate_callee (f := 44) rfl ?_); refine goesL_ (some 78) rfl rfl Try.func44 (by kernel_rfl) rfl #[.slice A0 l0.length c0, .int .i64 a4] rfl (by (try simp only [List.map_toArray, List.map_cons, List.map_nil]); first | done | rfl | (simp only [List.length_drop, List.length_take]; rfl)) ?_; (with_reducible refine (book_Known.calls _ _ l0 a4 t123 t124 _ ?side1 ?side2 A32.out).mono ?_); (case side1 => repeat (first | exact (Kd.C_below HR0.out HB.out) | (with_reducible refine Kd.C_alloc ?_ _) | (with_reducible refine Kd.C_drewN ?_ _) | (with_reducible refine Kd.C_drew ?_))); (case side2 => exact HC0.out); rintro e w35 ⟨rfl, hb⟩; refine ⟨_, rfl, ?_⟩; have n0_ := Aside0.mk (below_step (by repeat (first | (with_reducible first | exact HB.out | apply below_alloc | apply pw_below_drewN | apply below_drew1) | exact HB.out)) hb); clear HB; have HB := n0_; clear n0_; (try clear hb); (try clear hb2); (try clear hk); (try clear hi)))
                      (try simp only [Act.put, List.setIfInBounds_toArray, List.set_cons_zero, List.set_cons_succ])
                      go_cut [91] (fun v91 wc => ∃ (kq : Nat) (x91_33 : Bool), v91 = .bool x91_33 ∧ Aside0 (calxlaw08_BookGoesOn.j1 kq l0 a2 a3 a4 t123 x91_33 = some r) ∧ Aside0 (kq ≤ kj16) ∧ Aside0 (Below w.heap.size w wc))
                      case first =>
                        have H := HC34.out
                        clear HC34
                        by_cases c36 : t123 < 0
                        · rw [if_pos c36] at H
                          have c36b0 : decide (t123 < 0) = true := decide_eq_true c36
                          clear c36
                          (first | rw [c36b0] | (simp only [i64_w, i32_w]; rw [c36b0]) | skip)
                          have H' := Aside0.mk H
                          clear H
                          go_wp2
                          go_meet
                          case rel => exact ⟨_, (true), (by first | rfl | (simp; done) | (simp [*]; done)), H', ⟨by have := HJ16.out; first | omega | exact Nat.le_refl _⟩, ⟨by repeat (first | (with_reducible first | exact HB.out | apply below_alloc | apply pw_below_drewN | apply below_drew1) | exact HB.out)⟩⟩
                        · rw [if_neg c36] at H
                          have c36b0 : decide (t123 < 0) = false := decide_eq_false c36
                          clear c36
                          (first | rw [c36b0] | (simp only [i64_w, i32_w]; rw [c36b0]) | skip)
                          have H' := Aside0.mk H
                          clear H
                          go_wp2
                          go_meet
                          case rel => exact ⟨_, (decide (t123 > (l0.length : Int))), (by first | rfl | (simp; done) | (simp [*]; done)), H', ⟨by have := HJ16.out; first | omega | exact Nat.le_refl _⟩, ⟨by repeat (first | (with_reducible first | exact HB.out | apply below_alloc | apply pw_below_drewN | apply below_drew1) | exact HB.out)⟩⟩
                      case rest =>
                        clear HC34
                        try clear c1
                        try clear c2
                        try clear p2
                        try clear q2
                        try clear c3
                        try clear c4
                        try clear c5
                        try clear p6
                        try clear c7
                        try clear c9
                        try clear c9b0
                        try clear c9b1
                        try clear c10
                        try clear c10b0
                        try clear c10b1
                        try clear c12
                        try clear c12b0
                        try clear c12b1
                        try clear c13
                        try clear c13b0
                        try clear c13b1
                        try clear c14
                        try clear c17
                        try clear q21
                        try clear c26
                        try clear c26b0
                        try clear c26b1
                        try clear c27
                        try clear c27b0
                        try clear c27b1
                        try clear c31
                        try clear c32
                        try clear c33
                        try clear c33b0
                        try clear c33b1
                        try clear c36
                        try clear c36b0
                        try clear p2
                        try clear p6
                        try clear q2
                        try clear q21
                        obtain ⟨kq, x91_33, rfl, HA, HJ33, HB⟩ := hcut
                        cases kq with
                        | zero => exact absurd HA.out (by simp [calxlaw08_BookGoesOn.j1])
                        | succ kj33 =>
                          have H := HA.out
                          clear HA
                          simp only [calxlaw08_BookGoesOn.j1] at H
                          by_cases c37 : x91_33 = true
                          · subst c37
                            have H1 : (some false) = some r := by rw [if_pos rfl] at H; exact H
                            clear H
                            have H := H1
                            clear H1
                            obtain rfl := Option.some.inj H
                            go_wp2
                            go_ret
                            exact ⟨by first | rfl | (simp [errW_none, errW_some] <;> rfl) | (simp only [← hji11]; first | rfl | (simp [errW_none, errW_some] <;> rfl)) | (simp [*, errW_none, errW_some] <;> rfl), by repeat (first | (with_reducible first | exact HB.out | apply below_alloc | apply pw_below_drewN | apply below_drew1) | exact HB.out)⟩
                          · replace c37 := Bool.eq_false_iff.mpr c37
                            subst c37
                            have H1 : ((some (([] : List (S29)) : List (S29))).bind fun y126 => (if 0 ≤ t123 then (if t123 ≤ (l0.length : Int) then ((some (l0.take (t123 : Int).toNat : List (S29))).bind fun y129 => (if y126.length + y129.length < 4398046511104 then ((book_Known.f (y126 ++ y129) a4).bind fun bt136 => ((book_Total.f l0 a2 a3 a4).bind fun bt138 => ((some (([] : List (S29)) : List (S29))).bind fun y140 => ((some (l0.take (t123 : Int).toNat : List (S29))).bind fun y143 => (if y140.length + y143.length < 4398046511104 then ((book_Total.f (y140 ++ y143) a2 a3 a4).bind fun bt150 => ((calxlaw08_sanity.f).bind fun t152 => (if t152 = true then (if bt136.2 = 0 then (if bt136.1 = t123 then (if bt138.1 = bt150.1 then (some (bt138.2 == bt150.2)) else (some false)) else (some false)) else (some false)) else (some false)))) else (none)))))) else (none))) else (none)) else (none))) = some r := by rw [if_neg (show ¬ (false = true) by decide)] at H; exact H
                            clear H
                            have H := H1
                            clear H1
                            obtain ⟨y126, hy126⟩ : ∃ y_ : List (S29), y_ = (([] : List (S29))) := ⟨_, rfl⟩
                            replace H : (if 0 ≤ t123 then (if t123 ≤ (l0.length : Int) then ((some (l0.take (t123 : Int).toNat : List (S29))).bind fun y129 => (if y126.length + y129.length < 4398046511104 then ((book_Known.f (y126 ++ y129) a4).bind fun bt136 => ((book_Total.f l0 a2 a3 a4).bind fun bt138 => ((some (([] : List (S29)) : List (S29))).bind fun y140 => ((some (l0.take (t123 : Int).toNat : List (S29))).bind fun y143 => (if y140.length + y143.length < 4398046511104 then ((book_Total.f (y140 ++ y143) a2 a3 a4).bind fun bt150 => ((calxlaw08_sanity.f).bind fun t152 => (if t152 = true then (if bt136.2 = 0 then (if bt136.1 = t123 then (if bt138.1 = bt150.1 then (some (bt138.2 == bt150.2)) else (some false)) else (some false)) else (some false)) else (some false)))) else (none)))))) else (none))) else (none)) else (none)) = some r := by first | (rw [hy126]; with_reducible exact H) | (have H2_ := (Option.bind_some _ _).symm.trans H; rw [hy126]; with_reducible exact H2_) | (have H2_ := (Option.bind_some _ _).symm.trans H; with_reducible exact H2_) | with_reducible exact H | (rw [hy126]; exact H) | exact H
                            have Ny126 := Aside0.mk hy126
                            clear hy126
                            by_cases c38 : 0 ≤ t123
                            · rw [if_pos c38] at H
                              have c38b0 := eq_true c38
                              have c38b1 : decide (0 ≤ t123) = true := decide_eq_true c38
                              clear c38
                              by_cases c39 : t123 ≤ (l0.length : Int)
                              · rw [if_pos c39] at H
                                have c39b0 := eq_true c39
                                have c39b1 : decide (t123 ≤ (l0.length : Int)) = true := decide_eq_true c39
                                clear c39
                                obtain ⟨y129, hy129⟩ : ∃ y_ : List (S29), y_ = (l0.take (t123 : Int).toNat) := ⟨_, rfl⟩
                                replace H : (if y126.length + y129.length < 4398046511104 then ((book_Known.f (y126 ++ y129) a4).bind fun bt136 => ((book_Total.f l0 a2 a3 a4).bind fun bt138 => ((some (([] : List (S29)) : List (S29))).bind fun y140 => ((some (l0.take (t123 : Int).toNat : List (S29))).bind fun y143 => (if y140.length + y143.length < 4398046511104 then ((book_Total.f (y140 ++ y143) a2 a3 a4).bind fun bt150 => ((calxlaw08_sanity.f).bind fun t152 => (if t152 = true then (if bt136.2 = 0 then (if bt136.1 = t123 then (if bt138.1 = bt150.1 then (some (bt138.2 == bt150.2)) else (some false)) else (some false)) else (some false)) else (some false)))) else (none)))))) else (none)) = some r := by first | (rw [hy129]; with_reducible exact H) | (have H2_ := (Option.bind_some _ _).symm.trans H; rw [hy129]; with_reducible exact H2_) | (have H2_ := (Option.bind_some _ _).symm.trans H; with_reducible exact H2_) | with_reducible exact H | (rw [hy129]; exact H) | exact H
                                have Ny129 := Aside0.mk hy129
                                clear hy129
                                by_cases c40 : y126.length + y129.length < 4398046511104
                                · rw [if_pos c40] at H
                                  have LMc40 := Aside0.mk c40
                                  clear c40
                                  obtain ⟨y133, hy133⟩ : ∃ y_ : List (S29), y_ = (y126 ++ y129) := ⟨_, rfl⟩
                                  replace H : ((book_Known.f y133 a4).bind fun bt136 => ((book_Total.f l0 a2 a3 a4).bind fun bt138 => ((some (([] : List (S29)) : List (S29))).bind fun y140 => ((some (l0.take (t123 : Int).toNat : List (S29))).bind fun y143 => (if y140.length + y143.length < 4398046511104 then ((book_Total.f (y140 ++ y143) a2 a3 a4).bind fun bt150 => ((calxlaw08_sanity.f).bind fun t152 => (if t152 = true then (if bt136.2 = 0 then (if bt136.1 = t123 then (if bt138.1 = bt150.1 then (some (bt138.2 == bt150.2)) else (some false)) else (some false)) else (some false)) else (some false)))) else (none)))))) = some r := by first | (rw [hy133]; with_reducible exact H) | (have H2_ := (Option.bind_some _ _).symm.trans H; rw [hy133]; with_reducible exact H2_) | (have H2_ := (Option.bind_some _ _).symm.trans H; with_reducible exact H2_) | with_reducible exact H | (rw [hy133]; exact H) | exact H
                                  have Ny133 := Aside0.mk hy133
                                  clear hy133
                                  replace H := Option.bind_eq_some_iff.mp H
                                  obtain ⟨⟨t136, t137⟩, A410, H⟩ := H
                                  replace H : ((book_Total.f l0 a2 a3 a4).bind fun bt138 => ((some (([] : List (S29)) : List (S29))).bind fun y140 => ((some (l0.take (t123 : Int).toNat : List (S29))).bind fun y143 => (if y140.length + y143.length < 4398046511104 then ((book_Total.f (y140 ++ y143) a2 a3 a4).bind fun bt150 => ((calxlaw08_sanity.f).bind fun t152 => (if t152 = true then (if t137 = 0 then (if t136 = t123 then (if bt138.1 = bt150.1 then (some (bt138.2 == bt150.2)) else (some false)) else (some false)) else (some false)) else (some false)))) else (none))))) = some r := H
                                  have A41 := Aside0.mk A410
                                  clear A410
                                  replace H := Option.bind_eq_some_iff.mp H
                                  obtain ⟨⟨t138, t139⟩, A420, H⟩ := H
                                  replace H : ((some (([] : List (S29)) : List (S29))).bind fun y140 => ((some (l0.take (t123 : Int).toNat : List (S29))).bind fun y143 => (if y140.length + y143.length < 4398046511104 then ((book_Total.f (y140 ++ y143) a2 a3 a4).bind fun bt150 => ((calxlaw08_sanity.f).bind fun t152 => (if t152 = true then (if t137 = 0 then (if t136 = t123 then (if t138 = bt150.1 then (some (t139 == bt150.2)) else (some false)) else (some false)) else (some false)) else (some false)))) else (none)))) = some r := H
                                  have A42 := Aside0.mk A420
                                  clear A420
                                  obtain ⟨y140, hy140⟩ : ∃ y_ : List (S29), y_ = (([] : List (S29))) := ⟨_, rfl⟩
                                  replace H : ((some (l0.take (t123 : Int).toNat : List (S29))).bind fun y143 => (if y140.length + y143.length < 4398046511104 then ((book_Total.f (y140 ++ y143) a2 a3 a4).bind fun bt150 => ((calxlaw08_sanity.f).bind fun t152 => (if t152 = true then (if t137 = 0 then (if t136 = t123 then (if t138 = bt150.1 then (some (t139 == bt150.2)) else (some false)) else (some false)) else (some false)) else (some false)))) else (none))) = some r := by first | (rw [hy140]; with_reducible exact H) | (have H2_ := (Option.bind_some _ _).symm.trans H; rw [hy140]; with_reducible exact H2_) | (have H2_ := (Option.bind_some _ _).symm.trans H; with_reducible exact H2_) | with_reducible exact H | (rw [hy140]; exact H) | exact H
                                  have Ny140 := Aside0.mk hy140
                                  clear hy140
                                  have c43b0 := eq_true (of_decide_eq_true (by first | (with_reducible assumption) | assumption) : 0 ≤ t123)
                                  have c44b0 := eq_true (of_decide_eq_true (by first | (with_reducible assumption) | assumption) : t123 ≤ (l0.length : Int))
                                  have h143_ := Ny129.out
                                  rw [← h143_] at H
                                  replace H : (if y140.length + y129.length < 4398046511104 then ((book_Total.f (y140 ++ y129) a2 a3 a4).bind fun bt150 => ((calxlaw08_sanity.f).bind fun t152 => (if t152 = true then (if t137 = 0 then (if t136 = t123 then (if t138 = bt150.1 then (some (t139 == bt150.2)) else (some false)) else (some false)) else (some false)) else (some false)))) else (none)) = some r := by first | (rw [hy129]; with_reducible exact H) | (have H2_ := (Option.bind_some _ _).symm.trans H; rw [hy129]; with_reducible exact H2_) | (have H2_ := (Option.bind_some _ _).symm.trans H; with_reducible exact H2_) | with_reducible exact H | (rw [hy129]; exact H) | exact H
                                  clear h143_
                                  by_cases c45 : y140.length + y129.length < 4398046511104
                                  · rw [if_pos c45] at H
                                    have LMc45 := Aside0.mk c45
                                    clear c45
                                    obtain ⟨y147, hy147⟩ : ∃ y_ : List (S29), y_ = (y140 ++ y129) := ⟨_, rfl⟩
                                    replace H : ((book_Total.f y147 a2 a3 a4).bind fun bt150 => ((calxlaw08_sanity.f).bind fun t152 => (if t152 = true then (if t137 = 0 then (if t136 = t123 then (if t138 = bt150.1 then (some (t139 == bt150.2)) else (some false)) else (some false)) else (some false)) else (some false)))) = some r := by first | (rw [hy147]; with_reducible exact H) | (have H2_ := (Option.bind_some _ _).symm.trans H; rw [hy147]; with_reducible exact H2_) | (have H2_ := (Option.bind_some _ _).symm.trans H; with_reducible exact H2_) | with_reducible exact H | (rw [hy147]; exact H) | exact H
                                    have Ny147 := Aside0.mk hy147
                                    clear hy147
                                    replace H := Option.bind_eq_some_iff.mp H
                                    obtain ⟨⟨t150, t151⟩, A460, H⟩ := H
                                    replace H : ((calxlaw08_sanity.f).bind fun t152 => (if t152 = true then (if t137 = 0 then (if t136 = t123 then (if t138 = t150 then (some (t139 == t151)) else (some false)) else (some false)) else (some false)) else (some false))) = some r := H
                                    have A46 := Aside0.mk A460
                                    clear A460
                                    replace H := Option.bind_eq_some_iff.mp H
                                    obtain ⟨t152, A470, H⟩ := H
                                    replace H : (if t152 = true then (if t137 = 0 then (if t136 = t123 then (if t138 = t150 then (some (t139 == t151)) else (some false)) else (some false)) else (some false)) else (some false)) = some r := H
                                    have A47 := Aside0.mk A470
                                    clear A470
                                    by_cases c48 : t152 = true
                                    · subst c48
                                      have H1 : (if t137 = 0 then (if t136 = t123 then (if t138 = t150 then (some (t139 == t151)) else (some false)) else (some false)) else (some false)) = some r := by rw [if_pos rfl] at H; exact H
                                      clear H
                                      have H := H1
                                      clear H1
                                      by_cases c49 : t137 = 0
                                      · rw [if_pos c49] at H
                                        have c49b0 : (t137 == 0) = true := beq_iff_eq.mpr c49
                                        have c49b1 : (t137 != 0) = false := bne_eq_false_iff_eq.mpr c49
                                        clear c49
                                        by_cases c50 : t136 = t123
                                        · rw [if_pos c50] at H
                                          have c50b0 : (t136 == t123) = true := beq_iff_eq.mpr c50
                                          have c50b1 : (t136 != t123) = false := bne_eq_false_iff_eq.mpr c50
                                          clear c50
                                          by_cases c51 : t138 = t150
                                          · rw [if_pos c51] at H
                                            have c51b0 : (t138 == t150) = true := beq_iff_eq.mpr c51
                                            have c51b1 : (t138 != t150) = false := bne_eq_false_iff_eq.mpr c51
                                            clear c51
                                            obtain rfl := Option.some.inj H
                                            go_wp2_with (first | ((with_reducible refine gate_dst (N := 93) rfl ?_); (try (refine gate_guard (by rfl) ?_; dsimp only)); refine Kd.R_lit k29 _ 29 ?hg (N := 93) ?hd (xs := ([] : List (S29))) (inner := []) (ok := fun _ => True) (okp := fun _ => True) ?hr ?hp (fun _ hk => hk) trivial (Below.refl _ _) (Nat.le_refl _) (by simp) ?_; (case hd => rfl); (case hg => rfl); (case hr => first | (go_simp; done) | (go_simp; rfl)); (case hp => exact (Reps.none _ _)); intro v127 w52 ho53 hb hg_ hnew_; clear hg_ hnew_; (first | rw [← Ny126.out] at ho53 | (simp only [Int.reduceToNat] at ho53; rw [← Ny126.out] at ho53)); have n0_ := Aside0.mk (Kd.R_lower ho53 (below_size (by repeat (first | (with_reducible first | exact HB.out | apply below_alloc | apply pw_below_drewN | apply below_drew1) | exact HB.out)))); have n1_ := Aside0.mk (below_step (by repeat (first | (with_reducible first | exact HB.out | apply below_alloc | apply pw_below_drewN | apply below_drew1) | exact HB.out)) hb); clear HB; have HO128 := n0_; have HB := n1_; clear n0_ n1_; clear hb ho53; have q54 : (t123 : Int) ≤ ((l0.length : Int) : Int) := of_decide_eq_true (by first | (with_reducible assumption) | assumption); obtain ⟨i054, hi054, _, hsz54, _⟩ := info_parts info29; have hroom54 : l0.length ≤ c0 := HC0.out; have hC54 : Kd.C k29 _ A0 l0.length l0 := HR0.out; have hcut54 := cut_to (P := Try.prog) 32 29 .i64 Try.underlying32 hi054 A0 l0.length c0 t123 (of_decide_eq_true (by first | (with_reducible assumption) | assumption)) q54 hroom54; have hr54 := Kd.C_take (m := (t123 : Int).toNat) hC54 (by omega); have hy54 : y129.length = (t123 : Int).toNat := (by rw [Ny129.out, List.length_take]; omega); rw [← Ny129.out] at hr54; rw [← hy54] at hcut54; have HR132 := Aside0.mk hr54; have HC132 := Aside0.mk (show y129.length ≤ c0 from by omega); clear hr54 hC54 hroom54 hi054 hsz54; have KY54 := Aside0.mk hy54; clear hy54; replace q54 := eq_true q54) | ((with_reducible refine gate_builtin (b := .append) (xs := #[.tmp 93, .tmp 96]) rfl ?_); (try (refine gate_guard (by rfl) ?_; dsimp only)); at_builtin; refine Kd.R_append_rows k29 (w0 := w) w.heap.size rfl (.tmp 93) (.tmp 96) 32 29 (.agg #[(.int .i64 0), (.int .i64 0), (.int .i64 0), (.int .i64 0)]) 32 rfl Try.underlying32 info29 rfl (by decide) (by omega) v127 y126 y129 _ _ _ (fun _ => True) (fun _ => False) rfl rfl ?aO ?aR (fun _ _ h => h) (fun _ h => h.elim) ?aF ?aB ?aS ?aL ?_; (case aR => repeat (first | exact (Kd.C_below HR132.out HB.out) | (with_reducible refine Kd.C_alloc ?_ _) | (with_reducible refine Kd.C_drewN ?_ _) | (with_reducible refine Kd.C_drew ?_))); (case aB => exact (by repeat (first | (with_reducible first | exact HB.out | apply below_alloc | apply pw_below_drewN | apply below_drew1) | exact HB.out))); (case aF => exact (fun _ _ => trivial)); (case aO => exact (by (with_reducible repeat (first | apply Kd.R_alloc | apply Kd.R_drewN | apply Kd.R_drew)); exact HO128.out)); (case aS => exact (below_size (by repeat (first | (with_reducible first | exact HB.out | apply below_alloc | apply pw_below_drewN | apply below_drew1) | exact HB.out)))); (case aL => have := LMc40.out; omega); intro v134 w55 ho hb hg hat; rw [← Ny133.out] at ho; have n0_ := Aside0.mk (hb); have n1_ := Aside0.mk (ho); clear HB; clear HO128; have HB := n0_; have HO135 := n1_; clear n0_ n1_; clear ho hb hg hat; obtain ⟨Ao56, co56, eo56⟩ := Kd.R_slice HO135.out; subst eo56) | ((with_reducible refine gate_callee (f := 44) rfl ?_); refine goesL_ (some 99) rfl rfl Try.func44 (by kernel_rfl) rfl #[.slice Ao56 y133.length co56, .int .i64 a4] rfl (by (try simp only [List.map_toArray, List.map_cons, List.map_nil]); first | done | rfl | (simp only [List.length_drop, List.length_take]; rfl)) ?_; (with_reducible refine (book_Known.calls _ _ y133 a4 t136 t137 _ ?side1 ?side2 A41.out).mono ?_); (case side1 => repeat (first | exact (Kd.R_reads' HO135.out).2.2 | (with_reducible refine Kd.C_alloc ?_ _) | (with_reducible refine Kd.C_drewN ?_ _) | (with_reducible refine Kd.C_drew ?_))); (case side2 => exact (Kd.R_reads' HO135.out).2.1); rintro e w57 ⟨rfl, hb⟩; refine ⟨_, rfl, ?_⟩; have n0_ := Aside0.mk (Kd.R_below (by (with_reducible repeat (first | apply Kd.R_alloc | apply Kd.R_drewN | apply Kd.R_drew)); exact HO135.out) hb); have n1_ := Aside0.mk (below_step (by repeat (first | (with_reducible first | exact HB.out | apply below_alloc | apply pw_below_drewN | apply below_drew1) | exact HB.out)) hb); clear HO135; clear HB; have HO135 := n0_; have HB := n1_; clear n0_ n1_; (try clear hb); (try clear hb2); (try clear hk); (try clear hi)) | ((with_reducible refine gate_callee (f := 46) rfl ?_); refine goesL_ (some 107) rfl rfl Try.func46 (by kernel_rfl) rfl #[.slice A0 l0.length c0, .int .i64 a2, .int .i64 a3, .int .i64 a4] rfl (by (try simp only [List.map_toArray, List.map_cons, List.map_nil]); first | done | rfl | (simp only [List.length_drop, List.length_take]; rfl)) ?_; (with_reducible refine (book_Total.calls _ _ l0 a2 a3 a4 t138 t139 _ ?side1 ?side2 A42.out).mono ?_); (case side1 => repeat (first | exact (Kd.C_below HR0.out HB.out) | (with_reducible refine Kd.C_alloc ?_ _) | (with_reducible refine Kd.C_drewN ?_ _) | (with_reducible refine Kd.C_drew ?_))); (case side2 => exact HC0.out); rintro e w58 ⟨rfl, hb⟩; refine ⟨_, rfl, ?_⟩; have n0_ := Aside0.mk (Kd.R_below (by (with_reducible repeat (first | apply Kd.R_alloc | apply Kd.R_drewN | apply Kd.R_drew)); exact HO135.out) hb); have n1_ := Aside0.mk (below_step (by repeat (first | (with_reducible first | exact HB.out | apply below_alloc | apply pw_below_drewN | apply below_drew1) | exact HB.out)) hb); clear HO135; clear HB; have HO135 := n0_; have HB := n1_; clear n0_ n1_; (try clear hb); (try clear hb2); (try clear hk); (try clear hi)) | ((with_reducible refine gate_dst (N := 111) rfl ?_); (try (refine gate_guard (by rfl) ?_; dsimp only)); refine Kd.R_lit k29 _ 29 ?hg (N := 111) ?hd (xs := ([] : List (S29))) (inner := []) (ok := fun _ => True) (okp := fun _ => True) ?hr ?hp (fun _ hk => hk) trivial (Below.refl _ _) (Nat.le_refl _) (by simp) ?_; (case hd => rfl); (case hg => rfl); (case hr => first | (go_simp; done) | (go_simp; rfl)); (case hp => exact (Reps.none _ _)); intro v141 w59 ho60 hb hg_ hnew_; clear hg_ hnew_; (first | rw [← Ny140.out] at ho60 | (simp only [Int.reduceToNat] at ho60; rw [← Ny140.out] at ho60)); have n0_ := Aside0.mk (Kd.R_elder' (by (with_reducible repeat (first | apply Kd.R_alloc | apply Kd.R_drewN | apply Kd.R_drew)); exact HO135.out) (Kd.R_base ho60) hb); have n1_ := Aside0.mk (Kd.R_lower (Kd.R_new' ho60 (Kd.R_lt (by (with_reducible repeat (first | apply Kd.R_alloc | apply Kd.R_drewN | apply Kd.R_drew)); exact HO135.out))) (below_size (by repeat (first | (with_reducible first | exact HB.out | apply below_alloc | apply pw_below_drewN | apply below_drew1) | exact HB.out)))); have n2_ := Aside0.mk (below_step (by repeat (first | (with_reducible first | exact HB.out | apply below_alloc | apply pw_below_drewN | apply below_drew1) | exact HB.out)) hb); clear HO135; clear HB; have HO135 := n0_; have HO142 := n1_; have HB := n2_; clear n0_ n1_ n2_; clear hb ho60; have q61 : (t123 : Int) ≤ ((l0.length : Int) : Int) := of_decide_eq_true (by first | (with_reducible assumption) | assumption); obtain ⟨i061, hi061, _, hsz61, _⟩ := info_parts info29; have hroom61 : l0.length ≤ c0 := HC0.out; have hC61 : Kd.C k29 _ A0 l0.length l0 := HR0.out; have hcut61 := cut_to (P := Try.prog) 32 29 .i64 Try.underlying32 hi061 A0 l0.length c0 t123 (of_decide_eq_true (by first | (with_reducible assumption) | assumption)) q61 hroom61; have hr61 := Kd.C_take (m := (t123 : Int).toNat) hC61 (by omega); have hy61 : y129.length = (t123 : Int).toNat := (by rw [Ny129.out, List.length_take]; omega); rw [← Ny129.out] at hr61; rw [← hy61] at hcut61; have HR146 := Aside0.mk hr61; have HC146 := Aside0.mk (show y129.length ≤ c0 from by omega); clear hr61 hC61 hroom61 hi061 hsz61; have KY61 := Aside0.mk hy61; clear hy61; replace q61 := eq_true q61) | ((with_reducible refine gate_builtin (b := .append) (xs := #[.tmp 111, .tmp 114]) rfl ?_); (try (refine gate_guard (by rfl) ?_; dsimp only)); at_builtin; refine Kd.R_append_rows k29 (w0 := w) w.heap.size rfl (.tmp 111) (.tmp 114) 32 29 (.agg #[(.int .i64 0), (.int .i64 0), (.int .i64 0), (.int .i64 0)]) 32 rfl Try.underlying32 info29 rfl (by decide) (by omega) v141 y140 y129 _ _ _ (fun k_ => some k_ ≠ (.slice Ao56 y133.length co56 : Value).ownBlock) (fun _ => False) rfl rfl ?aO ?aR (fun _ _ h => h) (fun _ h => h.elim) ?aF ?aB ?aS ?aL ?_; (case aR => repeat (first | exact (Kd.C_below HR146.out HB.out) | (with_reducible refine Kd.C_alloc ?_ _) | (with_reducible refine Kd.C_drewN ?_ _) | (with_reducible refine Kd.C_drew ?_))); (case aB => exact (by repeat (first | (with_reducible first | exact HB.out | apply below_alloc | apply pw_below_drewN | apply below_drew1) | exact HB.out))); (case aF => exact (fun k_ hk => Kd.fresh' (Kd.R_lt (by (with_reducible repeat (first | apply Kd.R_alloc | apply Kd.R_drewN | apply Kd.R_drew)); exact HO135.out)) k_ hk)); (case aO => exact (by (with_reducible repeat (first | apply Kd.R_alloc | apply Kd.R_drewN | apply Kd.R_drew)); exact Kd.R_mono HO142.out (fun _ hk => hk.2))); (case aS => exact (below_size (by repeat (first | (with_reducible first | exact HB.out | apply below_alloc | apply pw_below_drewN | apply below_drew1) | exact HB.out)))); (case aL => have := LMc45.out; omega); intro v148 w62 ho hb hg hat; rw [← Ny147.out] at ho; have n0_ := Aside0.mk (Kd.R_after (ok := (fun _ => True)) (by (with_reducible repeat (first | apply Kd.R_alloc | apply Kd.R_drewN | apply Kd.R_drew)); exact HO135.out) hg hat); have n1_ := Aside0.mk (hb); have n2_ := Aside0.mk (ho); clear HO135; clear HB; clear HO142; have HO135 := n0_; have HB := n1_; have HO149 := n2_; clear n0_ n1_ n2_; clear ho hb hg hat; obtain ⟨Ao63, co63, eo63⟩ := Kd.R_slice HO149.out; subst eo63) | ((with_reducible refine gate_callee (f := 46) rfl ?_); refine goesL_ (some 119) rfl rfl Try.func46 (by kernel_rfl) rfl #[.slice Ao63 y147.length co63, .int .i64 a2, .int .i64 a3, .int .i64 a4] rfl (by (try simp only [List.map_toArray, List.map_cons, List.map_nil]); first | done | rfl | (simp only [List.length_drop, List.length_take]; rfl)) ?_; (with_reducible refine (book_Total.calls _ _ y147 a2 a3 a4 t150 t151 _ ?side1 ?side2 A46.out).mono ?_); (case side1 => repeat (first | exact (Kd.R_reads' HO149.out).2.2 | (with_reducible refine Kd.C_alloc ?_ _) | (with_reducible refine Kd.C_drewN ?_ _) | (with_reducible refine Kd.C_drew ?_))); (case side2 => exact (Kd.R_reads' HO149.out).2.1); rintro e w64 ⟨rfl, hb⟩; refine ⟨_, rfl, ?_⟩; have n0_ := Aside0.mk (Kd.R_below (by (with_reducible repeat (first | apply Kd.R_alloc | apply Kd.R_drewN | apply Kd.R_drew)); exact HO135.out) hb); have n1_ := Aside0.mk (Kd.R_below (by (with_reducible repeat (first | apply Kd.R_alloc | apply Kd.R_drewN | apply Kd.R_drew)); exact HO149.out) hb); have n2_ := Aside0.mk (below_step (by repeat (first | (with_reducible first | exact HB.out | apply below_alloc | apply pw_below_drewN | apply below_drew1) | exact HB.out)) hb); clear HO135; clear HO149; clear HB; have HO135 := n0_; have HO149 := n1_; have HB := n2_; clear n0_ n1_ n2_; (try clear hb); (try clear hb2); (try clear hk); (try clear hi)) | ((with_reducible refine gate_callee (f := 22) rfl ?_); refine goesL_ (some 122) rfl rfl Try.func22 (by kernel_rfl) rfl #[] rfl (by (try simp only [List.map_toArray, List.map_cons, List.map_nil]); first | done | rfl | (simp only [List.length_drop, List.length_take]; rfl)) ?_; (with_reducible refine (calxlaw08_sanity.calls  true _ A47.out).mono ?_); rintro e w65 ⟨rfl, hb⟩; refine ⟨_, rfl, ?_⟩; have n0_ := Aside0.mk (Kd.R_below (by (with_reducible repeat (first | apply Kd.R_alloc | apply Kd.R_drewN | apply Kd.R_drew)); exact HO135.out) hb); have n1_ := Aside0.mk (Kd.R_below (by (with_reducible repeat (first | apply Kd.R_alloc | apply Kd.R_drewN | apply Kd.R_drew)); exact HO149.out) hb); have n2_ := Aside0.mk (below_step (by repeat (first | (with_reducible first | exact HB.out | apply below_alloc | apply pw_below_drewN | apply below_drew1) | exact HB.out)) hb); clear HO135; clear HO149; clear HB; have HO135 := n0_; have HO149 := n1_; have HB := n2_; clear n0_ n1_ n2_; (try clear hb); (try clear hb2); (try clear hk); (try clear hi)))
                                            go_ret
                                            exact ⟨by first | rfl | (simp [errW_none, errW_some] <;> rfl) | (simp only [← hji11]; first | rfl | (simp [errW_none, errW_some] <;> rfl)) | (simp [*, errW_none, errW_some] <;> rfl), by repeat (first | (with_reducible first | exact HB.out | apply below_alloc | apply pw_below_drewN | apply below_drew1) | exact HB.out)⟩
                                          · rw [if_neg c51] at H
                                            have c51b0 : (t138 == t150) = false := beq_eq_false_iff_ne.mpr c51
                                            have c51b1 : (t138 != t150) = true := bne_iff_ne.mpr c51
                                            obtain rfl := Option.some.inj H
                                            go_wp2_with (first | ((with_reducible refine gate_dst (N := 93) rfl ?_); (try (refine gate_guard (by rfl) ?_; dsimp only)); refine Kd.R_lit k29 _ 29 ?hg (N := 93) ?hd (xs := ([] : List (S29))) (inner := []) (ok := fun _ => True) (okp := fun _ => True) ?hr ?hp (fun _ hk => hk) trivial (Below.refl _ _) (Nat.le_refl _) (by simp) ?_; (case hd => rfl); (case hg => rfl); (case hr => first | (go_simp; done) | (go_simp; rfl)); (case hp => exact (Reps.none _ _)); intro v127 w66 ho67 hb hg_ hnew_; clear hg_ hnew_; (first | rw [← Ny126.out] at ho67 | (simp only [Int.reduceToNat] at ho67; rw [← Ny126.out] at ho67)); have n0_ := Aside0.mk (Kd.R_lower ho67 (below_size (by repeat (first | (with_reducible first | exact HB.out | apply below_alloc | apply pw_below_drewN | apply below_drew1) | exact HB.out)))); have n1_ := Aside0.mk (below_step (by repeat (first | (with_reducible first | exact HB.out | apply below_alloc | apply pw_below_drewN | apply below_drew1) | exact HB.out)) hb); clear HB; have HO128 := n0_; have HB := n1_; clear n0_ n1_; clear hb ho67; have q68 : (t123 : Int) ≤ ((l0.length : Int) : Int) := of_decide_eq_true (by first | (with_reducible assumption) | assumption); obtain ⟨i068, hi068, _, hsz68, _⟩ := info_parts info29; have hroom68 : l0.length ≤ c0 := HC0.out; have hC68 : Kd.C k29 _ A0 l0.length l0 := HR0.out; have hcut68 := cut_to (P := Try.prog) 32 29 .i64 Try.underlying32 hi068 A0 l0.length c0 t123 (of_decide_eq_true (by first | (with_reducible assumption) | assumption)) q68 hroom68; have hr68 := Kd.C_take (m := (t123 : Int).toNat) hC68 (by omega); have hy68 : y129.length = (t123 : Int).toNat := (by rw [Ny129.out, List.length_take]; omega); rw [← Ny129.out] at hr68; rw [← hy68] at hcut68; have HR132 := Aside0.mk hr68; have HC132 := Aside0.mk (show y129.length ≤ c0 from by omega); clear hr68 hC68 hroom68 hi068 hsz68; have KY68 := Aside0.mk hy68; clear hy68; replace q68 := eq_true q68) | ((with_reducible refine gate_builtin (b := .append) (xs := #[.tmp 93, .tmp 96]) rfl ?_); (try (refine gate_guard (by rfl) ?_; dsimp only)); at_builtin; refine Kd.R_append_rows k29 (w0 := w) w.heap.size rfl (.tmp 93) (.tmp 96) 32 29 (.agg #[(.int .i64 0), (.int .i64 0), (.int .i64 0), (.int .i64 0)]) 32 rfl Try.underlying32 info29 rfl (by decide) (by omega) v127 y126 y129 _ _ _ (fun _ => True) (fun _ => False) rfl rfl ?aO ?aR (fun _ _ h => h) (fun _ h => h.elim) ?aF ?aB ?aS ?aL ?_; (case aR => repeat (first | exact (Kd.C_below HR132.out HB.out) | (with_reducible refine Kd.C_alloc ?_ _) | (with_reducible refine Kd.C_drewN ?_ _) | (with_reducible refine Kd.C_drew ?_))); (case aB => exact (by repeat (first | (with_reducible first | exact HB.out | apply below_alloc | apply pw_below_drewN | apply below_drew1) | exact HB.out))); (case aF => exact (fun _ _ => trivial)); (case aO => exact (by (with_reducible repeat (first | apply Kd.R_alloc | apply Kd.R_drewN | apply Kd.R_drew)); exact HO128.out)); (case aS => exact (below_size (by repeat (first | (with_reducible first | exact HB.out | apply below_alloc | apply pw_below_drewN | apply below_drew1) | exact HB.out)))); (case aL => have := LMc40.out; omega); intro v134 w69 ho hb hg hat; rw [← Ny133.out] at ho; have n0_ := Aside0.mk (hb); have n1_ := Aside0.mk (ho); clear HB; clear HO128; have HB := n0_; have HO135 := n1_; clear n0_ n1_; clear ho hb hg hat; obtain ⟨Ao70, co70, eo70⟩ := Kd.R_slice HO135.out; subst eo70) | ((with_reducible refine gate_callee (f := 44) rfl ?_); refine goesL_ (some 99) rfl rfl Try.func44 (by kernel_rfl) rfl #[.slice Ao70 y133.length co70, .int .i64 a4] rfl (by (try simp only [List.map_toArray, List.map_cons, List.map_nil]); first | done | rfl | (simp only [List.length_drop, List.length_take]; rfl)) ?_; (with_reducible refine (book_Known.calls _ _ y133 a4 t136 t137 _ ?side1 ?side2 A41.out).mono ?_); (case side1 => repeat (first | exact (Kd.R_reads' HO135.out).2.2 | (with_reducible refine Kd.C_alloc ?_ _) | (with_reducible refine Kd.C_drewN ?_ _) | (with_reducible refine Kd.C_drew ?_))); (case side2 => exact (Kd.R_reads' HO135.out).2.1); rintro e w71 ⟨rfl, hb⟩; refine ⟨_, rfl, ?_⟩; have n0_ := Aside0.mk (Kd.R_below (by (with_reducible repeat (first | apply Kd.R_alloc | apply Kd.R_drewN | apply Kd.R_drew)); exact HO135.out) hb); have n1_ := Aside0.mk (below_step (by repeat (first | (with_reducible first | exact HB.out | apply below_alloc | apply pw_below_drewN | apply below_drew1) | exact HB.out)) hb); clear HO135; clear HB; have HO135 := n0_; have HB := n1_; clear n0_ n1_; (try clear hb); (try clear hb2); (try clear hk); (try clear hi)) | ((with_reducible refine gate_callee (f := 46) rfl ?_); refine goesL_ (some 107) rfl rfl Try.func46 (by kernel_rfl) rfl #[.slice A0 l0.length c0, .int .i64 a2, .int .i64 a3, .int .i64 a4] rfl (by (try simp only [List.map_toArray, List.map_cons, List.map_nil]); first | done | rfl | (simp only [List.length_drop, List.length_take]; rfl)) ?_; (with_reducible refine (book_Total.calls _ _ l0 a2 a3 a4 t138 t139 _ ?side1 ?side2 A42.out).mono ?_); (case side1 => repeat (first | exact (Kd.C_below HR0.out HB.out) | (with_reducible refine Kd.C_alloc ?_ _) | (with_reducible refine Kd.C_drewN ?_ _) | (with_reducible refine Kd.C_drew ?_))); (case side2 => exact HC0.out); rintro e w72 ⟨rfl, hb⟩; refine ⟨_, rfl, ?_⟩; have n0_ := Aside0.mk (Kd.R_below (by (with_reducible repeat (first | apply Kd.R_alloc | apply Kd.R_drewN | apply Kd.R_drew)); exact HO135.out) hb); have n1_ := Aside0.mk (below_step (by repeat (first | (with_reducible first | exact HB.out | apply below_alloc | apply pw_below_drewN | apply below_drew1) | exact HB.out)) hb); clear HO135; clear HB; have HO135 := n0_; have HB := n1_; clear n0_ n1_; (try clear hb); (try clear hb2); (try clear hk); (try clear hi)) | ((with_reducible refine gate_dst (N := 111) rfl ?_); (try (refine gate_guard (by rfl) ?_; dsimp only)); refine Kd.R_lit k29 _ 29 ?hg (N := 111) ?hd (xs := ([] : List (S29))) (inner := []) (ok := fun _ => True) (okp := fun _ => True) ?hr ?hp (fun _ hk => hk) trivial (Below.refl _ _) (Nat.le_refl _) (by simp) ?_; (case hd => rfl); (case hg => rfl); (case hr => first | (go_simp; done) | (go_simp; rfl)); (case hp => exact (Reps.none _ _)); intro v141 w73 ho74 hb hg_ hnew_; clear hg_ hnew_; (first | rw [← Ny140.out] at ho74 | (simp only [Int.reduceToNat] at ho74; rw [← Ny140.out] at ho74)); have n0_ := Aside0.mk (Kd.R_elder' (by (with_reducible repeat (first | apply Kd.R_alloc | apply Kd.R_drewN | apply Kd.R_drew)); exact HO135.out) (Kd.R_base ho74) hb); have n1_ := Aside0.mk (Kd.R_lower (Kd.R_new' ho74 (Kd.R_lt (by (with_reducible repeat (first | apply Kd.R_alloc | apply Kd.R_drewN | apply Kd.R_drew)); exact HO135.out))) (below_size (by repeat (first | (with_reducible first | exact HB.out | apply below_alloc | apply pw_below_drewN | apply below_drew1) | exact HB.out)))); have n2_ := Aside0.mk (below_step (by repeat (first | (with_reducible first | exact HB.out | apply below_alloc | apply pw_below_drewN | apply below_drew1) | exact HB.out)) hb); clear HO135; clear HB; have HO135 := n0_; have HO142 := n1_; have HB := n2_; clear n0_ n1_ n2_; clear hb ho74; have q75 : (t123 : Int) ≤ ((l0.length : Int) : Int) := of_decide_eq_true (by first | (with_reducible assumption) | assumption); obtain ⟨i075, hi075, _, hsz75, _⟩ := info_parts info29; have hroom75 : l0.length ≤ c0 := HC0.out; have hC75 : Kd.C k29 _ A0 l0.length l0 := HR0.out; have hcut75 := cut_to (P := Try.prog) 32 29 .i64 Try.underlying32 hi075 A0 l0.length c0 t123 (of_decide_eq_true (by first | (with_reducible assumption) | assumption)) q75 hroom75; have hr75 := Kd.C_take (m := (t123 : Int).toNat) hC75 (by omega); have hy75 : y129.length = (t123 : Int).toNat := (by rw [Ny129.out, List.length_take]; omega); rw [← Ny129.out] at hr75; rw [← hy75] at hcut75; have HR146 := Aside0.mk hr75; have HC146 := Aside0.mk (show y129.length ≤ c0 from by omega); clear hr75 hC75 hroom75 hi075 hsz75; have KY75 := Aside0.mk hy75; clear hy75; replace q75 := eq_true q75) | ((with_reducible refine gate_builtin (b := .append) (xs := #[.tmp 111, .tmp 114]) rfl ?_); (try (refine gate_guard (by rfl) ?_; dsimp only)); at_builtin; refine Kd.R_append_rows k29 (w0 := w) w.heap.size rfl (.tmp 111) (.tmp 114) 32 29 (.agg #[(.int .i64 0), (.int .i64 0), (.int .i64 0), (.int .i64 0)]) 32 rfl Try.underlying32 info29 rfl (by decide) (by omega) v141 y140 y129 _ _ _ (fun k_ => some k_ ≠ (.slice Ao70 y133.length co70 : Value).ownBlock) (fun _ => False) rfl rfl ?aO ?aR (fun _ _ h => h) (fun _ h => h.elim) ?aF ?aB ?aS ?aL ?_; (case aR => repeat (first | exact (Kd.C_below HR146.out HB.out) | (with_reducible refine Kd.C_alloc ?_ _) | (with_reducible refine Kd.C_drewN ?_ _) | (with_reducible refine Kd.C_drew ?_))); (case aB => exact (by repeat (first | (with_reducible first | exact HB.out | apply below_alloc | apply pw_below_drewN | apply below_drew1) | exact HB.out))); (case aF => exact (fun k_ hk => Kd.fresh' (Kd.R_lt (by (with_reducible repeat (first | apply Kd.R_alloc | apply Kd.R_drewN | apply Kd.R_drew)); exact HO135.out)) k_ hk)); (case aO => exact (by (with_reducible repeat (first | apply Kd.R_alloc | apply Kd.R_drewN | apply Kd.R_drew)); exact Kd.R_mono HO142.out (fun _ hk => hk.2))); (case aS => exact (below_size (by repeat (first | (with_reducible first | exact HB.out | apply below_alloc | apply pw_below_drewN | apply below_drew1) | exact HB.out)))); (case aL => have := LMc45.out; omega); intro v148 w76 ho hb hg hat; rw [← Ny147.out] at ho; have n0_ := Aside0.mk (Kd.R_after (ok := (fun _ => True)) (by (with_reducible repeat (first | apply Kd.R_alloc | apply Kd.R_drewN | apply Kd.R_drew)); exact HO135.out) hg hat); have n1_ := Aside0.mk (hb); have n2_ := Aside0.mk (ho); clear HO135; clear HB; clear HO142; have HO135 := n0_; have HB := n1_; have HO149 := n2_; clear n0_ n1_ n2_; clear ho hb hg hat; obtain ⟨Ao77, co77, eo77⟩ := Kd.R_slice HO149.out; subst eo77) | ((with_reducible refine gate_callee (f := 46) rfl ?_); refine goesL_ (some 119) rfl rfl Try.func46 (by kernel_rfl) rfl #[.slice Ao77 y147.length co77, .int .i64 a2, .int .i64 a3, .int .i64 a4] rfl (by (try simp only [List.map_toArray, List.map_cons, List.map_nil]); first | done | rfl | (simp only [List.length_drop, List.length_take]; rfl)) ?_; (with_reducible refine (book_Total.calls _ _ y147 a2 a3 a4 t150 t151 _ ?side1 ?side2 A46.out).mono ?_); (case side1 => repeat (first | exact (Kd.R_reads' HO149.out).2.2 | (with_reducible refine Kd.C_alloc ?_ _) | (with_reducible refine Kd.C_drewN ?_ _) | (with_reducible refine Kd.C_drew ?_))); (case side2 => exact (Kd.R_reads' HO149.out).2.1); rintro e w78 ⟨rfl, hb⟩; refine ⟨_, rfl, ?_⟩; have n0_ := Aside0.mk (Kd.R_below (by (with_reducible repeat (first | apply Kd.R_alloc | apply Kd.R_drewN | apply Kd.R_drew)); exact HO135.out) hb); have n1_ := Aside0.mk (Kd.R_below (by (with_reducible repeat (first | apply Kd.R_alloc | apply Kd.R_drewN | apply Kd.R_drew)); exact HO149.out) hb); have n2_ := Aside0.mk (below_step (by repeat (first | (with_reducible first | exact HB.out | apply below_alloc | apply pw_below_drewN | apply below_drew1) | exact HB.out)) hb); clear HO135; clear HO149; clear HB; have HO135 := n0_; have HO149 := n1_; have HB := n2_; clear n0_ n1_ n2_; (try clear hb); (try clear hb2); (try clear hk); (try clear hi)) | ((with_reducible refine gate_callee (f := 22) rfl ?_); refine goesL_ (some 122) rfl rfl Try.func22 (by kernel_rfl) rfl #[] rfl (by (try simp only [List.map_toArray, List.map_cons, List.map_nil]); first | done | rfl | (simp only [List.length_drop, List.length_take]; rfl)) ?_; (with_reducible refine (calxlaw08_sanity.calls  true _ A47.out).mono ?_); rintro e w79 ⟨rfl, hb⟩; refine ⟨_, rfl, ?_⟩; have n0_ := Aside0.mk (Kd.R_below (by (with_reducible repeat (first | apply Kd.R_alloc | apply Kd.R_drewN | apply Kd.R_drew)); exact HO135.out) hb); have n1_ := Aside0.mk (Kd.R_below (by (with_reducible repeat (first | apply Kd.R_alloc | apply Kd.R_drewN | apply Kd.R_drew)); exact HO149.out) hb); have n2_ := Aside0.mk (below_step (by repeat (first | (with_reducible first | exact HB.out | apply below_alloc | apply pw_below_drewN | apply below_drew1) | exact HB.out)) hb); clear HO135; clear HO149; clear HB; have HO135 := n0_; have HO149 := n1_; have HB := n2_; clear n0_ n1_ n2_; (try clear hb); (try clear hb2); (try clear hk); (try clear hi)))
                                            go_ret
                                            exact ⟨by first | rfl | (simp [errW_none, errW_some] <;> rfl) | (simp only [← hji11]; first | rfl | (simp [errW_none, errW_some] <;> rfl)) | (simp [*, errW_none, errW_some] <;> rfl), by repeat (first | (with_reducible first | exact HB.out | apply below_alloc | apply pw_below_drewN | apply below_drew1) | exact HB.out)⟩
                                        · rw [if_neg c50] at H
                                          have c50b0 : (t136 == t123) = false := beq_eq_false_iff_ne.mpr c50
                                          have c50b1 : (t136 != t123) = true := bne_iff_ne.mpr c50
                                          obtain rfl := Option.some.inj H
                                          go_wp2_with (first | ((with_reducible refine gate_dst (N := 93) rfl ?_); (try (refine gate_guard (by rfl) ?_; dsimp only)); refine Kd.R_lit k29 _ 29 ?hg (N := 93) ?hd (xs := ([] : List (S29))) (inner := []) (ok := fun _ => True) (okp := fun _ => True) ?hr ?hp (fun _ hk => hk) trivial (Below.refl _ _) (Nat.le_refl _) (by simp) ?_; (case hd => rfl); (case hg => rfl); (case hr => first | (go_simp; done) | (go_simp; rfl)); (case hp => exact (Reps.none _ _)); intro v127 w80 ho81 hb hg_ hnew_; clear hg_ hnew_; (first | rw [← Ny126.out] at ho81 | (simp only [Int.reduceToNat] at ho81; rw [← Ny126.out] at ho81)); have n0_ := Aside0.mk (Kd.R_lower ho81 (below_size (by repeat (first | (with_reducible first | exact HB.out | apply below_alloc | apply pw_below_drewN | apply below_drew1) | exact HB.out)))); have n1_ := Aside0.mk (below_step (by repeat (first | (with_reducible first | exact HB.out | apply below_alloc | apply pw_below_drewN | apply below_drew1) | exact HB.out)) hb); clear HB; have HO128 := n0_; have HB := n1_; clear n0_ n1_; clear hb ho81; have q82 : (t123 : Int) ≤ ((l0.length : Int) : Int) := of_decide_eq_true (by first | (with_reducible assumption) | assumption); obtain ⟨i082, hi082, _, hsz82, _⟩ := info_parts info29; have hroom82 : l0.length ≤ c0 := HC0.out; have hC82 : Kd.C k29 _ A0 l0.length l0 := HR0.out; have hcut82 := cut_to (P := Try.prog) 32 29 .i64 Try.underlying32 hi082 A0 l0.length c0 t123 (of_decide_eq_true (by first | (with_reducible assumption) | assumption)) q82 hroom82; have hr82 := Kd.C_take (m := (t123 : Int).toNat) hC82 (by omega); have hy82 : y129.length = (t123 : Int).toNat := (by rw [Ny129.out, List.length_take]; omega); rw [← Ny129.out] at hr82; rw [← hy82] at hcut82; have HR132 := Aside0.mk hr82; have HC132 := Aside0.mk (show y129.length ≤ c0 from by omega); clear hr82 hC82 hroom82 hi082 hsz82; have KY82 := Aside0.mk hy82; clear hy82; replace q82 := eq_true q82) | ((with_reducible refine gate_builtin (b := .append) (xs := #[.tmp 93, .tmp 96]) rfl ?_); (try (refine gate_guard (by rfl) ?_; dsimp only)); at_builtin; refine Kd.R_append_rows k29 (w0 := w) w.heap.size rfl (.tmp 93) (.tmp 96) 32 29 (.agg #[(.int .i64 0), (.int .i64 0), (.int .i64 0), (.int .i64 0)]) 32 rfl Try.underlying32 info29 rfl (by decide) (by omega) v127 y126 y129 _ _ _ (fun _ => True) (fun _ => False) rfl rfl ?aO ?aR (fun _ _ h => h) (fun _ h => h.elim) ?aF ?aB ?aS ?aL ?_; (case aR => repeat (first | exact (Kd.C_below HR132.out HB.out) | (with_reducible refine Kd.C_alloc ?_ _) | (with_reducible refine Kd.C_drewN ?_ _) | (with_reducible refine Kd.C_drew ?_))); (case aB => exact (by repeat (first | (with_reducible first | exact HB.out | apply below_alloc | apply pw_below_drewN | apply below_drew1) | exact HB.out))); (case aF => exact (fun _ _ => trivial)); (case aO => exact (by (with_reducible repeat (first | apply Kd.R_alloc | apply Kd.R_drewN | apply Kd.R_drew)); exact HO128.out)); (case aS => exact (below_size (by repeat (first | (with_reducible first | exact HB.out | apply below_alloc | apply pw_below_drewN | apply below_drew1) | exact HB.out)))); (case aL => have := LMc40.out; omega); intro v134 w83 ho hb hg hat; rw [← Ny133.out] at ho; have n0_ := Aside0.mk (hb); have n1_ := Aside0.mk (ho); clear HB; clear HO128; have HB := n0_; have HO135 := n1_; clear n0_ n1_; clear ho hb hg hat; obtain ⟨Ao84, co84, eo84⟩ := Kd.R_slice HO135.out; subst eo84) | ((with_reducible refine gate_callee (f := 44) rfl ?_); refine goesL_ (some 99) rfl rfl Try.func44 (by kernel_rfl) rfl #[.slice Ao84 y133.length co84, .int .i64 a4] rfl (by (try simp only [List.map_toArray, List.map_cons, List.map_nil]); first | done | rfl | (simp only [List.length_drop, List.length_take]; rfl)) ?_; (with_reducible refine (book_Known.calls _ _ y133 a4 t136 t137 _ ?side1 ?side2 A41.out).mono ?_); (case side1 => repeat (first | exact (Kd.R_reads' HO135.out).2.2 | (with_reducible refine Kd.C_alloc ?_ _) | (with_reducible refine Kd.C_drewN ?_ _) | (with_reducible refine Kd.C_drew ?_))); (case side2 => exact (Kd.R_reads' HO135.out).2.1); rintro e w85 ⟨rfl, hb⟩; refine ⟨_, rfl, ?_⟩; have n0_ := Aside0.mk (Kd.R_below (by (with_reducible repeat (first | apply Kd.R_alloc | apply Kd.R_drewN | apply Kd.R_drew)); exact HO135.out) hb); have n1_ := Aside0.mk (below_step (by repeat (first | (with_reducible first | exact HB.out | apply below_alloc | apply pw_below_drewN | apply below_drew1) | exact HB.out)) hb); clear HO135; clear HB; have HO135 := n0_; have HB := n1_; clear n0_ n1_; (try clear hb); (try clear hb2); (try clear hk); (try clear hi)) | ((with_reducible refine gate_callee (f := 46) rfl ?_); refine goesL_ (some 107) rfl rfl Try.func46 (by kernel_rfl) rfl #[.slice A0 l0.length c0, .int .i64 a2, .int .i64 a3, .int .i64 a4] rfl (by (try simp only [List.map_toArray, List.map_cons, List.map_nil]); first | done | rfl | (simp only [List.length_drop, List.length_take]; rfl)) ?_; (with_reducible refine (book_Total.calls _ _ l0 a2 a3 a4 t138 t139 _ ?side1 ?side2 A42.out).mono ?_); (case side1 => repeat (first | exact (Kd.C_below HR0.out HB.out) | (with_reducible refine Kd.C_alloc ?_ _) | (with_reducible refine Kd.C_drewN ?_ _) | (with_reducible refine Kd.C_drew ?_))); (case side2 => exact HC0.out); rintro e w86 ⟨rfl, hb⟩; refine ⟨_, rfl, ?_⟩; have n0_ := Aside0.mk (Kd.R_below (by (with_reducible repeat (first | apply Kd.R_alloc | apply Kd.R_drewN | apply Kd.R_drew)); exact HO135.out) hb); have n1_ := Aside0.mk (below_step (by repeat (first | (with_reducible first | exact HB.out | apply below_alloc | apply pw_below_drewN | apply below_drew1) | exact HB.out)) hb); clear HO135; clear HB; have HO135 := n0_; have HB := n1_; clear n0_ n1_; (try clear hb); (try clear hb2); (try clear hk); (try clear hi)) | ((with_reducible refine gate_dst (N := 111) rfl ?_); (try (refine gate_guard (by rfl) ?_; dsimp only)); refine Kd.R_lit k29 _ 29 ?hg (N := 111) ?hd (xs := ([] : List (S29))) (inner := []) (ok := fun _ => True) (okp := fun _ => True) ?hr ?hp (fun _ hk => hk) trivial (Below.refl _ _) (Nat.le_refl _) (by simp) ?_; (case hd => rfl); (case hg => rfl); (case hr => first | (go_simp; done) | (go_simp; rfl)); (case hp => exact (Reps.none _ _)); intro v141 w87 ho88 hb hg_ hnew_; clear hg_ hnew_; (first | rw [← Ny140.out] at ho88 | (simp only [Int.reduceToNat] at ho88; rw [← Ny140.out] at ho88)); have n0_ := Aside0.mk (Kd.R_elder' (by (with_reducible repeat (first | apply Kd.R_alloc | apply Kd.R_drewN | apply Kd.R_drew)); exact HO135.out) (Kd.R_base ho88) hb); have n1_ := Aside0.mk (Kd.R_lower (Kd.R_new' ho88 (Kd.R_lt (by (with_reducible repeat (first | apply Kd.R_alloc | apply Kd.R_drewN | apply Kd.R_drew)); exact HO135.out))) (below_size (by repeat (first | (with_reducible first | exact HB.out | apply below_alloc | apply pw_below_drewN | apply below_drew1) | exact HB.out)))); have n2_ := Aside0.mk (below_step (by repeat (first | (with_reducible first | exact HB.out | apply below_alloc | apply pw_below_drewN | apply below_drew1) | exact HB.out)) hb); clear HO135; clear HB; have HO135 := n0_; have HO142 := n1_; have HB := n2_; clear n0_ n1_ n2_; clear hb ho88; have q89 : (t123 : Int) ≤ ((l0.length : Int) : Int) := of_decide_eq_true (by first | (with_reducible assumption) | assumption); obtain ⟨i089, hi089, _, hsz89, _⟩ := info_parts info29; have hroom89 : l0.length ≤ c0 := HC0.out; have hC89 : Kd.C k29 _ A0 l0.length l0 := HR0.out; have hcut89 := cut_to (P := Try.prog) 32 29 .i64 Try.underlying32 hi089 A0 l0.length c0 t123 (of_decide_eq_true (by first | (with_reducible assumption) | assumption)) q89 hroom89; have hr89 := Kd.C_take (m := (t123 : Int).toNat) hC89 (by omega); have hy89 : y129.length = (t123 : Int).toNat := (by rw [Ny129.out, List.length_take]; omega); rw [← Ny129.out] at hr89; rw [← hy89] at hcut89; have HR146 := Aside0.mk hr89; have HC146 := Aside0.mk (show y129.length ≤ c0 from by omega); clear hr89 hC89 hroom89 hi089 hsz89; have KY89 := Aside0.mk hy89; clear hy89; replace q89 := eq_true q89) | ((with_reducible refine gate_builtin (b := .append) (xs := #[.tmp 111, .tmp 114]) rfl ?_); (try (refine gate_guard (by rfl) ?_; dsimp only)); at_builtin; refine Kd.R_append_rows k29 (w0 := w) w.heap.size rfl (.tmp 111) (.tmp 114) 32 29 (.agg #[(.int .i64 0), (.int .i64 0), (.int .i64 0), (.int .i64 0)]) 32 rfl Try.underlying32 info29 rfl (by decide) (by omega) v141 y140 y129 _ _ _ (fun k_ => some k_ ≠ (.slice Ao84 y133.length co84 : Value).ownBlock) (fun _ => False) rfl rfl ?aO ?aR (fun _ _ h => h) (fun _ h => h.elim) ?aF ?aB ?aS ?aL ?_; (case aR => repeat (first | exact (Kd.C_below HR146.out HB.out) | (with_reducible refine Kd.C_alloc ?_ _) | (with_reducible refine Kd.C_drewN ?_ _) | (with_reducible refine Kd.C_drew ?_))); (case aB => exact (by repeat (first | (with_reducible first | exact HB.out | apply below_alloc | apply pw_below_drewN | apply below_drew1) | exact HB.out))); (case aF => exact (fun k_ hk => Kd.fresh' (Kd.R_lt (by (with_reducible repeat (first | apply Kd.R_alloc | apply Kd.R_drewN | apply Kd.R_drew)); exact HO135.out)) k_ hk)); (case aO => exact (by (with_reducible repeat (first | apply Kd.R_alloc | apply Kd.R_drewN | apply Kd.R_drew)); exact Kd.R_mono HO142.out (fun _ hk => hk.2))); (case aS => exact (below_size (by repeat (first | (with_reducible first | exact HB.out | apply below_alloc | apply pw_below_drewN | apply below_drew1) | exact HB.out)))); (case aL => have := LMc45.out; omega); intro v148 w90 ho hb hg hat; rw [← Ny147.out] at ho; have n0_ := Aside0.mk (Kd.R_after (ok := (fun _ => True)) (by (with_reducible repeat (first | apply Kd.R_alloc | apply Kd.R_drewN | apply Kd.R_drew)); exact HO135.out) hg hat); have n1_ := Aside0.mk (hb); have n2_ := Aside0.mk (ho); clear HO135; clear HB; clear HO142; have HO135 := n0_; have HB := n1_; have HO149 := n2_; clear n0_ n1_ n2_; clear ho hb hg hat; obtain ⟨Ao91, co91, eo91⟩ := Kd.R_slice HO149.out; subst eo91) | ((with_reducible refine gate_callee (f := 46) rfl ?_); refine goesL_ (some 119) rfl rfl Try.func46 (by kernel_rfl) rfl #[.slice Ao91 y147.length co91, .int .i64 a2, .int .i64 a3, .int .i64 a4] rfl (by (try simp only [List.map_toArray, List.map_cons, List.map_nil]); first | done | rfl | (simp only [List.length_drop, List.length_take]; rfl)) ?_; (with_reducible refine (book_Total.calls _ _ y147 a2 a3 a4 t150 t151 _ ?side1 ?side2 A46.out).mono ?_); (case side1 => repeat (first | exact (Kd.R_reads' HO149.out).2.2 | (with_reducible refine Kd.C_alloc ?_ _) | (with_reducible refine Kd.C_drewN ?_ _) | (with_reducible refine Kd.C_drew ?_))); (case side2 => exact (Kd.R_reads' HO149.out).2.1); rintro e w92 ⟨rfl, hb⟩; refine ⟨_, rfl, ?_⟩; have n0_ := Aside0.mk (Kd.R_below (by (with_reducible repeat (first | apply Kd.R_alloc | apply Kd.R_drewN | apply Kd.R_drew)); exact HO135.out) hb); have n1_ := Aside0.mk (Kd.R_below (by (with_reducible repeat (first | apply Kd.R_alloc | apply Kd.R_drewN | apply Kd.R_drew)); exact HO149.out) hb); have n2_ := Aside0.mk (below_step (by repeat (first | (with_reducible first | exact HB.out | apply below_alloc | apply pw_below_drewN | apply below_drew1) | exact HB.out)) hb); clear HO135; clear HO149; clear HB; have HO135 := n0_; have HO149 := n1_; have HB := n2_; clear n0_ n1_ n2_; (try clear hb); (try clear hb2); (try clear hk); (try clear hi)) | ((with_reducible refine gate_callee (f := 22) rfl ?_); refine goesL_ (some 122) rfl rfl Try.func22 (by kernel_rfl) rfl #[] rfl (by (try simp only [List.map_toArray, List.map_cons, List.map_nil]); first | done | rfl | (simp only [List.length_drop, List.length_take]; rfl)) ?_; (with_reducible refine (calxlaw08_sanity.calls  true _ A47.out).mono ?_); rintro e w93 ⟨rfl, hb⟩; refine ⟨_, rfl, ?_⟩; have n0_ := Aside0.mk (Kd.R_below (by (with_reducible repeat (first | apply Kd.R_alloc | apply Kd.R_drewN | apply Kd.R_drew)); exact HO135.out) hb); have n1_ := Aside0.mk (Kd.R_below (by (with_reducible repeat (first | apply Kd.R_alloc | apply Kd.R_drewN | apply Kd.R_drew)); exact HO149.out) hb); have n2_ := Aside0.mk (below_step (by repeat (first | (with_reducible first | exact HB.out | apply below_alloc | apply pw_below_drewN | apply below_drew1) | exact HB.out)) hb); clear HO135; clear HO149; clear HB; have HO135 := n0_; have HO149 := n1_; have HB := n2_; clear n0_ n1_ n2_; (try clear hb); (try clear hb2); (try clear hk); (try clear hi)))
                                          go_ret
                                          exact ⟨by first | rfl | (simp [errW_none, errW_some] <;> rfl) | (simp only [← hji11]; first | rfl | (simp [errW_none, errW_some] <;> rfl)) | (simp [*, errW_none, errW_some] <;> rfl), by repeat (first | (with_reducible first | exact HB.out | apply below_alloc | apply pw_below_drewN | apply below_drew1) | exact HB.out)⟩
                                      · rw [if_neg c49] at H
                                        have c49b0 : (t137 == 0) = false := beq_eq_false_iff_ne.mpr c49
                                        have c49b1 : (t137 != 0) = true := bne_iff_ne.mpr c49
                                        obtain rfl := Option.some.inj H
                                        go_wp2_with (first | ((with_reducible refine gate_dst (N := 93) rfl ?_); (try (refine gate_guard (by rfl) ?_; dsimp only)); refine Kd.R_lit k29 _ 29 ?hg (N := 93) ?hd (xs := ([] : List (S29))) (inner := []) (ok := fun _ => True) (okp := fun _ => True) ?hr ?hp (fun _ hk => hk) trivial (Below.refl _ _) (Nat.le_refl _) (by simp) ?_; (case hd => rfl); (case hg => rfl); (case hr => first | (go_simp; done) | (go_simp; rfl)); (case hp => exact (Reps.none _ _)); intro v127 w94 ho95 hb hg_ hnew_; clear hg_ hnew_; (first | rw [← Ny126.out] at ho95 | (simp only [Int.reduceToNat] at ho95; rw [← Ny126.out] at ho95)); have n0_ := Aside0.mk (Kd.R_lower ho95 (below_size (by repeat (first | (with_reducible first | exact HB.out | apply below_alloc | apply pw_below_drewN | apply below_drew1) | exact HB.out)))); have n1_ := Aside0.mk (below_step (by repeat (first | (with_reducible first | exact HB.out | apply below_alloc | apply pw_below_drewN | apply below_drew1) | exact HB.out)) hb); clear HB; have HO128 := n0_; have HB := n1_; clear n0_ n1_; clear hb ho95; have q96 : (t123 : Int) ≤ ((l0.length : Int) : Int) := of_decide_eq_true (by first | (with_reducible assumption) | assumption); obtain ⟨i096, hi096, _, hsz96, _⟩ := info_parts info29; have hroom96 : l0.length ≤ c0 := HC0.out; have hC96 : Kd.C k29 _ A0 l0.length l0 := HR0.out; have hcut96 := cut_to (P := Try.prog) 32 29 .i64 Try.underlying32 hi096 A0 l0.length c0 t123 (of_decide_eq_true (by first | (with_reducible assumption) | assumption)) q96 hroom96; have hr96 := Kd.C_take (m := (t123 : Int).toNat) hC96 (by omega); have hy96 : y129.length = (t123 : Int).toNat := (by rw [Ny129.out, List.length_take]; omega); rw [← Ny129.out] at hr96; rw [← hy96] at hcut96; have HR132 := Aside0.mk hr96; have HC132 := Aside0.mk (show y129.length ≤ c0 from by omega); clear hr96 hC96 hroom96 hi096 hsz96; have KY96 := Aside0.mk hy96; clear hy96; replace q96 := eq_true q96) | ((with_reducible refine gate_builtin (b := .append) (xs := #[.tmp 93, .tmp 96]) rfl ?_); (try (refine gate_guard (by rfl) ?_; dsimp only)); at_builtin; refine Kd.R_append_rows k29 (w0 := w) w.heap.size rfl (.tmp 93) (.tmp 96) 32 29 (.agg #[(.int .i64 0), (.int .i64 0), (.int .i64 0), (.int .i64 0)]) 32 rfl Try.underlying32 info29 rfl (by decide) (by omega) v127 y126 y129 _ _ _ (fun _ => True) (fun _ => False) rfl rfl ?aO ?aR (fun _ _ h => h) (fun _ h => h.elim) ?aF ?aB ?aS ?aL ?_; (case aR => repeat (first | exact (Kd.C_below HR132.out HB.out) | (with_reducible refine Kd.C_alloc ?_ _) | (with_reducible refine Kd.C_drewN ?_ _) | (with_reducible refine Kd.C_drew ?_))); (case aB => exact (by repeat (first | (with_reducible first | exact HB.out | apply below_alloc | apply pw_below_drewN | apply below_drew1) | exact HB.out))); (case aF => exact (fun _ _ => trivial)); (case aO => exact (by (with_reducible repeat (first | apply Kd.R_alloc | apply Kd.R_drewN | apply Kd.R_drew)); exact HO128.out)); (case aS => exact (below_size (by repeat (first | (with_reducible first | exact HB.out | apply below_alloc | apply pw_below_drewN | apply below_drew1) | exact HB.out)))); (case aL => have := LMc40.out; omega); intro v134 w97 ho hb hg hat; rw [← Ny133.out] at ho; have n0_ := Aside0.mk (hb); have n1_ := Aside0.mk (ho); clear HB; clear HO128; have HB := n0_; have HO135 := n1_; clear n0_ n1_; clear ho hb hg hat; obtain ⟨Ao98, co98, eo98⟩ := Kd.R_slice HO135.out; subst eo98) | ((with_reducible refine gate_callee (f := 44) rfl ?_); refine goesL_ (some 99) rfl rfl Try.func44 (by kernel_rfl) rfl #[.slice Ao98 y133.length co98, .int .i64 a4] rfl (by (try simp only [List.map_toArray, List.map_cons, List.map_nil]); first | done | rfl | (simp only [List.length_drop, List.length_take]; rfl)) ?_; (with_reducible refine (book_Known.calls _ _ y133 a4 t136 t137 _ ?side1 ?side2 A41.out).mono ?_); (case side1 => repeat (first | exact (Kd.R_reads' HO135.out).2.2 | (with_reducible refine Kd.C_alloc ?_ _) | (with_reducible refine Kd.C_drewN ?_ _) | (with_reducible refine Kd.C_drew ?_))); (case side2 => exact (Kd.R_reads' HO135.out).2.1); rintro e w99 ⟨rfl, hb⟩; refine ⟨_, rfl, ?_⟩; have n0_ := Aside0.mk (Kd.R_below (by (with_reducible repeat (first | apply Kd.R_alloc | apply Kd.R_drewN | apply Kd.R_drew)); exact HO135.out) hb); have n1_ := Aside0.mk (below_step (by repeat (first | (with_reducible first | exact HB.out | apply below_alloc | apply pw_below_drewN | apply below_drew1) | exact HB.out)) hb); clear HO135; clear HB; have HO135 := n0_; have HB := n1_; clear n0_ n1_; (try clear hb); (try clear hb2); (try clear hk); (try clear hi)) | ((with_reducible refine gate_callee (f := 46) rfl ?_); refine goesL_ (some 107) rfl rfl Try.func46 (by kernel_rfl) rfl #[.slice A0 l0.length c0, .int .i64 a2, .int .i64 a3, .int .i64 a4] rfl (by (try simp only [List.map_toArray, List.map_cons, List.map_nil]); first | done | rfl | (simp only [List.length_drop, List.length_take]; rfl)) ?_; (with_reducible refine (book_Total.calls _ _ l0 a2 a3 a4 t138 t139 _ ?side1 ?side2 A42.out).mono ?_); (case side1 => repeat (first | exact (Kd.C_below HR0.out HB.out) | (with_reducible refine Kd.C_alloc ?_ _) | (with_reducible refine Kd.C_drewN ?_ _) | (with_reducible refine Kd.C_drew ?_))); (case side2 => exact HC0.out); rintro e w100 ⟨rfl, hb⟩; refine ⟨_, rfl, ?_⟩; have n0_ := Aside0.mk (Kd.R_below (by (with_reducible repeat (first | apply Kd.R_alloc | apply Kd.R_drewN | apply Kd.R_drew)); exact HO135.out) hb); have n1_ := Aside0.mk (below_step (by repeat (first | (with_reducible first | exact HB.out | apply below_alloc | apply pw_below_drewN | apply below_drew1) | exact HB.out)) hb); clear HO135; clear HB; have HO135 := n0_; have HB := n1_; clear n0_ n1_; (try clear hb); (try clear hb2); (try clear hk); (try clear hi)) | ((with_reducible refine gate_dst (N := 111) rfl ?_); (try (refine gate_guard (by rfl) ?_; dsimp only)); refine Kd.R_lit k29 _ 29 ?hg (N := 111) ?hd (xs := ([] : List (S29))) (inner := []) (ok := fun _ => True) (okp := fun _ => True) ?hr ?hp (fun _ hk => hk) trivial (Below.refl _ _) (Nat.le_refl _) (by simp) ?_; (case hd => rfl); (case hg => rfl); (case hr => first | (go_simp; done) | (go_simp; rfl)); (case hp => exact (Reps.none _ _)); intro v141 w101 ho102 hb hg_ hnew_; clear hg_ hnew_; (first | rw [← Ny140.out] at ho102 | (simp only [Int.reduceToNat] at ho102; rw [← Ny140.out] at ho102)); have n0_ := Aside0.mk (Kd.R_elder' (by (with_reducible repeat (first | apply Kd.R_alloc | apply Kd.R_drewN | apply Kd.R_drew)); exact HO135.out) (Kd.R_base ho102) hb); have n1_ := Aside0.mk (Kd.R_lower (Kd.R_new' ho102 (Kd.R_lt (by (with_reducible repeat (first | apply Kd.R_alloc | apply Kd.R_drewN | apply Kd.R_drew)); exact HO135.out))) (below_size (by repeat (first | (with_reducible first | exact HB.out | apply below_alloc | apply pw_below_drewN | apply below_drew1) | exact HB.out)))); have n2_ := Aside0.mk (below_step (by repeat (first | (with_reducible first | exact HB.out | apply below_alloc | apply pw_below_drewN | apply below_drew1) | exact HB.out)) hb); clear HO135; clear HB; have HO135 := n0_; have HO142 := n1_; have HB := n2_; clear n0_ n1_ n2_; clear hb ho102; have q103 : (t123 : Int) ≤ ((l0.length : Int) : Int) := of_decide_eq_true (by first | (with_reducible assumption) | assumption); obtain ⟨i0103, hi0103, _, hsz103, _⟩ := info_parts info29; have hroom103 : l0.length ≤ c0 := HC0.out; have hC103 : Kd.C k29 _ A0 l0.length l0 := HR0.out; have hcut103 := cut_to (P := Try.prog) 32 29 .i64 Try.underlying32 hi0103 A0 l0.length c0 t123 (of_decide_eq_true (by first | (with_reducible assumption) | assumption)) q103 hroom103; have hr103 := Kd.C_take (m := (t123 : Int).toNat) hC103 (by omega); have hy103 : y129.length = (t123 : Int).toNat := (by rw [Ny129.out, List.length_take]; omega); rw [← Ny129.out] at hr103; rw [← hy103] at hcut103; have HR146 := Aside0.mk hr103; have HC146 := Aside0.mk (show y129.length ≤ c0 from by omega); clear hr103 hC103 hroom103 hi0103 hsz103; have KY103 := Aside0.mk hy103; clear hy103; replace q103 := eq_true q103) | ((with_reducible refine gate_builtin (b := .append) (xs := #[.tmp 111, .tmp 114]) rfl ?_); (try (refine gate_guard (by rfl) ?_; dsimp only)); at_builtin; refine Kd.R_append_rows k29 (w0 := w) w.heap.size rfl (.tmp 111) (.tmp 114) 32 29 (.agg #[(.int .i64 0), (.int .i64 0), (.int .i64 0), (.int .i64 0)]) 32 rfl Try.underlying32 info29 rfl (by decide) (by omega) v141 y140 y129 _ _ _ (fun k_ => some k_ ≠ (.slice Ao98 y133.length co98 : Value).ownBlock) (fun _ => False) rfl rfl ?aO ?aR (fun _ _ h => h) (fun _ h => h.elim) ?aF ?aB ?aS ?aL ?_; (case aR => repeat (first | exact (Kd.C_below HR146.out HB.out) | (with_reducible refine Kd.C_alloc ?_ _) | (with_reducible refine Kd.C_drewN ?_ _) | (with_reducible refine Kd.C_drew ?_))); (case aB => exact (by repeat (first | (with_reducible first | exact HB.out | apply below_alloc | apply pw_below_drewN | apply below_drew1) | exact HB.out))); (case aF => exact (fun k_ hk => Kd.fresh' (Kd.R_lt (by (with_reducible repeat (first | apply Kd.R_alloc | apply Kd.R_drewN | apply Kd.R_drew)); exact HO135.out)) k_ hk)); (case aO => exact (by (with_reducible repeat (first | apply Kd.R_alloc | apply Kd.R_drewN | apply Kd.R_drew)); exact Kd.R_mono HO142.out (fun _ hk => hk.2))); (case aS => exact (below_size (by repeat (first | (with_reducible first | exact HB.out | apply below_alloc | apply pw_below_drewN | apply below_drew1) | exact HB.out)))); (case aL => have := LMc45.out; omega); intro v148 w104 ho hb hg hat; rw [← Ny147.out] at ho; have n0_ := Aside0.mk (Kd.R_after (ok := (fun _ => True)) (by (with_reducible repeat (first | apply Kd.R_alloc | apply Kd.R_drewN | apply Kd.R_drew)); exact HO135.out) hg hat); have n1_ := Aside0.mk (hb); have n2_ := Aside0.mk (ho); clear HO135; clear HB; clear HO142; have HO135 := n0_; have HB := n1_; have HO149 := n2_; clear n0_ n1_ n2_; clear ho hb hg hat; obtain ⟨Ao105, co105, eo105⟩ := Kd.R_slice HO149.out; subst eo105) | ((with_reducible refine gate_callee (f := 46) rfl ?_); refine goesL_ (some 119) rfl rfl Try.func46 (by kernel_rfl) rfl #[.slice Ao105 y147.length co105, .int .i64 a2, .int .i64 a3, .int .i64 a4] rfl (by (try simp only [List.map_toArray, List.map_cons, List.map_nil]); first | done | rfl | (simp only [List.length_drop, List.length_take]; rfl)) ?_; (with_reducible refine (book_Total.calls _ _ y147 a2 a3 a4 t150 t151 _ ?side1 ?side2 A46.out).mono ?_); (case side1 => repeat (first | exact (Kd.R_reads' HO149.out).2.2 | (with_reducible refine Kd.C_alloc ?_ _) | (with_reducible refine Kd.C_drewN ?_ _) | (with_reducible refine Kd.C_drew ?_))); (case side2 => exact (Kd.R_reads' HO149.out).2.1); rintro e w106 ⟨rfl, hb⟩; refine ⟨_, rfl, ?_⟩; have n0_ := Aside0.mk (Kd.R_below (by (with_reducible repeat (first | apply Kd.R_alloc | apply Kd.R_drewN | apply Kd.R_drew)); exact HO135.out) hb); have n1_ := Aside0.mk (Kd.R_below (by (with_reducible repeat (first | apply Kd.R_alloc | apply Kd.R_drewN | apply Kd.R_drew)); exact HO149.out) hb); have n2_ := Aside0.mk (below_step (by repeat (first | (with_reducible first | exact HB.out | apply below_alloc | apply pw_below_drewN | apply below_drew1) | exact HB.out)) hb); clear HO135; clear HO149; clear HB; have HO135 := n0_; have HO149 := n1_; have HB := n2_; clear n0_ n1_ n2_; (try clear hb); (try clear hb2); (try clear hk); (try clear hi)) | ((with_reducible refine gate_callee (f := 22) rfl ?_); refine goesL_ (some 122) rfl rfl Try.func22 (by kernel_rfl) rfl #[] rfl (by (try simp only [List.map_toArray, List.map_cons, List.map_nil]); first | done | rfl | (simp only [List.length_drop, List.length_take]; rfl)) ?_; (with_reducible refine (calxlaw08_sanity.calls  true _ A47.out).mono ?_); rintro e w107 ⟨rfl, hb⟩; refine ⟨_, rfl, ?_⟩; have n0_ := Aside0.mk (Kd.R_below (by (with_reducible repeat (first | apply Kd.R_alloc | apply Kd.R_drewN | apply Kd.R_drew)); exact HO135.out) hb); have n1_ := Aside0.mk (Kd.R_below (by (with_reducible repeat (first | apply Kd.R_alloc | apply Kd.R_drewN | apply Kd.R_drew)); exact HO149.out) hb); have n2_ := Aside0.mk (below_step (by repeat (first | (with_reducible first | exact HB.out | apply below_alloc | apply pw_below_drewN | apply below_drew1) | exact HB.out)) hb); clear HO135; clear HO149; clear HB; have HO135 := n0_; have HO149 := n1_; have HB := n2_; clear n0_ n1_ n2_; (try clear hb); (try clear hb2); (try clear hk); (try clear hi)))
                                        go_ret
                                        exact ⟨by first | rfl | (simp [errW_none, errW_some] <;> rfl) | (simp only [← hji11]; first | rfl | (simp [errW_none, errW_some] <;> rfl)) | (simp [*, errW_none, errW_some] <;> rfl), by repeat (first | (with_reducible first | exact HB.out | apply below_alloc | apply pw_below_drewN | apply below_drew1) | exact HB.out)⟩
                                    · replace c48 := Bool.eq_false_iff.mpr c48
                                      subst c48
                                      have H1 : (some false) = some r := by rw [if_neg (show ¬ (false = true) by decide)] at H; exact H
                                      clear H
                                      have H := H1
                                      clear H1
                                      obtain rfl := Option.some.inj H
                                      go_wp2_with (first | ((with_reducible refine gate_dst (N := 93) rfl ?_); (try (refine gate_guard (by rfl) ?_; dsimp only)); refine Kd.R_lit k29 _ 29 ?hg (N := 93) ?hd (xs := ([] : List (S29))) (inner := []) (ok := fun _ => True) (okp := fun _ => True) ?hr ?hp (fun _ hk => hk) trivial (Below.refl _ _) (Nat.le_refl _) (by simp) ?_; (case hd => rfl); (case hg => rfl); (case hr => first | (go_simp; done) | (go_simp; rfl)); (case hp => exact (Reps.none _ _)); intro v127 w108 ho109 hb hg_ hnew_; clear hg_ hnew_; (first | rw [← Ny126.out] at ho109 | (simp only [Int.reduceToNat] at ho109; rw [← Ny126.out] at ho109)); have n0_ := Aside0.mk (Kd.R_lower ho109 (below_size (by repeat (first | (with_reducible first | exact HB.out | apply below_alloc | apply pw_below_drewN | apply below_drew1) | exact HB.out)))); have n1_ := Aside0.mk (below_step (by repeat (first | (with_reducible first | exact HB.out | apply below_alloc | apply pw_below_drewN | apply below_drew1) | exact HB.out)) hb); clear HB; have HO128 := n0_; have HB := n1_; clear n0_ n1_; clear hb ho109; have q110 : (t123 : Int) ≤ ((l0.length : Int) : Int) := of_decide_eq_true (by first | (with_reducible assumption) | assumption); obtain ⟨i0110, hi0110, _, hsz110, _⟩ := info_parts info29; have hroom110 : l0.length ≤ c0 := HC0.out; have hC110 : Kd.C k29 _ A0 l0.length l0 := HR0.out; have hcut110 := cut_to (P := Try.prog) 32 29 .i64 Try.underlying32 hi0110 A0 l0.length c0 t123 (of_decide_eq_true (by first | (with_reducible assumption) | assumption)) q110 hroom110; have hr110 := Kd.C_take (m := (t123 : Int).toNat) hC110 (by omega); have hy110 : y129.length = (t123 : Int).toNat := (by rw [Ny129.out, List.length_take]; omega); rw [← Ny129.out] at hr110; rw [← hy110] at hcut110; have HR132 := Aside0.mk hr110; have HC132 := Aside0.mk (show y129.length ≤ c0 from by omega); clear hr110 hC110 hroom110 hi0110 hsz110; have KY110 := Aside0.mk hy110; clear hy110; replace q110 := eq_true q110) | ((with_reducible refine gate_builtin (b := .append) (xs := #[.tmp 93, .tmp 96]) rfl ?_); (try (refine gate_guard (by rfl) ?_; dsimp only)); at_builtin; refine Kd.R_append_rows k29 (w0 := w) w.heap.size rfl (.tmp 93) (.tmp 96) 32 29 (.agg #[(.int .i64 0), (.int .i64 0), (.int .i64 0), (.int .i64 0)]) 32 rfl Try.underlying32 info29 rfl (by decide) (by omega) v127 y126 y129 _ _ _ (fun _ => True) (fun _ => False) rfl rfl ?aO ?aR (fun _ _ h => h) (fun _ h => h.elim) ?aF ?aB ?aS ?aL ?_; (case aR => repeat (first | exact (Kd.C_below HR132.out HB.out) | (with_reducible refine Kd.C_alloc ?_ _) | (with_reducible refine Kd.C_drewN ?_ _) | (with_reducible refine Kd.C_drew ?_))); (case aB => exact (by repeat (first | (with_reducible first | exact HB.out | apply below_alloc | apply pw_below_drewN | apply below_drew1) | exact HB.out))); (case aF => exact (fun _ _ => trivial)); (case aO => exact (by (with_reducible repeat (first | apply Kd.R_alloc | apply Kd.R_drewN | apply Kd.R_drew)); exact HO128.out)); (case aS => exact (below_size (by repeat (first | (with_reducible first | exact HB.out | apply below_alloc | apply pw_below_drewN | apply below_drew1) | exact HB.out)))); (case aL => have := LMc40.out; omega); intro v134 w111 ho hb hg hat; rw [← Ny133.out] at ho; have n0_ := Aside0.mk (hb); have n1_ := Aside0.mk (ho); clear HB; clear HO128; have HB := n0_; have HO135 := n1_; clear n0_ n1_; clear ho hb hg hat; obtain ⟨Ao112, co112, eo112⟩ := Kd.R_slice HO135.out; subst eo112) | ((with_reducible refine gate_callee (f := 44) rfl ?_); refine goesL_ (some 99) rfl rfl Try.func44 (by kernel_rfl) rfl #[.slice Ao112 y133.length co112, .int .i64 a4] rfl (by (try simp only [List.map_toArray, List.map_cons, List.map_nil]); first | done | rfl | (simp only [List.length_drop, List.length_take]; rfl)) ?_; (with_reducible refine (book_Known.calls _ _ y133 a4 t136 t137 _ ?side1 ?side2 A41.out).mono ?_); (case side1 => repeat (first | exact (Kd.R_reads' HO135.out).2.2 | (with_reducible refine Kd.C_alloc ?_ _) | (with_reducible refine Kd.C_drewN ?_ _) | (with_reducible refine Kd.C_drew ?_))); (case side2 => exact (Kd.R_reads' HO135.out).2.1); rintro e w113 ⟨rfl, hb⟩; refine ⟨_, rfl, ?_⟩; have n0_ := Aside0.mk (Kd.R_below (by (with_reducible repeat (first | apply Kd.R_alloc | apply Kd.R_drewN | apply Kd.R_drew)); exact HO135.out) hb); have n1_ := Aside0.mk (below_step (by repeat (first | (with_reducible first | exact HB.out | apply below_alloc | apply pw_below_drewN | apply below_drew1) | exact HB.out)) hb); clear HO135; clear HB; have HO135 := n0_; have HB := n1_; clear n0_ n1_; (try clear hb); (try clear hb2); (try clear hk); (try clear hi)) | ((with_reducible refine gate_callee (f := 46) rfl ?_); refine goesL_ (some 107) rfl rfl Try.func46 (by kernel_rfl) rfl #[.slice A0 l0.length c0, .int .i64 a2, .int .i64 a3, .int .i64 a4] rfl (by (try simp only [List.map_toArray, List.map_cons, List.map_nil]); first | done | rfl | (simp only [List.length_drop, List.length_take]; rfl)) ?_; (with_reducible refine (book_Total.calls _ _ l0 a2 a3 a4 t138 t139 _ ?side1 ?side2 A42.out).mono ?_); (case side1 => repeat (first | exact (Kd.C_below HR0.out HB.out) | (with_reducible refine Kd.C_alloc ?_ _) | (with_reducible refine Kd.C_drewN ?_ _) | (with_reducible refine Kd.C_drew ?_))); (case side2 => exact HC0.out); rintro e w114 ⟨rfl, hb⟩; refine ⟨_, rfl, ?_⟩; have n0_ := Aside0.mk (Kd.R_below (by (with_reducible repeat (first | apply Kd.R_alloc | apply Kd.R_drewN | apply Kd.R_drew)); exact HO135.out) hb); have n1_ := Aside0.mk (below_step (by repeat (first | (with_reducible first | exact HB.out | apply below_alloc | apply pw_below_drewN | apply below_drew1) | exact HB.out)) hb); clear HO135; clear HB; have HO135 := n0_; have HB := n1_; clear n0_ n1_; (try clear hb); (try clear hb2); (try clear hk); (try clear hi)) | ((with_reducible refine gate_dst (N := 111) rfl ?_); (try (refine gate_guard (by rfl) ?_; dsimp only)); refine Kd.R_lit k29 _ 29 ?hg (N := 111) ?hd (xs := ([] : List (S29))) (inner := []) (ok := fun _ => True) (okp := fun _ => True) ?hr ?hp (fun _ hk => hk) trivial (Below.refl _ _) (Nat.le_refl _) (by simp) ?_; (case hd => rfl); (case hg => rfl); (case hr => first | (go_simp; done) | (go_simp; rfl)); (case hp => exact (Reps.none _ _)); intro v141 w115 ho116 hb hg_ hnew_; clear hg_ hnew_; (first | rw [← Ny140.out] at ho116 | (simp only [Int.reduceToNat] at ho116; rw [← Ny140.out] at ho116)); have n0_ := Aside0.mk (Kd.R_elder' (by (with_reducible repeat (first | apply Kd.R_alloc | apply Kd.R_drewN | apply Kd.R_drew)); exact HO135.out) (Kd.R_base ho116) hb); have n1_ := Aside0.mk (Kd.R_lower (Kd.R_new' ho116 (Kd.R_lt (by (with_reducible repeat (first | apply Kd.R_alloc | apply Kd.R_drewN | apply Kd.R_drew)); exact HO135.out))) (below_size (by repeat (first | (with_reducible first | exact HB.out | apply below_alloc | apply pw_below_drewN | apply below_drew1) | exact HB.out)))); have n2_ := Aside0.mk (below_step (by repeat (first | (with_reducible first | exact HB.out | apply below_alloc | apply pw_below_drewN | apply below_drew1) | exact HB.out)) hb); clear HO135; clear HB; have HO135 := n0_; have HO142 := n1_; have HB := n2_; clear n0_ n1_ n2_; clear hb ho116; have q117 : (t123 : Int) ≤ ((l0.length : Int) : Int) := of_decide_eq_true (by first | (with_reducible assumption) | assumption); obtain ⟨i0117, hi0117, _, hsz117, _⟩ := info_parts info29; have hroom117 : l0.length ≤ c0 := HC0.out; have hC117 : Kd.C k29 _ A0 l0.length l0 := HR0.out; have hcut117 := cut_to (P := Try.prog) 32 29 .i64 Try.underlying32 hi0117 A0 l0.length c0 t123 (of_decide_eq_true (by first | (with_reducible assumption) | assumption)) q117 hroom117; have hr117 := Kd.C_take (m := (t123 : Int).toNat) hC117 (by omega); have hy117 : y129.length = (t123 : Int).toNat := (by rw [Ny129.out, List.length_take]; omega); rw [← Ny129.out] at hr117; rw [← hy117] at hcut117; have HR146 := Aside0.mk hr117; have HC146 := Aside0.mk (show y129.length ≤ c0 from by omega); clear hr117 hC117 hroom117 hi0117 hsz117; have KY117 := Aside0.mk hy117; clear hy117; replace q117 := eq_true q117) | ((with_reducible refine gate_builtin (b := .append) (xs := #[.tmp 111, .tmp 114]) rfl ?_); (try (refine gate_guard (by rfl) ?_; dsimp only)); at_builtin; refine Kd.R_append_rows k29 (w0 := w) w.heap.size rfl (.tmp 111) (.tmp 114) 32 29 (.agg #[(.int .i64 0), (.int .i64 0), (.int .i64 0), (.int .i64 0)]) 32 rfl Try.underlying32 info29 rfl (by decide) (by omega) v141 y140 y129 _ _ _ (fun k_ => some k_ ≠ (.slice Ao112 y133.length co112 : Value).ownBlock) (fun _ => False) rfl rfl ?aO ?aR (fun _ _ h => h) (fun _ h => h.elim) ?aF ?aB ?aS ?aL ?_; (case aR => repeat (first | exact (Kd.C_below HR146.out HB.out) | (with_reducible refine Kd.C_alloc ?_ _) | (with_reducible refine Kd.C_drewN ?_ _) | (with_reducible refine Kd.C_drew ?_))); (case aB => exact (by repeat (first | (with_reducible first | exact HB.out | apply below_alloc | apply pw_below_drewN | apply below_drew1) | exact HB.out))); (case aF => exact (fun k_ hk => Kd.fresh' (Kd.R_lt (by (with_reducible repeat (first | apply Kd.R_alloc | apply Kd.R_drewN | apply Kd.R_drew)); exact HO135.out)) k_ hk)); (case aO => exact (by (with_reducible repeat (first | apply Kd.R_alloc | apply Kd.R_drewN | apply Kd.R_drew)); exact Kd.R_mono HO142.out (fun _ hk => hk.2))); (case aS => exact (below_size (by repeat (first | (with_reducible first | exact HB.out | apply below_alloc | apply pw_below_drewN | apply below_drew1) | exact HB.out)))); (case aL => have := LMc45.out; omega); intro v148 w118 ho hb hg hat; rw [← Ny147.out] at ho; have n0_ := Aside0.mk (Kd.R_after (ok := (fun _ => True)) (by (with_reducible repeat (first | apply Kd.R_alloc | apply Kd.R_drewN | apply Kd.R_drew)); exact HO135.out) hg hat); have n1_ := Aside0.mk (hb); have n2_ := Aside0.mk (ho); clear HO135; clear HB; clear HO142; have HO135 := n0_; have HB := n1_; have HO149 := n2_; clear n0_ n1_ n2_; clear ho hb hg hat; obtain ⟨Ao119, co119, eo119⟩ := Kd.R_slice HO149.out; subst eo119) | ((with_reducible refine gate_callee (f := 46) rfl ?_); refine goesL_ (some 119) rfl rfl Try.func46 (by kernel_rfl) rfl #[.slice Ao119 y147.length co119, .int .i64 a2, .int .i64 a3, .int .i64 a4] rfl (by (try simp only [List.map_toArray, List.map_cons, List.map_nil]); first | done | rfl | (simp only [List.length_drop, List.length_take]; rfl)) ?_; (with_reducible refine (book_Total.calls _ _ y147 a2 a3 a4 t150 t151 _ ?side1 ?side2 A46.out).mono ?_); (case side1 => repeat (first | exact (Kd.R_reads' HO149.out).2.2 | (with_reducible refine Kd.C_alloc ?_ _) | (with_reducible refine Kd.C_drewN ?_ _) | (with_reducible refine Kd.C_drew ?_))); (case side2 => exact (Kd.R_reads' HO149.out).2.1); rintro e w120 ⟨rfl, hb⟩; refine ⟨_, rfl, ?_⟩; have n0_ := Aside0.mk (Kd.R_below (by (with_reducible repeat (first | apply Kd.R_alloc | apply Kd.R_drewN | apply Kd.R_drew)); exact HO135.out) hb); have n1_ := Aside0.mk (Kd.R_below (by (with_reducible repeat (first | apply Kd.R_alloc | apply Kd.R_drewN | apply Kd.R_drew)); exact HO149.out) hb); have n2_ := Aside0.mk (below_step (by repeat (first | (with_reducible first | exact HB.out | apply below_alloc | apply pw_below_drewN | apply below_drew1) | exact HB.out)) hb); clear HO135; clear HO149; clear HB; have HO135 := n0_; have HO149 := n1_; have HB := n2_; clear n0_ n1_ n2_; (try clear hb); (try clear hb2); (try clear hk); (try clear hi)) | ((with_reducible refine gate_callee (f := 22) rfl ?_); refine goesL_ (some 122) rfl rfl Try.func22 (by kernel_rfl) rfl #[] rfl (by (try simp only [List.map_toArray, List.map_cons, List.map_nil]); first | done | rfl | (simp only [List.length_drop, List.length_take]; rfl)) ?_; (with_reducible refine (calxlaw08_sanity.calls  false _ A47.out).mono ?_); rintro e w121 ⟨rfl, hb⟩; refine ⟨_, rfl, ?_⟩; have n0_ := Aside0.mk (Kd.R_below (by (with_reducible repeat (first | apply Kd.R_alloc | apply Kd.R_drewN | apply Kd.R_drew)); exact HO135.out) hb); have n1_ := Aside0.mk (Kd.R_below (by (with_reducible repeat (first | apply Kd.R_alloc | apply Kd.R_drewN | apply Kd.R_drew)); exact HO149.out) hb); have n2_ := Aside0.mk (below_step (by repeat (first | (with_reducible first | exact HB.out | apply below_alloc | apply pw_below_drewN | apply below_drew1) | exact HB.out)) hb); clear HO135; clear HO149; clear HB; have HO135 := n0_; have HO149 := n1_; have HB := n2_; clear n0_ n1_ n2_; (try clear hb); (try clear hb2); (try clear hk); (try clear hi)))
                                      go_ret
                                      exact ⟨by first | rfl | (simp [errW_none, errW_some] <;> rfl) | (simp only [← hji11]; first | rfl | (simp [errW_none, errW_some] <;> rfl)) | (simp [*, errW_none, errW_some] <;> rfl), by repeat (first | (with_reducible first | exact HB.out | apply below_alloc | apply pw_below_drewN | apply below_drew1) | exact HB.out)⟩
                                  · rw [if_neg c45] at H
                                    exact absurd H (by simp)
                                · rw [if_neg c40] at H
                                  exact absurd H (by simp)
                              · rw [if_neg c39] at H
                                exact absurd H (by simp)
                            · rw [if_neg c38] at H
                              exact absurd H (by simp)
                    · rw [if_neg c33] at H
                      have c33b0 : (t124 == 0) = false := beq_eq_false_iff_ne.mpr c33
                      have c33b1 : (t124 != 0) = true := bne_iff_ne.mpr c33
                      replace H := Option.bind_eq_some_iff.mp H
                      obtain ⟨t125, A1220, H⟩ := H
                      replace H : (some t125) = some r := H
                      have A122 := Aside0.mk A1220
                      clear A1220
                      obtain rfl := Option.some.inj H
                      go_wp2_with (first | ((with_reducible refine gate_callee (f := 44) rfl ?_); refine goesL_ (some 78) rfl rfl Try.func44 (by kernel_rfl) rfl #[.slice A0 l0.length c0, .int .i64 a4] rfl (by (try simp only [List.map_toArray, List.map_cons, List.map_nil]); first | done | rfl | (simp only [List.length_drop, List.length_take]; rfl)) ?_; (with_reducible refine (book_Known.calls _ _ l0 a4 t123 t124 _ ?side1 ?side2 A32.out).mono ?_); (case side1 => repeat (first | exact (Kd.C_below HR0.out HB.out) | (with_reducible refine Kd.C_alloc ?_ _) | (with_reducible refine Kd.C_drewN ?_ _) | (with_reducible refine Kd.C_drew ?_))); (case side2 => exact HC0.out); rintro e w123 ⟨rfl, hb⟩; refine ⟨_, rfl, ?_⟩; have n0_ := Aside0.mk (below_step (by repeat (first | (with_reducible first | exact HB.out | apply below_alloc | apply pw_below_drewN | apply below_drew1) | exact HB.out)) hb); clear HB; have HB := n0_; clear n0_; (try clear hb); (try clear hb2); (try clear hk); (try clear hi)) | ((with_reducible refine gate_callee (f := 22) rfl ?_); refine goesL_ (some 83) rfl rfl Try.func22 (by kernel_rfl) rfl #[] rfl (by (try simp only [List.map_toArray, List.map_cons, List.map_nil]); first | done | rfl | (simp only [List.length_drop, List.length_take]; rfl)) ?_; (with_reducible refine (calxlaw08_sanity.calls  t125 _ A122.out).mono ?_); rintro e w124 ⟨rfl, hb⟩; refine ⟨_, rfl, ?_⟩; have n0_ := Aside0.mk (below_step (by repeat (first | (with_reducible first | exact HB.out | apply below_alloc | apply pw_below_drewN | apply below_drew1) | exact HB.out)) hb); clear HB; have HB := n0_; clear n0_; (try clear hb); (try clear hb2); (try clear hk); (try clear hi)))
                      go_ret
                      exact ⟨by first | rfl | (simp [errW_none, errW_some] <;> rfl) | (simp only [← hji11]; first | rfl | (simp [errW_none, errW_some] <;> rfl)) | (simp [*, errW_none, errW_some] <;> rfl), by repeat (first | (with_reducible first | exact HB.out | apply below_alloc | apply pw_below_drewN | apply below_drew1) | exact HB.out)⟩
            · rw [if_neg c14] at H
              exact absurd H (by simp)
          · rw [if_neg c13] at H
            exact absurd H (by simp)
        · rw [if_neg c12] at H
          exact absurd H (by simp)
    · rw [if_neg c9] at H
      have c9b0 : (t104 == 0) = false := beq_eq_false_iff_ne.mpr c9
      have c9b1 : (t104 != 0) = true := bne_iff_ne.mpr c9
      replace H := Option.bind_eq_some_iff.mp H
      obtain ⟨t105, A1250, H⟩ := H
      replace H : (some t105) = some r := H
      have A125 := Aside0.mk A1250
      clear A1250
      obtain rfl := Option.some.inj H
      go_enter Try.func17, Try.ntmps17
      go_wp2_with (first | ((with_reducible refine gate_callee (f := 27) rfl ?_); refine goesL_ (some 27) rfl rfl Try.func27 (by kernel_rfl) rfl #[.slice A0 l0.length c0] rfl (by (try simp only [List.map_toArray, List.map_cons, List.map_nil]); first | done | rfl | (simp only [List.length_drop, List.length_take]; rfl)) ?_; (with_reducible refine (calxlaw08_few.calls _ _ l0 true _ ?side1 ?side2 A6.out).mono ?_); (case side1 => repeat (first | exact HR0.out | (with_reducible refine Kd.C_alloc ?_ _) | (with_reducible refine Kd.C_drewN ?_ _) | (with_reducible refine Kd.C_drew ?_))); (case side2 => exact HC0.out); rintro e w' ⟨rfl, ⟨nd, rfl⟩⟩; refine ⟨_, rfl, ?_⟩) | ((with_reducible refine gate_callee (f := 32) rfl ?_); refine goesL_ (some 32) rfl rfl Try.func32 (by kernel_rfl) rfl #[.slice A0 l0.length c0] rfl (by (try simp only [List.map_toArray, List.map_cons, List.map_nil]); first | done | rfl | (simp only [List.length_drop, List.length_take]; rfl)) ?_; (with_reducible refine (book_Root.calls _ _ l0 t103 t104 _ ?side1 ?side2 A8.out).mono ?_); (case side1 => repeat (first | exact HR0.out | (with_reducible refine Kd.C_alloc ?_ _) | (with_reducible refine Kd.C_drewN ?_ _) | (with_reducible refine Kd.C_drew ?_))); (case side2 => exact HC0.out); rintro e w126 ⟨rfl, hb⟩; refine ⟨_, rfl, ?_⟩; have n0_ := Aside0.mk (below_step (by repeat (first | (with_reducible first | exact HB.out | apply below_alloc | apply pw_below_drewN | apply below_drew1) | exact HB.out)) hb); clear HB; have HB := n0_; clear n0_; (try clear hb); (try clear hb2); (try clear hk); (try clear hi)) | ((with_reducible refine gate_callee (f := 22) rfl ?_); refine goesL_ (some 37) rfl rfl Try.func22 (by kernel_rfl) rfl #[] rfl (by (try simp only [List.map_toArray, List.map_cons, List.map_nil]); first | done | rfl | (simp only [List.length_drop, List.length_take]; rfl)) ?_; (with_reducible refine (calxlaw08_sanity.calls  t105 _ A125.out).mono ?_); rintro e w127 ⟨rfl, hb⟩; refine ⟨_, rfl, ?_⟩; have n0_ := Aside0.mk (below_step (by repeat (first | (with_reducible first | exact HB.out | apply below_alloc | apply pw_below_drewN | apply below_drew1) | exact HB.out)) hb); clear HB; have HB := n0_; clear n0_; (try clear hb); (try clear hb2); (try clear hk); (try clear hi)))
      go_ret
      exact ⟨by first | rfl | (simp [errW_none, errW_some] <;> rfl) | (simp [*, errW_none, errW_some] <;> rfl), by repeat (first | (with_reducible first | exact HB.out | apply below_alloc | apply pw_below_drewN | apply below_drew1) | exact HB.out)⟩
  · replace c7 := Bool.eq_false_iff.mpr c7
    subst c7
    have H1 : ((calxlaw08_sanity.f).bind fun t102 => (some t102)) = some r := by rw [if_neg (show ¬ (false = true) by decide)] at H; exact H
    clear H
    have H := H1
    clear H1
    replace H := Option.bind_eq_some_iff.mp H
    obtain ⟨t102, A1280, H⟩ := H
    replace H : (some t102) = some r := H
    have A128 := Aside0.mk A1280
    clear A1280
    obtain rfl := Option.some.inj H
    go_enter Try.func17, Try.ntmps17
    go_wp2_with (first | ((with_reducible refine gate_callee (f := 27) rfl ?_); refine goesL_ (some 27) rfl rfl Try.func27 (by kernel_rfl) rfl #[.slice A0 l0.length c0] rfl (by (try simp only [List.map_toArray, List.map_cons, List.map_nil]); first | done | rfl | (simp only [List.length_drop, List.length_take]; rfl)) ?_; (with_reducible refine (calxlaw08_few.calls _ _ l0 false _ ?side1 ?side2 A6.out).mono ?_); (case side1 => repeat (first | exact HR0.out | (with_reducible refine Kd.C_alloc ?_ _) | (with_reducible refine Kd.C_drewN ?_ _) | (with_reducible refine Kd.C_drew ?_))); (case side2 => exact HC0.out); rintro e w' ⟨rfl, ⟨nd, rfl⟩⟩; refine ⟨_, rfl, ?_⟩) | ((with_reducible refine gate_callee (f := 22) rfl ?_); refine goesL_ (some 29) rfl rfl Try.func22 (by kernel_rfl) rfl #[] rfl (by (try simp only [List.map_toArray, List.map_cons, List.map_nil]); first | done | rfl | (simp only [List.length_drop, List.length_take]; rfl)) ?_; (with_reducible refine (calxlaw08_sanity.calls  t102 _ A128.out).mono ?_); rintro e w129 ⟨rfl, hb⟩; refine ⟨_, rfl, ?_⟩; have n0_ := Aside0.mk (below_step (by repeat (first | (with_reducible first | exact HB.out | apply below_alloc | apply pw_below_drewN | apply below_drew1) | exact HB.out)) hb); clear HB; have HB := n0_; clear n0_; (try clear hb); (try clear hb2); (try clear hk); (try clear hi)))
    go_ret
    exact ⟨by first | rfl | (simp [errW_none, errW_some] <;> rfl) | (simp [*, errW_none, errW_some] <;> rfl), by repeat (first | (with_reducible first | exact HB.out | apply below_alloc | apply pw_below_drewN | apply below_drew1) | exact HB.out)⟩
end Go.Proofs.Ytmfphlfakmnbmaa.B
end

section
namespace Go.Proofs.Ytmfphlfakmnbmaa.B
open Go.RowKit Go.Proofs.YtmfphlfakmnbmaaW.PrintWords Go.Proofs.YtmfphlfakmnbmaaW.PrintLast Go.Proofs.YtmfphlfakmnbmaaW.PrintMore
attribute [local go_sem] max2_int min2_int max_two min_two max_three min_three max_four min_four
theorem take_check {l : List S29} (hc : checkP l = 0) (n : Nat) : checkP (l.take n) = 0 := by
  have h64 := check_len hc
  have hf := follows_of (xs := l.take n) (fun x hx => check_rights hc x (List.mem_of_mem_take hx)) ((check_sorted hc).sublist (List.take_sublist _ _))
  unfold checkP
  rw [if_neg (by rw [List.length_take]; omega), if_pos hf]
theorem known_take (day : Int) : ∀ (l : List S29) (b : Int), l.Pairwise (fun x y => x.f0 ≤ y.f0) → 0 ≤ b → ∃ n : Nat, n ≤ l.length ∧ l.foldl (knownStep day) b = b + n ∧ (l.take n).foldl (knownStep day) b = b + n
  | [], b, _, _ => ⟨0, Nat.le_refl _, by simp, by simp⟩
  | x :: r, b, hs, hb => by
    rw [List.pairwise_cons] at hs
    by_cases hx : day < x.f0
    · have hall : ∀ (r : List S29), (∀ y ∈ r, day < y.f0) → ∀ b, r.foldl (knownStep day) b = b := by
        intro r
        induction r with
        | nil => intro _ b; rfl
        | cons y r ih =>
          intro h b
          rw [List.foldl_cons, show knownStep day b y = b by unfold knownStep; rw [if_pos (h y List.mem_cons_self)]]
          exact ih (fun z hz => h z (List.mem_cons_of_mem _ hz)) b
      refine ⟨0, Nat.zero_le _, ?_, by simp⟩
      rw [hall (x :: r) (fun y hy => by
        rcases List.mem_cons.1 hy with rfl | hy
        · exact hx
        · have := hs.1 y hy; omega)]
      simp
    · obtain ⟨n, h1, h2, h3⟩ := known_take day r (b + 1) hs.2 (by omega)
      refine ⟨n + 1, by rw [List.length_cons]; omega, ?_, ?_⟩
      · rw [List.foldl_cons, show knownStep day b x = b + 1 by unfold knownStep; rw [if_neg hx], h2]; push_cast; omega
      · rw [List.take_succ_cons, List.foldl_cons, show knownStep day b x = b + 1 by unfold knownStep; rw [if_neg hx], h3]; push_cast; omega
theorem tog_own {l : List S29} (h64 : l.length ≤ 64) {ts : List S164} (hin : ∀ t ∈ ts, InBook l t) : ∀ (n f g : Nat), f + g ≤ l.length → Cover ts n f g → togF n (firstOf (twigsP l ts)) f g = rootP ((l.take (f + g)).drop f) := by
  have hmap : (twigsP l ts).map placeOf = ts := placed_iff.1 (own_placed l ts)
  have hit : ∀ f g : Nat, (⟨(f : Int), (g : Int)⟩ : S164) ∈ ts → firstOf (twigsP l ts) ⟨(f : Int), (g : Int)⟩ = some (rootP ((l.take (f + g)).drop f)) := by
    intro f g h
    obtain ⟨y, h1, h2, h3⟩ := firstOf_some (p := twigsP l ts) (t := ⟨(f : Int), (g : Int)⟩) (by rw [hmap]; exact h)
    unfold twigsP at h1
    obtain ⟨t, ht, rfl⟩ := List.mem_map.1 h1
    have : t = ⟨(f : Int), (g : Int)⟩ := h2
    subst this
    rw [h3]
    show some (rootP (cutP l (f : Int) (g : Int))) = _
    unfold cutP
    rw [show ((f : Int) + (g : Int)).toNat = f + g by omega, Int.toNat_natCast]
  intro n
  induction n with
  | zero =>
    intro f g hfg h
    rw [togF, hit f g h]
  | succ n ih =>
    intro f g hfg h
    rw [togF]
    cases hd : firstOf (twigsP l ts) ⟨(f : Int), (g : Int)⟩ with
    | some d =>
      by_cases hm : (⟨(f : Int), (g : Int)⟩ : S164) ∈ ts
      · rw [hit f g hm] at hd
        exact (Option.some.inj hd).symm
      · rw [firstOf_none (by rw [hmap]; exact hm)] at hd
        cases hd
    | none =>
      rcases h with h | ⟨h2, h3, h4⟩
      · rw [hit f g h] at hd; cases hd
      · have hb := halfP_bounds (n := g) (by omega) (by omega)
        have hlen : ((l.take (f + g)).drop f).length = g := by rw [List.length_drop, List.length_take]; omega
        have hroot := rootP_cut ((l.take (f + g)).drop f) (by omega) (by omega)
        rw [hlen, cut_take2 l (by omega), cut_drop2 l (by omega)] at hroot
        dsimp only
        rw [if_neg (by omega), ih f (halfP g) (by omega) h3, ih (f + halfP g) (g - halfP g) (by omega) h4, hroot]
theorem goes_own {l : List S29} (hc : checkP l = 0) {x : Nat} (hx : x ≤ l.length) : cgP (rootP (l.take x)) (x : Int) (rootP l) (l.length : Int) (twigsP l (partedF l.length 0 l.length x)) = 0 := by
  have h64 := check_len hc
  have hin := parted_inbook h64 x
  have c1 := cover_all x l.length l.length 0 (Nat.le_refl _) h64
  unfold cgP
  rw [if_neg (fun h => h ⟨by omega, by omega⟩), if_neg (fun h => h ⟨by omega, by omega⟩), if_neg (by rw [root_isDig (take_check hc x)]; decide), if_neg (by rw [root_isDig hc]; decide), if_neg (by rw [own_digests hc]; decide), Int.toNat_natCast, Int.toNat_natCast, if_neg (by rw [own_placed]; decide), grown_ok hx h64 (own_placed l _), if_pos]
  unfold grownT
  have e1 : togF l.length (firstOf (twigsP l (partedF l.length 0 l.length x))) 0 l.length = rootP l := by
    rw [tog_own h64 hin l.length 0 l.length (by omega) c1, Nat.zero_add, List.take_length, List.drop_zero]
  rw [e1]
  by_cases h0 : 0 < x
  · have c2 : Cover (partedF l.length 0 l.length x) x 0 x := by
      have := cover_first x l.length l.length 0 x (Nat.le_refl _) h64 h0 (by omega) (by omega)
      simpa using this
    rw [if_pos h0, tog_own h64 hin x 0 x (by omega) c2, Nat.zero_add, List.drop_zero]
    simp
  · have : x = 0 := by omega
    rw [if_neg h0, this, List.take_zero, rootP_nil]
    simp
theorem pureBookGoesOn (l : List S29) (_ : l.length ≤ 9223372036854775807) (_ : ∀ x ∈ l, Wf4 x) (f : Int) (w1 : (Lit.int .u8 f).wf = true) (kind : Int) (_ : (Lit.int .i64 kind).wf = true) (who : Int) (_ : (Lit.int .i64 who).wf = true) (day : Int) (_ : (Lit.int .i64 day).wf = true) : ∃ k, calxlaw08_BookGoesOn.f k l f kind who day = some true := by
  have hf0 : 0 ≤ f ∧ f ≤ 255 := by
    have h1 : IntKind.u8.min = 0 := rfl
    have h2 : IntKind.u8.max = 255 := rfl
    have := w1
    simp [Lit.wf] at this
    omega
  refine ⟨400, ?_⟩
  have hf : ∃ t, calxlaw08_few.f l = some t := by unfold calxlaw08_few.f; split; exact ⟨_, rfl⟩; split <;> exact ⟨_, rfl⟩
  obtain ⟨t, ht⟩ := hf
  unfold calxlaw08_BookGoesOn.f
  rw [ht, Option.bind_some]
  cases t with
  | false => rfl
  | true =>
    rw [if_pos rfl, book_Root_is, Option.bind_some]
    unfold rootA
    by_cases hc : checkP l = 0
    · have h64 := check_len hc
      rw [if_pos hc]
      have e1 : wrap64 ((l.length : Int) + 1) = (l.length : Int) + 1 := by unfold wrap64; omega
      have e2 : wrap64 f = f := by unfold wrap64; omega
      obtain ⟨x, hx⟩ : ∃ x : Nat, x = (Int.tmod f ((l.length : Int) + 1)).toNat := ⟨_, rfl⟩
      have hmod : 0 ≤ Int.tmod f ((l.length : Int) + 1) ∧ Int.tmod f ((l.length : Int) + 1) < (l.length : Int) + 1 := by
        rw [Int.tmod_eq_emod_of_nonneg hf0.1]
        exact ⟨Int.emod_nonneg _ (by omega), Int.emod_lt_of_pos _ (by omega)⟩
      have tx : Int.tmod f ((l.length : Int) + 1) = (x : Int) := by omega
      have hxl : x ≤ l.length := by omega
      rw [e1, e2, tx]
      clear hx hmod tx e1 e2
      have hcx := take_check hc x
      have hgr : grownP l (x : Int) = (twigsP l (partedF l.length 0 l.length x), 0) := by
        unfold grownP
        rw [if_pos hc, if_pos (by omega), Int.toNat_natCast]
      have hj1 : ∀ (n : Nat), n ≤ l.length → knownP (l.take n) day = (n : Int) → knownP l day = (n : Int) → (0 ≤ day ∧ day ≤ 682) → ∀ k, calxlaw08_BookGoesOn.j1 (k + 1) l kind who day (n : Int) false = some true := by
        intro n hn hkn hk hd k
        simp only [calxlaw08_BookGoesOn.j1]
        have hcn := take_check hc n
        have hlen : (l.take n).length = n := by rw [List.length_take]; omega
        rw [if_neg (by decide), Option.bind_some, if_pos (by omega), if_pos (by omega), Int.toNat_natCast, Option.bind_some, List.nil_append, if_pos (by rw [hlen]; simp; omega)]
        have hknown : book_Known.f (l.take n) day = some ((n : Int), 0) := by
          unfold book_Known.f book_Check.f book_known.f
          rw [Option.bind_some, if_pos hcn, within_some, Option.bind_some, decide_eq_true hd, if_pos rfl, Option.bind_some, hkn]
        have htot : totalsP (l.take n) kind who day = totalsP l kind who day := by
          unfold totalsP
          rw [hkn, hk, if_pos hc, if_pos hcn, Int.toNat_natCast, List.take_take, Nat.min_self]
        unfold book_Total.f
        rw [hknown, Option.bind_some, Option.bind_some, Option.bind_some, Option.bind_some, if_pos (by rw [hlen]; simp; omega), Option.bind_some, List.nil_append, htot]
        show ((some true).bind fun t152 => _) = _
        rw [Option.bind_some, if_pos rfl, if_pos rfl, if_pos rfl, if_pos rfl]
        simp
      have hj0 : ∀ k, calxlaw08_BookGoesOn.j0 (k + 2) l kind who day false = some true := by
        intro k
        rw [show k + 2 = (k + 1) + 1 from rfl]
        simp only [calxlaw08_BookGoesOn.j0]
        rw [if_neg (by decide)]
        unfold book_Known.f book_Check.f book_known.f
        rw [Option.bind_some, if_pos hc, within_some, Option.bind_some]
        by_cases hd : 0 ≤ day ∧ day ≤ 682
        · obtain ⟨n, h1, h2, h3⟩ := known_take day l 0 (check_sorted hc) (by omega)
          have hk : knownP l day = (n : Int) := by unfold knownP; rw [h2]; omega
          have hkn : knownP (l.take n) day = (n : Int) := by unfold knownP; rw [h3]; omega
          rw [decide_eq_true hd, if_pos rfl, Option.bind_some, Option.bind_some, if_pos rfl, hk, if_neg (show ¬ ((n : Int) < 0) by omega), decide_eq_false (show ¬ ((n : Int) > (l.length : Int)) by omega)]
          exact hj1 n h1 hkn hk hd k
        · rw [decide_eq_false hd, if_neg (by decide), Option.bind_some, if_neg (by decide)]
          rfl
      rw [if_pos rfl, if_neg (by omega), Option.bind_some, if_pos (by omega), if_pos (by omega), Int.toNat_natCast, Option.bind_some, List.nil_append, if_pos (by rw [List.length_take]; simp; omega), book_Root_is, Option.bind_some]
      unfold rootA
      rw [if_pos hcx, book_Grown_is l (x : Int) (by omega), hgr, Option.bind_some, if_pos rfl, if_pos rfl]
      unfold book_CheckGrown.f
      rw [Option.bind_some, goes_own hc hxl]
      exact hj0 398
    · rw [if_neg hc]
      show (if checkP l = 0 then _ else _) = _
      rw [if_neg hc]
      rfl
end Go.Proofs.Ytmfphlfakmnbmaa.B
end
