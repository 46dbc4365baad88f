import Derived.Test.YtmfphlfakmnbmaaQ1
import Derived.Test.YtmfphlfakmnbmaaQ2
import Derived.Test.YtmfphlfakmnbmaaQ3
import Derived.Test.YtmfphlfakmnbmaaQ4
set_option linter.unusedVariables false
set_option linter.unusedSimpArgs false
section
namespace Go.Proofs.Ytmfphlfakmnbmaa.B
open Go.RowKit Go.Proofs.YtmfphlfakmnbmaaW.PrintWords Go.Proofs.YtmfphlfakmnbmaaW.PrintLast Go.Proofs.YtmfphlfakmnbmaaW.PrintMore
attribute [local go_sem] max2_int min2_int max_two min_two max_three min_three max_four min_four
def calxlaw08_sanity.f : Option Bool := some true
def R22_17.T : Bool × List (List Nat × List Nat) := (true, [([], []), ([0], [0]), ([1], [1]), ([], []), ([3], [3]), ([4], [4]), ([2, 5], [2, 5]), ([6], [6]), ([7], [7]), ([8], [8]), ([8], [8]), ([9, 7, 0, 1, 2, 3, 4, 5, 6, 7, 8, 9], [9]), ([10, 11, 0, 1, 2, 3, 4, 5, 6, 7, 8, 9, 10, 11], [10])])
def R22_17.B : List Nat := [0, 1, 3, 0, 8, 24, 63, 127, 255, 511, 511, 1023, 4095]
theorem R22_17.tab : rtab .any (opsOf Try.f22 17) = R22_17.T := by kernel_rfl
theorem R22_17.bits : waitsOk R22_17.T.2 R22_17.B = true := by kernel_rfl
def R22_20.T : Bool × List (List Nat × List Nat) := (true, [([], []), ([], []), ([1], [1]), ([], []), ([3], []), ([3, 4], [3, 4]), ([0, 2, 5], [0, 2, 5]), ([6, 4], [6]), ([7], [7]), ([8], [8]), ([8], [8]), ([9, 7, 0, 1, 2, 3, 4, 5, 6, 7, 8, 9], [9]), ([10, 11, 0, 1, 2, 3, 4, 5, 6, 7, 8, 9, 10, 11], [10])])
def R22_20.B : List Nat := [0, 0, 2, 0, 8, 24, 63, 127, 255, 511, 511, 1023, 4095]
theorem R22_20.tab : rtab .any (opsOf Try.f22 20) = R22_20.T := by kernel_rfl
theorem R22_20.bits : waitsOk R22_20.T.2 R22_20.B = true := by kernel_rfl
set_option maxRecDepth 100000 in
set_option maxHeartbeats 4000000 in
theorem calxlaw08_sanity.calls (r : Bool) (w : World) (h : calxlaw08_sanity.f = some r) : Calls Try.prog 22 #[] w fun e w' => e = .returned (.bool r) ∧ Below w.heap.size w w' := by
  obtain rfl := Option.some.inj h
  clear h
  have hu29 := Try.underlying29
  have hu34 := Try.underlying34
  have hu39 := Try.underlying39
  have hu129 := Try.underlying129
  have hn := run_not'
  have B0 := Aside0.mk (Below.refl w.heap.size w)
  go_enter Try.func22, Try.ntmps22
  go_wp2_with fail
  refine (calxlaw08_A.calls 1 0 5 10 _ rfl).mono ?_
  rintro e u1 ⟨rfl, hd⟩
  have B1 := Aside0.mk (below_step (by repeat (first | exact B0.out | apply below_alloc | apply pw_below_drewN | apply below_drew1)) hd)
  clear hd B0 
  go_wp2_with fail
  refine (calxlaw08_B.calls 1 1 5 4 _ rfl).mono ?_
  rintro e u2 ⟨rfl, hd⟩
  have B2 := Aside0.mk (below_step (by repeat (first | exact B1.out | apply below_alloc | apply pw_below_drewN | apply below_drew1)) hd)
  clear hd B1 
  go_wp2_with fail
  refine (calxlaw08_C.calls 3 0 6 7 _ rfl).mono ?_
  rintro e u3 ⟨rfl, hd⟩
  have B3 := Aside0.mk (below_step (by repeat (first | exact B2.out | apply below_alloc | apply pw_below_drewN | apply below_drew1)) hd)
  clear hd B2 
  have l_0 := Aside0.mk (show Kd.C k29 (u3.alloc (.cells #[.int .i64 1, .int .i64 0, .int .i64 5, .int .i64 10, .int .i64 1, .int .i64 1, .int .i64 5, .int .i64 4, .int .i64 3, .int .i64 0, .int .i64 6, .int .i64 7] 29)) (some ⟨u3.heap.size, 0, none⟩) l3.length l3 from C_block (inner := [.int .i64 1, .int .i64 0, .int .i64 5, .int .i64 10, .int .i64 1, .int .i64 1, .int .i64 5, .int .i64 4, .int .i64 3, .int .i64 0, .int .i64 6, .int .i64 7]) (Reps.front (k29_mk _ eA) rfl (Reps.front (k29_mk _ eB) rfl (Reps.front (k29_mk _ eC) rfl (Reps.none _ _) rfl) rfl) rfl) (blk_new' _ _ _ rfl) (by decide))
  go_wp2_with fail
  refine (book_Digest.calls (some ⟨u3.heap.size + 1, 0, none⟩) 1 [2] _ _ _ (C_intsBlock [2] (blk_new' _ _ _ (by simp)) (by decide)) (by decide) sanD).mono ?_
  rintro e u4 ⟨rfl, nq, rfl⟩
  go_wp2_with fail
  refine (book_Root.calls _ 3 l3 _ _ _ (by repeat (first | exact l_0.out | apply Kd.C_alloc | apply Kd.C_drewN | apply Kd.C_drew)) (by decide) sanR).mono ?_
  rintro e u5 ⟨rfl, hd⟩
  have B4 := Aside0.mk (below_step (by repeat (first | exact B3.out | apply below_alloc | apply pw_below_drewN | apply below_drew1)) hd)
  have l_4 := Aside0.mk (show Kd.C k29 u5 (some ⟨u3.heap.size, 0, none⟩) l3.length l3 from Kd.C_below (by repeat (first | exact l_0.out | apply Kd.C_alloc | apply Kd.C_drewN | apply Kd.C_drew)) hd)
  clear hd B3 l_0
  go_wp2_with fail
  refine (calxlaw08_A.calls 1 0 5 10 _ rfl).mono ?_
  rintro e u6 ⟨rfl, hd⟩
  have B5 := Aside0.mk (below_step (by repeat (first | exact B4.out | apply below_alloc | apply pw_below_drewN | apply below_drew1)) hd)
  have l_5 := Aside0.mk (show Kd.C k29 u6 (some ⟨u3.heap.size, 0, none⟩) l3.length l3 from Kd.C_below (by repeat (first | exact l_4.out | apply Kd.C_alloc | apply Kd.C_drewN | apply Kd.C_drew)) hd)
  clear hd B4 l_4
  go_wp2_with fail
  refine (book_Leaf.calls 1 0 5 10 _ _ _ sanA).mono ?_
  rintro e u7 ⟨rfl, hd⟩
  have B6 := Aside0.mk (below_step (by repeat (first | exact B5.out | apply below_alloc | apply pw_below_drewN | apply below_drew1)) hd)
  have l_6 := Aside0.mk (show Kd.C k29 u7 (some ⟨u3.heap.size, 0, none⟩) l3.length l3 from Kd.C_below (by repeat (first | exact l_5.out | apply Kd.C_alloc | apply Kd.C_drewN | apply Kd.C_drew)) hd)
  clear hd B5 l_5
  go_wp2_with fail
  refine (calxlaw08_B.calls 1 1 5 4 _ rfl).mono ?_
  rintro e u8 ⟨rfl, hd⟩
  have B7 := Aside0.mk (below_step (by repeat (first | exact B6.out | apply below_alloc | apply pw_below_drewN | apply below_drew1)) hd)
  have l_7 := Aside0.mk (show Kd.C k29 u8 (some ⟨u3.heap.size, 0, none⟩) l3.length l3 from Kd.C_below (by repeat (first | exact l_6.out | apply Kd.C_alloc | apply Kd.C_drewN | apply Kd.C_drew)) hd)
  clear hd B6 l_6
  go_wp2_with fail
  refine (book_Leaf.calls 1 1 5 4 _ _ _ sanB).mono ?_
  rintro e u9 ⟨rfl, hd⟩
  have B8 := Aside0.mk (below_step (by repeat (first | exact B7.out | apply below_alloc | apply pw_below_drewN | apply below_drew1)) hd)
  have l_8 := Aside0.mk (show Kd.C k29 u9 (some ⟨u3.heap.size, 0, none⟩) l3.length l3 from Kd.C_below (by repeat (first | exact l_7.out | apply Kd.C_alloc | apply Kd.C_drewN | apply Kd.C_drew)) hd)
  clear hd B7 l_7
  go_wp2_with fail
  refine (calxlaw08_C.calls 3 0 6 7 _ rfl).mono ?_
  rintro e u10 ⟨rfl, hd⟩
  have B9 := Aside0.mk (below_step (by repeat (first | exact B8.out | apply below_alloc | apply pw_below_drewN | apply below_drew1)) hd)
  have l_9 := Aside0.mk (show Kd.C k29 u10 (some ⟨u3.heap.size, 0, none⟩) l3.length l3 from Kd.C_below (by repeat (first | exact l_8.out | apply Kd.C_alloc | apply Kd.C_drewN | apply Kd.C_drew)) hd)
  clear hd B8 l_8
  go_wp2_with fail
  refine (book_Leaf.calls 3 0 6 7 _ _ _ sanC).mono ?_
  rintro e u11 ⟨rfl, hd⟩
  have B10 := Aside0.mk (below_step (by repeat (first | exact B9.out | apply below_alloc | apply pw_below_drewN | apply below_drew1)) hd)
  have l_10 := Aside0.mk (show Kd.C k29 u11 (some ⟨u3.heap.size, 0, none⟩) l3.length l3 from Kd.C_below (by repeat (first | exact l_9.out | apply Kd.C_alloc | apply Kd.C_drewN | apply Kd.C_drew)) hd)
  clear hd B9 l_9
  go_wp2_with fail
  refine (book_Node.calls _ _ _ _ _ _ sanN2).mono ?_
  rintro e u12 ⟨rfl, hd⟩
  have B11 := Aside0.mk (below_step (by repeat (first | exact B10.out | apply below_alloc | apply pw_below_drewN | apply below_drew1)) hd)
  have l_11 := Aside0.mk (show Kd.C k29 u12 (some ⟨u3.heap.size, 0, none⟩) l3.length l3 from Kd.C_below (by repeat (first | exact l_10.out | apply Kd.C_alloc | apply Kd.C_drewN | apply Kd.C_drew)) hd)
  clear hd B10 l_10
  go_wp2_with fail
  refine (book_Node.calls _ _ _ _ _ _ sanN3).mono ?_
  rintro e u13 ⟨rfl, hd⟩
  have B12 := Aside0.mk (below_step (by repeat (first | exact B11.out | apply below_alloc | apply pw_below_drewN | apply below_drew1)) hd)
  have l_12 := Aside0.mk (show Kd.C k29 u13 (some ⟨u3.heap.size, 0, none⟩) l3.length l3 from Kd.C_below (by repeat (first | exact l_11.out | apply Kd.C_alloc | apply Kd.C_drewN | apply Kd.C_drew)) hd)
  clear hd B11 l_11
  go_wp2_with fail
  refine (book_Stands.calls 10 _ 3 l3 _ _ _ _ (by repeat (first | exact l_12.out | apply Kd.C_alloc | apply Kd.C_drewN | apply Kd.C_drew)) (by decide) sanS).mono ?_
  rintro e u14 ⟨v0, rfl, hr, hd⟩
  have B13 := Aside0.mk (below_step (by repeat (first | exact B12.out | apply below_alloc | apply pw_below_drewN | apply below_drew1)) hd)
  have l_13 := Aside0.mk (show Kd.C k29 u14 (some ⟨u3.heap.size, 0, none⟩) l3.length l3 from Kd.C_below (by repeat (first | exact l_12.out | apply Kd.C_alloc | apply Kd.C_drewN | apply Kd.C_drew)) hd)
  clear hd B12 l_12
  obtain ⟨gp, cp, rfl, _, _, _⟩ := Kd.R_form hr (by decide)
  have Cp : Kd.C k129 u14 (some ⟨gp, 0, none⟩) tS.length tS ∧ tS.length ≤ cp := by
    obtain ⟨_, _, e_, h1_, h_⟩ := Kd.R_reads hr
    injection e_ with e1 _ e3
    rw [e1, e3]
    exact ⟨h_, h1_⟩
  have p_0 := Aside0.mk Cp.1
  have Lp := Aside0.mk Cp.2
  clear Cp hr
  go_wp2_with fail
  refine (book_Grown.calls 10 _ 3 l3 _ _ _ _ (by repeat (first | exact l_13.out | apply Kd.C_alloc | apply Kd.C_drewN | apply Kd.C_drew)) (by decide) sanG2).mono ?_
  rintro e u15 ⟨v0, rfl, hr, hd⟩
  have B14 := Aside0.mk (below_step (by repeat (first | exact B13.out | apply below_alloc | apply pw_below_drewN | apply below_drew1)) hd)
  have l_14 := Aside0.mk (show Kd.C k29 u15 (some ⟨u3.heap.size, 0, none⟩) l3.length l3 from Kd.C_below (by repeat (first | exact l_13.out | apply Kd.C_alloc | apply Kd.C_drewN | apply Kd.C_drew)) hd)
  have p_14 := Aside0.mk (show Kd.C k129 u15 (some ⟨gp, 0, none⟩) tS.length tS from Kd.C_below (by repeat (first | exact p_0.out | apply Kd.C_alloc | apply Kd.C_drewN | apply Kd.C_drew)) hd)
  clear hd B13 l_13 p_0
  obtain ⟨gq, cq, rfl, _, _, _⟩ := Kd.R_form hr (by decide)
  have Cq : Kd.C k129 u15 (some ⟨gq, 0, none⟩) tG2.length tG2 ∧ tG2.length ≤ cq := by
    obtain ⟨_, _, e_, h1_, h_⟩ := Kd.R_reads hr
    injection e_ with e1 _ e3
    rw [e1, e3]
    exact ⟨h_, h1_⟩
  have q_0 := Aside0.mk Cq.1
  have Lq := Aside0.mk Cq.2
  clear Cq hr
  go_wp2_with fail
  refine (book_Grown.calls 10 _ 3 l3 _ _ _ _ (by repeat (first | exact l_14.out | apply Kd.C_alloc | apply Kd.C_drewN | apply Kd.C_drew)) (by decide) sanG1).mono ?_
  rintro e u16 ⟨v0, rfl, hr, hd⟩
  have B15 := Aside0.mk (below_step (by repeat (first | exact B14.out | apply below_alloc | apply pw_below_drewN | apply below_drew1)) hd)
  have l_15 := Aside0.mk (show Kd.C k29 u16 (some ⟨u3.heap.size, 0, none⟩) l3.length l3 from Kd.C_below (by repeat (first | exact l_14.out | apply Kd.C_alloc | apply Kd.C_drewN | apply Kd.C_drew)) hd)
  have p_15 := Aside0.mk (show Kd.C k129 u16 (some ⟨gp, 0, none⟩) tS.length tS from Kd.C_below (by repeat (first | exact p_14.out | apply Kd.C_alloc | apply Kd.C_drewN | apply Kd.C_drew)) hd)
  have q_15 := Aside0.mk (show Kd.C k129 u16 (some ⟨gq, 0, none⟩) tG2.length tG2 from Kd.C_below (by repeat (first | exact q_0.out | apply Kd.C_alloc | apply Kd.C_drewN | apply Kd.C_drew)) hd)
  clear hd B14 l_14 p_14 q_0
  obtain ⟨gs, cs, rfl, _, _, _⟩ := Kd.R_form hr (by decide)
  have Cs : Kd.C k129 u16 (some ⟨gs, 0, none⟩) tG1.length tG1 ∧ tG1.length ≤ cs := by
    obtain ⟨_, _, e_, h1_, h_⟩ := Kd.R_reads hr
    injection e_ with e1 _ e3
    rw [e1, e3]
    exact ⟨h_, h1_⟩
  have s_0 := Aside0.mk Cs.1
  have Ls := Aside0.mk Cs.2
  clear Cs hr
  go_wp2_with fail
  refine (calxlaw08_A.calls 1 0 5 10 _ rfl).mono ?_
  rintro e u17 ⟨rfl, hd⟩
  have B16 := Aside0.mk (below_step (by repeat (first | exact B15.out | apply below_alloc | apply pw_below_drewN | apply below_drew1)) hd)
  have l_16 := Aside0.mk (show Kd.C k29 u17 (some ⟨u3.heap.size, 0, none⟩) l3.length l3 from Kd.C_below (by repeat (first | exact l_15.out | apply Kd.C_alloc | apply Kd.C_drewN | apply Kd.C_drew)) hd)
  have p_16 := Aside0.mk (show Kd.C k129 u17 (some ⟨gp, 0, none⟩) tS.length tS from Kd.C_below (by repeat (first | exact p_15.out | apply Kd.C_alloc | apply Kd.C_drewN | apply Kd.C_drew)) hd)
  have q_16 := Aside0.mk (show Kd.C k129 u17 (some ⟨gq, 0, none⟩) tG2.length tG2 from Kd.C_below (by repeat (first | exact q_15.out | apply Kd.C_alloc | apply Kd.C_drewN | apply Kd.C_drew)) hd)
  have s_16 := Aside0.mk (show Kd.C k129 u17 (some ⟨gs, 0, none⟩) tG1.length tG1 from Kd.C_below (by repeat (first | exact s_0.out | apply Kd.C_alloc | apply Kd.C_drewN | apply Kd.C_drew)) hd)
  clear hd B15 l_15 p_15 q_15 s_0
  go_wp2_with fail
  refine (calxlaw08_C.calls 3 0 6 7 _ rfl).mono ?_
  rintro e u18 ⟨rfl, hd⟩
  have B17 := Aside0.mk (below_step (by repeat (first | exact B16.out | apply below_alloc | apply pw_below_drewN | apply below_drew1)) hd)
  have l_17 := Aside0.mk (show Kd.C k29 u18 (some ⟨u3.heap.size, 0, none⟩) l3.length l3 from Kd.C_below (by repeat (first | exact l_16.out | apply Kd.C_alloc | apply Kd.C_drewN | apply Kd.C_drew)) hd)
  have p_17 := Aside0.mk (show Kd.C k129 u18 (some ⟨gp, 0, none⟩) tS.length tS from Kd.C_below (by repeat (first | exact p_16.out | apply Kd.C_alloc | apply Kd.C_drewN | apply Kd.C_drew)) hd)
  have q_17 := Aside0.mk (show Kd.C k129 u18 (some ⟨gq, 0, none⟩) tG2.length tG2 from Kd.C_below (by repeat (first | exact q_16.out | apply Kd.C_alloc | apply Kd.C_drewN | apply Kd.C_drew)) hd)
  have s_17 := Aside0.mk (show Kd.C k129 u18 (some ⟨gs, 0, none⟩) tG1.length tG1 from Kd.C_below (by repeat (first | exact s_16.out | apply Kd.C_alloc | apply Kd.C_drewN | apply Kd.C_drew)) hd)
  clear hd B16 l_16 p_16 q_16 s_16
  have m_0 := Aside0.mk (show Kd.C k29 (u18.alloc (.cells #[.int .i64 1, .int .i64 0, .int .i64 5, .int .i64 10, .int .i64 3, .int .i64 0, .int .i64 6, .int .i64 7] 29)) (some ⟨u18.heap.size, 0, none⟩) 2 [eA, eC] from C_block (inner := [.int .i64 1, .int .i64 0, .int .i64 5, .int .i64 10, .int .i64 3, .int .i64 0, .int .i64 6, .int .i64 7]) (Reps.front (k29_mk _ eA) rfl (Reps.front (k29_mk _ eC) rfl (Reps.none _ _) rfl) rfl) (blk_new' _ _ _ rfl) (by decide))
  go_wp2_with fail
  refine (book_Fork.calls _ 3 l3 _ 2 [eA, eC] _ _ _ _ _ _ (by repeat (first | exact l_17.out | apply Kd.C_alloc | apply Kd.C_drewN | apply Kd.C_drew)) (by decide) m_0.out (by decide) sanF).mono ?_
  rintro e u19 ⟨v1, v2, rfl, hr1, hr2, hd⟩
  clear m_0
  have B18 := Aside0.mk (below_step (by repeat (first | exact B17.out | apply below_alloc | apply pw_below_drewN | apply below_drew1)) hd)
  have l_18 := Aside0.mk (show Kd.C k29 u19 (some ⟨u3.heap.size, 0, none⟩) l3.length l3 from Kd.C_below (by repeat (first | exact l_17.out | apply Kd.C_alloc | apply Kd.C_drewN | apply Kd.C_drew)) hd)
  have p_18 := Aside0.mk (show Kd.C k129 u19 (some ⟨gp, 0, none⟩) tS.length tS from Kd.C_below (by repeat (first | exact p_17.out | apply Kd.C_alloc | apply Kd.C_drewN | apply Kd.C_drew)) hd)
  have q_18 := Aside0.mk (show Kd.C k129 u19 (some ⟨gq, 0, none⟩) tG2.length tG2 from Kd.C_below (by repeat (first | exact q_17.out | apply Kd.C_alloc | apply Kd.C_drewN | apply Kd.C_drew)) hd)
  have s_18 := Aside0.mk (show Kd.C k129 u19 (some ⟨gs, 0, none⟩) tG1.length tG1 from Kd.C_below (by repeat (first | exact s_17.out | apply Kd.C_alloc | apply Kd.C_drewN | apply Kd.C_drew)) hd)
  clear hd B17 l_17 p_17 q_17 s_17
  obtain ⟨gx, cx, rfl, _, _, _⟩ := Kd.R_form hr1 (by decide)
  have Cx : Kd.C k129 u19 (some ⟨gx, 0, none⟩) tS.length tS ∧ tS.length ≤ cx := by
    obtain ⟨_, _, e_, h1_, h_⟩ := Kd.R_reads hr1
    injection e_ with e1 _ e3
    rw [e1, e3]
    exact ⟨h_, h1_⟩
  have x_0 := Aside0.mk Cx.1
  have Lx := Aside0.mk Cx.2
  clear Cx hr1
  obtain ⟨gy, cy, rfl, _, _, _⟩ := Kd.R_form hr2 (by decide)
  have Cy : Kd.C k129 u19 (some ⟨gy, 0, none⟩) 1 [⟨0, 1, 646776846⟩] ∧ 1 ≤ cy := by
    obtain ⟨_, _, e_, h1_, h_⟩ := Kd.R_reads hr2
    injection e_ with e1 _ e3
    rw [e1, e3]
    exact ⟨h_, h1_⟩
  have y_0 := Aside0.mk Cy.1
  have Ly := Aside0.mk Cy.2
  clear Cy hr2
  obtain ⟨ad0, e0, _, _, hd2⟩ := at_T129 p_18.out (0 : Int) (by decide) (by decide)
  injection e0 with e0
  subst e0
  obtain ⟨ad0, e0, _, _, hd5⟩ := at_T129 p_18.out (1 : Int) (by decide) (by decide)
  injection e0 with e0
  subst e0
  have hq2 : ∀ o n, ((u19.alloc o).drewN n).cell? ⟨gp, 2, none⟩ = some (.int .i64 646776846) := fun o n => (World.cell?_alloc_lt _ _ _ (World.block_lt_of_cell? _ _ hd2)).trans hd2
  have hq5 : ∀ o n, ((u19.alloc o).drewN n).cell? ⟨gp, 5, none⟩ = some (.int .i64 599416721) := fun o n => (World.cell?_alloc_lt _ _ _ (World.block_lt_of_cell? _ _ hd5)).trans hd5
  clear hd2 hd5
  go_wp2_with fail
  refine (calxlaw08_places.calls 10 _ _ tS _ 4 [0, 1, 2, 1] _ _ (by repeat (first | exact p_18.out | apply Kd.C_alloc | apply Kd.C_drewN | apply Kd.C_drew)) Lp.out (C_intsBlock [0, 1, 2, 1] (blk_new' _ _ _ (by simp)) (by decide)) (by decide) sanP1).mono ?_
  rintro e u ⟨rfl, n0, rfl⟩
  have z0 : (0 : Int) < 2 := by decide
  have z1 : (1 : Int) < 2 := by decide
  go_wp2_with fail
  refine (calxlaw08_places.calls 10 _ _ tG2 _ 4 [0, 2, 2, 1] _ _ (by repeat (first | exact q_18.out | apply Kd.C_alloc | apply Kd.C_drewN | apply Kd.C_drew)) Lq.out (C_intsBlock [0, 2, 2, 1] (blk_new' _ _ _ (by simp)) (by decide)) (by decide) sanP2).mono ?_
  rintro e u ⟨rfl, n1, rfl⟩
  go_wp2_with fail
  refine (calxlaw08_places.calls 10 _ _ tG1 _ 6 [0, 1, 1, 1, 2, 1] _ _ (by repeat (first | exact s_18.out | apply Kd.C_alloc | apply Kd.C_drewN | apply Kd.C_drew)) Ls.out (C_intsBlock [0, 1, 1, 1, 2, 1] (blk_new' _ _ _ (by simp)) (by decide)) (by decide) sanP3).mono ?_
  rintro e u ⟨rfl, n2, rfl⟩
  go_wp2_with fail
  refine (calxlaw08_places.calls 10 _ _ tS _ 4 [0, 1, 2, 1] _ _ (by repeat (first | exact x_0.out | apply Kd.C_alloc | apply Kd.C_drewN | apply Kd.C_drew)) Lx.out (C_intsBlock [0, 1, 2, 1] (blk_new' _ _ _ (by simp)) (by decide)) (by decide) sanP1).mono ?_
  rintro e u ⟨rfl, n3, rfl⟩
  go_wp2_with fail
  refine (calxlaw08_places.calls 10 _ _ [(⟨0, 1, 646776846⟩ : S129)] _ 2 [0, 1] _ _ (by repeat (first | exact y_0.out | apply Kd.C_alloc | apply Kd.C_drewN | apply Kd.C_drew)) Ly.out (C_intsBlock [0, 1] (blk_new' _ _ _ (by simp)) (by decide)) (by decide) sanP4).mono ?_
  rintro e u20 ⟨rfl, hdr⟩
  have hd := hdr.below
  clear hdr hq2 hq5 z0 z1
  have B19 := Aside0.mk (below_step (by repeat (first | exact B18.out | apply below_alloc | apply pw_below_drewN | apply below_drew1)) hd)
  have l_19 := Aside0.mk (show Kd.C k29 u20 (some ⟨u3.heap.size, 0, none⟩) l3.length l3 from Kd.C_below (by repeat (first | exact l_18.out | apply Kd.C_alloc | apply Kd.C_drewN | apply Kd.C_drew)) hd)
  clear hd B18 l_18
  obtain ⟨bl, hbl⟩ : ∃ bl, bl = u3.heap.size := ⟨_, rfl⟩
  obtain ⟨i0, hi, _, hsz, _⟩ := info_parts info29
  have hA : ∀ W : World, (Instr.slice 32 (.slice (some ⟨bl, 0, none⟩) 3 3) none (some (.int .i64 2)) none).run Try.prog W = .ok (.slice (some ⟨bl, 0, none⟩) 2 3) W := cut_to (P := Try.prog) 32 29 .i64 Try.underlying32 hi (some ⟨bl, 0, none⟩) 3 3 2 (by decide) (by decide) (by decide)
  have hB : ∀ W : World, (Instr.slice 32 (.slice (some ⟨bl, 0, none⟩) 3 3) (some (.int .i64 1)) none none).run Try.prog W = .ok (.slice (some ⟨bl, 4, none⟩) 2 2) W := by
    have h := cut_from (P := Try.prog) 32 29 .i64 Try.underlying32 hi 4 hsz (some ⟨bl, 0, none⟩) 3 3 1 (by decide) (by decide)
    simpa [add_plain] using h
  have hM : ∀ W : World, (Instr.slice 32 (.slice (some ⟨bl, 0, none⟩) 3 3) (some (.int .i64 1)) (some (.int .i64 2)) none).run Try.prog W = .ok (.slice (some ⟨bl, 4, none⟩) 1 2) W := by
    have h := cut_mid (P := Try.prog) 32 29 .i64 .i64 Try.underlying32 hi 4 hsz (some ⟨bl, 0, none⟩) 3 3 1 2 (by decide) (by decide) (by decide) (by decide)
    simpa [add_plain] using h
  clear hi hsz
  have k_0 := Aside0.mk (show Kd.C k29 u20 (some ⟨bl, 0, none⟩) 3 l3 by rw [hbl]; exact l_19.out)
  have a_0 := Aside0.mk (show Kd.C k29 u20 (some ⟨bl, 0, none⟩) 2 [eA, eB] from Kd.C_take (m := 2) (show Kd.C k29 u20 (some ⟨bl, 0, none⟩) l3.length l3 from k_0.out) (by decide))
  have b_0 := Aside0.mk (show Kd.C k29 u20 (some ⟨bl, 4, none⟩) 2 [eB, eC] by have h := Kd.C_drop (c := 3) (m := 1) (show Kd.C k29 u20 (some ⟨bl, 0, none⟩) l3.length l3 from k_0.out) (by decide) (by decide); simpa [add_plain, show k29.sz = 4 from rfl] using h)
  have m_0 := Aside0.mk (show Kd.C k29 u20 (some ⟨bl, 4, none⟩) 1 [eB] from Kd.C_take (m := 1) (xs := [eB, eC]) b_0.out (by decide))
  rw [← hbl]
  clear hbl l_19
  go_wp2
  have B20 := Aside0.mk (below_drew1 (by repeat (first | exact B19.out | apply below_alloc | apply pw_below_drewN | apply below_drew1)))
  have k_20 := Aside0.mk (show Kd.C k29 (u20).drew (some ⟨bl, 0, none⟩) 3 l3 from Kd.C_drew (by repeat (first | exact k_0.out | apply Kd.C_alloc | apply Kd.C_drewN | apply Kd.C_drew)))
  have a_20 := Aside0.mk (show Kd.C k29 (u20).drew (some ⟨bl, 0, none⟩) 2 [eA, eB] from Kd.C_drew (by repeat (first | exact a_0.out | apply Kd.C_alloc | apply Kd.C_drewN | apply Kd.C_drew)))
  have b_20 := Aside0.mk (show Kd.C k29 (u20).drew (some ⟨bl, 4, none⟩) 2 [eB, eC] from Kd.C_drew (by repeat (first | exact b_0.out | apply Kd.C_alloc | apply Kd.C_drewN | apply Kd.C_drew)))
  have m_20 := Aside0.mk (show Kd.C k29 (u20).drew (some ⟨bl, 4, none⟩) 1 [eB] from Kd.C_drew (by repeat (first | exact m_0.out | apply Kd.C_alloc | apply Kd.C_drewN | apply Kd.C_drew)))
  clear B19 k_0 a_0 b_0 m_0
  refine start_ (n := 13) (S := fun w' => True) (ds := []) #[false, false, false, false, false, false, false, false, false, false, false, false, false] (by kernel_rfl) rfl rfl trivial (fun hHeld => ?_); refine with_tabW R22_17.tab R22_17.bits (fun HT_ HW_ => ?_)
  generalize (u20).drew = d17 at B20 k_20 a_20 b_20 m_20 hHeld ⊢
  refine pure_ (i := 0) (N := (some 206)) (v := ?_) (a' := ?_) #[true, false, false, false, false, false, false, false, false, false, false, false, false] rfl rfl (any_of HT_.out (by kernel_rfl)) (fun _ _ _ h => h) (Or.inl ⟨by rfl, ?_⟩) ?_ ?_
  rotate_left
  · intro w'
    go_simp
    with_reducible rfl
  rotate_left
  · simp only [Act.put, List.setIfInBounds_toArray, List.set_cons_zero, List.set_cons_succ, i64_w, i32_w]
    rfl
  refine pure_ (i := 1) (N := (some 207)) (v := ?_) (a' := ?_) #[true, true, false, false, false, false, false, false, false, false, false, false, false] rfl rfl (any_of HT_.out (by kernel_rfl)) (fun _ _ _ h => h) (Or.inl ⟨by rfl, ?_⟩) ?_ ?_
  rotate_left
  · intro w'
    go_simp
    with_reducible rfl
  rotate_left
  · simp only [Act.put, List.setIfInBounds_toArray, List.set_cons_zero, List.set_cons_succ, i64_w, i32_w]
    rfl
  refine pure_ (i := 2) (N := (some 208)) (v := ?_) (a' := ?_) #[true, true, true, false, false, false, false, false, false, false, false, false, false] rfl rfl (any_of HT_.out (by kernel_rfl)) (fun _ _ _ h => h) (Or.inl ⟨by rfl, ?_⟩) ?_ ?_
  rotate_left
  · intro w'
    go_simp
    with_reducible rfl
  rotate_left
  · simp only [Act.put, List.setIfInBounds_toArray, List.set_cons_zero, List.set_cons_succ, i64_w, i32_w]
    rfl
  refine pure_ (i := 3) (N := (some 209)) (v := ?_) (a' := ?_) #[true, true, true, true, false, false, false, false, false, false, false, false, false] rfl rfl (any_of HT_.out (by kernel_rfl)) (fun _ _ _ h => h) (Or.inl ⟨by rfl, ?_⟩) ?_ ?_
  rotate_left
  · intro w'
    go_simp
    with_reducible rfl
  rotate_left
  · simp only [Act.put, List.setIfInBounds_toArray, List.set_cons_zero, List.set_cons_succ, i64_w, i32_w]
    rfl
  refine pure_ (i := 4) (N := (some 210)) (v := ?_) (a' := ?_) #[true, true, true, true, true, false, false, false, false, false, false, false, false] rfl rfl (any_of HT_.out (by kernel_rfl)) (fun _ _ _ h => h) (Or.inl ⟨by rfl, ?_⟩) ?_ ?_
  rotate_left
  · intro w'
    go_simp
    with_reducible rfl
  rotate_left
  · simp only [Act.put, List.setIfInBounds_toArray, List.set_cons_zero, List.set_cons_succ, i64_w, i32_w]
    rfl
  refine pure_ (i := 5) (N := (some 211)) (v := ?_) (a' := ?_) #[true, true, true, true, true, true, false, false, false, false, false, false, false] rfl rfl (any_of HT_.out (by kernel_rfl)) (fun _ _ _ h => h) (Or.inl ⟨by rfl, ?_⟩) ?_ ?_
  rotate_left
  · intro w'
    go_simp
    with_reducible rfl
  rotate_left
  · simp only [Act.put, List.setIfInBounds_toArray, List.set_cons_zero, List.set_cons_succ, i64_w, i32_w]
    rfl
  refine one_ (i := 6) (N := (some 212)) #[true, true, true, true, true, true, true, false, false, false, false, false, false] rfl rfl (one_of HT_.out (by kernel_rfl)) (by decide) (fun K hK => ?_)
  refine value_ (w1 := ?_) (v := ?_) (by rfl) rfl ?_ ?_
  rotate_left 2
  · go_simp
    constructor
    · rfl
    · rfl
  refine hK.out _ _ trivial (fun hHeld => ?_)
  clear hK K
  refine norm_ (a' := ?_) ?_ ?_
  rotate_left
  · show Act.put _ (some 212) _ = _
    simp only [Act.put, List.setIfInBounds_toArray, List.set_cons_zero, List.set_cons_succ, i64_w, i32_w]
    rfl
  refine one_ (i := 7) (N := (some 213)) #[true, true, true, true, true, true, true, true, false, false, false, false, false] rfl rfl (one_of HT_.out (by kernel_rfl)) (by decide) (fun K hK => ?_)
  refine goes_ Try.func23 (by kernel_rfl) rfl #[.slice (some ⟨d17.heap.size, 0, none⟩) 2 2] (by rfl) rfl rfl (by (try simp only [List.map_toArray, List.map_cons, List.map_nil]); first | done | rfl | (simp only [List.length_drop, List.length_take]; rfl)) ?_
  refine (book_Join.calls (some ⟨d17.heap.size, 0, none⟩) 2 [⟨0, [eA, eB]⟩, ⟨1, [eB, eC]⟩] _ _ _ (C_block (inner := [.int .i64 0, .slice (some ⟨bl, 0, none⟩) 2 3, .int .i64 1, .slice (some ⟨bl, 4, none⟩) 2 2]) (ps := [(⟨0, [eA, eB]⟩ : S34), (⟨1, [eB, eC]⟩ : S34)]) (Reps.front (k34_mk _ (⟨0, [eA, eB]⟩ : S34) (show 2 ≤ 3 by decide) (by repeat (first | exact a_20.out | apply Kd.C_alloc | apply Kd.C_drewN | apply Kd.C_drew))) rfl (Reps.front (k34_mk _ (⟨1, [eB, eC]⟩ : S34) (show 2 ≤ 2 by decide) (by repeat (first | exact b_20.out | apply Kd.C_alloc | apply Kd.C_drewN | apply Kd.C_drew))) rfl (Reps.none _ _) rfl) rfl) (blk_new' _ _ _ (by simp)) (by decide)) (by decide) sanJ).mono ?_
  rintro e u21 ⟨v0, rfl, hr0, hd⟩
  have hr := Kd.S_R hr0
  clear hr0
  refine ⟨_, rfl, ?_⟩
  have B21 := Aside0.mk (below_step (by repeat (first | exact B20.out | apply below_alloc | apply pw_below_drewN | apply below_drew1)) hd)
  have k_21 := Aside0.mk (show Kd.C k29 u21 (some ⟨bl, 0, none⟩) 3 l3 from Kd.C_below (by repeat (first | exact k_20.out | apply Kd.C_alloc | apply Kd.C_drewN | apply Kd.C_drew)) hd)
  have a_21 := Aside0.mk (show Kd.C k29 u21 (some ⟨bl, 0, none⟩) 2 [eA, eB] from Kd.C_below (by repeat (first | exact a_20.out | apply Kd.C_alloc | apply Kd.C_drewN | apply Kd.C_drew)) hd)
  have b_21 := Aside0.mk (show Kd.C k29 u21 (some ⟨bl, 4, none⟩) 2 [eB, eC] from Kd.C_below (by repeat (first | exact b_20.out | apply Kd.C_alloc | apply Kd.C_drewN | apply Kd.C_drew)) hd)
  have m_21 := Aside0.mk (show Kd.C k29 u21 (some ⟨bl, 4, none⟩) 1 [eB] from Kd.C_below (by repeat (first | exact m_20.out | apply Kd.C_alloc | apply Kd.C_drewN | apply Kd.C_drew)) hd)
  clear hd B20 k_20 a_20 b_20 m_20
  obtain ⟨gj, cj, rfl, _, _, _⟩ := Kd.R_form hr (by decide)
  have Cj : Kd.C k34 u21 (some ⟨gj, 0, none⟩) 1 [(⟨0, l3⟩ : S34)] ∧ 1 ≤ cj := by
    obtain ⟨_, _, e_, h1_, h_⟩ := Kd.R_reads hr
    injection e_ with e1 _ e3
    rw [e1, e3]
    exact ⟨h_, h1_⟩
  have j_0 := Aside0.mk Cj.1
  have Lj := Aside0.mk Cj.2
  clear Cj hr
  refine hK.out _ _ trivial (fun hHeld => ?_)
  clear hK K
  refine norm_ (a' := ?_) ?_ ?_
  rotate_left
  · show Act.put _ (some 213) _ = _
    simp only [Act.put, List.setIfInBounds_toArray, List.set_cons_zero, List.set_cons_succ, i64_w, i32_w]
    rfl
  refine pure_ (i := 8) (N := (some 205)) (v := ?_) (a' := ?_) #[true, true, true, true, true, true, true, true, true, false, false, false, false] rfl rfl (any_of HT_.out (by kernel_rfl)) (fun _ _ _ h => h) (Or.inl ⟨by rfl, ?_⟩) ?_ ?_
  rotate_left
  · intro w'
    go_simp
    with_reducible rfl
  rotate_left
  · simp only [Act.put, List.setIfInBounds_toArray, List.set_cons_zero, List.set_cons_succ, i64_w, i32_w]
    rfl
  refine pure_ (i := 9) (N := (some 214)) (v := ?_) (a' := ?_) #[true, true, true, true, true, true, true, true, true, true, false, false, false] rfl rfl (any_of HT_.out (by kernel_rfl)) (fun _ _ _ h => h) (Or.inl ⟨by rfl, ?_⟩) ?_ ?_
  rotate_left
  · intro w'
    go_simp
    with_reducible rfl
  rotate_left
  · simp only [Act.put, List.setIfInBounds_toArray, List.set_cons_zero, List.set_cons_succ, i64_w, i32_w]
    rfl
  refine pure_ (i := 10) (N := (some 215)) (v := ?_) (a' := ?_) #[true, true, true, true, true, true, true, true, true, true, true, false, false] rfl rfl (any_of HT_.out (by kernel_rfl)) (fun _ _ _ h => h) (Or.inl ⟨by rfl, ?_⟩) ?_ ?_
  rotate_left
  · intro w'
    go_simp
    with_reducible rfl
  rotate_left
  · simp only [Act.put, List.setIfInBounds_toArray, List.set_cons_zero, List.set_cons_succ, i64_w, i32_w]
    rfl
  refine pure_ (i := 11) (N := (some 27)) (v := ?_) (a' := ?_) #[true, true, true, true, true, true, true, true, true, true, true, true, false] rfl rfl (any_of HT_.out (by kernel_rfl)) (fun _ _ _ h => h) (Or.inl ⟨by rfl, ?_⟩) ?_ ?_
  rotate_left
  · intro w'
    go_simp
    with_reducible rfl
  rotate_left
  · simp only [Act.put, List.setIfInBounds_toArray, List.set_cons_zero, List.set_cons_succ, i64_w, i32_w]
    rfl
  refine pure_ (i := 12) (N := (some 28)) (v := ?_) (a' := ?_) #[true, true, true, true, true, true, true, true, true, true, true, true, true] rfl rfl (any_of HT_.out (by kernel_rfl)) (fun _ _ _ h => h) (Or.inl ⟨by rfl, ?_⟩) ?_ ?_
  rotate_left
  · intro w'
    go_simp
    with_reducible rfl
  rotate_left
  · simp only [Act.put, List.setIfInBounds_toArray, List.set_cons_zero, List.set_cons_succ, i64_w, i32_w]
    rfl
  refine done_ (done_of HT_.out (by kernel_rfl)) ?_
  go_wp2_with fail
  refine (book_Missing.calls (some ⟨u21.heap.size, 0, none⟩) 1 [⟨1, [eB]⟩] 3 _ _ _ (C_block (inner := [.int .i64 1, .slice (some ⟨bl, 4, none⟩) 1 2]) (ps := [(⟨1, [eB]⟩ : S34)]) (Reps.front (k34_mk _ (⟨1, [eB]⟩ : S34) (show 1 ≤ 2 by decide) (by repeat (first | exact m_21.out | apply Kd.C_alloc | apply Kd.C_drewN | apply Kd.C_drew))) rfl (Reps.none _ _) rfl) (blk_new' _ _ _ (by simp)) (by decide)) (by decide) sanM).mono ?_
  rintro e u22 ⟨v0, rfl, hr, hd⟩
  have B22 := Aside0.mk (below_step (by repeat (first | exact B21.out | apply below_alloc | apply pw_below_drewN | apply below_drew1)) hd)
  have k_22 := Aside0.mk (show Kd.C k29 u22 (some ⟨bl, 0, none⟩) 3 l3 from Kd.C_below (by repeat (first | exact k_21.out | apply Kd.C_alloc | apply Kd.C_drewN | apply Kd.C_drew)) hd)
  have a_22 := Aside0.mk (show Kd.C k29 u22 (some ⟨bl, 0, none⟩) 2 [eA, eB] from Kd.C_below (by repeat (first | exact a_21.out | apply Kd.C_alloc | apply Kd.C_drewN | apply Kd.C_drew)) hd)
  have b_22 := Aside0.mk (show Kd.C k29 u22 (some ⟨bl, 4, none⟩) 2 [eB, eC] from Kd.C_below (by repeat (first | exact b_21.out | apply Kd.C_alloc | apply Kd.C_drewN | apply Kd.C_drew)) hd)
  have m_22 := Aside0.mk (show Kd.C k29 u22 (some ⟨bl, 4, none⟩) 1 [eB] from Kd.C_below (by repeat (first | exact m_21.out | apply Kd.C_alloc | apply Kd.C_drewN | apply Kd.C_drew)) hd)
  have j_22 := Aside0.mk (show Kd.C k34 u22 (some ⟨gj, 0, none⟩) 1 [(⟨0, l3⟩ : S34)] from Kd.C_below (by repeat (first | exact j_0.out | apply Kd.C_alloc | apply Kd.C_drewN | apply Kd.C_drew)) hd)
  clear hd B21 k_21 a_21 b_21 m_21 j_0
  obtain ⟨gz, cz, rfl, _, _, _⟩ := Kd.R_form hr (by decide)
  have Cz : Kd.C k39 u22 (some ⟨gz, 0, none⟩) 2 [(⟨0, 0⟩ : S39), ⟨2, 2⟩] ∧ 2 ≤ cz := by
    obtain ⟨_, _, e_, h1_, h_⟩ := Kd.R_reads hr
    injection e_ with e1 _ e3
    rw [e1, e3]
    exact ⟨h_, h1_⟩
  have z_0 := Aside0.mk Cz.1
  have Lz := Aside0.mk Cz.2
  clear Cz hr
  go_wp2_with fail
  refine (book_Total.calls _ 3 l3 0 5 3 _ _ _ (by repeat (first | exact k_22.out | apply Kd.C_alloc | apply Kd.C_drewN | apply Kd.C_drew)) (by decide) sanT).mono ?_
  rintro e u23 ⟨rfl, hd⟩
  have B23 := Aside0.mk (below_step (by repeat (first | exact B22.out | apply below_alloc | apply pw_below_drewN | apply below_drew1)) hd)
  have k_23 := Aside0.mk (show Kd.C k29 u23 (some ⟨bl, 0, none⟩) 3 l3 from Kd.C_below (by repeat (first | exact k_22.out | apply Kd.C_alloc | apply Kd.C_drewN | apply Kd.C_drew)) hd)
  have a_23 := Aside0.mk (show Kd.C k29 u23 (some ⟨bl, 0, none⟩) 2 [eA, eB] from Kd.C_below (by repeat (first | exact a_22.out | apply Kd.C_alloc | apply Kd.C_drewN | apply Kd.C_drew)) hd)
  have b_23 := Aside0.mk (show Kd.C k29 u23 (some ⟨bl, 4, none⟩) 2 [eB, eC] from Kd.C_below (by repeat (first | exact b_22.out | apply Kd.C_alloc | apply Kd.C_drewN | apply Kd.C_drew)) hd)
  have m_23 := Aside0.mk (show Kd.C k29 u23 (some ⟨bl, 4, none⟩) 1 [eB] from Kd.C_below (by repeat (first | exact m_22.out | apply Kd.C_alloc | apply Kd.C_drewN | apply Kd.C_drew)) hd)
  have j_23 := Aside0.mk (show Kd.C k34 u23 (some ⟨gj, 0, none⟩) 1 [(⟨0, l3⟩ : S34)] from Kd.C_below (by repeat (first | exact j_22.out | apply Kd.C_alloc | apply Kd.C_drewN | apply Kd.C_drew)) hd)
  have z_23 := Aside0.mk (show Kd.C k39 u23 (some ⟨gz, 0, none⟩) 2 [(⟨0, 0⟩ : S39), ⟨2, 2⟩] from Kd.C_below (by repeat (first | exact z_0.out | apply Kd.C_alloc | apply Kd.C_drewN | apply Kd.C_drew)) hd)
  clear hd B22 k_22 a_22 b_22 m_22 j_22 z_0
  go_wp2
  have B24 := Aside0.mk (below_drew1 (by repeat (first | exact B23.out | apply below_alloc | apply pw_below_drewN | apply below_drew1)))
  have k_24 := Aside0.mk (show Kd.C k29 (u23).drew (some ⟨bl, 0, none⟩) 3 l3 from Kd.C_drew (by repeat (first | exact k_23.out | apply Kd.C_alloc | apply Kd.C_drewN | apply Kd.C_drew)))
  have a_24 := Aside0.mk (show Kd.C k29 (u23).drew (some ⟨bl, 0, none⟩) 2 [eA, eB] from Kd.C_drew (by repeat (first | exact a_23.out | apply Kd.C_alloc | apply Kd.C_drewN | apply Kd.C_drew)))
  have b_24 := Aside0.mk (show Kd.C k29 (u23).drew (some ⟨bl, 4, none⟩) 2 [eB, eC] from Kd.C_drew (by repeat (first | exact b_23.out | apply Kd.C_alloc | apply Kd.C_drewN | apply Kd.C_drew)))
  have m_24 := Aside0.mk (show Kd.C k29 (u23).drew (some ⟨bl, 4, none⟩) 1 [eB] from Kd.C_drew (by repeat (first | exact m_23.out | apply Kd.C_alloc | apply Kd.C_drewN | apply Kd.C_drew)))
  have j_24 := Aside0.mk (show Kd.C k34 (u23).drew (some ⟨gj, 0, none⟩) 1 [(⟨0, l3⟩ : S34)] from Kd.C_drew (by repeat (first | exact j_23.out | apply Kd.C_alloc | apply Kd.C_drewN | apply Kd.C_drew)))
  have z_24 := Aside0.mk (show Kd.C k39 (u23).drew (some ⟨gz, 0, none⟩) 2 [(⟨0, 0⟩ : S39), ⟨2, 2⟩] from Kd.C_drew (by repeat (first | exact z_23.out | apply Kd.C_alloc | apply Kd.C_drewN | apply Kd.C_drew)))
  clear B23 k_23 a_23 b_23 m_23 j_23 z_23
  refine start_ (n := 13) (S := fun w' => True) (ds := []) #[false, false, false, false, false, false, false, false, false, false, false, false, false] (by kernel_rfl) rfl rfl trivial (fun hHeld => ?_); refine with_tabW R22_20.tab R22_20.bits (fun HT_ HW_ => ?_)
  generalize (u23).drew = d20 at B24 k_24 a_24 b_24 m_24 j_24 z_24 hHeld ⊢
  refine pure_ (i := 0) (N := (some 230)) (v := ?_) (a' := ?_) #[true, false, false, false, false, false, false, false, false, false, false, false, false] rfl rfl (any_of HT_.out (by kernel_rfl)) (fun _ _ _ h => h) (Or.inl ⟨by rfl, ?_⟩) ?_ ?_
  rotate_left
  · intro w'
    go_simp
    with_reducible rfl
  rotate_left
  · simp only [Act.put, List.setIfInBounds_toArray, List.set_cons_zero, List.set_cons_succ, i64_w, i32_w]
    rfl
  refine pure_ (i := 1) (N := (some 231)) (v := ?_) (a' := ?_) #[true, true, false, false, false, false, false, false, false, false, false, false, false] rfl rfl (any_of HT_.out (by kernel_rfl)) (fun _ _ _ h => h) (Or.inl ⟨by rfl, ?_⟩) ?_ ?_
  rotate_left
  · intro w'
    go_simp
    with_reducible rfl
  rotate_left
  · simp only [Act.put, List.setIfInBounds_toArray, List.set_cons_zero, List.set_cons_succ, i64_w, i32_w]
    rfl
  refine pure_ (i := 2) (N := (some 232)) (v := ?_) (a' := ?_) #[true, true, true, false, false, false, false, false, false, false, false, false, false] rfl rfl (any_of HT_.out (by kernel_rfl)) (fun _ _ _ h => h) (Or.inl ⟨by rfl, ?_⟩) ?_ ?_
  rotate_left
  · intro w'
    go_simp
    with_reducible rfl
  rotate_left
  · simp only [Act.put, List.setIfInBounds_toArray, List.set_cons_zero, List.set_cons_succ, i64_w, i32_w]
    rfl
  refine one_ (i := 3) (N := (some 233)) #[true, true, true, true, false, false, false, false, false, false, false, false, false] rfl rfl (one_of HT_.out (by kernel_rfl)) (by decide) (fun K hK => ?_)
  refine goes_ Try.func81 (by kernel_rfl) rfl #[] (by rfl) rfl rfl (by (try simp only [List.map_toArray, List.map_cons, List.map_nil]); first | done | rfl | (simp only [List.length_drop, List.length_take]; rfl)) ?_
  refine (calxlaw08_A.calls 1 0 5 10 _ rfl).mono ?_
  rintro e u24 ⟨rfl, hd⟩
  refine ⟨_, rfl, ?_⟩
  have B25 := Aside0.mk (below_step (by repeat (first | exact B24.out | apply below_alloc | apply pw_below_drewN | apply below_drew1)) hd)
  have k_25 := Aside0.mk (show Kd.C k29 u24 (some ⟨bl, 0, none⟩) 3 l3 from Kd.C_below (by repeat (first | exact k_24.out | apply Kd.C_alloc | apply Kd.C_drewN | apply Kd.C_drew)) hd)
  have a_25 := Aside0.mk (show Kd.C k29 u24 (some ⟨bl, 0, none⟩) 2 [eA, eB] from Kd.C_below (by repeat (first | exact a_24.out | apply Kd.C_alloc | apply Kd.C_drewN | apply Kd.C_drew)) hd)
  have b_25 := Aside0.mk (show Kd.C k29 u24 (some ⟨bl, 4, none⟩) 2 [eB, eC] from Kd.C_below (by repeat (first | exact b_24.out | apply Kd.C_alloc | apply Kd.C_drewN | apply Kd.C_drew)) hd)
  have m_25 := Aside0.mk (show Kd.C k29 u24 (some ⟨bl, 4, none⟩) 1 [eB] from Kd.C_below (by repeat (first | exact m_24.out | apply Kd.C_alloc | apply Kd.C_drewN | apply Kd.C_drew)) hd)
  have j_25 := Aside0.mk (show Kd.C k34 u24 (some ⟨gj, 0, none⟩) 1 [(⟨0, l3⟩ : S34)] from Kd.C_below (by repeat (first | exact j_24.out | apply Kd.C_alloc | apply Kd.C_drewN | apply Kd.C_drew)) hd)
  have z_25 := Aside0.mk (show Kd.C k39 u24 (some ⟨gz, 0, none⟩) 2 [(⟨0, 0⟩ : S39), ⟨2, 2⟩] from Kd.C_below (by repeat (first | exact z_24.out | apply Kd.C_alloc | apply Kd.C_drewN | apply Kd.C_drew)) hd)
  clear hd B24 k_24 a_24 b_24 m_24 j_24 z_24
  refine hK.out _ _ trivial (fun hHeld => ?_)
  clear hK K
  refine norm_ (a' := ?_) ?_ ?_
  rotate_left
  · show Act.put _ (some 233) _ = _
    simp only [Act.put, List.setIfInBounds_toArray, List.set_cons_zero, List.set_cons_succ, i64_w, i32_w]
    rfl
  refine one_ (i := 4) (N := (some 234)) #[true, true, true, true, true, false, false, false, false, false, false, false, false] rfl rfl (one_of HT_.out (by kernel_rfl)) (by decide) (fun K hK => ?_)
  refine goes_ Try.func83 (by kernel_rfl) rfl #[] (by rfl) rfl rfl (by (try simp only [List.map_toArray, List.map_cons, List.map_nil]); first | done | rfl | (simp only [List.length_drop, List.length_take]; rfl)) ?_
  refine (calxlaw08_C.calls 3 0 6 7 _ rfl).mono ?_
  rintro e u25 ⟨rfl, hd⟩
  refine ⟨_, rfl, ?_⟩
  have B26 := Aside0.mk (below_step (by repeat (first | exact B25.out | apply below_alloc | apply pw_below_drewN | apply below_drew1)) hd)
  have k_26 := Aside0.mk (show Kd.C k29 u25 (some ⟨bl, 0, none⟩) 3 l3 from Kd.C_below (by repeat (first | exact k_25.out | apply Kd.C_alloc | apply Kd.C_drewN | apply Kd.C_drew)) hd)
  have a_26 := Aside0.mk (show Kd.C k29 u25 (some ⟨bl, 0, none⟩) 2 [eA, eB] from Kd.C_below (by repeat (first | exact a_25.out | apply Kd.C_alloc | apply Kd.C_drewN | apply Kd.C_drew)) hd)
  have b_26 := Aside0.mk (show Kd.C k29 u25 (some ⟨bl, 4, none⟩) 2 [eB, eC] from Kd.C_below (by repeat (first | exact b_25.out | apply Kd.C_alloc | apply Kd.C_drewN | apply Kd.C_drew)) hd)
  have m_26 := Aside0.mk (show Kd.C k29 u25 (some ⟨bl, 4, none⟩) 1 [eB] from Kd.C_below (by repeat (first | exact m_25.out | apply Kd.C_alloc | apply Kd.C_drewN | apply Kd.C_drew)) hd)
  have j_26 := Aside0.mk (show Kd.C k34 u25 (some ⟨gj, 0, none⟩) 1 [(⟨0, l3⟩ : S34)] from Kd.C_below (by repeat (first | exact j_25.out | apply Kd.C_alloc | apply Kd.C_drewN | apply Kd.C_drew)) hd)
  have z_26 := Aside0.mk (show Kd.C k39 u25 (some ⟨gz, 0, none⟩) 2 [(⟨0, 0⟩ : S39), ⟨2, 2⟩] from Kd.C_below (by repeat (first | exact z_25.out | apply Kd.C_alloc | apply Kd.C_drewN | apply Kd.C_drew)) hd)
  clear hd B25 k_25 a_25 b_25 m_25 j_25 z_25
  refine hK.out _ _ trivial (fun hHeld => ?_)
  clear hK K
  refine norm_ (a' := ?_) ?_ ?_
  rotate_left
  · show Act.put _ (some 234) _ = _
    simp only [Act.put, List.setIfInBounds_toArray, List.set_cons_zero, List.set_cons_succ, i64_w, i32_w]
    rfl
  refine one_ (i := 5) (N := (some 235)) #[true, true, true, true, true, true, false, false, false, false, false, false, false] rfl rfl (one_of HT_.out (by kernel_rfl)) (by decide) (fun K hK => ?_)
  refine value_ (w1 := ?_) (v := ?_) (by rfl) rfl ?_ ?_
  rotate_left 2
  · go_simp
    constructor
    · rfl
    · rfl
  refine hK.out _ _ trivial (fun hHeld => ?_)
  clear hK K
  refine norm_ (a' := ?_) ?_ ?_
  rotate_left
  · show Act.put _ (some 235) _ = _
    simp only [Act.put, List.setIfInBounds_toArray, List.set_cons_zero, List.set_cons_succ, i64_w, i32_w]
    rfl
  refine one_ (i := 6) (N := (some 236)) #[true, true, true, true, true, true, true, false, false, false, false, false, false] rfl rfl (one_of HT_.out (by kernel_rfl)) (by decide) (fun K hK => ?_)
  refine value_ (w1 := ?_) (v := ?_) (by rfl) rfl ?_ ?_
  rotate_left 2
  · go_simp
    constructor
    · rfl
    · rfl
  refine hK.out _ _ trivial (fun hHeld => ?_)
  clear hK K
  refine norm_ (a' := ?_) ?_ ?_
  rotate_left
  · show Act.put _ (some 236) _ = _
    simp only [Act.put, List.setIfInBounds_toArray, List.set_cons_zero, List.set_cons_succ, i64_w, i32_w]
    rfl
  refine one_ (i := 7) (N := (some 237)) #[true, true, true, true, true, true, true, true, false, false, false, false, false] rfl rfl (one_of HT_.out (by kernel_rfl)) (by decide) (fun K hK => ?_)
  refine goes_ Try.func28 (by kernel_rfl) rfl #[.slice (some ⟨u25.heap.size + 1, 0, none⟩) 3 3] (by rfl) rfl rfl (by (try simp only [List.map_toArray, List.map_cons, List.map_nil]); first | done | rfl | (simp only [List.length_drop, List.length_take]; rfl)) ?_
  have n_0 := Aside0.mk (show Kd.C k29 ((u25.alloc (.cells #[.int .i64 1, .int .i64 0, .int .i64 5, .int .i64 10, .int .i64 3, .int .i64 0, .int .i64 6, .int .i64 7] 29)).alloc (.cells #[.slice (some ⟨bl, 0, none⟩) 3 3, .slice (some ⟨bl, 0, none⟩) 2 3, .slice (some ⟨u25.heap.size, 0, none⟩) 2 2] 32)) (some ⟨u25.heap.size, 0, none⟩) 2 [eA, eC] from C_block (inner := [.int .i64 1, .int .i64 0, .int .i64 5, .int .i64 10, .int .i64 3, .int .i64 0, .int .i64 6, .int .i64 7]) (Reps.front (k29_mk _ eA) rfl (Reps.front (k29_mk _ eC) rfl (Reps.none _ _) rfl) rfl) (blk_alloc (blk_new' _ _ _ rfl) _) (by decide))
  refine (book_Majority.calls (some ⟨u25.heap.size + 1, 0, none⟩) 3 [l3, [eA, eB], [eA, eC]] _ _ _ (C_block (inner := [.slice (some ⟨bl, 0, none⟩) 3 3, .slice (some ⟨bl, 0, none⟩) 2 3, .slice (some ⟨u25.heap.size, 0, none⟩) 2 2]) (ps := [l3, [eA, eB], [eA, eC]]) (Reps.front ⟨_, _, rfl, (show 3 ≤ 3 by decide), (by repeat (first | exact k_26.out | apply Kd.C_alloc | apply Kd.C_drewN | apply Kd.C_drew))⟩ rfl (Reps.front ⟨_, _, rfl, (show 2 ≤ 3 by decide), (by repeat (first | exact a_26.out | apply Kd.C_alloc | apply Kd.C_drewN | apply Kd.C_drew))⟩ rfl (Reps.front ⟨_, _, rfl, (show 2 ≤ 2 by decide), n_0.out⟩ rfl (Reps.none _ _) rfl) rfl) rfl) (blk_new' _ _ _ (by simp)) (by decide)) (by decide) sanMj).mono ?_
  rintro e u26 ⟨v0, rfl, hr, hd⟩
  refine ⟨_, rfl, ?_⟩
  have B27 := Aside0.mk (below_step (by repeat (first | exact B26.out | apply below_alloc | apply pw_below_drewN | apply below_drew1)) hd)
  have k_27 := Aside0.mk (show Kd.C k29 u26 (some ⟨bl, 0, none⟩) 3 l3 from Kd.C_below (by repeat (first | exact k_26.out | apply Kd.C_alloc | apply Kd.C_drewN | apply Kd.C_drew)) hd)
  have a_27 := Aside0.mk (show Kd.C k29 u26 (some ⟨bl, 0, none⟩) 2 [eA, eB] from Kd.C_below (by repeat (first | exact a_26.out | apply Kd.C_alloc | apply Kd.C_drewN | apply Kd.C_drew)) hd)
  have b_27 := Aside0.mk (show Kd.C k29 u26 (some ⟨bl, 4, none⟩) 2 [eB, eC] from Kd.C_below (by repeat (first | exact b_26.out | apply Kd.C_alloc | apply Kd.C_drewN | apply Kd.C_drew)) hd)
  have m_27 := Aside0.mk (show Kd.C k29 u26 (some ⟨bl, 4, none⟩) 1 [eB] from Kd.C_below (by repeat (first | exact m_26.out | apply Kd.C_alloc | apply Kd.C_drewN | apply Kd.C_drew)) hd)
  have j_27 := Aside0.mk (show Kd.C k34 u26 (some ⟨gj, 0, none⟩) 1 [(⟨0, l3⟩ : S34)] from Kd.C_below (by repeat (first | exact j_26.out | apply Kd.C_alloc | apply Kd.C_drewN | apply Kd.C_drew)) hd)
  have z_27 := Aside0.mk (show Kd.C k39 u26 (some ⟨gz, 0, none⟩) 2 [(⟨0, 0⟩ : S39), ⟨2, 2⟩] from Kd.C_below (by repeat (first | exact z_26.out | apply Kd.C_alloc | apply Kd.C_drewN | apply Kd.C_drew)) hd)
  clear hd B26 k_26 a_26 b_26 m_26 j_26 z_26
  obtain ⟨gw, cw, rfl, _, _, _⟩ := Kd.R_form hr (by decide)
  have Cw : Kd.C k29 u26 (some ⟨gw, 0, none⟩) 2 [eA, eB] ∧ 2 ≤ cw := by
    obtain ⟨_, _, e_, h1_, h_⟩ := Kd.R_reads hr
    injection e_ with e1 _ e3
    rw [e1, e3]
    exact ⟨h_, h1_⟩
  have w_0 := Aside0.mk Cw.1
  have Lw := Aside0.mk Cw.2
  clear Cw hr
  refine hK.out _ _ trivial (fun hHeld => ?_)
  clear hK K
  refine norm_ (a' := ?_) ?_ ?_
  rotate_left
  · show Act.put _ (some 237) _ = _
    simp only [Act.put, List.setIfInBounds_toArray, List.set_cons_zero, List.set_cons_succ, i64_w, i32_w]
    rfl
  refine pure_ (i := 8) (N := (some 229)) (v := ?_) (a' := ?_) #[true, true, true, true, true, true, true, true, true, false, false, false, false] rfl rfl (any_of HT_.out (by kernel_rfl)) (fun _ _ _ h => h) (Or.inl ⟨by rfl, ?_⟩) ?_ ?_
  rotate_left
  · intro w'
    go_simp
    with_reducible rfl
  rotate_left
  · simp only [Act.put, List.setIfInBounds_toArray, List.set_cons_zero, List.set_cons_succ, i64_w, i32_w]
    rfl
  refine pure_ (i := 9) (N := (some 238)) (v := ?_) (a' := ?_) #[true, true, true, true, true, true, true, true, true, true, false, false, false] rfl rfl (any_of HT_.out (by kernel_rfl)) (fun _ _ _ h => h) (Or.inl ⟨by rfl, ?_⟩) ?_ ?_
  rotate_left
  · intro w'
    go_simp
    with_reducible rfl
  rotate_left
  · simp only [Act.put, List.setIfInBounds_toArray, List.set_cons_zero, List.set_cons_succ, i64_w, i32_w]
    rfl
  refine pure_ (i := 10) (N := (some 239)) (v := ?_) (a' := ?_) #[true, true, true, true, true, true, true, true, true, true, true, false, false] rfl rfl (any_of HT_.out (by kernel_rfl)) (fun _ _ _ h => h) (Or.inl ⟨by rfl, ?_⟩) ?_ ?_
  rotate_left
  · intro w'
    go_simp
    with_reducible rfl
  rotate_left
  · simp only [Act.put, List.setIfInBounds_toArray, List.set_cons_zero, List.set_cons_succ, i64_w, i32_w]
    rfl
  refine pure_ (i := 11) (N := (some 33)) (v := ?_) (a' := ?_) #[true, true, true, true, true, true, true, true, true, true, true, true, false] rfl rfl (any_of HT_.out (by kernel_rfl)) (fun _ _ _ h => h) (Or.inl ⟨by rfl, ?_⟩) ?_ ?_
  rotate_left
  · intro w'
    go_simp
    with_reducible rfl
  rotate_left
  · simp only [Act.put, List.setIfInBounds_toArray, List.set_cons_zero, List.set_cons_succ, i64_w, i32_w]
    rfl
  refine pure_ (i := 12) (N := (some 34)) (v := ?_) (a' := ?_) #[true, true, true, true, true, true, true, true, true, true, true, true, true] rfl rfl (any_of HT_.out (by kernel_rfl)) (fun _ _ _ h => h) (Or.inl ⟨by rfl, ?_⟩) ?_ ?_
  rotate_left
  · intro w'
    go_simp
    with_reducible rfl
  rotate_left
  · simp only [Act.put, List.setIfInBounds_toArray, List.set_cons_zero, List.set_cons_succ, i64_w, i32_w]
    rfl
  refine done_ (done_of HT_.out (by kernel_rfl)) ?_
  obtain ⟨ad0, A9, c9, e0, hy0, hy1, hle, hC9⟩ := at_T34 j_27.out (0 : Int) (by decide) (by decide)
  injection e0 with e0
  subst e0
  have hz0 : u26.cell? ⟨gj, 0, none⟩ = some (.int .i64 0) := hy0
  have hz1 : u26.cell? ⟨gj, 1, none⟩ = some (.slice A9 3 c9) := hy1
  have h9 := Aside0.mk (show Kd.C k29 u26 A9 3 l3 from hC9)
  have hle9 := Aside0.mk (show l3.length ≤ c9 from hle)
  have zz : (0 : Int) < 1 := by decide
  clear hy0 hy1 hle hC9
  go_wp2_with fail
  refine (calxref08_SameBook.calls 10 A9 c9 l3 _ 3 l3 _ _ h9.out hle9.out (by repeat (first | exact k_27.out | apply Kd.C_alloc | apply Kd.C_drewN | apply Kd.C_drew)) (by decide) sanB1).mono ?_
  rintro e u ⟨rfl, m1, rfl⟩
  go_wp2_with fail
  refine (calxref08_SameSpans.calls 10 _ _ [⟨0, 0⟩, ⟨2, 2⟩] _ 2 [⟨0, 0⟩, ⟨2, 2⟩] _ _ (by repeat (first | exact z_27.out | apply Kd.C_alloc | apply Kd.C_drewN | apply Kd.C_drew)) Lz.out (C_block (inner := [.int .i64 0, .int .i64 0, .int .i64 2, .int .i64 2]) (ps := [(⟨0, 0⟩ : S39), ⟨2, 2⟩]) (Reps.front (k39_mk _ (⟨0, 0⟩ : S39)) rfl (Reps.front (k39_mk _ (⟨2, 2⟩ : S39)) rfl (Reps.none _ _) rfl) rfl) (blk_new' _ _ _ (by simp)) (by decide)) (by decide) sanSp).mono ?_
  rintro e u ⟨rfl, m2, rfl⟩
  go_wp2_with fail
  refine (calxref08_SameBook.calls 10 _ _ [eA, eB] _ 3 [eA, eB] _ _ (by repeat (first | exact w_0.out | apply Kd.C_alloc | apply Kd.C_drewN | apply Kd.C_drew)) Lw.out (by repeat (first | exact a_27.out | apply Kd.C_alloc | apply Kd.C_drewN | apply Kd.C_drew)) (by decide) sanB2).mono ?_
  rintro e u ⟨rfl, m3, rfl⟩
  go_wp2
  go_ret
  exact ⟨rfl, (by repeat (first | exact B27.out | apply below_alloc | apply pw_below_drewN | apply below_drew1))⟩
end Go.Proofs.Ytmfphlfakmnbmaa.B
end

section
namespace Go.Proofs.Ytmfphlfakmnbmaa.B
open Go.RowKit Go.Proofs.YtmfphlfakmnbmaaW.PrintWords Go.Proofs.YtmfphlfakmnbmaaW.PrintLast Go.Proofs.YtmfphlfakmnbmaaW.PrintMore
attribute [local go_sem] max2_int min2_int max_two min_two max_three min_three max_four min_four
def calxlaw08_few.f (l0 : List (S29)) : Option (Bool) := if (l0.length : Int) ≤ 30 then (some true) else (if (l0.length : Int) > 64 then (some (decide ((l0.length : Int) ≤ 80))) else (some false))
set_option maxHeartbeats 8000000 in
set_option maxRecDepth 100000 in
theorem calxlaw08_few.calls (A0 : Option Addr) (c0 : Nat) (l0 : List (S29)) (r : Bool) (w : World) (hr0 : Kd.C k29 w A0 l0.length l0) (hc0 : l0.length ≤ c0) (h : calxlaw08_few.f l0 = some r) :
    Calls Try.prog 27 #[.slice A0 l0.length c0] w fun e w' => e = .returned (.bool r) ∧ Drawn0 w w' := by
  have HR0 := Aside0.mk hr0
  have HC0 := Aside0.mk hc0
  clear hr0 hc0
  have H : (if (l0.length : Int) ≤ 30 then (some true) else (if (l0.length : Int) > 64 then (some (decide ((l0.length : Int) ≤ 80))) else (some false))) = some r := h
  clear h
  by_cases c2 : (l0.length : Int) ≤ 30
  · rw [if_pos c2] at H
    have c2b0 : decide ((l0.length : Int) ≤ 30) = true := decide_eq_true c2
    have c2b1 : decide (l0.length ≤ 30) = true := decide_eq_true (by omega)
    clear c2
    obtain rfl := Option.some.inj H
    go_enter Try.func27, Try.ntmps27
    go_wp2
    go_ret
    exact ⟨by first | rfl | (simp; done) | (simp [*]; done), by repeat (first | exact Drawn0.refl _ | apply Drawn0.step)⟩
  · rw [if_neg c2] at H
    have c2b0 : decide ((l0.length : Int) ≤ 30) = false := decide_eq_false c2
    have c2b1 : decide (l0.length ≤ 30) = false := decide_eq_false (by omega)
    clear c2
    by_cases c3 : (l0.length : Int) > 64
    · rw [if_pos c3] at H
      have c3b0 : decide (64 < (l0.length : Int)) = true := decide_eq_true c3
      have c3b1 : decide (64 < l0.length) = true := decide_eq_true (by omega)
      clear c3
      obtain rfl := Option.some.inj H
      go_enter Try.func27, Try.ntmps27
      go_wp2
      go_ret
      exact ⟨by first | rfl | (simp; done) | (simp [*]; done), by repeat (first | exact Drawn0.refl _ | apply Drawn0.step)⟩
    · rw [if_neg c3] at H
      have c3b0 : decide (64 < (l0.length : Int)) = false := decide_eq_false c3
      have c3b1 : decide (64 < l0.length) = false := decide_eq_false (by omega)
      clear c3
      obtain rfl := Option.some.inj H
      go_enter Try.func27, Try.ntmps27
      go_wp2
      go_ret
      exact ⟨by first | rfl | (simp; done) | (simp [*]; done), by repeat (first | exact Drawn0.refl _ | apply Drawn0.step)⟩
end Go.Proofs.Ytmfphlfakmnbmaa.B
end
