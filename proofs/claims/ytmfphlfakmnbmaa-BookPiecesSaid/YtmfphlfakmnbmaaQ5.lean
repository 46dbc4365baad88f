import Derived.Test.YtmfphlfakmnbmaaQ1
import Derived.Test.YtmfphlfakmnbmaaQ2
import Derived.Test.YtmfphlfakmnbmaaQ3
import Derived.Test.YtmfphlfakmnbmaaQ4
set_option linter.unusedVariables false
set_option linter.unusedSimpArgs false
section
namespace Go.Proofs.Ytmfphlfakmnbmaa.B
open Go.RowKit Go.Proofs.YtmfphlfakmnbmaaW.PrintWords Go.Proofs.YtmfphlfakmnbmaaW.PrintLast Go.Proofs.YtmfphlfakmnbmaaW.PrintMore
attribute [local go_sem] max2_int min2_int max_two min_two max_three min_three max_four min_four
def calxlaw08_sanity.f : Option Bool := some true
def R22_17.T : Bool × List (List Nat × List Nat) := (true, [([], []), ([0], [0]), ([1], [1]), ([], []), ([3], [3]), ([4], [4]), ([2, 5], [2, 5]), ([6], [6]), ([7], [7]), ([8], [8]), ([8], [8]), ([9, 7, 0, 1, 2, 3, 4, 5, 6, 7, 8, 9], [9]), ([10, 11, 0, 1, 2, 3, 4, 5, 6, 7, 8, 9, 10, 11], [10])])
def R22_17.B : List Nat := [0, 1, 3, 0, 8, 24, 63, 127, 255, 511, 511, 1023, 4095]
theorem R22_17.tab : rtab .any (opsOf Try.f22 17) = R22_17.T := by kernel_rfl
theorem R22_17.bits : waitsOk R22_17.T.2 R22_17.B = true := by kernel_rfl
def R22_20.T : Bool × List (List Nat × List Nat) := (true, [([], []), ([], []), ([1], [1]), ([], []), ([3], []), ([3, 4], [3, 4]), ([0, 2, 5], [0, 2, 5]), ([6, 4], [6]), ([7], [7]), ([8], [8]), ([8], [8]), ([9, 7, 0, 1, 2, 3, 4, 5, 6, 7, 8, 9], [9]), ([10, 11, 0, 1, 2, 3, 4, 5, 6, 7, 8, 9, 10, 11], [10])])
def R22_20.B : List Nat := [0, 0, 2, 0, 8, 24, 63, 127, 255, 511, 511, 1023, 4095]
theorem R22_20.tab : rtab .any (opsOf Try.f22 20) = R22_20.T := by kernel_rfl
theorem R22_20.bits : waitsOk R22_20.T.2 R22_20.B = true := by kernel_rfl
set_option maxRecDepth 100000 in
set_option maxHeartbeats 4000000 in
theorem calxlaw08_sanity.calls (r : Bool) (w : World) (h : calxlaw08_sanity.f = some r) : Calls Try.prog 22 #[] w fun e w' => e = .returned (.bool r) ∧ Below w.heap.size w w' := by
 obtain rfl := Option.some.inj h
 clear h
 have hu29 := Try.underlying29
 have hu34 := Try.underlying34
 have hu39 := Try.underlying39
 have hu129 := Try.underlying129
 have hn := run_not'
 have B0 := Aside0.mk (Below.refl w.heap.size w)
 go_enter Try.func22, Try.ntmps22
 go_wp2_with fail
 refine (calxlaw08_A.calls 1 0 5 10 _ rfl).mono ?_
 rintro e u1 ⟨rfl, hd⟩
 have B1 := Aside0.mk (below_step (by repeat (first | exact B0.out | apply below_alloc | apply pw_below_drewN | apply below_drew1)) hd)
 clear hd B0 
 go_wp2_with fail
 refine (calxlaw08_B.calls 1 1 5 4 _ rfl).mono ?_
 rintro e u2 ⟨rfl, hd⟩
 have B2 := Aside0.mk (below_step (by repeat (first | exact B1.out | apply below_alloc | apply pw_below_drewN | apply below_drew1)) hd)
 clear hd B1 
 go_wp2_with fail
 refine (calxlaw08_C.calls 3 0 6 7 _ rfl).mono ?_
 rintro e u3 ⟨rfl, hd⟩
 have B3 := Aside0.mk (below_step (by repeat (first | exact B2.out | apply below_alloc | apply pw_below_drewN | apply below_drew1)) hd)
 clear hd B2 
 have l_0 := Aside0.mk (show Kd.C k29 (u3.alloc (.cells #[.int .i64 1, .int .i64 0, .int .i64 5, .int .i64 10, .int .i64 1, .int .i64 1, .int .i64 5, .int .i64 4, .int .i64 3, .int .i64 0, .int .i64 6, .int .i64 7] 29)) (some ⟨u3.heap.size, 0, none⟩) l3.length l3 from C_block (inner := [.int .i64 1, .int .i64 0, .int .i64 5, .int .i64 10, .int .i64 1, .int .i64 1, .int .i64 5, .int .i64 4, .int .i64 3, .int .i64 0, .int .i64 6, .int .i64 7]) (Reps.front (k29_mk _ eA) rfl (Reps.front (k29_mk _ eB) rfl (Reps.front (k29_mk _ eC) rfl (Reps.none _ _) rfl) rfl) rfl) (blk_new' _ _ _ rfl) (by decide))
 go_wp2_with fail
 refine (book_Digest.calls (some ⟨u3.heap.size + 1, 0, none⟩) 1 [2] _ _ _ (C_intsBlock [2] (blk_new' _ _ _ (by simp)) (by decide)) (by decide) sanD).mono ?_
 rintro e u4 ⟨rfl, nq, rfl⟩
 go_wp2_with fail
 refine (book_Root.calls _ 3 l3 _ _ _ (by repeat (first | exact l_0.out | apply Kd.C_alloc | apply Kd.C_drewN | apply Kd.C_drew)) (by decide) sanR).mono ?_
 rintro e u5 ⟨rfl, hd⟩
 have B4 := Aside0.mk (below_step (by repeat (first | exact B3.out | apply below_alloc | apply pw_below_drewN | apply below_drew1)) hd)
 have l_4 := Aside0.mk (show Kd.C k29 u5 (some ⟨u3.heap.size, 0, none⟩) l3.length l3 from Kd.C_below (by repeat (first | exact l_0.out | apply Kd.C_alloc | apply Kd.C_drewN | apply Kd.C_drew)) hd)
 clear hd B3 l_0
 go_wp2_with fail
 refine (calxlaw08_A.calls 1 0 5 10 _ rfl).mono ?_
 rintro e u6 ⟨rfl, hd⟩
 have B5 := Aside0.mk (below_step (by repeat (first | exact B4.out | apply below_alloc | apply pw_below_drewN | apply below_drew1)) hd)
 have l_5 := Aside0.mk (show Kd.C k29 u6 (some ⟨u3.heap.size, 0, none⟩) l3.length l3 from Kd.C_below (by repeat (first | exact l_4.out | apply Kd.C_alloc | apply Kd.C_drewN | apply Kd.C_drew)) hd)
 clear hd B4 l_4
 go_wp2_with fail
 refine (book_Leaf.calls 1 0 5 10 _ _ _ sanA).mono ?_
 rintro e u7 ⟨rfl, hd⟩
 have B6 := Aside0.mk (below_step (by repeat (first | exact B5.out | apply below_alloc | apply pw_below_drewN | apply below_drew1)) hd)
 have l_6 := Aside0.mk (show Kd.C k29 u7 (some ⟨u3.heap.size, 0, none⟩) l3.length l3 from Kd.C_below (by repeat (first | exact l_5.out | apply Kd.C_alloc | apply Kd.C_drewN | apply Kd.C_drew)) hd)
 clear hd B5 l_5
 go_wp2_with fail
 refine (calxlaw08_B.calls 1 1 5 4 _ rfl).mono ?_
 rintro e u8 ⟨rfl, hd⟩
 have B7 := Aside0.mk (below_step (by repeat (first | exact B6.out | apply below_alloc | apply pw_below_drewN | apply below_drew1)) hd)
 have l_7 := Aside0.mk (show Kd.C k29 u8 (some ⟨u3.heap.size, 0, none⟩) l3.length l3 from Kd.C_below (by repeat (first | exact l_6.out | apply Kd.C_alloc | apply Kd.C_drewN | apply Kd.C_drew)) hd)
 clear hd B6 l_6
 go_wp2_with fail
 refine (book_Leaf.calls 1 1 5 4 _ _ _ sanB).mono ?_
 rintro e u9 ⟨rfl, hd⟩
 have B8 := Aside0.mk (below_step (by repeat (first | exact B7.out | apply below_alloc | apply pw_below_drewN | apply below_drew1)) hd)
 have l_8 := Aside0.mk (show Kd.C k29 u9 (some ⟨u3.heap.size, 0, none⟩) l3.length l3 from Kd.C_below (by repeat (first | exact l_7.out | apply Kd.C_alloc | apply Kd.C_drewN | apply Kd.C_drew)) hd)
 clear hd B7 l_7
 go_wp2_with fail
 refine (calxlaw08_C.calls 3 0 6 7 _ rfl).mono ?_
 rintro e u10 ⟨rfl, hd⟩
 have B9 := Aside0.mk (below_step (by repeat (first | exact B8.out | apply below_alloc | apply pw_below_drewN | apply below_drew1)) hd)
 have l_9 := Aside0.mk (show Kd.C k29 u10 (some ⟨u3.heap.size, 0, none⟩) l3.length l3 from Kd.C_below (by repeat (first | exact l_8.out | apply Kd.C_alloc | apply Kd.C_drewN | apply Kd.C_drew)) hd)
 clear hd B8 l_8
 go_wp2_with fail
 refine (book_Leaf.calls 3 0 6 7 _ _ _ sanC).mono ?_
 rintro e u11 ⟨rfl, hd⟩
 have B10 := Aside0.mk (below_step (by repeat (first | exact B9.out | apply below_alloc | apply pw_below_drewN | apply below_drew1)) hd)
 have l_10 := Aside0.mk (show Kd.C k29 u11 (some ⟨u3.heap.size, 0, none⟩) l3.length l3 from Kd.C_below (by repeat (first | exact l_9.out | apply Kd.C_alloc | apply Kd.C_drewN | apply Kd.C_drew)) hd)
 clear hd B9 l_9
 go_wp2_with fail
 refine (book_Node.calls _ _ _ _ _ _ sanN2).mono ?_
 rintro e u12 ⟨rfl, hd⟩
 have B11 := Aside0.mk (below_step (by repeat (first | exact B10.out | apply below_alloc | apply pw_below_drewN | apply below_drew1)) hd)
 have l_11 := Aside0.mk (show Kd.C k29 u12 (some ⟨u3.heap.size, 0, none⟩) l3.length l3 from Kd.C_below (by repeat (first | exact l_10.out | apply Kd.C_alloc | apply Kd.C_drewN | apply Kd.C_drew)) hd)
 clear hd B10 l_10
 go_wp2_with fail
 refine (book_Node.calls _ _ _ _ _ _ sanN3).mono ?_
 rintro e u13 ⟨rfl, hd⟩
 have B12 := Aside0.mk (below_step (by repeat (first | exact B11.out | apply below_alloc | apply pw_below_drewN | apply below_drew1)) hd)
 have l_12 := Aside0.mk (show Kd.C k29 u13 (some ⟨u3.heap.size, 0, none⟩) l3.length l3 from Kd.C_below (by repeat (first | exact l_11.out | apply Kd.C_alloc | apply Kd.C_drewN | apply Kd.C_drew)) hd)
 clear hd B11 l_11
 go_wp2_with fail
 refine (book_Stands.calls 10 _ 3 l3 _ _ _ _ (by repeat (first | exact l_12.out | apply Kd.C_alloc | apply Kd.C_drewN | apply Kd.C_drew)) (by decide) sanS).mono ?_
 rintro e u14 ⟨v0, rfl, hr, hd⟩
 have B13 := Aside0.mk (below_step (by repeat (first | exact B12.out | apply below_alloc | apply pw_below_drewN | apply below_drew1)) hd)
 have l_13 := Aside0.mk (show Kd.C k29 u14 (some ⟨u3.heap.size, 0, none⟩) l3.length l3 from Kd.C_below (by repeat (first | exact l_12.out | apply Kd.C_alloc | apply Kd.C_drewN | apply Kd.C_drew)) hd)
 clear hd B12 l_12
 obtain ⟨gp, cp, rfl, _, _, _⟩ := Kd.R_form hr (by decide)
 have Cp : Kd.C k129 u14 (some ⟨gp, 0, none⟩) tS.length tS ∧ tS.length ≤ cp := by
  obtain ⟨_, _, e_, h1_, h_⟩ := Kd.R_reads hr
  injection e_ with e1 _ e3
  rw [e1, e3]
  exact ⟨h_, h1_⟩
 have p_0 := Aside0.mk Cp.1
 have Lp := Aside0.mk Cp.2
 clear Cp hr
 go_wp2_with fail
 refine (book_Grown.calls 10 _ 3 l3 _ _ _ _ (by repeat (first | exact l_13.out | apply Kd.C_alloc | apply Kd.C_drewN | apply Kd.C_drew)) (by decide) sanG2).mono ?_
 rintro e u15 ⟨v0, rfl, hr, hd⟩
 have B14 := Aside0.mk (below_step (by repeat (first | exact B13.out | apply below_alloc | apply pw_below_drewN | apply below_drew1)) hd)
 have l_14 := Aside0.mk (show Kd.C k29 u15 (some ⟨u3.heap.size, 0, none⟩) l3.length l3 from Kd.C_below (by repeat (first | exact l_13.out | apply Kd.C_alloc | apply Kd.C_drewN | apply Kd.C_drew)) hd)
 have p_14 := Aside0.mk (show Kd.C k129 u15 (some ⟨gp, 0, none⟩) tS.length tS from Kd.C_below (by repeat (first | exact p_0.out | apply Kd.C_alloc | apply Kd.C_drewN | apply Kd.C_drew)) hd)
 clear hd B13 l_13 p_0
 obtain ⟨gq, cq, rfl, _, _, _⟩ := Kd.R_form hr (by decide)
 have Cq : Kd.C k129 u15 (some ⟨gq, 0, none⟩) tG2.length tG2 ∧ tG2.length ≤ cq := by
  obtain ⟨_, _, e_, h1_, h_⟩ := Kd.R_reads hr
  injection e_ with e1 _ e3
  rw [e1, e3]
  exact ⟨h_, h1_⟩
 have q_0 := Aside0.mk Cq.1
 have Lq := Aside0.mk Cq.2
 clear Cq hr
 go_wp2_with fail
 refine (book_Grown.calls 10 _ 3 l3 _ _ _ _ (by repeat (first | exact l_14.out | apply Kd.C_alloc | apply Kd.C_drewN | apply Kd.C_drew)) (by decide) sanG1).mono ?_
 rintro e u16 ⟨v0, rfl, hr, hd⟩
 have B15 := Aside0.mk (below_step (by repeat (first | exact B14.out | apply below_alloc | apply pw_below_drewN | apply below_drew1)) hd)
 have l_15 := Aside0.mk (show Kd.C k29 u16 (some ⟨u3.heap.size, 0, none⟩) l3.length l3 from Kd.C_below (by repeat (first | exact l_14.out | apply Kd.C_alloc | apply Kd.C_drewN | apply Kd.C_drew)) hd)
 have p_15 := Aside0.mk (show Kd.C k129 u16 (some ⟨gp, 0, none⟩) tS.length tS from Kd.C_below (by repeat (first | exact p_14.out | apply Kd.C_alloc | apply Kd.C_drewN | apply Kd.C_drew)) hd)
 have q_15 := Aside0.mk (show Kd.C k129 u16 (some ⟨gq, 0, none⟩) tG2.length tG2 from Kd.C_below (by repeat (first | exact q_0.out | apply Kd.C_alloc | apply Kd.C_drewN | apply Kd.C_drew)) hd)
 clear hd B14 l_14 p_14 q_0
 obtain ⟨gs, cs, rfl, _, _, _⟩ := Kd.R_form hr (by decide)
 have Cs : Kd.C k129 u16 (some ⟨gs, 0, none⟩) tG1.length tG1 ∧ tG1.length ≤ cs := by
  obtain ⟨_, _, e_, h1_, h_⟩ := Kd.R_reads hr
  injection e_ with e1 _ e3
  rw [e1, e3]
  exact ⟨h_, h1_⟩
 have s_0 := Aside0.mk Cs.1
 have Ls := Aside0.mk Cs.2
 clear Cs hr
 go_wp2_with fail
 refine (calxlaw08_A.calls 1 0 5 10 _ rfl).mono ?_
 rintro e u17 ⟨rfl, hd⟩
 have B16 := Aside0.mk (below_step (by repeat (first | exact B15.out | apply below_alloc | apply pw_below_drewN | apply below_drew1)) hd)
 have l_16 := Aside0.mk (show Kd.C k29 u17 (some ⟨u3.heap.size, 0, none⟩) l3.length l3 from Kd.C_below (by repeat (first | exact l_15.out | apply Kd.C_alloc | apply Kd.C_drewN | apply Kd.C_drew)) hd)
 have p_16 := Aside0.mk (show Kd.C k129 u17 (some ⟨gp, 0, none⟩) tS.length tS from Kd.C_below (by repeat (first | exact p_15.out | apply Kd.C_alloc | apply Kd.C_drewN | apply Kd.C_drew)) hd)
 have q_16 := Aside0.mk (show Kd.C k129 u17 (some ⟨gq, 0, none⟩) tG2.length tG2 from Kd.C_below (by repeat (first | exact q_15.out | apply Kd.C_alloc | apply Kd.C_drewN | apply Kd.C_drew)) hd)
 have s_16 := Aside0.mk (show Kd.C k129 u17 (some ⟨gs, 0, none⟩) tG1.length tG1 from Kd.C_below (by repeat (first | exact s_0.out | apply Kd.C_alloc | apply Kd.C_drewN | apply Kd.C_drew)) hd)
 clear hd B15 l_15 p_15 q_15 s_0
 go_wp2_with fail
 refine (calxlaw08_C.calls 3 0 6 7 _ rfl).mono ?_
 rintro e u18 ⟨rfl, hd⟩
 have B17 := Aside0.mk (below_step (by repeat (first | exact B16.out | apply below_alloc | apply pw_below_drewN | apply below_drew1)) hd)
 have l_17 := Aside0.mk (show Kd.C k29 u18 (some ⟨u3.heap.size, 0, none⟩) l3.length l3 from Kd.C_below (by repeat (first | exact l_16.out | apply Kd.C_alloc | apply Kd.C_drewN | apply Kd.C_drew)) hd)
 have p_17 := Aside0.mk (show Kd.C k129 u18 (some ⟨gp, 0, none⟩) tS.length tS from Kd.C_below (by repeat (first | exact p_16.out | apply Kd.C_alloc | apply Kd.C_drewN | apply Kd.C_drew)) hd)
 have q_17 := Aside0.mk (show Kd.C k129 u18 (some ⟨gq, 0, none⟩) tG2.length tG2 from Kd.C_below (by repeat (first | exact q_16.out | apply Kd.C_alloc | apply Kd.C_drewN | apply Kd.C_drew)) hd)
 have s_17 := Aside0.mk (show Kd.C k129 u18 (some ⟨gs, 0, none⟩) tG1.length tG1 from Kd.C_below (by repeat (first | exact s_16.out | apply Kd.C_alloc | apply Kd.C_drewN | apply Kd.C_drew)) hd)
 clear hd B16 l_16 p_16 q_16 s_16
 have m_0 := Aside0.mk (show Kd.C k29 (u18.alloc (.cells #[.int .i64 1, .int .i64 0, .int .i64 5, .int .i64 10, .int .i64 3, .int .i64 0, .int .i64 6, .int .i64 7] 29)) (some ⟨u18.heap.size, 0, none⟩) 2 [eA, eC] from C_block (inner := [.int .i64 1, .int .i64 0, .int .i64 5, .int .i64 10, .int .i64 3, .int .i64 0, .int .i64 6, .int .i64 7]) (Reps.front (k29_mk _ eA) rfl (Reps.front (k29_mk _ eC) rfl (Reps.none _ _) rfl) rfl) (blk_new' _ _ _ rfl) (by decide))
 go_wp2_with fail
 refine (book_Fork.calls _ 3 l3 _ 2 [eA, eC] _ _ _ _ _ _ (by repeat (first | exact l_17.out | apply Kd.C_alloc | apply Kd.C_drewN | apply Kd.C_drew)) (by decide) m_0.out (by decide) sanF).mono ?_
 rintro e u19 ⟨v1, v2, rfl, hr1, hr2, hd⟩
 clear m_0
 have B18 := Aside0.mk (below_step (by repeat (first | exact B17.out | apply below_alloc | apply pw_below_drewN | apply below_drew1)) hd)
 have l_18 := Aside0.mk (show Kd.C k29 u19 (some ⟨u3.heap.size, 0, none⟩) l3.length l3 from Kd.C_below (by repeat (first | exact l_17.out | apply Kd.C_alloc | apply Kd.C_drewN | apply Kd.C_drew)) hd)
 have p_18 := Aside0.mk (show Kd.C k129 u19 (some ⟨gp, 0, none⟩) tS.length tS from Kd.C_below (by repeat (first | exact p_17.out | apply Kd.C_alloc | apply Kd.C_drewN | apply Kd.C_drew)) hd)
 have q_18 := Aside0.mk (show Kd.C k129 u19 (some ⟨gq, 0, none⟩) tG2.length tG2 from Kd.C_below (by repeat (first | exact q_17.out | apply Kd.C_alloc | apply Kd.C_drewN | apply Kd.C_drew)) hd)
 have s_18 := Aside0.mk (show Kd.C k129 u19 (some ⟨gs, 0, none⟩) tG1.length tG1 from Kd.C_below (by repeat (first | exact s_17.out | apply Kd.C_alloc | apply Kd.C_drewN | apply Kd.C_drew)) hd)
 clear hd B17 l_17 p_17 q_17 s_17
 obtain ⟨gx, cx, rfl, _, _, _⟩ := Kd.R_form hr1 (by decide)
 have Cx : Kd.C k129 u19 (some ⟨gx, 0, none⟩) tS.length tS ∧ tS.length ≤ cx := by
  obtain ⟨_, _, e_, h1_, h_⟩ := Kd.R_reads hr1
  injection e_ with e1 _ e3
  rw [e1, e3]
  exact ⟨h_, h1_⟩
 have x_0 := Aside0.mk Cx.1
 have Lx := Aside0.mk Cx.2
 clear Cx hr1
 obtain ⟨gy, cy, rfl, _, _, _⟩ := Kd.R_form hr2 (by decide)
 have Cy : Kd.C k129 u19 (some ⟨gy, 0, none⟩) 1 [⟨0, 1, 646776846⟩] ∧ 1 ≤ cy := by
  obtain ⟨_, _, e_, h1_, h_⟩ := Kd.R_reads hr2
  injection e_ with e1 _ e3
  rw [e1, e3]
  exact ⟨h_, h1_⟩
 have y_0 := Aside0.mk Cy.1
 have Ly := Aside0.mk Cy.2
 clear Cy hr2
 obtain ⟨ad0, e0, _, _, hd2⟩ := at_T129 p_18.out (0 : Int) (by decide) (by decide)
 injection e0 with e0
 subst e0
 obtain ⟨ad0, e0, _, _, hd5⟩ := at_T129 p_18.out (1 : Int) (by decide) (by decide)
 injection e0 with e0
 subst e0
 have hq2 : ∀ o n, ((u19.alloc o).drewN n).cell? ⟨gp, 2, none⟩ = some (.int .i64 646776846) := fun o n => (World.cell?_alloc_lt _ _ _ (World.block_lt_of_cell? _ _ hd2)).trans hd2
 have hq5 : ∀ o n, ((u19.alloc o).drewN n).cell? ⟨gp, 5, none⟩ = some (.int .i64 599416721) := fun o n => (World.cell?_alloc_lt _ _ _ (World.block_lt_of_cell? _ _ hd5)).trans hd5
 clear hd2 hd5
 go_wp2_with fail
 refine (calxlaw08_places.calls 10 _ _ tS _ 4 [0, 1, 2, 1] _ _ (by repeat (first | exact p_18.out | apply Kd.C_alloc | apply Kd.C_drewN | apply Kd.C_drew)) Lp.out (C_intsBlock [0, 1, 2, 1] (blk_new' _ _ _ (by simp)) (by decide)) (by decide) sanP1).mono ?_
 rintro e u ⟨rfl, n0, rfl⟩
 have z0 : (0 : Int) < 2 := by decide
 have z1 : (1 : Int) < 2 := by decide
 go_wp2_with fail
 refine (calxlaw08_places.calls 10 _ _ tG2 _ 4 [0, 2, 2, 1] _ _ (by repeat (first | exact q_18.out | apply Kd.C_alloc | apply Kd.C_drewN | apply Kd.C_drew)) Lq.out (C_intsBlock [0, 2, 2, 1] (blk_new' _ _ _ (by simp)) (by decide)) (by decide) sanP2).mono ?_
 rintro e u ⟨rfl, n1, rfl⟩
 go_wp2_with fail
 refine (calxlaw08_places.calls 10 _ _ tG1 _ 6 [0, 1, 1, 1, 2, 1] _ _ (by repeat (first | exact s_18.out | apply Kd.C_alloc | apply Kd.C_drewN | apply Kd.C_drew)) Ls.out (C_intsBlock [0, 1, 1, 1, 2, 1] (blk_new' _ _ _ (by simp)) (by decide)) (by decide) sanP3).mono ?_
 rintro e u ⟨rfl, n2, rfl⟩
 go_wp2_with fail
 refine (calxlaw08_places.calls 10 _ _ tS _ 4 [0, 1, 2, 1] _ _ (by repeat (first | exact x_0.out | apply Kd.C_alloc | apply Kd.C_drewN | apply Kd.C_drew)) Lx.out (C_intsBlock [0, 1, 2, 1] (blk_new' _ _ _ (by simp)) (by decide)) (by decide) sanP1).mono ?_
 rintro e u ⟨rfl, n3, rfl⟩
 go_wp2_with fail
 refine (calxlaw08_places.calls 10 _ _ [(⟨0, 1, 646776846⟩ : S129)] _ 2 [0, 1] _ _ (by repeat (first | exact y_0.out | apply Kd.C_alloc | apply Kd.C_drewN | apply Kd.C_drew)) Ly.out (C_intsBlock [0, 1] (blk_new' _ _ _ (by simp)) (by decide)) (by decide) sanP4).mono ?_
 rintro e u20 ⟨rfl, hdr⟩
 have hd := hdr.below
 clear hdr hq2 hq5 z0 z1
 have B19 := Aside0.mk (below_step (by repeat (first | exact B18.out | apply below_alloc | apply pw_below_drewN | apply below_drew1)) hd)
 have l_19 := Aside0.mk (show Kd.C k29 u20 (some ⟨u3.heap.size, 0, none⟩) l3.length l3 from Kd.C_below (by repeat (first | exact l_18.out | apply Kd.C_alloc | apply Kd.C_drewN | apply Kd.C_drew)) hd)
 clear hd B18 l_18
 obtain ⟨bl, hbl⟩ : ∃ bl, bl = u3.heap.size := ⟨_, rfl⟩
 obtain ⟨i0, hi, _, hsz, _⟩ := info_parts info29
 have hA : ∀ W : World, (Instr.slice 32 (.slice (some ⟨bl, 0, none⟩) 3 3) none (some (.int .i64 2)) none).run Try.prog W = .ok (.slice (some ⟨bl, 0, none⟩) 2 3) W := cut_to (P := Try.prog) 32 29 .i64 Try.underlying32 hi (some ⟨bl, 0, none⟩) 3 3 2 (by decide) (by decide) (by decide)
 have hB : ∀ W : World, (Instr.slice 32 (.slice (some ⟨bl, 0, none⟩) 3 3) (some (.int .i64 1)) none none).run Try.prog W = .ok (.slice (some ⟨bl, 4, none⟩) 2 2) W := by
  have h := cut_from (P := Try.prog) 32 29 .i64 Try.underlying32 hi 4 hsz (some ⟨bl, 0, none⟩) 3 3 1 (by decide) (by decide)
  simpa [add_plain] using h
 have hM : ∀ W : World, (Instr.slice 32 (.slice (some ⟨bl, 0, none⟩) 3 3) (some (.int .i64 1)) (some (.int .i64 2)) none).run Try.prog W = .ok (.slice (some ⟨bl, 4, none⟩) 1 2) W := by
  have h := cut_mid (P := Try.prog) 32 29 .i64 .i64 Try.underlying32 hi 4 hsz (some ⟨bl, 0, none⟩) 3 3 1 2 (by decide) (by decide) (by decide) (by decide)
  simpa [add_plain] using h
 clear hi hsz
 have k_0 := Aside0.mk (show Kd.C k29 u20 (some ⟨bl, 0, none⟩) 3 l3 by rw [hbl]; exact l_19.out)
 have a_0 := Aside0.mk (show Kd.C k29 u20 (some ⟨bl, 0, none⟩) 2 [eA, eB] from Kd.C_take (m := 2) (show Kd.C k29 u20 (some ⟨bl, 0, none⟩) l3.length l3 from k_0.out) (by decide))
 have b_0 := Aside0.mk (show Kd.C k29 u20 (some ⟨bl, 4, none⟩) 2 [eB, eC] by have h := Kd.C_drop (c := 3) (m := 1) (show Kd.C k29 u20 (some ⟨bl, 0, none⟩) l3.length l3 from k_0.out) (by decide) (by decide); simpa [add_plain, show k29.sz = 4 from rfl] using h)
 have m_0 := Aside0.mk (show Kd.C k29 u20 (some ⟨bl, 4, none⟩) 1 [eB] from Kd.C_take (m := 1) (xs := [eB, eC]) b_0.out (by decide))
 rw [← hbl]
 clear hbl l_19
 go_wp2
 have B20 := Aside0.mk (below_drew1 (by repeat (first | exact B19.out | apply below_alloc | apply pw_below_drewN | apply below_drew1)))
 have k_20 := Aside0.mk (show Kd.C k29 (u20).drew (some ⟨bl, 0, none⟩) 3 l3 from Kd.C_drew (by repeat (first | exact k_0.out | apply Kd.C_alloc | apply Kd.C_drewN | apply Kd.C_drew)))
 have a_20 := Aside0.mk (show Kd.C k29 (u20).drew (some ⟨bl, 0, none⟩) 2 [eA, eB] from Kd.C_drew (by repeat (first | exact a_0.out | apply Kd.C_alloc | apply Kd.C_drewN | apply Kd.C_drew)))
 have b_20 := Aside0.mk (show Kd.C k29 (u20).drew (some ⟨bl, 4, none⟩) 2 [eB, eC] from Kd.C_drew (by repeat (first | exact b_0.out | apply Kd.C_alloc | apply Kd.C_drewN | apply Kd.C_drew)))
 have m_20 := Aside0.mk (show Kd.C k29 (u20).drew (some ⟨bl, 4, none⟩) 1 [eB] from Kd.C_drew (by repeat (first | exact m_0.out | apply Kd.C_alloc | apply Kd.C_drewN | apply Kd.C_drew)))
 clear B19 k_0 a_0 b_0 m_0
 refine start_ (n := 13) (S := fun w' => True) (ds := []) #[false, false, false, false, false, false, false, false, false, false, false, false, false] (by kernel_rfl) rfl rfl trivial (fun hHeld => ?_); refine with_tabW R22_17.tab R22_17.bits (fun HT_ HW_ => ?_)
 generalize (u20).drew = d17 at B20 k_20 a_20 b_20 m_20 hHeld ⊢
 refine pure_ (i := 0) (N := (some 206)) (v := ?_) (a' := ?_) #[true, false, false, false, false, false, false, false, false, false, false, false, false] rfl rfl (any_of HT_.out (by kernel_rfl)) (fun _ _ _ h => h) (Or.inl ⟨by rfl, ?_⟩) ?_ ?_
 rotate_left
 ·intro w'
  go_simp
  with_reducible rfl
 rotate_left
 ·simp only [Act.put, List.setIfInBounds_toArray, List.set_cons_zero, List.set_cons_succ, i64_w, i32_w]
  rfl
 refine pure_ (i := 1) (N := (some 207)) (v := ?_) (a' := ?_) #[true, true, false, false, false, false, false, false, false, false, false, false, false] rfl rfl (any_of HT_.out (by kernel_rfl)) (fun _ _ _ h => h) (Or.inl ⟨by rfl, ?_⟩) ?_ ?_
 rotate_left
 ·intro w'
  go_simp
  with_reducible rfl
 rotate_left
 ·simp only [Act.put, List.setIfInBounds_toArray, List.set_cons_zero, List.set_cons_succ, i64_w, i32_w]
  rfl
 refine pure_ (i := 2) (N := (some 208)) (v := ?_) (a' := ?_) #[true, true, true, false, false, false, false, false, false, false, false, false, false] rfl rfl (any_of HT_.out (by kernel_rfl)) (fun _ _ _ h => h) (Or.inl ⟨by rfl, ?_⟩) ?_ ?_
 rotate_left
 ·intro w'
  go_simp
  with_reducible rfl
 rotate_left
 ·simp only [Act.put, List.setIfInBounds_toArray, List.set_cons_zero, List.set_cons_succ, i64_w, i32_w]
  rfl
 refine pure_ (i := 3) (N := (some 209)) (v := ?_) (a' := ?_) #[true, true, true, true, false, false, false, false, false, false, false, false, false] rfl rfl (any_of HT_.out (by kernel_rfl)) (fun _ _ _ h => h) (Or.inl ⟨by rfl, ?_⟩) ?_ ?_
 rotate_left
 ·intro w'
  go_simp
  with_reducible rfl
 rotate_left
 ·simp only [Act.put, List.setIfInBounds_toArray, List.set_cons_zero, List.set_cons_succ, i64_w, i32_w]
  rfl
 refine pure_ (i := 4) (N := (some 210)) (v := ?_) (a' := ?_) #[true, true, true, true, true, false, false, false, false, false, false, false, false] rfl rfl (any_of HT_.out (by kernel_rfl)) (fun _ _ _ h => h) (Or.inl ⟨by rfl, ?_⟩) ?_ ?_
 rotate_left
 ·intro w'
  go_simp
  with_reducible rfl
 rotate_left
 ·simp only [Act.put, List.setIfInBounds_toArray, List.set_cons_zero, List.set_cons_succ, i64_w, i32_w]
  rfl
 refine pure_ (i := 5) (N := (some 211)) (v := ?_) (a' := ?_) #[true, true, true, true, true, true, false, false, false, false, false, false, false] rfl rfl (any_of HT_.out (by kernel_rfl)) (fun _ _ _ h => h) (Or.inl ⟨by rfl, ?_⟩) ?_ ?_
 rotate_left
 ·intro w'
  go_simp
  with_reducible rfl
 rotate_left
 ·simp only [Act.put, List.setIfInBounds_toArray, List.set_cons_zero, List.set_cons_succ, i64_w, i32_w]
  rfl
 refine one_ (i := 6) (N := (some 212)) #[true, true, true, true, true, true, true, false, false, false, false, false, false] rfl rfl (one_of HT_.out (by kernel_rfl)) (by decide) (fun K hK => ?_)
 refine value_ (w1 := ?_) (v := ?_) (by rfl) rfl ?_ ?_
 rotate_left 2
 ·go_simp
  constructor
  ·rfl
  ·rfl
 refine hK.out _ _ trivial (fun hHeld => ?_)
 clear hK K
 refine norm_ (a' := ?_) ?_ ?_
 rotate_left
 ·show Act.put _ (some 212) _ = _
  simp only [Act.put, List.setIfInBounds_toArray, List.set_cons_zero, List.set_cons_succ, i64_w, i32_w]
  rfl
 refine one_ (i := 7) (N := (some 213)) #[true, true, true, true, true, true, true, true, false, false, false, false, false] rfl rfl (one_of HT_.out (by kernel_rfl)) (by decide) (fun K hK => ?_)
 refine goes_ Try.func23 (by kernel_rfl) rfl #[.slice (some ⟨d17.heap.size, 0, none⟩) 2 2] (by rfl) rfl rfl (by (try simp only [List.map_toArray, List.map_cons, List.map_nil]); first | done | rfl | (simp only [List.length_drop, List.length_take]; rfl)) ?_
 refine (book_Join.calls (some ⟨d17.heap.size, 0, none⟩) 2 [⟨0, [eA, eB]⟩, ⟨1, [eB, eC]⟩] _ _ _ (C_block (inner := [.int .i64 0, .slice (some ⟨bl, 0, none⟩) 2 3, .int .i64 1, .slice (some ⟨bl, 4, none⟩) 2 2]) (ps := [(⟨0, [eA, eB]⟩ : S34), (⟨1, [eB, eC]⟩ : S34)]) (Reps.front (k34_mk _ (⟨0, [eA, eB]⟩ : S34) (show 2 ≤ 3 by decide) (by repeat (first | exact a_20.out | apply Kd.C_alloc | apply Kd.C_drewN | apply Kd.C_drew))) rfl (Reps.front (k34_mk _ (⟨1, [eB, eC]⟩ : S34) (show 2 ≤ 2 by decide) (by repeat (first | exact b_20.out | apply Kd.C_alloc | apply Kd.C_drewN | apply Kd.C_drew))) rfl (Reps.none _ _) rfl) rfl) (blk_new' _ _ _ (by simp)) (by decide)) (by decide) sanJ).mono ?_
 rintro e u21 ⟨v0, rfl, hr0, hd⟩
 have hr := Kd.S_R hr0
 clear hr0
 refine ⟨_, rfl, ?_⟩
 have B21 := Aside0.mk (below_step (by repeat (first | exact B20.out | apply below_alloc | apply pw_below_drewN | apply below_drew1)) hd)
 have k_21 := Aside0.mk (show Kd.C k29 u21 (some ⟨bl, 0, none⟩) 3 l3 from Kd.C_below (by repeat (first | exact k_20.out | apply Kd.C_alloc | apply Kd.C_drewN | apply Kd.C_drew)) hd)
 have a_21 := Aside0.mk (show Kd.C k29 u21 (some ⟨bl, 0, none⟩) 2 [eA, eB] from Kd.C_below (by repeat (first | exact a_20.out | apply Kd.C_alloc | apply Kd.C_drewN | apply Kd.C_drew)) hd)
 have b_21 := Aside0.mk (show Kd.C k29 u21 (some ⟨bl, 4, none⟩) 2 [eB, eC] from Kd.C_below (by repeat (first | exact b_20.out | apply Kd.C_alloc | apply Kd.C_drewN | apply Kd.C_drew)) hd)
 have m_21 := Aside0.mk (show Kd.C k29 u21 (some ⟨bl, 4, none⟩) 1 [eB] from Kd.C_below (by repeat (first | exact m_20.out | apply Kd.C_alloc | apply Kd.C_drewN | apply Kd.C_drew)) hd)
 clear hd B20 k_20 a_20 b_20 m_20
 obtain ⟨gj, cj, rfl, _, _, _⟩ := Kd.R_form hr (by decide)
 have Cj : Kd.C k34 u21 (some ⟨gj, 0, none⟩) 1 [(⟨0, l3⟩ : S34)] ∧ 1 ≤ cj := by
  obtain ⟨_, _, e_, h1_, h_⟩ := Kd.R_reads hr
  injection e_ with e1 _ e3
  rw [e1, e3]
  exact ⟨h_, h1_⟩
 have j_0 := Aside0.mk Cj.1
 have Lj := Aside0.mk Cj.2
 clear Cj hr
 refine hK.out _ _ trivial (fun hHeld => ?_)
 clear hK K
 refine norm_ (a' := ?_) ?_ ?_
 rotate_left
 ·show Act.put _ (some 213) _ = _
  simp only [Act.put, List.setIfInBounds_toArray, List.set_cons_zero, List.set_cons_succ, i64_w, i32_w]
  rfl
 refine pure_ (i := 8) (N := (some 205)) (v := ?_) (a' := ?_) #[true, true, true, true, true, true, true, true, true, false, false, false, false] rfl rfl (any_of HT_.out (by kernel_rfl)) (fun _ _ _ h => h) (Or.inl ⟨by rfl, ?_⟩) ?_ ?_
 rotate_left
 ·intro w'
  go_simp
  with_reducible rfl
 rotate_left
 ·simp only [Act.put, List.setIfInBounds_toArray, List.set_cons_zero, List.set_cons_succ, i64_w, i32_w]
  rfl
 refine pure_ (i := 9) (N := (some 214)) (v := ?_) (a' := ?_) #[true, true, true, true, true, true, true, true, true, true, false, false, false] rfl rfl (any_of HT_.out (by kernel_rfl)) (fun _ _ _ h => h) (Or.inl ⟨by rfl, ?_⟩) ?_ ?_
 rotate_left
 ·intro w'
  go_simp
  with_reducible rfl
 rotate_left
 ·simp only [Act.put, List.setIfInBounds_toArray, List.set_cons_zero, List.set_cons_succ, i64_w, i32_w]
  rfl
 refine pure_ (i := 10) (N := (some 215)) (v := ?_) (a' := ?_) #[true, true, true, true, true, true, true, true, true, true, true, false, false] rfl rfl (any_of HT_.out (by kernel_rfl)) (fun _ _ _ h => h) (Or.inl ⟨by rfl, ?_⟩) ?_ ?_
 rotate_left
 ·intro w'
  go_simp
  with_reducible rfl
 rotate_left
 ·simp only [Act.put, List.setIfInBounds_toArray, List.set_cons_zero, List.set_cons_succ, i64_w, i32_w]
  rfl
 refine pure_ (i := 11) (N := (some 27)) (v := ?_) (a' := ?_) #[true, true, true, true, true, true, true, true, true, true, true, true, false] rfl rfl (any_of HT_.out (by kernel_rfl)) (fun _ _ _ h => h) (Or.inl ⟨by rfl, ?_⟩) ?_ ?_
 rotate_left
 ·intro w'
  go_simp
  with_reducible rfl
 rotate_left
 ·simp only [Act.put, List.setIfInBounds_toArray, List.set_cons_zero, List.set_cons_succ, i64_w, i32_w]
  rfl
 refine pure_ (i := 12) (N := (some 28)) (v := ?_) (a' := ?_) #[true, true, true, true, true, true, true, true, true, true, true, true, true] rfl rfl (any_of HT_.out (by kernel_rfl)) (fun _ _ _ h => h) (Or.inl ⟨by rfl, ?_⟩) ?_ ?_
 rotate_left
 ·intro w'
  go_simp
  with_reducible rfl
 rotate_left
 ·simp only [Act.put, List.setIfInBounds_toArray, List.set_cons_zero, List.set_cons_succ, i64_w, i32_w]
  rfl
 refine done_ (done_of HT_.out (by kernel_rfl)) ?_
 go_wp2_with fail
 refine (book_Missing.calls (some ⟨u21.heap.size, 0, none⟩) 1 [⟨1, [eB]⟩] 3 _ _ _ (C_block (inner := [.int .i64 1, .slice (some ⟨bl, 4, none⟩) 1 2]) (ps := [(⟨1, [eB]⟩ : S34)]) (Reps.front (k34_mk _ (⟨1, [eB]⟩ : S34) (show 1 ≤ 2 by decide) (by repeat (first | exact m_21.out | apply Kd.C_alloc | apply Kd.C_drewN | apply Kd.C_drew))) rfl (Reps.none _ _) rfl) (blk_new' _ _ _ (by simp)) (by decide)) (by decide) sanM).mono ?_
 rintro e u22 ⟨v0, rfl, hr, hd⟩
 have B22 := Aside0.mk (below_step (by repeat (first | exact B21.out | apply below_alloc | apply pw_below_drewN | apply below_drew1)) hd)
 have k_22 := Aside0.mk (show Kd.C k29 u22 (some ⟨bl, 0, none⟩) 3 l3 from Kd.C_below (by repeat (first | exact k_21.out | apply Kd.C_alloc | apply Kd.C_drewN | apply Kd.C_drew)) hd)
 have a_22 := Aside0.mk (show Kd.C k29 u22 (some ⟨bl, 0, none⟩) 2 [eA, eB] from Kd.C_below (by repeat (first | exact a_21.out | apply Kd.C_alloc | apply Kd.C_drewN | apply Kd.C_drew)) hd)
 have b_22 := Aside0.mk (show Kd.C k29 u22 (some ⟨bl, 4, none⟩) 2 [eB, eC] from Kd.C_below (by repeat (first | exact b_21.out | apply Kd.C_alloc | apply Kd.C_drewN | apply Kd.C_drew)) hd)
 have m_22 := Aside0.mk (show Kd.C k29 u22 (some ⟨bl, 4, none⟩) 1 [eB] from Kd.C_below (by repeat (first | exact m_21.out | apply Kd.C_alloc | apply Kd.C_drewN | apply Kd.C_drew)) hd)
 have j_22 := Aside0.mk (show Kd.C k34 u22 (some ⟨gj, 0, none⟩) 1 [(⟨0, l3⟩ : S34)] from Kd.C_below (by repeat (first | exact j_0.out | apply Kd.C_alloc | apply Kd.C_drewN | apply Kd.C_drew)) hd)
 clear hd B21 k_21 a_21 b_21 m_21 j_0
 obtain ⟨gz, cz, rfl, _, _, _⟩ := Kd.R_form hr (by decide)
 have Cz : Kd.C k39 u22 (some ⟨gz, 0, none⟩) 2 [(⟨0, 0⟩ : S39), ⟨2, 2⟩] ∧ 2 ≤ cz := by
  obtain ⟨_, _, e_, h1_, h_⟩ := Kd.R_reads hr
  injection e_ with e1 _ e3
  rw [e1, e3]
  exact ⟨h_, h1_⟩
 have z_0 := Aside0.mk Cz.1
 have Lz := Aside0.mk Cz.2
 clear Cz hr
 go_wp2_with fail
 refine (book_Total.calls _ 3 l3 0 5 3 _ _ _ (by repeat (first | exact k_22.out | apply Kd.C_alloc | apply Kd.C_drewN | apply Kd.C_drew)) (by decide) sanT).mono ?_
 rintro e u23 ⟨rfl, hd⟩
 have B23 := Aside0.mk (below_step (by repeat (first | exact B22.out | apply below_alloc | apply pw_below_drewN | apply below_drew1)) hd)
 have k_23 := Aside0.mk (show Kd.C k29 u23 (some ⟨bl, 0, none⟩) 3 l3 from Kd.C_below (by repeat (first | exact k_22.out | apply Kd.C_alloc | apply Kd.C_drewN | apply Kd.C_drew)) hd)
 have a_23 := Aside0.mk (show Kd.C k29 u23 (some ⟨bl, 0, none⟩) 2 [eA, eB] from Kd.C_below (by repeat (first | exact a_22.out | apply Kd.C_alloc | apply Kd.C_drewN | apply Kd.C_drew)) hd)
 have b_23 := Aside0.mk (show Kd.C k29 u23 (some ⟨bl, 4, none⟩) 2 [eB, eC] from Kd.C_below (by repeat (first | exact b_22.out | apply Kd.C_alloc | apply Kd.C_drewN | apply Kd.C_drew)) hd)
 have m_23 := Aside0.mk (show Kd.C k29 u23 (some ⟨bl, 4, none⟩) 1 [eB] from Kd.C_below (by repeat (first | exact m_22.out | apply Kd.C_alloc | apply Kd.C_drewN | apply Kd.C_drew)) hd)
 have j_23 := Aside0.mk (show Kd.C k34 u23 (some ⟨gj, 0, none⟩) 1 [(⟨0, l3⟩ : S34)] from Kd.C_below (by repeat (first | exact j_22.out | apply Kd.C_alloc | apply Kd.C_drewN | apply Kd.C_drew)) hd)
 have z_23 := Aside0.mk (show Kd.C k39 u23 (some ⟨gz, 0, none⟩) 2 [(⟨0, 0⟩ : S39), ⟨2, 2⟩] from Kd.C_below (by repeat (first | exact z_0.out | apply Kd.C_alloc | apply Kd.C_drewN | apply Kd.C_drew)) hd)
 clear hd B22 k_22 a_22 b_22 m_22 j_22 z_0
 go_wp2
 have B24 := Aside0.mk (below_drew1 (by repeat (first | exact B23.out | apply below_alloc | apply pw_below_drewN | apply below_drew1)))
 have k_24 := Aside0.mk (show Kd.C k29 (u23).drew (some ⟨bl, 0, none⟩) 3 l3 from Kd.C_drew (by repeat (first | exact k_23.out | apply Kd.C_alloc | apply Kd.C_drewN | apply Kd.C_drew)))
 have a_24 := Aside0.mk (show Kd.C k29 (u23).drew (some ⟨bl, 0, none⟩) 2 [eA, eB] from Kd.C_drew (by repeat (first | exact a_23.out | apply Kd.C_alloc | apply Kd.C_drewN | apply Kd.C_drew)))
 have b_24 := Aside0.mk (show Kd.C k29 (u23).drew (some ⟨bl, 4, none⟩) 2 [eB, eC] from Kd.C_drew (by repeat (first | exact b_23.out | apply Kd.C_alloc | apply Kd.C_drewN | apply Kd.C_drew)))
 have m_24 := Aside0.mk (show Kd.C k29 (u23).drew (some ⟨bl, 4, none⟩) 1 [eB] from Kd.C_drew (by repeat (first | exact m_23.out | apply Kd.C_alloc | apply Kd.C_drewN | apply Kd.C_drew)))
 have j_24 := Aside0.mk (show Kd.C k34 (u23).drew (some ⟨gj, 0, none⟩) 1 [(⟨0, l3⟩ : S34)] from Kd.C_drew (by repeat (first | exact j_23.out | apply Kd.C_alloc | apply Kd.C_drewN | apply Kd.C_drew)))
 have z_24 := Aside0.mk (show Kd.C k39 (u23).drew (some ⟨gz, 0, none⟩) 2 [(⟨0, 0⟩ : S39), ⟨2, 2⟩] from Kd.C_drew (by repeat (first | exact z_23.out | apply Kd.C_alloc | apply Kd.C_drewN | apply Kd.C_drew)))
 clear B23 k_23 a_23 b_23 m_23 j_23 z_23
 refine start_ (n := 13) (S := fun w' => True) (ds := []) #[false, false, false, false, false, false, false, false, false, false, false, false, false] (by kernel_rfl) rfl rfl trivial (fun hHeld => ?_); refine with_tabW R22_20.tab R22_20.bits (fun HT_ HW_ => ?_)
 generalize (u23).drew = d20 at B24 k_24 a_24 b_24 m_24 j_24 z_24 hHeld ⊢
 refine pure_ (i := 0) (N := (some 230)) (v := ?_) (a' := ?_) #[true, false, false, false, false, false, false, false, false, false, false, false, false] rfl rfl (any_of HT_.out (by kernel_rfl)) (fun _ _ _ h => h) (Or.inl ⟨by rfl, ?_⟩) ?_ ?_
 rotate_left
 ·intro w'
  go_simp
  with_reducible rfl
 rotate_left
 ·simp only [Act.put, List.setIfInBounds_toArray, List.set_cons_zero, List.set_cons_succ, i64_w, i32_w]
  rfl
 refine pure_ (i := 1) (N := (some 231)) (v := ?_) (a' := ?_) #[true, true, false, false, false, false, false, false, false, false, false, false, false] rfl rfl (any_of HT_.out (by kernel_rfl)) (fun _ _ _ h => h) (Or.inl ⟨by rfl, ?_⟩) ?_ ?_
 rotate_left
 ·intro w'
  go_simp
  with_reducible rfl
 rotate_left
 ·simp only [Act.put, List.setIfInBounds_toArray, List.set_cons_zero, List.set_cons_succ, i64_w, i32_w]
  rfl
 refine pure_ (i := 2) (N := (some 232)) (v := ?_) (a' := ?_) #[true, true, true, false, false, false, false, false, false, false, false, false, false] rfl rfl (any_of HT_.out (by kernel_rfl)) (fun _ _ _ h => h) (Or.inl ⟨by rfl, ?_⟩) ?_ ?_
 rotate_left
 ·intro w'
  go_simp
  with_reducible rfl
 rotate_left
 ·simp only [Act.put, List.setIfInBounds_toArray, List.set_cons_zero, List.set_cons_succ, i64_w, i32_w]
  rfl
 refine one_ (i := 3) (N := (some 233)) #[true, true, true, true, false, false, false, false, false, false, false, false, false] rfl rfl (one_of HT_.out (by kernel_rfl)) (by decide) (fun K hK => ?_)
 refine goes_ Try.func81 (by kernel_rfl) rfl #[] (by rfl) rfl rfl (by (try simp only [List.map_toArray, List.map_cons, List.map_nil]); first | done | rfl | (simp only [List.length_drop, List.length_take]; rfl)) ?_
 refine (calxlaw08_A.calls 1 0 5 10 _ rfl).mono ?_
 rintro e u24 ⟨rfl, hd⟩
 refine ⟨_, rfl, ?_⟩
 have B25 := Aside0.mk (below_step (by repeat (first | exact B24.out | apply below_alloc | apply pw_below_drewN | apply below_drew1)) hd)
 have k_25 := Aside0.mk (show Kd.C k29 u24 (some ⟨bl, 0, none⟩) 3 l3 from Kd.C_below (by repeat (first | exact k_24.out | apply Kd.C_alloc | apply Kd.C_drewN | apply Kd.C_drew)) hd)
 have a_25 := Aside0.mk (show Kd.C k29 u24 (some ⟨bl, 0, none⟩) 2 [eA, eB] from Kd.C_below (by repeat (first | exact a_24.out | apply Kd.C_alloc | apply Kd.C_drewN | apply Kd.C_drew)) hd)
 have b_25 := Aside0.mk (show Kd.C k29 u24 (some ⟨bl, 4, none⟩) 2 [eB, eC] from Kd.C_below (by repeat (first | exact b_24.out | apply Kd.C_alloc | apply Kd.C_drewN | apply Kd.C_drew)) hd)
 have m_25 := Aside0.mk (show Kd.C k29 u24 (some ⟨bl, 4, none⟩) 1 [eB] from Kd.C_below (by repeat (first | exact m_24.out | apply Kd.C_alloc | apply Kd.C_drewN | apply Kd.C_drew)) hd)
 have j_25 := Aside0.mk (show Kd.C k34 u24 (some ⟨gj, 0, none⟩) 1 [(⟨0, l3⟩ : S34)] from Kd.C_below (by repeat (first | exact j_24.out | apply Kd.C_alloc | apply Kd.C_drewN | apply Kd.C_drew)) hd)
 have z_25 := Aside0.mk (show Kd.C k39 u24 (some ⟨gz, 0, none⟩) 2 [(⟨0, 0⟩ : S39), ⟨2, 2⟩] from Kd.C_below (by repeat (first | exact z_24.out | apply Kd.C_alloc | apply Kd.C_drewN | apply Kd.C_drew)) hd)
 clear hd B24 k_24 a_24 b_24 m_24 j_24 z_24
 refine hK.out _ _ trivial (fun hHeld => ?_)
 clear hK K
 refine norm_ (a' := ?_) ?_ ?_
 rotate_left
 ·show Act.put _ (some 233) _ = _
  simp only [Act.put, List.setIfInBounds_toArray, List.set_cons_zero, List.set_cons_succ, i64_w, i32_w]
  rfl
 refine one_ (i := 4) (N := (some 234)) #[true, true, true, true, true, false, false, false, false, false, false, false, false] rfl rfl (one_of HT_.out (by kernel_rfl)) (by decide) (fun K hK => ?_)
 refine goes_ Try.func83 (by kernel_rfl) rfl #[] (by rfl) rfl rfl (by (try simp only [List.map_toArray, List.map_cons, List.map_nil]); first | done | rfl | (simp only [List.length_drop, List.length_take]; rfl)) ?_
 refine (calxlaw08_C.calls 3 0 6 7 _ rfl).mono ?_
 rintro e u25 ⟨rfl, hd⟩
 refine ⟨_, rfl, ?_⟩
 have B26 := Aside0.mk (below_step (by repeat (first | exact B25.out | apply below_alloc | apply pw_below_drewN | apply below_drew1)) hd)
 have k_26 := Aside0.mk (show Kd.C k29 u25 (some ⟨bl, 0, none⟩) 3 l3 from Kd.C_below (by repeat (first | exact k_25.out | apply Kd.C_alloc | apply Kd.C_drewN | apply Kd.C_drew)) hd)
 have a_26 := Aside0.mk (show Kd.C k29 u25 (some ⟨bl, 0, none⟩) 2 [eA, eB] from Kd.C_below (by repeat (first | exact a_25.out | apply Kd.C_alloc | apply Kd.C_drewN | apply Kd.C_drew)) hd)
 have b_26 := Aside0.mk (show Kd.C k29 u25 (some ⟨bl, 4, none⟩) 2 [eB, eC] from Kd.C_below (by repeat (first | exact b_25.out | apply Kd.C_alloc | apply Kd.C_drewN | apply Kd.C_drew)) hd)
 have m_26 := Aside0.mk (show Kd.C k29 u25 (some ⟨bl, 4, none⟩) 1 [eB] from Kd.C_below (by repeat (first | exact m_25.out | apply Kd.C_alloc | apply Kd.C_drewN | apply Kd.C_drew)) hd)
 have j_26 := Aside0.mk (show Kd.C k34 u25 (some ⟨gj, 0, none⟩) 1 [(⟨0, l3⟩ : S34)] from Kd.C_below (by repeat (first | exact j_25.out | apply Kd.C_alloc | apply Kd.C_drewN | apply Kd.C_drew)) hd)
 have z_26 := Aside0.mk (show Kd.C k39 u25 (some ⟨gz, 0, none⟩) 2 [(⟨0, 0⟩ : S39), ⟨2, 2⟩] from Kd.C_below (by repeat (first | exact z_25.out | apply Kd.C_alloc | apply Kd.C_drewN | apply Kd.C_drew)) hd)
 clear hd B25 k_25 a_25 b_25 m_25 j_25 z_25
 refine hK.out _ _ trivial (fun hHeld => ?_)
 clear hK K
 refine norm_ (a' := ?_) ?_ ?_
 rotate_left
 ·show Act.put _ (some 234) _ = _
  simp only [Act.put, List.setIfInBounds_toArray, List.set_cons_zero, List.set_cons_succ, i64_w, i32_w]
  rfl
 refine one_ (i := 5) (N := (some 235)) #[true, true, true, true, true, true, false, false, false, false, false, false, false] rfl rfl (one_of HT_.out (by kernel_rfl)) (by decide) (fun K hK => ?_)
 refine value_ (w1 := ?_) (v := ?_) (by rfl) rfl ?_ ?_
 rotate_left 2
 ·go_simp
  constructor
  ·rfl
  ·rfl
 refine hK.out _ _ trivial (fun hHeld => ?_)
 clear hK K
 refine norm_ (a' := ?_) ?_ ?_
 rotate_left
 ·show Act.put _ (some 235) _ = _
  simp only [Act.put, List.setIfInBounds_toArray, List.set_cons_zero, List.set_cons_succ, i64_w, i32_w]
  rfl
 refine one_ (i := 6) (N := (some 236)) #[true, true, true, true, true, true, true, false, false, false, false, false, false] rfl rfl (one_of HT_.out (by kernel_rfl)) (by decide) (fun K hK => ?_)
 refine value_ (w1 := ?_) (v := ?_) (by rfl) rfl ?_ ?_
 rotate_left 2
 ·go_simp
  constructor
  ·rfl
  ·rfl
 refine hK.out _ _ trivial (fun hHeld => ?_)
 clear hK K
 refine norm_ (a' := ?_) ?_ ?_
 rotate_left
 ·show Act.put _ (some 236) _ = _
  simp only [Act.put, List.setIfInBounds_toArray, List.set_cons_zero, List.set_cons_succ, i64_w, i32_w]
  rfl
 refine one_ (i := 7) (N := (some 237)) #[true, true, true, true, true, true, true, true, false, false, false, false, false] rfl rfl (one_of HT_.out (by kernel_rfl)) (by decide) (fun K hK => ?_)
 refine goes_ Try.func28 (by kernel_rfl) rfl #[.slice (some ⟨u25.heap.size + 1, 0, none⟩) 3 3] (by rfl) rfl rfl (by (try simp only [List.map_toArray, List.map_cons, List.map_nil]); first | done | rfl | (simp only [List.length_drop, List.length_take]; rfl)) ?_
 have n_0 := Aside0.mk (show Kd.C k29 ((u25.alloc (.cells #[.int .i64 1, .int .i64 0, .int .i64 5, .int .i64 10, .int .i64 3, .int .i64 0, .int .i64 6, .int .i64 7] 29)).alloc (.cells #[.slice (some ⟨bl, 0, none⟩) 3 3, .slice (some ⟨bl, 0, none⟩) 2 3, .slice (some ⟨u25.heap.size, 0, none⟩) 2 2] 32)) (some ⟨u25.heap.size, 0, none⟩) 2 [eA, eC] from C_block (inner := [.int .i64 1, .int .i64 0, .int .i64 5, .int .i64 10, .int .i64 3, .int .i64 0, .int .i64 6, .int .i64 7]) (Reps.front (k29_mk _ eA) rfl (Reps.front (k29_mk _ eC) rfl (Reps.none _ _) rfl) rfl) (blk_alloc (blk_new' _ _ _ rfl) _) (by decide))
 refine (book_Majority.calls (some ⟨u25.heap.size + 1, 0, none⟩) 3 [l3, [eA, eB], [eA, eC]] _ _ _ (C_block (inner := [.slice (some ⟨bl, 0, none⟩) 3 3, .slice (some ⟨bl, 0, none⟩) 2 3, .slice (some ⟨u25.heap.size, 0, none⟩) 2 2]) (ps := [l3, [eA, eB], [eA, eC]]) (Reps.front ⟨_, _, rfl, (show 3 ≤ 3 by decide), (by repeat (first | exact k_26.out | apply Kd.C_alloc | apply Kd.C_drewN | apply Kd.C_drew))⟩ rfl (Reps.front ⟨_, _, rfl, (show 2 ≤ 3 by decide), (by repeat (first | exact a_26.out | apply Kd.C_alloc | apply Kd.C_drewN | apply Kd.C_drew))⟩ rfl (Reps.front ⟨_, _, rfl, (show 2 ≤ 2 by decide), n_0.out⟩ rfl (Reps.none _ _) rfl) rfl) rfl) (blk_new' _ _ _ (by simp)) (by decide)) (by decide) sanMj).mono ?_
 rintro e u26 ⟨v0, rfl, hr, hd⟩
 refine ⟨_, rfl, ?_⟩
 have B27 := Aside0.mk (below_step (by repeat (first | exact B26.out | apply below_alloc | apply pw_below_drewN | apply below_drew1)) hd)
 have k_27 := Aside0.mk (show Kd.C k29 u26 (some ⟨bl, 0, none⟩) 3 l3 from Kd.C_below (by repeat (first | exact k_26.out | apply Kd.C_alloc | apply Kd.C_drewN | apply Kd.C_drew)) hd)
 have a_27 := Aside0.mk (show Kd.C k29 u26 (some ⟨bl, 0, none⟩) 2 [eA, eB] from Kd.C_below (by repeat (first | exact a_26.out | apply Kd.C_alloc | apply Kd.C_drewN | apply Kd.C_drew)) hd)
 have b_27 := Aside0.mk (show Kd.C k29 u26 (some ⟨bl, 4, none⟩) 2 [eB, eC] from Kd.C_below (by repeat (first | exact b_26.out | apply Kd.C_alloc | apply Kd.C_drewN | apply Kd.C_drew)) hd)
 have m_27 := Aside0.mk (show Kd.C k29 u26 (some ⟨bl, 4, none⟩) 1 [eB] from Kd.C_below (by repeat (first | exact m_26.out | apply Kd.C_alloc | apply Kd.C_drewN | apply Kd.C_drew)) hd)
 have j_27 := Aside0.mk (show Kd.C k34 u26 (some ⟨gj, 0, none⟩) 1 [(⟨0, l3⟩ : S34)] from Kd.C_below (by repeat (first | exact j_26.out | apply Kd.C_alloc | apply Kd.C_drewN | apply Kd.C_drew)) hd)
 have z_27 := Aside0.mk (show Kd.C k39 u26 (some ⟨gz, 0, none⟩) 2 [(⟨0, 0⟩ : S39), ⟨2, 2⟩] from Kd.C_below (by repeat (first | exact z_26.out | apply Kd.C_alloc | apply Kd.C_drewN | apply Kd.C_drew)) hd)
 clear hd B26 k_26 a_26 b_26 m_26 j_26 z_26
 obtain ⟨gw, cw, rfl, _, _, _⟩ := Kd.R_form hr (by decide)
 have Cw : Kd.C k29 u26 (some ⟨gw, 0, none⟩) 2 [eA, eB] ∧ 2 ≤ cw := by
  obtain ⟨_, _, e_, h1_, h_⟩ := Kd.R_reads hr
  injection e_ with e1 _ e3
  rw [e1, e3]
  exact ⟨h_, h1_⟩
 have w_0 := Aside0.mk Cw.1
 have Lw := Aside0.mk Cw.2
 clear Cw hr
 refine hK.out _ _ trivial (fun hHeld => ?_)
 clear hK K
 refine norm_ (a' := ?_) ?_ ?_
 rotate_left
 ·show Act.put _ (some 237) _ = _
  simp only [Act.put, List.setIfInBounds_toArray, List.set_cons_zero, List.set_cons_succ, i64_w, i32_w]
  rfl
 refine pure_ (i := 8) (N := (some 229)) (v := ?_) (a' := ?_) #[true, true, true, true, true, true, true, true, true, false, false, false, false] rfl rfl (any_of HT_.out (by kernel_rfl)) (fun _ _ _ h => h) (Or.inl ⟨by rfl, ?_⟩) ?_ ?_
 rotate_left
 ·intro w'
  go_simp
  with_reducible rfl
 rotate_left
 ·simp only [Act.put, List.setIfInBounds_toArray, List.set_cons_zero, List.set_cons_succ, i64_w, i32_w]
  rfl
 refine pure_ (i := 9) (N := (some 238)) (v := ?_) (a' := ?_) #[true, true, true, true, true, true, true, true, true, true, false, false, false] rfl rfl (any_of HT_.out (by kernel_rfl)) (fun _ _ _ h => h) (Or.inl ⟨by rfl, ?_⟩) ?_ ?_
 rotate_left
 ·intro w'
  go_simp
  with_reducible rfl
 rotate_left
 ·simp only [Act.put, List.setIfInBounds_toArray, List.set_cons_zero, List.set_cons_succ, i64_w, i32_w]
  rfl
 refine pure_ (i := 10) (N := (some 239)) (v := ?_) (a' := ?_) #[true, true, true, true, true, true, true, true, true, true, true, false, false] rfl rfl (any_of HT_.out (by kernel_rfl)) (fun _ _ _ h => h) (Or.inl ⟨by rfl, ?_⟩) ?_ ?_
 rotate_left
 ·intro w'
  go_simp
  with_reducible rfl
 rotate_left
 ·simp only [Act.put, List.setIfInBounds_toArray, List.set_cons_zero, List.set_cons_succ, i64_w, i32_w]
  rfl
 refine pure_ (i := 11) (N := (some 33)) (v := ?_) (a' := ?_) #[true, true, true, true, true, true, true, true, true, true, true, true, false] rfl rfl (any_of HT_.out (by kernel_rfl)) (fun _ _ _ h => h) (Or.inl ⟨by rfl, ?_⟩) ?_ ?_
 rotate_left
 ·intro w'
  go_simp
  with_reducible rfl
 rotate_left
 ·simp only [Act.put, List.setIfInBounds_toArray, List.set_cons_zero, List.set_cons_succ, i64_w, i32_w]
  rfl
 refine pure_ (i := 12) (N := (some 34)) (v := ?_) (a' := ?_) #[true, true, true, true, true, true, true, true, true, true, true, true, true] rfl rfl (any_of HT_.out (by kernel_rfl)) (fun _ _ _ h => h) (Or.inl ⟨by rfl, ?_⟩) ?_ ?_
 rotate_left
 ·intro w'
  go_simp
  with_reducible rfl
 rotate_left
 ·simp only [Act.put, List.setIfInBounds_toArray, List.set_cons_zero, List.set_cons_succ, i64_w, i32_w]
  rfl
 refine done_ (done_of HT_.out (by kernel_rfl)) ?_
 obtain ⟨ad0, A9, c9, e0, hy0, hy1, hle, hC9⟩ := at_T34 j_27.out (0 : Int) (by decide) (by decide)
 injection e0 with e0
 subst e0
 have hz0 : u26.cell? ⟨gj, 0, none⟩ = some (.int .i64 0) := hy0
 have hz1 : u26.cell? ⟨gj, 1, none⟩ = some (.slice A9 3 c9) := hy1
 have h9 := Aside0.mk (show Kd.C k29 u26 A9 3 l3 from hC9)
 have hle9 := Aside0.mk (show l3.length ≤ c9 from hle)
 have zz : (0 : Int) < 1 := by decide
 clear hy0 hy1 hle hC9
 go_wp2_with fail
 refine (calxref08_SameBook.calls 10 A9 c9 l3 _ 3 l3 _ _ h9.out hle9.out (by repeat (first | exact k_27.out | apply Kd.C_alloc | apply Kd.C_drewN | apply Kd.C_drew)) (by decide) sanB1).mono ?_
 rintro e u ⟨rfl, m1, rfl⟩
 go_wp2_with fail
 refine (calxref08_SameSpans.calls 10 _ _ [⟨0, 0⟩, ⟨2, 2⟩] _ 2 [⟨0, 0⟩, ⟨2, 2⟩] _ _ (by repeat (first | exact z_27.out | apply Kd.C_alloc | apply Kd.C_drewN | apply Kd.C_drew)) Lz.out (C_block (inner := [.int .i64 0, .int .i64 0, .int .i64 2, .int .i64 2]) (ps := [(⟨0, 0⟩ : S39), ⟨2, 2⟩]) (Reps.front (k39_mk _ (⟨0, 0⟩ : S39)) rfl (Reps.front (k39_mk _ (⟨2, 2⟩ : S39)) rfl (Reps.none _ _) rfl) rfl) (blk_new' _ _ _ (by simp)) (by decide)) (by decide) sanSp).mono ?_
 rintro e u ⟨rfl, m2, rfl⟩
 go_wp2_with fail
 refine (calxref08_SameBook.calls 10 _ _ [eA, eB] _ 3 [eA, eB] _ _ (by repeat (first | exact w_0.out | apply Kd.C_alloc | apply Kd.C_drewN | apply Kd.C_drew)) Lw.out (by repeat (first | exact a_27.out | apply Kd.C_alloc | apply Kd.C_drewN | apply Kd.C_drew)) (by decide) sanB2).mono ?_
 rintro e u ⟨rfl, m3, rfl⟩
 go_wp2
 go_ret
 exact ⟨rfl, (by repeat (first | exact B27.out | apply below_alloc | apply pw_below_drewN | apply below_drew1))⟩
def calxlaw08_few.f (l0 : List (S29)) : Option (Bool) := if (l0.length : Int) ≤ 30 then (some true) else (if (l0.length : Int) > 64 then (some (decide ((l0.length : Int) ≤ 80))) else (some false))
set_option maxHeartbeats 8000000 in
set_option maxRecDepth 100000 in
theorem calxlaw08_few.calls (A0 : Option Addr) (c0 : Nat) (l0 : List (S29)) (r : Bool) (w : World) (hr0 : Kd.C k29 w A0 l0.length l0) (hc0 : l0.length ≤ c0) (h : calxlaw08_few.f l0 = some r) :
  Calls Try.prog 27 #[.slice A0 l0.length c0] w fun e w' => e = .returned (.bool r) ∧ Drawn0 w w' := by
 have HR0 := Aside0.mk hr0
 have HC0 := Aside0.mk hc0
 clear hr0 hc0
 have H : (if (l0.length : Int) ≤ 30 then (some true) else (if (l0.length : Int) > 64 then (some (decide ((l0.length : Int) ≤ 80))) else (some false))) = some r := h
 clear h
 by_cases c2 : (l0.length : Int) ≤ 30
 ·rw [if_pos c2] at H
  have c2b0 : decide ((l0.length : Int) ≤ 30) = true := decide_eq_true c2
  have c2b1 : decide (l0.length ≤ 30) = true := decide_eq_true (by omega)
  clear c2
  obtain rfl := Option.some.inj H
  go_enter Try.func27, Try.ntmps27
  go_wp2
  go_ret
  exact ⟨by first | rfl | (simp; done) | (simp [*]; done), by repeat (first | exact Drawn0.refl _ | apply Drawn0.step)⟩
 ·rw [if_neg c2] at H
  have c2b0 : decide ((l0.length : Int) ≤ 30) = false := decide_eq_false c2
  have c2b1 : decide (l0.length ≤ 30) = false := decide_eq_false (by omega)
  clear c2
  by_cases c3 : (l0.length : Int) > 64
  ·rw [if_pos c3] at H
   have c3b0 : decide (64 < (l0.length : Int)) = true := decide_eq_true c3
   have c3b1 : decide (64 < l0.length) = true := decide_eq_true (by omega)
   clear c3
   obtain rfl := Option.some.inj H
   go_enter Try.func27, Try.ntmps27
   go_wp2
   go_ret
   exact ⟨by first | rfl | (simp; done) | (simp [*]; done), by repeat (first | exact Drawn0.refl _ | apply Drawn0.step)⟩
  ·rw [if_neg c3] at H
   have c3b0 : decide (64 < (l0.length : Int)) = false := decide_eq_false c3
   have c3b1 : decide (64 < l0.length) = false := decide_eq_false (by omega)
   clear c3
   obtain rfl := Option.some.inj H
   go_enter Try.func27, Try.ntmps27
   go_wp2
   go_ret
   exact ⟨by first | rfl | (simp; done) | (simp [*]; done), by repeat (first | exact Drawn0.refl _ | apply Drawn0.step)⟩
def Ev {α : Type} (f : Nat → Option α) (r : α) : Prop := ∃ k0, ∀ k, k0 ≤ k → f k = some r
theorem Ev.step {α : Type} {f g : Nat → Option α} {r : α} (h : Ev g r) (k1 : Nat) (hs : ∀ k, k1 ≤ k → f (k + 1) = g k) : Ev f r := by
 obtain ⟨k0, hk⟩ := h
 refine ⟨k0 + k1 + 1, fun k hle => ?_⟩
 obtain ⟨m, rfl⟩ : ∃ m, k = m + 1 := ⟨k - 1, by omega⟩
 rw [hs m (by omega)]
 exact hk m (by omega)
theorem Ev.now {α : Type} {f : Nat → Option α} {r : α} (k1 : Nat) (hs : ∀ k, k1 ≤ k → f (k + 1) = some r) : Ev f r :=
 Ev.step (g := fun _ => some r) ⟨0, fun _ _ => rfl⟩ k1 hs
theorem Ev.same {α : Type} {f g : Nat → Option α} {r : α} (h : Ev g r) (k1 : Nat) (hs : ∀ k, k1 ≤ k → f k = g k) : Ev f r := by
 obtain ⟨k0, hk⟩ := h
 exact ⟨k0 + k1, fun k hle => by rw [hs k (by omega)]; exact hk k (by omega)⟩
theorem Ev.at_ {α : Type} {f : Nat → Option α} {r : α} (h : Ev f r) : ∃ k, f k = some r := by
 obtain ⟨k0, hk⟩ := h
 exact ⟨k0, hk k0 (Nat.le_refl _)⟩
theorem ne_bool (x y : S29) : (!(x.f0 == y.f0) || (!(x.f1 == y.f1) || (!(x.f2 == y.f2) || (!(x.f3 == y.f3))))) = true ↔ x ≠ y := by
 cases x; cases y
 simp
 constructor
 ·rintro h h1 h2 h3 h4
  rcases h with h | h | h | h
  ·exact h h1
  ·exact h h2
  ·exact h h3
  ·exact h h4
 ·intro h
  rename_i a0 a1 a2 a3 b0 b1 b2 b3
  by_cases h1 : a0 = b0
  ·by_cases h2 : a1 = b1
   ·by_cases h3 : a2 = b2
    ·exact Or.inr (Or.inr (Or.inr (h h1 h2 h3)))
    ·exact Or.inr (Or.inr (Or.inl h3))
   ·exact Or.inr (Or.inl h2)
  ·exact Or.inl h1
theorem same_book_from {a b : List S29} (hl : a.length = b.length) (h64 : a.length < 4611686018427387904) : ∀ (d k i : Nat), i + d = a.length → d < k → calxref08_SameBook.l0 k a b (i : Int) = some (decide (a.drop i = b.drop i)) := by
 intro d
 induction d with
 | zero =>
  intro k i hi hk
  obtain ⟨k, rfl⟩ : ∃ m, k = m + 1 := ⟨k - 1, by omega⟩
  simp only [calxref08_SameBook.l0]
  rw [if_neg (by omega), List.drop_eq_nil_of_le (by omega), List.drop_eq_nil_of_le (by omega)]
  simp
 | succ d ih =>
  intro k i hi hk
  obtain ⟨k, rfl⟩ : ∃ m, k = m + 1 := ⟨k - 1, by omega⟩
  have h1 : i < a.length := by omega
  have h2 : i < b.length := by omega
  simp only [calxref08_SameBook.l0]
  rw [if_pos (by omega), if_pos (by omega), if_pos (by omega), rd29_getElem h1, rd29_getElem h2, wrap_nat (by omega), ih k (i + 1) (by omega) (by omega), List.drop_eq_getElem_cons h1, List.drop_eq_getElem_cons h2]
  by_cases he : a[i] = b[i]
  ·rw [if_neg (fun h => (ne_bool _ _).1 h he)]; simp only [List.cons.injEq, he, true_and]
  ·rw [if_pos ((ne_bool _ _).2 he)]; simp only [List.cons.injEq, he, false_and, decide_false]
theorem same_book {a b : List S29} {k : Nat} (h64 : a.length ≤ 64) (hk : 64 < k) : calxref08_SameBook.f k a b = some (decide (a = b)) := by
 unfold calxref08_SameBook.f
 by_cases hl : a.length = b.length
 ·rw [if_pos (by omega)]
  have := same_book_from hl (by omega) a.length k 0 (by omega) (by omega)
  simpa using this
 ·rw [if_neg (by omega)]
  have : a ≠ b := fun e => hl (by rw [e])
  simp [this]
def calxlaw08_bits.l0 : Nat → List (S34) → Int → Option (Bool)
 | 0, _, _ => none
 | k + 1, x0, x3 => if x3 < (x0.length : Int) then (if 0 ≤ x3 then ((calxlaw08_few.f ((rd_T34 x0 x3).f1)).bind fun t102 => (if t102 = true then (calxlaw08_bits.l0 k x0 (wrap64 (x3 + 1))) else (some false))) else (none)) else (some (decide ((x0.length : Int) ≤ 20)))
def calxlaw08_bits.f (k : Nat) (l0 : List (S34)) : Option (Bool) := calxlaw08_bits.l0 k l0 0
set_option maxHeartbeats 8000000 in
set_option maxRecDepth 100000 in
theorem calxlaw08_bits.calls (k : Nat) (A0 : Option Addr) (c0 : Nat) (l0 : List (S34)) (r : Bool) (w : World) (hr0 : Kd.C k34 w A0 l0.length l0) (hc0 : l0.length ≤ c0) (h : calxlaw08_bits.f k l0 = some r) :
  Calls Try.prog 21 #[.slice A0 l0.length c0] w fun e w' => e = .returned (.bool r) ∧ Drawn0 w w' := by
 have HR0 := Aside0.mk hr0
 have HC0 := Aside0.mk hc0
 clear hr0 hc0
 have H : (calxlaw08_bits.l0 k l0 0) = some r := h
 clear h
 have H' := Aside0.mk H
 clear H
 go_enter Try.func21, Try.ntmps21
 go_wp2
 go_loopg [3] k (fun kq v3 w' => ∃ (x3_1 : Int), v3 = .int .i64 x3_1 ∧ Aside0 (calxlaw08_bits.l0 kq l0 x3_1 = some r) ∧ Aside0 (kq ≤ k) ∧ Drawn0 w w')
 case atStart => exact ⟨(0), (by first | rfl | (simp; done) | (simp [*]; done)), H', ⟨Nat.le_refl _⟩, by repeat (first | exact Drawn0.refl _ | apply Drawn0.step)⟩
 case round =>
  clear H'
  obtain ⟨x3_1, rfl, HA, HK1, ⟨m1, rfl⟩⟩ := hrel
  cases gk with
  | zero => exact absurd HA.out (by simp [calxlaw08_bits.l0])
  | succ k1 =>
   have H := HA.out
   clear HA
   simp only [calxlaw08_bits.l0] at H
   by_cases c2 : x3_1 < (l0.length : Int)
   ·rw [if_pos c2] at H
    have c2b0 : decide (x3_1 < (l0.length : Int)) = true := decide_eq_true c2
    clear c2
    by_cases c3 : 0 ≤ x3_1
    ·rw [if_pos c3] at H
     have c3b0 : decide (0 ≤ x3_1) = true := decide_eq_true c3
     clear c3
     replace H := Option.bind_eq_some_iff.mp H
     obtain ⟨t102, A40, H⟩ := H
     replace H : (if t102 = true then (calxlaw08_bits.l0 k1 l0 (wrap64 (x3_1 + 1))) else (some false)) = some r := H
     have A4 := Aside0.mk A40
     clear A40
     by_cases c5 : t102 = true
     ·subst c5
      have H1 : (calxlaw08_bits.l0 k1 l0 (wrap64 (x3_1 + 1))) = some r := by rw [if_pos rfl] at H; exact H
      clear H
      have H := H1
      clear H1
      have H' := Aside0.mk H
      clear H
      have p101 : 0 ≤ (x3_1 : Int) := of_decide_eq_true (by first | (with_reducible assumption) | assumption)
      have q101 : x3_1 < (l0.length : Int) := of_decide_eq_true (by first | (with_reducible assumption) | assumption)
      obtain ⟨ad101, A101_1, c101_1, e101, hx101_0, hx101_1, hl101_1, hi101_1⟩ := at_T34 HR0.out x3_1 p101 q101
      cases e101
      have HR101_1 := Aside0.mk hi101_1
      have HC101_1 := Aside0.mk hl101_1
      clear hi101_1 hl101_1
      replace p101 := eq_true p101
      replace q101 := eq_true q101
      go_wp2_with (first | ((with_reducible refine gate_callee (f := 27) rfl ?_); refine goesL_ (some 15) rfl rfl Try.func27 (by kernel_rfl) rfl #[.slice A101_1 ((rd_T34 l0 x3_1).f1).length c101_1] rfl (by (try simp only [List.map_toArray, List.map_cons, List.map_nil]); first | done | rfl | (simp only [List.length_drop, List.length_take]; rfl)) ?_; (with_reducible refine (calxlaw08_few.calls _ _ ((rd_T34 l0 x3_1).f1) true _ ?side1 ?side2 A4.out).mono ?_); (case side1 => repeat (first | exact HR101_1.out | (with_reducible refine Kd.C_alloc ?_ _) | (with_reducible refine Kd.C_drewN ?_ _) | (with_reducible refine Kd.C_drew ?_))); (case side2 => exact HC101_1.out); rintro e w' ⟨rfl, ⟨nd, rfl⟩⟩; refine ⟨_, rfl, ?_⟩))
      go_roundg k1
      case measure => have := HK1.out; omega
      case rel => exact ⟨(wrap64 (x3_1 + 1)), (by first | rfl | (simp; done) | (simp [*]; done)), H', ⟨by have := HK1.out; omega⟩, by repeat (first | exact Drawn0.refl _ | apply Drawn0.step)⟩
     ·replace c5 := Bool.eq_false_iff.mpr c5
      subst c5
      have H1 : (some false) = some r := by rw [if_neg (show ¬ (false = true) by decide)] at H; exact H
      clear H
      have H := H1
      clear H1
      obtain rfl := Option.some.inj H
      have p101 : 0 ≤ (x3_1 : Int) := of_decide_eq_true (by first | (with_reducible assumption) | assumption)
      have q101 : x3_1 < (l0.length : Int) := of_decide_eq_true (by first | (with_reducible assumption) | assumption)
      obtain ⟨ad101, A101_1, c101_1, e101, hx101_0, hx101_1, hl101_1, hi101_1⟩ := at_T34 HR0.out x3_1 p101 q101
      cases e101
      have HR101_1 := Aside0.mk hi101_1
      have HC101_1 := Aside0.mk hl101_1
      clear hi101_1 hl101_1
      replace p101 := eq_true p101
      replace q101 := eq_true q101
      go_wp2_with (first | ((with_reducible refine gate_callee (f := 27) rfl ?_); refine goesL_ (some 15) rfl rfl Try.func27 (by kernel_rfl) rfl #[.slice A101_1 ((rd_T34 l0 x3_1).f1).length c101_1] rfl (by (try simp only [List.map_toArray, List.map_cons, List.map_nil]); first | done | rfl | (simp only [List.length_drop, List.length_take]; rfl)) ?_; (with_reducible refine (calxlaw08_few.calls _ _ ((rd_T34 l0 x3_1).f1) false _ ?side1 ?side2 A4.out).mono ?_); (case side1 => repeat (first | exact HR101_1.out | (with_reducible refine Kd.C_alloc ?_ _) | (with_reducible refine Kd.C_drewN ?_ _) | (with_reducible refine Kd.C_drew ?_))); (case side2 => exact HC101_1.out); rintro e w' ⟨rfl, ⟨nd, rfl⟩⟩; refine ⟨_, rfl, ?_⟩))
      go_ret
      exact ⟨by first | rfl | (simp; done) | (simp [*]; done), by repeat (first | exact Drawn0.refl _ | apply Drawn0.step)⟩
    ·rw [if_neg c3] at H
     exact absurd H (by simp)
   ·rw [if_neg c2] at H
    have c2b0 : decide (x3_1 < (l0.length : Int)) = false := decide_eq_false c2
    clear c2
    obtain rfl := Option.some.inj H
    go_wp2
    go_ret
    exact ⟨by first | rfl | (simp; done) | (simp [*]; done), by repeat (first | exact Drawn0.refl _ | apply Drawn0.step)⟩
def calxref08_SamePieces.l0 : Nat → List (S34) → List (S34) → Int → Option (Bool)
 | 0, _, _, _ => none
 | k + 1, x0, x1, x5 => if x5 < (x0.length : Int) then (if 0 ≤ x5 then (if x5 < (x1.length : Int) then ((calxref08_SameBook.f k ((rd_T34 x0 x5).f1) ((rd_T34 x1 x5).f1)).bind fun t103 => (if ((rd_T34 x0 x5).f0) = ((rd_T34 x1 x5).f0) then (if t103 = true then (calxref08_SamePieces.l0 k x0 x1 (wrap64 (x5 + 1))) else (some false)) else (some false))) else (none)) else (none)) else (some true)
def calxref08_SamePieces.f (k : Nat) (l0 : List (S34)) (l1 : List (S34)) : Option (Bool) := if (l0.length : Int) = (l1.length : Int) then (calxref08_SamePieces.l0 k l0 l1 0) else (some false)
theorem calxref08_SamePieces.mono_l : ∀ k, (∀ y0 y1 y2, LeO (calxref08_SamePieces.l0 k y0 y1 y2) (calxref08_SamePieces.l0 (k + 1) y0 y1 y2))
 | 0 => fun _ _ _ r h => by simp [calxref08_SamePieces.l0] at h
 | k + 1 => by
  have ih0 := calxref08_SamePieces.mono_l k
  ·intro y0 y1 y2
   unfold calxref08_SamePieces.l0
   repeat' first
   | (with_reducible exact ih0 _ _ _)
   | (with_reducible exact calxref08_SameBook.mono _ _ _)
   | (with_reducible exact LeO.refl _)
   | (with_reducible exact LeO.none _)
   | (with_reducible refine LeO.ite ?_ ?_)
   | (with_reducible refine LeO.bind ?_ (fun _ => ?_))
   | exact ih0 _ _ _
   | exact calxref08_SameBook.mono _ _ _
   | exact LeO.none _
   | refine LeO.ite ?_ ?_
   | refine LeO.bind ?_ (fun _ => ?_)
theorem calxref08_SamePieces.mono : ∀ a0 a1 k, LeO (calxref08_SamePieces.f k a0 a1) (calxref08_SamePieces.f (k + 1) a0 a1) := by
 intro a0 a1 k
 have ih0 := calxref08_SamePieces.mono_l k
 unfold calxref08_SamePieces.f
 repeat' first
   | (with_reducible exact ih0 _ _ _)
   | (with_reducible exact calxref08_SameBook.mono _ _ _)
   | (with_reducible exact LeO.refl _)
   | (with_reducible exact LeO.none _)
   | (with_reducible refine LeO.ite ?_ ?_)
   | (with_reducible refine LeO.bind ?_ (fun _ => ?_))
   | exact ih0 _ _ _
   | exact calxref08_SameBook.mono _ _ _
   | exact LeO.none _
   | refine LeO.ite ?_ ?_
   | refine LeO.bind ?_ (fun _ => ?_)
set_option maxHeartbeats 8000000 in
set_option maxRecDepth 100000 in
theorem calxref08_SamePieces.calls (k : Nat) (A0 : Option Addr) (c0 : Nat) (l0 : List (S34)) (A1 : Option Addr) (c1 : Nat) (l1 : List (S34)) (r : Bool) (w : World) (hr0 : Kd.C k34 w A0 l0.length l0) (hc0 : l0.length ≤ c0) (hr1 : Kd.C k34 w A1 l1.length l1) (hc1 : l1.length ≤ c1) (h : calxref08_SamePieces.f k l0 l1 = some r) :
  Calls Try.prog 26 #[.slice A0 l0.length c0, .slice A1 l1.length c1] w fun e w' => e = .returned (.bool r) ∧ Drawn0 w w' := by
 have HR0 := Aside0.mk hr0
 have HC0 := Aside0.mk hc0
 clear hr0 hc0
 have HR1 := Aside0.mk hr1
 have HC1 := Aside0.mk hc1
 clear hr1 hc1
 have H : (if (l0.length : Int) = (l1.length : Int) then (calxref08_SamePieces.l0 k l0 l1 0) else (some false)) = some r := h
 clear h
 by_cases c3 : (l0.length : Int) = (l1.length : Int)
 ·rw [if_pos c3] at H
  have c3b0 : ((l0.length : Int) == (l1.length : Int)) = true := beq_iff_eq.mpr c3
  have c3b1 : ((l0.length : Int) != (l1.length : Int)) = false := bne_eq_false_iff_eq.mpr c3
  have c3b2 : (l0.length == l1.length) = true := by first | simpa using c3 | (simp at c3 ⊢; omega)
  clear c3
  have H' := Aside0.mk H
  clear H
  go_enter Try.func26, Try.ntmps26
  go_wp2
  repeat (go_quiet (fail); try go_wp2)
  go_loopg [5] k (fun kq v5 w' => ∃ (x5_1 : Int), v5 = .int .i64 x5_1 ∧ Aside0 (calxref08_SamePieces.l0 kq l0 l1 x5_1 = some r) ∧ Aside0 (kq ≤ k) ∧ Drawn0 w w')
  case atStart => exact ⟨(0), (by first | rfl | (simp; done) | (simp [*]; done)), H', ⟨Nat.le_refl _⟩, by repeat (first | exact Drawn0.refl _ | apply Drawn0.step)⟩
  case round =>
   clear H'
   try clear c1
   try clear c2
   try clear p2
   try clear c3
   try clear c3b0
   try clear c3b1
   try clear c3b2
   obtain ⟨x5_1, rfl, HA, HK1, ⟨m1, rfl⟩⟩ := hrel
   cases gk with
   | zero => exact absurd HA.out (by simp [calxref08_SamePieces.l0])
   | succ k1 =>
    have H := HA.out
    clear HA
    simp only [calxref08_SamePieces.l0] at H
    by_cases c4 : x5_1 < (l0.length : Int)
    ·rw [if_pos c4] at H
     have c4b0 : decide (x5_1 < (l0.length : Int)) = true := decide_eq_true c4
     clear c4
     by_cases c5 : 0 ≤ x5_1
     ·rw [if_pos c5] at H
      have c5b0 : decide (0 ≤ x5_1) = true := decide_eq_true c5
      clear c5
      by_cases c6 : x5_1 < (l1.length : Int)
      ·rw [if_pos c6] at H
       have c6b0 : decide (x5_1 < (l1.length : Int)) = true := decide_eq_true c6
       clear c6
       replace H := Option.bind_eq_some_iff.mp H
       obtain ⟨t103, A70, H⟩ := H
       replace H : (if ((rd_T34 l0 x5_1).f0) = ((rd_T34 l1 x5_1).f0) then (if t103 = true then (calxref08_SamePieces.l0 k1 l0 l1 (wrap64 (x5_1 + 1))) else (some false)) else (some false)) = some r := H
       have A7 := Aside0.mk A70
       clear A70
       by_cases c8 : ((rd_T34 l0 x5_1).f0) = ((rd_T34 l1 x5_1).f0)
       ·rw [if_pos c8] at H
        have c8b0 : (((rd_T34 l0 x5_1).f0) == ((rd_T34 l1 x5_1).f0)) = true := beq_iff_eq.mpr c8
        have c8b1 : (((rd_T34 l0 x5_1).f0) != ((rd_T34 l1 x5_1).f0)) = false := bne_eq_false_iff_eq.mpr c8
        clear c8
        by_cases c9 : t103 = true
        ·subst c9
         have H1 : (calxref08_SamePieces.l0 k1 l0 l1 (wrap64 (x5_1 + 1))) = some r := by rw [if_pos rfl] at H; exact H
         clear H
         have H := H1
         clear H1
         have H' := Aside0.mk H
         clear H
         have p101 : 0 ≤ (x5_1 : Int) := of_decide_eq_true (by first | (with_reducible assumption) | assumption)
         have q101 : x5_1 < (l0.length : Int) := of_decide_eq_true (by first | (with_reducible assumption) | assumption)
         obtain ⟨ad101, A101_1, c101_1, e101, hx101_0, hx101_1, hl101_1, hi101_1⟩ := at_T34 HR0.out x5_1 p101 q101
         cases e101
         have HR101_1 := Aside0.mk hi101_1
         have HC101_1 := Aside0.mk hl101_1
         clear hi101_1 hl101_1
         replace p101 := eq_true p101
         replace q101 := eq_true q101
         have p102 : 0 ≤ (x5_1 : Int) := of_decide_eq_true (by first | (with_reducible assumption) | assumption)
         have q102 : x5_1 < (l1.length : Int) := of_decide_eq_true (by first | (with_reducible assumption) | assumption)
         obtain ⟨ad102, A102_1, c102_1, e102, hx102_0, hx102_1, hl102_1, hi102_1⟩ := at_T34 HR1.out x5_1 p102 q102
         cases e102
         have HR102_1 := Aside0.mk hi102_1
         have HC102_1 := Aside0.mk hl102_1
         clear hi102_1 hl102_1
         replace p102 := eq_true p102
         replace q102 := eq_true q102
         go_wp2_with (first | (go_at_call 29; (with_reducible refine (calxref08_SameBook.calls k1 _ _ ((rd_T34 l0 x5_1).f1) _ _ ((rd_T34 l1 x5_1).f1) true _ ?side1 ?side2 ?side3 ?side4 A7.out).mono ?_); (case side1 => repeat (first | exact HR101_1.out | (with_reducible refine Kd.C_alloc ?_ _) | (with_reducible refine Kd.C_drewN ?_ _) | (with_reducible refine Kd.C_drew ?_))); (case side2 => exact HC101_1.out); (case side3 => repeat (first | exact HR102_1.out | (with_reducible refine Kd.C_alloc ?_ _) | (with_reducible refine Kd.C_drewN ?_ _) | (with_reducible refine Kd.C_drew ?_))); (case side4 => exact HC102_1.out); rintro e w' ⟨rfl, ⟨nd, rfl⟩⟩; (try first | exact ⟨rfl, _, World.drewN_drewN _ _ _⟩ | exact ⟨rfl, _, Eq.trans (World.drewN_drewN _ _ _) (congrArg (World.drewN _) (Nat.add_assoc _ _ _))⟩); have p104 : 0 ≤ (x5_1 : Int) := of_decide_eq_true (by first | (with_reducible assumption) | assumption); have q104 : x5_1 < (l0.length : Int) := of_decide_eq_true (by first | (with_reducible assumption) | assumption); obtain ⟨ad104, A104_1, c104_1, e104, hx104_0, hx104_1, hl104_1, hi104_1⟩ := at_T34 HR0.out x5_1 p104 q104; obtain rfl : ad101 = ad104 := (by injection e104); have HR104_1 := Aside0.mk hi104_1; have HC104_1 := Aside0.mk hl104_1; clear hi104_1 hl104_1; replace p104 := eq_true p104; replace q104 := eq_true q104; have ea_ := Option.some.inj (hx101_1.symm.trans hx104_1); injection ea_ with ea_ en_ ec_; subst ea_; subst ec_; clear en_; have p105 : 0 ≤ (x5_1 : Int) := of_decide_eq_true (by first | (with_reducible assumption) | assumption); have q105 : x5_1 < (l1.length : Int) := of_decide_eq_true (by first | (with_reducible assumption) | assumption); obtain ⟨ad105, A105_1, c105_1, e105, hx105_0, hx105_1, hl105_1, hi105_1⟩ := at_T34 HR1.out x5_1 p105 q105; obtain rfl : ad102 = ad105 := (by injection e105); have HR105_1 := Aside0.mk hi105_1; have HC105_1 := Aside0.mk hl105_1; clear hi105_1 hl105_1; replace p105 := eq_true p105; replace q105 := eq_true q105; have ea_ := Option.some.inj (hx102_1.symm.trans hx105_1); injection ea_ with ea_ en_ ec_; subst ea_; subst ec_; clear en_))
         repeat (go_quiet (first | (go_at_call 29; (with_reducible refine (calxref08_SameBook.calls k1 _ _ ((rd_T34 l0 x5_1).f1) _ _ ((rd_T34 l1 x5_1).f1) true _ ?side1 ?side2 ?side3 ?side4 A7.out).mono ?_); (case side1 => repeat (first | exact HR101_1.out | (with_reducible refine Kd.C_alloc ?_ _) | (with_reducible refine Kd.C_drewN ?_ _) | (with_reducible refine Kd.C_drew ?_))); (case side2 => exact HC101_1.out); (case side3 => repeat (first | exact HR102_1.out | (with_reducible refine Kd.C_alloc ?_ _) | (with_reducible refine Kd.C_drewN ?_ _) | (with_reducible refine Kd.C_drew ?_))); (case side4 => exact HC102_1.out); rintro e w' ⟨rfl, ⟨nd, rfl⟩⟩; (try first | exact ⟨rfl, _, World.drewN_drewN _ _ _⟩ | exact ⟨rfl, _, Eq.trans (World.drewN_drewN _ _ _) (congrArg (World.drewN _) (Nat.add_assoc _ _ _))⟩); have p104 : 0 ≤ (x5_1 : Int) := of_decide_eq_true (by first | (with_reducible assumption) | assumption); have q104 : x5_1 < (l0.length : Int) := of_decide_eq_true (by first | (with_reducible assumption) | assumption); obtain ⟨ad104, A104_1, c104_1, e104, hx104_0, hx104_1, hl104_1, hi104_1⟩ := at_T34 HR0.out x5_1 p104 q104; obtain rfl : ad101 = ad104 := (by injection e104); have HR104_1 := Aside0.mk hi104_1; have HC104_1 := Aside0.mk hl104_1; clear hi104_1 hl104_1; replace p104 := eq_true p104; replace q104 := eq_true q104; have ea_ := Option.some.inj (hx101_1.symm.trans hx104_1); injection ea_ with ea_ en_ ec_; subst ea_; subst ec_; clear en_; have p105 : 0 ≤ (x5_1 : Int) := of_decide_eq_true (by first | (with_reducible assumption) | assumption); have q105 : x5_1 < (l1.length : Int) := of_decide_eq_true (by first | (with_reducible assumption) | assumption); obtain ⟨ad105, A105_1, c105_1, e105, hx105_0, hx105_1, hl105_1, hi105_1⟩ := at_T34 HR1.out x5_1 p105 q105; obtain rfl : ad102 = ad105 := (by injection e105); have HR105_1 := Aside0.mk hi105_1; have HC105_1 := Aside0.mk hl105_1; clear hi105_1 hl105_1; replace p105 := eq_true p105; replace q105 := eq_true q105; have ea_ := Option.some.inj (hx102_1.symm.trans hx105_1); injection ea_ with ea_ en_ ec_; subst ea_; subst ec_; clear en_)); try go_wp2_with (first | (go_at_call 29; (with_reducible refine (calxref08_SameBook.calls k1 _ _ ((rd_T34 l0 x5_1).f1) _ _ ((rd_T34 l1 x5_1).f1) true _ ?side1 ?side2 ?side3 ?side4 A7.out).mono ?_); (case side1 => repeat (first | exact HR101_1.out | (with_reducible refine Kd.C_alloc ?_ _) | (with_reducible refine Kd.C_drewN ?_ _) | (with_reducible refine Kd.C_drew ?_))); (case side2 => exact HC101_1.out); (case side3 => repeat (first | exact HR102_1.out | (with_reducible refine Kd.C_alloc ?_ _) | (with_reducible refine Kd.C_drewN ?_ _) | (with_reducible refine Kd.C_drew ?_))); (case side4 => exact HC102_1.out); rintro e w' ⟨rfl, ⟨nd, rfl⟩⟩; (try first | exact ⟨rfl, _, World.drewN_drewN _ _ _⟩ | exact ⟨rfl, _, Eq.trans (World.drewN_drewN _ _ _) (congrArg (World.drewN _) (Nat.add_assoc _ _ _))⟩); have p104 : 0 ≤ (x5_1 : Int) := of_decide_eq_true (by first | (with_reducible assumption) | assumption); have q104 : x5_1 < (l0.length : Int) := of_decide_eq_true (by first | (with_reducible assumption) | assumption); obtain ⟨ad104, A104_1, c104_1, e104, hx104_0, hx104_1, hl104_1, hi104_1⟩ := at_T34 HR0.out x5_1 p104 q104; obtain rfl : ad101 = ad104 := (by injection e104); have HR104_1 := Aside0.mk hi104_1; have HC104_1 := Aside0.mk hl104_1; clear hi104_1 hl104_1; replace p104 := eq_true p104; replace q104 := eq_true q104; have ea_ := Option.some.inj (hx101_1.symm.trans hx104_1); injection ea_ with ea_ en_ ec_; subst ea_; subst ec_; clear en_; have p105 : 0 ≤ (x5_1 : Int) := of_decide_eq_true (by first | (with_reducible assumption) | assumption); have q105 : x5_1 < (l1.length : Int) := of_decide_eq_true (by first | (with_reducible assumption) | assumption); obtain ⟨ad105, A105_1, c105_1, e105, hx105_0, hx105_1, hl105_1, hi105_1⟩ := at_T34 HR1.out x5_1 p105 q105; obtain rfl : ad102 = ad105 := (by injection e105); have HR105_1 := Aside0.mk hi105_1; have HC105_1 := Aside0.mk hl105_1; clear hi105_1 hl105_1; replace p105 := eq_true p105; replace q105 := eq_true q105; have ea_ := Option.some.inj (hx102_1.symm.trans hx105_1); injection ea_ with ea_ en_ ec_; subst ea_; subst ec_; clear en_)))
         go_roundg k1
         case measure => have := HK1.out; omega
         case rel => exact ⟨(wrap64 (x5_1 + 1)), (by first | rfl | (simp; done) | (simp [*]; done)), H', ⟨by have := HK1.out; omega⟩, by repeat (first | exact Drawn0.refl _ | apply Drawn0.step)⟩
        ·replace c9 := Bool.eq_false_iff.mpr c9
         subst c9
         have H1 : (some false) = some r := by rw [if_neg (show ¬ (false = true) by decide)] at H; exact H
         clear H
         have H := H1
         clear H1
         obtain rfl := Option.some.inj H
         have p101 : 0 ≤ (x5_1 : Int) := of_decide_eq_true (by first | (with_reducible assumption) | assumption)
         have q101 : x5_1 < (l0.length : Int) := of_decide_eq_true (by first | (with_reducible assumption) | assumption)
         obtain ⟨ad101, A101_1, c101_1, e101, hx101_0, hx101_1, hl101_1, hi101_1⟩ := at_T34 HR0.out x5_1 p101 q101
         cases e101
         have HR101_1 := Aside0.mk hi101_1
         have HC101_1 := Aside0.mk hl101_1
         clear hi101_1 hl101_1
         replace p101 := eq_true p101
         replace q101 := eq_true q101
         have p102 : 0 ≤ (x5_1 : Int) := of_decide_eq_true (by first | (with_reducible assumption) | assumption)
         have q102 : x5_1 < (l1.length : Int) := of_decide_eq_true (by first | (with_reducible assumption) | assumption)
         obtain ⟨ad102, A102_1, c102_1, e102, hx102_0, hx102_1, hl102_1, hi102_1⟩ := at_T34 HR1.out x5_1 p102 q102
         cases e102
         have HR102_1 := Aside0.mk hi102_1
         have HC102_1 := Aside0.mk hl102_1
         clear hi102_1 hl102_1
         replace p102 := eq_true p102
         replace q102 := eq_true q102
         go_wp2_with (first | (go_at_call 29; (with_reducible refine (calxref08_SameBook.calls k1 _ _ ((rd_T34 l0 x5_1).f1) _ _ ((rd_T34 l1 x5_1).f1) false _ ?side1 ?side2 ?side3 ?side4 A7.out).mono ?_); (case side1 => repeat (first | exact HR101_1.out | (with_reducible refine Kd.C_alloc ?_ _) | (with_reducible refine Kd.C_drewN ?_ _) | (with_reducible refine Kd.C_drew ?_))); (case side2 => exact HC101_1.out); (case side3 => repeat (first | exact HR102_1.out | (with_reducible refine Kd.C_alloc ?_ _) | (with_reducible refine Kd.C_drewN ?_ _) | (with_reducible refine Kd.C_drew ?_))); (case side4 => exact HC102_1.out); rintro e w' ⟨rfl, ⟨nd, rfl⟩⟩; (try first | exact ⟨rfl, _, World.drewN_drewN _ _ _⟩ | exact ⟨rfl, _, Eq.trans (World.drewN_drewN _ _ _) (congrArg (World.drewN _) (Nat.add_assoc _ _ _))⟩); have p104 : 0 ≤ (x5_1 : Int) := of_decide_eq_true (by first | (with_reducible assumption) | assumption); have q104 : x5_1 < (l0.length : Int) := of_decide_eq_true (by first | (with_reducible assumption) | assumption); obtain ⟨ad104, A104_1, c104_1, e104, hx104_0, hx104_1, hl104_1, hi104_1⟩ := at_T34 HR0.out x5_1 p104 q104; obtain rfl : ad101 = ad104 := (by injection e104); have HR104_1 := Aside0.mk hi104_1; have HC104_1 := Aside0.mk hl104_1; clear hi104_1 hl104_1; replace p104 := eq_true p104; replace q104 := eq_true q104; have ea_ := Option.some.inj (hx101_1.symm.trans hx104_1); injection ea_ with ea_ en_ ec_; subst ea_; subst ec_; clear en_; have p105 : 0 ≤ (x5_1 : Int) := of_decide_eq_true (by first | (with_reducible assumption) | assumption); have q105 : x5_1 < (l1.length : Int) := of_decide_eq_true (by first | (with_reducible assumption) | assumption); obtain ⟨ad105, A105_1, c105_1, e105, hx105_0, hx105_1, hl105_1, hi105_1⟩ := at_T34 HR1.out x5_1 p105 q105; obtain rfl : ad102 = ad105 := (by injection e105); have HR105_1 := Aside0.mk hi105_1; have HC105_1 := Aside0.mk hl105_1; clear hi105_1 hl105_1; replace p105 := eq_true p105; replace q105 := eq_true q105; have ea_ := Option.some.inj (hx102_1.symm.trans hx105_1); injection ea_ with ea_ en_ ec_; subst ea_; subst ec_; clear en_))
         repeat (go_quiet (first | (go_at_call 29; (with_reducible refine (calxref08_SameBook.calls k1 _ _ ((rd_T34 l0 x5_1).f1) _ _ ((rd_T34 l1 x5_1).f1) false _ ?side1 ?side2 ?side3 ?side4 A7.out).mono ?_); (case side1 => repeat (first | exact HR101_1.out | (with_reducible refine Kd.C_alloc ?_ _) | (with_reducible refine Kd.C_drewN ?_ _) | (with_reducible refine Kd.C_drew ?_))); (case side2 => exact HC101_1.out); (case side3 => repeat (first | exact HR102_1.out | (with_reducible refine Kd.C_alloc ?_ _) | (with_reducible refine Kd.C_drewN ?_ _) | (with_reducible refine Kd.C_drew ?_))); (case side4 => exact HC102_1.out); rintro e w' ⟨rfl, ⟨nd, rfl⟩⟩; (try first | exact ⟨rfl, _, World.drewN_drewN _ _ _⟩ | exact ⟨rfl, _, Eq.trans (World.drewN_drewN _ _ _) (congrArg (World.drewN _) (Nat.add_assoc _ _ _))⟩); have p104 : 0 ≤ (x5_1 : Int) := of_decide_eq_true (by first | (with_reducible assumption) | assumption); have q104 : x5_1 < (l0.length : Int) := of_decide_eq_true (by first | (with_reducible assumption) | assumption); obtain ⟨ad104, A104_1, c104_1, e104, hx104_0, hx104_1, hl104_1, hi104_1⟩ := at_T34 HR0.out x5_1 p104 q104; obtain rfl : ad101 = ad104 := (by injection e104); have HR104_1 := Aside0.mk hi104_1; have HC104_1 := Aside0.mk hl104_1; clear hi104_1 hl104_1; replace p104 := eq_true p104; replace q104 := eq_true q104; have ea_ := Option.some.inj (hx101_1.symm.trans hx104_1); injection ea_ with ea_ en_ ec_; subst ea_; subst ec_; clear en_; have p105 : 0 ≤ (x5_1 : Int) := of_decide_eq_true (by first | (with_reducible assumption) | assumption); have q105 : x5_1 < (l1.length : Int) := of_decide_eq_true (by first | (with_reducible assumption) | assumption); obtain ⟨ad105, A105_1, c105_1, e105, hx105_0, hx105_1, hl105_1, hi105_1⟩ := at_T34 HR1.out x5_1 p105 q105; obtain rfl : ad102 = ad105 := (by injection e105); have HR105_1 := Aside0.mk hi105_1; have HC105_1 := Aside0.mk hl105_1; clear hi105_1 hl105_1; replace p105 := eq_true p105; replace q105 := eq_true q105; have ea_ := Option.some.inj (hx102_1.symm.trans hx105_1); injection ea_ with ea_ en_ ec_; subst ea_; subst ec_; clear en_)); try go_wp2_with (first | (go_at_call 29; (with_reducible refine (calxref08_SameBook.calls k1 _ _ ((rd_T34 l0 x5_1).f1) _ _ ((rd_T34 l1 x5_1).f1) false _ ?side1 ?side2 ?side3 ?side4 A7.out).mono ?_); (case side1 => repeat (first | exact HR101_1.out | (with_reducible refine Kd.C_alloc ?_ _) | (with_reducible refine Kd.C_drewN ?_ _) | (with_reducible refine Kd.C_drew ?_))); (case side2 => exact HC101_1.out); (case side3 => repeat (first | exact HR102_1.out | (with_reducible refine Kd.C_alloc ?_ _) | (with_reducible refine Kd.C_drewN ?_ _) | (with_reducible refine Kd.C_drew ?_))); (case side4 => exact HC102_1.out); rintro e w' ⟨rfl, ⟨nd, rfl⟩⟩; (try first | exact ⟨rfl, _, World.drewN_drewN _ _ _⟩ | exact ⟨rfl, _, Eq.trans (World.drewN_drewN _ _ _) (congrArg (World.drewN _) (Nat.add_assoc _ _ _))⟩); have p104 : 0 ≤ (x5_1 : Int) := of_decide_eq_true (by first | (with_reducible assumption) | assumption); have q104 : x5_1 < (l0.length : Int) := of_decide_eq_true (by first | (with_reducible assumption) | assumption); obtain ⟨ad104, A104_1, c104_1, e104, hx104_0, hx104_1, hl104_1, hi104_1⟩ := at_T34 HR0.out x5_1 p104 q104; obtain rfl : ad101 = ad104 := (by injection e104); have HR104_1 := Aside0.mk hi104_1; have HC104_1 := Aside0.mk hl104_1; clear hi104_1 hl104_1; replace p104 := eq_true p104; replace q104 := eq_true q104; have ea_ := Option.some.inj (hx101_1.symm.trans hx104_1); injection ea_ with ea_ en_ ec_; subst ea_; subst ec_; clear en_; have p105 : 0 ≤ (x5_1 : Int) := of_decide_eq_true (by first | (with_reducible assumption) | assumption); have q105 : x5_1 < (l1.length : Int) := of_decide_eq_true (by first | (with_reducible assumption) | assumption); obtain ⟨ad105, A105_1, c105_1, e105, hx105_0, hx105_1, hl105_1, hi105_1⟩ := at_T34 HR1.out x5_1 p105 q105; obtain rfl : ad102 = ad105 := (by injection e105); have HR105_1 := Aside0.mk hi105_1; have HC105_1 := Aside0.mk hl105_1; clear hi105_1 hl105_1; replace p105 := eq_true p105; replace q105 := eq_true q105; have ea_ := Option.some.inj (hx102_1.symm.trans hx105_1); injection ea_ with ea_ en_ ec_; subst ea_; subst ec_; clear en_)))
         go_ret
         exact ⟨by first | rfl | (simp; done) | (simp [*]; done), by repeat (first | exact Drawn0.refl _ | apply Drawn0.step)⟩
       ·rw [if_neg c8] at H
        have c8b0 : (((rd_T34 l0 x5_1).f0) == ((rd_T34 l1 x5_1).f0)) = false := beq_eq_false_iff_ne.mpr c8
        have c8b1 : (((rd_T34 l0 x5_1).f0) != ((rd_T34 l1 x5_1).f0)) = true := bne_iff_ne.mpr c8
        obtain rfl := Option.some.inj H
        have p101 : 0 ≤ (x5_1 : Int) := of_decide_eq_true (by first | (with_reducible assumption) | assumption)
        have q101 : x5_1 < (l0.length : Int) := of_decide_eq_true (by first | (with_reducible assumption) | assumption)
        obtain ⟨ad101, A101_1, c101_1, e101, hx101_0, hx101_1, hl101_1, hi101_1⟩ := at_T34 HR0.out x5_1 p101 q101
        cases e101
        have HR101_1 := Aside0.mk hi101_1
        have HC101_1 := Aside0.mk hl101_1
        clear hi101_1 hl101_1
        replace p101 := eq_true p101
        replace q101 := eq_true q101
        have p102 : 0 ≤ (x5_1 : Int) := of_decide_eq_true (by first | (with_reducible assumption) | assumption)
        have q102 : x5_1 < (l1.length : Int) := of_decide_eq_true (by first | (with_reducible assumption) | assumption)
        obtain ⟨ad102, A102_1, c102_1, e102, hx102_0, hx102_1, hl102_1, hi102_1⟩ := at_T34 HR1.out x5_1 p102 q102
        cases e102
        have HR102_1 := Aside0.mk hi102_1
        have HC102_1 := Aside0.mk hl102_1
        clear hi102_1 hl102_1
        replace p102 := eq_true p102
        replace q102 := eq_true q102
        go_wp2_with (first | (go_at_call 29; (with_reducible refine (calxref08_SameBook.calls k1 _ _ ((rd_T34 l0 x5_1).f1) _ _ ((rd_T34 l1 x5_1).f1) t103 _ ?side1 ?side2 ?side3 ?side4 A7.out).mono ?_); (case side1 => repeat (first | exact HR101_1.out | (with_reducible refine Kd.C_alloc ?_ _) | (with_reducible refine Kd.C_drewN ?_ _) | (with_reducible refine Kd.C_drew ?_))); (case side2 => exact HC101_1.out); (case side3 => repeat (first | exact HR102_1.out | (with_reducible refine Kd.C_alloc ?_ _) | (with_reducible refine Kd.C_drewN ?_ _) | (with_reducible refine Kd.C_drew ?_))); (case side4 => exact HC102_1.out); rintro e w' ⟨rfl, ⟨nd, rfl⟩⟩; (try first | exact ⟨rfl, _, World.drewN_drewN _ _ _⟩ | exact ⟨rfl, _, Eq.trans (World.drewN_drewN _ _ _) (congrArg (World.drewN _) (Nat.add_assoc _ _ _))⟩); have p104 : 0 ≤ (x5_1 : Int) := of_decide_eq_true (by first | (with_reducible assumption) | assumption); have q104 : x5_1 < (l0.length : Int) := of_decide_eq_true (by first | (with_reducible assumption) | assumption); obtain ⟨ad104, A104_1, c104_1, e104, hx104_0, hx104_1, hl104_1, hi104_1⟩ := at_T34 HR0.out x5_1 p104 q104; obtain rfl : ad101 = ad104 := (by injection e104); have HR104_1 := Aside0.mk hi104_1; have HC104_1 := Aside0.mk hl104_1; clear hi104_1 hl104_1; replace p104 := eq_true p104; replace q104 := eq_true q104; have ea_ := Option.some.inj (hx101_1.symm.trans hx104_1); injection ea_ with ea_ en_ ec_; subst ea_; subst ec_; clear en_; have p105 : 0 ≤ (x5_1 : Int) := of_decide_eq_true (by first | (with_reducible assumption) | assumption); have q105 : x5_1 < (l1.length : Int) := of_decide_eq_true (by first | (with_reducible assumption) | assumption); obtain ⟨ad105, A105_1, c105_1, e105, hx105_0, hx105_1, hl105_1, hi105_1⟩ := at_T34 HR1.out x5_1 p105 q105; obtain rfl : ad102 = ad105 := (by injection e105); have HR105_1 := Aside0.mk hi105_1; have HC105_1 := Aside0.mk hl105_1; clear hi105_1 hl105_1; replace p105 := eq_true p105; replace q105 := eq_true q105; have ea_ := Option.some.inj (hx102_1.symm.trans hx105_1); injection ea_ with ea_ en_ ec_; subst ea_; subst ec_; clear en_))
        repeat (go_quiet (first | (go_at_call 29; (with_reducible refine (calxref08_SameBook.calls k1 _ _ ((rd_T34 l0 x5_1).f1) _ _ ((rd_T34 l1 x5_1).f1) t103 _ ?side1 ?side2 ?side3 ?side4 A7.out).mono ?_); (case side1 => repeat (first | exact HR101_1.out | (with_reducible refine Kd.C_alloc ?_ _) | (with_reducible refine Kd.C_drewN ?_ _) | (with_reducible refine Kd.C_drew ?_))); (case side2 => exact HC101_1.out); (case side3 => repeat (first | exact HR102_1.out | (with_reducible refine Kd.C_alloc ?_ _) | (with_reducible refine Kd.C_drewN ?_ _) | (with_reducible refine Kd.C_drew ?_))); (case side4 => exact HC102_1.out); rintro e w' ⟨rfl, ⟨nd, rfl⟩⟩; (try first | exact ⟨rfl, _, World.drewN_drewN _ _ _⟩ | exact ⟨rfl, _, Eq.trans (World.drewN_drewN _ _ _) (congrArg (World.drewN _) (Nat.add_assoc _ _ _))⟩); have p104 : 0 ≤ (x5_1 : Int) := of_decide_eq_true (by first | (with_reducible assumption) | assumption); have q104 : x5_1 < (l0.length : Int) := of_decide_eq_true (by first | (with_reducible assumption) | assumption); obtain ⟨ad104, A104_1, c104_1, e104, hx104_0, hx104_1, hl104_1, hi104_1⟩ := at_T34 HR0.out x5_1 p104 q104; obtain rfl : ad101 = ad104 := (by injection e104); have HR104_1 := Aside0.mk hi104_1; have HC104_1 := Aside0.mk hl104_1; clear hi104_1 hl104_1; replace p104 := eq_true p104; replace q104 := eq_true q104; have ea_ := Option.some.inj (hx101_1.symm.trans hx104_1); injection ea_ with ea_ en_ ec_; subst ea_; subst ec_; clear en_; have p105 : 0 ≤ (x5_1 : Int) := of_decide_eq_true (by first | (with_reducible assumption) | assumption); have q105 : x5_1 < (l1.length : Int) := of_decide_eq_true (by first | (with_reducible assumption) | assumption); obtain ⟨ad105, A105_1, c105_1, e105, hx105_0, hx105_1, hl105_1, hi105_1⟩ := at_T34 HR1.out x5_1 p105 q105; obtain rfl : ad102 = ad105 := (by injection e105); have HR105_1 := Aside0.mk hi105_1; have HC105_1 := Aside0.mk hl105_1; clear hi105_1 hl105_1; replace p105 := eq_true p105; replace q105 := eq_true q105; have ea_ := Option.some.inj (hx102_1.symm.trans hx105_1); injection ea_ with ea_ en_ ec_; subst ea_; subst ec_; clear en_)); try go_wp2_with (first | (go_at_call 29; (with_reducible refine (calxref08_SameBook.calls k1 _ _ ((rd_T34 l0 x5_1).f1) _ _ ((rd_T34 l1 x5_1).f1) t103 _ ?side1 ?side2 ?side3 ?side4 A7.out).mono ?_); (case side1 => repeat (first | exact HR101_1.out | (with_reducible refine Kd.C_alloc ?_ _) | (with_reducible refine Kd.C_drewN ?_ _) | (with_reducible refine Kd.C_drew ?_))); (case side2 => exact HC101_1.out); (case side3 => repeat (first | exact HR102_1.out | (with_reducible refine Kd.C_alloc ?_ _) | (with_reducible refine Kd.C_drewN ?_ _) | (with_reducible refine Kd.C_drew ?_))); (case side4 => exact HC102_1.out); rintro e w' ⟨rfl, ⟨nd, rfl⟩⟩; (try first | exact ⟨rfl, _, World.drewN_drewN _ _ _⟩ | exact ⟨rfl, _, Eq.trans (World.drewN_drewN _ _ _) (congrArg (World.drewN _) (Nat.add_assoc _ _ _))⟩); have p104 : 0 ≤ (x5_1 : Int) := of_decide_eq_true (by first | (with_reducible assumption) | assumption); have q104 : x5_1 < (l0.length : Int) := of_decide_eq_true (by first | (with_reducible assumption) | assumption); obtain ⟨ad104, A104_1, c104_1, e104, hx104_0, hx104_1, hl104_1, hi104_1⟩ := at_T34 HR0.out x5_1 p104 q104; obtain rfl : ad101 = ad104 := (by injection e104); have HR104_1 := Aside0.mk hi104_1; have HC104_1 := Aside0.mk hl104_1; clear hi104_1 hl104_1; replace p104 := eq_true p104; replace q104 := eq_true q104; have ea_ := Option.some.inj (hx101_1.symm.trans hx104_1); injection ea_ with ea_ en_ ec_; subst ea_; subst ec_; clear en_; have p105 : 0 ≤ (x5_1 : Int) := of_decide_eq_true (by first | (with_reducible assumption) | assumption); have q105 : x5_1 < (l1.length : Int) := of_decide_eq_true (by first | (with_reducible assumption) | assumption); obtain ⟨ad105, A105_1, c105_1, e105, hx105_0, hx105_1, hl105_1, hi105_1⟩ := at_T34 HR1.out x5_1 p105 q105; obtain rfl : ad102 = ad105 := (by injection e105); have HR105_1 := Aside0.mk hi105_1; have HC105_1 := Aside0.mk hl105_1; clear hi105_1 hl105_1; replace p105 := eq_true p105; replace q105 := eq_true q105; have ea_ := Option.some.inj (hx102_1.symm.trans hx105_1); injection ea_ with ea_ en_ ec_; subst ea_; subst ec_; clear en_)))
        go_ret
        exact ⟨by first | rfl | (simp; done) | (simp [*]; done), by repeat (first | exact Drawn0.refl _ | apply Drawn0.step)⟩
      ·rw [if_neg c6] at H
       exact absurd H (by simp)
     ·rw [if_neg c5] at H
      exact absurd H (by simp)
    ·rw [if_neg c4] at H
     have c4b0 : decide (x5_1 < (l0.length : Int)) = false := decide_eq_false c4
     clear c4
     obtain rfl := Option.some.inj H
     go_wp2
     repeat (go_quiet (fail); try go_wp2)
     go_ret
     exact ⟨by first | rfl | (simp; done) | (simp [*]; done), by repeat (first | exact Drawn0.refl _ | apply Drawn0.step)⟩
 ·rw [if_neg c3] at H
  have c3b0 : ((l0.length : Int) == (l1.length : Int)) = false := beq_eq_false_iff_ne.mpr c3
  have c3b1 : ((l0.length : Int) != (l1.length : Int)) = true := bne_iff_ne.mpr c3
  have c3b2 : (l0.length == l1.length) = false := by first | simpa using c3 | (simp at c3 ⊢; omega)
  obtain rfl := Option.some.inj H
  go_enter Try.func26, Try.ntmps26
  go_wp2
  repeat (go_quiet (fail); try go_wp2)
  go_ret
  exact ⟨by first | rfl | (simp; done) | (simp [*]; done), by repeat (first | exact Drawn0.refl _ | apply Drawn0.step)⟩
theorem Ev.same' {α β : Type} {f : Nat → Option α} {g : Nat → Option β} {r : α} {t : β} (h : Ev f r) (hs : ∀ k, f k = some r → g k = some t) : Ev g t := by
 obtain ⟨k0, hk⟩ := h
 exact ⟨k0, fun k hle => hs k (hk k hle)⟩
theorem rd34_getElem {l : List S34} {i : Nat} (h : i < l.length) : rd_T34 l (i : Int) = l[i] := by unfold rd_T34; simp [List.getD_eq_getElem?_getD, List.getElem?_eq_getElem h]
theorem few_some (l : List S29) : ∃ b, calxlaw08_few.f l = some b := by unfold calxlaw08_few.f; split; exact ⟨_, rfl⟩; split <;> exact ⟨_, rfl⟩
theorem same_pieces_from {a : List S34} (hl : a.length ≤ 64) (h64 : ∀ p ∈ a, p.f1.length ≤ 64) : ∀ (d k i : Nat), i + d = a.length → d + 100 < k → calxref08_SamePieces.l0 k a a (i : Int) = some true := by
 intro d
 induction d with
 | zero =>
  intro k i hi hk
  obtain ⟨k, rfl⟩ : ∃ m, k = m + 1 := ⟨k - 1, by omega⟩
  simp only [calxref08_SamePieces.l0]
  rw [if_neg (by omega)]
 | succ d ih =>
  intro k i hi hk
  obtain ⟨k, rfl⟩ : ∃ m, k = m + 1 := ⟨k - 1, by omega⟩
  have h1 : i < a.length := by omega
  simp only [calxref08_SamePieces.l0]
  rw [if_pos (by omega), if_pos (by omega), if_pos (by omega), rd34_getElem h1, same_book (h64 _ (List.getElem_mem _)) (by omega), Option.bind_some, if_pos trivial, if_pos (by simp), wrap_nat (by omega)]
  exact ih k (i + 1) (by omega) (by omega)
theorem same_pieces {a : List S34} (hl : a.length ≤ 64) (h64 : ∀ p ∈ a, p.f1.length ≤ 64) {k : Nat} (hk : 200 < k) : calxref08_SamePieces.f k a a = some true := by
 unfold calxref08_SamePieces.f
 rw [if_pos rfl]
 exact same_pieces_from hl h64 a.length k 0 (by omega) (by omega)
theorem apart_len {i : Int} {out : List S34} (hg : ∀ p ∈ out, 1 ≤ p.f1.length ∧ 0 ≤ p.f0 ∧ p.f0 + (p.f1.length : Int) ≤ i ∧ followsP p.f1 = true) (ha : out.Pairwise (fun (p q : S34) => p.f0 + (p.f1.length : Int) < q.f0)) : ∀ (k : Nat) (h : k < out.length), (k : Int) ≤ out[k].f0 := by
 intro k
 induction k with
 | zero => intro h; have := (hg out[0] (List.getElem_mem _)).2.1; omega
 | succ k ih =>
  intro h
  have h1 := ih (by omega)
  have h2 := (List.pairwise_iff_getElem.1 ha) k (k + 1) (by omega) h (by omega)
  have h3 := (hg out[k] (List.getElem_mem _)).1
  omega
theorem missFrom_len (M : Laid) : ∀ (d : Nat) (i : Int) (out : List S39), (missFrom M d i out).length ≤ out.length + d
 | 0, i, out => Nat.le_refl _
 | d + 1, i, out => by
  rw [missFrom]
  have h1 := missFrom_len M d (i + 1) (stepMiss M i out)
  have h2 : (stepMiss M i out).length ≤ out.length + 1 := by
   unfold stepMiss
   split
   ·omega
   ·split
    ·rw [List.length_set]; omega
    ·simp
  omega
def valsFrom (M : Laid) : Nat → Int → List S29
 | 0, _ => []
 | d + 1, i => (M i).getD z29 :: valsFrom M d (i + 1)
def wholeP (l : List S34) (many r : Int) : List S29 × Int :=
 if (missP l many).2 = 0 then (if isDigP r = true then (if (missP l many).1.length = 0 then (match laidP l with | some M => (if rootP (valsFrom M many.toNat 0) = r then (valsFrom M many.toNat 0, 0) else ([], 8)) | none => ([], 0)) else ([], 5)) else ([], 1)) else ([], (missP l many).2)
theorem missP_ok {l : List S34} {many : Int} (h : (missP l many).2 = 0) : checkPiecesP l = 0 ∧ 0 ≤ many ∧ many ≤ 64 := by
 unfold missP at h
 split at h
 ·rename_i hc
  split at h
  ·rename_i hm; exact ⟨hc, hm⟩
  ·cases h
 ·rename_i hc; exact absurd h hc
theorem whole_new {ops : Array Oper} {rest : List Oper} {o : Oper} {a : Act} {Q : Exit → Act → World → Prop} {w wr : World} {b : Nat} {M : Laid} {v7 : Value} {out : List S29} (x : S29) (hgd : o.guard = none) (s y : Operand)
  (ho : o.op = .call { callee := .builtin .append, args := #[s, y], argTypes := #[32, 32] }) (hs : a.eval s = v7) (hx : a.eval y = .slice (some ⟨wr.heap.size, 0, none⟩) 1 1)
  (HB : Below w.heap.size w wr) (HM : MapsTo wr b 1000 M) (HS : Kd.R k29 29 wr w.heap.size (fun k => k ≠ b) v7 out) (hl : out.length ≤ 64)
  (h : ∀ v1 w3, Kd.R k29 29 w3 w.heap.size (fun k => k ≠ b) v1 (out ++ [x]) → Below w.heap.size w w3 → MapsTo w3 b 1000 M → wpList Try.prog ops Q rest (a.put o.dst v1) w3) :
  wpList Try.prog ops Q (o :: rest) a (wr.alloc (.cells #[.int .i64 x.f0, .int .i64 x.f1, .int .i64 x.f2, .int .i64 x.f3] 29)) := by
 have hbs := below_size HB
 have hlt := HM.lt
 refine Kd.R_append k29 (w0 := w) (W := wr) w.heap.size hgd s y 32 29 (.agg #[.int .i64 0, .int .i64 0, .int .i64 0, .int .i64 0]) 32 ho Try.underlying32 info29 rfl (by decide) (by omega) v7 out x [.int .i64 x.f0, .int .i64 x.f1, .int .i64 x.f2, .int .i64 x.f3] (fun k => k ≠ b) (fun _ => False) hs hx (k29_mkM _ _ _ x) (fun _ hk => hk.elim) ?_ HS HB hbs (by omega) ?_
 ·intro k hk
  omega
 ·intro v1 w3 hs3 hb3 hg3 hat3
  exact h v1 w3 hs3 hb3 (MapIs.grown HM hg3 (fun e_ => HS.1 b e_.symm rfl))
def book_Whole.f (l0 : List S34) (many r : Int) : Option (List S29 × Int) := some (wholeP l0 many r)
set_option maxRecDepth 100000 in
set_option maxHeartbeats 1000000 in
theorem book_Whole.calls (A0 : Option Addr) (c0 : Nat) (l0 : List S34) (a1 a2 : Int) (r1 : List S29) (r2 : Int) (w : World) (hr0 : Kd.C k34 w A0 l0.length l0) (hc0 : l0.length ≤ c0) (h : book_Whole.f l0 a1 a2 = some (r1, r2)) :
  Calls Try.prog 59 #[.slice A0 l0.length c0, .int .i64 a1, .int .i64 a2] w fun e w' => ∃ v_ : Value, e = .returned (.tuple #[v_, .int .i64 r2]) ∧ Kd.R k29 29 w' w.heap.size (fun _ => True) v_ r1 ∧ Below w.heap.size w w' := by
 have H := Option.some.inj h
 clear h
 have HR0 := Aside0.mk hr0
 have HC0 := Aside0.mk hc0
 clear hr0 hc0
 have hu29 := Try.underlying29
 have hn := run_not
 obtain ⟨g1, e1, hg1⟩ : ∃ g1 e1, missP l0 a1 = (g1, e1) := ⟨_, _, rfl⟩
 have HMs := Aside0.mk (show book_Missing.f l0 a1 = some (g1, e1) by unfold book_Missing.f; rw [hg1])
 have HD0 := Aside0.mk (isDigest_some a2)
 unfold wholeP at H
 rw [hg1] at H
 by_cases hc : e1 = 0
 ·subst hc
  obtain ⟨hck, hm0, hm1⟩ := missP_ok (l := l0) (many := a1) (by rw [hg1])
  obtain ⟨h12, hall, M, hM, hord, hneg⟩ := checkPieces_ok hck
  simp only [if_true] at H
  cases hdg : isDigP a2 with
  | false =>
   rw [hdg] at H HD0
   simp at H
   obtain ⟨rfl, rfl⟩ := H
   clear hck hm0 hm1 h12 hall hM hord hneg hdg
   go_enter Try.func59, Try.ntmps59
   go_wp2_with fail
   refine (book_Missing.calls _ _ _ _ _ _ _ HR0.out HC0.out HMs.out).mono ?_
   rintro e w1 ⟨v, rfl, hv, hd⟩
   have HD := Aside0.mk hd
   clear hv hd
   go_wp2_with fail
   refine (book_isDigest.calls _ _ _ HD0.out).mono ?_
   rintro e w' ⟨rfl, n1, rfl⟩
   go_wp2
   go_ret2
   exact ⟨_, rfl, Kd.R_nil _ _ _ _ _, pw_below_drewN HD.out n1⟩
  | true =>
   rw [hdg] at H HD0
   simp only [if_true] at H
   by_cases hz : g1.length = 0
   ·rw [if_pos hz, hM] at H
    replace H : (if rootP (valsFrom M a1.toNat 0) = a2 then (valsFrom M a1.toNat 0, (0 : Int)) else ([], 8)) = (r1, r2) := H
    obtain ⟨n, rfl⟩ := Int.eq_ofNat_of_zero_le hm0
    rw [Int.toNat_natCast] at H
    have HH := Aside0.mk H
    have HL := Aside0.mk hM
    have HA := Aside0.mk (show ∀ q ∈ l0, Fits q from fun q hq => pieceP_fits (hall q hq))
    have H12 := Aside0.mk h12
    have hn64 : n ≤ 64 := by omega
    obtain rfl : g1 = [] := List.eq_nil_of_length_eq_zero hz
    clear H hck hm0 hm1 h12 hall hM hord hneg hdg hz hg1
    go_enter Try.func59, Try.ntmps59
    go_wp2_with fail
    refine (book_Missing.calls _ _ _ _ _ _ _ HR0.out HC0.out HMs.out).mono ?_
    rintro e w1 ⟨v, rfl, hv, hd⟩
    have HD := Aside0.mk hd
    obtain ⟨Av, cv, rfl⟩ := Kd.R_slice hv
    clear hv hd
    go_wp2_with fail
    refine (book_isDigest.calls _ _ _ HD0.out).mono ?_
    rintro e w' ⟨rfl, n1, rfl⟩
    have HD1 := Aside0.mk (pw_below_drewN HD.out n1)
    go_wp2_with fail
    refine (laid_calls _ _ _ _ (Kd.C_below HR0.out HD1.out) HC0.out H12.out HA.out).mono ?_
    rintro e w2 ⟨hd, hres⟩
    rcases hres with ⟨hl, rfl⟩ | ⟨M', hl, rfl, hm⟩
    ·exact absurd (HL.out.symm.trans hl) (by simp)
    ·obtain rfl : M = M' := Option.some.inj (HL.out.symm.trans hl)
     have HB := Aside0.mk (below_then HD1.out (below_size HD1.out) hd)
     have HM := Aside0.mk hm
     have HSZ := Aside0.mk (show w.heap.size ≤ w1.heap.size from below_size HD.out)
     clear hl hd hm
     obtain ⟨b, hb⟩ : ∃ b, b = (w1.drewN n1).heap.size := ⟨_, rfl⟩
     rw [← hb] at HM ⊢
     clear hb
     go_wp2
     go_loopw [12, 35] (fun v12 v35 wr => ∃ (i : Nat) (out : List S29), i ≤ n ∧ v35 = .int .i64 (i : Int) ∧ Aside0 (Below w.heap.size w wr) ∧ Aside0 (MapsTo wr b 1000 M) ∧ Aside0 (Kd.R k29 29 wr w.heap.size (fun k => k ≠ b) v12 out) ∧ Aside0 (out.length = i) ∧ Aside0 (out ++ valsFrom M (n - i) i = valsFrom M n 0)) (fun _ v35 _ => n - (intOf v35).toNat)
     case atStart => exact ⟨0, [], by omega, rfl, HB, HM, ⟨Kd.R_nil _ _ _ _ _⟩, ⟨rfl⟩, ⟨rfl⟩⟩
     case round =>
      obtain ⟨i, out, hi, rfl, HBr, HMr, HS, HI, HJr⟩ := hrel
      obtain ⟨A7, c7, rfl⟩ := Kd.R_slice HS.out
      by_cases hlt : i < n
      ·obtain ⟨d, hd⟩ : ∃ d, n - i = d + 1 := ⟨n - i - 1, by omega⟩
       have hr := HJr.out
       rw [hd] at hr
       have hd2 : d = n - (i + 1) := by omega
       obtain ⟨x, hx⟩ : ∃ x, x = (M (i : Int)).getD z29 := ⟨_, rfl⟩
       replace hr : out ++ ((M (i : Int)).getD z29 :: valsFrom M d ((i : Int) + 1)) = valsFrom M n 0 := hr
       rw [hd2, ← hx, show out ++ (x :: valsFrom M (n - (i + 1)) ((i : Int) + 1)) = (out ++ [x]) ++ valsFrom M (n - (i + 1)) ((i : Int) + 1) by simp] at hr
       have HKEY := Aside0.mk (show keyOf Try.prog 3 (ekI (i : Int)) = some (.int .i64 (i : Int)) from Go.Maps.keyOf_int_mk Try.underlying3 (by have e : wrap64 (i : Int) = (i : Int) := by {unfold wrap64; omega}; rw [← e]; exact wrap64_wf _))
       have HX := Aside0.mk (show (M (i : Int) = none ∧ x = z29) ∨ M (i : Int) = some x by rw [hx]; cases M (i : Int) <;> simp)
       have HR2 := Aside0.mk hr
       have HO64 := Aside0.mk (show out.length ≤ 64 by have := HI.out; omega)
       clear hr hd hd2 hx
       go_wp2_with (first
        | (at_lookup; refine wpList_lookup_map _ rfl _ _ 130 false rfl 3 29 law3 Try.underlying130 _ (zero29 _) ekI ev29 b 1000 M rfl HMr.out (i : Int) _ rfl HKEY.out (.agg #[.int .i64 x.f0, .int .i64 x.f1, .int .i64 x.f2, .int .i64 x.f3]) (by rcases HX.out with ⟨h1, h2⟩ | h1; (rw [h1, h2]; rfl); (rw [h1]; rfl)) ?_)
        | (at_builtin; refine whole_new x rfl _ _ rfl rfl rfl HBr.out HMr.out HS.out HO64.out ?_; intro v1 w3 hs3 hb3 hm3)
        | fail)
       have HS3 := Aside0.mk hs3
       have HB3 := Aside0.mk hb3
       have HM3 := Aside0.mk hm3
       clear hs3 hb3 hm3
       go_roundw
       case rel => exact ⟨i + 1, out ++ [x], by omega, by push_cast; rfl, HB3, HM3, HS3, ⟨by have := HI.out; simp; omega⟩, HR2⟩
       case measure => simp [intOf]; omega
      ·have hr := HJr.out
       rw [show n - i = 0 by omega] at hr
       replace hr : out ++ [] = valsFrom M n 0 := hr
       rw [List.append_nil] at hr
       have hh := HH.out
       rw [← hr] at hh
       have HO64 := Aside0.mk (show out.length ≤ 64 by have := HI.out; omega)
       obtain ⟨A8, c8, e8, hcl, hcr⟩ := Kd.R_reads HS.out
       injection e8 with e8a e8b e8c
       subst e8a e8c
       have HCR := Aside0.mk hcr
       have HCL := Aside0.mk hcl
       clear hr hcr hcl HH
       go_wp2_with fail
       refine (book_root.calls _ _ out (rootP out) _ HCR.out HCL.out (by unfold book_root.f; rw [if_pos HO64.out])).mono ?_
       rintro e w4 ⟨rfl, hd4⟩
       have HD4 := Aside0.mk (below_then HBr.out (below_size HBr.out) hd4)
       have HS4 := Aside0.mk (Kd.R_below HS.out hd4)
       clear hd4
       by_cases hrr : rootP out = a2
       ·rw [if_pos hrr] at hh
        simp only [Prod.mk.injEq] at hh
        obtain ⟨rfl, rfl⟩ := hh
        have hrb : (rootP out == a2) = true := by simp [hrr]
        clear hrr
        go_wp2
        go_ret2
        exact ⟨_, rfl, Kd.R_mono HS4.out (fun _ _ => trivial), HD4.out⟩
       ·rw [if_neg hrr] at hh
        simp only [Prod.mk.injEq] at hh
        obtain ⟨rfl, rfl⟩ := hh
        have hrb : (rootP out == a2) = false := by simp [hrr]
        go_wp2
        go_ret2
        exact ⟨_, rfl, Kd.R_nil _ _ _ _ _, HD4.out⟩
   ·rw [if_neg hz] at H
    simp only [Prod.mk.injEq] at H
    obtain ⟨rfl, rfl⟩ := H
    clear hck hm0 hm1 h12 hall M hM hord hneg hdg
    have hzb : decide ((0 : Int) < (g1.length : Int)) = true := by simp; omega
    have hzc : 0 < g1.length := by omega
    go_enter Try.func59, Try.ntmps59
    go_wp2_with fail
    refine (book_Missing.calls _ _ _ _ _ _ _ HR0.out HC0.out HMs.out).mono ?_
    rintro e w1 ⟨v, rfl, hv, hd⟩
    have HD := Aside0.mk hd
    obtain ⟨Av, cv, rfl⟩ := Kd.R_slice hv
    clear hv hd
    go_wp2_with fail
    refine (book_isDigest.calls _ _ _ HD0.out).mono ?_
    rintro e w' ⟨rfl, n1, rfl⟩
    go_wp2
    go_ret2
    exact ⟨_, rfl, Kd.R_nil _ _ _ _ _, pw_below_drewN HD.out n1⟩
 ·rw [if_neg hc] at H
  simp only [Prod.mk.injEq] at H
  obtain ⟨rfl, rfl⟩ := H
  have hcb : (e1 == 0) = false := by simp [hc]
  go_enter Try.func59, Try.ntmps59
  go_wp2_with fail
  refine (book_Missing.calls _ _ _ _ _ _ _ HR0.out HC0.out HMs.out).mono ?_
  rintro e w1 ⟨v, rfl, hv, hd⟩
  have HD := Aside0.mk hd
  clear hv hd
  go_wp2
  go_ret2
  exact ⟨_, rfl, Kd.R_nil _ _ _ _ _, HD.out⟩
theorem miss_wf {M : Laid} : ∀ (d : Nat) (i : Int) (out : List S39), (∀ s ∈ out, s.f0 ≤ s.f1) → ∀ s ∈ missFrom M d i out, s.f0 ≤ s.f1
 | 0, _, _, h => h
 | d + 1, i, out, h => by
  rw [missFrom]
  refine miss_wf d (i + 1) _ (fun s hs => ?_)
  unfold stepMiss at hs
  split at hs
  ·exact h s hs
  ·split at hs
   ·rename_i hl
    have hm : out.getD (out.length - 1) z39 ∈ out := by
     rw [List.getD_eq_getElem?_getD, List.getElem?_eq_getElem (show out.length - 1 < out.length by omega)]
     exact List.getElem_mem _
    rcases List.mem_or_eq_of_mem_set hs with hs | hs
    ·exact h s hs
    ·rw [hs]
     have := h _ hm
     show (out.getD (out.length - 1) z39).f0 ≤ i
     omega
   ·rcases List.mem_append.1 hs with hs | hs
    ·exact h s hs
    ·rw [List.mem_singleton.1 hs]; exact Int.le_refl _
section
attribute [local go_sem high] eqA29
mutual
def calxref08_slots.l0 : Nat → List (S34) → Int → Option ((List (S179)) × Int)
 | 0, _, _ => none
 | k + 1, x0, x3 => if x3 < (x0.length : Int) then (if 0 ≤ x3 then ((calxref08_book.f k ((rd_T34 x0 x3).f1)).bind fun t103 => (if ((rd_T34 x0 x3).f0) < 0 then (some (([] : List (S179)), 1)) else (if (((rd_T34 x0 x3).f1).length : Int) < 1 then (some (([] : List (S179)), 1)) else (if (((rd_T34 x0 x3).f1).length : Int) > 64 then (some (([] : List (S179)), 1)) else (if ((rd_T34 x0 x3).f0) > (wrap64 (64 - (((rd_T34 x0 x3).f1).length : Int))) then (some (([] : List (S179)), 1)) else (if t103 = true then (calxref08_slots.l0 k x0 (wrap64 (x3 + 1))) else (some (([] : List (S179)), 1)))))))) else (none)) else (if 64 ≤ 7036874417766 then (calxref08_slots.l1 k x0 (List.replicate 64 z179) 0) else (none))
def calxref08_slots.l1 : Nat → List (S34) → List (S179) → Int → Option ((List (S179)) × Int)
 | 0, _, _, _ => none
 | k + 1, x0, x5, x6 => if x6 < (x0.length : Int) then (calxref08_slots.l2 k x0 x5 x6 0) else (calxref08_slots.l3 k x5 0 0)
def calxref08_slots.l2 : Nat → List (S34) → List (S179) → Int → Int → Option ((List (S179)) × Int)
 | 0, _, _, _, _ => none
 | k + 1, x0, x5, x6, x7 => if 0 ≤ x6 then (if x6 < (x0.length : Int) then (if x7 < (((rd_T34 x0 x6).f1).length : Int) then (if 0 ≤ (wrap64 (((rd_T34 x0 x6).f0) + x7)) then (if (wrap64 (((rd_T34 x0 x6).f0) + x7)) < (x5.length : Int) then (if (rd_T179 x5 (wrap64 (((rd_T34 x0 x6).f0) + x7))).f1 = true then (if 0 ≤ x7 then (if (!(((rd_T179 x5 (wrap64 (((rd_T34 x0 x6).f0) + x7))).f0.f0) == ((rd_T29 ((rd_T34 x0 x6).f1) x7).f0)) || (!(((rd_T179 x5 (wrap64 (((rd_T34 x0 x6).f0) + x7))).f0.f1) == ((rd_T29 ((rd_T34 x0 x6).f1) x7).f1)) || (!(((rd_T179 x5 (wrap64 (((rd_T34 x0 x6).f0) + x7))).f0.f2) == ((rd_T29 ((rd_T34 x0 x6).f1) x7).f2)) || (!(((rd_T179 x5 (wrap64 (((rd_T34 x0 x6).f0) + x7))).f0.f3) == ((rd_T29 ((rd_T34 x0 x6).f1) x7).f3)))))) = true then (some (([] : List (S179)), 9)) else (calxref08_slots.l2 k x0 (x5.set ((wrap64 (((rd_T34 x0 x6).f0) + x7)) : Int).toNat (⟨(⟨(rd_T29 ((rd_T34 x0 x6).f1) x7).f0, (rd_T29 ((rd_T34 x0 x6).f1) x7).f1, (rd_T29 ((rd_T34 x0 x6).f1) x7).f2, (rd_T29 ((rd_T34 x0 x6).f1) x7).f3⟩ : S29), true⟩ : S179)) x6 (wrap64 (x7 + 1)))) else (none)) else (if 0 ≤ x7 then (calxref08_slots.l2 k x0 (x5.set ((wrap64 (((rd_T34 x0 x6).f0) + x7)) : Int).toNat (⟨(⟨(rd_T29 ((rd_T34 x0 x6).f1) x7).f0, (rd_T29 ((rd_T34 x0 x6).f1) x7).f1, (rd_T29 ((rd_T34 x0 x6).f1) x7).f2, (rd_T29 ((rd_T34 x0 x6).f1) x7).f3⟩ : S29), true⟩ : S179)) x6 (wrap64 (x7 + 1))) else (none))) else (none)) else (none)) else (calxref08_slots.l1 k x0 x5 (wrap64 (x6 + 1)))) else (none)) else (none)
def calxref08_slots.l3 : Nat → List (S179) → Int → Int → Option ((List (S179)) × Int)
 | 0, _, _, _ => none
 | k + 1, x5, x9, x10 => if x10 < (x5.length : Int) then (if 0 ≤ x10 then (if (rd_T179 x5 x10).f1 = true then (calxref08_slots.j4 k x5 x9 x10 (decide (((rd_T179 x5 x10).f0.f0) < x9))) else (calxref08_slots.j4 k x5 x9 x10 false)) else (none)) else (some (x5, 0))
def calxref08_slots.j4 : Nat → List (S179) → Int → Int → Bool → Option ((List (S179)) × Int)
 | 0, _, _, _, _ => none
 | k + 1, x5, x9, x10, x149 => if x149 = true then (some (([] : List (S179)), 9)) else (if 0 ≤ x10 then (if x10 < (x5.length : Int) then (if (rd_T179 x5 x10).f1 = true then (calxref08_slots.l3 k x5 ((rd_T179 x5 x10).f0.f0) (wrap64 (x10 + 1))) else (calxref08_slots.l3 k x5 x9 (wrap64 (x10 + 1)))) else (none)) else (none))
end
def calxref08_slots.f (k : Nat) (l0 : List (S34)) : Option ((List (S179)) × Int) := if (l0.length : Int) > 12 then (some (([] : List (S179)), 2)) else (calxref08_slots.l0 k l0 0)
theorem calxref08_slots.mono_l : ∀ k, (∀ y0 y1, LeO (calxref08_slots.l0 k y0 y1) (calxref08_slots.l0 (k + 1) y0 y1)) ∧ (∀ y0 y1 y2, LeO (calxref08_slots.l1 k y0 y1 y2) (calxref08_slots.l1 (k + 1) y0 y1 y2)) ∧ (∀ y0 y1 y2 y3, LeO (calxref08_slots.l2 k y0 y1 y2 y3) (calxref08_slots.l2 (k + 1) y0 y1 y2 y3)) ∧ (∀ y0 y1 y2, LeO (calxref08_slots.l3 k y0 y1 y2) (calxref08_slots.l3 (k + 1) y0 y1 y2)) ∧ (∀ y0 y1 y2 y3, LeO (calxref08_slots.j4 k y0 y1 y2 y3) (calxref08_slots.j4 (k + 1) y0 y1 y2 y3))
 | 0 => ⟨fun _ _ r h => by simp [calxref08_slots.l0] at h, fun _ _ _ r h => by simp [calxref08_slots.l1] at h, fun _ _ _ _ r h => by simp [calxref08_slots.l2] at h, fun _ _ _ r h => by simp [calxref08_slots.l3] at h, fun _ _ _ _ r h => by simp [calxref08_slots.j4] at h⟩
 | k + 1 => by
  obtain ⟨ih0, ih1, ih2, ih3, ih4⟩ := calxref08_slots.mono_l k
  refine ⟨?_, ?_, ?_, ?_, ?_⟩
  ·intro y0 y1
   unfold calxref08_slots.l0
   repeat' first
   | (with_reducible exact ih0 _ _)
   | (with_reducible exact ih1 _ _ _)
   | (with_reducible exact ih2 _ _ _ _)
   | (with_reducible exact ih3 _ _ _)
   | (with_reducible exact ih4 _ _ _ _)
   | (with_reducible exact calxref08_book.mono _ _)
   | (with_reducible exact LeO.refl _)
   | (with_reducible exact LeO.none _)
   | (with_reducible refine LeO.ite ?_ ?_)
   | (with_reducible refine LeO.bind ?_ (fun _ => ?_))
   | exact ih0 _ _
   | exact ih1 _ _ _
   | exact ih2 _ _ _ _
   | exact ih3 _ _ _
   | exact ih4 _ _ _ _
   | exact calxref08_book.mono _ _
   | exact LeO.none _
   | refine LeO.ite ?_ ?_
   | refine LeO.bind ?_ (fun _ => ?_)
  ·intro y0 y1 y2
   unfold calxref08_slots.l1
   repeat' first
   | (with_reducible exact ih0 _ _)
   | (with_reducible exact ih1 _ _ _)
   | (with_reducible exact ih2 _ _ _ _)
   | (with_reducible exact ih3 _ _ _)
   | (with_reducible exact ih4 _ _ _ _)
   | (with_reducible exact calxref08_book.mono _ _)
   | (with_reducible exact LeO.refl _)
   | (with_reducible exact LeO.none _)
   | (with_reducible refine LeO.ite ?_ ?_)
   | (with_reducible refine LeO.bind ?_ (fun _ => ?_))
   | exact ih0 _ _
   | exact ih1 _ _ _
   | exact ih2 _ _ _ _
   | exact ih3 _ _ _
   | exact ih4 _ _ _ _
   | exact calxref08_book.mono _ _
   | exact LeO.none _
   | refine LeO.ite ?_ ?_
   | refine LeO.bind ?_ (fun _ => ?_)
  ·intro y0 y1 y2 y3
   unfold calxref08_slots.l2
   repeat' first
   | (with_reducible exact ih0 _ _)
   | (with_reducible exact ih1 _ _ _)
   | (with_reducible exact ih2 _ _ _ _)
   | (with_reducible exact ih3 _ _ _)
   | (with_reducible exact ih4 _ _ _ _)
   | (with_reducible exact calxref08_book.mono _ _)
   | (with_reducible exact LeO.refl _)
   | (with_reducible exact LeO.none _)
   | (with_reducible refine LeO.ite ?_ ?_)
   | (with_reducible refine LeO.bind ?_ (fun _ => ?_))
   | exact ih0 _ _
   | exact ih1 _ _ _
   | exact ih2 _ _ _ _
   | exact ih3 _ _ _
   | exact ih4 _ _ _ _
   | exact calxref08_book.mono _ _
   | exact LeO.none _
   | refine LeO.ite ?_ ?_
   | refine LeO.bind ?_ (fun _ => ?_)
  ·intro y0 y1 y2
   unfold calxref08_slots.l3
   repeat' first
   | (with_reducible exact ih0 _ _)
   | (with_reducible exact ih1 _ _ _)
   | (with_reducible exact ih2 _ _ _ _)
   | (with_reducible exact ih3 _ _ _)
   | (with_reducible exact ih4 _ _ _ _)
   | (with_reducible exact calxref08_book.mono _ _)
   | (with_reducible exact LeO.refl _)
   | (with_reducible exact LeO.none _)
   | (with_reducible refine LeO.ite ?_ ?_)
   | (with_reducible refine LeO.bind ?_ (fun _ => ?_))
   | exact ih0 _ _
   | exact ih1 _ _ _
   | exact ih2 _ _ _ _
   | exact ih3 _ _ _
   | exact ih4 _ _ _ _
   | exact calxref08_book.mono _ _
   | exact LeO.none _
   | refine LeO.ite ?_ ?_
   | refine LeO.bind ?_ (fun _ => ?_)
  ·intro y0 y1 y2 y3
   unfold calxref08_slots.j4
   repeat' first
   | (with_reducible exact ih0 _ _)
   | (with_reducible exact ih1 _ _ _)
   | (with_reducible exact ih2 _ _ _ _)
   | (with_reducible exact ih3 _ _ _)
   | (with_reducible exact ih4 _ _ _ _)
   | (with_reducible exact calxref08_book.mono _ _)
   | (with_reducible exact LeO.refl _)
   | (with_reducible exact LeO.none _)
   | (with_reducible refine LeO.ite ?_ ?_)
   | (with_reducible refine LeO.bind ?_ (fun _ => ?_))
   | exact ih0 _ _
   | exact ih1 _ _ _
   | exact ih2 _ _ _ _
   | exact ih3 _ _ _
   | exact ih4 _ _ _ _
   | exact calxref08_book.mono _ _
   | exact LeO.none _
   | refine LeO.ite ?_ ?_
   | refine LeO.bind ?_ (fun _ => ?_)
theorem calxref08_slots.mono : ∀ a0 k, LeO (calxref08_slots.f k a0) (calxref08_slots.f (k + 1) a0) := by
 intro a0 k
 obtain ⟨ih0, ih1, ih2, ih3, ih4⟩ := calxref08_slots.mono_l k
 unfold calxref08_slots.f
 repeat' first
   | (with_reducible exact ih0 _ _)
   | (with_reducible exact ih1 _ _ _)
   | (with_reducible exact ih2 _ _ _ _)
   | (with_reducible exact ih3 _ _ _)
   | (with_reducible exact ih4 _ _ _ _)
   | (with_reducible exact calxref08_book.mono _ _)
   | (with_reducible exact LeO.refl _)
   | (with_reducible exact LeO.none _)
   | (with_reducible refine LeO.ite ?_ ?_)
   | (with_reducible refine LeO.bind ?_ (fun _ => ?_))
   | exact ih0 _ _
   | exact ih1 _ _ _
   | exact ih2 _ _ _ _
   | exact ih3 _ _ _
   | exact ih4 _ _ _ _
   | exact calxref08_book.mono _ _
   | exact LeO.none _
   | refine LeO.ite ?_ ?_
   | refine LeO.bind ?_ (fun _ => ?_)
set_option maxHeartbeats 8000000 in
set_option maxRecDepth 100000 in
theorem calxref08_slots.calls (k : Nat) (A0 : Option Addr) (c0 : Nat) (l0 : List (S34)) (r1 : List (S179)) (r2 : Int) (w : World) (hr0 : Kd.C k34 w A0 l0.length l0) (hc0 : l0.length ≤ c0) (h : calxref08_slots.f k l0 = some (r1, r2)) :
  Calls Try.prog 131 #[.slice A0 l0.length c0] w fun e w' => ∃ v0_ : Value, e = .returned (.agg #[v0_, .int .i64 r2]) ∧ Kd.R k179 179 w' w.heap.size (fun _ => True) v0_ r1 ∧ Below w.heap.size w w' := by
 have hu176 := Try.underlying176
 have hu29 := Try.underlying29
 have hu179 := Try.underlying179
 have HR0 := Aside0.mk hr0
 have HC0 := Aside0.mk hc0
 clear hr0 hc0
 have HB := Aside0.mk (Below.refl w.heap.size w)
 have H : (if (l0.length : Int) > 12 then (some (([] : List (S179)), 2)) else (calxref08_slots.l0 k l0 0)) = some (r1, r2) := h
 clear h
 by_cases c2 : (l0.length : Int) > 12
 ·rw [if_pos c2] at H
  have c2b0 : decide (12 < (l0.length : Int)) = true := decide_eq_true c2
  have c2b1 : decide (12 < l0.length) = true := decide_eq_true (by omega)
  clear c2
  simp only [Option.some.injEq, Prod.mk.injEq] at H
  obtain ⟨rfl, rfl⟩ := H
  go_enter Try.func131, Try.ntmps131
  go_wp2_with (first | ((with_reducible refine gate_dst (N := 2) rfl ?_); (try (refine gate_guard (by rfl) ?_; dsimp only)); refine box_event ?hg (N := 2) ?hd (cs := #[.slice none 0 0, .int .i64 0]) (t := 176) ?hr ?_; (case hd => rfl); (case hg => rfl); (case hr => first | (go_simp; done) | (go_simp; rfl)); intro gb101 hg w3 hbox hb; have n0_ := Aside0.mk (below_step (by repeat (first | (with_reducible first | exact HB.out | apply below_alloc | apply pw_below_drewN | apply below_drew1) | exact HB.out)) hb); have n1_ := Aside0.mk (hbox); have n2_ := Aside0.mk ((by rw [hg]; exact (below_size (by repeat (first | (with_reducible first | exact HB.out | apply below_alloc | apply pw_below_drewN | apply below_drew1) | exact HB.out))) : w.heap.size ≤ gb101)); have n3_ := Aside0.mk ((by rw [hg]; exact (below_size (by repeat (first | (with_reducible first | exact HB.out | apply below_alloc | apply pw_below_drewN | apply below_drew1) | exact HB.out))) : w.heap.size ≤ gb101)); clear HB; have HB := n0_; have BK101 := n1_; have GW101 := n2_; have GE101 := n3_; clear n0_ n1_ n2_ n3_; clear hb hbox hg; have hcz4_0 : w3.cell? ⟨gb101, 0, none⟩ = some (.slice none 0 0) := (blk_cell BK101.out 0).trans rfl; have hcz4_1 : w3.cell? ⟨gb101, 1, none⟩ = some (.int .i64 0) := (blk_cell BK101.out 1).trans rfl; have hfz4_0 := blk_frozen BK101.out 0; have hfz4_1 := blk_frozen BK101.out 1))
  repeat (go_quiet (fail); try go_wp2)
  refine bodyPost_ret (results_cell_row rfl _ _ gb101 176 #[.slice none 0 0, .int .i64 2] (0, 0) _ rfl (by (with_reducible repeat (first | refine blk_drewN ?_ _ | refine blk_drew ?_ | refine blk_alloc ?_ _)); refine blk_put (cs := #[.slice none 0 0, .int .i64 0]) ?_ 1 _ rfl; (with_reducible repeat (first | refine blk_drewN ?_ _ | refine blk_drew ?_ | refine blk_alloc ?_ _)); refine blk_put (cs := #[.slice none 0 0, .int .i64 0]) ?_ 0 _ rfl; (with_reducible repeat (first | refine blk_drewN ?_ _ | refine blk_drew ?_ | refine blk_alloc ?_ _)); exact BK101.out) Try.underlying176 rfl (by kernel_rfl)) rfl ?_
  exact ⟨_, by first | rfl | (simp [errW_none, errW_some] <;> rfl) | (simp [*, errW_none, errW_some] <;> rfl), by first | exact Kd.R_nil _ _ _ _ _ | exact Kd.N_nil _ _ _ _ _ | exact Kd.V_nil _ _ _ _ _ | exact Kd.Q_nil _ _ _ _ _ | exact Kd.S_nil _ _ _ _ _, by repeat (first | (with_reducible first | exact HB.out | apply below_alloc | apply pw_below_drewN | apply below_drew1 | refine below_set ?_ GE101.out) | exact HB.out)⟩
 ·rw [if_neg c2] at H
  have c2b0 : decide (12 < (l0.length : Int)) = false := decide_eq_false c2
  have c2b1 : decide (12 < l0.length) = false := decide_eq_false (by omega)
  clear c2
  have H' := Aside0.mk H
  clear H
  go_enter Try.func131, Try.ntmps131
  go_wp2_with (first | ((with_reducible refine gate_dst (N := 2) rfl ?_); (try (refine gate_guard (by rfl) ?_; dsimp only)); refine box_event ?hg (N := 2) ?hd (cs := #[.slice none 0 0, .int .i64 0]) (t := 176) ?hr ?_; (case hd => rfl); (case hg => rfl); (case hr => first | (go_simp; done) | (go_simp; rfl)); intro gb101 hg w5 hbox hb; have n0_ := Aside0.mk (below_step (by repeat (first | (with_reducible first | exact HB.out | apply below_alloc | apply pw_below_drewN | apply below_drew1) | exact HB.out)) hb); have n1_ := Aside0.mk (hbox); have n2_ := Aside0.mk ((by rw [hg]; exact (below_size (by repeat (first | (with_reducible first | exact HB.out | apply below_alloc | apply pw_below_drewN | apply below_drew1) | exact HB.out))) : w.heap.size ≤ gb101)); have n3_ := Aside0.mk ((by rw [hg]; exact (below_size (by repeat (first | (with_reducible first | exact HB.out | apply below_alloc | apply pw_below_drewN | apply below_drew1) | exact HB.out))) : w.heap.size ≤ gb101)); clear HB; have HB := n0_; have BK101 := n1_; have GW101 := n2_; have GE101 := n3_; clear n0_ n1_ n2_ n3_; clear hb hbox hg))
  repeat (go_quiet (fail); try go_wp2)
  go_loopg [3] k (fun kq v3 w' => ∃ (x3_1 : Int) (x102001_1 : Int), v3 = .int .i64 x3_1 ∧ Aside0 (calxref08_slots.l0 kq l0 x3_1 = some (r1, r2)) ∧ Aside0 (kq ≤ k) ∧ Aside0 (w'.heap[gb101]? = some (.cells #[(.slice none 0 0), .int .i64 x102001_1] 176 (0, 0))) ∧ Aside0 (Below w.heap.size w w'))
  case atStart => exact ⟨(0), (0), (by first | rfl | (simp; done) | (simp [*]; done)), H', ⟨Nat.le_refl _⟩, ⟨by (with_reducible repeat (first | refine blk_drewN ?_ _ | refine blk_drew ?_ | refine blk_alloc ?_ _)); exact BK101.out⟩, ⟨by repeat (first | (with_reducible first | exact HB.out | apply below_alloc | apply pw_below_drewN | apply below_drew1 | refine below_set ?_ GE101.out) | exact HB.out)⟩⟩
  case round =>
   clear H'
   obtain ⟨x3_1, x102001_1, rfl, HA, HK1, BK101, HB⟩ := hrel
   cases gk with
   | zero => exact absurd HA.out (by simp [calxref08_slots.l0])
   | succ k1 =>
    have H := HA.out
    clear HA
    simp only [calxref08_slots.l0] at H
    by_cases c6 : x3_1 < (l0.length : Int)
    ·rw [if_pos c6] at H
     have c6b0 : decide (x3_1 < (l0.length : Int)) = true := decide_eq_true c6
     clear c6
     by_cases c7 : 0 ≤ x3_1
     ·rw [if_pos c7] at H
      have c7b0 : decide (0 ≤ x3_1) = true := decide_eq_true c7
      clear c7
      replace H := Option.bind_eq_some_iff.mp H
      obtain ⟨t103, A80, H⟩ := H
      replace H : (if ((rd_T34 l0 x3_1).f0) < 0 then (some (([] : List (S179)), 1)) else (if (((rd_T34 l0 x3_1).f1).length : Int) < 1 then (some (([] : List (S179)), 1)) else (if (((rd_T34 l0 x3_1).f1).length : Int) > 64 then (some (([] : List (S179)), 1)) else (if ((rd_T34 l0 x3_1).f0) > (wrap64 (64 - (((rd_T34 l0 x3_1).f1).length : Int))) then (some (([] : List (S179)), 1)) else (if t103 = true then (calxref08_slots.l0 k1 l0 (wrap64 (x3_1 + 1))) else (some (([] : List (S179)), 1))))))) = some (r1, r2) := H
      have A8 := Aside0.mk A80
      clear A80
      by_cases c9 : ((rd_T34 l0 x3_1).f0) < 0
      ·rw [if_pos c9] at H
       have c9b0 : decide (((rd_T34 l0 x3_1).f0) < 0) = true := decide_eq_true c9
       clear c9
       simp only [Option.some.injEq, Prod.mk.injEq] at H
       obtain ⟨rfl, rfl⟩ := H
       have p102 : 0 ≤ (x3_1 : Int) := of_decide_eq_true (by first | (with_reducible assumption) | assumption)
       have q102 : x3_1 < (l0.length : Int) := of_decide_eq_true (by first | (with_reducible assumption) | assumption)
       obtain ⟨ad102, A102_1, c102_1, e102, hx102_0, hx102_1, hl102_1, hi102_1⟩ := at_T34 HR0.out x3_1 p102 q102
       cases e102
       replace hx102_0 := (HB.out.cell (World.block_lt_of_cell? w _ hx102_0)).trans hx102_0
       replace hx102_1 := (HB.out.cell (World.block_lt_of_cell? w _ hx102_1)).trans hx102_1
       have HR102_1 := Aside0.mk hi102_1
       have HC102_1 := Aside0.mk hl102_1
       clear hi102_1 hl102_1
       replace p102 := eq_true p102
       replace q102 := eq_true q102
       go_wp2_with (first | (go_at_call 108; (with_reducible refine (calxref08_book.calls k1 _ _ ((rd_T34 l0 x3_1).f1) t103 _ ?side1 ?side2 A8.out).mono ?_); (case side1 => repeat (first | exact (Kd.C_below HR102_1.out HB.out) | (with_reducible refine Kd.C_alloc ?_ _) | (with_reducible refine Kd.C_drewN ?_ _) | (with_reducible refine Kd.C_drew ?_))); (case side2 => exact HC102_1.out); rintro e w10 ⟨rfl, hb⟩; have n0_ := Aside0.mk (blk_below (g := gb101) (o := .cells #[.slice none 0 0, .int .i64 x102001_1] 176 (0, 0)) (by (with_reducible repeat (first | refine blk_drewN ?_ _ | refine blk_drew ?_ | refine blk_alloc ?_ _)); exact BK101.out) hb); have n1_ := Aside0.mk (below_step (by repeat (first | (with_reducible first | exact HB.out | apply below_alloc | apply pw_below_drewN | apply below_drew1 | refine below_set ?_ GE101.out) | exact HB.out)) hb); clear BK101; clear HB; have BK101 := n0_; have HB := n1_; clear n0_ n1_; (try clear hb); (try clear hb2); (try clear hk); (try clear hi); have p104 : 0 ≤ (x3_1 : Int) := of_decide_eq_true (by first | (with_reducible assumption) | assumption); have q104 : x3_1 < (l0.length : Int) := of_decide_eq_true (by first | (with_reducible assumption) | assumption); obtain ⟨ad104, A104_1, c104_1, e104, hx104_0, hx104_1, hl104_1, hi104_1⟩ := at_T34 HR0.out x3_1 p104 q104; obtain rfl : ad102 = ad104 := (by injection e104); replace hx104_0 := (HB.out.cell (World.block_lt_of_cell? w _ hx104_0)).trans hx104_0; replace hx104_1 := (HB.out.cell (World.block_lt_of_cell? w _ hx104_1)).trans hx104_1; have HR104_1 := Aside0.mk hi104_1; have HC104_1 := Aside0.mk hl104_1; clear hi104_1 hl104_1; replace p104 := eq_true p104; replace q104 := eq_true q104; have hcz11_0 : w10.cell? ⟨gb101, 0, none⟩ = some (.slice none 0 0) := (blk_cell BK101.out 0).trans rfl; have hcz11_1 : w10.cell? ⟨gb101, 1, none⟩ = some (.int .i64 x102001_1) := (blk_cell BK101.out 1).trans rfl; have hfz11_0 := blk_frozen BK101.out 0; have hfz11_1 := blk_frozen BK101.out 1))
       repeat (go_quiet (fail); try go_wp2)
       refine bodyPost_ret (results_cell_row rfl _ _ gb101 176 #[.slice none 0 0, .int .i64 1] (0, 0) _ rfl (by (with_reducible repeat (first | refine blk_drewN ?_ _ | refine blk_drew ?_ | refine blk_alloc ?_ _)); refine blk_put (cs := #[.slice none 0 0, .int .i64 x102001_1]) ?_ 1 _ rfl; (with_reducible repeat (first | refine blk_drewN ?_ _ | refine blk_drew ?_ | refine blk_alloc ?_ _)); refine blk_put (cs := #[.slice none 0 0, .int .i64 x102001_1]) ?_ 0 _ rfl; (with_reducible repeat (first | refine blk_drewN ?_ _ | refine blk_drew ?_ | refine blk_alloc ?_ _)); exact BK101.out) Try.underlying176 rfl (by kernel_rfl)) rfl ?_
       exact ⟨_, by first | rfl | (simp [errW_none, errW_some] <;> rfl) | (simp [*, errW_none, errW_some] <;> rfl), by first | exact Kd.R_nil _ _ _ _ _ | exact Kd.N_nil _ _ _ _ _ | exact Kd.V_nil _ _ _ _ _ | exact Kd.Q_nil _ _ _ _ _ | exact Kd.S_nil _ _ _ _ _, by repeat (first | (with_reducible first | exact HB.out | apply below_alloc | apply pw_below_drewN | apply below_drew1 | refine below_set ?_ GE101.out) | exact HB.out)⟩
      ·rw [if_neg c9] at H
       have c9b0 : decide (((rd_T34 l0 x3_1).f0) < 0) = false := decide_eq_false c9
       clear c9
       by_cases c12 : (((rd_T34 l0 x3_1).f1).length : Int) < 1
       ·rw [if_pos c12] at H
        have c12b0 : decide ((((rd_T34 l0 x3_1).f1).length : Int) < 1) = true := decide_eq_true c12
        have c12b1 : decide (((rd_T34 l0 x3_1).f1).length < 1) = true := decide_eq_true (by omega)
        clear c12
        simp only [Option.some.injEq, Prod.mk.injEq] at H
        obtain ⟨rfl, rfl⟩ := H
        have p102 : 0 ≤ (x3_1 : Int) := of_decide_eq_true (by first | (with_reducible assumption) | assumption)
        have q102 : x3_1 < (l0.length : Int) := of_decide_eq_true (by first | (with_reducible assumption) | assumption)
        obtain ⟨ad102, A102_1, c102_1, e102, hx102_0, hx102_1, hl102_1, hi102_1⟩ := at_T34 HR0.out x3_1 p102 q102
        cases e102
        replace hx102_0 := (HB.out.cell (World.block_lt_of_cell? w _ hx102_0)).trans hx102_0
        replace hx102_1 := (HB.out.cell (World.block_lt_of_cell? w _ hx102_1)).trans hx102_1
        have HR102_1 := Aside0.mk hi102_1
        have HC102_1 := Aside0.mk hl102_1
        clear hi102_1 hl102_1
        replace p102 := eq_true p102
        replace q102 := eq_true q102
        go_wp2_with (first | (go_at_call 108; (with_reducible refine (calxref08_book.calls k1 _ _ ((rd_T34 l0 x3_1).f1) t103 _ ?side1 ?side2 A8.out).mono ?_); (case side1 => repeat (first | exact (Kd.C_below HR102_1.out HB.out) | (with_reducible refine Kd.C_alloc ?_ _) | (with_reducible refine Kd.C_drewN ?_ _) | (with_reducible refine Kd.C_drew ?_))); (case side2 => exact HC102_1.out); rintro e w13 ⟨rfl, hb⟩; have n0_ := Aside0.mk (blk_below (g := gb101) (o := .cells #[.slice none 0 0, .int .i64 x102001_1] 176 (0, 0)) (by (with_reducible repeat (first | refine blk_drewN ?_ _ | refine blk_drew ?_ | refine blk_alloc ?_ _)); exact BK101.out) hb); have n1_ := Aside0.mk (below_step (by repeat (first | (with_reducible first | exact HB.out | apply below_alloc | apply pw_below_drewN | apply below_drew1 | refine below_set ?_ GE101.out) | exact HB.out)) hb); clear BK101; clear HB; have BK101 := n0_; have HB := n1_; clear n0_ n1_; (try clear hb); (try clear hb2); (try clear hk); (try clear hi); have p104 : 0 ≤ (x3_1 : Int) := of_decide_eq_true (by first | (with_reducible assumption) | assumption); have q104 : x3_1 < (l0.length : Int) := of_decide_eq_true (by first | (with_reducible assumption) | assumption); obtain ⟨ad104, A104_1, c104_1, e104, hx104_0, hx104_1, hl104_1, hi104_1⟩ := at_T34 HR0.out x3_1 p104 q104; obtain rfl : ad102 = ad104 := (by injection e104); replace hx104_0 := (HB.out.cell (World.block_lt_of_cell? w _ hx104_0)).trans hx104_0; replace hx104_1 := (HB.out.cell (World.block_lt_of_cell? w _ hx104_1)).trans hx104_1; have HR104_1 := Aside0.mk hi104_1; have HC104_1 := Aside0.mk hl104_1; clear hi104_1 hl104_1; replace p104 := eq_true p104; replace q104 := eq_true q104; have p105 : 0 ≤ (x3_1 : Int) := of_decide_eq_true (by first | (with_reducible assumption) | assumption); have q105 : x3_1 < (l0.length : Int) := of_decide_eq_true (by first | (with_reducible assumption) | assumption); obtain ⟨ad105, A105_1, c105_1, e105, hx105_0, hx105_1, hl105_1, hi105_1⟩ := at_T34 HR0.out x3_1 p105 q105; obtain rfl : ad102 = ad105 := (by injection e105); replace hx105_0 := (HB.out.cell (World.block_lt_of_cell? w _ hx105_0)).trans hx105_0; replace hx105_1 := (HB.out.cell (World.block_lt_of_cell? w _ hx105_1)).trans hx105_1; have HR105_1 := Aside0.mk hi105_1; have HC105_1 := Aside0.mk hl105_1; clear hi105_1 hl105_1; replace p105 := eq_true p105; replace q105 := eq_true q105; have ea_ := Option.some.inj (hx104_1.symm.trans hx105_1); injection ea_ with ea_ en_ ec_; subst ea_; subst ec_; clear en_; have hcz14_0 : w13.cell? ⟨gb101, 0, none⟩ = some (.slice none 0 0) := (blk_cell BK101.out 0).trans rfl; have hcz14_1 : w13.cell? ⟨gb101, 1, none⟩ = some (.int .i64 x102001_1) := (blk_cell BK101.out 1).trans rfl; have hfz14_0 := blk_frozen BK101.out 0; have hfz14_1 := blk_frozen BK101.out 1))
        repeat (go_quiet (fail); try go_wp2)
        refine bodyPost_ret (results_cell_row rfl _ _ gb101 176 #[.slice none 0 0, .int .i64 1] (0, 0) _ rfl (by (with_reducible repeat (first | refine blk_drewN ?_ _ | refine blk_drew ?_ | refine blk_alloc ?_ _)); refine blk_put (cs := #[.slice none 0 0, .int .i64 x102001_1]) ?_ 1 _ rfl; (with_reducible repeat (first | refine blk_drewN ?_ _ | refine blk_drew ?_ | refine blk_alloc ?_ _)); refine blk_put (cs := #[.slice none 0 0, .int .i64 x102001_1]) ?_ 0 _ rfl; (with_reducible repeat (first | refine blk_drewN ?_ _ | refine blk_drew ?_ | refine blk_alloc ?_ _)); exact BK101.out) Try.underlying176 rfl (by kernel_rfl)) rfl ?_
        exact ⟨_, by first | rfl | (simp [errW_none, errW_some] <;> rfl) | (simp [*, errW_none, errW_some] <;> rfl), by first | exact Kd.R_nil _ _ _ _ _ | exact Kd.N_nil _ _ _ _ _ | exact Kd.V_nil _ _ _ _ _ | exact Kd.Q_nil _ _ _ _ _ | exact Kd.S_nil _ _ _ _ _, by repeat (first | (with_reducible first | exact HB.out | apply below_alloc | apply pw_below_drewN | apply below_drew1 | refine below_set ?_ GE101.out) | exact HB.out)⟩
       ·rw [if_neg c12] at H
        have c12b0 : decide ((((rd_T34 l0 x3_1).f1).length : Int) < 1) = false := decide_eq_false c12
        have c12b1 : decide (((rd_T34 l0 x3_1).f1).length < 1) = false := decide_eq_false (by omega)
        clear c12
        by_cases c15 : (((rd_T34 l0 x3_1).f1).length : Int) > 64
        ·rw [if_pos c15] at H
         have c15b0 : decide (64 < (((rd_T34 l0 x3_1).f1).length : Int)) = true := decide_eq_true c15
         have c15b1 : decide (64 < ((rd_T34 l0 x3_1).f1).length) = true := decide_eq_true (by omega)
         clear c15
         simp only [Option.some.injEq, Prod.mk.injEq] at H
         obtain ⟨rfl, rfl⟩ := H
         have p102 : 0 ≤ (x3_1 : Int) := of_decide_eq_true (by first | (with_reducible assumption) | assumption)
         have q102 : x3_1 < (l0.length : Int) := of_decide_eq_true (by first | (with_reducible assumption) | assumption)
         obtain ⟨ad102, A102_1, c102_1, e102, hx102_0, hx102_1, hl102_1, hi102_1⟩ := at_T34 HR0.out x3_1 p102 q102
         cases e102
         replace hx102_0 := (HB.out.cell (World.block_lt_of_cell? w _ hx102_0)).trans hx102_0
         replace hx102_1 := (HB.out.cell (World.block_lt_of_cell? w _ hx102_1)).trans hx102_1
         have HR102_1 := Aside0.mk hi102_1
         have HC102_1 := Aside0.mk hl102_1
         clear hi102_1 hl102_1
         replace p102 := eq_true p102
         replace q102 := eq_true q102
         go_wp2_with (first | (go_at_call 108; (with_reducible refine (calxref08_book.calls k1 _ _ ((rd_T34 l0 x3_1).f1) t103 _ ?side1 ?side2 A8.out).mono ?_); (case side1 => repeat (first | exact (Kd.C_below HR102_1.out HB.out) | (with_reducible refine Kd.C_alloc ?_ _) | (with_reducible refine Kd.C_drewN ?_ _) | (with_reducible refine Kd.C_drew ?_))); (case side2 => exact HC102_1.out); rintro e w16 ⟨rfl, hb⟩; have n0_ := Aside0.mk (blk_below (g := gb101) (o := .cells #[.slice none 0 0, .int .i64 x102001_1] 176 (0, 0)) (by (with_reducible repeat (first | refine blk_drewN ?_ _ | refine blk_drew ?_ | refine blk_alloc ?_ _)); exact BK101.out) hb); have n1_ := Aside0.mk (below_step (by repeat (first | (with_reducible first | exact HB.out | apply below_alloc | apply pw_below_drewN | apply below_drew1 | refine below_set ?_ GE101.out) | exact HB.out)) hb); clear BK101; clear HB; have BK101 := n0_; have HB := n1_; clear n0_ n1_; (try clear hb); (try clear hb2); (try clear hk); (try clear hi); have p104 : 0 ≤ (x3_1 : Int) := of_decide_eq_true (by first | (with_reducible assumption) | assumption); have q104 : x3_1 < (l0.length : Int) := of_decide_eq_true (by first | (with_reducible assumption) | assumption); obtain ⟨ad104, A104_1, c104_1, e104, hx104_0, hx104_1, hl104_1, hi104_1⟩ := at_T34 HR0.out x3_1 p104 q104; obtain rfl : ad102 = ad104 := (by injection e104); replace hx104_0 := (HB.out.cell (World.block_lt_of_cell? w _ hx104_0)).trans hx104_0; replace hx104_1 := (HB.out.cell (World.block_lt_of_cell? w _ hx104_1)).trans hx104_1; have HR104_1 := Aside0.mk hi104_1; have HC104_1 := Aside0.mk hl104_1; clear hi104_1 hl104_1; replace p104 := eq_true p104; replace q104 := eq_true q104; have p105 : 0 ≤ (x3_1 : Int) := of_decide_eq_true (by first | (with_reducible assumption) | assumption); have q105 : x3_1 < (l0.length : Int) := of_decide_eq_true (by first | (with_reducible assumption) | assumption); obtain ⟨ad105, A105_1, c105_1, e105, hx105_0, hx105_1, hl105_1, hi105_1⟩ := at_T34 HR0.out x3_1 p105 q105; obtain rfl : ad102 = ad105 := (by injection e105); replace hx105_0 := (HB.out.cell (World.block_lt_of_cell? w _ hx105_0)).trans hx105_0; replace hx105_1 := (HB.out.cell (World.block_lt_of_cell? w _ hx105_1)).trans hx105_1; have HR105_1 := Aside0.mk hi105_1; have HC105_1 := Aside0.mk hl105_1; clear hi105_1 hl105_1; replace p105 := eq_true p105; replace q105 := eq_true q105; have ea_ := Option.some.inj (hx104_1.symm.trans hx105_1); injection ea_ with ea_ en_ ec_; subst ea_; subst ec_; clear en_; have p106 : 0 ≤ (x3_1 : Int) := of_decide_eq_true (by first | (with_reducible assumption) | assumption); have q106 : x3_1 < (l0.length : Int) := of_decide_eq_true (by first | (with_reducible assumption) | assumption); obtain ⟨ad106, A106_1, c106_1, e106, hx106_0, hx106_1, hl106_1, hi106_1⟩ := at_T34 HR0.out x3_1 p106 q106; obtain rfl : ad102 = ad106 := (by injection e106); replace hx106_0 := (HB.out.cell (World.block_lt_of_cell? w _ hx106_0)).trans hx106_0; replace hx106_1 := (HB.out.cell (World.block_lt_of_cell? w _ hx106_1)).trans hx106_1; have HR106_1 := Aside0.mk hi106_1; have HC106_1 := Aside0.mk hl106_1; clear hi106_1 hl106_1; replace p106 := eq_true p106; replace q106 := eq_true q106; have ea_ := Option.some.inj (hx104_1.symm.trans hx106_1); injection ea_ with ea_ en_ ec_; subst ea_; subst ec_; clear en_; have hcz17_0 : w16.cell? ⟨gb101, 0, none⟩ = some (.slice none 0 0) := (blk_cell BK101.out 0).trans rfl; have hcz17_1 : w16.cell? ⟨gb101, 1, none⟩ = some (.int .i64 x102001_1) := (blk_cell BK101.out 1).trans rfl; have hfz17_0 := blk_frozen BK101.out 0; have hfz17_1 := blk_frozen BK101.out 1))
         repeat (go_quiet (fail); try go_wp2)
         refine bodyPost_ret (results_cell_row rfl _ _ gb101 176 #[.slice none 0 0, .int .i64 1] (0, 0) _ rfl (by (with_reducible repeat (first | refine blk_drewN ?_ _ | refine blk_drew ?_ | refine blk_alloc ?_ _)); refine blk_put (cs := #[.slice none 0 0, .int .i64 x102001_1]) ?_ 1 _ rfl; (with_reducible repeat (first | refine blk_drewN ?_ _ | refine blk_drew ?_ | refine blk_alloc ?_ _)); refine blk_put (cs := #[.slice none 0 0, .int .i64 x102001_1]) ?_ 0 _ rfl; (with_reducible repeat (first | refine blk_drewN ?_ _ | refine blk_drew ?_ | refine blk_alloc ?_ _)); exact BK101.out) Try.underlying176 rfl (by kernel_rfl)) rfl ?_
         exact ⟨_, by first | rfl | (simp [errW_none, errW_some] <;> rfl) | (simp [*, errW_none, errW_some] <;> rfl), by first | exact Kd.R_nil _ _ _ _ _ | exact Kd.N_nil _ _ _ _ _ | exact Kd.V_nil _ _ _ _ _ | exact Kd.Q_nil _ _ _ _ _ | exact Kd.S_nil _ _ _ _ _, by repeat (first | (with_reducible first | exact HB.out | apply below_alloc | apply pw_below_drewN | apply below_drew1 | refine below_set ?_ GE101.out) | exact HB.out)⟩
        ·rw [if_neg c15] at H
         have c15b0 : decide (64 < (((rd_T34 l0 x3_1).f1).length : Int)) = false := decide_eq_false c15
         have c15b1 : decide (64 < ((rd_T34 l0 x3_1).f1).length) = false := decide_eq_false (by omega)
         clear c15
         by_cases c18 : ((rd_T34 l0 x3_1).f0) > (wrap64 (64 - (((rd_T34 l0 x3_1).f1).length : Int)))
         ·rw [if_pos c18] at H
          have c18b0 : decide ((wrap64 (64 - (((rd_T34 l0 x3_1).f1).length : Int))) < ((rd_T34 l0 x3_1).f0)) = true := decide_eq_true c18
          clear c18
          simp only [Option.some.injEq, Prod.mk.injEq] at H
          obtain ⟨rfl, rfl⟩ := H
          have p102 : 0 ≤ (x3_1 : Int) := of_decide_eq_true (by first | (with_reducible assumption) | assumption)
          have q102 : x3_1 < (l0.length : Int) := of_decide_eq_true (by first | (with_reducible assumption) | assumption)
          obtain ⟨ad102, A102_1, c102_1, e102, hx102_0, hx102_1, hl102_1, hi102_1⟩ := at_T34 HR0.out x3_1 p102 q102
          cases e102
          replace hx102_0 := (HB.out.cell (World.block_lt_of_cell? w _ hx102_0)).trans hx102_0
          replace hx102_1 := (HB.out.cell (World.block_lt_of_cell? w _ hx102_1)).trans hx102_1
          have HR102_1 := Aside0.mk hi102_1
          have HC102_1 := Aside0.mk hl102_1
          clear hi102_1 hl102_1
          replace p102 := eq_true p102
          replace q102 := eq_true q102
          go_wp2_with (first | (go_at_call 108; (with_reducible refine (calxref08_book.calls k1 _ _ ((rd_T34 l0 x3_1).f1) t103 _ ?side1 ?side2 A8.out).mono ?_); (case side1 => repeat (first | exact (Kd.C_below HR102_1.out HB.out) | (with_reducible refine Kd.C_alloc ?_ _) | (with_reducible refine Kd.C_drewN ?_ _) | (with_reducible refine Kd.C_drew ?_))); (case side2 => exact HC102_1.out); rintro e w19 ⟨rfl, hb⟩; have n0_ := Aside0.mk (blk_below (g := gb101) (o := .cells #[.slice none 0 0, .int .i64 x102001_1] 176 (0, 0)) (by (with_reducible repeat (first | refine blk_drewN ?_ _ | refine blk_drew ?_ | refine blk_alloc ?_ _)); exact BK101.out) hb); have n1_ := Aside0.mk (below_step (by repeat (first | (with_reducible first | exact HB.out | apply below_alloc | apply pw_below_drewN | apply below_drew1 | refine below_set ?_ GE101.out) | exact HB.out)) hb); clear BK101; clear HB; have BK101 := n0_; have HB := n1_; clear n0_ n1_; (try clear hb); (try clear hb2); (try clear hk); (try clear hi); have p104 : 0 ≤ (x3_1 : Int) := of_decide_eq_true (by first | (with_reducible assumption) | assumption); have q104 : x3_1 < (l0.length : Int) := of_decide_eq_true (by first | (with_reducible assumption) | assumption); obtain ⟨ad104, A104_1, c104_1, e104, hx104_0, hx104_1, hl104_1, hi104_1⟩ := at_T34 HR0.out x3_1 p104 q104; obtain rfl : ad102 = ad104 := (by injection e104); replace hx104_0 := (HB.out.cell (World.block_lt_of_cell? w _ hx104_0)).trans hx104_0; replace hx104_1 := (HB.out.cell (World.block_lt_of_cell? w _ hx104_1)).trans hx104_1; have HR104_1 := Aside0.mk hi104_1; have HC104_1 := Aside0.mk hl104_1; clear hi104_1 hl104_1; replace p104 := eq_true p104; replace q104 := eq_true q104; have p105 : 0 ≤ (x3_1 : Int) := of_decide_eq_true (by first | (with_reducible assumption) | assumption); have q105 : x3_1 < (l0.length : Int) := of_decide_eq_true (by first | (with_reducible assumption) | assumption); obtain ⟨ad105, A105_1, c105_1, e105, hx105_0, hx105_1, hl105_1, hi105_1⟩ := at_T34 HR0.out x3_1 p105 q105; obtain rfl : ad102 = ad105 := (by injection e105); replace hx105_0 := (HB.out.cell (World.block_lt_of_cell? w _ hx105_0)).trans hx105_0; replace hx105_1 := (HB.out.cell (World.block_lt_of_cell? w _ hx105_1)).trans hx105_1; have HR105_1 := Aside0.mk hi105_1; have HC105_1 := Aside0.mk hl105_1; clear hi105_1 hl105_1; replace p105 := eq_true p105; replace q105 := eq_true q105; have ea_ := Option.some.inj (hx104_1.symm.trans hx105_1); injection ea_ with ea_ en_ ec_; subst ea_; subst ec_; clear en_; have p106 : 0 ≤ (x3_1 : Int) := of_decide_eq_true (by first | (with_reducible assumption) | assumption); have q106 : x3_1 < (l0.length : Int) := of_decide_eq_true (by first | (with_reducible assumption) | assumption); obtain ⟨ad106, A106_1, c106_1, e106, hx106_0, hx106_1, hl106_1, hi106_1⟩ := at_T34 HR0.out x3_1 p106 q106; obtain rfl : ad102 = ad106 := (by injection e106); replace hx106_0 := (HB.out.cell (World.block_lt_of_cell? w _ hx106_0)).trans hx106_0; replace hx106_1 := (HB.out.cell (World.block_lt_of_cell? w _ hx106_1)).trans hx106_1; have HR106_1 := Aside0.mk hi106_1; have HC106_1 := Aside0.mk hl106_1; clear hi106_1 hl106_1; replace p106 := eq_true p106; replace q106 := eq_true q106; have ea_ := Option.some.inj (hx104_1.symm.trans hx106_1); injection ea_ with ea_ en_ ec_; subst ea_; subst ec_; clear en_; have p107 : 0 ≤ (x3_1 : Int) := of_decide_eq_true (by first | (with_reducible assumption) | assumption); have q107 : x3_1 < (l0.length : Int) := of_decide_eq_true (by first | (with_reducible assumption) | assumption); obtain ⟨ad107, A107_1, c107_1, e107, hx107_0, hx107_1, hl107_1, hi107_1⟩ := at_T34 HR0.out x3_1 p107 q107; obtain rfl : ad102 = ad107 := (by injection e107); replace hx107_0 := (HB.out.cell (World.block_lt_of_cell? w _ hx107_0)).trans hx107_0; replace hx107_1 := (HB.out.cell (World.block_lt_of_cell? w _ hx107_1)).trans hx107_1; have HR107_1 := Aside0.mk hi107_1; have HC107_1 := Aside0.mk hl107_1; clear hi107_1 hl107_1; replace p107 := eq_true p107; replace q107 := eq_true q107; have ea_ := Option.some.inj (hx104_1.symm.trans hx107_1); injection ea_ with ea_ en_ ec_; subst ea_; subst ec_; clear en_; have p108 : 0 ≤ (x3_1 : Int) := of_decide_eq_true (by first | (with_reducible assumption) | assumption); have q108 : x3_1 < (l0.length : Int) := of_decide_eq_true (by first | (with_reducible assumption) | assumption); obtain ⟨ad108, A108_1, c108_1, e108, hx108_0, hx108_1, hl108_1, hi108_1⟩ := at_T34 HR0.out x3_1 p108 q108; obtain rfl : ad102 = ad108 := (by injection e108); replace hx108_0 := (HB.out.cell (World.block_lt_of_cell? w _ hx108_0)).trans hx108_0; replace hx108_1 := (HB.out.cell (World.block_lt_of_cell? w _ hx108_1)).trans hx108_1; have HR108_1 := Aside0.mk hi108_1; have HC108_1 := Aside0.mk hl108_1; clear hi108_1 hl108_1; replace p108 := eq_true p108; replace q108 := eq_true q108; have ea_ := Option.some.inj (hx104_1.symm.trans hx108_1); injection ea_ with ea_ en_ ec_; subst ea_; subst ec_; clear en_; have hcz20_0 : w19.cell? ⟨gb101, 0, none⟩ = some (.slice none 0 0) := (blk_cell BK101.out 0).trans rfl; have hcz20_1 : w19.cell? ⟨gb101, 1, none⟩ = some (.int .i64 x102001_1) := (blk_cell BK101.out 1).trans rfl; have hfz20_0 := blk_frozen BK101.out 0; have hfz20_1 := blk_frozen BK101.out 1))
          repeat (go_quiet (fail); try go_wp2)
          refine bodyPost_ret (results_cell_row rfl _ _ gb101 176 #[.slice none 0 0, .int .i64 1] (0, 0) _ rfl (by (with_reducible repeat (first | refine blk_drewN ?_ _ | refine blk_drew ?_ | refine blk_alloc ?_ _)); refine blk_put (cs := #[.slice none 0 0, .int .i64 x102001_1]) ?_ 1 _ rfl; (with_reducible repeat (first | refine blk_drewN ?_ _ | refine blk_drew ?_ | refine blk_alloc ?_ _)); refine blk_put (cs := #[.slice none 0 0, .int .i64 x102001_1]) ?_ 0 _ rfl; (with_reducible repeat (first | refine blk_drewN ?_ _ | refine blk_drew ?_ | refine blk_alloc ?_ _)); exact BK101.out) Try.underlying176 rfl (by kernel_rfl)) rfl ?_
          exact ⟨_, by first | rfl | (simp [errW_none, errW_some] <;> rfl) | (simp [*, errW_none, errW_some] <;> rfl), by first | exact Kd.R_nil _ _ _ _ _ | exact Kd.N_nil _ _ _ _ _ | exact Kd.V_nil _ _ _ _ _ | exact Kd.Q_nil _ _ _ _ _ | exact Kd.S_nil _ _ _ _ _, by repeat (first | (with_reducible first | exact HB.out | apply below_alloc | apply pw_below_drewN | apply below_drew1 | refine below_set ?_ GE101.out) | exact HB.out)⟩
         ·rw [if_neg c18] at H
          have c18b0 : decide ((wrap64 (64 - (((rd_T34 l0 x3_1).f1).length : Int))) < ((rd_T34 l0 x3_1).f0)) = false := decide_eq_false c18
          clear c18
          by_cases c21 : t103 = true
          ·subst c21
           rw [if_pos rfl] at H
           have H' := Aside0.mk H
           clear H
           have p102 : 0 ≤ (x3_1 : Int) := of_decide_eq_true (by first | (with_reducible assumption) | assumption)
           have q102 : x3_1 < (l0.length : Int) := of_decide_eq_true (by first | (with_reducible assumption) | assumption)
           obtain ⟨ad102, A102_1, c102_1, e102, hx102_0, hx102_1, hl102_1, hi102_1⟩ := at_T34 HR0.out x3_1 p102 q102
           cases e102
           replace hx102_0 := (HB.out.cell (World.block_lt_of_cell? w _ hx102_0)).trans hx102_0
           replace hx102_1 := (HB.out.cell (World.block_lt_of_cell? w _ hx102_1)).trans hx102_1
           have HR102_1 := Aside0.mk hi102_1
           have HC102_1 := Aside0.mk hl102_1
           clear hi102_1 hl102_1
           replace p102 := eq_true p102
           replace q102 := eq_true q102
           go_wp2_with (first | (go_at_call 108; (with_reducible refine (calxref08_book.calls k1 _ _ ((rd_T34 l0 x3_1).f1) true _ ?side1 ?side2 A8.out).mono ?_); (case side1 => repeat (first | exact (Kd.C_below HR102_1.out HB.out) | (with_reducible refine Kd.C_alloc ?_ _) | (with_reducible refine Kd.C_drewN ?_ _) | (with_reducible refine Kd.C_drew ?_))); (case side2 => exact HC102_1.out); rintro e w22 ⟨rfl, hb⟩; have n0_ := Aside0.mk (blk_below (g := gb101) (o := .cells #[.slice none 0 0, .int .i64 x102001_1] 176 (0, 0)) (by (with_reducible repeat (first | refine blk_drewN ?_ _ | refine blk_drew ?_ | refine blk_alloc ?_ _)); exact BK101.out) hb); have n1_ := Aside0.mk (below_step (by repeat (first | (with_reducible first | exact HB.out | apply below_alloc | apply pw_below_drewN | apply below_drew1 | refine below_set ?_ GE101.out) | exact HB.out)) hb); clear BK101; clear HB; have BK101 := n0_; have HB := n1_; clear n0_ n1_; (try clear hb); (try clear hb2); (try clear hk); (try clear hi); have p104 : 0 ≤ (x3_1 : Int) := of_decide_eq_true (by first | (with_reducible assumption) | assumption); have q104 : x3_1 < (l0.length : Int) := of_decide_eq_true (by first | (with_reducible assumption) | assumption); obtain ⟨ad104, A104_1, c104_1, e104, hx104_0, hx104_1, hl104_1, hi104_1⟩ := at_T34 HR0.out x3_1 p104 q104; obtain rfl : ad102 = ad104 := (by injection e104); replace hx104_0 := (HB.out.cell (World.block_lt_of_cell? w _ hx104_0)).trans hx104_0; replace hx104_1 := (HB.out.cell (World.block_lt_of_cell? w _ hx104_1)).trans hx104_1; have HR104_1 := Aside0.mk hi104_1; have HC104_1 := Aside0.mk hl104_1; clear hi104_1 hl104_1; replace p104 := eq_true p104; replace q104 := eq_true q104; have p105 : 0 ≤ (x3_1 : Int) := of_decide_eq_true (by first | (with_reducible assumption) | assumption); have q105 : x3_1 < (l0.length : Int) := of_decide_eq_true (by first | (with_reducible assumption) | assumption); obtain ⟨ad105, A105_1, c105_1, e105, hx105_0, hx105_1, hl105_1, hi105_1⟩ := at_T34 HR0.out x3_1 p105 q105; obtain rfl : ad102 = ad105 := (by injection e105); replace hx105_0 := (HB.out.cell (World.block_lt_of_cell? w _ hx105_0)).trans hx105_0; replace hx105_1 := (HB.out.cell (World.block_lt_of_cell? w _ hx105_1)).trans hx105_1; have HR105_1 := Aside0.mk hi105_1; have HC105_1 := Aside0.mk hl105_1; clear hi105_1 hl105_1; replace p105 := eq_true p105; replace q105 := eq_true q105; have ea_ := Option.some.inj (hx104_1.symm.trans hx105_1); injection ea_ with ea_ en_ ec_; subst ea_; subst ec_; clear en_; have p106 : 0 ≤ (x3_1 : Int) := of_decide_eq_true (by first | (with_reducible assumption) | assumption); have q106 : x3_1 < (l0.length : Int) := of_decide_eq_true (by first | (with_reducible assumption) | assumption); obtain ⟨ad106, A106_1, c106_1, e106, hx106_0, hx106_1, hl106_1, hi106_1⟩ := at_T34 HR0.out x3_1 p106 q106; obtain rfl : ad102 = ad106 := (by injection e106); replace hx106_0 := (HB.out.cell (World.block_lt_of_cell? w _ hx106_0)).trans hx106_0; replace hx106_1 := (HB.out.cell (World.block_lt_of_cell? w _ hx106_1)).trans hx106_1; have HR106_1 := Aside0.mk hi106_1; have HC106_1 := Aside0.mk hl106_1; clear hi106_1 hl106_1; replace p106 := eq_true p106; replace q106 := eq_true q106; have ea_ := Option.some.inj (hx104_1.symm.trans hx106_1); injection ea_ with ea_ en_ ec_; subst ea_; subst ec_; clear en_; have p107 : 0 ≤ (x3_1 : Int) := of_decide_eq_true (by first | (with_reducible assumption) | assumption); have q107 : x3_1 < (l0.length : Int) := of_decide_eq_true (by first | (with_reducible assumption) | assumption); obtain ⟨ad107, A107_1, c107_1, e107, hx107_0, hx107_1, hl107_1, hi107_1⟩ := at_T34 HR0.out x3_1 p107 q107; obtain rfl : ad102 = ad107 := (by injection e107); replace hx107_0 := (HB.out.cell (World.block_lt_of_cell? w _ hx107_0)).trans hx107_0; replace hx107_1 := (HB.out.cell (World.block_lt_of_cell? w _ hx107_1)).trans hx107_1; have HR107_1 := Aside0.mk hi107_1; have HC107_1 := Aside0.mk hl107_1; clear hi107_1 hl107_1; replace p107 := eq_true p107; replace q107 := eq_true q107; have ea_ := Option.some.inj (hx104_1.symm.trans hx107_1); injection ea_ with ea_ en_ ec_; subst ea_; subst ec_; clear en_; have p108 : 0 ≤ (x3_1 : Int) := of_decide_eq_true (by first | (with_reducible assumption) | assumption); have q108 : x3_1 < (l0.length : Int) := of_decide_eq_true (by first | (with_reducible assumption) | assumption); obtain ⟨ad108, A108_1, c108_1, e108, hx108_0, hx108_1, hl108_1, hi108_1⟩ := at_T34 HR0.out x3_1 p108 q108; obtain rfl : ad102 = ad108 := (by injection e108); replace hx108_0 := (HB.out.cell (World.block_lt_of_cell? w _ hx108_0)).trans hx108_0; replace hx108_1 := (HB.out.cell (World.block_lt_of_cell? w _ hx108_1)).trans hx108_1; have HR108_1 := Aside0.mk hi108_1; have HC108_1 := Aside0.mk hl108_1; clear hi108_1 hl108_1; replace p108 := eq_true p108; replace q108 := eq_true q108; have ea_ := Option.some.inj (hx104_1.symm.trans hx108_1); injection ea_ with ea_ en_ ec_; subst ea_; subst ec_; clear en_))
           repeat (go_quiet (fail); try go_wp2)
           go_roundg k1
           case measure => have := HK1.out; omega
           case rel => exact ⟨(wrap64 (x3_1 + 1)), (x102001_1), (by first | rfl | (simp; done) | (simp [*]; done)), H', ⟨by have := HK1.out; omega⟩, ⟨by (with_reducible repeat (first | refine blk_drewN ?_ _ | refine blk_drew ?_ | refine blk_alloc ?_ _)); exact BK101.out⟩, ⟨by repeat (first | (with_reducible first | exact HB.out | apply below_alloc | apply pw_below_drewN | apply below_drew1 | refine below_set ?_ GE101.out) | exact HB.out)⟩⟩
          ·replace c21 := Bool.eq_false_iff.mpr c21
           subst c21
           rw [if_neg (show ¬ (false = true) by decide)] at H
           simp only [Option.some.injEq, Prod.mk.injEq] at H
           obtain ⟨rfl, rfl⟩ := H
           have p102 : 0 ≤ (x3_1 : Int) := of_decide_eq_true (by first | (with_reducible assumption) | assumption)
           have q102 : x3_1 < (l0.length : Int) := of_decide_eq_true (by first | (with_reducible assumption) | assumption)
           obtain ⟨ad102, A102_1, c102_1, e102, hx102_0, hx102_1, hl102_1, hi102_1⟩ := at_T34 HR0.out x3_1 p102 q102
           cases e102
           replace hx102_0 := (HB.out.cell (World.block_lt_of_cell? w _ hx102_0)).trans hx102_0
           replace hx102_1 := (HB.out.cell (World.block_lt_of_cell? w _ hx102_1)).trans hx102_1
           have HR102_1 := Aside0.mk hi102_1
           have HC102_1 := Aside0.mk hl102_1
           clear hi102_1 hl102_1
           replace p102 := eq_true p102
           replace q102 := eq_true q102
           go_wp2_with (first | (go_at_call 108; (with_reducible refine (calxref08_book.calls k1 _ _ ((rd_T34 l0 x3_1).f1) false _ ?side1 ?side2 A8.out).mono ?_); (case side1 => repeat (first | exact (Kd.C_below HR102_1.out HB.out) | (with_reducible refine Kd.C_alloc ?_ _) | (with_reducible refine Kd.C_drewN ?_ _) | (with_reducible refine Kd.C_drew ?_))); (case side2 => exact HC102_1.out); rintro e w23 ⟨rfl, hb⟩; have n0_ := Aside0.mk (blk_below (g := gb101) (o := .cells #[.slice none 0 0, .int .i64 x102001_1] 176 (0, 0)) (by (with_reducible repeat (first | refine blk_drewN ?_ _ | refine blk_drew ?_ | refine blk_alloc ?_ _)); exact BK101.out) hb); have n1_ := Aside0.mk (below_step (by repeat (first | (with_reducible first | exact HB.out | apply below_alloc | apply pw_below_drewN | apply below_drew1 | refine below_set ?_ GE101.out) | exact HB.out)) hb); clear BK101; clear HB; have BK101 := n0_; have HB := n1_; clear n0_ n1_; (try clear hb); (try clear hb2); (try clear hk); (try clear hi); have p104 : 0 ≤ (x3_1 : Int) := of_decide_eq_true (by first | (with_reducible assumption) | assumption); have q104 : x3_1 < (l0.length : Int) := of_decide_eq_true (by first | (with_reducible assumption) | assumption); obtain ⟨ad104, A104_1, c104_1, e104, hx104_0, hx104_1, hl104_1, hi104_1⟩ := at_T34 HR0.out x3_1 p104 q104; obtain rfl : ad102 = ad104 := (by injection e104); replace hx104_0 := (HB.out.cell (World.block_lt_of_cell? w _ hx104_0)).trans hx104_0; replace hx104_1 := (HB.out.cell (World.block_lt_of_cell? w _ hx104_1)).trans hx104_1; have HR104_1 := Aside0.mk hi104_1; have HC104_1 := Aside0.mk hl104_1; clear hi104_1 hl104_1; replace p104 := eq_true p104; replace q104 := eq_true q104; have p105 : 0 ≤ (x3_1 : Int) := of_decide_eq_true (by first | (with_reducible assumption) | assumption); have q105 : x3_1 < (l0.length : Int) := of_decide_eq_true (by first | (with_reducible assumption) | assumption); obtain ⟨ad105, A105_1, c105_1, e105, hx105_0, hx105_1, hl105_1, hi105_1⟩ := at_T34 HR0.out x3_1 p105 q105; obtain rfl : ad102 = ad105 := (by injection e105); replace hx105_0 := (HB.out.cell (World.block_lt_of_cell? w _ hx105_0)).trans hx105_0; replace hx105_1 := (HB.out.cell (World.block_lt_of_cell? w _ hx105_1)).trans hx105_1; have HR105_1 := Aside0.mk hi105_1; have HC105_1 := Aside0.mk hl105_1; clear hi105_1 hl105_1; replace p105 := eq_true p105; replace q105 := eq_true q105; have ea_ := Option.some.inj (hx104_1.symm.trans hx105_1); injection ea_ with ea_ en_ ec_; subst ea_; subst ec_; clear en_; have p106 : 0 ≤ (x3_1 : Int) := of_decide_eq_true (by first | (with_reducible assumption) | assumption); have q106 : x3_1 < (l0.length : Int) := of_decide_eq_true (by first | (with_reducible assumption) | assumption); obtain ⟨ad106, A106_1, c106_1, e106, hx106_0, hx106_1, hl106_1, hi106_1⟩ := at_T34 HR0.out x3_1 p106 q106; obtain rfl : ad102 = ad106 := (by injection e106); replace hx106_0 := (HB.out.cell (World.block_lt_of_cell? w _ hx106_0)).trans hx106_0; replace hx106_1 := (HB.out.cell (World.block_lt_of_cell? w _ hx106_1)).trans hx106_1; have HR106_1 := Aside0.mk hi106_1; have HC106_1 := Aside0.mk hl106_1; clear hi106_1 hl106_1; replace p106 := eq_true p106; replace q106 := eq_true q106; have ea_ := Option.some.inj (hx104_1.symm.trans hx106_1); injection ea_ with ea_ en_ ec_; subst ea_; subst ec_; clear en_; have p107 : 0 ≤ (x3_1 : Int) := of_decide_eq_true (by first | (with_reducible assumption) | assumption); have q107 : x3_1 < (l0.length : Int) := of_decide_eq_true (by first | (with_reducible assumption) | assumption); obtain ⟨ad107, A107_1, c107_1, e107, hx107_0, hx107_1, hl107_1, hi107_1⟩ := at_T34 HR0.out x3_1 p107 q107; obtain rfl : ad102 = ad107 := (by injection e107); replace hx107_0 := (HB.out.cell (World.block_lt_of_cell? w _ hx107_0)).trans hx107_0; replace hx107_1 := (HB.out.cell (World.block_lt_of_cell? w _ hx107_1)).trans hx107_1; have HR107_1 := Aside0.mk hi107_1; have HC107_1 := Aside0.mk hl107_1; clear hi107_1 hl107_1; replace p107 := eq_true p107; replace q107 := eq_true q107; have ea_ := Option.some.inj (hx104_1.symm.trans hx107_1); injection ea_ with ea_ en_ ec_; subst ea_; subst ec_; clear en_; have p108 : 0 ≤ (x3_1 : Int) := of_decide_eq_true (by first | (with_reducible assumption) | assumption); have q108 : x3_1 < (l0.length : Int) := of_decide_eq_true (by first | (with_reducible assumption) | assumption); obtain ⟨ad108, A108_1, c108_1, e108, hx108_0, hx108_1, hl108_1, hi108_1⟩ := at_T34 HR0.out x3_1 p108 q108; obtain rfl : ad102 = ad108 := (by injection e108); replace hx108_0 := (HB.out.cell (World.block_lt_of_cell? w _ hx108_0)).trans hx108_0; replace hx108_1 := (HB.out.cell (World.block_lt_of_cell? w _ hx108_1)).trans hx108_1; have HR108_1 := Aside0.mk hi108_1; have HC108_1 := Aside0.mk hl108_1; clear hi108_1 hl108_1; replace p108 := eq_true p108; replace q108 := eq_true q108; have ea_ := Option.some.inj (hx104_1.symm.trans hx108_1); injection ea_ with ea_ en_ ec_; subst ea_; subst ec_; clear en_; have hcz24_0 : w23.cell? ⟨gb101, 0, none⟩ = some (.slice none 0 0) := (blk_cell BK101.out 0).trans rfl; have hcz24_1 : w23.cell? ⟨gb101, 1, none⟩ = some (.int .i64 x102001_1) := (blk_cell BK101.out 1).trans rfl; have hfz24_0 := blk_frozen BK101.out 0; have hfz24_1 := blk_frozen BK101.out 1))
           repeat (go_quiet (fail); try go_wp2)
           refine bodyPost_ret (results_cell_row rfl _ _ gb101 176 #[.slice none 0 0, .int .i64 1] (0, 0) _ rfl (by (with_reducible repeat (first | refine blk_drewN ?_ _ | refine blk_drew ?_ | refine blk_alloc ?_ _)); refine blk_put (cs := #[.slice none 0 0, .int .i64 x102001_1]) ?_ 1 _ rfl; (with_reducible repeat (first | refine blk_drewN ?_ _ | refine blk_drew ?_ | refine blk_alloc ?_ _)); refine blk_put (cs := #[.slice none 0 0, .int .i64 x102001_1]) ?_ 0 _ rfl; (with_reducible repeat (first | refine blk_drewN ?_ _ | refine blk_drew ?_ | refine blk_alloc ?_ _)); exact BK101.out) Try.underlying176 rfl (by kernel_rfl)) rfl ?_
           exact ⟨_, by first | rfl | (simp [errW_none, errW_some] <;> rfl) | (simp [*, errW_none, errW_some] <;> rfl), by first | exact Kd.R_nil _ _ _ _ _ | exact Kd.N_nil _ _ _ _ _ | exact Kd.V_nil _ _ _ _ _ | exact Kd.Q_nil _ _ _ _ _ | exact Kd.S_nil _ _ _ _ _, by repeat (first | (with_reducible first | exact HB.out | apply below_alloc | apply pw_below_drewN | apply below_drew1 | refine below_set ?_ GE101.out) | exact HB.out)⟩
     ·rw [if_neg c7] at H
      exact absurd H (by simp)
    ·rw [if_neg c6] at H
     have c6b0 : decide (x3_1 < (l0.length : Int)) = false := decide_eq_false c6
     clear c6
     by_cases c25 : 64 ≤ 7036874417766
     ·rw [if_pos c25] at H
      have c25b0 := eq_true c25
      have c25b1 : decide (64 ≤ 7036874417766) = true := decide_eq_true c25
      clear c25
      obtain ⟨y109, hy109⟩ : ∃ y_ : List (S179), y_ = (List.replicate 64 z179) := ⟨_, rfl⟩
      replace H : (calxref08_slots.l1 k1 l0 y109 0) = some (r1, r2) := by first | (rw [hy109]; with_reducible exact H) | (have H2_ := (Option.bind_some _ _).symm.trans H; rw [hy109]; with_reducible exact H2_) | (have H2_ := (Option.bind_some _ _).symm.trans H; with_reducible exact H2_) | with_reducible exact H | (rw [hy109]; exact H) | exact H
      have Ny109 := Aside0.mk hy109
      clear hy109
      have H' := Aside0.mk H
      clear H
      go_wp2_with (first | ((with_reducible refine gate_dst (N := 71) rfl ?_); (try (refine gate_guard (by rfl) ?_; dsimp only)); refine Kd.R_make k179 _ 179 rfl (N := 71) rfl 174 _ _ rfl 64 rfl rfl Try.underlying174 (.agg #[(.int .i64 0), (.int .i64 0), (.int .i64 0), (.int .i64 0), (.bool false)]) 40 info179 rfl (by decide) (by omega) z179 (ok := fun _ => True) (okp := fun _ => True) (k179_mkM _ _ _ z179 ) (fun _ hk => hk) trivial (by omega) (by omega) (Below.refl _ _) (Nat.le_refl _) ?_; intro v110 w26 ho27 hb hg_ hnew_; clear hg_ hnew_; (first | rw [← Ny109.out] at ho27 | (simp only [Int.reduceToNat] at ho27; rw [← Ny109.out] at ho27)); have n0_ := Aside0.mk (Kd.R_lower ho27 (below_size (by repeat (first | (with_reducible first | exact HB.out | apply below_alloc | apply pw_below_drewN | apply below_drew1 | refine below_set ?_ GE101.out) | exact HB.out)))); have n1_ := Aside0.mk (blk_below (g := gb101) (o := .cells #[.slice none 0 0, .int .i64 x102001_1] 176 (0, 0)) (by (with_reducible repeat (first | refine blk_drewN ?_ _ | refine blk_drew ?_ | refine blk_alloc ?_ _)); exact BK101.out) hb); have n2_ := Aside0.mk (below_step (by repeat (first | (with_reducible first | exact HB.out | apply below_alloc | apply pw_below_drewN | apply below_drew1 | refine below_set ?_ GE101.out) | exact HB.out)) hb); clear BK101; clear HB; have HO111 := n0_; have BK101 := n1_; have HB := n2_; clear n0_ n1_ n2_; clear hb ho27))
      repeat (go_quiet (fail); try go_wp2)
      go_loopg [6] k1 (fun kq v6 w' => ∃ (x5_2 : List (S179)) (x6_2 : Int) (x102001_2 : Int), v6 = .int .i64 x6_2 ∧ Aside0 (calxref08_slots.l1 kq l0 x5_2 x6_2 = some (r1, r2)) ∧ Aside0 (kq ≤ k1) ∧ Aside0 (Kd.R k179 179 w' w.heap.size (fun _ => True) v110 x5_2) ∧ Aside0 (w'.heap[gb101]? = some (.cells #[(.slice none 0 0), .int .i64 x102001_2] 176 (0, 0))) ∧ Aside0 (Below w.heap.size w w'))
      case atStart => exact ⟨(y109), (0), (x102001_1), (by first | rfl | (simp; done) | (simp [*]; done)), H', ⟨Nat.le_refl _⟩, ⟨by (with_reducible repeat (first | apply Kd.R_alloc | apply Kd.R_drewN | apply Kd.R_drew)); exact HO111.out⟩, ⟨by (with_reducible repeat (first | refine blk_drewN ?_ _ | refine blk_drew ?_ | refine blk_alloc ?_ _)); exact BK101.out⟩, ⟨by repeat (first | (with_reducible first | exact HB.out | apply below_alloc | apply pw_below_drewN | apply below_drew1 | refine below_set ?_ GE101.out) | exact HB.out)⟩⟩
      case round =>
       clear H'
       obtain ⟨x5_2, x6_2, x102001_2, rfl, HA, HK2, HO_5, BK101, HB⟩ := hrel
       cases gk with
       | zero => exact absurd HA.out (by simp [calxref08_slots.l1])
       | succ k2 =>
        have H := HA.out
        clear HA
        simp only [calxref08_slots.l1] at H
        by_cases c28 : x6_2 < (l0.length : Int)
        ·rw [if_pos c28] at H
         have c28b0 : decide (x6_2 < (l0.length : Int)) = true := decide_eq_true c28
         clear c28
         have H' := Aside0.mk H
         clear H
         go_wp2
         repeat (go_quiet (fail); try go_wp2)
         go_loopg [7] k2 (fun kq v7 w' => ∃ (x5_3 : List (S179)) (x7_3 : Int) (x102001_3 : Int), v7 = .int .i64 x7_3 ∧ Aside0 (calxref08_slots.l2 kq l0 x5_3 x6_2 x7_3 = some (r1, r2)) ∧ Aside0 (kq ≤ k2) ∧ Aside0 (Kd.R k179 179 w' w.heap.size (fun _ => True) v110 x5_3) ∧ Aside0 (w'.heap[gb101]? = some (.cells #[(.slice none 0 0), .int .i64 x102001_3] 176 (0, 0))) ∧ Aside0 (Below w.heap.size w w'))
         case atStart => exact ⟨(x5_2), (0), (x102001_2), (by first | rfl | (simp; done) | (simp [*]; done)), H', ⟨Nat.le_refl _⟩, ⟨by (with_reducible repeat (first | apply Kd.R_alloc | apply Kd.R_drewN | apply Kd.R_drew)); exact HO_5.out⟩, ⟨by (with_reducible repeat (first | refine blk_drewN ?_ _ | refine blk_drew ?_ | refine blk_alloc ?_ _)); exact BK101.out⟩, ⟨by repeat (first | (with_reducible first | exact HB.out | apply below_alloc | apply pw_below_drewN | apply below_drew1 | refine below_set ?_ GE101.out) | exact HB.out)⟩⟩
         case round =>
          clear H'
          obtain ⟨x5_3, x7_3, x102001_3, rfl, HA, HK3, HO_5, BK101, HB⟩ := hrel
          cases gk with
          | zero => exact absurd HA.out (by simp [calxref08_slots.l2])
          | succ k3 =>
           have H := HA.out
           clear HA
           simp only [calxref08_slots.l2] at H
           by_cases c29 : 0 ≤ x6_2
           ·rw [if_pos c29] at H
            have c29b0 : decide (0 ≤ x6_2) = true := decide_eq_true c29
            clear c29
            by_cases c30 : x6_2 < (l0.length : Int)
            ·rw [if_pos c30] at H
             have c30b0 : decide (x6_2 < (l0.length : Int)) = true := decide_eq_true c30
             clear c30
             by_cases c31 : x7_3 < (((rd_T34 l0 x6_2).f1).length : Int)
             ·rw [if_pos c31] at H
              have c31b0 : decide (x7_3 < (((rd_T34 l0 x6_2).f1).length : Int)) = true := decide_eq_true c31
              clear c31
              obtain ⟨ji32, hji32⟩ : ∃ j_ : Int, (wrap64 (((rd_T34 l0 x6_2).f0) + x7_3)) = j_ := ⟨_, rfl⟩
              replace H : (if 0 ≤ (ji32) then (if (ji32) < (x5_3.length : Int) then (if (rd_T179 x5_3 (ji32)).f1 = true then (if 0 ≤ x7_3 then (if (!(((rd_T179 x5_3 (ji32)).f0.f0) == ((rd_T29 ((rd_T34 l0 x6_2).f1) x7_3).f0)) || (!(((rd_T179 x5_3 (ji32)).f0.f1) == ((rd_T29 ((rd_T34 l0 x6_2).f1) x7_3).f1)) || (!(((rd_T179 x5_3 (ji32)).f0.f2) == ((rd_T29 ((rd_T34 l0 x6_2).f1) x7_3).f2)) || (!(((rd_T179 x5_3 (ji32)).f0.f3) == ((rd_T29 ((rd_T34 l0 x6_2).f1) x7_3).f3)))))) = true then (some (([] : List (S179)), 9)) else (calxref08_slots.l2 k3 l0 (x5_3.set ((ji32) : Int).toNat (⟨(⟨(rd_T29 ((rd_T34 l0 x6_2).f1) x7_3).f0, (rd_T29 ((rd_T34 l0 x6_2).f1) x7_3).f1, (rd_T29 ((rd_T34 l0 x6_2).f1) x7_3).f2, (rd_T29 ((rd_T34 l0 x6_2).f1) x7_3).f3⟩ : S29), true⟩ : S179)) x6_2 (wrap64 (x7_3 + 1)))) else (none)) else (if 0 ≤ x7_3 then (calxref08_slots.l2 k3 l0 (x5_3.set ((ji32) : Int).toNat (⟨(⟨(rd_T29 ((rd_T34 l0 x6_2).f1) x7_3).f0, (rd_T29 ((rd_T34 l0 x6_2).f1) x7_3).f1, (rd_T29 ((rd_T34 l0 x6_2).f1) x7_3).f2, (rd_T29 ((rd_T34 l0 x6_2).f1) x7_3).f3⟩ : S29), true⟩ : S179)) x6_2 (wrap64 (x7_3 + 1))) else (none))) else (none)) else (none)) = some (r1, r2) := by first | (rw [hji32] at H; exact H) | (simp only [hji32] at H ⊢; exact H)
              have hji32w : (IntKind.i64.wrap (((rd_T34 l0 x6_2).f0) + x7_3)) = ji32 := (i64_w _).trans hji32
              by_cases c33 : 0 ≤ (ji32)
              ·rw [if_pos c33] at H
               have c33b0 : decide (0 ≤ (ji32)) = true := decide_eq_true c33
               clear c33
               by_cases c34 : (ji32) < (x5_3.length : Int)
               ·rw [if_pos c34] at H
                have c34b0 : decide ((ji32) < (x5_3.length : Int)) = true := decide_eq_true c34
                clear c34
                obtain ⟨bq35, hbq35⟩ : ∃ b_ : Bool, b_ = ((rd_T179 x5_3 (ji32)).f1) := ⟨_, rfl⟩
                replace H : (if bq35 = true then (if 0 ≤ x7_3 then (if (!(((rd_T179 x5_3 (ji32)).f0.f0) == ((rd_T29 ((rd_T34 l0 x6_2).f1) x7_3).f0)) || (!(((rd_T179 x5_3 (ji32)).f0.f1) == ((rd_T29 ((rd_T34 l0 x6_2).f1) x7_3).f1)) || (!(((rd_T179 x5_3 (ji32)).f0.f2) == ((rd_T29 ((rd_T34 l0 x6_2).f1) x7_3).f2)) || (!(((rd_T179 x5_3 (ji32)).f0.f3) == ((rd_T29 ((rd_T34 l0 x6_2).f1) x7_3).f3)))))) = true then (some (([] : List (S179)), 9)) else (calxref08_slots.l2 k3 l0 (x5_3.set ((ji32) : Int).toNat (⟨(⟨(rd_T29 ((rd_T34 l0 x6_2).f1) x7_3).f0, (rd_T29 ((rd_T34 l0 x6_2).f1) x7_3).f1, (rd_T29 ((rd_T34 l0 x6_2).f1) x7_3).f2, (rd_T29 ((rd_T34 l0 x6_2).f1) x7_3).f3⟩ : S29), true⟩ : S179)) x6_2 (wrap64 (x7_3 + 1)))) else (none)) else (if 0 ≤ x7_3 then (calxref08_slots.l2 k3 l0 (x5_3.set ((ji32) : Int).toNat (⟨(⟨(rd_T29 ((rd_T34 l0 x6_2).f1) x7_3).f0, (rd_T29 ((rd_T34 l0 x6_2).f1) x7_3).f1, (rd_T29 ((rd_T34 l0 x6_2).f1) x7_3).f2, (rd_T29 ((rd_T34 l0 x6_2).f1) x7_3).f3⟩ : S29), true⟩ : S179)) x6_2 (wrap64 (x7_3 + 1))) else (none))) = some (r1, r2) := by rw [← hbq35] at H; exact H
                have Nbq35 := Aside0.mk hbq35
                clear hbq35
                by_cases c36 : bq35 = true
                ·subst c36
                 rw [if_pos rfl] at H
                 by_cases c37 : 0 ≤ x7_3
                 ·rw [if_pos c37] at H
                  have c37b0 : decide (0 ≤ x7_3) = true := decide_eq_true c37
                  clear c37
                  by_cases c38 : (!(((rd_T179 x5_3 (ji32)).f0.f0) == ((rd_T29 ((rd_T34 l0 x6_2).f1) x7_3).f0)) || (!(((rd_T179 x5_3 (ji32)).f0.f1) == ((rd_T29 ((rd_T34 l0 x6_2).f1) x7_3).f1)) || (!(((rd_T179 x5_3 (ji32)).f0.f2) == ((rd_T29 ((rd_T34 l0 x6_2).f1) x7_3).f2)) || (!(((rd_T179 x5_3 (ji32)).f0.f3) == ((rd_T29 ((rd_T34 l0 x6_2).f1) x7_3).f3)))))) = true
                  ·rw [if_pos c38] at H
                   have c38b0 : (!(((rd_T179 x5_3 (ji32)).f0.f0) == ((rd_T29 ((rd_T34 l0 x6_2).f1) x7_3).f0)) || (!(((rd_T179 x5_3 (ji32)).f0.f1) == ((rd_T29 ((rd_T34 l0 x6_2).f1) x7_3).f1)) || (!(((rd_T179 x5_3 (ji32)).f0.f2) == ((rd_T29 ((rd_T34 l0 x6_2).f1) x7_3).f2)) || (!(((rd_T179 x5_3 (ji32)).f0.f3) == ((rd_T29 ((rd_T34 l0 x6_2).f1) x7_3).f3)))))) = true := c38
                   clear c38
                   simp only [Option.some.injEq, Prod.mk.injEq] at H
                   obtain ⟨rfl, rfl⟩ := H
                   have p112 : 0 ≤ (x6_2 : Int) := of_decide_eq_true (by first | (with_reducible assumption) | assumption)
                   have q112 : x6_2 < (l0.length : Int) := of_decide_eq_true (by first | (with_reducible assumption) | assumption)
                   obtain ⟨ad112, A112_1, c112_1, e112, hx112_0, hx112_1, hl112_1, hi112_1⟩ := at_T34 HR0.out x6_2 p112 q112
                   cases e112
                   replace hx112_0 := (HB.out.cell (World.block_lt_of_cell? w _ hx112_0)).trans hx112_0
                   replace hx112_1 := (HB.out.cell (World.block_lt_of_cell? w _ hx112_1)).trans hx112_1
                   have HR112_1 := Aside0.mk hi112_1
                   have HC112_1 := Aside0.mk hl112_1
                   clear hi112_1 hl112_1
                   replace p112 := eq_true p112
                   replace q112 := eq_true q112
                   have p113 : 0 ≤ (x6_2 : Int) := of_decide_eq_true (by first | (with_reducible assumption) | assumption)
                   have q113 : x6_2 < (l0.length : Int) := of_decide_eq_true (by first | (with_reducible assumption) | assumption)
                   obtain ⟨ad113, A113_1, c113_1, e113, hx113_0, hx113_1, hl113_1, hi113_1⟩ := at_T34 HR0.out x6_2 p113 q113
                   obtain rfl : ad112 = ad113 := (by injection e113)
                   replace hx113_0 := (HB.out.cell (World.block_lt_of_cell? w _ hx113_0)).trans hx113_0
                   replace hx113_1 := (HB.out.cell (World.block_lt_of_cell? w _ hx113_1)).trans hx113_1
                   have HR113_1 := Aside0.mk hi113_1
                   have HC113_1 := Aside0.mk hl113_1
                   clear hi113_1 hl113_1
                   replace p113 := eq_true p113
                   replace q113 := eq_true q113
                   have ea_ := Option.some.inj (hx112_1.symm.trans hx113_1)
                   injection ea_ with ea_ en_ ec_
                   subst ea_
                   subst ec_
                   clear en_
                   obtain ⟨Ao39, co39, eo39⟩ := Kd.R_slice HO_5.out
                   subst eo39
                   have p114 : 0 ≤ ((ji32) : Int) := of_decide_eq_true (by first | (with_reducible assumption) | assumption)
                   have q114 : (ji32) < (x5_3.length : Int) := of_decide_eq_true (by first | (with_reducible assumption) | assumption)
                   obtain ⟨ad114, e114, hx114_0, hx114_1, hx114_2, hx114_3, hx114_4⟩ := at_T179 (Kd.R_reads' HO_5.out).2.2 (ji32) p114 q114
                   (try rw [← Nbq35.out] at hx114_4)
                   cases e114
                   replace p114 := eq_true p114
                   replace q114 := eq_true q114
                   have p115 : 0 ≤ ((ji32) : Int) := of_decide_eq_true (by first | (with_reducible assumption) | assumption)
                   have q115 : (ji32) < (x5_3.length : Int) := of_decide_eq_true (by first | (with_reducible assumption) | assumption)
                   obtain ⟨ad115, e115, hx115_0, hx115_1, hx115_2, hx115_3, hx115_4⟩ := at_T179 (Kd.R_reads' HO_5.out).2.2 (ji32) p115 q115
                   (try rw [← Nbq35.out] at hx115_4)
                   obtain rfl : ad114 = ad115 := (by injection e115)
                   replace p115 := eq_true p115
                   replace q115 := eq_true q115
                   have p116 : 0 ≤ (x6_2 : Int) := of_decide_eq_true (by first | (with_reducible assumption) | assumption)
                   have q116 : x6_2 < (l0.length : Int) := of_decide_eq_true (by first | (with_reducible assumption) | assumption)
                   obtain ⟨ad116, A116_1, c116_1, e116, hx116_0, hx116_1, hl116_1, hi116_1⟩ := at_T34 HR0.out x6_2 p116 q116
                   obtain rfl : ad112 = ad116 := (by injection e116)
                   replace hx116_0 := (HB.out.cell (World.block_lt_of_cell? w _ hx116_0)).trans hx116_0
                   replace hx116_1 := (HB.out.cell (World.block_lt_of_cell? w _ hx116_1)).trans hx116_1
                   have HR116_1 := Aside0.mk hi116_1
                   have HC116_1 := Aside0.mk hl116_1
                   clear hi116_1 hl116_1
                   replace p116 := eq_true p116
                   replace q116 := eq_true q116
                   have ea_ := Option.some.inj (hx112_1.symm.trans hx116_1)
                   injection ea_ with ea_ en_ ec_
                   subst ea_
                   subst ec_
                   clear en_
                   have p117 : 0 ≤ (x7_3 : Int) := of_decide_eq_true (by first | (with_reducible assumption) | assumption)
                   have q117 : x7_3 < (((rd_T34 l0 x6_2).f1).length : Int) := of_decide_eq_true (by first | (with_reducible assumption) | assumption)
                   obtain ⟨ad117, e117, hx117_0, hx117_1, hx117_2, hx117_3⟩ := at_T29 HR116_1.out x7_3 p117 q117
                   cases e117
                   replace hx117_0 := (HB.out.cell (World.block_lt_of_cell? w _ hx117_0)).trans hx117_0
                   replace hx117_1 := (HB.out.cell (World.block_lt_of_cell? w _ hx117_1)).trans hx117_1
                   replace hx117_2 := (HB.out.cell (World.block_lt_of_cell? w _ hx117_2)).trans hx117_2
                   replace hx117_3 := (HB.out.cell (World.block_lt_of_cell? w _ hx117_3)).trans hx117_3
                   replace p117 := eq_true p117
                   replace q117 := eq_true q117
                   have hcz40_0 : wr.cell? ⟨gb101, 0, none⟩ = some (.slice none 0 0) := (blk_cell BK101.out 0).trans rfl
                   have hcz40_1 : wr.cell? ⟨gb101, 1, none⟩ = some (.int .i64 x102001_3) := (blk_cell BK101.out 1).trans rfl
                   have hfz40_0 := blk_frozen BK101.out 0
                   have hfz40_1 := blk_frozen BK101.out 1
                   go_wp2
                   repeat (go_quiet (fail); try go_wp2)
                   refine bodyPost_ret (results_cell_row rfl _ _ gb101 176 #[.slice none 0 0, .int .i64 9] (0, 0) _ rfl (by (with_reducible repeat (first | refine blk_drewN ?_ _ | refine blk_drew ?_ | refine blk_alloc ?_ _)); refine blk_put (cs := #[.slice none 0 0, .int .i64 x102001_3]) ?_ 1 _ rfl; (with_reducible repeat (first | refine blk_drewN ?_ _ | refine blk_drew ?_ | refine blk_alloc ?_ _)); refine blk_put (cs := #[.slice none 0 0, .int .i64 x102001_3]) ?_ 0 _ rfl; (with_reducible repeat (first | refine blk_drewN ?_ _ | refine blk_drew ?_ | refine blk_alloc ?_ _)); exact BK101.out) Try.underlying176 rfl (by kernel_rfl)) rfl ?_
                   exact ⟨_, by first | rfl | (simp [errW_none, errW_some] <;> rfl) | (simp only [← hji32]; first | rfl | (simp [errW_none, errW_some] <;> rfl)) | (simp [*, errW_none, errW_some] <;> rfl), by first | exact Kd.R_nil _ _ _ _ _ | exact Kd.N_nil _ _ _ _ _ | exact Kd.V_nil _ _ _ _ _ | exact Kd.Q_nil _ _ _ _ _ | exact Kd.S_nil _ _ _ _ _, by repeat (first | (with_reducible first | exact HB.out | apply below_alloc | apply pw_below_drewN | apply below_drew1 | refine below_set ?_ GE101.out) | exact HB.out)⟩
                  ·rw [if_neg c38] at H
                   have c38b0 : (!(((rd_T179 x5_3 (ji32)).f0.f0) == ((rd_T29 ((rd_T34 l0 x6_2).f1) x7_3).f0)) || (!(((rd_T179 x5_3 (ji32)).f0.f1) == ((rd_T29 ((rd_T34 l0 x6_2).f1) x7_3).f1)) || (!(((rd_T179 x5_3 (ji32)).f0.f2) == ((rd_T29 ((rd_T34 l0 x6_2).f1) x7_3).f2)) || (!(((rd_T179 x5_3 (ji32)).f0.f3) == ((rd_T29 ((rd_T34 l0 x6_2).f1) x7_3).f3)))))) = false := by simpa using c38
                   clear c38
                   obtain ⟨y120, hy120⟩ : ∃ y_ : List (S179), y_ = (x5_3.set ((ji32) : Int).toNat (⟨(⟨(rd_T29 ((rd_T34 l0 x6_2).f1) x7_3).f0, (rd_T29 ((rd_T34 l0 x6_2).f1) x7_3).f1, (rd_T29 ((rd_T34 l0 x6_2).f1) x7_3).f2, (rd_T29 ((rd_T34 l0 x6_2).f1) x7_3).f3⟩ : S29), true⟩ : S179)) := ⟨_, rfl⟩
                   replace H : (calxref08_slots.l2 k3 l0 y120 x6_2 (wrap64 (x7_3 + 1))) = some (r1, r2) := by first | (rw [hy120]; with_reducible exact H) | (have H2_ := (Option.bind_some _ _).symm.trans H; rw [hy120]; with_reducible exact H2_) | (have H2_ := (Option.bind_some _ _).symm.trans H; with_reducible exact H2_) | with_reducible exact H | (rw [hy120]; exact H) | exact H
                   have Ny120 := Aside0.mk hy120
                   clear hy120
                   have H' := Aside0.mk H
                   clear H
                   have p112 : 0 ≤ (x6_2 : Int) := of_decide_eq_true (by first | (with_reducible assumption) | assumption)
                   have q112 : x6_2 < (l0.length : Int) := of_decide_eq_true (by first | (with_reducible assumption) | assumption)
                   obtain ⟨ad112, A112_1, c112_1, e112, hx112_0, hx112_1, hl112_1, hi112_1⟩ := at_T34 HR0.out x6_2 p112 q112
                   cases e112
                   replace hx112_0 := (HB.out.cell (World.block_lt_of_cell? w _ hx112_0)).trans hx112_0
                   replace hx112_1 := (HB.out.cell (World.block_lt_of_cell? w _ hx112_1)).trans hx112_1
                   have HR112_1 := Aside0.mk hi112_1
                   have HC112_1 := Aside0.mk hl112_1
                   clear hi112_1 hl112_1
                   replace p112 := eq_true p112
                   replace q112 := eq_true q112
                   have p113 : 0 ≤ (x6_2 : Int) := of_decide_eq_true (by first | (with_reducible assumption) | assumption)
                   have q113 : x6_2 < (l0.length : Int) := of_decide_eq_true (by first | (with_reducible assumption) | assumption)
                   obtain ⟨ad113, A113_1, c113_1, e113, hx113_0, hx113_1, hl113_1, hi113_1⟩ := at_T34 HR0.out x6_2 p113 q113
                   obtain rfl : ad112 = ad113 := (by injection e113)
                   replace hx113_0 := (HB.out.cell (World.block_lt_of_cell? w _ hx113_0)).trans hx113_0
                   replace hx113_1 := (HB.out.cell (World.block_lt_of_cell? w _ hx113_1)).trans hx113_1
                   have HR113_1 := Aside0.mk hi113_1
                   have HC113_1 := Aside0.mk hl113_1
                   clear hi113_1 hl113_1
                   replace p113 := eq_true p113
                   replace q113 := eq_true q113
                   have ea_ := Option.some.inj (hx112_1.symm.trans hx113_1)
                   injection ea_ with ea_ en_ ec_
                   subst ea_
                   subst ec_
                   clear en_
                   obtain ⟨Ao42, co42, eo42⟩ := Kd.R_slice HO_5.out
                   subst eo42
                   have p114 : 0 ≤ ((ji32) : Int) := of_decide_eq_true (by first | (with_reducible assumption) | assumption)
                   have q114 : (ji32) < (x5_3.length : Int) := of_decide_eq_true (by first | (with_reducible assumption) | assumption)
                   obtain ⟨ad114, e114, hx114_0, hx114_1, hx114_2, hx114_3, hx114_4⟩ := at_T179 (Kd.R_reads' HO_5.out).2.2 (ji32) p114 q114
                   (try rw [← Nbq35.out] at hx114_4)
                   cases e114
                   replace p114 := eq_true p114
                   replace q114 := eq_true q114
                   have p115 : 0 ≤ ((ji32) : Int) := of_decide_eq_true (by first | (with_reducible assumption) | assumption)
                   have q115 : (ji32) < (x5_3.length : Int) := of_decide_eq_true (by first | (with_reducible assumption) | assumption)
                   obtain ⟨ad115, e115, hx115_0, hx115_1, hx115_2, hx115_3, hx115_4⟩ := at_T179 (Kd.R_reads' HO_5.out).2.2 (ji32) p115 q115
                   (try rw [← Nbq35.out] at hx115_4)
                   obtain rfl : ad114 = ad115 := (by injection e115)
                   replace p115 := eq_true p115
                   replace q115 := eq_true q115
                   have p116 : 0 ≤ (x6_2 : Int) := of_decide_eq_true (by first | (with_reducible assumption) | assumption)
                   have q116 : x6_2 < (l0.length : Int) := of_decide_eq_true (by first | (with_reducible assumption) | assumption)
                   obtain ⟨ad116, A116_1, c116_1, e116, hx116_0, hx116_1, hl116_1, hi116_1⟩ := at_T34 HR0.out x6_2 p116 q116
                   obtain rfl : ad112 = ad116 := (by injection e116)
                   replace hx116_0 := (HB.out.cell (World.block_lt_of_cell? w _ hx116_0)).trans hx116_0
                   replace hx116_1 := (HB.out.cell (World.block_lt_of_cell? w _ hx116_1)).trans hx116_1
                   have HR116_1 := Aside0.mk hi116_1
                   have HC116_1 := Aside0.mk hl116_1
                   clear hi116_1 hl116_1
                   replace p116 := eq_true p116
                   replace q116 := eq_true q116
                   have ea_ := Option.some.inj (hx112_1.symm.trans hx116_1)
                   injection ea_ with ea_ en_ ec_
                   subst ea_
                   subst ec_
                   clear en_
                   have p117 : 0 ≤ (x7_3 : Int) := of_decide_eq_true (by first | (with_reducible assumption) | assumption)
                   have q117 : x7_3 < (((rd_T34 l0 x6_2).f1).length : Int) := of_decide_eq_true (by first | (with_reducible assumption) | assumption)
                   obtain ⟨ad117, e117, hx117_0, hx117_1, hx117_2, hx117_3⟩ := at_T29 HR116_1.out x7_3 p117 q117
                   cases e117
                   replace hx117_0 := (HB.out.cell (World.block_lt_of_cell? w _ hx117_0)).trans hx117_0
                   replace hx117_1 := (HB.out.cell (World.block_lt_of_cell? w _ hx117_1)).trans hx117_1
                   replace hx117_2 := (HB.out.cell (World.block_lt_of_cell? w _ hx117_2)).trans hx117_2
                   replace hx117_3 := (HB.out.cell (World.block_lt_of_cell? w _ hx117_3)).trans hx117_3
                   replace p117 := eq_true p117
                   replace q117 := eq_true q117
                   have p118 : 0 ≤ (x6_2 : Int) := of_decide_eq_true (by first | (with_reducible assumption) | assumption)
                   have q118 : x6_2 < (l0.length : Int) := of_decide_eq_true (by first | (with_reducible assumption) | assumption)
                   obtain ⟨ad118, A118_1, c118_1, e118, hx118_0, hx118_1, hl118_1, hi118_1⟩ := at_T34 HR0.out x6_2 p118 q118
                   obtain rfl : ad112 = ad118 := (by injection e118)
                   replace hx118_0 := (HB.out.cell (World.block_lt_of_cell? w _ hx118_0)).trans hx118_0
                   replace hx118_1 := (HB.out.cell (World.block_lt_of_cell? w _ hx118_1)).trans hx118_1
                   have HR118_1 := Aside0.mk hi118_1
                   have HC118_1 := Aside0.mk hl118_1
                   clear hi118_1 hl118_1
                   replace p118 := eq_true p118
                   replace q118 := eq_true q118
                   have ea_ := Option.some.inj (hx112_1.symm.trans hx118_1)
                   injection ea_ with ea_ en_ ec_
                   subst ea_
                   subst ec_
                   clear en_
                   have p119 : 0 ≤ (x7_3 : Int) := of_decide_eq_true (by first | (with_reducible assumption) | assumption)
                   have q119 : x7_3 < (((rd_T34 l0 x6_2).f1).length : Int) := of_decide_eq_true (by first | (with_reducible assumption) | assumption)
                   obtain ⟨ad119, e119, hx119_0, hx119_1, hx119_2, hx119_3⟩ := at_T29 HR118_1.out x7_3 p119 q119
                   cases e119
                   replace hx119_0 := (HB.out.cell (World.block_lt_of_cell? w _ hx119_0)).trans hx119_0
                   replace hx119_1 := (HB.out.cell (World.block_lt_of_cell? w _ hx119_1)).trans hx119_1
                   replace hx119_2 := (HB.out.cell (World.block_lt_of_cell? w _ hx119_2)).trans hx119_2
                   replace hx119_3 := (HB.out.cell (World.block_lt_of_cell? w _ hx119_3)).trans hx119_3
                   replace p119 := eq_true p119
                   replace q119 := eq_true q119
                   have p41 : 0 ≤ ((ji32) : Int) := of_decide_eq_true (by first | (with_reducible assumption) | assumption)
                   have q41 : ((ji32) : Int) < ((x5_3.length : Int) : Int) := of_decide_eq_true (by first | (with_reducible assumption) | assumption)
                   obtain ⟨go41, co41, eo41, gb41, gl41, cl41, HG41⟩ := Kd.R_form HO_5.out (by omega)
                   (first | cases eo41 | (injection eo41 with ea_ en_ ec_; (first | subst ea_ | (injection ea_ with ea_; subst ea_)); subst ec_; clear en_))
                   have GB41 := Aside0.mk gb41
                   have GG41 := Aside0.mk HG41
                   clear gb41 gl41 HG41
                   (first | simp only [add_plain] at hx114_0 | skip)
                   (first | simp only [add_plain] at hx114_1 | skip)
                   (first | simp only [add_plain] at hx114_2 | skip)
                   (first | simp only [add_plain] at hx114_3 | skip)
                   (first | simp only [add_plain] at hx114_4 | skip)
                   (first | simp only [add_plain] at hx115_0 | skip)
                   (first | simp only [add_plain] at hx115_1 | skip)
                   (first | simp only [add_plain] at hx115_2 | skip)
                   (first | simp only [add_plain] at hx115_3 | skip)
                   (first | simp only [add_plain] at hx115_4 | skip)
                   obtain ⟨ce41, hcl41, hM41, hcc41, hfr41⟩ := Kd.R_elem HO_5.out z179 ((ji32) : Int) p41 q41
                   obtain rfl := k179_openM hM41
                   have hx41_0 : wr.cell? ⟨go41, ((ji32) : Int).toNat * 5, none⟩ = some (.int .i64 ((rd_T179 x5_3 (ji32)).f0.f0)) := hcc41 0 _ rfl
                   have hx41_1 : wr.cell? ⟨go41, ((ji32) : Int).toNat * 5 + 1, none⟩ = some (.int .i64 ((rd_T179 x5_3 (ji32)).f0.f1)) := hcc41 1 _ rfl
                   have hx41_2 : wr.cell? ⟨go41, ((ji32) : Int).toNat * 5 + 2, none⟩ = some (.int .i64 ((rd_T179 x5_3 (ji32)).f0.f2)) := hcc41 2 _ rfl
                   have hx41_3 : wr.cell? ⟨go41, ((ji32) : Int).toNat * 5 + 3, none⟩ = some (.int .i64 ((rd_T179 x5_3 (ji32)).f0.f3)) := hcc41 3 _ rfl
                   have hx41_4 : wr.cell? ⟨go41, ((ji32) : Int).toNat * 5 + 4, none⟩ = some (.bool ((rd_T179 x5_3 (ji32)).f1)) := hcc41 4 _ rfl
                   have hf41_0 : wr.frozen? ⟨go41, ((ji32) : Int).toNat * 5, none⟩ = false := hfr41 0
                   have hf41_1 : wr.frozen? ⟨go41, ((ji32) : Int).toNat * 5 + 1, none⟩ = false := hfr41 1
                   have hf41_2 : wr.frozen? ⟨go41, ((ji32) : Int).toNat * 5 + 2, none⟩ = false := hfr41 2
                   have hf41_3 : wr.frozen? ⟨go41, ((ji32) : Int).toNat * 5 + 3, none⟩ = false := hfr41 3
                   have hf41_4 : wr.frozen? ⟨go41, ((ji32) : Int).toNat * 5 + 4, none⟩ = false := hfr41 4
                   clear hcl41 hcc41 hfr41 hM41
                   replace p41 := eq_true p41
                   replace q41 := eq_true q41
                   have HX43 := Aside0.mk (show Kd.R k179 179 wr w.heap.size (fun _ => True) (.slice (some ⟨go41, 0, none⟩) x5_3.length co42) x5_3 from (by (with_reducible repeat (first | apply Kd.R_alloc | apply Kd.R_drewN | apply Kd.R_drew)); exact HO_5.out))
                   obtain ⟨ce43, hcl43, hM43, hcc43, hfr43⟩ := Kd.R_elem HX43.out z179 ((ji32) : Int) (of_decide_eq_true (by first | (with_reducible assumption) | assumption)) (by have h_ : ((ji32) : Int) < ((x5_3.length : Int) : Int) := of_decide_eq_true (by first | (with_reducible assumption) | assumption); first | exact h_ | (have e_ := (Kd.R_reads' HO_5.out).1; omega) | simpa using h_)
                   obtain rfl := k179_openM hM43
                   have HP43 := Kd.R_seg HX43.out ((ji32) : Int) (of_decide_eq_true (by first | (with_reducible assumption) | assumption)) (by have h_ : ((ji32) : Int) < ((x5_3.length : Int) : Int) := of_decide_eq_true (by first | (with_reducible assumption) | assumption); first | exact h_ | (have e_ := (Kd.R_reads' HO_5.out).1; omega) | simpa using h_) (seg := [.int .i64 ((rd_T29 ((rd_T34 l0 x6_2).f1) x7_3).f0), .int .i64 ((rd_T29 ((rd_T34 l0 x6_2).f1) x7_3).f1), .int .i64 ((rd_T29 ((rd_T34 l0 x6_2).f1) x7_3).f2), .int .i64 ((rd_T29 ((rd_T34 l0 x6_2).f1) x7_3).f3), .bool true]) (j := 0) hcl43 hcc43 (show 5 ≤ 5 from by decide) (x' := (⟨(⟨(rd_T29 ((rd_T34 l0 x6_2).f1) x7_3).f0, (rd_T29 ((rd_T34 l0 x6_2).f1) x7_3).f1, (rd_T29 ((rd_T34 l0 x6_2).f1) x7_3).f2, (rd_T29 ((rd_T34 l0 x6_2).f1) x7_3).f3⟩ : S29), true⟩ : S179)) (k179_mkM _ _ _ (⟨(⟨(rd_T29 ((rd_T34 l0 x6_2).f1) x7_3).f0, (rd_T29 ((rd_T34 l0 x6_2).f1) x7_3).f1, (rd_T29 ((rd_T34 l0 x6_2).f1) x7_3).f2, (rd_T29 ((rd_T34 l0 x6_2).f1) x7_3).f3⟩ : S29), true⟩ : S179) ) (fun _ hk => hk)
                   have hx43_0 := hcc43 0 _ rfl
                   (try simp only [show (k179).sz = 5 from rfl, Nat.mul_one, Nat.add_zero] at hx43_0)
                   have hf43_0 := hfr43 0
                   (try simp only [show (k179).sz = 5 from rfl, Nat.mul_one, Nat.add_zero] at hf43_0)
                   have hx43_1 := hcc43 1 _ rfl
                   (try simp only [show (k179).sz = 5 from rfl, Nat.mul_one, Nat.add_zero] at hx43_1)
                   have hf43_1 := hfr43 1
                   (try simp only [show (k179).sz = 5 from rfl, Nat.mul_one, Nat.add_zero] at hf43_1)
                   have hx43_2 := hcc43 2 _ rfl
                   (try simp only [show (k179).sz = 5 from rfl, Nat.mul_one, Nat.add_zero] at hx43_2)
                   have hf43_2 := hfr43 2
                   (try simp only [show (k179).sz = 5 from rfl, Nat.mul_one, Nat.add_zero] at hf43_2)
                   have hx43_3 := hcc43 3 _ rfl
                   (try simp only [show (k179).sz = 5 from rfl, Nat.mul_one, Nat.add_zero] at hx43_3)
                   have hf43_3 := hfr43 3
                   (try simp only [show (k179).sz = 5 from rfl, Nat.mul_one, Nat.add_zero] at hf43_3)
                   have hx43_4 := hcc43 4 _ rfl
                   (try simp only [show (k179).sz = 5 from rfl, Nat.mul_one, Nat.add_zero] at hx43_4)
                   have hf43_4 := hfr43 4
                   (try simp only [show (k179).sz = 5 from rfl, Nat.mul_one, Nat.add_zero] at hf43_4)
                   clear hcl43 hcc43 hfr43 hM43
                   go_wp2
                   repeat (go_quiet (fail); try go_wp2_with (first | ((with_reducible refine gate_store (t := 179) (p := 128) rfl ?_); (try (rw [drewN_self wr]; generalize hq_ : World.drewN wr _ = wr; have n0_ := Aside0.mk (Kd.R_at hq_ HO_5.out); have n1_ := Aside0.mk (blk_at hq_ BK101.out); have n2_ := Aside0.mk (below_at hq_ HB.out); clear hq_ HO_5 BK101 HB; have HO_5 := n0_; have BK101 := n1_; have HB := n2_; clear n0_ n1_ n2_; (try (have HX43 := Aside0.mk (show Kd.R k179 179 wr w.heap.size (fun _ => True) (.slice (some ⟨go41, 0, none⟩) x5_3.length co42) x5_3 from (by (with_reducible repeat (first | apply Kd.R_alloc | apply Kd.R_drewN | apply Kd.R_drew)); exact HO_5.out)))); (try (obtain ⟨ce43, hcl43, hM43, hcc43, hfr43⟩ := Kd.R_elem HX43.out z179 ((ji32) : Int) (of_decide_eq_true (by first | (with_reducible assumption) | assumption)) (by have h_ : ((ji32) : Int) < ((x5_3.length : Int) : Int) := of_decide_eq_true (by first | (with_reducible assumption) | assumption); first | exact h_ | (have e_ := (Kd.R_reads' HO_5.out).1; omega) | simpa using h_))); (try (obtain rfl := k179_openM hM43)); (try (have HP43 := Kd.R_seg HX43.out ((ji32) : Int) (of_decide_eq_true (by first | (with_reducible assumption) | assumption)) (by have h_ : ((ji32) : Int) < ((x5_3.length : Int) : Int) := of_decide_eq_true (by first | (with_reducible assumption) | assumption); first | exact h_ | (have e_ := (Kd.R_reads' HO_5.out).1; omega) | simpa using h_) (seg := [.int .i64 ((rd_T29 ((rd_T34 l0 x6_2).f1) x7_3).f0), .int .i64 ((rd_T29 ((rd_T34 l0 x6_2).f1) x7_3).f1), .int .i64 ((rd_T29 ((rd_T34 l0 x6_2).f1) x7_3).f2), .int .i64 ((rd_T29 ((rd_T34 l0 x6_2).f1) x7_3).f3), .bool true]) (j := 0) hcl43 hcc43 (show 5 ≤ 5 from by decide) (x' := (⟨(⟨(rd_T29 ((rd_T34 l0 x6_2).f1) x7_3).f0, (rd_T29 ((rd_T34 l0 x6_2).f1) x7_3).f1, (rd_T29 ((rd_T34 l0 x6_2).f1) x7_3).f2, (rd_T29 ((rd_T34 l0 x6_2).f1) x7_3).f3⟩ : S29), true⟩ : S179)) (k179_mkM _ _ _ (⟨(⟨(rd_T29 ((rd_T34 l0 x6_2).f1) x7_3).f0, (rd_T29 ((rd_T34 l0 x6_2).f1) x7_3).f1, (rd_T29 ((rd_T34 l0 x6_2).f1) x7_3).f2, (rd_T29 ((rd_T34 l0 x6_2).f1) x7_3).f3⟩ : S29), true⟩ : S179) ) (fun _ hk => hk))); (try (have hx43_0 := hcc43 0 _ rfl)); (try (try simp only [show (k179).sz = 5 from rfl, Nat.mul_one, Nat.add_zero] at hx43_0)); (try (have hf43_0 := hfr43 0)); (try (try simp only [show (k179).sz = 5 from rfl, Nat.mul_one, Nat.add_zero] at hf43_0)); (try (have hx43_1 := hcc43 1 _ rfl)); (try (try simp only [show (k179).sz = 5 from rfl, Nat.mul_one, Nat.add_zero] at hx43_1)); (try (have hf43_1 := hfr43 1)); (try (try simp only [show (k179).sz = 5 from rfl, Nat.mul_one, Nat.add_zero] at hf43_1)); (try (have hx43_2 := hcc43 2 _ rfl)); (try (try simp only [show (k179).sz = 5 from rfl, Nat.mul_one, Nat.add_zero] at hx43_2)); (try (have hf43_2 := hfr43 2)); (try (try simp only [show (k179).sz = 5 from rfl, Nat.mul_one, Nat.add_zero] at hf43_2)); (try (have hx43_3 := hcc43 3 _ rfl)); (try (try simp only [show (k179).sz = 5 from rfl, Nat.mul_one, Nat.add_zero] at hx43_3)); (try (have hf43_3 := hfr43 3)); (try (try simp only [show (k179).sz = 5 from rfl, Nat.mul_one, Nat.add_zero] at hf43_3)); (try (have hx43_4 := hcc43 4 _ rfl)); (try (try simp only [show (k179).sz = 5 from rfl, Nat.mul_one, Nat.add_zero] at hx43_4)); (try (have hf43_4 := hfr43 4)); (try (try simp only [show (k179).sz = 5 from rfl, Nat.mul_one, Nat.add_zero] at hf43_4)); (try (clear hcl43 hcc43 hfr43 hM43)))); refine store_event (t := 179) (p := 128) (v := ?vo_w44) (w1 := (((((wr.setCell ⟨go41, ((ji32) : Int).toNat * 5, none⟩ (.int .i64 ((rd_T29 ((rd_T34 l0 x6_2).f1) x7_3).f0))).setCell ⟨go41, ((ji32) : Int).toNat * 5 + 1, none⟩ (.int .i64 ((rd_T29 ((rd_T34 l0 x6_2).f1) x7_3).f1))).setCell ⟨go41, ((ji32) : Int).toNat * 5 + 2, none⟩ (.int .i64 ((rd_T29 ((rd_T34 l0 x6_2).f1) x7_3).f2))).setCell ⟨go41, ((ji32) : Int).toNat * 5 + 3, none⟩ (.int .i64 ((rd_T29 ((rd_T34 l0 x6_2).f1) x7_3).f3))).setCell ⟨go41, ((ji32) : Int).toNat * 5 + 4, none⟩ (.bool true))) ?hg ?ho ?hn ?hr ?_; (case ho => rfl); (case hg => rfl); (case hn => rfl); (case hr => first | (go_simp; done) | (go_simp; rfl)); intro w44 hw; have hg : wr.grownBy w44 (some go41) := (by rw [hw]; exact HP43.2); have hp_ : Kd.R k179 179 w44 w.heap.size (fun _ => True) (.slice (some ⟨go41, 0, none⟩) x5_3.length co42) y120 := (by rw [hw, Ny120.out]; exact HP43.1); clear HP43; have n0_ := Aside0.mk (hp_); have n1_ := Aside0.mk (blk_grown (g := gb101) (o := .cells #[.slice none 0 0, .int .i64 x102001_3] 176 (0, 0)) (by (with_reducible repeat (first | refine blk_drewN ?_ _ | refine blk_drew ?_ | refine blk_alloc ?_ _)); exact BK101.out) hg (Kd.R_ne HO_5.out BK101.out (by decide))); have n2_ := Aside0.mk ((by rw [hw]; exact below_set (below_set (below_set (below_set (below_set (HB.out) GB41.out) GB41.out) GB41.out) GB41.out) GB41.out : Below w.heap.size w w44)); clear HO_5; clear BK101; clear HB; have HO_5 := n0_; have BK101 := n1_; have HB := n2_; clear n0_ n1_ n2_; clear hg hw hp_)))
                   go_roundg k3
                   case measure => have := HK1.out; have := HK2.out; have := HK3.out; omega
                   case rel => exact ⟨(y120), (wrap64 (x7_3 + 1)), (x102001_3), (by first | rfl | (simp; done) | (simp [*]; done)), H', ⟨by have := HK1.out; have := HK2.out; have := HK3.out; omega⟩, ⟨by (with_reducible repeat (first | apply Kd.R_alloc | apply Kd.R_drewN | apply Kd.R_drew)); exact HO_5.out⟩, ⟨by (with_reducible repeat (first | refine blk_drewN ?_ _ | refine blk_drew ?_ | refine blk_alloc ?_ _)); exact BK101.out⟩, ⟨by repeat (first | (with_reducible first | exact HB.out | apply below_alloc | apply pw_below_drewN | apply below_drew1 | refine below_set ?_ GE101.out) | exact HB.out)⟩⟩
                 ·rw [if_neg c37] at H
                  exact absurd H (by simp)
                ·replace c36 := Bool.eq_false_iff.mpr c36
                 subst c36
                 rw [if_neg (show ¬ (false = true) by decide)] at H
                 by_cases c45 : 0 ≤ x7_3
                 ·rw [if_pos c45] at H
                  have c45b0 : decide (0 ≤ x7_3) = true := decide_eq_true c45
                  clear c45
                  obtain ⟨y123, hy123⟩ : ∃ y_ : List (S179), y_ = (x5_3.set ((ji32) : Int).toNat (⟨(⟨(rd_T29 ((rd_T34 l0 x6_2).f1) x7_3).f0, (rd_T29 ((rd_T34 l0 x6_2).f1) x7_3).f1, (rd_T29 ((rd_T34 l0 x6_2).f1) x7_3).f2, (rd_T29 ((rd_T34 l0 x6_2).f1) x7_3).f3⟩ : S29), true⟩ : S179)) := ⟨_, rfl⟩
                  replace H : (calxref08_slots.l2 k3 l0 y123 x6_2 (wrap64 (x7_3 + 1))) = some (r1, r2) := by first | (rw [hy123]; with_reducible exact H) | (have H2_ := (Option.bind_some _ _).symm.trans H; rw [hy123]; with_reducible exact H2_) | (have H2_ := (Option.bind_some _ _).symm.trans H; with_reducible exact H2_) | with_reducible exact H | (rw [hy123]; exact H) | exact H
                  have Ny123 := Aside0.mk hy123
                  clear hy123
                  have H' := Aside0.mk H
                  clear H
                  have p112 : 0 ≤ (x6_2 : Int) := of_decide_eq_true (by first | (with_reducible assumption) | assumption)
                  have q112 : x6_2 < (l0.length : Int) := of_decide_eq_true (by first | (with_reducible assumption) | assumption)
                  obtain ⟨ad112, A112_1, c112_1, e112, hx112_0, hx112_1, hl112_1, hi112_1⟩ := at_T34 HR0.out x6_2 p112 q112
                  cases e112
                  replace hx112_0 := (HB.out.cell (World.block_lt_of_cell? w _ hx112_0)).trans hx112_0
                  replace hx112_1 := (HB.out.cell (World.block_lt_of_cell? w _ hx112_1)).trans hx112_1
                  have HR112_1 := Aside0.mk hi112_1
                  have HC112_1 := Aside0.mk hl112_1
                  clear hi112_1 hl112_1
                  replace p112 := eq_true p112
                  replace q112 := eq_true q112
                  have p113 : 0 ≤ (x6_2 : Int) := of_decide_eq_true (by first | (with_reducible assumption) | assumption)
                  have q113 : x6_2 < (l0.length : Int) := of_decide_eq_true (by first | (with_reducible assumption) | assumption)
                  obtain ⟨ad113, A113_1, c113_1, e113, hx113_0, hx113_1, hl113_1, hi113_1⟩ := at_T34 HR0.out x6_2 p113 q113
                  obtain rfl : ad112 = ad113 := (by injection e113)
                  replace hx113_0 := (HB.out.cell (World.block_lt_of_cell? w _ hx113_0)).trans hx113_0
                  replace hx113_1 := (HB.out.cell (World.block_lt_of_cell? w _ hx113_1)).trans hx113_1
                  have HR113_1 := Aside0.mk hi113_1
                  have HC113_1 := Aside0.mk hl113_1
                  clear hi113_1 hl113_1
                  replace p113 := eq_true p113
                  replace q113 := eq_true q113
                  have ea_ := Option.some.inj (hx112_1.symm.trans hx113_1)
                  injection ea_ with ea_ en_ ec_
                  subst ea_
                  subst ec_
                  clear en_
                  obtain ⟨Ao47, co47, eo47⟩ := Kd.R_slice HO_5.out
                  subst eo47
                  have p114 : 0 ≤ ((ji32) : Int) := of_decide_eq_true (by first | (with_reducible assumption) | assumption)
                  have q114 : (ji32) < (x5_3.length : Int) := of_decide_eq_true (by first | (with_reducible assumption) | assumption)
                  obtain ⟨ad114, e114, hx114_0, hx114_1, hx114_2, hx114_3, hx114_4⟩ := at_T179 (Kd.R_reads' HO_5.out).2.2 (ji32) p114 q114
                  (try rw [← Nbq35.out] at hx114_4)
                  cases e114
                  replace p114 := eq_true p114
                  replace q114 := eq_true q114
                  have p121 : 0 ≤ (x6_2 : Int) := of_decide_eq_true (by first | (with_reducible assumption) | assumption)
                  have q121 : x6_2 < (l0.length : Int) := of_decide_eq_true (by first | (with_reducible assumption) | assumption)
                  obtain ⟨ad121, A121_1, c121_1, e121, hx121_0, hx121_1, hl121_1, hi121_1⟩ := at_T34 HR0.out x6_2 p121 q121
                  obtain rfl : ad112 = ad121 := (by injection e121)
                  replace hx121_0 := (HB.out.cell (World.block_lt_of_cell? w _ hx121_0)).trans hx121_0
                  replace hx121_1 := (HB.out.cell (World.block_lt_of_cell? w _ hx121_1)).trans hx121_1
                  have HR121_1 := Aside0.mk hi121_1
                  have HC121_1 := Aside0.mk hl121_1
                  clear hi121_1 hl121_1
                  replace p121 := eq_true p121
                  replace q121 := eq_true q121
                  have ea_ := Option.some.inj (hx112_1.symm.trans hx121_1)
                  injection ea_ with ea_ en_ ec_
                  subst ea_
                  subst ec_
                  clear en_
                  have p122 : 0 ≤ (x7_3 : Int) := of_decide_eq_true (by first | (with_reducible assumption) | assumption)
                  have q122 : x7_3 < (((rd_T34 l0 x6_2).f1).length : Int) := of_decide_eq_true (by first | (with_reducible assumption) | assumption)
                  obtain ⟨ad122, e122, hx122_0, hx122_1, hx122_2, hx122_3⟩ := at_T29 HR121_1.out x7_3 p122 q122
                  cases e122
                  replace hx122_0 := (HB.out.cell (World.block_lt_of_cell? w _ hx122_0)).trans hx122_0
                  replace hx122_1 := (HB.out.cell (World.block_lt_of_cell? w _ hx122_1)).trans hx122_1
                  replace hx122_2 := (HB.out.cell (World.block_lt_of_cell? w _ hx122_2)).trans hx122_2
                  replace hx122_3 := (HB.out.cell (World.block_lt_of_cell? w _ hx122_3)).trans hx122_3
                  replace p122 := eq_true p122
                  replace q122 := eq_true q122
                  have p46 : 0 ≤ ((ji32) : Int) := of_decide_eq_true (by first | (with_reducible assumption) | assumption)
                  have q46 : ((ji32) : Int) < ((x5_3.length : Int) : Int) := of_decide_eq_true (by first | (with_reducible assumption) | assumption)
                  obtain ⟨go46, co46, eo46, gb46, gl46, cl46, HG46⟩ := Kd.R_form HO_5.out (by omega)
                  (first | cases eo46 | (injection eo46 with ea_ en_ ec_; (first | subst ea_ | (injection ea_ with ea_; subst ea_)); subst ec_; clear en_))
                  have GB46 := Aside0.mk gb46
                  have GG46 := Aside0.mk HG46
                  clear gb46 gl46 HG46
                  (first | simp only [add_plain] at hx114_0 | skip)
                  (first | simp only [add_plain] at hx114_1 | skip)
                  (first | simp only [add_plain] at hx114_2 | skip)
                  (first | simp only [add_plain] at hx114_3 | skip)
                  (first | simp only [add_plain] at hx114_4 | skip)
                  obtain ⟨ce46, hcl46, hM46, hcc46, hfr46⟩ := Kd.R_elem HO_5.out z179 ((ji32) : Int) p46 q46
                  obtain rfl := k179_openM hM46
                  have hx46_0 : wr.cell? ⟨go46, ((ji32) : Int).toNat * 5, none⟩ = some (.int .i64 ((rd_T179 x5_3 (ji32)).f0.f0)) := hcc46 0 _ rfl
                  have hx46_1 : wr.cell? ⟨go46, ((ji32) : Int).toNat * 5 + 1, none⟩ = some (.int .i64 ((rd_T179 x5_3 (ji32)).f0.f1)) := hcc46 1 _ rfl
                  have hx46_2 : wr.cell? ⟨go46, ((ji32) : Int).toNat * 5 + 2, none⟩ = some (.int .i64 ((rd_T179 x5_3 (ji32)).f0.f2)) := hcc46 2 _ rfl
                  have hx46_3 : wr.cell? ⟨go46, ((ji32) : Int).toNat * 5 + 3, none⟩ = some (.int .i64 ((rd_T179 x5_3 (ji32)).f0.f3)) := hcc46 3 _ rfl
                  have hx46_4 : wr.cell? ⟨go46, ((ji32) : Int).toNat * 5 + 4, none⟩ = some (.bool ((rd_T179 x5_3 (ji32)).f1)) := hcc46 4 _ rfl
                  have hf46_0 : wr.frozen? ⟨go46, ((ji32) : Int).toNat * 5, none⟩ = false := hfr46 0
                  have hf46_1 : wr.frozen? ⟨go46, ((ji32) : Int).toNat * 5 + 1, none⟩ = false := hfr46 1
                  have hf46_2 : wr.frozen? ⟨go46, ((ji32) : Int).toNat * 5 + 2, none⟩ = false := hfr46 2
                  have hf46_3 : wr.frozen? ⟨go46, ((ji32) : Int).toNat * 5 + 3, none⟩ = false := hfr46 3
                  have hf46_4 : wr.frozen? ⟨go46, ((ji32) : Int).toNat * 5 + 4, none⟩ = false := hfr46 4
                  clear hcl46 hcc46 hfr46 hM46
                  replace p46 := eq_true p46
                  replace q46 := eq_true q46
                  have HX48 := Aside0.mk (show Kd.R k179 179 wr w.heap.size (fun _ => True) (.slice (some ⟨go46, 0, none⟩) x5_3.length co47) x5_3 from (by (with_reducible repeat (first | apply Kd.R_alloc | apply Kd.R_drewN | apply Kd.R_drew)); exact HO_5.out))
                  obtain ⟨ce48, hcl48, hM48, hcc48, hfr48⟩ := Kd.R_elem HX48.out z179 ((ji32) : Int) (of_decide_eq_true (by first | (with_reducible assumption) | assumption)) (by have h_ : ((ji32) : Int) < ((x5_3.length : Int) : Int) := of_decide_eq_true (by first | (with_reducible assumption) | assumption); first | exact h_ | (have e_ := (Kd.R_reads' HO_5.out).1; omega) | simpa using h_)
                  obtain rfl := k179_openM hM48
                  have HP48 := Kd.R_seg HX48.out ((ji32) : Int) (of_decide_eq_true (by first | (with_reducible assumption) | assumption)) (by have h_ : ((ji32) : Int) < ((x5_3.length : Int) : Int) := of_decide_eq_true (by first | (with_reducible assumption) | assumption); first | exact h_ | (have e_ := (Kd.R_reads' HO_5.out).1; omega) | simpa using h_) (seg := [.int .i64 ((rd_T29 ((rd_T34 l0 x6_2).f1) x7_3).f0), .int .i64 ((rd_T29 ((rd_T34 l0 x6_2).f1) x7_3).f1), .int .i64 ((rd_T29 ((rd_T34 l0 x6_2).f1) x7_3).f2), .int .i64 ((rd_T29 ((rd_T34 l0 x6_2).f1) x7_3).f3), .bool true]) (j := 0) hcl48 hcc48 (show 5 ≤ 5 from by decide) (x' := (⟨(⟨(rd_T29 ((rd_T34 l0 x6_2).f1) x7_3).f0, (rd_T29 ((rd_T34 l0 x6_2).f1) x7_3).f1, (rd_T29 ((rd_T34 l0 x6_2).f1) x7_3).f2, (rd_T29 ((rd_T34 l0 x6_2).f1) x7_3).f3⟩ : S29), true⟩ : S179)) (k179_mkM _ _ _ (⟨(⟨(rd_T29 ((rd_T34 l0 x6_2).f1) x7_3).f0, (rd_T29 ((rd_T34 l0 x6_2).f1) x7_3).f1, (rd_T29 ((rd_T34 l0 x6_2).f1) x7_3).f2, (rd_T29 ((rd_T34 l0 x6_2).f1) x7_3).f3⟩ : S29), true⟩ : S179) ) (fun _ hk => hk)
                  have hx48_0 := hcc48 0 _ rfl
                  (try simp only [show (k179).sz = 5 from rfl, Nat.mul_one, Nat.add_zero] at hx48_0)
                  have hf48_0 := hfr48 0
                  (try simp only [show (k179).sz = 5 from rfl, Nat.mul_one, Nat.add_zero] at hf48_0)
                  have hx48_1 := hcc48 1 _ rfl
                  (try simp only [show (k179).sz = 5 from rfl, Nat.mul_one, Nat.add_zero] at hx48_1)
                  have hf48_1 := hfr48 1
                  (try simp only [show (k179).sz = 5 from rfl, Nat.mul_one, Nat.add_zero] at hf48_1)
                  have hx48_2 := hcc48 2 _ rfl
                  (try simp only [show (k179).sz = 5 from rfl, Nat.mul_one, Nat.add_zero] at hx48_2)
                  have hf48_2 := hfr48 2
                  (try simp only [show (k179).sz = 5 from rfl, Nat.mul_one, Nat.add_zero] at hf48_2)
                  have hx48_3 := hcc48 3 _ rfl
                  (try simp only [show (k179).sz = 5 from rfl, Nat.mul_one, Nat.add_zero] at hx48_3)
                  have hf48_3 := hfr48 3
                  (try simp only [show (k179).sz = 5 from rfl, Nat.mul_one, Nat.add_zero] at hf48_3)
                  have hx48_4 := hcc48 4 _ rfl
                  (try simp only [show (k179).sz = 5 from rfl, Nat.mul_one, Nat.add_zero] at hx48_4)
                  have hf48_4 := hfr48 4
                  (try simp only [show (k179).sz = 5 from rfl, Nat.mul_one, Nat.add_zero] at hf48_4)
                  clear hcl48 hcc48 hfr48 hM48
                  go_wp2
                  repeat (go_quiet (fail); try go_wp2_with (first | ((with_reducible refine gate_store (t := 179) (p := 128) rfl ?_); (try (rw [drewN_self wr]; generalize hq_ : World.drewN wr _ = wr; have n0_ := Aside0.mk (Kd.R_at hq_ HO_5.out); have n1_ := Aside0.mk (blk_at hq_ BK101.out); have n2_ := Aside0.mk (below_at hq_ HB.out); clear hq_ HO_5 BK101 HB; have HO_5 := n0_; have BK101 := n1_; have HB := n2_; clear n0_ n1_ n2_; (try (have HX48 := Aside0.mk (show Kd.R k179 179 wr w.heap.size (fun _ => True) (.slice (some ⟨go46, 0, none⟩) x5_3.length co47) x5_3 from (by (with_reducible repeat (first | apply Kd.R_alloc | apply Kd.R_drewN | apply Kd.R_drew)); exact HO_5.out)))); (try (obtain ⟨ce48, hcl48, hM48, hcc48, hfr48⟩ := Kd.R_elem HX48.out z179 ((ji32) : Int) (of_decide_eq_true (by first | (with_reducible assumption) | assumption)) (by have h_ : ((ji32) : Int) < ((x5_3.length : Int) : Int) := of_decide_eq_true (by first | (with_reducible assumption) | assumption); first | exact h_ | (have e_ := (Kd.R_reads' HO_5.out).1; omega) | simpa using h_))); (try (obtain rfl := k179_openM hM48)); (try (have HP48 := Kd.R_seg HX48.out ((ji32) : Int) (of_decide_eq_true (by first | (with_reducible assumption) | assumption)) (by have h_ : ((ji32) : Int) < ((x5_3.length : Int) : Int) := of_decide_eq_true (by first | (with_reducible assumption) | assumption); first | exact h_ | (have e_ := (Kd.R_reads' HO_5.out).1; omega) | simpa using h_) (seg := [.int .i64 ((rd_T29 ((rd_T34 l0 x6_2).f1) x7_3).f0), .int .i64 ((rd_T29 ((rd_T34 l0 x6_2).f1) x7_3).f1), .int .i64 ((rd_T29 ((rd_T34 l0 x6_2).f1) x7_3).f2), .int .i64 ((rd_T29 ((rd_T34 l0 x6_2).f1) x7_3).f3), .bool true]) (j := 0) hcl48 hcc48 (show 5 ≤ 5 from by decide) (x' := (⟨(⟨(rd_T29 ((rd_T34 l0 x6_2).f1) x7_3).f0, (rd_T29 ((rd_T34 l0 x6_2).f1) x7_3).f1, (rd_T29 ((rd_T34 l0 x6_2).f1) x7_3).f2, (rd_T29 ((rd_T34 l0 x6_2).f1) x7_3).f3⟩ : S29), true⟩ : S179)) (k179_mkM _ _ _ (⟨(⟨(rd_T29 ((rd_T34 l0 x6_2).f1) x7_3).f0, (rd_T29 ((rd_T34 l0 x6_2).f1) x7_3).f1, (rd_T29 ((rd_T34 l0 x6_2).f1) x7_3).f2, (rd_T29 ((rd_T34 l0 x6_2).f1) x7_3).f3⟩ : S29), true⟩ : S179) ) (fun _ hk => hk))); (try (have hx48_0 := hcc48 0 _ rfl)); (try (try simp only [show (k179).sz = 5 from rfl, Nat.mul_one, Nat.add_zero] at hx48_0)); (try (have hf48_0 := hfr48 0)); (try (try simp only [show (k179).sz = 5 from rfl, Nat.mul_one, Nat.add_zero] at hf48_0)); (try (have hx48_1 := hcc48 1 _ rfl)); (try (try simp only [show (k179).sz = 5 from rfl, Nat.mul_one, Nat.add_zero] at hx48_1)); (try (have hf48_1 := hfr48 1)); (try (try simp only [show (k179).sz = 5 from rfl, Nat.mul_one, Nat.add_zero] at hf48_1)); (try (have hx48_2 := hcc48 2 _ rfl)); (try (try simp only [show (k179).sz = 5 from rfl, Nat.mul_one, Nat.add_zero] at hx48_2)); (try (have hf48_2 := hfr48 2)); (try (try simp only [show (k179).sz = 5 from rfl, Nat.mul_one, Nat.add_zero] at hf48_2)); (try (have hx48_3 := hcc48 3 _ rfl)); (try (try simp only [show (k179).sz = 5 from rfl, Nat.mul_one, Nat.add_zero] at hx48_3)); (try (have hf48_3 := hfr48 3)); (try (try simp only [show (k179).sz = 5 from rfl, Nat.mul_one, Nat.add_zero] at hf48_3)); (try (have hx48_4 := hcc48 4 _ rfl)); (try (try simp only [show (k179).sz = 5 from rfl, Nat.mul_one, Nat.add_zero] at hx48_4)); (try (have hf48_4 := hfr48 4)); (try (try simp only [show (k179).sz = 5 from rfl, Nat.mul_one, Nat.add_zero] at hf48_4)); (try (clear hcl48 hcc48 hfr48 hM48)))); refine store_event (t := 179) (p := 128) (v := ?vo_w49) (w1 := (((((wr.setCell ⟨go46, ((ji32) : Int).toNat * 5, none⟩ (.int .i64 ((rd_T29 ((rd_T34 l0 x6_2).f1) x7_3).f0))).setCell ⟨go46, ((ji32) : Int).toNat * 5 + 1, none⟩ (.int .i64 ((rd_T29 ((rd_T34 l0 x6_2).f1) x7_3).f1))).setCell ⟨go46, ((ji32) : Int).toNat * 5 + 2, none⟩ (.int .i64 ((rd_T29 ((rd_T34 l0 x6_2).f1) x7_3).f2))).setCell ⟨go46, ((ji32) : Int).toNat * 5 + 3, none⟩ (.int .i64 ((rd_T29 ((rd_T34 l0 x6_2).f1) x7_3).f3))).setCell ⟨go46, ((ji32) : Int).toNat * 5 + 4, none⟩ (.bool true))) ?hg ?ho ?hn ?hr ?_; (case ho => rfl); (case hg => rfl); (case hn => rfl); (case hr => first | (go_simp; done) | (go_simp; rfl)); intro w49 hw; have hg : wr.grownBy w49 (some go46) := (by rw [hw]; exact HP48.2); have hp_ : Kd.R k179 179 w49 w.heap.size (fun _ => True) (.slice (some ⟨go46, 0, none⟩) x5_3.length co47) y123 := (by rw [hw, Ny123.out]; exact HP48.1); clear HP48; have n0_ := Aside0.mk (hp_); have n1_ := Aside0.mk (blk_grown (g := gb101) (o := .cells #[.slice none 0 0, .int .i64 x102001_3] 176 (0, 0)) (by (with_reducible repeat (first | refine blk_drewN ?_ _ | refine blk_drew ?_ | refine blk_alloc ?_ _)); exact BK101.out) hg (Kd.R_ne HO_5.out BK101.out (by decide))); have n2_ := Aside0.mk ((by rw [hw]; exact below_set (below_set (below_set (below_set (below_set (HB.out) GB46.out) GB46.out) GB46.out) GB46.out) GB46.out : Below w.heap.size w w49)); clear HO_5; clear BK101; clear HB; have HO_5 := n0_; have BK101 := n1_; have HB := n2_; clear n0_ n1_ n2_; clear hg hw hp_)))
                  go_roundg k3
                  case measure => have := HK1.out; have := HK2.out; have := HK3.out; omega
                  case rel => exact ⟨(y123), (wrap64 (x7_3 + 1)), (x102001_3), (by first | rfl | (simp; done) | (simp [*]; done)), H', ⟨by have := HK1.out; have := HK2.out; have := HK3.out; omega⟩, ⟨by (with_reducible repeat (first | apply Kd.R_alloc | apply Kd.R_drewN | apply Kd.R_drew)); exact HO_5.out⟩, ⟨by (with_reducible repeat (first | refine blk_drewN ?_ _ | refine blk_drew ?_ | refine blk_alloc ?_ _)); exact BK101.out⟩, ⟨by repeat (first | (with_reducible first | exact HB.out | apply below_alloc | apply pw_below_drewN | apply below_drew1 | refine below_set ?_ GE101.out) | exact HB.out)⟩⟩
                 ·rw [if_neg c45] at H
                  exact absurd H (by simp)
               ·rw [if_neg c34] at H
                exact absurd H (by simp)
              ·rw [if_neg c33] at H
               exact absurd H (by simp)
             ·rw [if_neg c31] at H
              have c31b0 : decide (x7_3 < (((rd_T34 l0 x6_2).f1).length : Int)) = false := decide_eq_false c31
              clear c31
              have H' := Aside0.mk H
              clear H
              have p112 : 0 ≤ (x6_2 : Int) := of_decide_eq_true (by first | (with_reducible assumption) | assumption)
              have q112 : x6_2 < (l0.length : Int) := of_decide_eq_true (by first | (with_reducible assumption) | assumption)
              obtain ⟨ad112, A112_1, c112_1, e112, hx112_0, hx112_1, hl112_1, hi112_1⟩ := at_T34 HR0.out x6_2 p112 q112
              cases e112
              replace hx112_0 := (HB.out.cell (World.block_lt_of_cell? w _ hx112_0)).trans hx112_0
              replace hx112_1 := (HB.out.cell (World.block_lt_of_cell? w _ hx112_1)).trans hx112_1
              have HR112_1 := Aside0.mk hi112_1
              have HC112_1 := Aside0.mk hl112_1
              clear hi112_1 hl112_1
              replace p112 := eq_true p112
              replace q112 := eq_true q112
              go_wp2
              repeat (go_quiet (fail); try go_wp2)
              go_roundg k3
              case measure => have := HK1.out; have := HK2.out; have := HK3.out; omega
              case rel => exact ⟨(x5_3), (wrap64 (x6_2 + 1)), (x102001_3), (by first | rfl | (simp; done) | (simp [*]; done)), H', ⟨by have := HK1.out; have := HK2.out; have := HK3.out; omega⟩, ⟨by (with_reducible repeat (first | apply Kd.R_alloc | apply Kd.R_drewN | apply Kd.R_drew)); exact HO_5.out⟩, ⟨by (with_reducible repeat (first | refine blk_drewN ?_ _ | refine blk_drew ?_ | refine blk_alloc ?_ _)); exact BK101.out⟩, ⟨by repeat (first | (with_reducible first | exact HB.out | apply below_alloc | apply pw_below_drewN | apply below_drew1 | refine below_set ?_ GE101.out) | exact HB.out)⟩⟩
            ·rw [if_neg c30] at H
             exact absurd H (by simp)
           ·rw [if_neg c29] at H
            exact absurd H (by simp)
        ·rw [if_neg c28] at H
         have c28b0 : decide (x6_2 < (l0.length : Int)) = false := decide_eq_false c28
         clear c28
         have H' := Aside0.mk H
         clear H
         go_wp2
         repeat (go_quiet (fail); try go_wp2)
         go_loopg [9, 10] k2 (fun kq v9 v10 w' => ∃ (x9_3 : Int) (x10_3 : Int) (x102001_3 : Int), v9 = .int .i64 x9_3 ∧ v10 = .int .i64 x10_3 ∧ Aside0 (calxref08_slots.l3 kq x5_2 x9_3 x10_3 = some (r1, r2)) ∧ Aside0 (kq ≤ k2) ∧ Aside0 (Kd.R k179 179 w' w.heap.size (fun _ => True) v110 x5_2) ∧ Aside0 (w'.heap[gb101]? = some (.cells #[(.slice none 0 0), .int .i64 x102001_3] 176 (0, 0))) ∧ Aside0 (Below w.heap.size w w'))
         case atStart => exact ⟨(0), (0), (x102001_2), (by first | rfl | (simp; done) | (simp [*]; done)), (by first | rfl | (simp; done) | (simp [*]; done)), H', ⟨Nat.le_refl _⟩, ⟨by (with_reducible repeat (first | apply Kd.R_alloc | apply Kd.R_drewN | apply Kd.R_drew)); exact HO_5.out⟩, ⟨by (with_reducible repeat (first | refine blk_drewN ?_ _ | refine blk_drew ?_ | refine blk_alloc ?_ _)); exact BK101.out⟩, ⟨by repeat (first | (with_reducible first | exact HB.out | apply below_alloc | apply pw_below_drewN | apply below_drew1 | refine below_set ?_ GE101.out) | exact HB.out)⟩⟩
         case round =>
          clear H'
          obtain ⟨x9_3, x10_3, x102001_3, rfl, rfl, HA, HK3, HO_5, BK101, HB⟩ := hrel
          cases gk with
          | zero => exact absurd HA.out (by simp [calxref08_slots.l3])
          | succ k3 =>
           have H := HA.out
           clear HA
           simp only [calxref08_slots.l3] at H
           by_cases c50 : x10_3 < (x5_2.length : Int)
           ·rw [if_pos c50] at H
            have c50b0 : decide (x10_3 < (x5_2.length : Int)) = true := decide_eq_true c50
            clear c50
            have HC51 := Aside0.mk H
            clear H
            obtain ⟨Ao52, co52, eo52⟩ := Kd.R_slice HO_5.out
            subst eo52
            go_upto_region 24 with (fail)
            repeat (go_quiet (fail); go_upto_region 24 with (fail))
            go_cut [149] (fun v149 wc => ∃ (kq : Nat) (x149_50 : Bool), v149 = .bool x149_50 ∧ Aside0 (calxref08_slots.j4 kq x5_2 x9_3 x10_3 x149_50 = some (r1, r2)) ∧ Aside0 (kq ≤ k3) ∧ Aside0 (Kd.R k179 179 wc w.heap.size (fun _ => True) (.slice Ao52 x5_2.length co52) x5_2) ∧ Aside0 (wc.heap[gb101]? = some (.cells #[(.slice none 0 0), .int .i64 x102001_3] 176 (0, 0))) ∧ Aside0 (Below w.heap.size w wc))
            case first =>
             have H := HC51.out
             clear HC51
             by_cases c53 : 0 ≤ x10_3
             ·rw [if_pos c53] at H
              have c53b0 : decide (0 ≤ x10_3) = true := decide_eq_true c53
              clear c53
              (first | rw [c53b0] | (simp only [i64_w, i32_w]; rw [c53b0]) | skip)
              obtain ⟨bq54, hbq54⟩ : ∃ b_ : Bool, b_ = ((rd_T179 x5_2 x10_3).f1) := ⟨_, rfl⟩
              replace H : (if bq54 = true then (calxref08_slots.j4 k3 x5_2 x9_3 x10_3 (decide (((rd_T179 x5_2 x10_3).f0.f0) < x9_3))) else (calxref08_slots.j4 k3 x5_2 x9_3 x10_3 false)) = some (r1, r2) := by rw [← hbq54] at H; exact H
              have Nbq54 := Aside0.mk hbq54
              clear hbq54
              by_cases c55 : bq54 = true
              ·subst c55
               rw [if_pos rfl] at H
               have H' := Aside0.mk H
               clear H
               have p124 : 0 ≤ (x10_3 : Int) := of_decide_eq_true (by first | (with_reducible assumption) | assumption)
               have q124 : x10_3 < (x5_2.length : Int) := of_decide_eq_true (by first | (with_reducible assumption) | assumption)
               obtain ⟨ad124, e124, hx124_0, hx124_1, hx124_2, hx124_3, hx124_4⟩ := at_T179 (Kd.R_reads' HO_5.out).2.2 x10_3 p124 q124
               (try rw [← Nbq54.out] at hx124_4)
               cases e124
               replace p124 := eq_true p124
               replace q124 := eq_true q124
               have p125 : 0 ≤ (x10_3 : Int) := of_decide_eq_true (by first | (with_reducible assumption) | assumption)
               have q125 : x10_3 < (x5_2.length : Int) := of_decide_eq_true (by first | (with_reducible assumption) | assumption)
               obtain ⟨ad125, e125, hx125_0, hx125_1, hx125_2, hx125_3, hx125_4⟩ := at_T179 (Kd.R_reads' HO_5.out).2.2 x10_3 p125 q125
               (try rw [← Nbq54.out] at hx125_4)
               obtain rfl : ad124 = ad125 := (by injection e125)
               replace p125 := eq_true p125
               replace q125 := eq_true q125
               go_wp2
               repeat (go_quiet (fail); try go_wp2)
               go_meet
               case rel => exact ⟨_, (decide (((rd_T179 x5_2 x10_3).f0.f0) < x9_3)), (by first | rfl | (simp; done) | (simp [*]; done)), H', ⟨by have := HK1.out; have := HK2.out; have := HK3.out; first | omega | exact Nat.le_refl _⟩, ⟨by (with_reducible repeat (first | apply Kd.R_alloc | apply Kd.R_drewN | apply Kd.R_drew)); exact HO_5.out⟩, ⟨by (with_reducible repeat (first | refine blk_drewN ?_ _ | refine blk_drew ?_ | refine blk_alloc ?_ _)); exact BK101.out⟩, ⟨by repeat (first | (with_reducible first | exact HB.out | apply below_alloc | apply pw_below_drewN | apply below_drew1 | refine below_set ?_ GE101.out) | exact HB.out)⟩⟩
              ·replace c55 := Bool.eq_false_iff.mpr c55
               subst c55
               rw [if_neg (show ¬ (false = true) by decide)] at H
               have H' := Aside0.mk H
               clear H
               have p124 : 0 ≤ (x10_3 : Int) := of_decide_eq_true (by first | (with_reducible assumption) | assumption)
               have q124 : x10_3 < (x5_2.length : Int) := of_decide_eq_true (by first | (with_reducible assumption) | assumption)
               obtain ⟨ad124, e124, hx124_0, hx124_1, hx124_2, hx124_3, hx124_4⟩ := at_T179 (Kd.R_reads' HO_5.out).2.2 x10_3 p124 q124
               (try rw [← Nbq54.out] at hx124_4)
               cases e124
               replace p124 := eq_true p124
               replace q124 := eq_true q124
               go_wp2
               repeat (go_quiet (fail); try go_wp2)
               go_meet
               case rel => exact ⟨_, (false), (by first | rfl | (simp; done) | (simp [*]; done)), H', ⟨by have := HK1.out; have := HK2.out; have := HK3.out; first | omega | exact Nat.le_refl _⟩, ⟨by (with_reducible repeat (first | apply Kd.R_alloc | apply Kd.R_drewN | apply Kd.R_drew)); exact HO_5.out⟩, ⟨by (with_reducible repeat (first | refine blk_drewN ?_ _ | refine blk_drew ?_ | refine blk_alloc ?_ _)); exact BK101.out⟩, ⟨by repeat (first | (with_reducible first | exact HB.out | apply below_alloc | apply pw_below_drewN | apply below_drew1 | refine below_set ?_ GE101.out) | exact HB.out)⟩⟩
             ·rw [if_neg c53] at H
              exact absurd H (by simp)
            case rest =>
             clear HC51
             obtain ⟨kq, x149_50, rfl, HA, HJ50, HO_5, BK101, HB⟩ := hcut
             cases kq with
             | zero => exact absurd HA.out (by simp [calxref08_slots.j4])
             | succ kj50 =>
              have H := HA.out
              clear HA
              simp only [calxref08_slots.j4] at H
              by_cases c56 : x149_50 = true
              ·subst c56
               rw [if_pos rfl] at H
               simp only [Option.some.injEq, Prod.mk.injEq] at H
               obtain ⟨rfl, rfl⟩ := H
               have hcz57_0 : wc.cell? ⟨gb101, 0, none⟩ = some (.slice none 0 0) := (blk_cell BK101.out 0).trans rfl
               have hcz57_1 : wc.cell? ⟨gb101, 1, none⟩ = some (.int .i64 x102001_3) := (blk_cell BK101.out 1).trans rfl
               have hfz57_0 := blk_frozen BK101.out 0
               have hfz57_1 := blk_frozen BK101.out 1
               go_wp2
               repeat (go_quiet (fail); try go_wp2)
               refine bodyPost_ret (results_cell_row rfl _ _ gb101 176 #[.slice none 0 0, .int .i64 9] (0, 0) _ rfl (by (with_reducible repeat (first | refine blk_drewN ?_ _ | refine blk_drew ?_ | refine blk_alloc ?_ _)); refine blk_put (cs := #[.slice none 0 0, .int .i64 x102001_3]) ?_ 1 _ rfl; (with_reducible repeat (first | refine blk_drewN ?_ _ | refine blk_drew ?_ | refine blk_alloc ?_ _)); refine blk_put (cs := #[.slice none 0 0, .int .i64 x102001_3]) ?_ 0 _ rfl; (with_reducible repeat (first | refine blk_drewN ?_ _ | refine blk_drew ?_ | refine blk_alloc ?_ _)); exact BK101.out) Try.underlying176 rfl (by kernel_rfl)) rfl ?_
               exact ⟨_, by first | rfl | (simp [errW_none, errW_some] <;> rfl) | (simp [*, errW_none, errW_some] <;> rfl), by first | exact Kd.R_nil _ _ _ _ _ | exact Kd.N_nil _ _ _ _ _ | exact Kd.V_nil _ _ _ _ _ | exact Kd.Q_nil _ _ _ _ _ | exact Kd.S_nil _ _ _ _ _, by repeat (first | (with_reducible first | exact HB.out | apply below_alloc | apply pw_below_drewN | apply below_drew1 | refine below_set ?_ GE101.out) | exact HB.out)⟩
              ·replace c56 := Bool.eq_false_iff.mpr c56
               subst c56
               rw [if_neg (show ¬ (false = true) by decide)] at H
               by_cases c58 : 0 ≤ x10_3
               ·rw [if_pos c58] at H
                have c58b0 : decide (0 ≤ x10_3) = true := decide_eq_true c58
                clear c58
                by_cases c59 : x10_3 < (x5_2.length : Int)
                ·rw [if_pos c59] at H
                 have c59b0 : decide (x10_3 < (x5_2.length : Int)) = true := decide_eq_true c59
                 clear c59
                 obtain ⟨bq60, hbq60⟩ : ∃ b_ : Bool, b_ = ((rd_T179 x5_2 x10_3).f1) := ⟨_, rfl⟩
                 replace H : (if bq60 = true then (calxref08_slots.l3 kj50 x5_2 ((rd_T179 x5_2 x10_3).f0.f0) (wrap64 (x10_3 + 1))) else (calxref08_slots.l3 kj50 x5_2 x9_3 (wrap64 (x10_3 + 1)))) = some (r1, r2) := by rw [← hbq60] at H; exact H
                 have Nbq60 := Aside0.mk hbq60
                 clear hbq60
                 by_cases c61 : bq60 = true
                 ·subst c61
                  rw [if_pos rfl] at H
                  have H' := Aside0.mk H
                  clear H
                  have p126 : 0 ≤ (x10_3 : Int) := of_decide_eq_true (by first | (with_reducible assumption) | assumption)
                  have q126 : x10_3 < (x5_2.length : Int) := of_decide_eq_true (by first | (with_reducible assumption) | assumption)
                  obtain ⟨ad126, e126, hx126_0, hx126_1, hx126_2, hx126_3, hx126_4⟩ := at_T179 (Kd.R_reads' HO_5.out).2.2 x10_3 p126 q126
                  (try rw [← Nbq60.out] at hx126_4)
                  cases e126
                  replace p126 := eq_true p126
                  replace q126 := eq_true q126
                  have p127 : 0 ≤ (x10_3 : Int) := of_decide_eq_true (by first | (with_reducible assumption) | assumption)
                  have q127 : x10_3 < (x5_2.length : Int) := of_decide_eq_true (by first | (with_reducible assumption) | assumption)
                  obtain ⟨ad127, e127, hx127_0, hx127_1, hx127_2, hx127_3, hx127_4⟩ := at_T179 (Kd.R_reads' HO_5.out).2.2 x10_3 p127 q127
                  (try rw [← Nbq60.out] at hx127_4)
                  obtain rfl : ad126 = ad127 := (by injection e127)
                  replace p127 := eq_true p127
                  replace q127 := eq_true q127
                  go_wp2
                  repeat (go_quiet (fail); try go_wp2)
                  go_roundg kj50
                  case measure => have := HK1.out; have := HK2.out; have := HK3.out; have := HJ50.out; omega
                  case rel => exact ⟨((rd_T179 x5_2 x10_3).f0.f0), (wrap64 (x10_3 + 1)), (x102001_3), (by first | rfl | (simp; done) | (simp [*]; done)), (by first | rfl | (simp; done) | (simp [*]; done)), H', ⟨by have := HK1.out; have := HK2.out; have := HK3.out; have := HJ50.out; omega⟩, ⟨by (with_reducible repeat (first | apply Kd.R_alloc | apply Kd.R_drewN | apply Kd.R_drew)); exact HO_5.out⟩, ⟨by (with_reducible repeat (first | refine blk_drewN ?_ _ | refine blk_drew ?_ | refine blk_alloc ?_ _)); exact BK101.out⟩, ⟨by repeat (first | (with_reducible first | exact HB.out | apply below_alloc | apply pw_below_drewN | apply below_drew1 | refine below_set ?_ GE101.out) | exact HB.out)⟩⟩
                 ·replace c61 := Bool.eq_false_iff.mpr c61
                  subst c61
                  rw [if_neg (show ¬ (false = true) by decide)] at H
                  have H' := Aside0.mk H
                  clear H
                  have p126 : 0 ≤ (x10_3 : Int) := of_decide_eq_true (by first | (with_reducible assumption) | assumption)
                  have q126 : x10_3 < (x5_2.length : Int) := of_decide_eq_true (by first | (with_reducible assumption) | assumption)
                  obtain ⟨ad126, e126, hx126_0, hx126_1, hx126_2, hx126_3, hx126_4⟩ := at_T179 (Kd.R_reads' HO_5.out).2.2 x10_3 p126 q126
                  (try rw [← Nbq60.out] at hx126_4)
                  cases e126
                  replace p126 := eq_true p126
                  replace q126 := eq_true q126
                  go_wp2
                  repeat (go_quiet (fail); try go_wp2)
                  go_roundg kj50
                  case measure => have := HK1.out; have := HK2.out; have := HK3.out; have := HJ50.out; omega
                  case rel => exact ⟨(x9_3), (wrap64 (x10_3 + 1)), (x102001_3), (by first | rfl | (simp; done) | (simp [*]; done)), (by first | rfl | (simp; done) | (simp [*]; done)), H', ⟨by have := HK1.out; have := HK2.out; have := HK3.out; have := HJ50.out; omega⟩, ⟨by (with_reducible repeat (first | apply Kd.R_alloc | apply Kd.R_drewN | apply Kd.R_drew)); exact HO_5.out⟩, ⟨by (with_reducible repeat (first | refine blk_drewN ?_ _ | refine blk_drew ?_ | refine blk_alloc ?_ _)); exact BK101.out⟩, ⟨by repeat (first | (with_reducible first | exact HB.out | apply below_alloc | apply pw_below_drewN | apply below_drew1 | refine below_set ?_ GE101.out) | exact HB.out)⟩⟩
                ·rw [if_neg c59] at H
                 exact absurd H (by simp)
               ·rw [if_neg c58] at H
                exact absurd H (by simp)
           ·rw [if_neg c50] at H
            have c50b0 : decide (x10_3 < (x5_2.length : Int)) = false := decide_eq_false c50
            clear c50
            simp only [Option.some.injEq, Prod.mk.injEq] at H
            obtain ⟨rfl, rfl⟩ := H
            obtain ⟨Ao62, co62, eo62⟩ := Kd.R_slice HO_5.out
            subst eo62
            have hcz63_0 : wr.cell? ⟨gb101, 0, none⟩ = some (.slice none 0 0) := (blk_cell BK101.out 0).trans rfl
            have hcz63_1 : wr.cell? ⟨gb101, 1, none⟩ = some (.int .i64 x102001_3) := (blk_cell BK101.out 1).trans rfl
            have hfz63_0 := blk_frozen BK101.out 0
            have hfz63_1 := blk_frozen BK101.out 1
            go_wp2
            repeat (go_quiet (fail); try go_wp2)
            refine bodyPost_ret (results_cell_row rfl _ _ gb101 176 #[.slice Ao62 x5_2.length co62, .int .i64 0] (0, 0) _ rfl (by (with_reducible repeat (first | refine blk_drewN ?_ _ | refine blk_drew ?_ | refine blk_alloc ?_ _)); refine blk_put (cs := #[.slice Ao62 x5_2.length co62, .int .i64 x102001_3]) ?_ 1 _ rfl; (with_reducible repeat (first | refine blk_drewN ?_ _ | refine blk_drew ?_ | refine blk_alloc ?_ _)); refine blk_put (cs := #[.slice none 0 0, .int .i64 x102001_3]) ?_ 0 _ rfl; (with_reducible repeat (first | refine blk_drewN ?_ _ | refine blk_drew ?_ | refine blk_alloc ?_ _)); exact BK101.out) Try.underlying176 rfl (by kernel_rfl)) rfl ?_
            exact ⟨_, by first | rfl | (simp [errW_none, errW_some] <;> rfl) | (simp [*, errW_none, errW_some] <;> rfl), by (with_reducible repeat (first | apply Kd.R_alloc | apply Kd.R_drewN | apply Kd.R_drew)); exact Kd.R_mono (Kd.R_far (p := ⟨gb101, 1, none⟩) (Kd.R_far (p := ⟨gb101, 0, none⟩) (Kd.R_types HO_5.out BK101.out (by decide)) (fun _ hk => hk.2) (.slice Ao62 x5_2.length co62)) (fun _ hk => hk.2) (.int .i64 0)) (fun _ hk => trivial), by repeat (first | (with_reducible first | exact HB.out | apply below_alloc | apply pw_below_drewN | apply below_drew1 | refine below_set ?_ GE101.out) | exact HB.out)⟩
     ·rw [if_neg c25] at H
      exact absurd H (by simp)
end
end Go.Proofs.Ytmfphlfakmnbmaa.B
end
