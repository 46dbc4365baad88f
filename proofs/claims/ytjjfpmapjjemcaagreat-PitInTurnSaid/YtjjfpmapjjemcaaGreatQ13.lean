import Derived.Test.YtjjfpmapjjemcaaGreatQ11
import Derived.Test.YtjjfpmapjjemcaaGreatQ6
set_option linter.unusedVariables false
set_option linter.unusedSimpArgs false
section
namespace Go.Proofs.YtjjfpmapjjemcaaGreat.B
open Go.RowKit Go.Proofs.YtjjfpmapjjemcaaGreatW.PrintWords Go.Proofs.YtjjfpmapjjemcaaGreatW.PrintLast Go.Proofs.YtjjfpmapjjemcaaGreatW.PrintMore
attribute [local go_sem] max2_int min2_int max_two min_two max_three min_three max_four min_four
def isId (id : Int) (b : S167) : Bool:=decide (b.f0 = id)
def FindPost (W : World) (L : Loc) (Y : Yd) (id : Int) (e : Ending) (W' : World) : Prop :=
 Below W.heap.size W W' ∧ ((Y.barrows.any (isId id) = false ∧ e = .returned (.tuple #[.agg #[ii 0,ii 0,ii 0,.slice none 0 0],.bool false])) ∨
  ∃ (b : S167) (A3 : Option Addr) (c3 : Nat),Y.barrows.find? (isId id) = some b ∧ e = .returned (.tuple #[.agg #[ii b.f0,ii b.f1,ii b.f2,.slice A3 b.f3.length c3],.bool true]) ∧ b.f3.length ≤ c3 ∧ Kd.F k89 W' L.Not A3 b.f3.length b.f3)
theorem find_at {α : Type} {p : α → Bool} {l : List α} (z : α) (h : l.any p = true) : l.find? p = some (l.getD (idxP p l).toNat z):=by
 unfold idxP
 rw [if_pos h,Int.toNat_natCast,List.getD_eq_getElem?_getD]
 induction l with
|nil => simp at h
|cons x r ih =>
  rw [List.find?_cons,List.findIdx_cons]
  cases hx : p x with
 |true => simp
 |false =>
   rw [List.any_cons,hx,Bool.false_or] at h
   simp [ih h]
set_option maxRecDepth 100000 in
set_option maxHeartbeats 2000000 in
theorem find_calls {W : World} {base n : Nat} {L : Loc} {Y : Yd} (hY : YardAt W base L Y) (hw : Wf n Y) (hn : n ≤ 60) (id : Int) :
  Calls Tryz.prog 152 #[.pointer (some ⟨L.g,0,none⟩),ii id] W fun e W' => FindPost W L Y id e W':=by
 have hmf : ∀ (fn : Fn) (first cap : Array Value) (w : World),(Instr.makeFunc fn first cap).run Tryz.prog w = .ok (.func fn first cap) w:=fun _ _ _ _ => rfl
 have hu:=Tryz.underlying167
 obtain ⟨Ab,cb,hb,hlb,hCb⟩:=Kd.R_reads hY.barrows
 have hCb' : Kd.C k167 W Ab Y.barrows.length Y.barrows:=hCb.imp_ (Below.refl _ _) fun _ _ hp => Foot.now hp
 have hB:=hY.blk
 rw [hb] at hB
 have hm:=hCb.2.1
 have hb1 : Below W.heap.size W ((W.alloc (.cells #[ii id] 3)).alloc (.cells #[ii 0,ii 0,ii 0,.slice none 0 0] 167)):=below_alloc (below_alloc (Below.refl _ _) _) _
 have BG:=am (blk_below hB hb1)
 have BK:=am (blk_alloc (blk_new W (.cells #[ii id] 3)) (.cells #[ii 0,ii 0,ii 0,.slice none 0 0] 167))
 have BR:=am (blk_new' (W.alloc (.cells #[ii id] 3)) (.cells #[ii 0,ii 0,ii 0,.slice none 0 0] 167) (W.heap.size + 1) (by simp))
 have HC1:=am (Kd.C_below hCb' hb1)
 have HCF:=am hCb
 have HLb:=am hlb
 have HB1:=am hb1
 have g4:=bd BG.out 4
 clear hb hlb hCb hCb' hB hb1 hY hw
 go_enter Tryz.func152,Tryz.ntmps152
 go_wp2_with fail
 refine (idx207_calls Ab cb Y.barrows (isId id) 208 _ (fun w => w.heap[W.heap.size]? = some (.cells #[ii id] 3 (0,0))) _ HC1.out HLb.out (fun args w => by kernel_rfl) BK.out (fun w w' h hb => blk_below h hb) (fun x A3 c3 w _ h => cl208_calls _ id x A3 c3 w h)).mono ?_
 rintro e w1 ⟨rfl,hd⟩
 have HD:=am (below_then HB1.out (below_size HB1.out) hd)
 have BG1:=am (blk_below BG.out hd)
 have BR1:=am (blk_below BR.out hd)
 clear hd g4
 have u0:=bd BR1.out 0
 have u1:=bd BR1.out 1
 have u2:=bd BR1.out 2
 have u3:=bd BR1.out 3
 have f0:=blk_frozen BR1.out 0
 have f1:=blk_frozen BR1.out 1
 have f2:=blk_frozen BR1.out 2
 have f3:=blk_frozen BR1.out 3
 cases ha : Y.barrows.any (isId id) with
|false =>
  have HA:=am ha
  clear ha
  rw [show idxP (isId id) Y.barrows = -1 by unfold idxP;rw [if_neg (by rw [HA.out];simp)]]
  go_wp2
  have bz:=blk_put (cs':=#[ii 0,ii 0,ii 0,.slice none 0 0]) (blk_put (cs':=#[ii 0,ii 0,ii 0,.slice none 0 0]) (blk_put (cs':=#[ii 0,ii 0,ii 0,.slice none 0 0]) (blk_put (cs':=#[ii 0,ii 0,ii 0,.slice none 0 0]) BR1.out 0 (ii 0) rfl) 1 (ii 0) rfl) 2 (ii 0) rfl) 3 (.slice none 0 0) rfl
  have hbb:=(((HD.out.setCell (p:=⟨W.heap.size + 1,0,none⟩) (Nat.le_succ _) (ii 0)).setCell (p:=⟨W.heap.size + 1,1,none⟩) (Nat.le_succ _) (ii 0)).setCell (p:=⟨W.heap.size + 1,2,none⟩) (Nat.le_succ _) (ii 0)).setCell (p:=⟨W.heap.size + 1,3,none⟩) (Nat.le_succ _) (.slice none 0 0)
  have z0:=bd bz 0
  have z1:=bd bz 1
  have z2:=bd bz 2
  have z3:=bd bz 3
  exact bodyPost_ret (v:=.tuple #[.agg #[ii 0,ii 0,ii 0,.slice none 0 0],.bool false]) (by simp [results,Tryz.results152,go_sem,z0,z1,z2,z3,hu]) rfl ⟨hbb,.inl ⟨HA.out,rfl⟩⟩
|true =>
  have HA:=am ha
  obtain ⟨hi0,hi1,_⟩:=idxP_lt ha
  clear ha
  have HF:=am (find_at z167 HA.out)
  obtain ⟨j,hj⟩ : ∃ j,j = idxP (isId id) Y.barrows:=⟨_,rfl⟩
  rw [← hj] at hi0 hi1 HF ⊢
  obtain ⟨ad,cs,e,_,hK,hcc⟩:=Kd.C_get HCF.out z167 j hi0 hi1
  cases e
  obtain ⟨b,hb⟩ : ∃ b,b = Y.barrows.getD j.toNat z167:=⟨_,rfl⟩
  rw [← hb] at hK HF
  obtain ⟨A3,c3,rfl,hl3,hF3⟩:=k167_openF hK
  have hx0 : w1.cell? (ad.add (j.toNat * 4)) = some (ii b.f0):=pw_cell_below HD.out (hcc 0 _ rfl)
  have hx1 : w1.cell? ⟨(ad.add (j.toNat * 4)).block,(ad.add (j.toNat * 4)).off + 1,none⟩ = some (ii b.f1):=by rw [← add_field _ _ 1 (by omega)];exact pw_cell_below HD.out (hcc 1 _ rfl)
  have hx2 : w1.cell? ⟨(ad.add (j.toNat * 4)).block,(ad.add (j.toNat * 4)).off + 2,none⟩ = some (ii b.f2):=by rw [← add_field _ _ 2 (by omega)];exact pw_cell_below HD.out (hcc 2 _ rfl)
  have hx3 : w1.cell? ⟨(ad.add (j.toNat * 4)).block,(ad.add (j.toNat * 4)).off + 3,none⟩ = some (.slice A3 b.f3.length c3):=by rw [← add_field _ _ 3 (by omega)];exact pw_cell_below HD.out (hcc 3 _ rfl)
  have HF3:=am hF3
  have HL3:=am hl3
  have HJ:=am hj
  clear hj hb hK hcc hF3 hl3
  have g4:=bd BG1.out 4
  go_wp2
  have bz:=blk_put (cs':=#[ii b.f0,ii b.f1,ii b.f2,.slice A3 b.f3.length c3]) (blk_put (cs':=#[ii b.f0,ii b.f1,ii b.f2,.slice none 0 0]) (blk_put (cs':=#[ii b.f0,ii b.f1,ii 0,.slice none 0 0]) (blk_put (cs':=#[ii b.f0,ii 0,ii 0,.slice none 0 0]) BR1.out 0 (ii b.f0) rfl) 1 (ii b.f1) rfl) 2 (ii b.f2) rfl) 3 (.slice A3 b.f3.length c3) rfl
  have hbb:=(((HD.out.setCell (p:=⟨W.heap.size + 1,0,none⟩) (Nat.le_succ _) (ii b.f0)).setCell (p:=⟨W.heap.size + 1,1,none⟩) (Nat.le_succ _) (ii b.f1)).setCell (p:=⟨W.heap.size + 1,2,none⟩) (Nat.le_succ _) (ii b.f2)).setCell (p:=⟨W.heap.size + 1,3,none⟩) (Nat.le_succ _) (.slice A3 b.f3.length c3)
  have z0:=bd bz 0
  have z1:=bd bz 1
  have z2:=bd bz 2
  have z3:=bd bz 3
  exact bodyPost_ret (v:=.tuple #[.agg #[ii b.f0,ii b.f1,ii b.f2,.slice A3 b.f3.length c3],.bool true]) (by simp [results,Tryz.results152,go_sem,z0,z1,z2,z3,hu]) rfl ⟨hbb,.inr ⟨b,A3,c3,HF.out,rfl,HL3.out,Foot_fr HF3.out (Fr.of_below L hbb)⟩⟩
end Go.Proofs.YtjjfpmapjjemcaaGreat.B
end
