import Derived.Recover
import Derived.Defers
import Derived.Test.YtjjfpmapjjemcaaGreatQ11
import Derived.Test.YtjjfpmapjjemcaaGreatQ12
import Derived.Test.YtjjfpmapjjemcaaGreatQ6
set_option linter.unusedVariables false
set_option linter.unusedSimpArgs false
section
namespace Go.Proofs.YtjjfpmapjjemcaaGreat.B
open Go.RowKit Go.Proofs.YtjjfpmapjjemcaaGreatW.PrintWords Go.Proofs.YtjjfpmapjjemcaaGreatW.PrintLast Go.Proofs.YtjjfpmapjjemcaaGreatW.PrintMore
attribute [local go_sem] max2_int min2_int max_two min_two max_three min_three max_four min_four
theorem YardAt.set_pours {W w7 : World} {base : Nat} {L : Loc} {Y : Yd} (h : YardAt W base L Y) {v1 v2 : Value} {ps ds : List Int} (hsz : W.heap.size ≤ w7.heap.size) (far0 : ∀ k,k < W.heap.size → some k ≠ L.vo.ownBlock → some k ≠ L.vd.ownBlock → w7.heap[k]? = W.heap[k]?)
  (r1 : (Kd.int .i64).R 3 w7 base (fun _ => True) v1 ps) (r2 : (Kd.int .i64).R 3 w7 base (fun _ => True) v2 ds) (a1 : v1.ownBlock = L.vo.ownBlock ∨ ∃ b,v1.ownBlock = some b ∧ W.heap.size ≤ b) (a2 : v2.ownBlock = L.vd.ownBlock ∨ ∃ b,v2.ownBlock = some b ∧ W.heap.size ≤ b) (ap : NeRow v1 v2) :
  YardAt ((w7.setCell ⟨L.g,2,none⟩ v1).setCell ⟨L.g,3,none⟩ v2) base { L with vo:=v1,vd:=v2 } { Y with pours:=ps,days:=ds } ∧ Fr W L ((w7.setCell ⟨L.g,2,none⟩ v1).setCell ⟨L.g,3,none⟩ v2) { L with vo:=v1,vd:=v2 } ∧
   w7.cell? ⟨L.g,2,none⟩ = some L.vo ∧ w7.frozen? ⟨L.g,2,none⟩ = false ∧ (w7.setCell ⟨L.g,2,none⟩ v1).cell? ⟨L.g,3,none⟩ = some L.vd ∧ (w7.setCell ⟨L.g,2,none⟩ v1).frozen? ⟨L.g,3,none⟩ = false:=by
 have hgo : some L.g ≠ L.vo.ownBlock:=fun e => R_offg h.pours h.blk (by decide) e.symm
 have hgd : some L.g ≠ L.vd.ownBlock:=fun e => R_offg h.days h.blk (by decide) e.symm
 have hB : w7.heap[L.g]? = _:=(far0 L.g (blk_lt h.blk) hgo hgd).trans h.blk
 have hB2:=blk_put hB 2 v1 rfl
 have far : ∀ k,k < W.heap.size → some k ≠ L.vo.ownBlock → some k ≠ L.vd.ownBlock → k ≠ L.g → ((w7.setCell ⟨L.g,2,none⟩ v1).setCell ⟨L.g,3,none⟩ v2).heap[k]? = W.heap[k]?:=fun k hk h1 h2 h3 =>
  ((Below.heap_setCell _ ⟨L.g,3,none⟩ v2 k h3).trans (Below.heap_setCell w7 ⟨L.g,2,none⟩ v1 k h3)).trans (far0 k hk h1 h2)
 have f : Fr W L ((w7.setCell ⟨L.g,2,none⟩ v1).setCell ⟨L.g,3,none⟩ v2) { L with vo:=v1,vd:=v2 }:=⟨by rw [World.size_setCell,World.size_setCell];exact hsz,fun k hk hn => by
  refine ⟨far k hk (fun e => hn (.inr (.inr (.inl e.symm)))) (fun e => hn (.inr (.inr (.inr (.inl e.symm))))) (fun e => hn (.inl e)),fun hm => ?_⟩
  rcases hm with e|e|e|e|e|e
  ·exact hn (.inl e)
  ·exact hn (.inr (.inl e))
  ·rcases a1 with hat|⟨b,hb,hle⟩
   ·exact hn (.inr (.inr (.inl (hat.symm.trans e))))
   ·have : some b = some k:=hb.symm.trans e
    injection this with this
    omega
  ·rcases a2 with hat|⟨b,hb,hle⟩
   ·exact hn (.inr (.inr (.inr (.inl (hat.symm.trans e)))))
   ·have : some b = some k:=hb.symm.trans e
    injection this with this
    omega
  ·exact hn (.inr (.inr (.inr (.inr (.inl e)))))
  ·exact hn (.inr (.inr (.inr (.inr (.inr e))))),rfl⟩
 have mv : ∀ {α : Type} {d : Kd α} {e : Nat} {v : Value} {xs : List α},d.E = [] → d.R e W base (fun _ => True) v xs → e ≠ 3 → e ≠ 165 → d.R e ((w7.setCell ⟨L.g,2,none⟩ v1).setCell ⟨L.g,3,none⟩ v2) base (fun _ => True) v xs:=fun hE hR n1 n2 =>
  R_own_move hE hR fun k hk => far k (Kd.R_lt hR k hk) (fun e => R_off hR h.pours n1 k hk e.symm) (fun e => R_off hR h.days n1 k hk e.symm) (fun e => R_offg hR h.blk n2 (e ▸ hk))
 have ow : ∀ {v : Value} {xs : List Int},(Kd.int .i64).R 3 w7 base (fun _ => True) v xs → (Kd.int .i64).R 3 ((w7.setCell ⟨L.g,2,none⟩ v1).setCell ⟨L.g,3,none⟩ v2) base (fun _ => True) v xs:=fun hR =>
  R_own_move rfl hR fun k hk => have n : k ≠ L.g:=fun e => R_offg hR hB (by decide) (e ▸ hk);(Below.heap_setCell _ ⟨L.g,3,none⟩ v2 k n).trans (Below.heap_setCell w7 ⟨L.g,2,none⟩ v1 k n)
 refine ⟨{ gbase:=h.gbase,bad:=h.bad,blk:=blk_put hB2 3 v2 rfl,rooms:=Foot_fr h.rooms f,pits:=ft_fr (mv rfl h.pits (by decide) (by decide)) f,pours:=ow r1,days:=ow r2,apart:=ap,barrows:=ft_fr (mv rfl h.barrows (by decide) (by decide)) f,lost:=ft_fr (mv rfl h.lost (by decide) (by decide)) f },f,(blk_cell hB 2).trans rfl,blk_frozen hB 2,(blk_cell hB2 3).trans rfl,blk_frozen hB2 3⟩
theorem R_one (w : World) (i : Int) (base : Nat) (hb : base ≤ w.heap.size) : (Kd.int .i64).R 3 (w.alloc (.cells #[ii i] 3)) base (fun _ => True) (.slice (some ⟨w.heap.size,0,none⟩) 1 1) [i] :=
 ⟨fun _ _ => trivial,OwnRow.lit (ps:=[i]) w base (inner:=[ii i]) ((Reps.none _ _).snoc (show (Kd.int .i64).M _ _ _ i [ii i] from rfl) rfl) hb (by simp)⟩
theorem ft_to {α : Type} {d : Kd α} {W W2 w : World} {e base : Nat} {ok okr ok2 : Nat → Prop} {v : Value} {xs : List α} (h : (ft d W ok).R e w base okr v xs) (hb : Below W.heap.size W W2) (hok : ∀ k,ok k → k < W.heap.size → ok2 k) : (ft d W2 ok2).R e w base okr v xs :=
 ⟨h.1,h.2.imp_ (fun _ _ (hp : Kd.FK d W ok _ _) => (Foot.mono (Foot.old hp hb) (fun k hk => hok k hk.1 hk.2) : Kd.FK d W2 ok2 _ _))⟩
theorem ft_F2 {α : Type} {d : Kd α} {W0 w : World} {e base n c : Nat} {ok ok' ok3 : Nat → Prop} {A : Option Addr} {xs : List α} (h : (ft d W0 ok).R e w base ok' (.slice A n c) xs) (hm : ∀ k,ok k → k < W0.heap.size → w.heap[k]? = W0.heap[k]?) (h3 : ∀ k,ok k → ok3 k) (ho : ∀ k,(Value.slice A n c).ownBlock = some k → ok3 k) : Kd.F d w ok3 A n xs:=fun W' hW => by
 have h1 : (ft d W0 ok).C W' A n xs:=Kd.R_F (Kd.R_tight rfl h) W' (fun k hk hlt => hW k (ho k hk.symm) hlt)
 exact ReadsRow.imp_ h1 (Below.refl W'.heap.size W') (fun x cs (hp : Kd.FK d W0 ok x cs) => hp W' (fun k hk hlt => (hW k (h3 k hk) (heap_lt (hm k hk hlt) hlt)).trans (hm k hk hlt)))
def R221_3.T : Bool × List (List Nat × List Nat):=(true,[([],[]),([],[]),([],[]),([2],[2]),([3],[3]),([4],[4]),([],[]),([6],[6]),([7],[7]),([5,8],[5,8]),([],[]),([10],[10]),([11],[11]),([12],[12]),([],[]),([14],[14]),([15],[15]),([13,16,9],[13,16]),([0,0,2,3,4,5,6,7,8,9,13,17],[0]),([18,0,2,3,4,5,6,7,8,9,13,17],[18]),([19,9,17,0,2,3,4,5,6,7,8,9,13,17],[9,19]),([1,0,1,2,3,4,5,6,7,8,9,10,11,12,13,14,15,16,17,18,19,20],[1]),([21,0,1,2,3,4,5,6,7,8,9,10,11,12,13,14,15,16,17,18,19,20],[21]),([22,17,20,0,1,2,3,4,5,6,7,8,9,10,11,12,13,14,15,16,17,18,19,20],[17,22])])
def R221_3.B : List Nat:=[0,0,0,4,12,28,0,64,192,508,0,1024,3072,7168,0,16384,49152,131068,262141,524285,1048573,2097151,4194303,8388607]
theorem R221_3.tab : rtab .any (opsOf Tryz.f221 3) = R221_3.T:=by kernel_rfl
theorem R221_3.bits : waitsOk R221_3.T.2 R221_3.B = true:=by kernel_rfl
def R221_4.T : Bool × List (List Nat × List Nat):=(true,[([],[]),([0],[0]),([1],[1]),([2],[2]),([],[]),([4],[4]),([],[]),([6],[6]),([7],[7]),([8],[8]),([],[]),([10],[10]),([9,11],[9,11]),([12],[12]),([13],[13]),([],[]),([15],[15]),([],[]),([17],[17]),([],[]),([19],[19]),([20,14],[20]),([18,21],[18,21]),([22],[22]),([16,23],[16,23]),([24],[24]),([14,25,21],[14,25]),([3,5,0,1,2,3,4,5,6,7,8,9,10,11,12,13,14,15,16,17,18,19,20,21,22,23,24,25,26],[3,5]),([27,26,26,0,1,2,3,4,5,6,7,8,9,10,11,12,13,14,15,16,17,18,19,20,21,22,23,24,25,26],[26,27])])
def R221_4.B : List Nat:=[0,1,3,7,0,16,0,64,192,448,0,1024,4032,8128,16320,0,32768,0,131072,0,524288,1605568,4095936,8290240,16777152,33554368,67108800,134217727,268435455]
theorem R221_4.tab : rtab .any (opsOf Tryz.f221 4) = R221_4.T:=by kernel_rfl
theorem R221_4.bits : waitsOk R221_4.T.2 R221_4.B = true:=by kernel_rfl
theorem pourP_old {Y : Yd} {s : S84} (h : isNew Y s.f0 = false) : pourP Y s = .error 6:=by unfold pourP;rw [if_neg (by rw [h];simp)]
theorem pourP_full {Y : Yd} {s : S84} (h : isNew Y s.f0 = true) (h2 : ¬ heldP (pitP Y s.f3) + s.f5 ≤ roomP Y s.f3) : pourP Y s = .error 2:=by unfold pourP;rw [if_pos h,if_neg h2]
theorem pourP_ok {Y : Yd} {s : S84} (h : isNew Y s.f0 = true) (h2 : heldP (pitP Y s.f3) + s.f5 ≤ roomP Y s.f3) : pourP Y s = .ok { Y with pours:=Y.pours ++ [s.f0],days:=Y.days ++ [s.f2],pits:=Y.pits.set s.f3.toNat (pitP Y s.f3 ++ [⟨s.f5,[⟨s.f0,wholeP s.f5⟩]⟩]) }:=by unfold pourP;rw [if_pos h,if_pos h2]
structure PourMid (wd w' : World) (base : Nat) (L : Loc) (Y : Yd) (s : S84) (Bx k8 k16 : Nat) (v : Value) : Prop where
 below : Below base wd w'
 grown : wd.grownBy w' L.vo.ownBlock
 r25 : (Kd.int .i64).R 3 w' base (fun _ => True) v (Y.pours ++ [s.f0])
 at25 : v.ownBlock = L.vo.ownBlock ∨ ∃ b,v.ownBlock = some b ∧ wd.heap.size ≤ b
 r16 : (Kd.int .i64).R 3 w' base (fun _ => True) (.slice (some ⟨k16,0,none⟩) 1 1) [s.f2]
theorem PourMid.lay {wd w' : World} {base : Nat} {L : Loc} {Y : Yd} {s : S84} {Bx k8 : Nat} {v : Value} (below : Below base wd w') (grown : wd.grownBy w' L.vo.ownBlock) (r25 : (Kd.int .i64).R 3 w' base (fun _ => True) v (Y.pours ++ [s.f0])) (at25 : v.ownBlock = L.vo.ownBlock ∨ ∃ b,v.ownBlock = some b ∧ wd.heap.size ≤ b) (hb : base ≤ w'.heap.size) :
  PourMid wd (w'.alloc (.cells #[ii s.f2] 3)) base L Y s Bx k8 w'.heap.size v :=
 ⟨below.alloc hb _,grown.trans (World.grownBy_alloc w' _ _),Kd.R_alloc r25 _,at25,R_one w' s.f2 base hb⟩
theorem at_weak {v v0 : Value} {n m : Nat} (h : v.ownBlock = v0.ownBlock ∨ ∃ b,v.ownBlock = some b ∧ n ≤ b) (hm : m ≤ n) : v.ownBlock = v0.ownBlock ∨ ∃ b,v.ownBlock = some b ∧ m ≤ b:=h.imp_right fun ⟨b,h1,h2⟩ => ⟨b,h1,Nat.le_trans hm h2⟩
theorem own_some {b k n c : Nat} (h : (Value.slice (some ⟨b,0,none⟩) n c).ownBlock = some k) : b = k:=by simpa [Value.ownBlock] using h
theorem R_one' (w : World) (i : Int) (base : Nat) (hb : base ≤ w.heap.size) (k : Nat) (hk : w.heap.size = k) : (Kd.int .i64).R 3 (w.alloc (.cells #[ii i] 3)) base (fun _ => True) (.slice (some ⟨k,0,none⟩) 1 1) [i]:=by subst hk;exact R_one w i base hb
set_option maxRecDepth 100000 in
set_option maxHeartbeats 4000000 in
theorem pour_calls {W : World} {base m : Nat} {L : Loc} {Y : Yd} (hY : YardAt W base L Y) (hw : Wf m Y) (hm : m ≤ 60) (s : S84) (step : Int) (h0 : 0 ≤ s.f3) (h1 : s.f3 < Y.rooms.length) (hn1 : 1 ≤ s.f5) (hn2 : s.f5 ≤ 1000) :
  Calls Tryz.prog 221 #[.pointer (some ⟨L.g,0,none⟩),.agg #[ii s.f0,ii s.f1,ii s.f2,ii s.f3,ii s.f4,ii s.f5],ii step] W fun e W' => StepPost W base L (pourP Y s) e W':=by
 have hu:=Tryz.underlying84
 obtain ⟨p1,p2,p3,p4⟩:=hw.pitOk h0 h1
 have HY:=am hY
 have HW:=am hw
 have HP1:=am p1
 have HHM:=am (show heldP (pitP Y s.f3) ≤ 4096 by omega)
 have HY1:=am (hY.move (below_alloc (Below.refl W.heap.size W) (.cells #[ii s.f0,ii s.f1,ii s.f2,ii s.f3,ii s.f4,ii s.f5] 84)))
 have HB1:=am (below_alloc (Below.refl W.heap.size W) (.cells #[ii s.f0,ii s.f1,ii s.f2,ii s.f3,ii s.f4,ii s.f5] 84))
 have HX1:=am (blk_new W (.cells #[ii s.f0,ii s.f1,ii s.f2,ii s.f3,ii s.f4,ii s.f5] 84))
 have HNX:=am (hY.not_new (Nat.le_refl W.heap.size))
 have hbw : base ≤ W.heap.size:=by have:=hY.gLt;omega
 clear hY hw p1 p2 p3 p4
 cases hnew : isNew Y s.f0 with
|false =>
  have HNW:=am hnew
  clear hnew
  rw [pourP_old HNW.out]
  go_enter Tryz.func221,Tryz.ntmps221
  go_wp2_with fail
  refine (fresh_calls HY1.out HW.out hm s.f0).mono ?_
  rintro e w1 ⟨rfl,hd⟩
  rw [freshE_no HNW.out]
  have HD:=am hd
  clear hd
  unfold Pan
  go_wp2
  exact ⟨rfl,StepPost.err0 HY.out (below_then HB1.out (below_size HB1.out) HD.out)⟩
|true =>
  have HNW:=am hnew
  clear hnew
  by_cases hro : heldP (pitP Y s.f3) + s.f5 ≤ roomP Y s.f3
  ·have HRO:=am hro
   clear hro
   rw [pourP_ok HNW.out HRO.out]
   go_enter Tryz.func221,Tryz.ntmps221
   go_wp2_with fail
   refine (fresh_calls HY1.out HW.out hm s.f0).mono ?_
   rintro e w1 ⟨rfl,hd⟩
   rw [freshE_ok HNW.out]
   have HB2:=am (below_then HB1.out (below_size HB1.out) hd)
   have HX2:=am (blk_below HX1.out hd)
   have HY2:=am (HY1.out.move hd)
   clear hd
   have g0a:=bd HX2.out 0
   have g1a:=bd HX2.out 1
   have g2a:=bd HX2.out 2
   have g3a:=bd HX2.out 3
   have g4a:=bd HX2.out 4
   have g5a:=bd HX2.out 5
   go_wp2_with fail
   refine (room_calls HY2.out HW.out s.f3 s.f5 h0 h1 (by omega) hn2).mono ?_
   rintro e w2 ⟨rfl,hd⟩
   rw [show roomE Y s.f3 s.f5 = .returned (.tuple #[]) from if_pos HRO.out]
   have HB3:=am (below_then HB2.out (below_size HB2.out) hd)
   have HX3:=am (blk_below HX2.out hd)
   have HY3:=am (HY2.out.move hd)
   clear hd g0a g1a g2a g3a g4a g5a
   have g0b:=bd HX3.out 0
   have g1b:=bd HX3.out 1
   have g2b:=bd HX3.out 2
   have g3b:=bd HX3.out 3
   have g4b:=bd HX3.out 4
   have g5b:=bd HX3.out 5
   have HX5:=am (blk_drew HX3.out)
   have HY5:=am (HY3.out.move (below_drew (Below.refl _ w2)))
   have HB5:=am (below_drew HB3.out)
   have HSS:=am (show ∀ w' : World,(∀ k,k < w2.drew.heap.size → some k ≠ L.vo.ownBlock → some k ≠ L.vd.ownBlock → w'.heap[k]? = w2.drew.heap[k]?) → (w'.cell? ⟨L.g,2,none⟩ = some L.vo ∧ w'.cell? ⟨L.g,3,none⟩ = some L.vd ∧ w'.cell? ⟨W.heap.size,0,none⟩ = some (ii s.f0) ∧ w'.cell? ⟨W.heap.size,2,none⟩ = some (ii s.f2)) from fun w' hk => by
    have b1:=(hk L.g (blk_lt HY5.out.blk) (fun e => R_offg HY5.out.pours HY5.out.blk (by decide) e.symm) (fun e => R_offg HY5.out.days HY5.out.blk (by decide) e.symm)).trans HY5.out.blk
    have b2:=(hk W.heap.size (blk_lt HX5.out) (fun e => HNX.out (.inr (.inr (.inl e.symm)))) (fun e => HNX.out (.inr (.inr (.inr (.inl e.symm)))))).trans HX5.out
    exact ⟨(blk_cell b1 2).trans rfl,(blk_cell b1 3).trans rfl,(blk_cell b2 0).trans rfl,(blk_cell b2 2).trans rfl⟩)
   clear g0b g1b g2b g3b g4b g5b
   go_wp2
   refine start_ (n:=24) (S:=fun w' => w'.cell? ⟨L.g,2,none⟩ = some L.vo ∧ w'.cell? ⟨L.g,3,none⟩ = some L.vd ∧ w'.cell? ⟨W.heap.size,0,none⟩ = some (ii s.f0) ∧ w'.cell? ⟨W.heap.size,2,none⟩ = some (ii s.f2)) (ds:=[20,23]) (ab 24 0) kr rfl kr (HSS.out _ (fun _ _ _ _ => rfl)) (fun hHeld => ?_);refine with_tabW R221_3.tab R221_3.bits (fun HT_ HW_ => ?_)
   generalize (w2).drew = wd at HX5 HY5 HB5 HSS hHeld ⊢
   refine qA 0 (some 16) ?_;refine qA 1 (some 17) ?_;refine qA 2 (some 18) ?_;refine qA 3 (some 19) ?_;refine qA 4 (some 20) ?_;refine qT 5 (some 21) ?_;refine qA 6 (some 22) ?_;refine qT 7 (some 23) ?_;refine qA 10 (some 26) ?_;refine qA 11 (some 27) ?_;refine qA 12 (some 28) ?_;refine qT 13 (some 29) ?_;refine qA 14 (some 30) ?_;refine qT 15 (some 31) ?_
   have hbd : base ≤ wd.heap.size:=Nat.le_trans hbw HB5.out.size
   refine join_ (σ:=Nat × Nat × Value) 7 (ab 24 131071) (fun x => [(24,.slice (some ⟨x.1,0,none⟩) 1 1),(25,x.2.2),(32,.slice (some ⟨x.2.1,0,none⟩) 1 1)]) (fun x w' => PourMid wd w' base L Y s W.heap.size x.1 x.2.1 x.2.2) ?_ ?_
   rotate_left
   ·intro hCont
    refine two_ (i:=8) (j:=16) (Ni:=some 24) (Nj:=some 32) (ab 24 65023) (ab 24 130303) rfl rfl rfl rfl (two_of HT_.out kr) (by decide) (by decide) (fun K hK => ?_) (fun K hK => ?_)
    ·skip
     refine value_ (w1:=?_) (v:=?_) (by rfl) rfl ?_ ?_
     rotate_left 2
     ·go_simp
      constructor
      ·rfl
      ·rfl
     refine hK.out _ _ (HSS.out _ (fun k hk n1 _ => ((World.grownBy_alloc wd (.cells #[ii s.f0] 3) L.vo.ownBlock)).block k hk n1)) (fun hHeld => ?_)
     clear hK K
     refine qN (some 24) ?_
     refine two_ (i:=9) (j:=16) (Ni:=some 25) (Nj:=some 32) (ab 24 65535) (ab 24 130559) rfl rfl rfl rfl (two_of HT_.out kr) (by decide) (by decide) (fun K hK => ?_) (fun K hK => ?_)
     ·skip
      refine Kd.R_append_rows_step (Kd.int .i64) (Rr:=fun x c => (Kd.int .i64).K (wd.alloc (.cells #[ii s.f0] 3)) x c) (w0:=(wd.alloc (.cells #[ii s.f0] 3))) base (by rfl) (.tmp 21) (.tmp 24) 27 3 (ii 0) 8 rfl Tryz.underlying27 info3 rfl (by decide) (by decide) L.vo Y.pours [s.f0] (some ⟨wd.heap.size,0,none⟩) 1 1 (fun _ => True) (fun _ => False) rfl rfl (Kd.R_alloc HY5.out.pours _) (Kd.R_reads' (R_one wd s.f0 base hbd)).2.2 (fun _ _ h => h) (fun _ h => h.elim) (fun _ _ => trivial) (Below.refl _ _) (by rw [World.size_alloc];omega) (by have:=HW.out.npours;omega) ?_
      intro v9 w9 hr hb hg hat
      refine hK.out _ _ (HSS.out _ (fun k hk n1 _ => ((World.grownBy_alloc wd (.cells #[ii s.f0] 3) L.vo.ownBlock).trans hg).block k hk n1)) (fun hHeld => ?_)
      clear hK K
      refine qN (some 25) ?_
      refine one_ (i:=16) (N:=some 32) (ab 24 131071) rfl rfl (one_of HT_.out kr) (by decide) (fun K hK => ?_)
      refine value_ (w1:=?_) (v:=?_) (by rfl) rfl ?_ ?_
      rotate_left 2
      ·go_simp
       constructor
       ·rfl
       ·rfl
      refine hK.out _ _ (HSS.out _ (fun k hk n1 _ => (((World.grownBy_alloc wd (.cells #[ii s.f0] 3) L.vo.ownBlock).trans hg).trans (World.grownBy_alloc w9 _ _)).block k hk n1)) (fun hHeld => ?_)
      clear hK K
      refine qN (some 32) ?_
      exact nP (hCont ⟨wd.heap.size,w9.heap.size,v9⟩ _ (PourMid.lay (((Below.refl base wd).alloc hbd _).trans hb) ((World.grownBy_alloc wd (.cells #[ii s.f0] 3) L.vo.ownBlock).trans hg) hr (at_weak hat (by rw [World.size_alloc];omega)) (Nat.le_trans (by rw [World.size_alloc];omega) hg.size)))
     ·skip
      refine value_ (w1:=?_) (v:=?_) (by rfl) rfl ?_ ?_
      rotate_left 2
      ·go_simp
       constructor
       ·rfl
       ·rfl
      refine hK.out _ _ (HSS.out _ (fun k hk n1 _ => ((World.grownBy_alloc wd (.cells #[ii s.f0] 3) L.vo.ownBlock).trans (World.grownBy_alloc _ (.cells #[ii s.f2] 3) _)).block k hk n1)) (fun hHeld => ?_)
      clear hK K
      refine qN (some 32) ?_
      refine one_ (i:=9) (N:=some 25) (ab 24 131071) rfl rfl (one_of HT_.out kr) (by decide) (fun K hK => ?_)
      refine Kd.R_append_rows_step (Kd.int .i64) (Rr:=fun x c => (Kd.int .i64).K ((wd.alloc (.cells #[ii s.f0] 3)).alloc (.cells #[ii s.f2] 3)) x c) (w0:=((wd.alloc (.cells #[ii s.f0] 3)).alloc (.cells #[ii s.f2] 3))) base (by rfl) (.tmp 21) (.tmp 24) 27 3 (ii 0) 8 rfl Tryz.underlying27 info3 rfl (by decide) (by decide) L.vo Y.pours [s.f0] (some ⟨wd.heap.size,0,none⟩) 1 1 (fun _ => True) (fun _ => False) rfl rfl (Kd.R_alloc (Kd.R_alloc HY5.out.pours _) _) (Kd.R_reads' (Kd.R_alloc (R_one wd s.f0 base hbd) _)).2.2 (fun _ _ h => h) (fun _ h => h.elim) (fun _ _ => trivial) (Below.refl _ _) (by rw [World.size_alloc,World.size_alloc];omega) (by have:=HW.out.npours;omega) ?_
      intro v9 w9 hr hb hg hat
      refine hK.out _ _ (HSS.out _ (fun k hk n1 _ => (((World.grownBy_alloc wd (.cells #[ii s.f0] 3) L.vo.ownBlock).trans (World.grownBy_alloc _ (.cells #[ii s.f2] 3) _)).trans hg).block k hk n1)) (fun hHeld => ?_)
      clear hK K
      refine qN (some 25) ?_
      exact nP (hCont ⟨wd.heap.size,wd.heap.size + 1,v9⟩ _ (⟨(((Below.refl base wd).alloc hbd _).alloc (by rw [World.size_alloc];omega) _).trans hb,((World.grownBy_alloc wd (.cells #[ii s.f0] 3) L.vo.ownBlock).trans (World.grownBy_alloc _ _ _)).trans hg,hr,at_weak hat (by rw [World.size_alloc,World.size_alloc];omega),R_own_move rfl (R_one' (wd.alloc (.cells #[ii s.f0] 3)) s.f2 base (by rw [World.size_alloc];omega) (wd.heap.size + 1) (by rw [World.size_alloc])) (fun k hk => hg.block k (by rw [World.size_alloc,World.size_alloc];have : wd.heap.size + 1 = k:=own_some hk;omega) (fun e => by have:=Kd.R_lt HY5.out.pours k e.symm;have : wd.heap.size + 1 = k:=own_some hk;omega))⟩))
    ·skip
     refine value_ (w1:=?_) (v:=?_) (by rfl) rfl ?_ ?_
     rotate_left 2
     ·go_simp
      constructor
      ·rfl
      ·rfl
     refine hK.out _ _ (HSS.out _ (fun k hk n1 _ => ((World.grownBy_alloc wd (.cells #[ii s.f2] 3) L.vo.ownBlock)).block k hk n1)) (fun hHeld => ?_)
     clear hK K
     refine qN (some 32) ?_
     refine one_ (i:=8) (N:=some 24) (ab 24 130559) rfl rfl (one_of HT_.out kr) (by decide) (fun K hK => ?_)
     refine value_ (w1:=?_) (v:=?_) (by rfl) rfl ?_ ?_
     rotate_left 2
     ·go_simp
      constructor
      ·rfl
      ·rfl
     refine hK.out _ _ (HSS.out _ (fun k hk n1 _ => ((World.grownBy_alloc wd (.cells #[ii s.f2] 3) L.vo.ownBlock).trans (World.grownBy_alloc _ (.cells #[ii s.f0] 3) _)).block k hk n1)) (fun hHeld => ?_)
     clear hK K
     refine qN (some 24) ?_
     refine one_ (i:=9) (N:=some 25) (ab 24 131071) rfl rfl (one_of HT_.out kr) (by decide) (fun K hK => ?_)
     refine Kd.R_append_rows_step (Kd.int .i64) (Rr:=fun x c => (Kd.int .i64).K ((wd.alloc (.cells #[ii s.f2] 3)).alloc (.cells #[ii s.f0] 3)) x c) (w0:=((wd.alloc (.cells #[ii s.f2] 3)).alloc (.cells #[ii s.f0] 3))) base (by rfl) (.tmp 21) (.tmp 24) 27 3 (ii 0) 8 rfl Tryz.underlying27 info3 rfl (by decide) (by decide) L.vo Y.pours [s.f0] (some ⟨wd.heap.size + 1,0,none⟩) 1 1 (fun _ => True) (fun _ => False) rfl rfl (Kd.R_alloc (Kd.R_alloc HY5.out.pours _) _) (Kd.R_reads' (R_one' (wd.alloc (.cells #[ii s.f2] 3)) s.f0 base (by rw [World.size_alloc];omega) (wd.heap.size + 1) (by rw [World.size_alloc]))).2.2 (fun _ _ h => h) (fun _ h => h.elim) (fun _ _ => trivial) (Below.refl _ _) (by rw [World.size_alloc,World.size_alloc];omega) (by have:=HW.out.npours;omega) ?_
     intro v9 w9 hr hb hg hat
     refine hK.out _ _ (HSS.out _ (fun k hk n1 _ => (((World.grownBy_alloc wd (.cells #[ii s.f2] 3) L.vo.ownBlock).trans (World.grownBy_alloc _ (.cells #[ii s.f0] 3) _)).trans hg).block k hk n1)) (fun hHeld => ?_)
     clear hK K
     refine qN (some 25) ?_
     exact nP (hCont ⟨wd.heap.size + 1,wd.heap.size,v9⟩ _ (⟨(((Below.refl base wd).alloc hbd _).alloc (by rw [World.size_alloc];omega) _).trans hb,((World.grownBy_alloc wd (.cells #[ii s.f2] 3) L.vo.ownBlock).trans (World.grownBy_alloc _ _ _)).trans hg,hr,at_weak hat (by rw [World.size_alloc,World.size_alloc];omega),R_own_move rfl (Kd.R_alloc (R_one wd s.f2 base hbd) _) (fun k hk => hg.block k (by rw [World.size_alloc,World.size_alloc];have : wd.heap.size = k:=own_some hk;omega) (fun e => by have:=Kd.R_lt HY5.out.pours k e.symm;have : wd.heap.size = k:=own_some hk;omega))⟩))
   rintro ⟨k8,k16,v25⟩ w5 hmid
   obtain ⟨A9,c9,rfl⟩:=Kd.R_slice hmid.r25
   rw [List.length_append,List.length_singleton] at hmid ⊢
   have HM:=am hmid
   clear hmid
   refine norm_ (a':=?_) ?_ ?_
   rotate_left
   ·simp only [putAll,Act.put,List.setIfInBounds_toArray,List.set_cons_zero,List.set_cons_succ]
    rfl
   have hdy : (Kd.int .i64).R 3 w5 base (fun _ => True) L.vd Y.days:=R_own_move rfl HY5.out.days (fun k hk => HM.out.grown.block k (Kd.R_lt HY5.out.days k hk) (fun e => HY5.out.apart k e.symm hk))
   have HDY:=am hdy
   clear hdy
   refine one_ (i:=17) (N:=(some 33)) (ab 24 262143) rfl rfl (one_of HT_.out kr) (by decide) (fun K hK => ?_)
   refine Kd.R_append_rows_step (Kd.int .i64) (Rr:=fun x c => (Kd.int .i64).K w5 x c) (w0:=w5) base (by rfl) (.tmp 29) (.tmp 32) 27 3 (ii 0) 8 rfl Tryz.underlying27 info3 rfl (by decide) (by decide) L.vd Y.days [s.f2] (some ⟨k16,0,none⟩) 1 1 (fun _ => True) (fun _ => False) rfl rfl HDY.out (Kd.R_reads' HM.out.r16).2.2 (fun _ _ h => h) (fun _ h => h.elim) (fun _ _ => trivial) (Below.refl _ _) (Nat.le_trans hbd HM.out.grown.size) (by have:=HW.out.npours;have:=HW.out.days;omega) ?_
   intro v33 w7 hr hb hg hat
   obtain ⟨A10,c10,rfl⟩:=Kd.R_slice hr
   rw [List.length_append,List.length_singleton] at hr hat ⊢
   have hnv : NeRow (.slice A9 (Y.pours.length + 1) c9) L.vd:=fun k hk hk' => by
    rcases HM.out.at25 with e|⟨b,e,hle⟩
    ·exact HY5.out.apart k (e ▸ hk) hk'
    ·have:=Kd.R_lt HY5.out.days k hk'
     rw [e] at hk
     injection hk with hk
     omega
   have hr25 : (Kd.int .i64).R 3 w7 base (fun _ => True) (.slice A9 (Y.pours.length + 1) c9) (Y.pours ++ [s.f0]):=R_own_move rfl HM.out.r25 (fun k hk => hg.block k (Kd.R_lt HM.out.r25 k hk) (fun e => hnv k hk e.symm))
   have hfar : ∀ k,k < wd.heap.size → some k ≠ L.vo.ownBlock → some k ≠ L.vd.ownBlock → w7.heap[k]? = wd.heap[k]?:=fun k hk n1 n2 => (hg.block k (Nat.lt_of_lt_of_le hk HM.out.grown.size) n2).trans (HM.out.grown.block k hk n1)
   have hnr : NeRow (.slice A9 (Y.pours.length + 1) c9) (.slice A10 (Y.days.length + 1) c10):=fun k hk hk' => by
    rcases hat with e|⟨b,e,hle⟩
    ·exact hnv k hk (e ▸ hk')
    ·have:=Kd.R_lt HM.out.r25 k hk
     rw [e] at hk'
     injection hk' with hk'
     omega
   obtain ⟨s1,s2,s3,s4,s5,s6⟩:=HY5.out.set_pours (Nat.le_trans HM.out.grown.size hg.size) hfar hr25 hr HM.out.at25 (at_weak hat HM.out.grown.size) hnr
   have HY8:=am s1
   have HF8:=am s2
   have HB8:=am (((((HB5.out.mono hbw).trans (HM.out.below.trans hb)).setCell (p:=⟨L.g,2,none⟩) HY.out.gbase (.slice A9 (Y.pours.length + 1) c9))).setCell (p:=⟨L.g,3,none⟩) HY.out.gbase (.slice A10 (Y.days.length + 1) c10))
   have hss:=HSS.out w7 hfar
   clear hr hb hg hat hnv hr25 hfar hnr s1 s2
   refine hK.out _ _ hss (fun hHeld => ?_)
   clear hK K
   refine qN (some 33) ?_
   refine qA 18 (some 34) ?_;refine qA 19 (some 35) ?_
   refine last_ (i:=20) (N:=none) (ab 24 2097151) rfl rfl (one_of HT_.out kr) (by decide) (fun K hK => ?_)
   refine skip_ (w1:=?_) (by rfl) rfl ?_ ?_
   rotate_left
   ·go_simp
    rfl
   refine hK.out _ _ ?_
   clear hK K
   refine qA 21 (some 36) ?_;refine qA 22 (some 37) ?_
   refine last_ (i:=23) (N:=none) (ab 24 16777215) rfl rfl (one_of HT_.out kr) (by decide) (fun K hK => ?_)
   refine skip_ (w1:=?_) (by rfl) rfl ?_ ?_
   rotate_left
   ·go_simp
    rfl
   refine hK.out _ _ ?_
   clear hK K
   refine done_ (done_of HT_.out kr) ?_
   go_wp2
   have HX8:=am ((HF8.out.keep W.heap.size (by have:=blk_lt HX5.out;exact this) HNX.out).1.trans HX5.out)
   have HN8:=am ((HF8.out.keep W.heap.size (by have:=blk_lt HX5.out;exact this) HNX.out).2)
   have HR8:=am ((Fr.of_below L HB5.out).trans HF8.out)
   obtain ⟨L2,hL2⟩ : ∃ L2 : Loc,L2 = { L with vo:=.slice A9 (Y.pours.length + 1) c9,vd:=.slice A10 (Y.days.length + 1) c10 }:=⟨_,rfl⟩
   have HLG:=am (show L2.g = L.g by rw [hL2])
   have HLP:=am (show L2.gp = L.gp by rw [hL2])
   rw [← hL2] at HY8 HN8 HR8
   clear hL2 HF8 HM HDY HSS s3 s4 s5 s6 hss
   generalize ((w7.setCell ⟨L.g,2,none⟩ (.slice A9 (Y.pours.length + 1) c9)).setCell ⟨L.g,3,none⟩ (.slice A10 (Y.days.length + 1) c10)) = w8 at HY8 HX8 HN8 HR8 HB8 ⊢
   obtain ⟨A2,c2,y1,y2,y3,y4⟩:=HY8.out.pit_at h0 h1
   obtain ⟨q,hq⟩ : ∃ q,q = pitP Y s.f3:=⟨_,rfl⟩
   rw [show pitP ({ Y with pours:=Y.pours ++ [s.f0],days:=Y.days ++ [s.f2] } : Yd) s.f3 = q from hq.symm] at y1 y2 y3
   have HQL:=am (show q.length ≤ 4096 by have:=held_ge HP1.out;have:=HHM.out;rw [hq];omega)
   have HQ:=am hq
   have HL2:=am y2
   clear hq y2
   obtain ⟨ad,had⟩ : ∃ ad : Addr,ad = ⟨L.gp,0,none⟩:=⟨_,rfl⟩
   have HAD:=am had
   have e2 : ad.add s.f3.toNat = ⟨L2.gp,s.f3.toNat,none⟩:=by rw [had,add_plain,HLP.out]
   rw [← e2] at y1 y4
   have hb8:=HY8.out.blk
   rw [HLG.out,HLP.out] at hb8
   have HG9:=am (show ∀ w' : World,Below w8.heap.size w8 w' → w'.cell? ⟨L.g,1,none⟩ = some (.slice (some ad) Y.rooms.length Y.rooms.length) from fun w' hb => (blk_cell (blk_below hb8 hb) 1).trans (by rw [HAD.out];rfl))
   have HP9:=am (show ∀ w' : World,Below w8.heap.size w8 w' → w'.cell? (ad.add s.f3.toNat) = some (.slice A2 q.length c2) from fun w' hb => pw_cell_below hb y1)
   have HS9:=am (show ∀ w' : World,Below w8.heap.size w8 w' → (w'.cell? ⟨L.g,1,none⟩ = some (.slice (some ad) Y.rooms.length Y.rooms.length) ∧ w'.cell? ⟨W.heap.size,0,none⟩ = some (ii s.f0) ∧ w'.cell? ⟨W.heap.size,3,none⟩ = some (ii s.f3) ∧ w'.cell? ⟨W.heap.size,5,none⟩ = some (ii s.f5) ∧ w'.cell? (ad.add s.f3.toNat) = some (.slice A2 q.length c2)) from fun w' hb => ⟨HG9.out w' hb,(blk_cell (blk_below HX8.out hb) 0).trans rfl,(blk_cell (blk_below HX8.out hb) 3).trans rfl,(blk_cell (blk_below HX8.out hb) 5).trans rfl,HP9.out w' hb⟩)
   have HD9:=am (below_drew (Below.refl w8.heap.size w8))
   have HY9:=am (HY8.out.move HD9.out)
   have HG9':=am (Kd.F_drew y3)
   have HE2:=am e2
   clear had e2 y1 y3 y4 hb8 HX5 HY5 HB5 HP9 HG9
   refine start_ (n:=29) (S:=fun w' => w'.cell? ⟨L.g,1,none⟩ = some (.slice (some ad) Y.rooms.length Y.rooms.length) ∧ w'.cell? ⟨W.heap.size,0,none⟩ = some (ii s.f0) ∧ w'.cell? ⟨W.heap.size,3,none⟩ = some (ii s.f3) ∧ w'.cell? ⟨W.heap.size,5,none⟩ = some (ii s.f5) ∧ w'.cell? (ad.add s.f3.toNat) = some (.slice A2 q.length c2)) (ds:=[28]) (ab 29 0) kr rfl kr (HS9.out _ HD9.out) (fun hHeld => ?_);refine with_tabW R221_4.tab R221_4.bits (fun HT_ HW_ => ?_)
   generalize (w8).drew = wd2 at HY9 HG9' HD9 hHeld ⊢
   refine qA 0 (some 38) ?_;refine qA 1 (some 39) ?_;refine qA 2 (some 40) ?_;refine qT 3 (some 41) ?_;refine qA 4 (some 42) ?_;refine qT 5 (some 43) ?_;refine qA 6 (some 44) ?_;refine qA 7 (some 45) ?_;refine qA 8 (some 46) ?_;refine qT 9 (some 47) ?_;refine qA 10 (some 48) ?_;refine qT 11 (some 49) ?_;refine qA 12 (some 50) ?_;refine qT 13 (some 51) ?_;refine qA 15 (some 53) ?_;refine qT 16 (some 54) ?_;refine qA 17 (some 55) ?_;refine qT 18 (some 56) ?_;refine qA 19 (some 57) ?_;refine qT 20 (some 58) ?_
   refine one_ (i:=14) (N:=(some 52)) (ab 29 2097151) rfl rfl (one_of HT_.out kr) (by decide) (fun K hK => ?_)
   refine gC Tryz.func242 #[.slice A2 q.length c2] ?_
   refine (clone242_calls A2 c2 q _ L2.Not HG9'.out HL2.out (by have:=HQL.out;omega)).mono ?_
   rintro e w10 ⟨v,rfl,hB,hRv⟩
   obtain ⟨A5,c5,rfl⟩:=Kd.R_slice hRv
   have HV10:=am hRv
   have HD10:=am (below_then HD9.out (below_size HD9.out) hB)
   have HC10:=am hB
   have HLT10:=am (fun k hk => Kd.R_lt hRv k hk)
   clear hB hRv
   refine ⟨_,rfl,?_⟩
   refine hK.out _ _ (HS9.out _ HD10.out) (fun hHeld => ?_)
   clear hK K
   refine qN (some 52) ?_
   refine one_ (i:=21) (N:=(some 59)) (ab 29 4194303) rfl rfl (one_of HT_.out kr) (by decide) (fun K hK => ?_)
   refine gC Tryz.func156 #[ii s.f5] ?_
   refine (pit_whole.calls s.f5 s.f5 1 _ rfl).mono ?_
   rintro e w11 ⟨rfl,hB⟩
   have HD11:=am (below_then HD10.out (below_size HD10.out) hB)
   have HC11:=am (HC10.out.trans (hB.mono HC10.out.size))
   have HE11:=am hB
   clear hB
   refine ⟨_,rfl,?_⟩
   refine hK.out _ _ (HS9.out _ HD11.out) (fun hHeld => ?_)
   clear hK K
   refine qN (some 59) ?_
   refine qA 22 (some 60) ?_
   refine one_ (i:=23) (N:=(some 61)) (ab 29 16777215) rfl rfl (one_of HT_.out kr) (by decide) (fun K hK => ?_)
   refine Kd.N_lit_step k89 (w0:=w11) w11.heap.size 89 (by rfl) rfl (xs:=[⟨s.f0,wholeP s.f5⟩]) (inner:=[ii s.f0,ii s.f5,ii 1]) (ok:=fun k => w11.heap.size ≤ k) (okp:=fun _ => False) ?run ?rep ?ok ?fr (Below.refl _ _) (Nat.le_refl _) (by simp) ?_
   case run => go_simp
   case rep => exact (Reps.none _ _).snoc (Kd.FK_of_M (base:=0) (k89_mkM _ _ _ ⟨s.f0,wholeP s.f5⟩)) rfl
   case ok => exact fun k hk => hk.elim
   case fr => exact Nat.le_refl _
   intro v12 w12 hn hB hg hat
   obtain ⟨A12,c12,rfl⟩:=Kd.N_slice hn
   have HD12:=am (below_then HD11.out (below_size HD11.out) hB)
   have HC12:=am (HC11.out.trans (hB.mono HC11.out.size))
   have HN12:=am hn
   have HB1012:=am (below_then HE11.out (below_size HE11.out) hB)
   have hs12 : w11.heap.size ≤ w12.heap.size:=hB.size
   have HS12:=am hs12
   clear hn hB hg hat hs12
   refine hK.out _ _ (HS9.out _ HD12.out) (fun hHeld => ?_)
   clear hK K
   refine qN (some 61) ?_
   refine qA 24 (some 62) ?_
   refine one_ (i:=25) (N:=(some 63)) (ab 29 67108863) rfl rfl (one_of HT_.out kr) (by decide) (fun K hK => ?_)
   refine value_ (w1:=?_) (v:=?_) (by rfl) rfl ?_ ?_
   rotate_left 2
   ·go_simp
    constructor
    ·rfl
    ·rfl
   refine hK.out _ _ (HS9.out _ (below_alloc HD12.out _)) (fun hHeld => ?_)
   clear hK K
   refine qN (some 63) ?_
   refine one_ (i:=26) (N:=(some 64)) (ab 29 134217727) rfl rfl (one_of HT_.out kr) (by decide) (fun K hK => ?_)
   refine Kd.R_append_step (ft k212 w12 (fun k => L2.Not k ∧ some k ≠ (Value.slice A5 q.length c5).ownBlock)) (w0:=w12) wd2.heap.size (by rfl) (.tmp 52) (.tmp 63) 131 212 (.agg #[ii 0,.slice none 0 0]) 32 rfl Tryz.underlying131 info212 rfl (by show 0 < (k212 : Kd _).sz;decide) (by decide) (.slice A5 q.length c5) q ⟨s.f5,[⟨s.f0,wholeP s.f5⟩]⟩ [ii s.f5,.slice A12 1 c12] (fun _ => True) (fun k => some k ≠ (Value.slice A5 q.length c5).ownBlock) rfl rfl ?aM (fun k hk => ⟨trivial,hk⟩) (fun _ _ => trivial) ?aO (Below.refl _ _) HC12.out.size ?aL ?_
   case aM =>
    exact k212_mkF w12 _ ⟨s.f5,[⟨s.f0,wholeP s.f5⟩]⟩ (Kd.N_reads' HN12.out).2.1 (Kd.F_mono (Kd.N_F HN12.out) (fun k hk => ⟨HY9.out.not_new (Nat.le_trans HC11.out.size hk),fun e => by have:=HLT10.out k e.symm;have:=HE11.out.size;omega⟩))
   case aO => exact ft_to (Kd.R_below HV10.out HB1012.out) HC12.out (fun k hk hlt => ⟨hk,fun e => by have:=Kd.R_base HV10.out k e.symm;omega⟩)
   case aL => have:=HQL.out;omega
   intro v1 w13 hr hb hg hat
   obtain ⟨A7,c7,rfl⟩:=Kd.R_slice hr
   have HV7:=am (Kd.R_reads' hr).2.1
   have hD13:=HD12.out.trans (hb.mono HD9.out.size)
   have HY13:=am (HY8.out.move hD13)
   have hF13 : Kd.F k212 w13 L2.Not A7 (q ++ [(⟨s.f5,[⟨s.f0,wholeP s.f5⟩]⟩ : S212)]).length (q ++ [(⟨s.f5,[⟨s.f0,wholeP s.f5⟩]⟩ : S212)]):=ft_F2 hr (fun k hk hlt => hg.block k hlt hk.2) (fun k hk => hk.1) (fun k hk => HY9.out.not_new (Kd.R_base hr k hk))
   obtain ⟨s1,s2,s3⟩:=HY13.out.set_pit h0 h1 HV7.out hF13
   obtain ⟨_,_,z1,_,_,z4⟩:=HY13.out.pit_at h0 h1
   have z5 : w13.frozen? (ad.add s.f3.toNat) = false:=by rw [HE2.out];exact z4
   have hss:=HS9.out _ hD13
   have z6:=hss.2.2.2.2
   rw [List.length_append,List.length_singleton] at s1 s2 s3 ⊢
   have HY14:=am s1
   have HR14:=am ((HR8.out.trans (Fr.of_below L2 hD13)).trans s2)
   have HB14:=am ((HB8.out.trans (hD13.mono (Nat.le_trans hbw HB8.out.size))).trans s3)
   clear hr hb hg hat hD13 hF13 s1 s2 s3 z1 z4
   refine hK.out _ _ hss (fun hHeld => ?_)
   clear hK K
   refine qN (some 64) ?_
   refine qA 27 (some 65) ?_
   refine last_ (i:=28) (N:=none) (ab 29 536870911) rfl rfl (one_of HT_.out kr) (by decide) (fun K hK => ?_)
   refine skip_ (w1:=?_) (by rfl) rfl ?_ ?_
   rotate_left
   ·go_simp
    rfl
   refine hK.out _ _ ?_
   clear hK K
   refine done_ (done_of HT_.out kr) ?_
   go_wp2
   go_end0
   rw [HE2.out]
   rw [HQ.out] at HB14 HR14 HY14 ⊢
   exact StepPost.done HB14.out HLG.out HR14.out HY14.out
  ·have HRO:=am hro
   clear hro
   rw [pourP_full HNW.out (by have:=HRO.out;omega)]
   go_enter Tryz.func221,Tryz.ntmps221
   go_wp2_with fail
   refine (fresh_calls HY1.out HW.out hm s.f0).mono ?_
   rintro e w1 ⟨rfl,hd⟩
   rw [freshE_ok HNW.out]
   have HB2:=am (below_then HB1.out (below_size HB1.out) hd)
   have HX2:=am (blk_below HX1.out hd)
   have HY2:=am (HY1.out.move hd)
   clear hd
   have g0a:=bd HX2.out 0
   have g1a:=bd HX2.out 1
   have g2a:=bd HX2.out 2
   have g3a:=bd HX2.out 3
   have g4a:=bd HX2.out 4
   have g5a:=bd HX2.out 5
   go_wp2_with fail
   refine (room_calls HY2.out HW.out s.f3 s.f5 h0 h1 (by omega) hn2).mono ?_
   rintro e w2 ⟨rfl,hd⟩
   rw [show roomE Y s.f3 s.f5 = Pan 2 from if_neg (by have:=HRO.out;omega)]
   have HD:=am hd
   clear hd
   unfold Pan
   go_wp2
   exact ⟨rfl,StepPost.err0 HY.out (below_then HB2.out (below_size HB2.out) HD.out)⟩
def R224_4.T : Bool × List (List Nat × List Nat):=(true,[([],[]),([0],[0]),([1],[1]),([2],[2]),([],[]),([4],[4]),([],[]),([6],[6]),([7],[7]),([8],[8]),([],[]),([10],[10]),([9,11],[9,11]),([12],[12]),([13],[13]),([],[]),([14,15,14],[14,15]),([3,5,0,1,2,3,4,5,6,7,8,9,10,11,12,13,14,15,16],[3,5]),([17,16,16,0,1,2,3,4,5,6,7,8,9,10,11,12,13,14,15,16],[16,17])])
def R224_4.B : List Nat:=[0,1,3,7,0,16,0,64,192,448,0,1024,4032,8128,16320,0,65472,131071,262143]
theorem R224_4.tab : rtab .any (opsOf Tryz.f224 4) = R224_4.T:=by kernel_rfl
theorem R224_4.bits : waitsOk R224_4.T.2 R224_4.B = true:=by kernel_rfl
theorem moveP_little {Y : Yd} {s : S84} (h2 : ¬ s.f5 ≤ heldP (pitP Y s.f3)) : moveP Y s = .error 4:=by unfold moveP;rw [if_neg h2]
theorem moveP_full {Y : Yd} {s : S84} (h2 : s.f5 ≤ heldP (pitP Y s.f3)) (h : ¬ heldP (pitP Y s.f4) + s.f5 ≤ roomP Y s.f4) : moveP Y s = .error 2:=by unfold moveP;rw [if_pos h2,if_neg h]
theorem moveP_ahead {Y : Yd} {s : S84} (h2 : s.f5 ≤ heldP (pitP Y s.f3)) (h : heldP (pitP Y s.f4) + s.f5 ≤ roomP Y s.f4) (h3 : aheadP (pitP Y s.f3) s.f5 = none) : moveP Y s = .error 3:=by unfold moveP;rw [if_pos h2,if_pos h,h3]
theorem moveP_ok {Y : Yd} {s : S84} (h2 : s.f5 ≤ heldP (pitP Y s.f3)) (h : heldP (pitP Y s.f4) + s.f5 ≤ roomP Y s.f4) {a b : List S212} (h3 : aheadP (pitP Y s.f3) s.f5 = some (a,b)) : moveP Y s = .ok { Y with pits:=(Y.pits.set s.f3.toNat b).set s.f4.toNat ((Y.pits.set s.f3.toNat b).getD s.f4.toNat [] ++ a) }:=by unfold moveP;rw [if_pos h2,if_pos h,h3]
set_option maxRecDepth 100000 in
set_option maxHeartbeats 4000000 in
theorem move_calls {W : World} {base m : Nat} {L : Loc} {Y : Yd} (hY : YardAt W base L Y) (hw : Wf m Y) (hm : m ≤ 60) (s : S84) (step : Int) (h0 : 0 ≤ s.f3) (h1 : s.f3 < Y.rooms.length) (hn1 : 1 ≤ s.f5) (hn2 : s.f5 ≤ 1000) (t0 : 0 ≤ s.f4) (t1 : s.f4 < Y.rooms.length) (hne : s.f4 ≠ s.f3) :
  Calls Tryz.prog 224 #[.pointer (some ⟨L.g,0,none⟩),.agg #[ii s.f0,ii s.f1,ii s.f2,ii s.f3,ii s.f4,ii s.f5],ii step] W fun e W' => StepPost W base L (moveP Y s) e W':=by
 have hu:=Tryz.underlying84
 obtain ⟨p1,p2,p3,p4⟩:=hw.pitOk h0 h1
 have HY:=am hY
 have HW:=am hw
 have HP1:=am p1
 have HY1:=am (hY.move (below_alloc (Below.refl W.heap.size W) (.cells #[ii s.f0,ii s.f1,ii s.f2,ii s.f3,ii s.f4,ii s.f5] 84)))
 have HB1:=am (below_alloc (Below.refl W.heap.size W) (.cells #[ii s.f0,ii s.f1,ii s.f2,ii s.f3,ii s.f4,ii s.f5] 84))
 have HX1:=am (blk_new W (.cells #[ii s.f0,ii s.f1,ii s.f2,ii s.f3,ii s.f4,ii s.f5] 84))
 have HNX:=am (hY.not_new (Nat.le_refl W.heap.size))
 have hbw : base ≤ W.heap.size:=by have:=hY.gLt;omega
 clear hY hw p1 p2 p3 p4
 by_cases hen : s.f5 ≤ heldP (pitP Y s.f3)
 ·have HEN:=am hen
  clear hen
  by_cases hro : heldP (pitP Y s.f4) + s.f5 ≤ roomP Y s.f4
  ·have HRO:=am hro
   clear hro
   cases hah : aheadP (pitP Y s.f3) s.f5 with
  |none =>
    have HAH:=am hah
    clear hah
    rw [moveP_ahead HEN.out HRO.out HAH.out]
    go_enter Tryz.func224,Tryz.ntmps224
    go_wp2_with fail
    refine (enough_calls HY1.out HW.out s h0 h1).mono ?_
    rintro e w1 ⟨rfl,hd⟩
    rw [show enoughE Y s.f3 s.f5 = .returned (.tuple #[]) from if_pos HEN.out]
    have HB2:=am (below_then HB1.out (below_size HB1.out) hd)
    have HX2:=am (blk_below HX1.out hd)
    have HY2:=am (HY1.out.move hd)
    clear hd
    have g0a:=bd HX2.out 0
    have g1a:=bd HX2.out 1
    have g2a:=bd HX2.out 2
    have g3a:=bd HX2.out 3
    have g4a:=bd HX2.out 4
    have g5a:=bd HX2.out 5
    go_wp2_with fail
    refine (room_calls HY2.out HW.out s.f4 s.f5 t0 t1 (by omega) hn2).mono ?_
    rintro e w2 ⟨rfl,hd⟩
    rw [show roomE Y s.f4 s.f5 = .returned (.tuple #[]) from if_pos HRO.out]
    have HB3:=am (below_then HB2.out (below_size HB2.out) hd)
    have HX3:=am (blk_below HX2.out hd)
    have HY3:=am (HY2.out.move hd)
    clear hd g0a g1a g2a g3a g4a g5a
    have g0b:=bd HX3.out 0
    have g1b:=bd HX3.out 1
    have g2b:=bd HX3.out 2
    have g3b:=bd HX3.out 3
    have g4b:=bd HX3.out 4
    have g5b:=bd HX3.out 5
    go_wp2_with fail
    refine (ahead_calls HY3.out HW.out s.f3 s.f5 h0 h1 hn1 hn2 HEN.out).mono ?_
    rintro e w3 ⟨hd,h⟩
    rcases h with ⟨_,rfl,hd2⟩|⟨a,b,A,c,h,_⟩
    ·have HD:=am hd2
     clear hd hd2
     unfold Pan
     go_wp2
     exact ⟨rfl,StepPost.err0 HY.out (below_then HB3.out (below_size HB3.out) HD.out)⟩
    ·rw [HAH.out] at h;cases h
  |some x =>
    obtain ⟨a,b⟩:=x
    have HAH:=am hah
    clear hah
    have hsp:=aheadP_spec Y.pours (pitP Y s.f3) s.f5 HP1.out (by omega) HEN.out a b HAH.out
    have HLA:=am (show a.length ≤ 4096 by have:=held_ge hsp.1;have:=hsp.2.2.1;omega)
    clear hsp
    rw [moveP_ok HEN.out HRO.out HAH.out]
    go_enter Tryz.func224,Tryz.ntmps224
    go_wp2_with fail
    refine (enough_calls HY1.out HW.out s h0 h1).mono ?_
    rintro e w1 ⟨rfl,hd⟩
    rw [show enoughE Y s.f3 s.f5 = .returned (.tuple #[]) from if_pos HEN.out]
    have HB2:=am (below_then HB1.out (below_size HB1.out) hd)
    have HX2:=am (blk_below HX1.out hd)
    have HY2:=am (HY1.out.move hd)
    clear hd
    have g0a:=bd HX2.out 0
    have g1a:=bd HX2.out 1
    have g2a:=bd HX2.out 2
    have g3a:=bd HX2.out 3
    have g4a:=bd HX2.out 4
    have g5a:=bd HX2.out 5
    go_wp2_with fail
    refine (room_calls HY2.out HW.out s.f4 s.f5 t0 t1 (by omega) hn2).mono ?_
    rintro e w2 ⟨rfl,hd⟩
    rw [show roomE Y s.f4 s.f5 = .returned (.tuple #[]) from if_pos HRO.out]
    have HB3:=am (below_then HB2.out (below_size HB2.out) hd)
    have HX3:=am (blk_below HX2.out hd)
    have HY3:=am (HY2.out.move hd)
    clear hd g0a g1a g2a g3a g4a g5a
    have g0b:=bd HX3.out 0
    have g1b:=bd HX3.out 1
    have g2b:=bd HX3.out 2
    have g3b:=bd HX3.out 3
    have g4b:=bd HX3.out 4
    have g5b:=bd HX3.out 5
    go_wp2_with fail
    refine (ahead_calls HY3.out HW.out s.f3 s.f5 h0 h1 hn1 hn2 HEN.out).mono ?_
    rintro e w3 ⟨hd,h⟩
    rcases h with ⟨h,_⟩|⟨a',b',A,c,h,rfl,hlc,hY4,hfr,hFa⟩
    ·rw [HAH.out] at h;cases h
    rw [HAH.out] at h
    injection h with h
    injection h with ha hb
    subst ha
    subst hb
    have HX4:=am ((hfr.keep W.heap.size (blk_lt HX3.out) HNX.out).1.trans HX3.out)
    have HY4:=am hY4
    have HF4:=am hFa
    have HR4:=am ((Fr.of_below L HB3.out).trans hfr)
    have HB4:=am ((HB3.out.mono hbw).trans hd)
    have HLC:=am hlc
    clear hd hlc hY4 hfr hFa g0b g1b g2b g3b g4b g5b
    obtain ⟨A2,c2,y1,y2,y3,y4⟩:=HY4.out.pit_at t0 t1
    obtain ⟨q,hq⟩ : ∃ q,q = pitP ({ Y with pits:=Y.pits.set s.f3.toNat b } : Yd) s.f4:=⟨_,rfl⟩
    rw [← hq] at y1 y2 y3
    have hql : q.length ≤ 4096:=by
     have e : q = pitP Y s.f4:=by
      rw [hq]
      unfold pitP
      rw [List.getD_eq_getElem?_getD,List.getD_eq_getElem?_getD,List.getElem?_set_ne (by omega)]
     obtain ⟨p1,p2,p3,p4⟩:=HW.out.pitOk t0 t1
     have:=held_ge p1
     rw [e]
     omega
    have HQ:=am hq
    have HQL:=am hql
    have HL2:=am y2
    clear hq hql y2
    obtain ⟨ad,had⟩ : ∃ ad : Addr,ad = ⟨L.gp,0,none⟩:=⟨_,rfl⟩
    have HAD:=am had
    have e2 : ad.add s.f4.toNat = ⟨L.gp,s.f4.toNat,none⟩:=by rw [had,add_plain]
    rw [← e2] at y1 y4
    have HPC:=am ((show w3.drew.cell? (ad.add s.f4.toNat) = w3.cell? (ad.add s.f4.toNat) from rfl).trans y1)
    have HX5:=am (blk_drew HX4.out)
    have HY5:=am (HY4.out.move (below_drew (Below.refl _ w3)))
    have HF5:=am (Kd.F_drew HF4.out)
    have HG5:=am (Kd.F_drew y3)
    have HR5:=am (HR4.out.trans (Fr.of_below L (below_drew (Below.refl _ w3))))
    have HB5:=am (below_drew HB4.out)
    have HE2:=am e2
    clear had e2 y1 y3 y4
    go_wp2
    refine start_ (n:=19) (S:=fun w' => w'.cell? ⟨L.g,1,none⟩ = some (.slice (some ad) Y.rooms.length Y.rooms.length) ∧ w'.cell? ⟨W.heap.size,4,none⟩ = some (ii s.f4) ∧ w'.cell? (ad.add s.f4.toNat) = some (.slice A2 q.length c2)) (ds:=[18]) (ab 19 0) kr rfl kr ⟨(blk_cell HY5.out.blk 1).trans (by rw [HAD.out];rfl),(blk_cell HX5.out 4).trans rfl,HPC.out⟩ (fun hHeld => ?_);refine with_tabW R224_4.tab R224_4.bits (fun HT_ HW_ => ?_)
    generalize (w3).drew = wd at HPC HX5 HY5 HF5 HG5 HR5 HB5 hHeld ⊢
    refine qA 0 (some 22) ?_;refine qA 1 (some 23) ?_;refine qA 2 (some 24) ?_;refine qT 3 (some 25) ?_;refine qA 4 (some 26) ?_;refine qT 5 (some 27) ?_;refine qA 6 (some 28) ?_;refine qA 7 (some 29) ?_;refine qA 8 (some 30) ?_;refine qT 9 (some 31) ?_;refine qA 10 (some 32) ?_;refine qT 11 (some 33) ?_;refine qA 12 (some 34) ?_;refine qT 13 (some 35) ?_;refine qA 15 (some 37) ?_
    refine qE 14 (some 36) fun K hK => ?_
    refine gC Tryz.func242 #[.slice A2 q.length c2] ?_
    refine (clone242_calls A2 c2 q _ L.Not HG5.out HL2.out (by have:=HQL.out;omega)).mono ?_
    rintro e w5 ⟨v,rfl,hB5,hRv⟩
    obtain ⟨A5,c5,rfl⟩:=Kd.R_slice hRv
    have HY6:=am (HY5.out.move hB5)
    have HX6:=am (blk_below HX5.out hB5)
    have HD6:=am hB5
    have HV6:=am hRv
    have HPC6:=am (pw_cell_below hB5 HPC.out)
    have HRW:=am (ReadsRow.imp_ (Kd.F_rows HF5.out) HD6.out (fun _ _ h => h))
    clear hB5 hRv
    refine ⟨_,rfl,?_⟩
    refine hK.out _ _ ⟨(blk_cell HY6.out.blk 1).trans (by rw [HAD.out];rfl),(blk_cell HX6.out 4).trans rfl,HPC6.out⟩ (fun hHeld => ?_)
    clear hK K
    refine qN (some 36) ?_
    refine qE 16 (some 38) fun K hK => ?_
    refine Kd.R_append_rows_step (ft k212 wd L.Not) (Rr:=fun x c => Kd.FK k212 wd L.Not x c) (w0:=wd) wd.heap.size (by rfl) (.tmp 36) (.tmp 37) 131 212 (.agg #[ii 0,.slice none 0 0]) 32 rfl Tryz.underlying131 info212 rfl (by show 0 < (k212 : Kd _).sz;decide) (by decide) (.slice A5 q.length c5) q a A a.length c (fun _ => True) (fun k => some k ≠ (Value.slice A5 q.length c5).ownBlock) rfl rfl HV6.out HRW.out (fun _ _ h => h) (fun k hk => ⟨trivial,hk⟩) (fun _ _ => trivial) HD6.out HD6.out.size ?aL ?_
    case aL => have:=HQL.out;have:=HLA.out;omega
    intro v1 w7 hr hb hg hat
    obtain ⟨A7,c7,rfl⟩:=Kd.R_slice hr
    have HV7:=am (Kd.R_reads' hr).2.1
    rw [List.length_append] at hr hat ⊢
    have HY7:=am (HY5.out.move hb)
    have HX7:=am (blk_below HX5.out hb)
    have HPC7:=am (pw_cell_below hb HPC.out)
    have hF7 : Kd.F k212 w7 L.Not A7 (q ++ a).length (q ++ a):=by
     rw [List.length_append]
     exact ft_F hr (fun k _ hlt => hb.block k hlt) (fun k hk => HY5.out.not_new (Kd.R_base hr k hk))
    obtain ⟨s1,s2,s3⟩:=HY7.out.set_pit t0 t1 HV7.out hF7
    obtain ⟨_,_,z1,_,_,z4⟩:=HY7.out.pit_at t0 t1
    rw [List.length_append] at s1 s2 s3
    have z5 : w7.frozen? (ad.add s.f4.toNat) = false:=by rw [HE2.out];exact z4
    have z6:=HPC7.out
    have HY8:=am s1
    have HR8:=am ((HR5.out.trans (Fr.of_below L hb)).trans s2)
    have HB8:=am ((HB5.out.trans (hb.mono (Nat.le_trans hbw HB5.out.size))).trans s3)
    clear hr hb hg hat hF7 s1 s2 s3 z1 z4
    refine hK.out _ _ ⟨(blk_cell HY7.out.blk 1).trans (by rw [HAD.out];rfl),(blk_cell HX7.out 4).trans rfl,HPC7.out⟩ (fun hHeld => ?_)
    clear hK K
    refine qN (some 38) ?_
    refine qA 17 (some 39) ?_
    refine qL 18 (none) fun K hK => ?_
    refine skip_ (w1:=?_) (by rfl) rfl ?_ ?_
    rotate_left
    ·go_simp
     rfl
    refine hK.out _ _ ?_
    clear hK K
    refine done_ (done_of HT_.out kr) ?_
    go_wp2
    go_end0
    rw [HE2.out]
    rw [HQ.out] at HB8 HR8 HY8 ⊢
    exact StepPost.done HB8.out rfl HR8.out HY8.out
  ·have HRO:=am hro
   clear hro
   rw [moveP_full HEN.out (by have:=HRO.out;omega)]
   go_enter Tryz.func224,Tryz.ntmps224
   go_wp2_with fail
   refine (enough_calls HY1.out HW.out s h0 h1).mono ?_
   rintro e w1 ⟨rfl,hd⟩
   rw [show enoughE Y s.f3 s.f5 = .returned (.tuple #[]) from if_pos HEN.out]
   have HB2:=am (below_then HB1.out (below_size HB1.out) hd)
   have HX2:=am (blk_below HX1.out hd)
   have HY2:=am (HY1.out.move hd)
   clear hd
   have g0a:=bd HX2.out 0
   have g1a:=bd HX2.out 1
   have g2a:=bd HX2.out 2
   have g3a:=bd HX2.out 3
   have g4a:=bd HX2.out 4
   have g5a:=bd HX2.out 5
   go_wp2_with fail
   refine (room_calls HY2.out HW.out s.f4 s.f5 t0 t1 (by omega) hn2).mono ?_
   rintro e w2 ⟨rfl,hd⟩
   rw [show roomE Y s.f4 s.f5 = Pan 2 from if_neg (by have:=HRO.out;omega)]
   have HD:=am hd
   clear hd
   unfold Pan
   go_wp2
   exact ⟨rfl,StepPost.err0 HY.out (below_then HB2.out (below_size HB2.out) HD.out)⟩
 ·have HEN:=am hen
  clear hen
  rw [moveP_little (by have:=HEN.out;omega)]
  go_enter Tryz.func224,Tryz.ntmps224
  go_wp2_with fail
  refine (enough_calls HY1.out HW.out s h0 h1).mono ?_
  rintro e w1 ⟨rfl,hd⟩
  rw [show enoughE Y s.f3 s.f5 = Pan 4 from if_neg (by have:=HEN.out;omega)]
  have HD:=am hd
  clear hd
  unfold Pan
  go_wp2
  exact ⟨rfl,StepPost.err0 HY.out (below_then HB1.out (below_size HB1.out) HD.out)⟩
def R223_3.T : Bool × List (List Nat × List Nat):=(true,[([],[]),([0],[0]),([1],[1]),([2],[2]),([],[]),([4],[4]),([],[]),([],[]),([],[]),([8],[8]),([9],[9]),([10],[10]),([],[]),([12],[12]),([11,13],[11,13]),([14],[14]),([7,15],[7,15]),([6,16],[6,16]),([17],[17]),([3,5,0,1,2,3,4,5,6,7,8,9,10,11,12,13,14,15,16,17,18],[3,5]),([19,18,16,0,1,2,3,4,5,6,7,8,9,10,11,12,13,14,15,16,17,18],[18,19])])
def R223_3.B : List Nat:=[0,1,3,7,0,16,0,0,0,256,768,1792,0,4096,16128,32512,65408,131008,262080,524287,1048575]
theorem R223_3.tab : rtab .any (opsOf Tryz.f223 3) = R223_3.T:=by kernel_rfl
theorem R223_3.bits : waitsOk R223_3.T.2 R223_3.B = true:=by kernel_rfl
theorem turnP_none {Y : Yd} {s : S84} (h : ¬ 0 < heldP (pitP Y s.f3)) : turnP Y s = .ok Y:=by unfold turnP;rw [if_neg h]
theorem turnP_sum {Y : Yd} {s : S84} (h : 0 < heldP (pitP Y s.f3)) (h2 : summedP Y.pours (pitP Y s.f3) = none) : turnP Y s = .error 3:=by unfold turnP;rw [if_pos h,h2]
theorem turnP_ok {Y : Yd} {s : S84} (h : 0 < heldP (pitP Y s.f3)) {ps : List S89} (h2 : summedP Y.pours (pitP Y s.f3) = some ps) : turnP Y s = .ok { Y with pits:=Y.pits.set s.f3.toNat [⟨heldP (pitP Y s.f3),ps⟩] }:=by unfold turnP;rw [if_pos h,h2];rfl
set_option maxRecDepth 100000 in
set_option maxHeartbeats 4000000 in
theorem turn_calls {W : World} {base m : Nat} {L : Loc} {Y : Yd} (hY : YardAt W base L Y) (hw : Wf m Y) (hm : m ≤ 60) (s : S84) (step : Int) (h0 : 0 ≤ s.f3) (h1 : s.f3 < Y.rooms.length) :
  Calls Tryz.prog 223 #[.pointer (some ⟨L.g,0,none⟩),.agg #[ii s.f0,ii s.f1,ii s.f2,ii s.f3,ii s.f4,ii s.f5],ii step] W fun e W' => StepPost W base L (turnP Y s) e W':=by
 have hu:=Tryz.underlying84
 obtain ⟨p1,p2,p3,p4⟩:=hw.pitOk h0 h1
 have HY:=am hY
 have HW:=am hw
 have HP1:=am p1
 have HHM:=am (show heldP (pitP Y s.f3) ≤ 4096 by omega)
 have HY1:=am (hY.move (below_alloc (Below.refl W.heap.size W) (.cells #[ii s.f0,ii s.f1,ii s.f2,ii s.f3,ii s.f4,ii s.f5] 84)))
 have HB1:=am (below_alloc (Below.refl W.heap.size W) (.cells #[ii s.f0,ii s.f1,ii s.f2,ii s.f3,ii s.f4,ii s.f5] 84))
 have HX1:=am (blk_new W (.cells #[ii s.f0,ii s.f1,ii s.f2,ii s.f3,ii s.f4,ii s.f5] 84))
 have hbw : base ≤ W.heap.size:=by have:=hY.gLt;omega
 clear hY hw p1 p2 p3 p4
 by_cases hpos : 0 < heldP (pitP Y s.f3)
 ·cases hsm : summedP Y.pours (pitP Y s.f3) with
 |none =>
   have HSM:=am hsm
   clear hsm
   rw [turnP_sum hpos HSM.out]
   go_enter Tryz.func223,Tryz.ntmps223
   go_wp2_with fail
   refine (held_calls HY1.out HW.out s.f3 h0 h1).mono ?_
   rintro e w1 ⟨rfl,hd⟩
   have HB2:=am (below_then HB1.out (below_size HB1.out) hd)
   have HX2:=am (blk_below HX1.out hd)
   have HY2:=am (HY1.out.move hd)
   clear hd
   obtain ⟨A2,c2,y1,y2,y3,y4⟩:=HY2.out.pit_at h0 h1
   have hql : (pitP Y s.f3).length ≤ 4096:=by have:=held_ge HP1.out;have:=HHM.out;omega
   obtain ⟨hh,hhh⟩ : ∃ hh,hh = heldP (pitP Y s.f3):=⟨_,rfl⟩
   rw [← hhh] at hpos ⊢
   have HHE:=am hhh
   clear hhh
   have HPQ:=am HP1.out
   clear HP1 HHM
   obtain ⟨q,hq⟩ : ∃ q,q = pitP Y s.f3:=⟨_,rfl⟩
   rw [← hq] at y1 y2 y3 hql HPQ HSM
   have HQ:=am hq
   have HQL:=am hql
   have HL2:=am y2
   clear hq hql y2
   obtain ⟨ad,had⟩ : ∃ ad : Addr,ad = ⟨L.gp,0,none⟩:=⟨_,rfl⟩
   have HAD:=am had
   have e2 : ad.add s.f3.toNat = ⟨L.gp,s.f3.toNat,none⟩:=by rw [had,add_plain]
   rw [← e2] at y1 y4
   have HPC:=am ((show w1.drew.cell? (ad.add s.f3.toNat) = w1.cell? (ad.add s.f3.toNat) from rfl).trans y1)
   have HX5:=am (blk_drew HX2.out)
   have HY5:=am (HY2.out.move (below_drew (Below.refl _ w1)))
   have HG5:=am (Kd.F_drew y3)
   have HB5:=am (below_drew HB2.out)
   have HE2:=am e2
   clear had e2 y1 y3 y4
   go_wp2
   refine start_ (n:=21) (S:=fun w' => w'.cell? ⟨L.g,1,none⟩ = some (.slice (some ad) Y.rooms.length Y.rooms.length) ∧ w'.cell? ⟨W.heap.size,3,none⟩ = some (ii s.f3) ∧ w'.cell? (ad.add s.f3.toNat) = some (.slice A2 q.length c2)) (ds:=[20]) (ab 21 0) kr rfl kr ⟨(blk_cell HY5.out.blk 1).trans (by rw [HAD.out];rfl),(blk_cell HX5.out 3).trans rfl,HPC.out⟩ (fun hHeld => ?_);refine with_tabW R223_3.tab R223_3.bits (fun HT_ HW_ => ?_)
   generalize (w1).drew = wd at HPC HX5 HY5 HG5 HB5 hHeld ⊢
   refine qA 0 (some 13) ?_;refine qA 1 (some 14) ?_;refine qA 2 (some 15) ?_;refine qT 3 (some 16) ?_;refine qA 4 (some 17) ?_;refine qT 5 (some 18) ?_;refine qA 6 (some 19) ?_;refine qA 7 (some 20) ?_;refine qA 8 (some 21) ?_;refine qA 9 (some 22) ?_;refine qA 10 (some 23) ?_;refine qT 11 (some 24) ?_;refine qA 12 (some 25) ?_;refine qT 13 (some 26) ?_;refine qA 14 (some 27) ?_;refine qT 15 (some 28) ?_
   refine qE 16 (some 29) fun K hK => ?_
   refine goesP_ Tryz.func245 kr rfl #[.pointer (some ⟨L.g,0,none⟩),.slice A2 q.length c2] (by rfl) rfl vn ?_
   refine (callsIn_wide.1 (summed_in 3 (Nat.le_refl 3) HY5.out HW.out.pid HW.out.npours hm A2 c2 q HPQ.out HQL.out (Kd.F_now HG5.out) HL2.out)).mono ?_
   rintro e w5 ⟨hB5,h⟩
   rcases h with ⟨_,rfl⟩|⟨ps,Ap,cp,h,_⟩
   ·exact ⟨_,rfl,rfl,StepPost.err0 HY.out (below_then HB5.out (below_size HB5.out) hB5)⟩
   ·rw [HSM.out] at h;cases h
 |some ps =>
   have HSM:=am hsm
   clear hsm
   rw [turnP_ok hpos HSM.out]
   go_enter Tryz.func223,Tryz.ntmps223
   go_wp2_with fail
   refine (held_calls HY1.out HW.out s.f3 h0 h1).mono ?_
   rintro e w1 ⟨rfl,hd⟩
   have HB2:=am (below_then HB1.out (below_size HB1.out) hd)
   have HX2:=am (blk_below HX1.out hd)
   have HY2:=am (HY1.out.move hd)
   clear hd
   obtain ⟨A2,c2,y1,y2,y3,y4⟩:=HY2.out.pit_at h0 h1
   have hql : (pitP Y s.f3).length ≤ 4096:=by have:=held_ge HP1.out;have:=HHM.out;omega
   obtain ⟨hh,hhh⟩ : ∃ hh,hh = heldP (pitP Y s.f3):=⟨_,rfl⟩
   rw [← hhh] at hpos ⊢
   have HHE:=am hhh
   clear hhh
   have HPQ:=am HP1.out
   clear HP1 HHM
   obtain ⟨q,hq⟩ : ∃ q,q = pitP Y s.f3:=⟨_,rfl⟩
   rw [← hq] at y1 y2 y3 hql HPQ HSM
   have HQ:=am hq
   have HQL:=am hql
   have HL2:=am y2
   clear hq hql y2
   obtain ⟨ad,had⟩ : ∃ ad : Addr,ad = ⟨L.gp,0,none⟩:=⟨_,rfl⟩
   have HAD:=am had
   have e2 : ad.add s.f3.toNat = ⟨L.gp,s.f3.toNat,none⟩:=by rw [had,add_plain]
   rw [← e2] at y1 y4
   have HPC:=am ((show w1.drew.cell? (ad.add s.f3.toNat) = w1.cell? (ad.add s.f3.toNat) from rfl).trans y1)
   have HX5:=am (blk_drew HX2.out)
   have HY5:=am (HY2.out.move (below_drew (Below.refl _ w1)))
   have HG5:=am (Kd.F_drew y3)
   have HB5:=am (below_drew HB2.out)
   have HE2:=am e2
   clear had e2 y1 y3 y4
   go_wp2
   refine start_ (n:=21) (S:=fun w' => w'.cell? ⟨L.g,1,none⟩ = some (.slice (some ad) Y.rooms.length Y.rooms.length) ∧ w'.cell? ⟨W.heap.size,3,none⟩ = some (ii s.f3) ∧ w'.cell? (ad.add s.f3.toNat) = some (.slice A2 q.length c2)) (ds:=[20]) (ab 21 0) kr rfl kr ⟨(blk_cell HY5.out.blk 1).trans (by rw [HAD.out];rfl),(blk_cell HX5.out 3).trans rfl,HPC.out⟩ (fun hHeld => ?_);refine with_tabW R223_3.tab R223_3.bits (fun HT_ HW_ => ?_)
   generalize (w1).drew = wd at HPC HX5 HY5 HG5 HB5 hHeld ⊢
   refine qA 0 (some 13) ?_;refine qA 1 (some 14) ?_;refine qA 2 (some 15) ?_;refine qT 3 (some 16) ?_;refine qA 4 (some 17) ?_;refine qT 5 (some 18) ?_;refine qA 6 (some 19) ?_;refine qA 7 (some 20) ?_;refine qA 8 (some 21) ?_;refine qA 9 (some 22) ?_;refine qA 10 (some 23) ?_;refine qT 11 (some 24) ?_;refine qA 12 (some 25) ?_;refine qT 13 (some 26) ?_;refine qA 14 (some 27) ?_;refine qT 15 (some 28) ?_
   refine qE 16 (some 29) fun K hK => ?_
   refine gC Tryz.func245 #[.pointer (some ⟨L.g,0,none⟩),.slice A2 q.length c2] ?_
   refine (callsIn_wide.1 (summed_in 3 (Nat.le_refl 3) HY5.out HW.out.pid HW.out.npours hm A2 c2 q HPQ.out HQL.out (Kd.F_now HG5.out) HL2.out)).mono ?_
   rintro e w5 ⟨hB5,h⟩
   rcases h with ⟨h,_⟩|⟨ps',Ap,cp,h,rfl,hlp,hFp⟩
   ·rw [HSM.out] at h;cases h
   have hpe : ps = ps':=by rw [HSM.out] at h;injection h
   subst hpe
   have HY6:=am (HY5.out.move hB5)
   have HX6:=am (blk_below HX5.out hB5)
   have HB6:=am (below_then HB5.out (below_size HB5.out) hB5)
   have HPC6:=am (pw_cell_below hB5 HPC.out)
   have HK6:=am (k212_mkF w5 (fun k => wd.heap.size ≤ k) ⟨hh,ps⟩ hlp hFp)
   have HS6:=am hB5.size
   clear hB5 h hlp hFp
   refine ⟨_,rfl,?_⟩
   refine hK.out _ _ ⟨(blk_cell HY6.out.blk 1).trans (by rw [HAD.out];rfl),(blk_cell HX6.out 3).trans rfl,HPC6.out⟩ (fun hHeld => ?_)
   clear hK K
   refine qN (some 29) ?_
   refine qA 17 (some 30) ?_
   refine qE 18 (some 31) fun K hK => ?_
   refine Kd.N_lit_step k212 (w0:=w5) w5.heap.size 212 (by rfl) rfl (xs:=[⟨hh,ps⟩]) (inner:=[ii hh,.slice Ap ps.length cp]) (ok:=L.Not) (okp:=fun k => wd.heap.size ≤ k) ?run ?rep ?ok ?fr (Below.refl _ _) (Nat.le_refl _) (by simp) ?_
   case run => go_simp
   case rep => exact (Reps.none _ _).snoc HK6.out rfl
   case ok => exact fun k hk => HY5.out.not_new hk
   case fr => exact HY6.out.not_new (Nat.le_refl _)
   intro v6 w6 hn6 hb6 hg6 hat6
   obtain ⟨A6,c6,rfl⟩:=Kd.N_slice hn6
   have HY7:=am (HY6.out.move hb6)
   have HX7:=am (blk_below HX6.out hb6)
   have HPC7:=am (pw_cell_below hb6 HPC6.out)
   have hF7:=Kd.N_F hn6
   obtain ⟨s1,s2,s3⟩:=HY7.out.set_pit h0 h1 (Kd.N_reads' hn6).2.1 hF7
   obtain ⟨_,_,z1,_,_,z4⟩:=HY7.out.pit_at h0 h1
   have z5 : w6.frozen? (ad.add s.f3.toNat) = false:=by rw [HE2.out];exact z4
   have z6:=HPC7.out
   have HY8:=am s1
   have HR8:=am ((Fr.of_below L (below_then HB6.out (below_size HB6.out) hb6)).trans s2)
   have HB8:=am (((below_then HB6.out (below_size HB6.out) hb6).mono hbw).trans s3)
   clear hn6 hb6 hg6 hat6 hF7 s1 s2 s3 z1 z4
   refine hK.out _ _ ⟨(blk_cell HY7.out.blk 1).trans (by rw [HAD.out];rfl),(blk_cell HX7.out 3).trans rfl,HPC7.out⟩ (fun hHeld => ?_)
   clear hK K
   refine qN (some 31) ?_
   refine qA 19 (some 32) ?_
   refine qL 20 (none) fun K hK => ?_
   refine skip_ (w1:=?_) (by rfl) rfl ?_ ?_
   rotate_left
   ·go_simp
    rfl
   refine hK.out _ _ ?_
   clear hK K
   refine done_ (done_of HT_.out kr) ?_
   go_wp2
   go_end0
   rw [HE2.out]
   have e0:=HHE.out
   subst e0
   exact StepPost.done HB8.out rfl HR8.out HY8.out
 ·rw [turnP_none hpos]
  go_enter Tryz.func223,Tryz.ntmps223
  go_wp2_with fail
  refine (held_calls HY1.out HW.out s.f3 h0 h1).mono ?_
  rintro e w1 ⟨rfl,hd⟩
  have HB2:=am (below_then HB1.out (below_size HB1.out) hd)
  have HX2:=am (blk_below HX1.out hd)
  have HY2:=am (HY1.out.move hd)
  clear hd
  obtain ⟨hh,hhh⟩ : ∃ hh,hh = heldP (pitP Y s.f3):=⟨_,rfl⟩
  rw [← hhh] at hpos ⊢
  go_wp2
  go_end0
  exact StepPost.done (HB2.out.mono hbw) rfl (Fr.of_below L HB2.out) HY2.out
theorem ta325 (c : Int) (W : World) : (Instr.typeAssert (.iface 325 (.agg #[ii c])) 20 325 false).run Tryz.prog W = .ok (.agg #[ii c]) W:=by kernel_rfl
theorem fd325 (c : Int) (W : World) : (Instr.field 325 (.agg #[ii c]) 0).run Tryz.prog W = .ok (ii c) W:=by kernel_rfl
theorem do1_panic (c x : Int) (p : Addr) (W : World) (hc : W.cell? p = some (ii x)) (hz : W.frozen? p = false) :
  CallsD Tryz.prog 220 #[.pointer (some p)] (.panicking [{ v:=.iface 325 (.agg #[ii c]),recovered:=false }]) W fun e u' w' => e = .returned (.tuple #[]) ∧ u' = .panicking [{ v:=.iface 325 (.agg #[ii c]),recovered:=true }] ∧ w' = W.setCell p (ii c):=by
 refine callsD_of_wpS Tryz.func220 rfl fun c₀ cs hu => ?_
 apply wpS_seq
 apply wpS_region
 simp [wpOpsS,go_sem,recoverD,hu,Tryz.ntmps220,Exit.thenS]
 apply wpS_seq
 apply wpS_region
 simp [wpOpsS,go_sem,recoverD,hu,Tryz.ntmps220,Exit.thenS]
 refine wpS_cond (t:=true) (by simp [Act.eval,Array.replicate]) ?_
 simp only [if_true]
 apply wpS_region
 simp [wpOpsS,go_sem,hc,hz,bodyPostS,results,Tryz.results220,ta325,fd325]
theorem do1_idle (p : Addr) (w : World) :
  CallsD Tryz.prog 220 #[.pointer (some p)] .returning w fun e u' w' => e = .returned (.tuple #[]) ∧ u' = .returning ∧ w' = w:=by
 refine callsD_of_wpS Tryz.func220 rfl fun c₀ cs hu => ?_
 apply wpS_seq
 apply wpS_region
 simp [wpOpsS,go_sem,recoverD,hu,Tryz.ntmps220,Exit.thenS]
 apply wpS_seq
 apply wpS_region
 simp [wpOpsS,go_sem,recoverD,hu,Tryz.ntmps220,Exit.thenS]
 refine wpS_cond (t:=false) (by simp [Act.eval,Array.replicate]) ?_
 simp only [Bool.false_eq_true,if_false]
 refine wpS_of_wp (wp_skip ?_)
 cases c₀
 simp_all [bodyPostS,results,Tryz.results220]
theorem wpList_insert_map {P : Program} (w : World) {ops : Array Oper} {rest : List Oper} {o : Oper} {a : Act} {Q : Exit → Act → World → Prop}
  (hg : o.guard = none) (m x v : Operand) (t : TypeId) (hop : o.op = Op.insert t m x v)
  (k e : TypeId) (K : Go.Maps.Keyed P k) (ht : P.underlying t = some (.map k e)) {κ ν : Type} [DecidableEq κ] (ek : κ → Value) (ev : ν → Value) (b n : Nat) (M : κ → Option ν)
  (hm : a.eval m = .map (some b)) (h : MapIs P k ek ev w b n M) (hn : n < maxLen) (c : κ) (y : ν) (kl : Lit) (hx : a.eval x = ek c) (hv : a.eval v = ev y) (hkey : keyOf P k (ek c) = some kl) (hinj : ∀ c',ek c' = ek c → c' = c)
  (hK : ∀ w',MapIs P k ek ev w' b (n + 1) (fun c' => if c' = c then some y else M c') → w.grownBy w' (some b) → wpList P ops Q rest (a.put o.dst undef) w') :
  wpList P ops Q (o :: rest) a w:=by
 refine wpList_plain hg fun K' hK' => ?_
 obtain ⟨w',hrun,r1,r2⟩:=h.update K ht hn y hkey hinj
 unfold Oper.wp
 simp [execOp,hop,hm,hx,hv,hrun,Result.andThen]
 exact hK' _ _ (hK w' r1 r2)
theorem zero326 (w : World) : (zeroValue 326).run Tryz.prog w = .ok .nilFunc w:=by kernel_rfl
theorem below_same {w : World} {b t : Nat} {v : Value} (h : w.heap[b]? = some (.cells #[v] t (0,0))) : Below w.heap.size w (w.setCell ⟨b,0,none⟩ v):=by
 have h1:=(Below.refl b w).setCell (p:=⟨b,0,none⟩) (Nat.le_refl b) v
 refine ⟨h1.os,h1.tape,h1.output,h1.size,fun k hk => ?_⟩
 by_cases e : k = b
 ·rw [e]
  exact (blk_put (cs':=#[v]) h 0 v rfl).trans h.symm
 ·exact Below.heap_setCell w ⟨b,0,none⟩ v k e
theorem fr_set {W w6 : World} {L L' : Loc} {b j : Nat} (h : Fr W L w6 L') (hb : W.heap.size ≤ b) (u : Value) : Fr W L (w6.setCell ⟨b,j,none⟩ u) L' :=
 ⟨by rw [World.size_setCell];exact h.size,fun k hk hn => ⟨(Below.heap_setCell w6 ⟨b,j,none⟩ u k (by show k ≠ b;omega)).trans (h.keep k hk hn).1,(h.keep k hk hn).2⟩,h.bad⟩
def fnV (g : Nat) (k : Nat) : Value:=.func (.func k) #[.pointer (some ⟨g,0,none⟩)] #[]
def DoPost (W : World) (base : Nat) (L : Loc) (r : Except Int Yd) (e : Ending) (W' : World) : Prop :=
 Below base W W' ∧ ∃ L',L'.g = L.g ∧ Fr W L W' L' ∧ (match r with
 |.ok Y' => e = .returned (ii 0) ∧ YardAt W' base L' Y'
 |.error c => e = .returned (ii c))
set_option maxRecDepth 100000 in
set_option maxHeartbeats 4000000 in
theorem do_calls {W : World} {base m : Nat} {L : Loc} {Y : Yd} (hY : YardAt W base L Y) (hw : Wf m Y) (hm : m ≤ 60) (s : S84) (step : Int) (hf : Formed Y.rooms.length s) :
  Calls Tryz.prog 177 #[.pointer (some ⟨L.g,0,none⟩),.agg #[ii s.f0,ii s.f1,ii s.f2,ii s.f3,ii s.f4,ii s.f5],ii step] W fun e W' => DoPost W base L (stepP Y s step) e W':=by
 have hmf : ∀ (fn : Fn) (first cap : Array Value) (w : World),(Instr.makeFunc fn first cap).run Tryz.prog w = .ok (.func fn first cap) w:=fun _ _ _ _ => rfl
 have hmm:=@run_makeMap Tryz.prog
 have hu:=Tryz.underlying84
 have HY:=am hY
 have HW:=am hw
 have HFo:=am hf
 clear hY hw hf
 have hbw : base ≤ W.heap.size:=by have:=HY.out.gLt;omega
 have HNN:=am (fun k (hk : W.heap.size ≤ k) => HY.out.not_new hk)
 have hm0:=MapIs.made ((W.alloc (.cells #[ii s.f0,ii s.f1,ii s.f2,ii s.f3,ii s.f4,ii s.f5] 84)).alloc (.cells #[ii 0] 34)) Tryz.prog 3 ekI (fun v : Value => v)
 have hall : ∀ w5 : World,(((W.alloc (.cells #[ii s.f0,ii s.f1,ii s.f2,ii s.f3,ii s.f4,ii s.f5] 84)).alloc (.cells #[ii 0] 34)).alloc (.map #[] 0)).grownBy w5 (some (W.heap.size + 1 + 1)) → Below W.heap.size W w5 ∧ w5.heap[W.heap.size]? = some (.cells #[ii s.f0,ii s.f1,ii s.f2,ii s.f3,ii s.f4,ii s.f5] 84) ∧ w5.heap[W.heap.size + 1]? = some (.cells #[ii 0] 34):=fun w5 hg => by
  have b1:=below_alloc (below_alloc (below_alloc (Below.refl W.heap.size W) (.cells #[ii s.f0,ii s.f1,ii s.f2,ii s.f3,ii s.f4,ii s.f5] 84)) (.cells #[ii 0] 34)) (.map #[] 0)
  have b2:=blk_alloc (blk_alloc (blk_new W (.cells #[ii s.f0,ii s.f1,ii s.f2,ii s.f3,ii s.f4,ii s.f5] 84)) (.cells #[ii 0] 34)) (.map #[] 0)
  have b3:=blk_alloc (blk_new' (W.alloc (.cells #[ii s.f0,ii s.f1,ii s.f2,ii s.f3,ii s.f4,ii s.f5] 84)) (.cells #[ii 0] 34) (W.heap.size + 1) (by simp)) (.map #[] 0)
  exact ⟨b1.grown hg (below_size b1) (fun k e => by cases e;omega),(hg.block _ (blk_lt b2) (fun e => by injection e;omega)).trans b2,(hg.block _ (blk_lt b3) (fun e => by injection e;omega)).trans b3⟩
 rw [World.size_alloc,World.size_alloc] at hm0
 have HM0:=am hm0
 have HALL:=am (show ∀ w5 : World,(((W.alloc (.cells #[ii s.f0,ii s.f1,ii s.f2,ii s.f3,ii s.f4,ii s.f5] 84)).alloc (.cells #[ii 0] 34)).alloc (.map #[] 0)).grownBy w5 (some (W.heap.size + 1 + 1)) → Aside0 (YardAt w5 base L Y) ∧ Aside0 (Below base W w5) ∧ Aside0 (w5.heap[W.heap.size]? = some (.cells #[ii s.f0,ii s.f1,ii s.f2,ii s.f3,ii s.f4,ii s.f5] 84)) ∧ Aside0 (w5.heap[W.heap.size + 1]? = some (.cells #[ii 0] 34)) from fun w5 hg => ⟨⟨HY.out.move (hall w5 hg).1⟩,⟨(hall w5 hg).1.mono hbw⟩,⟨(hall w5 hg).2.1⟩,⟨(hall w5 hg).2.2⟩⟩)
 have HF5:=am (fun (w5 : World) hg => Fr.of_below L (hall w5 hg).1)
 clear hm0 hall
 have hf3:=HFo.out.pit.1
 have hf4:=HFo.out.pit.2
 have hkind:=HFo.out.kind
 by_cases hk1 : s.f1 = 1
 ·have HK:=am hk1
  have hf5:=(HFo.out.amount (by omega)).1
  have hf6:=(HFo.out.amount (by omega)).2
  rw [show stepP Y s step = pourP Y s by unfold stepP;rw [if_pos hk1]]
  clear hk1 hkind
  cases hr : pourP Y s with
 |error c =>
   have HR:=am hr
   clear hr
   go_enter_defers Tryz.func177,Tryz.ntmps177
   go_wp2_with (first
   |(refine wpList_insert_map _ rfl _ _ _ 327 rfl 3 326 law3 Tryz.underlying327 ekI (fun v : Value => v) (W.heap.size + 1 + 1) 0 _ rfl HM0.out (by decide) 1 (fnV L.g 221) _ rfl rfl (keyI 1 (by decide) (by decide)) (fun _ => ekI_inj) ?_;intro w1 hm_ hg_;have HM1:=am hm_;have HG1:=am (hg_);clear hm_ hg_)
   |(refine wpList_insert_map _ rfl _ _ _ 327 rfl 3 326 law3 Tryz.underlying327 ekI (fun v : Value => v) (W.heap.size + 1 + 1) 1 _ rfl HM1.out (by decide) 2 (fnV L.g 222) _ rfl rfl (keyI 2 (by decide) (by decide)) (fun _ => ekI_inj) ?_;intro w2 hm_ hg_;have HM2:=am hm_;have HG2:=am (HG1.out.trans hg_);clear hm_ hg_)
   |(refine wpList_insert_map _ rfl _ _ _ 327 rfl 3 326 law3 Tryz.underlying327 ekI (fun v : Value => v) (W.heap.size + 1 + 1) 2 _ rfl HM2.out (by decide) 3 (fnV L.g 223) _ rfl rfl (keyI 3 (by decide) (by decide)) (fun _ => ekI_inj) ?_;intro w3 hm_ hg_;have HM3:=am hm_;have HG3:=am (HG2.out.trans hg_);clear hm_ hg_)
   |(refine wpList_insert_map _ rfl _ _ _ 327 rfl 3 326 law3 Tryz.underlying327 ekI (fun v : Value => v) (W.heap.size + 1 + 1) 3 _ rfl HM3.out (by decide) 4 (fnV L.g 224) _ rfl rfl (keyI 4 (by decide) (by decide)) (fun _ => ekI_inj) ?_;intro w4 hm_ hg_;have HM4:=am hm_;have HG4:=am (HG3.out.trans hg_);clear hm_ hg_)
   |(refine wpList_insert_map _ rfl _ _ _ 327 rfl 3 326 law3 Tryz.underlying327 ekI (fun v : Value => v) (W.heap.size + 1 + 1) 4 _ rfl HM4.out (by decide) 5 (fnV L.g 225) _ rfl rfl (keyI 5 (by decide) (by decide)) (fun _ => ekI_inj) ?_;intro w5 hm_ hg_;have HM5:=am hm_;have HG5:=am (HG4.out.trans hg_);clear hm_ hg_;obtain ⟨HY5,HB5,HX5,HZ5⟩:=HALL.out w5 HG5.out;have g0:=bd HX5.out 0;have g1:=bd HX5.out 1;have g2:=bd HX5.out 2;have g3:=bd HX5.out 3;have g4:=bd HX5.out 4;have g5:=bd HX5.out 5)
   |(refine wpList_lookup_map _ rfl _ _ 327 false rfl 3 326 law3 Tryz.underlying327 .nilFunc (zero326 _) ekI (fun v : Value => v) (W.heap.size + 1 + 1) 5 _ rfl HM5.out s.f1 _ rfl (keyI s.f1 (by have:=HK.out;omega) (by have:=HK.out;omega)) (.func (.func 221) #[.pointer (some ⟨L.g,0,none⟩)] #[]) (by simp [HK.out,fnV]) ?_)
   |fail)
   refine (pour_calls HY5.out HW.out hm s step hf3 hf4 hf5 hf6).mono ?_
   rintro e w6 ⟨hb,L',hg,hfr,h⟩
   rw [HR.out] at h
   have z1:=(hfr.keep (W.heap.size + 1) (blk_lt HZ5.out) (HNN.out _ (by omega))).1.trans HZ5.out
   have HB6:=am (HB5.out.trans hb)
   have HF6:=am (show Fr W L w6 L' from HF5.out w5 HG5.out |>.trans hfr)
   have HZ6:=am z1
   have HGG:=am hg
   clear hb hg hfr g0 g1 g2 g3 g4 g5
   have u0:=bd z1 0
   have u1:=blk_frozen z1 0
   clear z1
   subst h
   unfold Pan
   go_wp2
   refine leaves_cons (f:=220) (args:=#[.pointer (some ⟨W.heap.size + 1,0,none⟩)]) (by simp) (by simp [go_sem]) ?_
   refine (do1_panic c 0 ⟨W.heap.size + 1,0,none⟩ _ u0 u1).mono ?_
   rintro e u' w'' ⟨rfl,rfl,rfl⟩
   have s4:=(blk_cell (blk_put (cs':=#[ii c]) HZ6.out 0 (ii c) rfl) 0).trans (show _ = some (Value.int .i64 c) from rfl)
   exact ⟨_,by simp [results,Tryz.results177,go_sem,s4],HB6.out.trans ((Below.refl base w6).setCell (show base ≤ W.heap.size + 1 by omega) _),L',HGG.out,fr_set HF6.out (Nat.le_succ _) _,rfl⟩
 |ok Y' =>
   have HR:=am hr
   clear hr
   go_enter_defers Tryz.func177,Tryz.ntmps177
   go_wp2_with (first
   |(refine wpList_insert_map _ rfl _ _ _ 327 rfl 3 326 law3 Tryz.underlying327 ekI (fun v : Value => v) (W.heap.size + 1 + 1) 0 _ rfl HM0.out (by decide) 1 (fnV L.g 221) _ rfl rfl (keyI 1 (by decide) (by decide)) (fun _ => ekI_inj) ?_;intro w1 hm_ hg_;have HM1:=am hm_;have HG1:=am (hg_);clear hm_ hg_)
   |(refine wpList_insert_map _ rfl _ _ _ 327 rfl 3 326 law3 Tryz.underlying327 ekI (fun v : Value => v) (W.heap.size + 1 + 1) 1 _ rfl HM1.out (by decide) 2 (fnV L.g 222) _ rfl rfl (keyI 2 (by decide) (by decide)) (fun _ => ekI_inj) ?_;intro w2 hm_ hg_;have HM2:=am hm_;have HG2:=am (HG1.out.trans hg_);clear hm_ hg_)
   |(refine wpList_insert_map _ rfl _ _ _ 327 rfl 3 326 law3 Tryz.underlying327 ekI (fun v : Value => v) (W.heap.size + 1 + 1) 2 _ rfl HM2.out (by decide) 3 (fnV L.g 223) _ rfl rfl (keyI 3 (by decide) (by decide)) (fun _ => ekI_inj) ?_;intro w3 hm_ hg_;have HM3:=am hm_;have HG3:=am (HG2.out.trans hg_);clear hm_ hg_)
   |(refine wpList_insert_map _ rfl _ _ _ 327 rfl 3 326 law3 Tryz.underlying327 ekI (fun v : Value => v) (W.heap.size + 1 + 1) 3 _ rfl HM3.out (by decide) 4 (fnV L.g 224) _ rfl rfl (keyI 4 (by decide) (by decide)) (fun _ => ekI_inj) ?_;intro w4 hm_ hg_;have HM4:=am hm_;have HG4:=am (HG3.out.trans hg_);clear hm_ hg_)
   |(refine wpList_insert_map _ rfl _ _ _ 327 rfl 3 326 law3 Tryz.underlying327 ekI (fun v : Value => v) (W.heap.size + 1 + 1) 4 _ rfl HM4.out (by decide) 5 (fnV L.g 225) _ rfl rfl (keyI 5 (by decide) (by decide)) (fun _ => ekI_inj) ?_;intro w5 hm_ hg_;have HM5:=am hm_;have HG5:=am (HG4.out.trans hg_);clear hm_ hg_;obtain ⟨HY5,HB5,HX5,HZ5⟩:=HALL.out w5 HG5.out;have g0:=bd HX5.out 0;have g1:=bd HX5.out 1;have g2:=bd HX5.out 2;have g3:=bd HX5.out 3;have g4:=bd HX5.out 4;have g5:=bd HX5.out 5)
   |(refine wpList_lookup_map _ rfl _ _ 327 false rfl 3 326 law3 Tryz.underlying327 .nilFunc (zero326 _) ekI (fun v : Value => v) (W.heap.size + 1 + 1) 5 _ rfl HM5.out s.f1 _ rfl (keyI s.f1 (by have:=HK.out;omega) (by have:=HK.out;omega)) (.func (.func 221) #[.pointer (some ⟨L.g,0,none⟩)] #[]) (by simp [HK.out,fnV]) ?_)
   |fail)
   refine (pour_calls HY5.out HW.out hm s step hf3 hf4 hf5 hf6).mono ?_
   rintro e w6 ⟨hb,L',hg,hfr,h⟩
   rw [HR.out] at h
   have z1:=(hfr.keep (W.heap.size + 1) (blk_lt HZ5.out) (HNN.out _ (by omega))).1.trans HZ5.out
   have HB6:=am (HB5.out.trans hb)
   have HF6:=am (show Fr W L w6 L' from HF5.out w5 HG5.out |>.trans hfr)
   have HZ6:=am z1
   have HGG:=am hg
   clear hb hg hfr g0 g1 g2 g3 g4 g5
   have u0:=bd z1 0
   have u1:=blk_frozen z1 0
   clear z1
   obtain ⟨rfl,hY'⟩:=h
   have HY6:=am hY'
   clear hY'
   go_wp2
   refine leaves_cons (f:=220) (args:=#[.pointer (some ⟨W.heap.size + 1,0,none⟩)]) (by simp) (by simp [go_sem]) ?_
   refine (do1_idle ⟨W.heap.size + 1,0,none⟩ _).mono ?_
   rintro e u' w'' ⟨rfl,rfl,rfl⟩
   have hS:=below_same HZ6.out
   have s4:=(blk_cell (blk_put (cs':=#[ii 0]) HZ6.out 0 (ii 0) rfl) 0).trans (show _ = some (Value.int .i64 0) from rfl)
   exact ⟨_,by simp [results,Tryz.results177,go_sem,s4],HB6.out.trans (hS.mono (Nat.le_trans hbw (HF6.out.size))),L',HGG.out,HF6.out.trans (Fr.of_below L' hS),rfl,HY6.out.move hS⟩
 by_cases hk2 : s.f1 = 2
 ·have HK:=am hk2
  have hf5:=(HFo.out.amount (by omega)).1
  have hf6:=(HFo.out.amount (by omega)).2
  rw [show stepP Y s step = takeP Y s step by unfold stepP;rw [if_neg hk1,if_pos hk2]]
  clear hk1 hk2 hkind
  cases hr : takeP Y s step with
 |error c =>
   have HR:=am hr
   clear hr
   go_enter_defers Tryz.func177,Tryz.ntmps177
   go_wp2_with (first
   |(refine wpList_insert_map _ rfl _ _ _ 327 rfl 3 326 law3 Tryz.underlying327 ekI (fun v : Value => v) (W.heap.size + 1 + 1) 0 _ rfl HM0.out (by decide) 1 (fnV L.g 221) _ rfl rfl (keyI 1 (by decide) (by decide)) (fun _ => ekI_inj) ?_;intro w1 hm_ hg_;have HM1:=am hm_;have HG1:=am (hg_);clear hm_ hg_)
   |(refine wpList_insert_map _ rfl _ _ _ 327 rfl 3 326 law3 Tryz.underlying327 ekI (fun v : Value => v) (W.heap.size + 1 + 1) 1 _ rfl HM1.out (by decide) 2 (fnV L.g 222) _ rfl rfl (keyI 2 (by decide) (by decide)) (fun _ => ekI_inj) ?_;intro w2 hm_ hg_;have HM2:=am hm_;have HG2:=am (HG1.out.trans hg_);clear hm_ hg_)
   |(refine wpList_insert_map _ rfl _ _ _ 327 rfl 3 326 law3 Tryz.underlying327 ekI (fun v : Value => v) (W.heap.size + 1 + 1) 2 _ rfl HM2.out (by decide) 3 (fnV L.g 223) _ rfl rfl (keyI 3 (by decide) (by decide)) (fun _ => ekI_inj) ?_;intro w3 hm_ hg_;have HM3:=am hm_;have HG3:=am (HG2.out.trans hg_);clear hm_ hg_)
   |(refine wpList_insert_map _ rfl _ _ _ 327 rfl 3 326 law3 Tryz.underlying327 ekI (fun v : Value => v) (W.heap.size + 1 + 1) 3 _ rfl HM3.out (by decide) 4 (fnV L.g 224) _ rfl rfl (keyI 4 (by decide) (by decide)) (fun _ => ekI_inj) ?_;intro w4 hm_ hg_;have HM4:=am hm_;have HG4:=am (HG3.out.trans hg_);clear hm_ hg_)
   |(refine wpList_insert_map _ rfl _ _ _ 327 rfl 3 326 law3 Tryz.underlying327 ekI (fun v : Value => v) (W.heap.size + 1 + 1) 4 _ rfl HM4.out (by decide) 5 (fnV L.g 225) _ rfl rfl (keyI 5 (by decide) (by decide)) (fun _ => ekI_inj) ?_;intro w5 hm_ hg_;have HM5:=am hm_;have HG5:=am (HG4.out.trans hg_);clear hm_ hg_;obtain ⟨HY5,HB5,HX5,HZ5⟩:=HALL.out w5 HG5.out;have g0:=bd HX5.out 0;have g1:=bd HX5.out 1;have g2:=bd HX5.out 2;have g3:=bd HX5.out 3;have g4:=bd HX5.out 4;have g5:=bd HX5.out 5)
   |(refine wpList_lookup_map _ rfl _ _ 327 false rfl 3 326 law3 Tryz.underlying327 .nilFunc (zero326 _) ekI (fun v : Value => v) (W.heap.size + 1 + 1) 5 _ rfl HM5.out s.f1 _ rfl (keyI s.f1 (by have:=HK.out;omega) (by have:=HK.out;omega)) (.func (.func 222) #[.pointer (some ⟨L.g,0,none⟩)] #[]) (by simp [HK.out,fnV]) ?_)
   |fail)
   refine (take_calls HY5.out HW.out hm s step hf3 hf4 hf5 hf6).mono ?_
   rintro e w6 ⟨hb,L',hg,hfr,h⟩
   rw [HR.out] at h
   have z1:=(hfr.keep (W.heap.size + 1) (blk_lt HZ5.out) (HNN.out _ (by omega))).1.trans HZ5.out
   have HB6:=am (HB5.out.trans hb)
   have HF6:=am (show Fr W L w6 L' from HF5.out w5 HG5.out |>.trans hfr)
   have HZ6:=am z1
   have HGG:=am hg
   clear hb hg hfr g0 g1 g2 g3 g4 g5
   have u0:=bd z1 0
   have u1:=blk_frozen z1 0
   clear z1
   subst h
   unfold Pan
   go_wp2
   refine leaves_cons (f:=220) (args:=#[.pointer (some ⟨W.heap.size + 1,0,none⟩)]) (by simp) (by simp [go_sem]) ?_
   refine (do1_panic c 0 ⟨W.heap.size + 1,0,none⟩ _ u0 u1).mono ?_
   rintro e u' w'' ⟨rfl,rfl,rfl⟩
   have s4:=(blk_cell (blk_put (cs':=#[ii c]) HZ6.out 0 (ii c) rfl) 0).trans (show _ = some (Value.int .i64 c) from rfl)
   exact ⟨_,by simp [results,Tryz.results177,go_sem,s4],HB6.out.trans ((Below.refl base w6).setCell (show base ≤ W.heap.size + 1 by omega) _),L',HGG.out,fr_set HF6.out (Nat.le_succ _) _,rfl⟩
 |ok Y' =>
   have HR:=am hr
   clear hr
   go_enter_defers Tryz.func177,Tryz.ntmps177
   go_wp2_with (first
   |(refine wpList_insert_map _ rfl _ _ _ 327 rfl 3 326 law3 Tryz.underlying327 ekI (fun v : Value => v) (W.heap.size + 1 + 1) 0 _ rfl HM0.out (by decide) 1 (fnV L.g 221) _ rfl rfl (keyI 1 (by decide) (by decide)) (fun _ => ekI_inj) ?_;intro w1 hm_ hg_;have HM1:=am hm_;have HG1:=am (hg_);clear hm_ hg_)
   |(refine wpList_insert_map _ rfl _ _ _ 327 rfl 3 326 law3 Tryz.underlying327 ekI (fun v : Value => v) (W.heap.size + 1 + 1) 1 _ rfl HM1.out (by decide) 2 (fnV L.g 222) _ rfl rfl (keyI 2 (by decide) (by decide)) (fun _ => ekI_inj) ?_;intro w2 hm_ hg_;have HM2:=am hm_;have HG2:=am (HG1.out.trans hg_);clear hm_ hg_)
   |(refine wpList_insert_map _ rfl _ _ _ 327 rfl 3 326 law3 Tryz.underlying327 ekI (fun v : Value => v) (W.heap.size + 1 + 1) 2 _ rfl HM2.out (by decide) 3 (fnV L.g 223) _ rfl rfl (keyI 3 (by decide) (by decide)) (fun _ => ekI_inj) ?_;intro w3 hm_ hg_;have HM3:=am hm_;have HG3:=am (HG2.out.trans hg_);clear hm_ hg_)
   |(refine wpList_insert_map _ rfl _ _ _ 327 rfl 3 326 law3 Tryz.underlying327 ekI (fun v : Value => v) (W.heap.size + 1 + 1) 3 _ rfl HM3.out (by decide) 4 (fnV L.g 224) _ rfl rfl (keyI 4 (by decide) (by decide)) (fun _ => ekI_inj) ?_;intro w4 hm_ hg_;have HM4:=am hm_;have HG4:=am (HG3.out.trans hg_);clear hm_ hg_)
   |(refine wpList_insert_map _ rfl _ _ _ 327 rfl 3 326 law3 Tryz.underlying327 ekI (fun v : Value => v) (W.heap.size + 1 + 1) 4 _ rfl HM4.out (by decide) 5 (fnV L.g 225) _ rfl rfl (keyI 5 (by decide) (by decide)) (fun _ => ekI_inj) ?_;intro w5 hm_ hg_;have HM5:=am hm_;have HG5:=am (HG4.out.trans hg_);clear hm_ hg_;obtain ⟨HY5,HB5,HX5,HZ5⟩:=HALL.out w5 HG5.out;have g0:=bd HX5.out 0;have g1:=bd HX5.out 1;have g2:=bd HX5.out 2;have g3:=bd HX5.out 3;have g4:=bd HX5.out 4;have g5:=bd HX5.out 5)
   |(refine wpList_lookup_map _ rfl _ _ 327 false rfl 3 326 law3 Tryz.underlying327 .nilFunc (zero326 _) ekI (fun v : Value => v) (W.heap.size + 1 + 1) 5 _ rfl HM5.out s.f1 _ rfl (keyI s.f1 (by have:=HK.out;omega) (by have:=HK.out;omega)) (.func (.func 222) #[.pointer (some ⟨L.g,0,none⟩)] #[]) (by simp [HK.out,fnV]) ?_)
   |fail)
   refine (take_calls HY5.out HW.out hm s step hf3 hf4 hf5 hf6).mono ?_
   rintro e w6 ⟨hb,L',hg,hfr,h⟩
   rw [HR.out] at h
   have z1:=(hfr.keep (W.heap.size + 1) (blk_lt HZ5.out) (HNN.out _ (by omega))).1.trans HZ5.out
   have HB6:=am (HB5.out.trans hb)
   have HF6:=am (show Fr W L w6 L' from HF5.out w5 HG5.out |>.trans hfr)
   have HZ6:=am z1
   have HGG:=am hg
   clear hb hg hfr g0 g1 g2 g3 g4 g5
   have u0:=bd z1 0
   have u1:=blk_frozen z1 0
   clear z1
   obtain ⟨rfl,hY'⟩:=h
   have HY6:=am hY'
   clear hY'
   go_wp2
   refine leaves_cons (f:=220) (args:=#[.pointer (some ⟨W.heap.size + 1,0,none⟩)]) (by simp) (by simp [go_sem]) ?_
   refine (do1_idle ⟨W.heap.size + 1,0,none⟩ _).mono ?_
   rintro e u' w'' ⟨rfl,rfl,rfl⟩
   have hS:=below_same HZ6.out
   have s4:=(blk_cell (blk_put (cs':=#[ii 0]) HZ6.out 0 (ii 0) rfl) 0).trans (show _ = some (Value.int .i64 0) from rfl)
   exact ⟨_,by simp [results,Tryz.results177,go_sem,s4],HB6.out.trans (hS.mono (Nat.le_trans hbw (HF6.out.size))),L',HGG.out,HF6.out.trans (Fr.of_below L' hS),rfl,HY6.out.move hS⟩
 by_cases hk3 : s.f1 = 3
 ·have HK:=am hk3
  rw [show stepP Y s step = turnP Y s by unfold stepP;rw [if_neg hk1,if_neg hk2,if_pos hk3]]
  clear hk1 hk2 hk3 hkind
  cases hr : turnP Y s with
 |error c =>
   have HR:=am hr
   clear hr
   go_enter_defers Tryz.func177,Tryz.ntmps177
   go_wp2_with (first
   |(refine wpList_insert_map _ rfl _ _ _ 327 rfl 3 326 law3 Tryz.underlying327 ekI (fun v : Value => v) (W.heap.size + 1 + 1) 0 _ rfl HM0.out (by decide) 1 (fnV L.g 221) _ rfl rfl (keyI 1 (by decide) (by decide)) (fun _ => ekI_inj) ?_;intro w1 hm_ hg_;have HM1:=am hm_;have HG1:=am (hg_);clear hm_ hg_)
   |(refine wpList_insert_map _ rfl _ _ _ 327 rfl 3 326 law3 Tryz.underlying327 ekI (fun v : Value => v) (W.heap.size + 1 + 1) 1 _ rfl HM1.out (by decide) 2 (fnV L.g 222) _ rfl rfl (keyI 2 (by decide) (by decide)) (fun _ => ekI_inj) ?_;intro w2 hm_ hg_;have HM2:=am hm_;have HG2:=am (HG1.out.trans hg_);clear hm_ hg_)
   |(refine wpList_insert_map _ rfl _ _ _ 327 rfl 3 326 law3 Tryz.underlying327 ekI (fun v : Value => v) (W.heap.size + 1 + 1) 2 _ rfl HM2.out (by decide) 3 (fnV L.g 223) _ rfl rfl (keyI 3 (by decide) (by decide)) (fun _ => ekI_inj) ?_;intro w3 hm_ hg_;have HM3:=am hm_;have HG3:=am (HG2.out.trans hg_);clear hm_ hg_)
   |(refine wpList_insert_map _ rfl _ _ _ 327 rfl 3 326 law3 Tryz.underlying327 ekI (fun v : Value => v) (W.heap.size + 1 + 1) 3 _ rfl HM3.out (by decide) 4 (fnV L.g 224) _ rfl rfl (keyI 4 (by decide) (by decide)) (fun _ => ekI_inj) ?_;intro w4 hm_ hg_;have HM4:=am hm_;have HG4:=am (HG3.out.trans hg_);clear hm_ hg_)
   |(refine wpList_insert_map _ rfl _ _ _ 327 rfl 3 326 law3 Tryz.underlying327 ekI (fun v : Value => v) (W.heap.size + 1 + 1) 4 _ rfl HM4.out (by decide) 5 (fnV L.g 225) _ rfl rfl (keyI 5 (by decide) (by decide)) (fun _ => ekI_inj) ?_;intro w5 hm_ hg_;have HM5:=am hm_;have HG5:=am (HG4.out.trans hg_);clear hm_ hg_;obtain ⟨HY5,HB5,HX5,HZ5⟩:=HALL.out w5 HG5.out;have g0:=bd HX5.out 0;have g1:=bd HX5.out 1;have g2:=bd HX5.out 2;have g3:=bd HX5.out 3;have g4:=bd HX5.out 4;have g5:=bd HX5.out 5)
   |(refine wpList_lookup_map _ rfl _ _ 327 false rfl 3 326 law3 Tryz.underlying327 .nilFunc (zero326 _) ekI (fun v : Value => v) (W.heap.size + 1 + 1) 5 _ rfl HM5.out s.f1 _ rfl (keyI s.f1 (by have:=HK.out;omega) (by have:=HK.out;omega)) (.func (.func 223) #[.pointer (some ⟨L.g,0,none⟩)] #[]) (by simp [HK.out,fnV]) ?_)
   |fail)
   refine (turn_calls HY5.out HW.out hm s step hf3 hf4).mono ?_
   rintro e w6 ⟨hb,L',hg,hfr,h⟩
   rw [HR.out] at h
   have z1:=(hfr.keep (W.heap.size + 1) (blk_lt HZ5.out) (HNN.out _ (by omega))).1.trans HZ5.out
   have HB6:=am (HB5.out.trans hb)
   have HF6:=am (show Fr W L w6 L' from HF5.out w5 HG5.out |>.trans hfr)
   have HZ6:=am z1
   have HGG:=am hg
   clear hb hg hfr g0 g1 g2 g3 g4 g5
   have u0:=bd z1 0
   have u1:=blk_frozen z1 0
   clear z1
   subst h
   unfold Pan
   go_wp2
   refine leaves_cons (f:=220) (args:=#[.pointer (some ⟨W.heap.size + 1,0,none⟩)]) (by simp) (by simp [go_sem]) ?_
   refine (do1_panic c 0 ⟨W.heap.size + 1,0,none⟩ _ u0 u1).mono ?_
   rintro e u' w'' ⟨rfl,rfl,rfl⟩
   have s4:=(blk_cell (blk_put (cs':=#[ii c]) HZ6.out 0 (ii c) rfl) 0).trans (show _ = some (Value.int .i64 c) from rfl)
   exact ⟨_,by simp [results,Tryz.results177,go_sem,s4],HB6.out.trans ((Below.refl base w6).setCell (show base ≤ W.heap.size + 1 by omega) _),L',HGG.out,fr_set HF6.out (Nat.le_succ _) _,rfl⟩
 |ok Y' =>
   have HR:=am hr
   clear hr
   go_enter_defers Tryz.func177,Tryz.ntmps177
   go_wp2_with (first
   |(refine wpList_insert_map _ rfl _ _ _ 327 rfl 3 326 law3 Tryz.underlying327 ekI (fun v : Value => v) (W.heap.size + 1 + 1) 0 _ rfl HM0.out (by decide) 1 (fnV L.g 221) _ rfl rfl (keyI 1 (by decide) (by decide)) (fun _ => ekI_inj) ?_;intro w1 hm_ hg_;have HM1:=am hm_;have HG1:=am (hg_);clear hm_ hg_)
   |(refine wpList_insert_map _ rfl _ _ _ 327 rfl 3 326 law3 Tryz.underlying327 ekI (fun v : Value => v) (W.heap.size + 1 + 1) 1 _ rfl HM1.out (by decide) 2 (fnV L.g 222) _ rfl rfl (keyI 2 (by decide) (by decide)) (fun _ => ekI_inj) ?_;intro w2 hm_ hg_;have HM2:=am hm_;have HG2:=am (HG1.out.trans hg_);clear hm_ hg_)
   |(refine wpList_insert_map _ rfl _ _ _ 327 rfl 3 326 law3 Tryz.underlying327 ekI (fun v : Value => v) (W.heap.size + 1 + 1) 2 _ rfl HM2.out (by decide) 3 (fnV L.g 223) _ rfl rfl (keyI 3 (by decide) (by decide)) (fun _ => ekI_inj) ?_;intro w3 hm_ hg_;have HM3:=am hm_;have HG3:=am (HG2.out.trans hg_);clear hm_ hg_)
   |(refine wpList_insert_map _ rfl _ _ _ 327 rfl 3 326 law3 Tryz.underlying327 ekI (fun v : Value => v) (W.heap.size + 1 + 1) 3 _ rfl HM3.out (by decide) 4 (fnV L.g 224) _ rfl rfl (keyI 4 (by decide) (by decide)) (fun _ => ekI_inj) ?_;intro w4 hm_ hg_;have HM4:=am hm_;have HG4:=am (HG3.out.trans hg_);clear hm_ hg_)
   |(refine wpList_insert_map _ rfl _ _ _ 327 rfl 3 326 law3 Tryz.underlying327 ekI (fun v : Value => v) (W.heap.size + 1 + 1) 4 _ rfl HM4.out (by decide) 5 (fnV L.g 225) _ rfl rfl (keyI 5 (by decide) (by decide)) (fun _ => ekI_inj) ?_;intro w5 hm_ hg_;have HM5:=am hm_;have HG5:=am (HG4.out.trans hg_);clear hm_ hg_;obtain ⟨HY5,HB5,HX5,HZ5⟩:=HALL.out w5 HG5.out;have g0:=bd HX5.out 0;have g1:=bd HX5.out 1;have g2:=bd HX5.out 2;have g3:=bd HX5.out 3;have g4:=bd HX5.out 4;have g5:=bd HX5.out 5)
   |(refine wpList_lookup_map _ rfl _ _ 327 false rfl 3 326 law3 Tryz.underlying327 .nilFunc (zero326 _) ekI (fun v : Value => v) (W.heap.size + 1 + 1) 5 _ rfl HM5.out s.f1 _ rfl (keyI s.f1 (by have:=HK.out;omega) (by have:=HK.out;omega)) (.func (.func 223) #[.pointer (some ⟨L.g,0,none⟩)] #[]) (by simp [HK.out,fnV]) ?_)
   |fail)
   refine (turn_calls HY5.out HW.out hm s step hf3 hf4).mono ?_
   rintro e w6 ⟨hb,L',hg,hfr,h⟩
   rw [HR.out] at h
   have z1:=(hfr.keep (W.heap.size + 1) (blk_lt HZ5.out) (HNN.out _ (by omega))).1.trans HZ5.out
   have HB6:=am (HB5.out.trans hb)
   have HF6:=am (show Fr W L w6 L' from HF5.out w5 HG5.out |>.trans hfr)
   have HZ6:=am z1
   have HGG:=am hg
   clear hb hg hfr g0 g1 g2 g3 g4 g5
   have u0:=bd z1 0
   have u1:=blk_frozen z1 0
   clear z1
   obtain ⟨rfl,hY'⟩:=h
   have HY6:=am hY'
   clear hY'
   go_wp2
   refine leaves_cons (f:=220) (args:=#[.pointer (some ⟨W.heap.size + 1,0,none⟩)]) (by simp) (by simp [go_sem]) ?_
   refine (do1_idle ⟨W.heap.size + 1,0,none⟩ _).mono ?_
   rintro e u' w'' ⟨rfl,rfl,rfl⟩
   have hS:=below_same HZ6.out
   have s4:=(blk_cell (blk_put (cs':=#[ii 0]) HZ6.out 0 (ii 0) rfl) 0).trans (show _ = some (Value.int .i64 0) from rfl)
   exact ⟨_,by simp [results,Tryz.results177,go_sem,s4],HB6.out.trans (hS.mono (Nat.le_trans hbw (HF6.out.size))),L',HGG.out,HF6.out.trans (Fr.of_below L' hS),rfl,HY6.out.move hS⟩
 by_cases hk4 : s.f1 = 4
 ·have HK:=am hk4
  have hf5:=(HFo.out.amount (by omega)).1
  have hf6:=(HFo.out.amount (by omega)).2
  have hf7:=(HFo.out.dest hk4).1
  have hf8:=(HFo.out.dest hk4).2.1
  have hf9:=(HFo.out.dest hk4).2.2
  rw [show stepP Y s step = moveP Y s by unfold stepP;rw [if_neg hk1,if_neg hk2,if_neg hk3,if_pos hk4]]
  clear hk1 hk2 hk3 hk4 hkind
  cases hr : moveP Y s with
 |error c =>
   have HR:=am hr
   clear hr
   go_enter_defers Tryz.func177,Tryz.ntmps177
   go_wp2_with (first
   |(refine wpList_insert_map _ rfl _ _ _ 327 rfl 3 326 law3 Tryz.underlying327 ekI (fun v : Value => v) (W.heap.size + 1 + 1) 0 _ rfl HM0.out (by decide) 1 (fnV L.g 221) _ rfl rfl (keyI 1 (by decide) (by decide)) (fun _ => ekI_inj) ?_;intro w1 hm_ hg_;have HM1:=am hm_;have HG1:=am (hg_);clear hm_ hg_)
   |(refine wpList_insert_map _ rfl _ _ _ 327 rfl 3 326 law3 Tryz.underlying327 ekI (fun v : Value => v) (W.heap.size + 1 + 1) 1 _ rfl HM1.out (by decide) 2 (fnV L.g 222) _ rfl rfl (keyI 2 (by decide) (by decide)) (fun _ => ekI_inj) ?_;intro w2 hm_ hg_;have HM2:=am hm_;have HG2:=am (HG1.out.trans hg_);clear hm_ hg_)
   |(refine wpList_insert_map _ rfl _ _ _ 327 rfl 3 326 law3 Tryz.underlying327 ekI (fun v : Value => v) (W.heap.size + 1 + 1) 2 _ rfl HM2.out (by decide) 3 (fnV L.g 223) _ rfl rfl (keyI 3 (by decide) (by decide)) (fun _ => ekI_inj) ?_;intro w3 hm_ hg_;have HM3:=am hm_;have HG3:=am (HG2.out.trans hg_);clear hm_ hg_)
   |(refine wpList_insert_map _ rfl _ _ _ 327 rfl 3 326 law3 Tryz.underlying327 ekI (fun v : Value => v) (W.heap.size + 1 + 1) 3 _ rfl HM3.out (by decide) 4 (fnV L.g 224) _ rfl rfl (keyI 4 (by decide) (by decide)) (fun _ => ekI_inj) ?_;intro w4 hm_ hg_;have HM4:=am hm_;have HG4:=am (HG3.out.trans hg_);clear hm_ hg_)
   |(refine wpList_insert_map _ rfl _ _ _ 327 rfl 3 326 law3 Tryz.underlying327 ekI (fun v : Value => v) (W.heap.size + 1 + 1) 4 _ rfl HM4.out (by decide) 5 (fnV L.g 225) _ rfl rfl (keyI 5 (by decide) (by decide)) (fun _ => ekI_inj) ?_;intro w5 hm_ hg_;have HM5:=am hm_;have HG5:=am (HG4.out.trans hg_);clear hm_ hg_;obtain ⟨HY5,HB5,HX5,HZ5⟩:=HALL.out w5 HG5.out;have g0:=bd HX5.out 0;have g1:=bd HX5.out 1;have g2:=bd HX5.out 2;have g3:=bd HX5.out 3;have g4:=bd HX5.out 4;have g5:=bd HX5.out 5)
   |(refine wpList_lookup_map _ rfl _ _ 327 false rfl 3 326 law3 Tryz.underlying327 .nilFunc (zero326 _) ekI (fun v : Value => v) (W.heap.size + 1 + 1) 5 _ rfl HM5.out s.f1 _ rfl (keyI s.f1 (by have:=HK.out;omega) (by have:=HK.out;omega)) (.func (.func 224) #[.pointer (some ⟨L.g,0,none⟩)] #[]) (by simp [HK.out,fnV]) ?_)
   |fail)
   refine (move_calls HY5.out HW.out hm s step hf3 hf4 hf5 hf6 hf7 hf8 hf9).mono ?_
   rintro e w6 ⟨hb,L',hg,hfr,h⟩
   rw [HR.out] at h
   have z1:=(hfr.keep (W.heap.size + 1) (blk_lt HZ5.out) (HNN.out _ (by omega))).1.trans HZ5.out
   have HB6:=am (HB5.out.trans hb)
   have HF6:=am (show Fr W L w6 L' from HF5.out w5 HG5.out |>.trans hfr)
   have HZ6:=am z1
   have HGG:=am hg
   clear hb hg hfr g0 g1 g2 g3 g4 g5
   have u0:=bd z1 0
   have u1:=blk_frozen z1 0
   clear z1
   subst h
   unfold Pan
   go_wp2
   refine leaves_cons (f:=220) (args:=#[.pointer (some ⟨W.heap.size + 1,0,none⟩)]) (by simp) (by simp [go_sem]) ?_
   refine (do1_panic c 0 ⟨W.heap.size + 1,0,none⟩ _ u0 u1).mono ?_
   rintro e u' w'' ⟨rfl,rfl,rfl⟩
   have s4:=(blk_cell (blk_put (cs':=#[ii c]) HZ6.out 0 (ii c) rfl) 0).trans (show _ = some (Value.int .i64 c) from rfl)
   exact ⟨_,by simp [results,Tryz.results177,go_sem,s4],HB6.out.trans ((Below.refl base w6).setCell (show base ≤ W.heap.size + 1 by omega) _),L',HGG.out,fr_set HF6.out (Nat.le_succ _) _,rfl⟩
 |ok Y' =>
   have HR:=am hr
   clear hr
   go_enter_defers Tryz.func177,Tryz.ntmps177
   go_wp2_with (first
   |(refine wpList_insert_map _ rfl _ _ _ 327 rfl 3 326 law3 Tryz.underlying327 ekI (fun v : Value => v) (W.heap.size + 1 + 1) 0 _ rfl HM0.out (by decide) 1 (fnV L.g 221) _ rfl rfl (keyI 1 (by decide) (by decide)) (fun _ => ekI_inj) ?_;intro w1 hm_ hg_;have HM1:=am hm_;have HG1:=am (hg_);clear hm_ hg_)
   |(refine wpList_insert_map _ rfl _ _ _ 327 rfl 3 326 law3 Tryz.underlying327 ekI (fun v : Value => v) (W.heap.size + 1 + 1) 1 _ rfl HM1.out (by decide) 2 (fnV L.g 222) _ rfl rfl (keyI 2 (by decide) (by decide)) (fun _ => ekI_inj) ?_;intro w2 hm_ hg_;have HM2:=am hm_;have HG2:=am (HG1.out.trans hg_);clear hm_ hg_)
   |(refine wpList_insert_map _ rfl _ _ _ 327 rfl 3 326 law3 Tryz.underlying327 ekI (fun v : Value => v) (W.heap.size + 1 + 1) 2 _ rfl HM2.out (by decide) 3 (fnV L.g 223) _ rfl rfl (keyI 3 (by decide) (by decide)) (fun _ => ekI_inj) ?_;intro w3 hm_ hg_;have HM3:=am hm_;have HG3:=am (HG2.out.trans hg_);clear hm_ hg_)
   |(refine wpList_insert_map _ rfl _ _ _ 327 rfl 3 326 law3 Tryz.underlying327 ekI (fun v : Value => v) (W.heap.size + 1 + 1) 3 _ rfl HM3.out (by decide) 4 (fnV L.g 224) _ rfl rfl (keyI 4 (by decide) (by decide)) (fun _ => ekI_inj) ?_;intro w4 hm_ hg_;have HM4:=am hm_;have HG4:=am (HG3.out.trans hg_);clear hm_ hg_)
   |(refine wpList_insert_map _ rfl _ _ _ 327 rfl 3 326 law3 Tryz.underlying327 ekI (fun v : Value => v) (W.heap.size + 1 + 1) 4 _ rfl HM4.out (by decide) 5 (fnV L.g 225) _ rfl rfl (keyI 5 (by decide) (by decide)) (fun _ => ekI_inj) ?_;intro w5 hm_ hg_;have HM5:=am hm_;have HG5:=am (HG4.out.trans hg_);clear hm_ hg_;obtain ⟨HY5,HB5,HX5,HZ5⟩:=HALL.out w5 HG5.out;have g0:=bd HX5.out 0;have g1:=bd HX5.out 1;have g2:=bd HX5.out 2;have g3:=bd HX5.out 3;have g4:=bd HX5.out 4;have g5:=bd HX5.out 5)
   |(refine wpList_lookup_map _ rfl _ _ 327 false rfl 3 326 law3 Tryz.underlying327 .nilFunc (zero326 _) ekI (fun v : Value => v) (W.heap.size + 1 + 1) 5 _ rfl HM5.out s.f1 _ rfl (keyI s.f1 (by have:=HK.out;omega) (by have:=HK.out;omega)) (.func (.func 224) #[.pointer (some ⟨L.g,0,none⟩)] #[]) (by simp [HK.out,fnV]) ?_)
   |fail)
   refine (move_calls HY5.out HW.out hm s step hf3 hf4 hf5 hf6 hf7 hf8 hf9).mono ?_
   rintro e w6 ⟨hb,L',hg,hfr,h⟩
   rw [HR.out] at h
   have z1:=(hfr.keep (W.heap.size + 1) (blk_lt HZ5.out) (HNN.out _ (by omega))).1.trans HZ5.out
   have HB6:=am (HB5.out.trans hb)
   have HF6:=am (show Fr W L w6 L' from HF5.out w5 HG5.out |>.trans hfr)
   have HZ6:=am z1
   have HGG:=am hg
   clear hb hg hfr g0 g1 g2 g3 g4 g5
   have u0:=bd z1 0
   have u1:=blk_frozen z1 0
   clear z1
   obtain ⟨rfl,hY'⟩:=h
   have HY6:=am hY'
   clear hY'
   go_wp2
   refine leaves_cons (f:=220) (args:=#[.pointer (some ⟨W.heap.size + 1,0,none⟩)]) (by simp) (by simp [go_sem]) ?_
   refine (do1_idle ⟨W.heap.size + 1,0,none⟩ _).mono ?_
   rintro e u' w'' ⟨rfl,rfl,rfl⟩
   have hS:=below_same HZ6.out
   have s4:=(blk_cell (blk_put (cs':=#[ii 0]) HZ6.out 0 (ii 0) rfl) 0).trans (show _ = some (Value.int .i64 0) from rfl)
   exact ⟨_,by simp [results,Tryz.results177,go_sem,s4],HB6.out.trans (hS.mono (Nat.le_trans hbw (HF6.out.size))),L',HGG.out,HF6.out.trans (Fr.of_below L' hS),rfl,HY6.out.move hS⟩
 have hk5 : s.f1 = 5:=by omega
 have HK:=am hk5
 have hf5:=(HFo.out.amount (by omega)).1
 have hf6:=(HFo.out.amount (by omega)).2
 rw [show stepP Y s step = spillP Y s by unfold stepP;rw [if_neg hk1,if_neg hk2,if_neg hk3,if_neg hk4]]
 clear hk1 hk2 hk3 hk4 hk5 hkind
 cases hr : spillP Y s with
|error c =>
  have HR:=am hr
  clear hr
  go_enter_defers Tryz.func177,Tryz.ntmps177
  go_wp2_with (first
  |(refine wpList_insert_map _ rfl _ _ _ 327 rfl 3 326 law3 Tryz.underlying327 ekI (fun v : Value => v) (W.heap.size + 1 + 1) 0 _ rfl HM0.out (by decide) 1 (fnV L.g 221) _ rfl rfl (keyI 1 (by decide) (by decide)) (fun _ => ekI_inj) ?_;intro w1 hm_ hg_;have HM1:=am hm_;have HG1:=am (hg_);clear hm_ hg_)
  |(refine wpList_insert_map _ rfl _ _ _ 327 rfl 3 326 law3 Tryz.underlying327 ekI (fun v : Value => v) (W.heap.size + 1 + 1) 1 _ rfl HM1.out (by decide) 2 (fnV L.g 222) _ rfl rfl (keyI 2 (by decide) (by decide)) (fun _ => ekI_inj) ?_;intro w2 hm_ hg_;have HM2:=am hm_;have HG2:=am (HG1.out.trans hg_);clear hm_ hg_)
  |(refine wpList_insert_map _ rfl _ _ _ 327 rfl 3 326 law3 Tryz.underlying327 ekI (fun v : Value => v) (W.heap.size + 1 + 1) 2 _ rfl HM2.out (by decide) 3 (fnV L.g 223) _ rfl rfl (keyI 3 (by decide) (by decide)) (fun _ => ekI_inj) ?_;intro w3 hm_ hg_;have HM3:=am hm_;have HG3:=am (HG2.out.trans hg_);clear hm_ hg_)
  |(refine wpList_insert_map _ rfl _ _ _ 327 rfl 3 326 law3 Tryz.underlying327 ekI (fun v : Value => v) (W.heap.size + 1 + 1) 3 _ rfl HM3.out (by decide) 4 (fnV L.g 224) _ rfl rfl (keyI 4 (by decide) (by decide)) (fun _ => ekI_inj) ?_;intro w4 hm_ hg_;have HM4:=am hm_;have HG4:=am (HG3.out.trans hg_);clear hm_ hg_)
  |(refine wpList_insert_map _ rfl _ _ _ 327 rfl 3 326 law3 Tryz.underlying327 ekI (fun v : Value => v) (W.heap.size + 1 + 1) 4 _ rfl HM4.out (by decide) 5 (fnV L.g 225) _ rfl rfl (keyI 5 (by decide) (by decide)) (fun _ => ekI_inj) ?_;intro w5 hm_ hg_;have HM5:=am hm_;have HG5:=am (HG4.out.trans hg_);clear hm_ hg_;obtain ⟨HY5,HB5,HX5,HZ5⟩:=HALL.out w5 HG5.out;have g0:=bd HX5.out 0;have g1:=bd HX5.out 1;have g2:=bd HX5.out 2;have g3:=bd HX5.out 3;have g4:=bd HX5.out 4;have g5:=bd HX5.out 5)
  |(refine wpList_lookup_map _ rfl _ _ 327 false rfl 3 326 law3 Tryz.underlying327 .nilFunc (zero326 _) ekI (fun v : Value => v) (W.heap.size + 1 + 1) 5 _ rfl HM5.out s.f1 _ rfl (keyI s.f1 (by have:=HK.out;omega) (by have:=HK.out;omega)) (.func (.func 225) #[.pointer (some ⟨L.g,0,none⟩)] #[]) (by simp [HK.out,fnV]) ?_)
  |fail)
  refine (spill_calls HY5.out HW.out hm s step hf3 hf4 hf5 hf6).mono ?_
  rintro e w6 ⟨hb,L',hg,hfr,h⟩
  rw [HR.out] at h
  have z1:=(hfr.keep (W.heap.size + 1) (blk_lt HZ5.out) (HNN.out _ (by omega))).1.trans HZ5.out
  have HB6:=am (HB5.out.trans hb)
  have HF6:=am (show Fr W L w6 L' from HF5.out w5 HG5.out |>.trans hfr)
  have HZ6:=am z1
  have HGG:=am hg
  clear hb hg hfr g0 g1 g2 g3 g4 g5
  have u0:=bd z1 0
  have u1:=blk_frozen z1 0
  clear z1
  subst h
  unfold Pan
  go_wp2
  refine leaves_cons (f:=220) (args:=#[.pointer (some ⟨W.heap.size + 1,0,none⟩)]) (by simp) (by simp [go_sem]) ?_
  refine (do1_panic c 0 ⟨W.heap.size + 1,0,none⟩ _ u0 u1).mono ?_
  rintro e u' w'' ⟨rfl,rfl,rfl⟩
  have s4:=(blk_cell (blk_put (cs':=#[ii c]) HZ6.out 0 (ii c) rfl) 0).trans (show _ = some (Value.int .i64 c) from rfl)
  exact ⟨_,by simp [results,Tryz.results177,go_sem,s4],HB6.out.trans ((Below.refl base w6).setCell (show base ≤ W.heap.size + 1 by omega) _),L',HGG.out,fr_set HF6.out (Nat.le_succ _) _,rfl⟩
|ok Y' =>
  have HR:=am hr
  clear hr
  go_enter_defers Tryz.func177,Tryz.ntmps177
  go_wp2_with (first
  |(refine wpList_insert_map _ rfl _ _ _ 327 rfl 3 326 law3 Tryz.underlying327 ekI (fun v : Value => v) (W.heap.size + 1 + 1) 0 _ rfl HM0.out (by decide) 1 (fnV L.g 221) _ rfl rfl (keyI 1 (by decide) (by decide)) (fun _ => ekI_inj) ?_;intro w1 hm_ hg_;have HM1:=am hm_;have HG1:=am (hg_);clear hm_ hg_)
  |(refine wpList_insert_map _ rfl _ _ _ 327 rfl 3 326 law3 Tryz.underlying327 ekI (fun v : Value => v) (W.heap.size + 1 + 1) 1 _ rfl HM1.out (by decide) 2 (fnV L.g 222) _ rfl rfl (keyI 2 (by decide) (by decide)) (fun _ => ekI_inj) ?_;intro w2 hm_ hg_;have HM2:=am hm_;have HG2:=am (HG1.out.trans hg_);clear hm_ hg_)
  |(refine wpList_insert_map _ rfl _ _ _ 327 rfl 3 326 law3 Tryz.underlying327 ekI (fun v : Value => v) (W.heap.size + 1 + 1) 2 _ rfl HM2.out (by decide) 3 (fnV L.g 223) _ rfl rfl (keyI 3 (by decide) (by decide)) (fun _ => ekI_inj) ?_;intro w3 hm_ hg_;have HM3:=am hm_;have HG3:=am (HG2.out.trans hg_);clear hm_ hg_)
  |(refine wpList_insert_map _ rfl _ _ _ 327 rfl 3 326 law3 Tryz.underlying327 ekI (fun v : Value => v) (W.heap.size + 1 + 1) 3 _ rfl HM3.out (by decide) 4 (fnV L.g 224) _ rfl rfl (keyI 4 (by decide) (by decide)) (fun _ => ekI_inj) ?_;intro w4 hm_ hg_;have HM4:=am hm_;have HG4:=am (HG3.out.trans hg_);clear hm_ hg_)
  |(refine wpList_insert_map _ rfl _ _ _ 327 rfl 3 326 law3 Tryz.underlying327 ekI (fun v : Value => v) (W.heap.size + 1 + 1) 4 _ rfl HM4.out (by decide) 5 (fnV L.g 225) _ rfl rfl (keyI 5 (by decide) (by decide)) (fun _ => ekI_inj) ?_;intro w5 hm_ hg_;have HM5:=am hm_;have HG5:=am (HG4.out.trans hg_);clear hm_ hg_;obtain ⟨HY5,HB5,HX5,HZ5⟩:=HALL.out w5 HG5.out;have g0:=bd HX5.out 0;have g1:=bd HX5.out 1;have g2:=bd HX5.out 2;have g3:=bd HX5.out 3;have g4:=bd HX5.out 4;have g5:=bd HX5.out 5)
  |(refine wpList_lookup_map _ rfl _ _ 327 false rfl 3 326 law3 Tryz.underlying327 .nilFunc (zero326 _) ekI (fun v : Value => v) (W.heap.size + 1 + 1) 5 _ rfl HM5.out s.f1 _ rfl (keyI s.f1 (by have:=HK.out;omega) (by have:=HK.out;omega)) (.func (.func 225) #[.pointer (some ⟨L.g,0,none⟩)] #[]) (by simp [HK.out,fnV]) ?_)
  |fail)
  refine (spill_calls HY5.out HW.out hm s step hf3 hf4 hf5 hf6).mono ?_
  rintro e w6 ⟨hb,L',hg,hfr,h⟩
  rw [HR.out] at h
  have z1:=(hfr.keep (W.heap.size + 1) (blk_lt HZ5.out) (HNN.out _ (by omega))).1.trans HZ5.out
  have HB6:=am (HB5.out.trans hb)
  have HF6:=am (show Fr W L w6 L' from HF5.out w5 HG5.out |>.trans hfr)
  have HZ6:=am z1
  have HGG:=am hg
  clear hb hg hfr g0 g1 g2 g3 g4 g5
  have u0:=bd z1 0
  have u1:=blk_frozen z1 0
  clear z1
  obtain ⟨rfl,hY'⟩:=h
  have HY6:=am hY'
  clear hY'
  go_wp2
  refine leaves_cons (f:=220) (args:=#[.pointer (some ⟨W.heap.size + 1,0,none⟩)]) (by simp) (by simp [go_sem]) ?_
  refine (do1_idle ⟨W.heap.size + 1,0,none⟩ _).mono ?_
  rintro e u' w'' ⟨rfl,rfl,rfl⟩
  have hS:=below_same HZ6.out
  have s4:=(blk_cell (blk_put (cs':=#[ii 0]) HZ6.out 0 (ii 0) rfl) 0).trans (show _ = some (Value.int .i64 0) from rfl)
  exact ⟨_,by simp [results,Tryz.results177,go_sem,s4],HB6.out.trans (hS.mono (Nat.le_trans hbw (HF6.out.size))),L',HGG.out,HF6.out.trans (Fr.of_below L' hS),rfl,HY6.out.move hS⟩
theorem reps_empty (W : World) (ok okp : Nat → Prop) (n : Nat) : Reps ((ft (Kd.slice 212 k212) W ok).M W W.heap.size okp) 1 (List.replicate n ([] : List S212)) (madeCells #[.slice none 0 0] n).toList:=by
 have h:=Kd.reps_made (R:=(ft (Kd.slice 212 k212) W ok).M W W.heap.size okp) (size:=1) (z:=.slice none 0 0) rfl (by decide) (show (ft (Kd.slice 212 k212) W ok).M W W.heap.size okp ([] : List S212) [.slice none 0 0] from fun W2 _ => ⟨none,0,rfl,Nat.le_refl _,Kd.C_nil _ _⟩) n
 rw [Nat.mul_one] at h
 exact h
set_option maxRecDepth 100000 in
theorem empty_calls (A : Option Addr) (c : Nat) (rooms : List Int) (W : World) (lo : Nat) (hlo : lo ≤ W.heap.size) (hC : Kd.F (Kd.int .i64) W (fun k => k < lo) A rooms.length rooms) (hc : rooms.length ≤ c) (h6 : rooms.length ≤ 6) :
  Calls Tryz.prog 175 #[.slice A rooms.length c] W fun e W' => ∃ L : Loc,e = .returned (.pointer (some ⟨L.g,0,none⟩)) ∧ YardAt W' W.heap.size L (emptyP rooms) ∧ (∀ k,lo ≤ k → k < W.heap.size → L.bad k) ∧ Below W.heap.size W W':=by
 have hmk:=print_make_of (P:=Tryz.prog) 162 131 (.slice none 0 0) 24 Tryz.underlying162 kr rfl (by decide) rooms.length (by omega)
 have hu:=Tryz.underlying165
 have HC:=am hC
 clear hC
 go_enter Tryz.func175,Tryz.ntmps175
 go_wp2
 go_ret
 have hb : Below W.heap.size W ((W.alloc (.cells (madeCells #[.slice none 0 0] rooms.length) 131)).alloc (.cells #[.slice A rooms.length c,.slice (some ⟨W.heap.size,0,none⟩) rooms.length rooms.length,.slice none 0 0,.slice none 0 0,.slice none 0 0,.slice none 0 0] 165)):=below_alloc (below_alloc (Below.refl _ _) _) _
 have hN : ∀ k,k < lo → Loc.Not ⟨W.heap.size + 1,W.heap.size,.slice A rooms.length c,.slice none 0 0,.slice none 0 0,.slice none 0 0,.slice none 0 0,fun k => lo ≤ k ∧ k < W.heap.size⟩ k:=fun k hk hm => by
  rcases hm with e|e|e|e|e|e|e
  ·simp at e;omega
  ·simp at e;omega
  ·simp [Value.ownBlock] at e
  ·simp [Value.ownBlock] at e
  ·simp [Value.ownBlock] at e
  ·simp [Value.ownBlock] at e
  ·have:=e.1;omega
 refine ⟨⟨W.heap.size + 1,W.heap.size,.slice A rooms.length c,.slice none 0 0,.slice none 0 0,.slice none 0 0,.slice none 0 0,fun k => lo ≤ k ∧ k < W.heap.size⟩,rfl,{ gbase:=Nat.le_succ _,bad:=fun k hk => hk.2,blk:=blk_new' _ _ _ (by simp),rooms:=?_,pits:=?_,pours:=Kd.R_nil _ _ _ _ _,days:=Kd.R_nil _ _ _ _ _,apart:=fun k hk => by simp [Value.ownBlock] at hk,barrows:=Kd.R_nil _ _ _ _ _,lost:=Kd.R_nil _ _ _ _ _ },fun k h1 h2 => ⟨h1,h2⟩,hb⟩
 ·exact fun W2 hW => ⟨A,c,rfl,hc,HC.out W2 (fun k hk hlt => (hW k (hN k hk) (Nat.lt_of_lt_of_le hlt hb.size)).trans (hb.block k hlt))⟩
 ·have h1 : OwnRow ((ft (Kd.slice 212 k212) W (fun k => k < lo)).M W W.heap.size (fun _ => True)) 131 1 (W.alloc (.cells (madeCells #[.slice none 0 0] rooms.length).toList.toArray 131)) W.heap.size (.slice (some ⟨W.heap.size,0,none⟩) (List.replicate rooms.length ([] : List S212)).length (List.replicate rooms.length ([] : List S212)).length) (List.replicate rooms.length ([] : List S212)):=OwnRow.lit W W.heap.size (reps_empty W _ _ rooms.length) (Nat.le_refl _) (by simp;omega)
  rw [List.length_replicate] at h1
  have h2 : (ft (Kd.slice 212 k212) W (fun k => k < lo)).R 131 (W.alloc (.cells (madeCells #[.slice none 0 0] rooms.length) 131)) W.heap.size (fun _ => True) (.slice (some ⟨W.heap.size,0,none⟩) rooms.length rooms.length) (List.replicate rooms.length ([] : List S212)):=⟨fun _ _ => trivial,h1.imp_ (fun _ _ h => h)⟩
  exact ft_to (Kd.R_alloc h2 _) hb (fun k hk _ => hN k hk)
end Go.Proofs.YtjjfpmapjjemcaaGreat.B
end
