import Derived.Test.YtjjfpmapjjemcaaGreatQ24
import Derived.Test.YtjjfpmapjjemcaaGreatQ30
import Derived.Test.YtjjfpmapjjemcaaGreatQ7
import Derived.Test.YtjjfpmapjjemcaaGreatQ9
set_option linter.unusedVariables false
set_option linter.unusedSimpArgs false
section
namespace Go.Proofs.YtjjfpmapjjemcaaGreat.B
open Go.RowKit Go.Proofs.YtjjfpmapjjemcaaGreatW.PrintWords Go.Proofs.YtjjfpmapjjemcaaGreatW.PrintLast Go.Proofs.YtjjfpmapjjemcaaGreatW.PrintMore
attribute [local go_sem] max2_int min2_int max_two min_two max_three min_three max_four min_four
theorem YardAt.set_pours {W w7 : World} {base : Nat} {L : Loc} {Y : Yd} (h : YardAt W base L Y) {v1 v2 : Value} {ps ds : List Int} (hsz : W.heap.size ≤ w7.heap.size) (far0 : ∀ k,k < W.heap.size → some k ≠ L.vo.ownBlock → some k ≠ L.vd.ownBlock → w7.heap[k]? = W.heap[k]?)
  (r1 : (Kd.int .i64).R 3 w7 base (fun _ => True) v1 ps) (r2 : (Kd.int .i64).R 3 w7 base (fun _ => True) v2 ds) (a1 : v1.ownBlock = L.vo.ownBlock ∨ ∃ b,v1.ownBlock = some b ∧ W.heap.size ≤ b) (a2 : v2.ownBlock = L.vd.ownBlock ∨ ∃ b,v2.ownBlock = some b ∧ W.heap.size ≤ b) (ap : NeRow v1 v2) :
  YardAt ((w7.setCell ⟨L.g,2,none⟩ v1).setCell ⟨L.g,3,none⟩ v2) base { L with vo:=v1,vd:=v2 } { Y with pours:=ps,days:=ds } ∧ Fr W L ((w7.setCell ⟨L.g,2,none⟩ v1).setCell ⟨L.g,3,none⟩ v2) { L with vo:=v1,vd:=v2 } ∧
   w7.cell? ⟨L.g,2,none⟩ = some L.vo ∧ w7.frozen? ⟨L.g,2,none⟩ = false ∧ (w7.setCell ⟨L.g,2,none⟩ v1).cell? ⟨L.g,3,none⟩ = some L.vd ∧ (w7.setCell ⟨L.g,2,none⟩ v1).frozen? ⟨L.g,3,none⟩ = false:=by
 have hgo : some L.g ≠ L.vo.ownBlock:=fun e => R_offg h.pours h.blk (by decide) e.symm
 have hgd : some L.g ≠ L.vd.ownBlock:=fun e => R_offg h.days h.blk (by decide) e.symm
 have hB : w7.heap[L.g]? = _:=(far0 L.g (blk_lt h.blk) hgo hgd).trans h.blk
 have hB2:=blk_put hB 2 v1 rfl
 have far : ∀ k,k < W.heap.size → some k ≠ L.vo.ownBlock → some k ≠ L.vd.ownBlock → k ≠ L.g → ((w7.setCell ⟨L.g,2,none⟩ v1).setCell ⟨L.g,3,none⟩ v2).heap[k]? = W.heap[k]?:=fun k hk h1 h2 h3 =>
  ((Below.heap_setCell _ ⟨L.g,3,none⟩ v2 k h3).trans (Below.heap_setCell w7 ⟨L.g,2,none⟩ v1 k h3)).trans (far0 k hk h1 h2)
 have f : Fr W L ((w7.setCell ⟨L.g,2,none⟩ v1).setCell ⟨L.g,3,none⟩ v2) { L with vo:=v1,vd:=v2 }:=⟨by rw [World.size_setCell,World.size_setCell];exact hsz,fun k hk hn => by
  refine ⟨far k hk (fun e => hn (.inr (.inr (.inl e.symm)))) (fun e => hn (.inr (.inr (.inr (.inl e.symm))))) (fun e => hn (.inl e)),fun hm => ?_⟩
  rcases hm with e|e|e|e|e|e
  ·exact hn (.inl e)
  ·exact hn (.inr (.inl e))
  ·rcases a1 with hat|⟨b,hb,hle⟩
   ·exact hn (.inr (.inr (.inl (hat.symm.trans e))))
   ·have : some b = some k:=hb.symm.trans e
    injection this with this
    omega
  ·rcases a2 with hat|⟨b,hb,hle⟩
   ·exact hn (.inr (.inr (.inr (.inl (hat.symm.trans e)))))
   ·have : some b = some k:=hb.symm.trans e
    injection this with this
    omega
  ·exact hn (.inr (.inr (.inr (.inr (.inl e)))))
  ·exact hn (.inr (.inr (.inr (.inr (.inr e))))),rfl⟩
 have mv : ∀ {α : Type} {d : Kd α} {e : Nat} {v : Value} {xs : List α},d.E = [] → d.R e W base (fun _ => True) v xs → e ≠ 3 → e ≠ 165 → d.R e ((w7.setCell ⟨L.g,2,none⟩ v1).setCell ⟨L.g,3,none⟩ v2) base (fun _ => True) v xs:=fun hE hR n1 n2 =>
  R_own_move hE hR fun k hk => far k (Kd.R_lt hR k hk) (fun e => R_off hR h.pours n1 k hk e.symm) (fun e => R_off hR h.days n1 k hk e.symm) (fun e => R_offg hR h.blk n2 (e ▸ hk))
 have ow : ∀ {v : Value} {xs : List Int},(Kd.int .i64).R 3 w7 base (fun _ => True) v xs → (Kd.int .i64).R 3 ((w7.setCell ⟨L.g,2,none⟩ v1).setCell ⟨L.g,3,none⟩ v2) base (fun _ => True) v xs:=fun hR =>
  R_own_move rfl hR fun k hk => have n : k ≠ L.g:=fun e => R_offg hR hB (by decide) (e ▸ hk);(Below.heap_setCell _ ⟨L.g,3,none⟩ v2 k n).trans (Below.heap_setCell w7 ⟨L.g,2,none⟩ v1 k n)
 refine ⟨{ gbase:=h.gbase,bad:=h.bad,blk:=blk_put hB2 3 v2 rfl,rooms:=Foot_fr h.rooms f,pits:=ft_fr (mv rfl h.pits (by decide) (by decide)) f,pours:=ow r1,days:=ow r2,apart:=ap,barrows:=ft_fr (mv rfl h.barrows (by decide) (by decide)) f,lost:=ft_fr (mv rfl h.lost (by decide) (by decide)) f },f,(blk_cell hB 2).trans rfl,blk_frozen hB 2,(blk_cell hB2 3).trans rfl,blk_frozen hB2 3⟩
theorem R_one (w : World) (i : Int) (base : Nat) (hb : base ≤ w.heap.size) : (Kd.int .i64).R 3 (w.alloc (.cells #[ii i] 3)) base (fun _ => True) (.slice (some ⟨w.heap.size,0,none⟩) 1 1) [i] :=
 ⟨fun _ _ => trivial,OwnRow.lit (ps:=[i]) w base (inner:=[ii i]) ((Reps.none _ _).snoc (show (Kd.int .i64).M _ _ _ i [ii i] from rfl) rfl) hb (by simp)⟩
theorem ft_to {α : Type} {d : Kd α} {W W2 w : World} {e base : Nat} {ok okr ok2 : Nat → Prop} {v : Value} {xs : List α} (h : (ft d W ok).R e w base okr v xs) (hb : Below W.heap.size W W2) (hok : ∀ k,ok k → k < W.heap.size → ok2 k) : (ft d W2 ok2).R e w base okr v xs :=
 ⟨h.1,h.2.imp_ (fun _ _ (hp : Kd.FK d W ok _ _) => (Foot.mono (Foot.old hp hb) (fun k hk => hok k hk.1 hk.2) : Kd.FK d W2 ok2 _ _))⟩
theorem ft_F2 {α : Type} {d : Kd α} {W0 w : World} {e base n c : Nat} {ok ok' ok3 : Nat → Prop} {A : Option Addr} {xs : List α} (h : (ft d W0 ok).R e w base ok' (.slice A n c) xs) (hm : ∀ k,ok k → k < W0.heap.size → w.heap[k]? = W0.heap[k]?) (h3 : ∀ k,ok k → ok3 k) (ho : ∀ k,(Value.slice A n c).ownBlock = some k → ok3 k) : Kd.F d w ok3 A n xs:=fun W' hW => by
 have h1 : (ft d W0 ok).C W' A n xs:=Kd.R_F (Kd.R_tight rfl h) W' (fun k hk hlt => hW k (ho k hk.symm) hlt)
 exact ReadsRow.imp_ h1 (Below.refl W'.heap.size W') (fun x cs (hp : Kd.FK d W0 ok x cs) => hp W' (fun k hk hlt => (hW k (h3 k hk) (heap_lt (hm k hk hlt) hlt)).trans (hm k hk hlt)))
def R221_3.T : Bool × List (List Nat × List Nat):=(true,[([],[]),([],[]),([],[]),([2],[2]),([3],[3]),([4],[4]),([],[]),([6],[6]),([7],[7]),([5,8],[5,8]),([],[]),([10],[10]),([11],[11]),([12],[12]),([],[]),([14],[14]),([15],[15]),([13,16,9],[13,16]),([0,0,2,3,4,5,6,7,8,9,13,17],[0]),([18,0,2,3,4,5,6,7,8,9,13,17],[18]),([19,9,17,0,2,3,4,5,6,7,8,9,13,17],[9,19]),([1,0,1,2,3,4,5,6,7,8,9,10,11,12,13,14,15,16,17,18,19,20],[1]),([21,0,1,2,3,4,5,6,7,8,9,10,11,12,13,14,15,16,17,18,19,20],[21]),([22,17,20,0,1,2,3,4,5,6,7,8,9,10,11,12,13,14,15,16,17,18,19,20],[17,22])])
def R221_3.B : List Nat:=[0,0,0,4,12,28,0,64,192,508,0,1024,3072,7168,0,16384,49152,131068,262141,524285,1048573,2097151,4194303,8388607]
theorem R221_3.tab : rtab .any (opsOf Tryz.f221 3) = R221_3.T:=by kernel_rfl
theorem R221_3.bits : waitsOk R221_3.T.2 R221_3.B = true:=by kernel_rfl
def R221_4.T : Bool × List (List Nat × List Nat):=(true,[([],[]),([0],[0]),([1],[1]),([2],[2]),([],[]),([4],[4]),([],[]),([6],[6]),([7],[7]),([8],[8]),([],[]),([10],[10]),([9,11],[9,11]),([12],[12]),([13],[13]),([],[]),([15],[15]),([],[]),([17],[17]),([],[]),([19],[19]),([20,14],[20]),([18,21],[18,21]),([22],[22]),([16,23],[16,23]),([24],[24]),([14,25,21],[14,25]),([3,5,0,1,2,3,4,5,6,7,8,9,10,11,12,13,14,15,16,17,18,19,20,21,22,23,24,25,26],[3,5]),([27,26,26,0,1,2,3,4,5,6,7,8,9,10,11,12,13,14,15,16,17,18,19,20,21,22,23,24,25,26],[26,27])])
def R221_4.B : List Nat:=[0,1,3,7,0,16,0,64,192,448,0,1024,4032,8128,16320,0,32768,0,131072,0,524288,1605568,4095936,8290240,16777152,33554368,67108800,134217727,268435455]
theorem R221_4.tab : rtab .any (opsOf Tryz.f221 4) = R221_4.T:=by kernel_rfl
theorem R221_4.bits : waitsOk R221_4.T.2 R221_4.B = true:=by kernel_rfl
theorem pourP_old {Y : Yd} {s : S84} (h : isNew Y s.f0 = false) : pourP Y s = .error 6:=by unfold pourP;rw [if_neg (by rw [h];simp)]
theorem pourP_full {Y : Yd} {s : S84} (h : isNew Y s.f0 = true) (h2 : ¬ heldP (pitP Y s.f3) + s.f5 ≤ roomP Y s.f3) : pourP Y s = .error 2:=by unfold pourP;rw [if_pos h,if_neg h2]
theorem pourP_ok {Y : Yd} {s : S84} (h : isNew Y s.f0 = true) (h2 : heldP (pitP Y s.f3) + s.f5 ≤ roomP Y s.f3) : pourP Y s = .ok { Y with pours:=Y.pours ++ [s.f0],days:=Y.days ++ [s.f2],pits:=Y.pits.set s.f3.toNat (pitP Y s.f3 ++ [⟨s.f5,[⟨s.f0,wholeP s.f5⟩]⟩]) }:=by unfold pourP;rw [if_pos h,if_pos h2]
structure PourMid (wd w' : World) (base : Nat) (L : Loc) (Y : Yd) (s : S84) (Bx k8 k16 : Nat) (v : Value) : Prop where
 below : Below base wd w'
 grown : wd.grownBy w' L.vo.ownBlock
 r25 : (Kd.int .i64).R 3 w' base (fun _ => True) v (Y.pours ++ [s.f0])
 at25 : v.ownBlock = L.vo.ownBlock ∨ ∃ b,v.ownBlock = some b ∧ wd.heap.size ≤ b
 r16 : (Kd.int .i64).R 3 w' base (fun _ => True) (.slice (some ⟨k16,0,none⟩) 1 1) [s.f2]
theorem PourMid.lay {wd w' : World} {base : Nat} {L : Loc} {Y : Yd} {s : S84} {Bx k8 : Nat} {v : Value} (below : Below base wd w') (grown : wd.grownBy w' L.vo.ownBlock) (r25 : (Kd.int .i64).R 3 w' base (fun _ => True) v (Y.pours ++ [s.f0])) (at25 : v.ownBlock = L.vo.ownBlock ∨ ∃ b,v.ownBlock = some b ∧ wd.heap.size ≤ b) (hb : base ≤ w'.heap.size) :
  PourMid wd (w'.alloc (.cells #[ii s.f2] 3)) base L Y s Bx k8 w'.heap.size v :=
 ⟨below.alloc hb _,grown.trans (World.grownBy_alloc w' _ _),Kd.R_alloc r25 _,at25,R_one w' s.f2 base hb⟩
theorem at_weak {v v0 : Value} {n m : Nat} (h : v.ownBlock = v0.ownBlock ∨ ∃ b,v.ownBlock = some b ∧ n ≤ b) (hm : m ≤ n) : v.ownBlock = v0.ownBlock ∨ ∃ b,v.ownBlock = some b ∧ m ≤ b:=h.imp_right fun ⟨b,h1,h2⟩ => ⟨b,h1,Nat.le_trans hm h2⟩
theorem own_some {b k n c : Nat} (h : (Value.slice (some ⟨b,0,none⟩) n c).ownBlock = some k) : b = k:=by simpa [Value.ownBlock] using h
theorem R_one' (w : World) (i : Int) (base : Nat) (hb : base ≤ w.heap.size) (k : Nat) (hk : w.heap.size = k) : (Kd.int .i64).R 3 (w.alloc (.cells #[ii i] 3)) base (fun _ => True) (.slice (some ⟨k,0,none⟩) 1 1) [i]:=by subst hk;exact R_one w i base hb
set_option maxRecDepth 100000 in
set_option maxHeartbeats 4000000 in
theorem pour_calls {W : World} {base m : Nat} {L : Loc} {Y : Yd} (hY : YardAt W base L Y) (hw : Wf m Y) (hm : m ≤ 60) (s : S84) (step : Int) (h0 : 0 ≤ s.f3) (h1 : s.f3 < Y.rooms.length) (hn1 : 1 ≤ s.f5) (hn2 : s.f5 ≤ 1000) :
  Calls Tryz.prog 221 #[.pointer (some ⟨L.g,0,none⟩),.agg #[ii s.f0,ii s.f1,ii s.f2,ii s.f3,ii s.f4,ii s.f5],ii step] W fun e W' => StepPost W base L (pourP Y s) e W':=by
 have hu:=Tryz.underlying84
 obtain ⟨p1,p2,p3,p4⟩:=hw.pitOk h0 h1
 have HY:=am hY
 have HW:=am hw
 have HP1:=am p1
 have HHM:=am (show heldP (pitP Y s.f3) ≤ 4096 by omega)
 have HY1:=am (hY.move (below_alloc (Below.refl W.heap.size W) (.cells #[ii s.f0,ii s.f1,ii s.f2,ii s.f3,ii s.f4,ii s.f5] 84)))
 have HB1:=am (below_alloc (Below.refl W.heap.size W) (.cells #[ii s.f0,ii s.f1,ii s.f2,ii s.f3,ii s.f4,ii s.f5] 84))
 have HX1:=am (blk_new W (.cells #[ii s.f0,ii s.f1,ii s.f2,ii s.f3,ii s.f4,ii s.f5] 84))
 have HNX:=am (hY.not_new (Nat.le_refl W.heap.size))
 have hbw : base ≤ W.heap.size:=by have:=hY.gLt;omega
 clear hY hw p1 p2 p3 p4
 cases hnew : isNew Y s.f0 with
|false =>
  have HNW:=am hnew
  clear hnew
  rw [pourP_old HNW.out]
  go_enter Tryz.func221,Tryz.ntmps221
  go_wp2_with fail
  refine (fresh_calls HY1.out HW.out hm s.f0).mono ?_
  rintro e w1 ⟨rfl,hd⟩
  rw [freshE_no HNW.out]
  have HD:=am hd
  clear hd
  unfold Pan
  go_wp2
  exact ⟨rfl,StepPost.err0 HY.out (below_then HB1.out (below_size HB1.out) HD.out)⟩
|true =>
  have HNW:=am hnew
  clear hnew
  by_cases hro : heldP (pitP Y s.f3) + s.f5 ≤ roomP Y s.f3
  ·have HRO:=am hro
   clear hro
   rw [pourP_ok HNW.out HRO.out]
   go_enter Tryz.func221,Tryz.ntmps221
   go_wp2_with fail
   refine (fresh_calls HY1.out HW.out hm s.f0).mono ?_
   rintro e w1 ⟨rfl,hd⟩
   rw [freshE_ok HNW.out]
   have HB2:=am (below_then HB1.out (below_size HB1.out) hd)
   have HX2:=am (blk_below HX1.out hd)
   have HY2:=am (HY1.out.move hd)
   clear hd
   have g0a:=bd HX2.out 0
   have g1a:=bd HX2.out 1
   have g2a:=bd HX2.out 2
   have g3a:=bd HX2.out 3
   have g4a:=bd HX2.out 4
   have g5a:=bd HX2.out 5
   go_wp2_with fail
   refine (room_calls HY2.out HW.out s.f3 s.f5 h0 h1 (by omega) hn2).mono ?_
   rintro e w2 ⟨rfl,hd⟩
   rw [show roomE Y s.f3 s.f5 = .returned (.tuple #[]) from if_pos HRO.out]
   have HB3:=am (below_then HB2.out (below_size HB2.out) hd)
   have HX3:=am (blk_below HX2.out hd)
   have HY3:=am (HY2.out.move hd)
   clear hd g0a g1a g2a g3a g4a g5a
   have g0b:=bd HX3.out 0
   have g1b:=bd HX3.out 1
   have g2b:=bd HX3.out 2
   have g3b:=bd HX3.out 3
   have g4b:=bd HX3.out 4
   have g5b:=bd HX3.out 5
   have HX5:=am (blk_drew HX3.out)
   have HY5:=am (HY3.out.move (below_drew (Below.refl _ w2)))
   have HB5:=am (below_drew HB3.out)
   have HSS:=am (show ∀ w' : World,(∀ k,k < w2.drew.heap.size → some k ≠ L.vo.ownBlock → some k ≠ L.vd.ownBlock → w'.heap[k]? = w2.drew.heap[k]?) → (w'.cell? ⟨L.g,2,none⟩ = some L.vo ∧ w'.cell? ⟨L.g,3,none⟩ = some L.vd ∧ w'.cell? ⟨W.heap.size,0,none⟩ = some (ii s.f0) ∧ w'.cell? ⟨W.heap.size,2,none⟩ = some (ii s.f2)) from fun w' hk => by
    have b1:=(hk L.g (blk_lt HY5.out.blk) (fun e => R_offg HY5.out.pours HY5.out.blk (by decide) e.symm) (fun e => R_offg HY5.out.days HY5.out.blk (by decide) e.symm)).trans HY5.out.blk
    have b2:=(hk W.heap.size (blk_lt HX5.out) (fun e => HNX.out (.inr (.inr (.inl e.symm)))) (fun e => HNX.out (.inr (.inr (.inr (.inl e.symm)))))).trans HX5.out
    exact ⟨(blk_cell b1 2).trans rfl,(blk_cell b1 3).trans rfl,(blk_cell b2 0).trans rfl,(blk_cell b2 2).trans rfl⟩)
   clear g0b g1b g2b g3b g4b g5b
   go_wp2
   refine start_ (n:=24) (S:=fun w' => w'.cell? ⟨L.g,2,none⟩ = some L.vo ∧ w'.cell? ⟨L.g,3,none⟩ = some L.vd ∧ w'.cell? ⟨W.heap.size,0,none⟩ = some (ii s.f0) ∧ w'.cell? ⟨W.heap.size,2,none⟩ = some (ii s.f2)) (ds:=[20,23]) (ab 24 0) kr rfl kr (HSS.out _ (fun _ _ _ _ => rfl)) (fun hHeld => ?_);refine with_tabW R221_3.tab R221_3.bits (fun HT_ HW_ => ?_)
   generalize (w2).drew = wd at HX5 HY5 HB5 HSS hHeld ⊢
   refine qA 0 (some 16) ?_;refine qA 1 (some 17) ?_;refine qA 2 (some 18) ?_;refine qA 3 (some 19) ?_;refine qA 4 (some 20) ?_;refine qT 5 (some 21) ?_;refine qA 6 (some 22) ?_;refine qT 7 (some 23) ?_;refine qA 10 (some 26) ?_;refine qA 11 (some 27) ?_;refine qA 12 (some 28) ?_;refine qT 13 (some 29) ?_;refine qA 14 (some 30) ?_;refine qT 15 (some 31) ?_
   have hbd : base ≤ wd.heap.size:=Nat.le_trans hbw HB5.out.size
   refine join_ (σ:=Nat × Nat × Value) 7 (ab 24 131071) (fun x => [(24,.slice (some ⟨x.1,0,none⟩) 1 1),(25,x.2.2),(32,.slice (some ⟨x.2.1,0,none⟩) 1 1)]) (fun x w' => PourMid wd w' base L Y s W.heap.size x.1 x.2.1 x.2.2) ?_ ?_
   rotate_left
   ·intro hCont
    refine two_ (i:=8) (j:=16) (Ni:=some 24) (Nj:=some 32) (ab 24 65023) (ab 24 130303) rfl rfl rfl rfl (two_of HT_.out kr) (by decide) (by decide) (fun K hK => ?_) (fun K hK => ?_)
    ·skip
     refine value_ (w1:=?_) (v:=?_) (by rfl) rfl ?_ ?_
     rotate_left 2
     ·go_simp
      constructor
      ·rfl
      ·rfl
     refine hK.out _ _ (HSS.out _ (fun k hk n1 _ => ((World.grownBy_alloc wd (.cells #[ii s.f0] 3) L.vo.ownBlock)).block k hk n1)) (fun hHeld => ?_)
     clear hK K
     refine qN (some 24) ?_
     refine two_ (i:=9) (j:=16) (Ni:=some 25) (Nj:=some 32) (ab 24 65535) (ab 24 130559) rfl rfl rfl rfl (two_of HT_.out kr) (by decide) (by decide) (fun K hK => ?_) (fun K hK => ?_)
     ·skip
      refine Kd.R_append_rows_step (Kd.int .i64) (Rr:=fun x c => (Kd.int .i64).K (wd.alloc (.cells #[ii s.f0] 3)) x c) (w0:=(wd.alloc (.cells #[ii s.f0] 3))) base (by rfl) (.tmp 21) (.tmp 24) 27 3 (ii 0) 8 rfl Tryz.underlying27 info3 rfl (by decide) (by decide) L.vo Y.pours [s.f0] (some ⟨wd.heap.size,0,none⟩) 1 1 (fun _ => True) (fun _ => False) rfl rfl (Kd.R_alloc HY5.out.pours _) (Kd.R_reads' (R_one wd s.f0 base hbd)).2.2 (fun _ _ h => h) (fun _ h => h.elim) (fun _ _ => trivial) (Below.refl _ _) (by rw [World.size_alloc];omega) (by have:=HW.out.npours;omega) ?_
      intro v9 w9 hr hb hg hat
      refine hK.out _ _ (HSS.out _ (fun k hk n1 _ => ((World.grownBy_alloc wd (.cells #[ii s.f0] 3) L.vo.ownBlock).trans hg).block k hk n1)) (fun hHeld => ?_)
      clear hK K
      refine qN (some 25) ?_
      refine one_ (i:=16) (N:=some 32) (ab 24 131071) rfl rfl (one_of HT_.out kr) (by decide) (fun K hK => ?_)
      refine value_ (w1:=?_) (v:=?_) (by rfl) rfl ?_ ?_
      rotate_left 2
      ·go_simp
       constructor
       ·rfl
       ·rfl
      refine hK.out _ _ (HSS.out _ (fun k hk n1 _ => (((World.grownBy_alloc wd (.cells #[ii s.f0] 3) L.vo.ownBlock).trans hg).trans (World.grownBy_alloc w9 _ _)).block k hk n1)) (fun hHeld => ?_)
      clear hK K
      refine qN (some 32) ?_
      exact nP (hCont ⟨wd.heap.size,w9.heap.size,v9⟩ _ (PourMid.lay (((Below.refl base wd).alloc hbd _).trans hb) ((World.grownBy_alloc wd (.cells #[ii s.f0] 3) L.vo.ownBlock).trans hg) hr (at_weak hat (by rw [World.size_alloc];omega)) (Nat.le_trans (by rw [World.size_alloc];omega) hg.size)))
     ·skip
      refine value_ (w1:=?_) (v:=?_) (by rfl) rfl ?_ ?_
      rotate_left 2
      ·go_simp
       constructor
       ·rfl
       ·rfl
      refine hK.out _ _ (HSS.out _ (fun k hk n1 _ => ((World.grownBy_alloc wd (.cells #[ii s.f0] 3) L.vo.ownBlock).trans (World.grownBy_alloc _ (.cells #[ii s.f2] 3) _)).block k hk n1)) (fun hHeld => ?_)
      clear hK K
      refine qN (some 32) ?_
      refine one_ (i:=9) (N:=some 25) (ab 24 131071) rfl rfl (one_of HT_.out kr) (by decide) (fun K hK => ?_)
      refine Kd.R_append_rows_step (Kd.int .i64) (Rr:=fun x c => (Kd.int .i64).K ((wd.alloc (.cells #[ii s.f0] 3)).alloc (.cells #[ii s.f2] 3)) x c) (w0:=((wd.alloc (.cells #[ii s.f0] 3)).alloc (.cells #[ii s.f2] 3))) base (by rfl) (.tmp 21) (.tmp 24) 27 3 (ii 0) 8 rfl Tryz.underlying27 info3 rfl (by decide) (by decide) L.vo Y.pours [s.f0] (some ⟨wd.heap.size,0,none⟩) 1 1 (fun _ => True) (fun _ => False) rfl rfl (Kd.R_alloc (Kd.R_alloc HY5.out.pours _) _) (Kd.R_reads' (Kd.R_alloc (R_one wd s.f0 base hbd) _)).2.2 (fun _ _ h => h) (fun _ h => h.elim) (fun _ _ => trivial) (Below.refl _ _) (by rw [World.size_alloc,World.size_alloc];omega) (by have:=HW.out.npours;omega) ?_
      intro v9 w9 hr hb hg hat
      refine hK.out _ _ (HSS.out _ (fun k hk n1 _ => (((World.grownBy_alloc wd (.cells #[ii s.f0] 3) L.vo.ownBlock).trans (World.grownBy_alloc _ (.cells #[ii s.f2] 3) _)).trans hg).block k hk n1)) (fun hHeld => ?_)
      clear hK K
      refine qN (some 25) ?_
      exact nP (hCont ⟨wd.heap.size,wd.heap.size + 1,v9⟩ _ (⟨(((Below.refl base wd).alloc hbd _).alloc (by rw [World.size_alloc];omega) _).trans hb,((World.grownBy_alloc wd (.cells #[ii s.f0] 3) L.vo.ownBlock).trans (World.grownBy_alloc _ _ _)).trans hg,hr,at_weak hat (by rw [World.size_alloc,World.size_alloc];omega),R_own_move rfl (R_one' (wd.alloc (.cells #[ii s.f0] 3)) s.f2 base (by rw [World.size_alloc];omega) (wd.heap.size + 1) (by rw [World.size_alloc])) (fun k hk => hg.block k (by rw [World.size_alloc,World.size_alloc];have : wd.heap.size + 1 = k:=own_some hk;omega) (fun e => by have:=Kd.R_lt HY5.out.pours k e.symm;have : wd.heap.size + 1 = k:=own_some hk;omega))⟩))
    ·skip
     refine value_ (w1:=?_) (v:=?_) (by rfl) rfl ?_ ?_
     rotate_left 2
     ·go_simp
      constructor
      ·rfl
      ·rfl
     refine hK.out _ _ (HSS.out _ (fun k hk n1 _ => ((World.grownBy_alloc wd (.cells #[ii s.f2] 3) L.vo.ownBlock)).block k hk n1)) (fun hHeld => ?_)
     clear hK K
     refine qN (some 32) ?_
     refine one_ (i:=8) (N:=some 24) (ab 24 130559) rfl rfl (one_of HT_.out kr) (by decide) (fun K hK => ?_)
     refine value_ (w1:=?_) (v:=?_) (by rfl) rfl ?_ ?_
     rotate_left 2
     ·go_simp
      constructor
      ·rfl
      ·rfl
     refine hK.out _ _ (HSS.out _ (fun k hk n1 _ => ((World.grownBy_alloc wd (.cells #[ii s.f2] 3) L.vo.ownBlock).trans (World.grownBy_alloc _ (.cells #[ii s.f0] 3) _)).block k hk n1)) (fun hHeld => ?_)
     clear hK K
     refine qN (some 24) ?_
     refine one_ (i:=9) (N:=some 25) (ab 24 131071) rfl rfl (one_of HT_.out kr) (by decide) (fun K hK => ?_)
     refine Kd.R_append_rows_step (Kd.int .i64) (Rr:=fun x c => (Kd.int .i64).K ((wd.alloc (.cells #[ii s.f2] 3)).alloc (.cells #[ii s.f0] 3)) x c) (w0:=((wd.alloc (.cells #[ii s.f2] 3)).alloc (.cells #[ii s.f0] 3))) base (by rfl) (.tmp 21) (.tmp 24) 27 3 (ii 0) 8 rfl Tryz.underlying27 info3 rfl (by decide) (by decide) L.vo Y.pours [s.f0] (some ⟨wd.heap.size + 1,0,none⟩) 1 1 (fun _ => True) (fun _ => False) rfl rfl (Kd.R_alloc (Kd.R_alloc HY5.out.pours _) _) (Kd.R_reads' (R_one' (wd.alloc (.cells #[ii s.f2] 3)) s.f0 base (by rw [World.size_alloc];omega) (wd.heap.size + 1) (by rw [World.size_alloc]))).2.2 (fun _ _ h => h) (fun _ h => h.elim) (fun _ _ => trivial) (Below.refl _ _) (by rw [World.size_alloc,World.size_alloc];omega) (by have:=HW.out.npours;omega) ?_
     intro v9 w9 hr hb hg hat
     refine hK.out _ _ (HSS.out _ (fun k hk n1 _ => (((World.grownBy_alloc wd (.cells #[ii s.f2] 3) L.vo.ownBlock).trans (World.grownBy_alloc _ (.cells #[ii s.f0] 3) _)).trans hg).block k hk n1)) (fun hHeld => ?_)
     clear hK K
     refine qN (some 25) ?_
     exact nP (hCont ⟨wd.heap.size + 1,wd.heap.size,v9⟩ _ (⟨(((Below.refl base wd).alloc hbd _).alloc (by rw [World.size_alloc];omega) _).trans hb,((World.grownBy_alloc wd (.cells #[ii s.f2] 3) L.vo.ownBlock).trans (World.grownBy_alloc _ _ _)).trans hg,hr,at_weak hat (by rw [World.size_alloc,World.size_alloc];omega),R_own_move rfl (Kd.R_alloc (R_one wd s.f2 base hbd) _) (fun k hk => hg.block k (by rw [World.size_alloc,World.size_alloc];have : wd.heap.size = k:=own_some hk;omega) (fun e => by have:=Kd.R_lt HY5.out.pours k e.symm;have : wd.heap.size = k:=own_some hk;omega))⟩))
   rintro ⟨k8,k16,v25⟩ w5 hmid
   obtain ⟨A9,c9,rfl⟩:=Kd.R_slice hmid.r25
   rw [List.length_append,List.length_singleton] at hmid ⊢
   have HM:=am hmid
   clear hmid
   refine norm_ (a':=?_) ?_ ?_
   rotate_left
   ·simp only [putAll,Act.put,List.setIfInBounds_toArray,List.set_cons_zero,List.set_cons_succ]
    rfl
   have hdy : (Kd.int .i64).R 3 w5 base (fun _ => True) L.vd Y.days:=R_own_move rfl HY5.out.days (fun k hk => HM.out.grown.block k (Kd.R_lt HY5.out.days k hk) (fun e => HY5.out.apart k e.symm hk))
   have HDY:=am hdy
   clear hdy
   refine one_ (i:=17) (N:=(some 33)) (ab 24 262143) rfl rfl (one_of HT_.out kr) (by decide) (fun K hK => ?_)
   refine Kd.R_append_rows_step (Kd.int .i64) (Rr:=fun x c => (Kd.int .i64).K w5 x c) (w0:=w5) base (by rfl) (.tmp 29) (.tmp 32) 27 3 (ii 0) 8 rfl Tryz.underlying27 info3 rfl (by decide) (by decide) L.vd Y.days [s.f2] (some ⟨k16,0,none⟩) 1 1 (fun _ => True) (fun _ => False) rfl rfl HDY.out (Kd.R_reads' HM.out.r16).2.2 (fun _ _ h => h) (fun _ h => h.elim) (fun _ _ => trivial) (Below.refl _ _) (Nat.le_trans hbd HM.out.grown.size) (by have:=HW.out.npours;have:=HW.out.days;omega) ?_
   intro v33 w7 hr hb hg hat
   obtain ⟨A10,c10,rfl⟩:=Kd.R_slice hr
   rw [List.length_append,List.length_singleton] at hr hat ⊢
   have hnv : NeRow (.slice A9 (Y.pours.length + 1) c9) L.vd:=fun k hk hk' => by
    rcases HM.out.at25 with e|⟨b,e,hle⟩
    ·exact HY5.out.apart k (e ▸ hk) hk'
    ·have:=Kd.R_lt HY5.out.days k hk'
     rw [e] at hk
     injection hk with hk
     omega
   have hr25 : (Kd.int .i64).R 3 w7 base (fun _ => True) (.slice A9 (Y.pours.length + 1) c9) (Y.pours ++ [s.f0]):=R_own_move rfl HM.out.r25 (fun k hk => hg.block k (Kd.R_lt HM.out.r25 k hk) (fun e => hnv k hk e.symm))
   have hfar : ∀ k,k < wd.heap.size → some k ≠ L.vo.ownBlock → some k ≠ L.vd.ownBlock → w7.heap[k]? = wd.heap[k]?:=fun k hk n1 n2 => (hg.block k (Nat.lt_of_lt_of_le hk HM.out.grown.size) n2).trans (HM.out.grown.block k hk n1)
   have hnr : NeRow (.slice A9 (Y.pours.length + 1) c9) (.slice A10 (Y.days.length + 1) c10):=fun k hk hk' => by
    rcases hat with e|⟨b,e,hle⟩
    ·exact hnv k hk (e ▸ hk')
    ·have:=Kd.R_lt HM.out.r25 k hk
     rw [e] at hk'
     injection hk' with hk'
     omega
   obtain ⟨s1,s2,s3,s4,s5,s6⟩:=HY5.out.set_pours (Nat.le_trans HM.out.grown.size hg.size) hfar hr25 hr HM.out.at25 (at_weak hat HM.out.grown.size) hnr
   have HY8:=am s1
   have HF8:=am s2
   have HB8:=am (((((HB5.out.mono hbw).trans (HM.out.below.trans hb)).setCell (p:=⟨L.g,2,none⟩) HY.out.gbase (.slice A9 (Y.pours.length + 1) c9))).setCell (p:=⟨L.g,3,none⟩) HY.out.gbase (.slice A10 (Y.days.length + 1) c10))
   have hss:=HSS.out w7 hfar
   clear hr hb hg hat hnv hr25 hfar hnr s1 s2
   refine hK.out _ _ hss (fun hHeld => ?_)
   clear hK K
   refine qN (some 33) ?_
   refine qA 18 (some 34) ?_;refine qA 19 (some 35) ?_
   refine last_ (i:=20) (N:=none) (ab 24 2097151) rfl rfl (one_of HT_.out kr) (by decide) (fun K hK => ?_)
   refine skip_ (w1:=?_) (by rfl) rfl ?_ ?_
   rotate_left
   ·go_simp
    rfl
   refine hK.out _ _ ?_
   clear hK K
   refine qA 21 (some 36) ?_;refine qA 22 (some 37) ?_
   refine last_ (i:=23) (N:=none) (ab 24 16777215) rfl rfl (one_of HT_.out kr) (by decide) (fun K hK => ?_)
   refine skip_ (w1:=?_) (by rfl) rfl ?_ ?_
   rotate_left
   ·go_simp
    rfl
   refine hK.out _ _ ?_
   clear hK K
   refine done_ (done_of HT_.out kr) ?_
   go_wp2
   have HX8:=am ((HF8.out.keep W.heap.size (by have:=blk_lt HX5.out;exact this) HNX.out).1.trans HX5.out)
   have HN8:=am ((HF8.out.keep W.heap.size (by have:=blk_lt HX5.out;exact this) HNX.out).2)
   have HR8:=am ((Fr.of_below L HB5.out).trans HF8.out)
   obtain ⟨L2,hL2⟩ : ∃ L2 : Loc,L2 = { L with vo:=.slice A9 (Y.pours.length + 1) c9,vd:=.slice A10 (Y.days.length + 1) c10 }:=⟨_,rfl⟩
   have HLG:=am (show L2.g = L.g by rw [hL2])
   have HLP:=am (show L2.gp = L.gp by rw [hL2])
   rw [← hL2] at HY8 HN8 HR8
   clear hL2 HF8 HM HDY HSS s3 s4 s5 s6 hss
   generalize ((w7.setCell ⟨L.g,2,none⟩ (.slice A9 (Y.pours.length + 1) c9)).setCell ⟨L.g,3,none⟩ (.slice A10 (Y.days.length + 1) c10)) = w8 at HY8 HX8 HN8 HR8 HB8 ⊢
   obtain ⟨A2,c2,y1,y2,y3,y4⟩:=HY8.out.pit_at h0 h1
   obtain ⟨q,hq⟩ : ∃ q,q = pitP Y s.f3:=⟨_,rfl⟩
   rw [show pitP ({ Y with pours:=Y.pours ++ [s.f0],days:=Y.days ++ [s.f2] } : Yd) s.f3 = q from hq.symm] at y1 y2 y3
   have HQL:=am (show q.length ≤ 4096 by have:=held_ge HP1.out;have:=HHM.out;rw [hq];omega)
   have HQ:=am hq
   have HL2:=am y2
   clear hq y2
   obtain ⟨ad,had⟩ : ∃ ad : Addr,ad = ⟨L.gp,0,none⟩:=⟨_,rfl⟩
   have HAD:=am had
   have e2 : ad.add s.f3.toNat = ⟨L2.gp,s.f3.toNat,none⟩:=by rw [had,add_plain,HLP.out]
   rw [← e2] at y1 y4
   have hb8:=HY8.out.blk
   rw [HLG.out,HLP.out] at hb8
   have HG9:=am (show ∀ w' : World,Below w8.heap.size w8 w' → w'.cell? ⟨L.g,1,none⟩ = some (.slice (some ad) Y.rooms.length Y.rooms.length) from fun w' hb => (blk_cell (blk_below hb8 hb) 1).trans (by rw [HAD.out];rfl))
   have HP9:=am (show ∀ w' : World,Below w8.heap.size w8 w' → w'.cell? (ad.add s.f3.toNat) = some (.slice A2 q.length c2) from fun w' hb => pw_cell_below hb y1)
   have HS9:=am (show ∀ w' : World,Below w8.heap.size w8 w' → (w'.cell? ⟨L.g,1,none⟩ = some (.slice (some ad) Y.rooms.length Y.rooms.length) ∧ w'.cell? ⟨W.heap.size,0,none⟩ = some (ii s.f0) ∧ w'.cell? ⟨W.heap.size,3,none⟩ = some (ii s.f3) ∧ w'.cell? ⟨W.heap.size,5,none⟩ = some (ii s.f5) ∧ w'.cell? (ad.add s.f3.toNat) = some (.slice A2 q.length c2)) from fun w' hb => ⟨HG9.out w' hb,(blk_cell (blk_below HX8.out hb) 0).trans rfl,(blk_cell (blk_below HX8.out hb) 3).trans rfl,(blk_cell (blk_below HX8.out hb) 5).trans rfl,HP9.out w' hb⟩)
   have HD9:=am (below_drew (Below.refl w8.heap.size w8))
   have HY9:=am (HY8.out.move HD9.out)
   have HG9':=am (Kd.F_drew y3)
   have HE2:=am e2
   clear had e2 y1 y3 y4 hb8 HX5 HY5 HB5 HP9 HG9
   refine start_ (n:=29) (S:=fun w' => w'.cell? ⟨L.g,1,none⟩ = some (.slice (some ad) Y.rooms.length Y.rooms.length) ∧ w'.cell? ⟨W.heap.size,0,none⟩ = some (ii s.f0) ∧ w'.cell? ⟨W.heap.size,3,none⟩ = some (ii s.f3) ∧ w'.cell? ⟨W.heap.size,5,none⟩ = some (ii s.f5) ∧ w'.cell? (ad.add s.f3.toNat) = some (.slice A2 q.length c2)) (ds:=[28]) (ab 29 0) kr rfl kr (HS9.out _ HD9.out) (fun hHeld => ?_);refine with_tabW R221_4.tab R221_4.bits (fun HT_ HW_ => ?_)
   generalize (w8).drew = wd2 at HY9 HG9' HD9 hHeld ⊢
   refine qA 0 (some 38) ?_;refine qA 1 (some 39) ?_;refine qA 2 (some 40) ?_;refine qT 3 (some 41) ?_;refine qA 4 (some 42) ?_;refine qT 5 (some 43) ?_;refine qA 6 (some 44) ?_;refine qA 7 (some 45) ?_;refine qA 8 (some 46) ?_;refine qT 9 (some 47) ?_;refine qA 10 (some 48) ?_;refine qT 11 (some 49) ?_;refine qA 12 (some 50) ?_;refine qT 13 (some 51) ?_;refine qA 15 (some 53) ?_;refine qT 16 (some 54) ?_;refine qA 17 (some 55) ?_;refine qT 18 (some 56) ?_;refine qA 19 (some 57) ?_;refine qT 20 (some 58) ?_
   refine one_ (i:=14) (N:=(some 52)) (ab 29 2097151) rfl rfl (one_of HT_.out kr) (by decide) (fun K hK => ?_)
   refine gC Tryz.func242 #[.slice A2 q.length c2] ?_
   refine (clone242_calls A2 c2 q _ L2.Not HG9'.out HL2.out (by have:=HQL.out;omega)).mono ?_
   rintro e w10 ⟨v,rfl,hB,hRv⟩
   obtain ⟨A5,c5,rfl⟩:=Kd.R_slice hRv
   have HV10:=am hRv
   have HD10:=am (below_then HD9.out (below_size HD9.out) hB)
   have HC10:=am hB
   have HLT10:=am (fun k hk => Kd.R_lt hRv k hk)
   clear hB hRv
   refine ⟨_,rfl,?_⟩
   refine hK.out _ _ (HS9.out _ HD10.out) (fun hHeld => ?_)
   clear hK K
   refine qN (some 52) ?_
   refine one_ (i:=21) (N:=(some 59)) (ab 29 4194303) rfl rfl (one_of HT_.out kr) (by decide) (fun K hK => ?_)
   refine gC Tryz.func156 #[ii s.f5] ?_
   refine (pit_whole.calls s.f5 s.f5 1 _ rfl).mono ?_
   rintro e w11 ⟨rfl,hB⟩
   have HD11:=am (below_then HD10.out (below_size HD10.out) hB)
   have HC11:=am (HC10.out.trans (hB.mono HC10.out.size))
   have HE11:=am hB
   clear hB
   refine ⟨_,rfl,?_⟩
   refine hK.out _ _ (HS9.out _ HD11.out) (fun hHeld => ?_)
   clear hK K
   refine qN (some 59) ?_
   refine qA 22 (some 60) ?_
   refine one_ (i:=23) (N:=(some 61)) (ab 29 16777215) rfl rfl (one_of HT_.out kr) (by decide) (fun K hK => ?_)
   refine Kd.N_lit_step k89 (w0:=w11) w11.heap.size 89 (by rfl) rfl (xs:=[⟨s.f0,wholeP s.f5⟩]) (inner:=[ii s.f0,ii s.f5,ii 1]) (ok:=fun k => w11.heap.size ≤ k) (okp:=fun _ => False) ?run ?rep ?ok ?fr (Below.refl _ _) (Nat.le_refl _) (by simp) ?_
   case run => go_simp
   case rep => exact (Reps.none _ _).snoc (Kd.FK_of_M (base:=0) (k89_mkM _ _ _ ⟨s.f0,wholeP s.f5⟩)) rfl
   case ok => exact fun k hk => hk.elim
   case fr => exact Nat.le_refl _
   intro v12 w12 hn hB hg hat
   obtain ⟨A12,c12,rfl⟩:=Kd.N_slice hn
   have HD12:=am (below_then HD11.out (below_size HD11.out) hB)
   have HC12:=am (HC11.out.trans (hB.mono HC11.out.size))
   have HN12:=am hn
   have HB1012:=am (below_then HE11.out (below_size HE11.out) hB)
   have hs12 : w11.heap.size ≤ w12.heap.size:=hB.size
   have HS12:=am hs12
   clear hn hB hg hat hs12
   refine hK.out _ _ (HS9.out _ HD12.out) (fun hHeld => ?_)
   clear hK K
   refine qN (some 61) ?_
   refine qA 24 (some 62) ?_
   refine one_ (i:=25) (N:=(some 63)) (ab 29 67108863) rfl rfl (one_of HT_.out kr) (by decide) (fun K hK => ?_)
   refine value_ (w1:=?_) (v:=?_) (by rfl) rfl ?_ ?_
   rotate_left 2
   ·go_simp
    constructor
    ·rfl
    ·rfl
   refine hK.out _ _ (HS9.out _ (below_alloc HD12.out _)) (fun hHeld => ?_)
   clear hK K
   refine qN (some 63) ?_
   refine one_ (i:=26) (N:=(some 64)) (ab 29 134217727) rfl rfl (one_of HT_.out kr) (by decide) (fun K hK => ?_)
   refine Kd.R_append_step (ft k212 w12 (fun k => L2.Not k ∧ some k ≠ (Value.slice A5 q.length c5).ownBlock)) (w0:=w12) wd2.heap.size (by rfl) (.tmp 52) (.tmp 63) 131 212 (.agg #[ii 0,.slice none 0 0]) 32 rfl Tryz.underlying131 info212 rfl (by show 0 < (k212 : Kd _).sz;decide) (by decide) (.slice A5 q.length c5) q ⟨s.f5,[⟨s.f0,wholeP s.f5⟩]⟩ [ii s.f5,.slice A12 1 c12] (fun _ => True) (fun k => some k ≠ (Value.slice A5 q.length c5).ownBlock) rfl rfl ?aM (fun k hk => ⟨trivial,hk⟩) (fun _ _ => trivial) ?aO (Below.refl _ _) HC12.out.size ?aL ?_
   case aM =>
    exact k212_mkF w12 _ ⟨s.f5,[⟨s.f0,wholeP s.f5⟩]⟩ (Kd.N_reads' HN12.out).2.1 (Kd.F_mono (Kd.N_F HN12.out) (fun k hk => ⟨HY9.out.not_new (Nat.le_trans HC11.out.size hk),fun e => by have:=HLT10.out k e.symm;have:=HE11.out.size;omega⟩))
   case aO => exact ft_to (Kd.R_below HV10.out HB1012.out) HC12.out (fun k hk hlt => ⟨hk,fun e => by have:=Kd.R_base HV10.out k e.symm;omega⟩)
   case aL => have:=HQL.out;omega
   intro v1 w13 hr hb hg hat
   obtain ⟨A7,c7,rfl⟩:=Kd.R_slice hr
   have HV7:=am (Kd.R_reads' hr).2.1
   have hD13:=HD12.out.trans (hb.mono HD9.out.size)
   have HY13:=am (HY8.out.move hD13)
   have hF13 : Kd.F k212 w13 L2.Not A7 (q ++ [(⟨s.f5,[⟨s.f0,wholeP s.f5⟩]⟩ : S212)]).length (q ++ [(⟨s.f5,[⟨s.f0,wholeP s.f5⟩]⟩ : S212)]):=ft_F2 hr (fun k hk hlt => hg.block k hlt hk.2) (fun k hk => hk.1) (fun k hk => HY9.out.not_new (Kd.R_base hr k hk))
   obtain ⟨s1,s2,s3⟩:=HY13.out.set_pit h0 h1 HV7.out hF13
   obtain ⟨_,_,z1,_,_,z4⟩:=HY13.out.pit_at h0 h1
   have z5 : w13.frozen? (ad.add s.f3.toNat) = false:=by rw [HE2.out];exact z4
   have hss:=HS9.out _ hD13
   have z6:=hss.2.2.2.2
   rw [List.length_append,List.length_singleton] at s1 s2 s3 ⊢
   have HY14:=am s1
   have HR14:=am ((HR8.out.trans (Fr.of_below L2 hD13)).trans s2)
   have HB14:=am ((HB8.out.trans (hD13.mono (Nat.le_trans hbw HB8.out.size))).trans s3)
   clear hr hb hg hat hD13 hF13 s1 s2 s3 z1 z4
   refine hK.out _ _ hss (fun hHeld => ?_)
   clear hK K
   refine qN (some 64) ?_
   refine qA 27 (some 65) ?_
   refine last_ (i:=28) (N:=none) (ab 29 536870911) rfl rfl (one_of HT_.out kr) (by decide) (fun K hK => ?_)
   refine skip_ (w1:=?_) (by rfl) rfl ?_ ?_
   rotate_left
   ·go_simp
    rfl
   refine hK.out _ _ ?_
   clear hK K
   refine done_ (done_of HT_.out kr) ?_
   go_wp2
   go_end0
   rw [HE2.out]
   rw [HQ.out] at HB14 HR14 HY14 ⊢
   exact StepPost.done HB14.out HLG.out HR14.out HY14.out
  ·have HRO:=am hro
   clear hro
   rw [pourP_full HNW.out (by have:=HRO.out;omega)]
   go_enter Tryz.func221,Tryz.ntmps221
   go_wp2_with fail
   refine (fresh_calls HY1.out HW.out hm s.f0).mono ?_
   rintro e w1 ⟨rfl,hd⟩
   rw [freshE_ok HNW.out]
   have HB2:=am (below_then HB1.out (below_size HB1.out) hd)
   have HX2:=am (blk_below HX1.out hd)
   have HY2:=am (HY1.out.move hd)
   clear hd
   have g0a:=bd HX2.out 0
   have g1a:=bd HX2.out 1
   have g2a:=bd HX2.out 2
   have g3a:=bd HX2.out 3
   have g4a:=bd HX2.out 4
   have g5a:=bd HX2.out 5
   go_wp2_with fail
   refine (room_calls HY2.out HW.out s.f3 s.f5 h0 h1 (by omega) hn2).mono ?_
   rintro e w2 ⟨rfl,hd⟩
   rw [show roomE Y s.f3 s.f5 = Pan 2 from if_neg (by have:=HRO.out;omega)]
   have HD:=am hd
   clear hd
   unfold Pan
   go_wp2
   exact ⟨rfl,StepPost.err0 HY.out (below_then HB2.out (below_size HB2.out) HD.out)⟩
end Go.Proofs.YtjjfpmapjjemcaaGreat.B
end
