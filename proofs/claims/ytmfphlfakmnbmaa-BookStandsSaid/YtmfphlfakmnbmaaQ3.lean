import Derived.RangeFuncNested
import Derived.RangeFuncBound
import Derived.RangeFuncCalls
import Derived.RangeFuncLeaves
import Derived.RangeFuncBox
import Derived.Shelf.Abstract
import Derived.OwnWalkIn
import Derived.TacticsInMore
import Derived.LoopNIn
import Derived.LoopIn
import Derived.Maps.OwnOps
import Derived.Maps.RangeWalk
import Derived.WideKeyEntry
import Derived.Test.YtmfphlfakmnbmaaQ1
import Derived.Test.YtmfphlfakmnbmaaQ2
set_option linter.unusedVariables false
set_option linter.unusedSimpArgs false
section
namespace Go.Proofs.Ytmfphlfakmnbmaa.B
open Go.RowKit Go.Proofs.YtmfphlfakmnbmaaW.PrintWords Go.Proofs.YtmfphlfakmnbmaaW.PrintLast Go.Proofs.YtmfphlfakmnbmaaW.PrintMore
attribute [local go_sem] max2_int min2_int max_two min_two max_three min_three max_four min_four
section
open Go.Shelf
theorem has_calls (f g a : Int) (w : World) (h0 : 0 ≤ f) (h1 : f ≤ 64) (h2 : 0 ≤ g) (h3 : g ≤ 64) :
  Calls Try.prog 172 #[.agg #[.int .i64 f,.int .i64 g],.int .i64 a] w fun e w' => e = .returned (.bool (decide (f ≤ a ∧ a ≤ f + g - 1))) ∧ Below w.heap.size w w':=by
 have hu164:=Try.underlying164
 go_enter Try.func172,Try.ntmps172
 go_wp2_with (go_at_call 86;refine (book_within.calls _ _ _ _ _ (within_some _ _ _)).mono ?_;rintro e w' ⟨rfl,nq,rfl⟩)
 go_ret
 exact ⟨by simp,pw_below_drewN (below_alloc (Below.refl _ _) _) _⟩
theorem halves_some (f g : Int) (h0 : 0 ≤ f) (h1 : f ≤ 64) (h2 : 0 ≤ g) (h3 : g ≤ 64) :
  book_tree_halves.f 10 f g = some (f,(halfP g.toNat : Int),f + halfP g.toNat,g - halfP g.toNat):=by
 obtain ⟨n,rfl⟩:=Int.eq_ofNat_of_zero_le h2
 unfold book_tree_halves.f
 rw [book_half_some (by omega)]
 have hb : halfP n ≤ 64:=by
  have : ∀ m : Fin 65,halfP m.val ≤ 64:=by decide +kernel
  exact this ⟨n,by omega⟩
 simp only [Option.bind_some,Int.toNat_natCast]
 have e1 : wrap64 (f + (halfP n : Int)) = f + halfP n:=by unfold wrap64;omega
 have e2 : wrap64 ((n : Int) - (halfP n : Int)) = n - halfP n:=by unfold wrap64;omega
 rw [e1,e2]
def outsF : Nat → Nat → Nat → Nat → List S164
|0,_,_,_ => []
|k + 1,f,g,a => if 1 < g then (if a < f + halfP g then ⟨((f + halfP g : Nat) : Int),((g - halfP g : Nat) : Int)⟩ :: outsF k f (halfP g) a else ⟨(f : Int),(halfP g : Int)⟩ :: outsF k (f + halfP g) (g - halfP g) a) else []
def outsP (many a : Nat) : List S164:=outsF many 0 many a
theorem outsF_more : ∀ (k m f g a : Nat),g ≤ k → g ≤ m → g ≤ 64 → outsF k f g a = outsF m f g a
|0,m,f,g,a,h,_,_ => by
  obtain rfl : g = 0:=by omega
  cases m <;> simp [outsF]
|k + 1,0,f,g,a,_,h,_ => by
  obtain rfl : g = 0:=by omega
  simp [outsF]
|k + 1,m + 1,f,g,a,h1,h2,h3 => by
  unfold outsF
  split
  ·have hb:=halfP_bounds (n:=g) (by omega) h3
   rw [outsF_more k m f (halfP g) a (by omega) (by omega) (by omega),outsF_more k m (f + halfP g) (g - halfP g) a (by omega) (by omega) (by omega)]
  ·rfl
theorem outsF_length : ∀ (k f g a : Nat),(outsF k f g a).length ≤ k
|0,f,g,a => by simp [outsF]
|k + 1,f,g,a => by
  unfold outsF
  split
  ·split
   ·simp only [List.length_cons];have:=outsF_length k f (halfP g) a;omega
   ·simp only [List.length_cons];have:=outsF_length k (f + halfP g) (g - halfP g) a;omega
  ·simp
def treeCells (x : S164) (cs : List Value) : Prop:=cs = [.int .i64 x.f0,.int .i64 x.f1]
def StR (w0 : World) (Bo D l : Nat) (rec : Loop) (pre : List S164) (v : Value) (W : World) : Prop :=
 W.heap[Bo]? = some (.cells #[v] 159 (0,0)) ∧ OwnRow treeCells 164 2 W w0.heap.size v pre ∧ W.heap[l]? = some (.loop rec) ∧ W.heap[D]? = some (.deferred (some [])) ∧ Below w0.heap.size w0 W
def MineR (Bo D l : Nat) (v : Value) (b : Nat) : Prop:=b = Bo ∨ b = D ∨ b = l ∨ v.ownBlock = some b
theorem StR.move {w0 : World} {Bo D l : Nat} {rec : Loop} {pre : List S164} {v : Value} {W W' : World} (h : StR w0 Bo D l rec pre v W) (hs : ∀ b,MineR Bo D l v b → W'.heap[b]? = W.heap[b]?) (hB : Below w0.heap.size W W') : StR w0 Bo D l rec pre v W':=by
 obtain ⟨h1,⟨inner,h2,h3⟩,h4,h5,h6⟩:=h
 refine ⟨(hs Bo (.inl rfl)).trans h1,⟨inner,own_move h2 (fun k hk => hs k (.inr (.inr (.inr hk)))),h3⟩,(hs l (.inr (.inr (.inl rfl)))).trans h4,(hs D (.inr (.inl rfl))).trans h5,h6.trans hB⟩
theorem StR.lt {w0 : World} {Bo D l : Nat} {rec : Loop} {pre : List S164} {v : Value} {W : World} (h : StR w0 Bo D l rec pre v W) {b : Nat} (hb : MineR Bo D l v b) : b < W.heap.size:=by
 obtain ⟨h1,⟨inner,h2,h3⟩,h4,h5,h6⟩:=h
 rcases hb with rfl|rfl|rfl|hb
 ·exact blk_lt h1
 ·exact blk_lt h5
 ·exact blk_lt h4
 ·exact own_lt h2 b hb
theorem StR.base {w0 : World} {Bo D l : Nat} {rec : Loop} {pre : List S164} {v : Value} {W : World} (h : StR w0 Bo D l rec pre v W) : w0.heap.size ≤ W.heap.size:=h.2.2.2.2.size
theorem StR.not_mine {w0 : World} {Bo D l : Nat} {rec : Loop} {pre : List S164} {v : Value} {W : World} (h : StR w0 Bo D l rec pre v W) {b : Nat} (hb : W.heap.size ≤ b) : ¬ MineR Bo D l v b:=fun hm => by
 have:=h.lt hm
 omega
structure StepR (w0 : World) (Bo D l : Nat) (v : Value) (W W' : World) : Prop where
 below : Below w0.heap.size W W'
 same : ∀ b,MineR Bo D l v b → W'.heap[b]? = W.heap[b]?
theorem StepR.refl (w0 : World) (Bo D l : Nat) (v : Value) (W : World) : StepR w0 Bo D l v W W:=⟨Below.refl _ _,fun _ _ => rfl⟩
theorem StepR.trans {w0 : World} {Bo D l : Nat} {v : Value} {A B C : World} (h : StepR w0 Bo D l v A B) (k : StepR w0 Bo D l v B C) : StepR w0 Bo D l v A C:=⟨h.below.trans k.below,fun b hb => (k.same b hb).trans (h.same b hb)⟩
theorem StepR.of_below {w0 : World} {Bo D l : Nat} {rec : Loop} {pre : List S164} {v : Value} {W W' : World} (h : StR w0 Bo D l rec pre v W) (hb : Below W.heap.size W W') : StepR w0 Bo D l v W W' :=
 ⟨hb.mono h.base,fun b hm => hb.block b (h.lt hm)⟩
theorem StepR.alloc {w0 : World} {Bo D l : Nat} {rec : Loop} {pre : List S164} {v : Value} {W : World} (h : StR w0 Bo D l rec pre v W) (o : Obj) : StepR w0 Bo D l v W (W.alloc o):=StepR.of_below h (below_alloc (Below.refl _ _) o)
theorem StepR.set {w0 : World} {Bo D l : Nat} {v : Value} {W : World} {p : Addr} (hp : ¬ MineR Bo D l v p.block) (hB : w0.heap.size ≤ p.block) (u : Value) : StepR w0 Bo D l v W (W.setCell p u) :=
 ⟨(Below.refl _ _).setCell hB u,fun b hm => Below.heap_setCell W p u b (fun e => hp (e ▸ hm))⟩
theorem StR.step {w0 : World} {Bo D l : Nat} {rec : Loop} {pre : List S164} {v : Value} {W W' : World} (h : StR w0 Bo D l rec pre v W) (k : StepR w0 Bo D l v W W') : StR w0 Bo D l rec pre v W':=h.move k.same k.below
theorem outs_in {f g a h : Nat} (h1 : 1 < g) (h64 : g ≤ 64) (hh : h = halfP g) (hin : a < f + h) : outsF g f g a = [⟨(f : Int) + (h : Int),(g : Int) - (h : Int)⟩] ++ outsF h f h a:=by
 subst hh
 have hb:=halfP_bounds (n:=g) (by omega) h64
 obtain ⟨k,rfl⟩ : ∃ k,g = k + 1:=⟨g - 1,by omega⟩
 conv => lhs;unfold outsF
 rw [if_pos h1,if_pos hin,outsF_more k (halfP (k + 1)) f (halfP (k + 1)) a (by omega) (Nat.le_refl _) (by omega)]
 rw [show ((f + halfP (k + 1) : Nat) : Int) = (f : Int) + (halfP (k + 1) : Int) by omega,show ((k + 1 - halfP (k + 1) : Nat) : Int) = ((k + 1 : Nat) : Int) - (halfP (k + 1) : Int) by omega]
 rfl
theorem outs_out {f g a h : Nat} (h1 : 1 < g) (h64 : g ≤ 64) (hh : h = halfP g) (hin : ¬ a < f + h) : outsF g f g a = [⟨(f : Int),(h : Int)⟩] ++ outsF (g - h) (f + h) (g - h) a:=by
 subst hh
 have hb:=halfP_bounds (n:=g) (by omega) h64
 obtain ⟨k,rfl⟩ : ∃ k,g = k + 1:=⟨g - 1,by omega⟩
 conv => lhs;unfold outsF
 rw [if_pos h1,if_neg hin,outsF_more k (k + 1 - halfP (k + 1)) (f + halfP (k + 1)) (k + 1 - halfP (k + 1)) a (by omega) (Nat.le_refl _) (by omega)]
 rfl
def longOf (v : Value) (W : World) : Nat:=match v with|.pointer (some p) => (match W.cell? ⟨p.block,1,none⟩ with|some x => (intOf x).toNat|none => 0)|_ => 0
theorem longOf_eq {W : World} {b : Nat} {x : Value} {g : Nat} (h : W.heap[b]? = some (.cells #[x,.int .i64 (g : Int)] 164 (0,0))) : longOf (.pointer (some ⟨b,0,none⟩)) W = g:=by
 unfold longOf
 have : W.cell? ⟨b,1,none⟩ = some (.int .i64 (g : Int)):=(blk_cell h 1).trans rfl
 simp [this,intOf]
set_option maxRecDepth 100000 in
set_option maxHeartbeats 4000000 in
theorem down1_in (n : Nat) (hn : 1 ≤ n) (w0 : World) (Bo D l Bm Ba : Nat) (rec : Loop) (many a : Nat) (h64 : many ≤ 64) (ha : a < many)
  (hY : ∀ pre v (x o : S164) W,StR w0 Bo D l rec pre v W → pre.length < 64 → YieldAt Fence.wide (n - 1) Try.prog l #[.agg #[.int .i64 x.f0,.int .i64 x.f1],.agg #[.int .i64 o.f0,.int .i64 o.f1]] W fun e W' =>
   e = .returned (.bool true) ∧ ∃ v',StR w0 Bo D l rec (pre ++ [o]) v' W' ∧ ∀ b,b < W.heap.size → ¬ MineR Bo D l v b → W'.heap[b]? = W.heap[b]? ∧ ¬ MineR Bo D l v' b)
  (W : World) (v0 : Value) (hS : StR w0 Bo D l rec [] v0 W) (hBm : W.heap[Bm]? = some (.cells #[.int .i64 (many : Int)] 3 (0,0))) (hBa : W.heap[Ba]? = some (.cells #[.int .i64 (a : Int)] 3 (0,0))) (hna : ¬ MineR Bo D l v0 Ba) :
  CallsIn Fence.wide n Try.prog 171 #[.func (.yield l) #[] #[],.pointer (some ⟨Bm,0,none⟩),.pointer (some ⟨Ba,0,none⟩)] W fun e W' => (∃ v,e = .returned v) ∧ ∃ v,StR w0 Bo D l rec (outsP many a) v W':=by
 have hu164:=Try.underlying164
 have hcm : W.cell? ⟨Bm,0,none⟩ = some (.int .i64 (many : Int)):=(blk_cell hBm 0).trans rfl
 have HS:=am hS
 have HBa:=am hBa
 have HNa:=am hna
 have HYY:=am hY
 clear hS hBm hBa hna hY
 refine callsIn_of_wp Try.func171 rfl trivial ?_ rfl
 simp only [Try.ntmps171,List.size_toArray,List.length_cons,List.length_nil,Nat.reduceAdd,Nat.reduceSub,Array.replicate_succ,Array.replicate_zero,List.push_toArray,List.append_toArray,List.nil_append,List.cons_append]
 gi_wp2
 gi_loopw [4] (fun v4 wr => ∃ (bt f g : Nat) (pre : List S164) (v : Value),v4 = .pointer (some ⟨bt,0,none⟩) ∧ Aside0 (wr.heap[bt]? = some (.cells #[.int .i64 (f : Int),.int .i64 (g : Int)] 164 (0,0))) ∧ Aside0 (¬ MineR Bo D l v bt) ∧ Aside0 (w0.heap.size ≤ bt) ∧ Aside0 (wr.heap[Ba]? = some (.cells #[.int .i64 (a : Int)] 3 (0,0))) ∧ Aside0 (¬ MineR Bo D l v Ba) ∧ Aside0 (StR w0 Bo D l rec pre v wr) ∧ Aside0 (pre ++ outsF g f g a = outsP many a) ∧ f ≤ a ∧ a < f + g ∧ f + g ≤ 64 ∧ Aside0 (pre.length + g ≤ 64))
  (fun v4 wr => longOf v4 wr)
 case atStart =>
  exact ⟨W.heap.size,0,many,[],v0,rfl,⟨blk_new W _⟩,⟨HS.out.not_mine (Nat.le_refl _)⟩,⟨HS.out.base⟩,⟨blk_alloc HBa.out _⟩,HNa,⟨HS.out.step (StepR.alloc HS.out _)⟩,⟨rfl⟩,Nat.zero_le _,by omega,by omega,⟨by simpa using h64⟩⟩
 case round =>
  clear HS HBa HNa hcm
  obtain ⟨bt,f,g,pre,v,rfl,HK,HN,HG,HA,HNA,HS,HO,hfa,hag,hfg,HL⟩:=hrel
  have c0 : wr.cell? ⟨bt,0,none⟩ = some (.int .i64 (f : Int)):=(blk_cell HK.out 0).trans rfl
  have c1 : wr.cell? ⟨bt,1,none⟩ = some (.int .i64 (g : Int)):=(blk_cell HK.out 1).trans rfl
  have HM:=am (longOf_eq HK.out)
  by_cases h1 : 1 < g
  ·have hb:=halfP_bounds (n:=g) (by omega) (by omega)
   have hbt:=blk_lt HK.out
   have hh:=halves_some (f : Int) (g : Int) (by omega) (by omega) (by omega) (by omega)
   rw [Int.toNat_natCast] at hh
   have HH:=am hh
   clear hh
   obtain ⟨h,hh⟩ : ∃ h,h = halfP g:=⟨_,rfl⟩
   rw [← hh] at HH hb
   have HHG:=am hh
   clear hh
   gi_wp2_with fail
   refine ⟨trivial,(callsIn_wide.2 (book_tree_halves.calls 10 _ _ _ _ _ _ _ HH.out)).mono ?_⟩
   rintro e W1 ⟨rfl,hb1⟩
   have k1:=StepR.of_below HS.out hb1
   have S1:=HS.out.step k1
   have K1:=blk_below HK.out hb1
   have A1:=blk_below HA.out hb1
   have z1 : bt < W1.heap.size:=blk_lt K1
   have z2 : Ba < W1.heap.size:=blk_lt A1
   have HS1:=am S1
   have HK1:=am K1
   have HA1:=am A1
   have ca : ∀ o1 o2,((W1.alloc o1).alloc o2).cell? ⟨Ba,0,none⟩ = some (.int .i64 (a : Int)):=fun o1 o2 => (blk_cell (blk_alloc (blk_alloc A1 o1) o2) 0).trans rfl
   clear k1 S1 K1 A1 hb1 HS HK HA c0 c1 hbt
   by_cases hin : a < f + h
   ·have hdec : decide ((f : Int) ≤ (a : Int) ∧ (a : Int) ≤ (f : Int) + (h : Int) - 1) = true:=decide_eq_true ⟨by omega,by omega⟩
    have HD:=am hdec
    clear hdec
    gi_wp2_with fail
    refine ⟨trivial,(callsIn_wide.2 (has_calls (f : Int) (h : Int) (a : Int) _ (by omega) (by omega) (by omega) (by omega))).mono ?_⟩
    rintro e W2 ⟨rfl,hb2⟩
    rw [HD.out]
    have k2:=(StepR.alloc HS1.out (.cells #[.int .i64 (f : Int),.int .i64 (h : Int)] 164))
    have k3:=(StepR.alloc (HS1.out.step k2) (.cells #[.int .i64 ((f : Int) + (h : Int)),.int .i64 ((g : Int) - (h : Int))] 164))
    have S3:=(HS1.out.step k2).step k3
    have S4:=S3.step (StepR.of_below S3 hb2)
    have K5 : W2.heap[W1.heap.size]? = some (.cells #[.int .i64 (f : Int),.int .i64 (h : Int)] 164 (0,0)):=blk_below (blk_alloc (blk_new W1 _) _) hb2
    have K6 : W2.heap[W1.heap.size + 1]? = some (.cells #[.int .i64 ((f : Int) + (h : Int)),.int .i64 ((g : Int) - (h : Int))] 164 (0,0)):=blk_below (blk_new' _ _ _ (by simp)) hb2
    have K2:=blk_below (blk_alloc (blk_alloc HK1.out _) _) hb2
    have A2:=blk_below (blk_alloc (blk_alloc HA1.out _) _) hb2
    have N5 : ¬ MineR Bo D l v W1.heap.size:=HS1.out.not_mine (Nat.le_refl _)
    have N6 : ¬ MineR Bo D l v (W1.heap.size + 1):=HS1.out.not_mine (Nat.le_succ _)
    have G5:=HS1.out.base
    obtain ⟨fn,tmps,assign,body,hy,hR⟩:=HYY.out pre v ⟨(f : Int),(h : Int)⟩ ⟨(f : Int) + (h : Int),(g : Int) - (h : Int)⟩ W2 S4 (by have:=HL.out;omega)
    have d0 : W2.cell? ⟨W1.heap.size,0,none⟩ = some (.int .i64 (f : Int)):=(blk_cell K5 0).trans rfl
    have d1 : W2.cell? ⟨W1.heap.size,1,none⟩ = some (.int .i64 (h : Int)):=(blk_cell K5 1).trans rfl
    have d2 : W2.cell? ⟨W1.heap.size + 1,0,none⟩ = some (.int .i64 ((f : Int) + (h : Int))):=(blk_cell K6 0).trans rfl
    have d3 : W2.cell? ⟨W1.heap.size + 1,1,none⟩ = some (.int .i64 ((g : Int) - (h : Int))):=(blk_cell K6 1).trans rfl
    have HR:=am hR
    have HK5:=am K5
    have HK2:=am K2
    have HA2:=am A2
    have HN5:=am N5
    have y5:=blk_lt K5
    have y2:=blk_lt K2
    have ya:=blk_lt A2
    clear k2 k3 S3 S4 K5 K6 K2 A2 N5 N6 hR hb2 ca
    gi_wp2
    refine HR.out.mono ?_
    rintro e W3 ⟨rfl,v',S5,hm⟩
    have K5:=(hm W1.heap.size y5 HN5.out).1.trans HK5.out
    have K7:=(hm bt y2 HN.out).1.trans HK2.out
    have A3:=(hm Ba ya HNA.out).1.trans HA2.out
    have N7:=(hm bt y2 HN.out).2
    have N8:=(hm Ba ya HNA.out).2
    have e0 : W3.cell? ⟨W1.heap.size,0,none⟩ = some (.int .i64 (f : Int)):=(blk_cell K5 0).trans rfl
    have e1 : W3.cell? ⟨W1.heap.size,1,none⟩ = some (.int .i64 (h : Int)):=(blk_cell K5 1).trans rfl
    have e2 : W3.cell? ⟨bt,0,none⟩ = some (.int .i64 (f : Int)):=(blk_cell K7 0).trans rfl
    have e3 : W3.cell? ⟨bt,1,none⟩ = some (.int .i64 (g : Int)):=(blk_cell K7 1).trans rfl
    have e4:=blk_frozen K7 0
    have e5:=blk_frozen K7 1
    have S6:=(S5.step (StepR.set (p:=⟨bt,0,none⟩) N7 HG.out (.int .i64 (f : Int))))
    have S7:=(S6.step (StepR.set (p:=⟨bt,1,none⟩) N7 HG.out (.int .i64 (h : Int))))
    have S8:=S7.step (StepR.alloc S7 (.cells #[.int .i64 (f : Int),.int .i64 (h : Int)] 164))
    have HNB:=am (S7.not_mine (Nat.le_refl _))
    have HGB:=am S7.base
    have HBA : Ba ≠ bt:=fun e_ => by
     rw [e_,K7] at A3
     injection A3 with A3
     injection A3 with A3 _
     cases A3
    have HA4:=am (blk_alloc (blk_far (blk_far A3 (p:=⟨bt,0,none⟩) HBA (.int .i64 (f : Int))) (p:=⟨bt,1,none⟩) HBA (.int .i64 (h : Int))) (.cells #[.int .i64 (f : Int),.int .i64 (h : Int)] 164))
    have HS8:=am S8
    have HN8:=am N8
    clear S5 S6 S7 S8 K5 K7 A3 N7 N8 hm d0 d1 d2 d3 hy HBA
    gi_wp2
    go_roundw
    case rel => exact ⟨W3.heap.size,f,h,pre ++ [⟨(f : Int) + (h : Int),(g : Int) - (h : Int)⟩],v',rfl,⟨blk_new' _ _ _ (by simp)⟩,⟨by simpa using HNB.out⟩,⟨by simpa using HGB.out⟩,HA4,HN8,HS8,⟨by rw [List.append_assoc];rw [← HO.out];exact congrArg (pre ++ ·) (outs_in h1 (by omega) HHG.out hin).symm⟩,hfa,hin,by omega,⟨by have:=HL.out;simp;omega⟩⟩
    case measure => rw [HM.out,longOf_eq (g:=h) (blk_new' _ _ _ (by simp))];omega
   ·have hdec : decide ((f : Int) ≤ (a : Int) ∧ (a : Int) ≤ (f : Int) + (h : Int) - 1) = false:=decide_eq_false (fun hc => by omega)
    have HD:=am hdec
    clear hdec
    gi_wp2_with fail
    refine ⟨trivial,(callsIn_wide.2 (has_calls (f : Int) (h : Int) (a : Int) _ (by omega) (by omega) (by omega) (by omega))).mono ?_⟩
    rintro e W2 ⟨rfl,hb2⟩
    rw [HD.out]
    have k2:=(StepR.alloc HS1.out (.cells #[.int .i64 (f : Int),.int .i64 (h : Int)] 164))
    have k3:=(StepR.alloc (HS1.out.step k2) (.cells #[.int .i64 ((f : Int) + (h : Int)),.int .i64 ((g : Int) - (h : Int))] 164))
    have S3:=(HS1.out.step k2).step k3
    have S4:=S3.step (StepR.of_below S3 hb2)
    have K5 : W2.heap[W1.heap.size]? = some (.cells #[.int .i64 (f : Int),.int .i64 (h : Int)] 164 (0,0)):=blk_below (blk_alloc (blk_new W1 _) _) hb2
    have K6 : W2.heap[W1.heap.size + 1]? = some (.cells #[.int .i64 ((f : Int) + (h : Int)),.int .i64 ((g : Int) - (h : Int))] 164 (0,0)):=blk_below (blk_new' _ _ _ (by simp)) hb2
    have K2:=blk_below (blk_alloc (blk_alloc HK1.out _) _) hb2
    have A2:=blk_below (blk_alloc (blk_alloc HA1.out _) _) hb2
    have N5 : ¬ MineR Bo D l v W1.heap.size:=HS1.out.not_mine (Nat.le_refl _)
    have N6 : ¬ MineR Bo D l v (W1.heap.size + 1):=HS1.out.not_mine (Nat.le_succ _)
    have G5:=HS1.out.base
    have n1 : bt ≠ W1.heap.size:=by omega
    have n2 : bt ≠ W1.heap.size + 1:=by omega
    have n3 : Ba ≠ W1.heap.size:=by omega
    have n4 : Ba ≠ W1.heap.size + 1:=by omega
    have d0 : W2.cell? ⟨W1.heap.size,0,none⟩ = some (.int .i64 (f : Int)):=(blk_cell K5 0).trans rfl
    have d1 : W2.cell? ⟨W1.heap.size,1,none⟩ = some (.int .i64 (h : Int)):=(blk_cell K5 1).trans rfl
    have d2 : W2.cell? ⟨W1.heap.size + 1,0,none⟩ = some (.int .i64 ((f : Int) + (h : Int))):=(blk_cell K6 0).trans rfl
    have d3 : W2.cell? ⟨W1.heap.size + 1,1,none⟩ = some (.int .i64 ((g : Int) - (h : Int))):=(blk_cell K6 1).trans rfl
    have d4:=blk_frozen K5 0
    have d5:=blk_frozen K5 1
    have d6:=blk_frozen K6 0
    have d7:=blk_frozen K6 1
    have T1:=S4.step (StepR.set (p:=⟨W1.heap.size,0,none⟩) N5 G5 (.int .i64 ((f : Int) + (h : Int))))
    have T2:=T1.step (StepR.set (p:=⟨W1.heap.size,1,none⟩) N5 G5 (.int .i64 ((g : Int) - (h : Int))))
    have T3:=T2.step (StepR.set (p:=⟨W1.heap.size + 1,0,none⟩) N6 (Nat.le_succ_of_le G5) (.int .i64 (f : Int)))
    have T4:=T3.step (StepR.set (p:=⟨W1.heap.size + 1,1,none⟩) N6 (Nat.le_succ_of_le G5) (.int .i64 (h : Int)))
    have K5':=blk_far (blk_far (blk_put (blk_put K5 0 (.int .i64 ((f : Int) + (h : Int))) rfl) 1 (.int .i64 ((g : Int) - (h : Int))) rfl) (p:=⟨W1.heap.size + 1,0,none⟩) (by simp) (.int .i64 (f : Int))) (p:=⟨W1.heap.size + 1,1,none⟩) (by simp) (.int .i64 (h : Int))
    have K2':=blk_far (blk_far (blk_far (blk_far K2 (p:=⟨W1.heap.size,0,none⟩) n1 (.int .i64 ((f : Int) + (h : Int)))) (p:=⟨W1.heap.size,1,none⟩) n1 (.int .i64 ((g : Int) - (h : Int)))) (p:=⟨W1.heap.size + 1,0,none⟩) n2 (.int .i64 (f : Int))) (p:=⟨W1.heap.size + 1,1,none⟩) n2 (.int .i64 (h : Int))
    have A2':=blk_far (blk_far (blk_far (blk_far A2 (p:=⟨W1.heap.size,0,none⟩) n3 (.int .i64 ((f : Int) + (h : Int)))) (p:=⟨W1.heap.size,1,none⟩) n3 (.int .i64 ((g : Int) - (h : Int)))) (p:=⟨W1.heap.size + 1,0,none⟩) n4 (.int .i64 (f : Int))) (p:=⟨W1.heap.size + 1,1,none⟩) n4 (.int .i64 (h : Int))
    obtain ⟨fn,tmps,assign,body,hy,hR⟩:=HYY.out pre v ⟨(f : Int) + (h : Int),(g : Int) - (h : Int)⟩ ⟨(f : Int),(h : Int)⟩ _ T4 (by have:=HL.out;omega)
    have HR:=am hR
    have HK5:=am K5'
    have HK2:=am K2'
    have HA2:=am A2'
    have HN5:=am N5
    have y5:=blk_lt K5'
    have y2:=blk_lt K2'
    have ya:=blk_lt A2'
    clear k2 k3 S3 S4 K5 K6 K2 A2 N5 N6 hR hb2 ca T1 T2 T3 T4 K5' K2' A2' n1 n2 n3 n4
    gi_wp2
    refine HR.out.mono ?_
    rintro e W3 ⟨rfl,v',S5,hm⟩
    have K5:=(hm W1.heap.size y5 HN5.out).1.trans HK5.out
    have K7:=(hm bt y2 HN.out).1.trans HK2.out
    have A3:=(hm Ba ya HNA.out).1.trans HA2.out
    have N7:=(hm bt y2 HN.out).2
    have N8:=(hm Ba ya HNA.out).2
    have e0 : W3.cell? ⟨W1.heap.size,0,none⟩ = some (.int .i64 ((f : Int) + (h : Int))):=(blk_cell K5 0).trans rfl
    have e1 : W3.cell? ⟨W1.heap.size,1,none⟩ = some (.int .i64 ((g : Int) - (h : Int))):=(blk_cell K5 1).trans rfl
    have e2 : W3.cell? ⟨bt,0,none⟩ = some (.int .i64 (f : Int)):=(blk_cell K7 0).trans rfl
    have e3 : W3.cell? ⟨bt,1,none⟩ = some (.int .i64 (g : Int)):=(blk_cell K7 1).trans rfl
    have e4:=blk_frozen K7 0
    have e5:=blk_frozen K7 1
    have S6:=(S5.step (StepR.set (p:=⟨bt,0,none⟩) N7 HG.out (.int .i64 ((f : Int) + (h : Int)))))
    have S7:=(S6.step (StepR.set (p:=⟨bt,1,none⟩) N7 HG.out (.int .i64 ((g : Int) - (h : Int)))))
    have S8:=S7.step (StepR.alloc S7 (.cells #[.int .i64 ((f : Int) + (h : Int)),.int .i64 ((g : Int) - (h : Int))] 164))
    have HNB:=am (S7.not_mine (Nat.le_refl _))
    have HGB:=am S7.base
    have HBA : Ba ≠ bt:=fun e_ => by
     rw [e_,K7] at A3
     injection A3 with A3
     injection A3 with A3 _
     cases A3
    have HA4:=am (blk_alloc (blk_far (blk_far A3 (p:=⟨bt,0,none⟩) HBA (.int .i64 ((f : Int) + (h : Int)))) (p:=⟨bt,1,none⟩) HBA (.int .i64 ((g : Int) - (h : Int)))) (.cells #[.int .i64 ((f : Int) + (h : Int)),.int .i64 ((g : Int) - (h : Int))] 164))
    have HS8:=am S8
    have HN8:=am N8
    clear S5 S6 S7 S8 K5 K7 A3 N7 N8 hm d0 d1 d2 d3 hy HBA
    gi_wp2
    go_roundw
    case rel => exact ⟨W3.heap.size,f + h,g - h,pre ++ [⟨(f : Int),(h : Int)⟩],v',rfl,⟨by rw [show ((f + h : Nat) : Int) = (f : Int) + (h : Int) by omega,show ((g - h : Nat) : Int) = (g : Int) - (h : Int) by omega];exact blk_new' _ _ _ (by simp)⟩,⟨by simpa using HNB.out⟩,⟨by simpa using HGB.out⟩,HA4,HN8,HS8,⟨by rw [List.append_assoc];rw [← HO.out];exact congrArg (pre ++ ·) (outs_out h1 (by omega) HHG.out hin).symm⟩,by omega,by omega,by omega,⟨by have:=HL.out;simp;omega⟩⟩
    case measure => rw [HM.out,longOf_eq (g:=g - h) (by rw [show ((g - h : Nat) : Int) = (g : Int) - (h : Int) by omega];exact blk_new' _ _ _ (by simp))];omega
  ·gi_wp2
   go_end0
   refine ⟨⟨_,rfl⟩,v,?_⟩
   have : outsF g f g a = []:=by
    cases g with
   |zero => rfl
   |succ k => unfold outsF;rw [if_neg h1]
   have ho:=HO.out
   rw [this,List.append_nil] at ho
   rw [← ho]
   exact HS.out
theorem rangeFunc_outer {F : Fence} {n : Nat} {P : Program} {g : Operand} {ps : Array Tmp} {assign body : Code} {Q : Exit → Act → World → Prop} {a : Act} {w : World} (hro : F.round = none) (h1 : 1 ≤ n)
  {gf : Nat} {lb : Array Value} (hg : a.eval g = .func (.func gf) #[] lb) (hFg : F.fn gf) (eg : ∀ args w,(callFunc gf args).run P w = .ok (.enter gf args) w)
  (h : ∀ fn,F.fn fn → ∀ rec : Loop,rec = { state:=.ready,pending:=none,fn,tmps:=a.tmps,params:=ps,assign,body,defers:=w.heap.size } → CallsIn F (n - 1) P gf (#[.func (.yield (w.heap.size + 1)) #[] #[]] ++ lb) ((w.alloc (.deferred (some []))).alloc (.loop rec))
   (rangePost F n P (w.heap.size + 1) Q { a with defers:=[{ target:=.collected w.heap.size,args:=#[] }] ++ a.defers })) :
  (Code.rangeFunc g ps assign body).wpIn F n P Q a w:=by
 refine wpIn_rangeFunc ?_
 intro fn hfn
 rw [hro]
 have h':=h fn hfn _ rfl
 obtain ⟨W1,hW1⟩ : ∃ W1,(w.alloc (.deferred (some []))).alloc (.loop { state:=.ready,pending:=none,fn,tmps:=a.tmps,params:=ps,assign,body,defers:=w.heap.size }) = W1:=⟨_,rfl⟩
 rw [hW1] at h'
 refine ⟨w.heap.size + 1,[{ target:=.collected w.heap.size,args:=#[] }],W1,{ target:=.fn (.func gf) lb,args:=#[.func (.yield (w.heap.size + 1)) #[] #[]] },W1,gf,
  #[.func (.yield (w.heap.size + 1)) #[] #[]] ++ lb,W1,?_,?_,?_,?_,fun _ => h1,?_⟩
 ·rw [← hW1];exact run_enterLoop_outer _ _ _ _ _
 ·simp only [resolve,hg]
  simp [go_sem]
 ·intro f' hf';simp [Target.leads] at hf';subst hf';exact hFg
 ·simp [invoke,go_sem,eg]
 ·exact h'
attribute [local go_sem] Oper.semAt_some
theorem down_calls (m a : Int) (w : World) : Calls Try.prog 156 #[.int .i64 m,.int .i64 a] w fun e w' => e = .returned (.func (.func 171) #[] #[.pointer (some ⟨w.heap.size,0,none⟩),.pointer (some ⟨w.heap.size + 1,0,none⟩)]) ∧ w' = (w.alloc (.cells #[.int .i64 m] 3)).alloc (.cells #[.int .i64 a] 3):=by
 have hmf : ∀ (fn : Fn) (first cap : Array Value) (w : World),(Instr.makeFunc fn first cap).run Try.prog w = .ok (.func fn first cap) w:=fun _ _ _ _ => rfl
 go_enter Try.func156,Try.ntmps156
 go_wp2
 go_ret
 exact ⟨rfl,rfl⟩
theorem wpListIn_append_at {F : Fence} {n : Nat} {P : Program} (w : World) {ops : Array Oper} {rest : List Oper} {o : Oper} {a : Act} {Q : Exit → Act → World → Prop}
  (hg : o.guard = none) (s x : Operand) (t : TypeId) (hop : o.op = Op.call { callee:=Callee.builtin Builtin.append,args:=#[s,x],argTypes:=#[t,t] })
  (base : Nat) (e : TypeId) (i : TypeInfo) (z : Value) (size bytes : Nat) (h1 : P.underlying t = some (.slice e)) (h2 : P.info? e = some i) (h3 : i.zero = some z) (h4 : i.size = size) (h5 : i.bytes = bytes) (h6 : z.cells.size = size) (h7 : 0 < size)
  (v : Value) (k : Nat) (xs : List Value) (hs : a.eval s = v) (hown : w.ownsRow base e size v k xs) (ad : Addr) (m c : Nat) (news : List Value) (hx : a.eval x = .slice (some ad) m c) (hn : news.length = m * size)
  (hc : ∀ j u,news[j]? = some u → w.cell? (ad.add j) = some u) (h1c : ∀ u ∈ news,u.oneCell' = true) (b1 : k + m ≤ maxLen) (b2 : (k + m) * bytes ≤ 140737488355328) (b3 : base ≤ w.heap.size)
  (hK : ∀ v' w',w'.ownsRow base e size v' (k + m) (xs ++ news) → w.grownBy w' v.ownBlock → (v'.ownBlock = v.ownBlock ∨ v'.ownBlock = some w.heap.size) → wpListIn F n P ops Q rest (a.put o.dst v') w') :
  wpListIn F n P ops Q (o :: rest) a w:=by
 refine wpListIn_plain hg fun K hK' => ?_
 obtain ⟨v',w',hrun,r1,r2,_,r3⟩:=run_append_own_at (P:=P) w base t o.type e i z size bytes h1 h2 h3 h4 h5 h6 h7 v k xs hown ad m c news hn hc h1c b1 b2 b3
 unfold Oper.wpIn
 refine ⟨?_,?_⟩
 ·simp [Oper.about,hop,resolve,Target.leads,Sem.run_pure]
 ·rw [Oper.semAt_plain F _ _ (by rw [hop];intro c hc';cases hc')]
  simp [execOp,hop,resolve,invoke,builtin,hs,hx,hrun,Result.andThen]
  exact hK' _ _ (hK v' w' r1 r2 r3)
theorem info164_ : (Try.prog.info? 164).map (fun i => (i.zero,i.size,i.bytes)) = some (some (.agg #[(.int .i64 0),(.int .i64 0)]),2,16):=by kernel_rfl
theorem R_of_tree {W : World} {base : Nat} {v : Value} {xs : List S164} (h : OwnRow treeCells 164 2 W base v xs) : Kd.R k164 164 W base (fun k => v.ownBlock = some k) v xs :=
 ⟨fun k hk => hk,h.imp_ (fun p c (hc : treeCells p c) => by cases hc;exact k164_mkM _ _ _ p)⟩
theorem tree_of_R {W : World} {base : Nat} {v : Value} {xs : List S164} {ok : Nat → Prop} (h : Kd.R k164 164 W base ok v xs) : OwnRow treeCells 164 2 W base v xs :=
 OwnRow.imp_ h.2 (fun p c hc => k164_openM hc)
def RevTo (l ys : List S164) (i j : Int) : Prop:=ys.length = l.length ∧ ∀ t : Nat,t < l.length → ys.getD t z164 = if (i ≤ t ∧ (t : Int) ≤ j) then l.getD t z164 else l.getD (l.length - 1 - t) z164
theorem getD_set (l : List S164) (i t : Nat) (x : S164) (hi : i < l.length) : (l.set i x).getD t z164 = if t = i then x else l.getD t z164:=by
 simp only [List.getD_eq_getElem?_getD,List.getElem?_set]
 by_cases h : t = i
 ·subst h;simp [hi]
 ·rw [if_neg (fun e => h e.symm),if_neg h]
theorem reverse_from (l : List S164) (h64 : l.length ≤ 64) : ∀ (d k : Nat) (ys : List S164) (i j : Int),0 ≤ i → i + j = (l.length : Int) - 1 → RevTo l ys i j → (j - i + 1).toNat ≤ d → d < k → ∃ r,book_tree_157.l0 k ys i j = some r ∧ RevTo l r 1 0:=by
 intro d
 induction d using Nat.strongRecOn with
|_ d ih =>
 intro k ys i j h0 hij hr hd hk
 obtain ⟨k,rfl⟩ : ∃ m,k = m + 1:=⟨k - 1,by omega⟩
 obtain ⟨hlen,hat⟩:=hr
 by_cases hlt : i < j
 ·have w1 : wrap64 (i + 1) = i + 1:=by unfold wrap64;omega
  have w2 : wrap64 (j - 1) = j - 1:=by unfold wrap64;omega
  have hrec : ∃ r,book_tree_157.l0 k ((ys.set i.toNat (rd_T164 ys j)).set j.toNat (rd_T164 ys i)) (i + 1) (j - 1) = some r ∧ RevTo l r 1 0:=by
   refine ih (d - 1) (by omega) k _ (i + 1) (j - 1) (by omega) (by omega) ⟨by simp [hlen],fun t ht => ?_⟩ (by omega) (by omega)
   rw [getD_set _ _ _ _ (by rw [List.length_set];omega),getD_set _ _ _ _ (by omega)]
   have hi:=hat i.toNat (by omega)
   have hj:=hat j.toNat (by omega)
   rw [if_pos (by omega)] at hi hj
   by_cases e1 : t = j.toNat
   ·rw [if_pos e1,if_neg (by omega)]
    rw [show rd_T164 ys i = ys.getD i.toNat z164 from rfl,hi,show l.length - 1 - t = i.toNat by omega]
   ·rw [if_neg e1]
    by_cases e2 : t = i.toNat
    ·rw [if_pos e2,if_neg (by omega)]
     rw [show rd_T164 ys j = ys.getD j.toNat z164 from rfl,hj,show l.length - 1 - t = j.toNat by omega]
    ·rw [if_neg e2,hat t ht]
     by_cases e3 : i ≤ (t : Int) ∧ (t : Int) ≤ j
     ·rw [if_pos e3,if_pos (by omega)]
     ·rw [if_neg e3,if_neg (by omega)]
  simp only [book_tree_157.l0]
  rw [if_pos hlt,if_pos (by omega),if_pos (by omega),if_pos (by omega),if_pos (by omega),w1,w2]
  exact hrec
 ·refine ⟨ys,by simp only [book_tree_157.l0];rw [if_neg hlt],hlen,fun t ht => ?_⟩
  rw [hat t ht]
  by_cases e : i ≤ (t : Int) ∧ (t : Int) ≤ j
  ·rw [if_pos e,if_neg (by omega),show l.length - 1 - t = t by omega]
  ·rw [if_neg e,if_neg (by omega)]
theorem reverse_some (l : List S164) (h : l.length ≤ 64) : book_tree_157.f 100 l = some l.reverse:=by
 have hw : wrap64 ((l.length : Int) - 1) = (l.length : Int) - 1:=by unfold wrap64;omega
 unfold book_tree_157.f
 rw [hw]
 obtain ⟨r,h1,h2,h3⟩:=reverse_from l h 65 100 l 0 ((l.length : Int) - 1) (Int.le_refl _) (by omega) ⟨rfl,fun t ht => by rw [if_pos (by omega)]⟩ (by omega) (by omega)
 rw [h1]
 congr 1
 refine List.ext_getElem (by simp [h2]) fun t ht1 ht2 => ?_
 have:=h3 t (by omega)
 rw [if_neg (by omega)] at this
 rw [List.getD_eq_getElem?_getD,List.getElem?_eq_getElem ht1,List.getD_eq_getElem?_getD,List.getElem?_eq_getElem (by omega)] at this
 simpa [List.getElem_reverse] using this
set_option maxRecDepth 100000 in
set_option maxHeartbeats 4000000 in
theorem siblings_in (n : Nat) (hn : 3 ≤ n) (many a : Nat) (h64 : many ≤ 64) (ha : a < many) (w : World) :
  CallsIn Fence.wide n Try.prog 122 #[.int .i64 (many : Int),.int .i64 (a : Int)] w fun e w' => ∃ v,e = .returned v ∧ OwnRow treeCells 164 2 w' w.heap.size v (outsP many a).reverse ∧ Below w.heap.size w w':=by
 have hu164:=Try.underlying164
 have h1 : 1 ≤ n:=by omega
 refine callsIn_of_wp_marks Try.func122 rfl trivial ?_ rfl
 simp only [Try.ntmps122,List.size_toArray,List.length_cons,List.length_nil,Nat.reduceAdd,Nat.reduceSub,Array.replicate_succ,Array.replicate_zero,List.push_toArray,List.append_toArray,List.nil_append,List.cons_append]
 gi_wp2_with fail
 refine ⟨trivial,(callsIn_wide.2 (down_calls _ _ _)).mono ?_⟩
 rintro e w' ⟨rfl,rfl⟩
 gi_wp2
 have HBo:=am (blk_alloc (blk_alloc (blk_new w (.cells #[.slice none 0 0] 159)) (.cells #[.int .i64 (many : Int)] 3)) (.cells #[.int .i64 (a : Int)] 3))
 have HBm:=am (blk_alloc (blk_new' (w.alloc (.cells #[.slice none 0 0] 159)) (.cells #[.int .i64 (many : Int)] 3) (w.heap.size + 1) (by simp)) (.cells #[.int .i64 (a : Int)] 3))
 have HBa:=am (blk_new' ((w.alloc (.cells #[.slice none 0 0] 159)).alloc (.cells #[.int .i64 (many : Int)] 3)) (.cells #[.int .i64 (a : Int)] 3) (w.heap.size + 1 + 1) (by simp))
 have HB3:=am (below_alloc (below_alloc (below_alloc (Below.refl w.heap.size w) (.cells #[.slice none 0 0] 159)) (.cells #[.int .i64 (many : Int)] 3)) (.cells #[.int .i64 (a : Int)] 3))
 have hsz : (((w.alloc (.cells #[.slice none 0 0] 159)).alloc (.cells #[.int .i64 (many : Int)] 3)).alloc (.cells #[.int .i64 (a : Int)] 3)).heap.size = w.heap.size + 3:=by simp
 generalize ((w.alloc (.cells #[.slice none 0 0] 159)).alloc (.cells #[.int .i64 (many : Int)] 3)).alloc (.cells #[.int .i64 (a : Int)] 3) = W3 at HBo HBm HBa HB3 hsz ⊢
 refine rangeFunc_outer rfl h1 (gf:=171) (lb:=#[.pointer (some ⟨w.heap.size + 1,0,none⟩),.pointer (some ⟨w.heap.size + 1 + 1,0,none⟩)]) rfl trivial (enters_of Try.func171 kr rfl) ?_
 intro fn hfn rec hrec
 have HSZ:=am hsz
 clear hsz
 refine (down1_in (n - 1) (by omega) w w.heap.size W3.heap.size (W3.heap.size + 1) (w.heap.size + 1) (w.heap.size + 1 + 1) rec many a h64 ha ?hY _ (.slice none 0 0) ?hS ?hBm ?hBa ?hna).mono ?fin
 case hS => exact ⟨blk_alloc (blk_alloc HBo.out _) _,OwnRow.none_ _ _ _ _ _,blk_new' (W3.alloc (.deferred (some []))) _ (W3.heap.size + 1) (by simp),blk_alloc (blk_new W3 _) _,below_alloc (below_alloc HB3.out _) _⟩
 case hBm => exact blk_alloc (blk_alloc HBm.out _) _
 case hBa => exact blk_alloc (blk_alloc HBa.out _) _
 case hna =>
  intro hm
  have:=HSZ.out
  rcases hm with hm|hm|hm|hm
  ·omega
  ·omega
  ·omega
  ·simp [Value.ownBlock] at hm
 case hY =>
  subst hrec
  rintro pre v x o W hS hpre
  obtain ⟨b1,⟨inner,b2,b3⟩,b4,b5,b6⟩:=hS
  refine ⟨_,_,_,_,run_yield b4 rfl,roundIn_of_wpIn hfn ?_⟩
  dsimp only
  gi_wp2
  refine ⟨_,run_beginRound (blk_alloc b4 _) rfl,?_⟩
  have hne1 : w.heap.size ≠ W3.heap.size + 1:=by have:=HSZ.out;omega
  have hne2 : W3.heap.size ≠ W3.heap.size + 1:=by omega
  have hl4:=blk_lt b4
  have hlo : ∀ b,v.ownBlock = some b → b ≠ W3.heap.size + 1:=fun b hb e_ => by
   obtain ⟨cells,hcl⟩:=own_typed b2 b hb
   rw [e_,b4] at hcl
   cases hcl
  have q0 : ∀ ob b,b ≠ W3.heap.size + 1 → b < W.heap.size → ((W.alloc (.cells #[.int .i64 o.f0,.int .i64 o.f1] 164)).putObj (W3.heap.size + 1) ob).heap[b]? = W.heap[b]?:=fun ob b h hlt => (World.putObj_heap_other h).trans (Below.heap_alloc W _ b hlt)
  have q1 : ∀ ob,((W.alloc (.cells #[.int .i64 o.f0,.int .i64 o.f1] 164)).putObj (W3.heap.size + 1) ob).heap[W.heap.size]? = some (.cells #[.int .i64 o.f0,.int .i64 o.f1] 164 (0,0)):=fun ob => (World.putObj_heap_other (by omega)).trans (blk_new W _)
  have q2 : ∀ ob,((W.alloc (.cells #[.int .i64 o.f0,.int .i64 o.f1] 164)).putObj (W3.heap.size + 1) ob).heap[W3.heap.size + 1]? = some ob:=fun ob => World.putObj_heap_same (by simp;omega)
  have q3 : ∀ ob,((W.alloc (.cells #[.int .i64 o.f0,.int .i64 o.f1] 164)).putObj (W3.heap.size + 1) ob).heap.size = W.heap.size + 1:=fun ob => by simp
  have q4 : ∀ ob,Below w.heap.size W ((W.alloc (.cells #[.int .i64 o.f0,.int .i64 o.f1] 164)).putObj (W3.heap.size + 1) ob):=fun ob => ((Below.refl _ W).alloc b6.size _).grown (grownBy_putObj' _ _ _) (by have:=b6.size;simp;omega) (fun k e_ => by cases e_;have:=HSZ.out;omega)
  generalize hWb : (W.alloc (.cells #[.int .i64 o.f0,.int .i64 o.f1] 164)).putObj (W3.heap.size + 1) _ = Wb
  have r0 : ∀ b,b ≠ W3.heap.size + 1 → b < W.heap.size → Wb.heap[b]? = W.heap[b]?:=by rw [← hWb];exact q0 _
  have r1 : Wb.heap[W.heap.size]? = some (.cells #[.int .i64 o.f0,.int .i64 o.f1] 164 (0,0)):=by rw [← hWb];exact q1 _
  have r3 : Wb.heap.size = W.heap.size + 1:=by rw [← hWb];exact q3 _
  have r4 : Below w.heap.size W Wb:=by rw [← hWb];exact q4 _
  have r2:=hWb ▸ q2 (.loop _)
  have t1 : Wb.heap[w.heap.size]? = some (.cells #[v] 159 (0,0)):=(r0 _ hne1 (blk_lt b1)).trans b1
  have t2 : Wb.ownsRow w.heap.size 164 2 v pre.length inner:=own_move b2 (fun b hb => r0 b (hlo b hb) (own_lt b2 b hb))
  have t5 : Wb.heap[W3.heap.size]? = some (.deferred (some [])):=(r0 _ hne2 (blk_lt b5)).trans b5
  have t6 : w.heap.size ≤ Wb.heap.size:=(b6.trans r4).size
  clear q0 q1 q2 q3 q4 hWb
  have u0 : Wb.cell? ⟨w.heap.size,0,none⟩ = some v:=(blk_cell t1 0).trans rfl
  have u1 : Wb.cell? ⟨W.heap.size,0,none⟩ = some (.int .i64 o.f0):=(blk_cell r1 0).trans rfl
  have u2 : Wb.cell? ⟨W.heap.size,1,none⟩ = some (.int .i64 o.f1):=(blk_cell r1 1).trans rfl
  have HNB:=am (show v.ownBlock ≠ some w.heap.size from fun e_ => by
   obtain ⟨cells,hcl⟩:=own_typed t2 _ e_
   rw [t1] at hcl
   cases hcl)
  obtain ⟨i0,hi,hz0,hz1,hz2⟩:=info_parts info164_
  have R0:=am r0
  have R1:=am r1
  have R3:=am r3
  have R4:=am r4
  have T1:=am t1
  have T5:=am t5
  have T6:=am t6
  have HLO:=am hlo
  have HB1:=am b1
  have HB2:=am b2
  have HB3':=am b3
  have HB6:=am b6
  have HB5:=am b5
  clear r0 r1 r3 r4 t1 t5 t6 hlo b1 b3 b5 b6
  gi_wp2_with (gi_at_builtin;refine wpListIn_append_at _ rfl _ _ 159 rfl w.heap.size 164 i0 (.agg #[(.int .i64 0),(.int .i64 0)]) 2 16 Try.underlying159 hi hz0 hz1 hz2 rfl (by decide) _ _ _ rfl (t2.alloc _) ⟨Wb.heap.size,0,none⟩ 1 1 [.int .i64 o.f0,.int .i64 o.f1] rfl rfl ?hc ?h1c ?b1 ?b2 ?b3 ?_;(case hc => exact (World.news_of_block (cs:=#[.int .i64 o.f0,.int .i64 o.f1]) (t:=164) (fr:=(0,0)) (heap_alloc_new Wb _)));(case h1c => simp [Value.oneCell']);(case b1 => simp only [maxLen];omega);(case b2 => omega);(case b3 => have:=T6.out;simp;omega);intro v' w1 hown hg hat;obtain ⟨g',cap',rfl⟩:=ownsRow_succ hown;have hk1:=(hg.block w.heap.size (by have:=blk_lt T1.out;simp;omega) (fun e_ => HNB.out e_.symm)).trans (blk_alloc T1.out _);have x0 : w1.cell? ⟨w.heap.size,0,none⟩ = some v:=(blk_cell hk1 0).trans rfl;have x1:=blk_frozen hk1 0;have HK1:=am hk1;have HOW:=am hown;have HGR:=am hg;have HAT:=am hat;clear hk1 hown hg hat)
  have hsz3:=HSZ.out
  have hTl:=blk_lt r2
  have hTD:=blk_lt T5.out
  have wl : w1.heap[W3.heap.size + 1]? = _:=(HGR.out.block (W3.heap.size + 1) (by simp;omega) (fun e_ => HLO.out _ e_.symm rfl)).trans (blk_alloc r2 _)
  have wD : w1.heap[W3.heap.size]? = some (.deferred (some [])):=(HGR.out.block W3.heap.size (by simp;omega) (fun e_ => by
   obtain ⟨cells,hcl⟩:=own_typed t2 _ e_.symm
   rw [T5.out] at hcl
   cases hcl)).trans (blk_alloc T5.out _)
  have zl : (w1.setCell ⟨w.heap.size,0,none⟩ (.slice (some ⟨g',0,none⟩) (pre.length + 1) cap')).heap[W3.heap.size + 1]? = _:=(Below.heap_setCell w1 ⟨w.heap.size,0,none⟩ (.slice (some ⟨g',0,none⟩) (pre.length + 1) cap') (W3.heap.size + 1) (by show W3.heap.size + 1 ≠ w.heap.size;omega)).trans wl
  have gne : g' ≠ w.heap.size:=fun e_ => by
   obtain ⟨cells,hcl⟩:=own_typed HOW.out g' rfl
   rw [e_,HK1.out] at hcl
   cases hcl
  have gnl : g' ≠ W3.heap.size + 1:=fun e_ => by
   obtain ⟨cells,hcl⟩:=own_typed HOW.out g' rfl
   rw [e_,wl] at hcl
   cases hcl
  refine ⟨_,_,run_endRound none zl,rfl,.slice (some ⟨g',0,none⟩) (pre.length + 1) cap',⟨?_,⟨_,own_move (w:=w1) (by rw [show (pre ++ [o]).length = pre.length + 1 by simp];exact HOW.out) ?_,Reps.snoc HB3'.out rfl rfl⟩,?_,?_,?_⟩,?_⟩
  ·exact (World.putObj_heap_other (by omega)).trans (blk_put HK1.out 0 _ rfl)
  ·intro k hk
   obtain rfl : g' = k:=by simpa [Value.ownBlock] using hk
   exact (World.putObj_heap_other gnl).trans (Below.heap_setCell _ _ _ _ gne)
  ·exact World.putObj_heap_same (blk_lt zl)
  ·exact (World.putObj_heap_other hne2).trans ((Below.heap_setCell _ _ _ _ (by show W3.heap.size ≠ w.heap.size;omega)).trans wD)
  ·have e1 : Below w.heap.size w (Wb.alloc (.cells #[.int .i64 o.f0,.int .i64 o.f1] 164)):=(HB6.out.trans R4.out).alloc T6.out _
   have e2:=e1.grown HGR.out (by have:=T6.out;simp;omega) (fun k hk => own_base t2 k hk)
   exact ((e2.setCell (p:=⟨w.heap.size,0,none⟩) (Nat.le_refl _) _).grown (grownBy_putObj' _ _ _) (by have:=e2.size;simp;omega) (fun k e_ => by cases e_;omega))
  ·intro b hb hm
   have m1 : b ≠ w.heap.size:=fun e_ => hm (.inl e_)
   have m2 : b ≠ W3.heap.size:=fun e_ => hm (.inr (.inl e_))
   have m3 : b ≠ W3.heap.size + 1:=fun e_ => hm (.inr (.inr (.inl e_)))
   have m4 : v.ownBlock ≠ some b:=fun e_ => hm (.inr (.inr (.inr e_)))
   have hR3:=R3.out
   refine ⟨(World.putObj_heap_other m3).trans ((Below.heap_setCell _ _ _ _ m1).trans ((HGR.out.block b (by simp;omega) (fun e_ => m4 e_.symm)).trans ((Below.heap_alloc Wb _ b (by omega)).trans (R0.out b m3 hb)))),?_⟩
   rintro (h|h|h|h)
   ·exact m1 h
   ·exact m2 h
   ·exact m3 h
   ·rcases HAT.out with h'|h'
    ·exact m4 (h' ▸ h)
    ·rw [h'] at h
     injection h with h
     simp at h
     omega
 case fin =>
  subst hrec
  rintro e W ⟨⟨v0,rfl⟩,v,b1,b2,b4,b5,b6⟩
  refine ⟨_,_,run_endLoop b4 (by intro h_;cases h_),?_⟩
  have hsz3:=HSZ.out
  have c1 : ∀ ob,(W.putObj (W3.heap.size + 1) ob).heap[w.heap.size]? = some (.cells #[v] 159 (0,0)):=fun ob => (World.putObj_heap_other (by omega)).trans b1
  have c5 : ∀ ob,(W.putObj (W3.heap.size + 1) ob).heap[W3.heap.size]? = some (.deferred (some [])):=fun ob => (World.putObj_heap_other (by omega)).trans b5
  have c2 : ∀ ob,OwnRow treeCells 164 2 (W.putObj (W3.heap.size + 1) ob) w.heap.size v (outsP many a):=fun ob => by
   obtain ⟨inner,h2,h3⟩:=b2
   refine ⟨inner,own_move h2 (fun k hk => World.putObj_heap_other (fun e_ => ?_)),h3⟩
   obtain ⟨cells,hcl⟩:=own_typed h2 k hk
   rw [e_,b4] at hcl
   cases hcl
  have c6 : ∀ ob,Below w.heap.size w (W.putObj (W3.heap.size + 1) ob):=fun ob => b6.grown (grownBy_putObj' _ _ _) b6.size (fun k e_ => by cases e_;omega)
  dsimp only
  generalize hW6 : W.putObj (W3.heap.size + 1) _ = W6
  have d1:=hW6 ▸ c1 _
  have d2:=hW6 ▸ c2 _
  have d5:=hW6 ▸ c5 _
  have d6:=hW6 ▸ c6 _
  clear c1 c2 c5 c6 b1 b2 b4 b5 b6 hW6
  have u0 : W6.cell? ⟨w.heap.size,0,none⟩ = some v:=(blk_cell d1 0).trans rfl
  have hlen : (outsP many a).length ≤ 64:=Nat.le_trans (outsF_length _ _ _ _) h64
  have HRV:=am (reverse_some (outsP many a) hlen)
  have D1:=am d1
  have D2:=am d2
  have D5:=am d5
  have D6:=am d6
  clear d1 d2 d5 d6 hlen
  gi_wp2_with fail
  refine ⟨trivial,(callsIn_wide.2 (book_tree_157.calls 100 (fun k => v.ownBlock = some k) v _ _ w _ D6.out (R_of_tree D2.out) HRV.out)).mono ?_⟩
  rintro e W7 ⟨rfl,hr,hb,hk⟩
  have m1 : v.ownBlock ≠ some w.heap.size:=fun e_ => by
   obtain ⟨inner,h2,h3⟩:=D2.out
   obtain ⟨cells,hcl⟩:=own_typed h2 _ e_
   rw [D1.out] at hcl
   cases hcl
  have m5 : v.ownBlock ≠ some W3.heap.size:=fun e_ => by
   obtain ⟨inner,h2,h3⟩:=D2.out
   obtain ⟨cells,hcl⟩:=own_typed h2 _ e_
   rw [D5.out] at hcl
   cases hcl
  have f1 : W7.heap[w.heap.size]? = _:=(hk.2 _ (blk_lt D1.out) m1).trans D1.out
  have f5 : W7.heap[W3.heap.size]? = _:=(hk.2 _ (blk_lt D5.out) m5).trans D5.out
  have u1 : W7.cell? ⟨w.heap.size,0,none⟩ = some v:=(blk_cell f1 0).trans rfl
  have F2:=am (tree_of_R hr)
  have F5:=am f5
  have F6:=am hb
  clear hr hb hk f1 f5 m1 m5 hsz3
  gi_wp2
  refine ⟨by simp,.inl ⟨_,_,rfl,run_takeDeferred F5.out,?_⟩⟩
  refine ⟨_,results_tmp rfl _ _ _,v,rfl,?_,?_⟩
  ·obtain ⟨inner,h2,h3⟩:=F2.out
   refine ⟨inner,own_move h2 (fun k hk => World.putObj_heap_other (fun e_ => ?_)),h3⟩
   obtain ⟨cells,hcl⟩:=own_typed h2 k hk
   rw [e_,F5.out] at hcl
   cases hcl
  ·exact F6.out.grown (grownBy_putObj' _ _ _) F6.out.size (fun k e_ => by cases e_;have:=HSZ.out;omega)
def book_siblings.f (m a : Int) : Option (List S164):=if 0 ≤ a ∧ a < m ∧ m ≤ 64 then some (outsP m.toNat a.toNat).reverse else none
theorem book_siblings.calls (a0 a1 : Int) (r : List S164) (w : World) (h : book_siblings.f a0 a1 = some r) :
  Calls Try.prog 122 #[.int .i64 a0,.int .i64 a1] w fun e w' => ∃ v0_ : Value,e = .returned (v0_) ∧ Kd.R k164 164 w' w.heap.size (fun _ => True) v0_ r ∧ Below w.heap.size w w':=by
 unfold book_siblings.f at h
 split at h
 ·rename_i hc
  obtain ⟨h1,h2,h3⟩:=hc
  obtain ⟨a,rfl⟩:=Int.eq_ofNat_of_zero_le h1
  obtain ⟨m,rfl⟩:=Int.eq_ofNat_of_zero_le (show 0 ≤ a0 by omega)
  obtain rfl:=Option.some.inj h
  refine (callsIn_wide.1 (siblings_in 3 (Nat.le_refl _) m a (by omega) (by omega) w)).mono ?_
  rintro e w' ⟨v,rfl,hr,hb⟩
  exact ⟨v,rfl,⟨fun _ _ => trivial,(R_of_tree hr).2.imp_ (fun p c hc => (Kd.M_mono k164 (fun _ hk => ⟨trivial,hk.2⟩) hc))⟩,hb⟩
 ·cases h
end
def book_two.f (l0 : List (S29)) (l1 : List (S29)) : Option (Int):=(book_Check.f l0).bind fun t101 => (if t101 = 0 then ((book_Check.f l1).bind fun t102 => (some t102)) else (some t101))
set_option maxHeartbeats 8000000 in
set_option maxRecDepth 100000 in
theorem book_two.calls (A0 : Option Addr) (c0 : Nat) (l0 : List (S29)) (A1 : Option Addr) (c1 : Nat) (l1 : List (S29)) (r : Int) (w : World) (hr0 : Kd.C k29 w A0 l0.length l0) (hc0 : l0.length ≤ c0) (hr1 : Kd.C k29 w A1 l1.length l1) (hc1 : l1.length ≤ c1) (h : book_two.f l0 l1 = some r) :
  Calls Try.prog 132 #[.slice A0 l0.length c0,.slice A1 l1.length c1] w fun e w' => e = .returned (.int .i64 r) ∧ Below w.heap.size w w':=by
 have HR0:=am hr0
 have HC0:=am hc0
 clear hr0 hc0
 have HR1:=am hr1
 have HC1:=am hc1
 clear hr1 hc1
 have HB:=am (Below.refl w.heap.size w)
 have H : ((book_Check.f l0).bind fun t101 => (if t101 = 0 then ((book_Check.f l1).bind fun t102 => (some t102)) else (some t101))) = some r:=h
 clear h
 replace H:=Option.bind_eq_some_iff.mp H
 obtain ⟨t101,A30,H⟩:=H
 replace H : (if t101 = 0 then ((book_Check.f l1).bind fun t102 => (some t102)) else (some t101)) = some r:=H
 have A3:=am A30
 clear A30
 by_cases c4 : t101 = 0
 ·rw [if_pos c4] at H
  have c4b0 : (t101 == 0) = true:=beq_iff_eq.mpr c4
  have c4b1 : (t101 != 0) = false:=bne_eq_false_iff_eq.mpr c4
  clear c4
  replace H:=Option.bind_eq_some_iff.mp H
  obtain ⟨t102,A50,H⟩:=H
  replace H : (some t102) = some r:=H
  have A5:=am A50
  clear A50
  obtain rfl:=Option.some.inj H
  go_enter Try.func132,Try.ntmps132
  go_wp2_with (first|((with_reducible refine gate_callee (f:=42) rfl ?_);refine goesL_ (some 7) rfl rfl Try.func42 kr rfl #[.slice A0 l0.length c0] rfl (by (try simp only [List.map_toArray,List.map_cons,List.map_nil]);first|done|rfl|(simp only [List.length_drop,List.length_take];rfl)) ?_;(with_reducible refine (book_Check.calls _ _ l0 t101 _ ?side1 ?side2 A3.out).mono ?_);(case side1 => repeat (first|exact HR0.out|(with_reducible refine Kd.C_alloc ?_ _)|(with_reducible refine Kd.C_drewN ?_ _)|(with_reducible refine Kd.C_drew ?_)));(case side2 => exact HC0.out);rintro e w6 ⟨rfl,hb⟩;refine ⟨_,rfl,?_⟩;have n0_:=am (below_step (v0 HB.out) hb);clear HB;have HB:=n0_;clear n0_;(try clear hb);(try clear hb2);(try clear hk);(try clear hi))|((with_reducible refine gate_callee (f:=42) rfl ?_);refine goesL_ (some 12) rfl rfl Try.func42 kr rfl #[.slice A1 l1.length c1] rfl (by (try simp only [List.map_toArray,List.map_cons,List.map_nil]);first|done|rfl|(simp only [List.length_drop,List.length_take];rfl)) ?_;(with_reducible refine (book_Check.calls _ _ l1 t102 _ ?side1 ?side2 A5.out).mono ?_);(case side1 => repeat (first|exact (Kd.C_below HR1.out HB.out)|(with_reducible refine Kd.C_alloc ?_ _)|(with_reducible refine Kd.C_drewN ?_ _)|(with_reducible refine Kd.C_drew ?_)));(case side2 => exact HC1.out);rintro e w7 ⟨rfl,hb⟩;refine ⟨_,rfl,?_⟩;have n0_:=am (below_step (v0 HB.out) hb);clear HB;have HB:=n0_;clear n0_;(try clear hb);(try clear hb2);(try clear hk);(try clear hi)))
  go_ret
  exact ⟨vf,v0 HB.out⟩
 ·rw [if_neg c4] at H
  have c4b0 : (t101 == 0) = false:=beq_eq_false_iff_ne.mpr c4
  have c4b1 : (t101 != 0) = true:=bne_iff_ne.mpr c4
  obtain rfl:=Option.some.inj H
  go_enter Try.func132,Try.ntmps132
  go_wp2_with (first|((with_reducible refine gate_callee (f:=42) rfl ?_);refine goesL_ (some 7) rfl rfl Try.func42 kr rfl #[.slice A0 l0.length c0] rfl (by (try simp only [List.map_toArray,List.map_cons,List.map_nil]);first|done|rfl|(simp only [List.length_drop,List.length_take];rfl)) ?_;(with_reducible refine (book_Check.calls _ _ l0 t101 _ ?side1 ?side2 A3.out).mono ?_);(case side1 => repeat (first|exact HR0.out|(with_reducible refine Kd.C_alloc ?_ _)|(with_reducible refine Kd.C_drewN ?_ _)|(with_reducible refine Kd.C_drew ?_)));(case side2 => exact HC0.out);rintro e w8 ⟨rfl,hb⟩;refine ⟨_,rfl,?_⟩;have n0_:=am (below_step (v0 HB.out) hb);clear HB;have HB:=n0_;clear n0_;(try clear hb);(try clear hb2);(try clear hk);(try clear hi)))
  go_ret
  exact ⟨vf,v0 HB.out⟩
theorem checkP_len {l : List S29} (h : checkP l = 0) : l.length ≤ 64:=by
 unfold checkP at h
 split at h
 ·cases h
 ·omega
section
attribute [local go_sem high] eqA29
def neP (x y : S29) : Bool:=!(x.f0 == y.f0) || (!(x.f1 == y.f1) || (!(x.f2 == y.f2) || !(x.f3 == y.f3)))
def twigP (l : List S29) (t : S164) : S129:=⟨t.f0,t.f1,rootP (cutP l t.f0 t.f1)⟩
def twigsP (l : List S29) (ts : List S164) : List S129:=ts.map (twigP l)
def InBook (l : List S29) (t : S164) : Prop:=0 ≤ t.f0 ∧ 0 ≤ t.f1 ∧ t.f0 + t.f1 ≤ l.length
theorem twigs_from (l : List S29) (h64 : l.length ≤ 64) (ts : List S164) (hin : ∀ t ∈ ts,InBook l t) (hts : ts.length ≤ 200) : ∀ (d k i : Nat),i ≤ ts.length → ts.length - i = d → d < k → 
  book_twigs.l0 k l (twigsP l (ts.take i)) ts (ts.length : Int) (i : Int) = some (twigsP l ts):=by
 intro d
 induction d with
|zero =>
  intro k i h0 hd hk
  obtain ⟨k,rfl⟩ : ∃ m,k = m + 1:=⟨k - 1,by omega⟩
  simp only [book_twigs.l0]
  rw [if_neg (by omega),List.take_of_length_le (by omega)]
|succ d ih =>
  intro k i h0 hd hk
  obtain ⟨k,rfl⟩ : ∃ m,k = m + 1:=⟨k - 1,by omega⟩
  have hlt : i < ts.length:=by omega
  have hb:=hin ts[i] (List.getElem_mem hlt)
  have hrd : rd_T164 ts (i : Int) = ts[i]:=by unfold rd_T164;simp [List.getD_eq_getElem?_getD,List.getElem?_eq_getElem hlt]
  have hw : wrap64 ((i : Int) + 1) = ((i + 1 : Nat) : Int):=by unfold wrap64;omega
  simp only [book_twigs.l0]
  rw [if_pos (by omega),if_pos (by omega),if_pos (by omega),hrd]
  have ht : book_twig.f l ts[i].f0 ts[i].f1 = some (ts[i].f0,ts[i].f1,rootP (cutP l ts[i].f0 ts[i].f1)):=by
   unfold book_twig.f
   rw [if_pos ⟨hb.1,hb.2.1,hb.2.2,h64⟩]
  rw [ht]
  simp only [Option.bind_some]
  have hl : (twigsP l (ts.take i)).length < 5864062014805:=by unfold twigsP;simp;omega
  rw [if_pos hl,hw]
  have hs : twigsP l (ts.take i) ++ [(⟨ts[i].f0,ts[i].f1,rootP (cutP l ts[i].f0 ts[i].f1)⟩ : S129)] = twigsP l (ts.take (i + 1)):=by
   unfold twigsP
   rw [List.take_succ_eq_append_getElem hlt,List.map_append]
   rfl
  rw [hs]
  exact ih k (i + 1) (by omega) (by omega) (by omega)
theorem twigs_some (l : List S29) (h64 : l.length ≤ 64) (ts : List S164) (hin : ∀ t ∈ ts,InBook l t) (hts : ts.length ≤ 200) : book_twigs.f 300 l ts = some (twigsP l ts):=by
 unfold book_twigs.f
 exact twigs_from l h64 ts hin hts ts.length 300 0 (Nat.zero_le _) (by omega) (by omega)
theorem outs_in_book : ∀ (k f g a n : Nat),g ≤ 64 → f + g ≤ n → ∀ t ∈ outsF k f g a,0 ≤ t.f0 ∧ 0 ≤ t.f1 ∧ t.f0 + t.f1 ≤ (n : Int)
|0,f,g,a,n,_,_ => by simp [outsF]
|k + 1,f,g,a,n,h64,h => by
  unfold outsF
  split
  ·have hb:=halfP_bounds (n:=g) (by omega) h64
   split
   ·intro t ht
    rcases List.mem_cons.1 ht with rfl|ht
    ·exact ⟨by simp;omega,by simp,by simp;omega⟩
    ·exact outs_in_book k f (halfP g) a n (by omega) (by omega) t ht
   ·intro t ht
    rcases List.mem_cons.1 ht with rfl|ht
    ·exact ⟨by simp,by simp,by simp;omega⟩
    ·exact outs_in_book k (f + halfP g) (g - halfP g) a n (by omega) (by omega) t ht
  ·simp
def standsP (l : List S29) (a : Nat) : List S129:=twigsP l (outsP l.length a).reverse
theorem siblings_some {m a : Nat} (h : a < m) (h64 : m ≤ 64) : book_siblings.f (m : Int) (a : Int) = some (outsP m a).reverse:=by
 unfold book_siblings.f
 rw [if_pos ⟨by omega,by omega,by omega⟩]
 rfl
theorem stands_some (l : List S29) (a : Nat) (h64 : l.length ≤ 64) : book_twigs.f 300 l (outsP l.length a).reverse = some (standsP l a):=by
 refine twigs_some l h64 _ (fun t ht => ?_) ?_
 ·exact outs_in_book l.length 0 l.length a l.length h64 (by omega) t (List.mem_reverse.1 ht)
 ·have:=outsF_length l.length 0 l.length a
  rw [List.length_reverse]
  unfold outsP
  omega
def forkFrom (a b : List S29) : Nat → Nat → Nat
|0,i => i
|d + 1,i => if neP (a.getD i z29) (b.getD i z29) = true then i else forkFrom a b d (i + 1)
def forkAt (a b : List S29) : Nat:=forkFrom a b (min a.length b.length) 0
def forkP (a b : List S29) : Int × List S129 × List S129 × Bool × Int :=
 if checkP a = 0 then (if checkP b = 0 then (if forkAt a b = min a.length b.length then ((forkAt a b : Int),[],[],false,0) else ((forkAt a b : Int),standsP a (forkAt a b),standsP b (forkAt a b),true,0)) else (0,[],[],false,checkP b)) else (0,[],[],false,checkP a)
theorem forkFrom_spec (a b : List S29) : ∀ (d i : Nat),i ≤ forkFrom a b d i ∧ forkFrom a b d i ≤ i + d ∧ (∀ j,i ≤ j → j < forkFrom a b d i → neP (a.getD j z29) (b.getD j z29) = false) ∧ (forkFrom a b d i < i + d → neP (a.getD (forkFrom a b d i) z29) (b.getD (forkFrom a b d i) z29) = true)
|0,i => by simp [forkFrom];omega
|d + 1,i => by
  unfold forkFrom
  split
  ·rename_i h
   exact ⟨Nat.le_refl _,by omega,fun j h1 h2 => by omega,fun _ => h⟩
  ·rename_i h
   obtain ⟨h1,h2,h3,h4⟩:=forkFrom_spec a b d (i + 1)
   refine ⟨by omega,by omega,fun j hj1 hj2 => ?_,fun hlt => h4 (by omega)⟩
   by_cases e : j = i
   ·subst e;simpa using h
   ·exact h3 j (by omega) hj2
theorem forkAt_hit {a b : List S29} {j : Nat} (hj : j < min a.length b.length) (hne : neP (a.getD j z29) (b.getD j z29) = true) (hall : ∀ i,i < j → neP (a.getD i z29) (b.getD i z29) = false) : forkAt a b = j:=by
 obtain ⟨h1,h2,h3,h4⟩:=forkFrom_spec a b (min a.length b.length) 0
 unfold forkAt
 rcases Nat.lt_trichotomy (forkFrom a b (min a.length b.length) 0) j with h|h|h
 ·have:=h4 (by omega);rw [hall _ h] at this;cases this
 ·exact h
 ·have:=h3 j (Nat.zero_le _) h;rw [hne] at this;cases this
theorem forkAt_none {a b : List S29} (hall : ∀ i,i < min a.length b.length → neP (a.getD i z29) (b.getD i z29) = false) : forkAt a b = min a.length b.length:=by
 obtain ⟨h1,h2,h3,h4⟩:=forkFrom_spec a b (min a.length b.length) 0
 unfold forkAt
 rcases Nat.lt_or_ge (forkFrom a b (min a.length b.length) 0) (min a.length b.length) with h|h
 ·have:=h4 (by omega);rw [hall _ h] at this;cases this
 ·omega
def book_Fork.f (l0 l1 : List S29) : Option (Int × List S129 × List S129 × Bool × Int):=some (forkP l0 l1)
set_option maxRecDepth 100000 in
set_option maxHeartbeats 600000 in
theorem book_Fork.calls (A0 : Option Addr) (c0 : Nat) (l0 : List S29) (A1 : Option Addr) (c1 : Nat) (l1 : List S29) (r1 : Int) (r2 r3 : List S129) (r4 : Bool) (r5 : Int) (w : World) (hr0 : Kd.C k29 w A0 l0.length l0) (hc0 : l0.length ≤ c0) (hr1 : Kd.C k29 w A1 l1.length l1) (hc1 : l1.length ≤ c1) (h : book_Fork.f l0 l1 = some (r1,r2,r3,r4,r5)) :
  Calls Try.prog 66 #[.slice A0 l0.length c0,.slice A1 l1.length c1] w fun e w' => ∃ v1_ v2_ : Value,e = .returned (.tuple #[.int .i64 r1,v1_,v2_,.bool r4,.int .i64 r5]) ∧ Kd.R k129 129 w' w.heap.size (fun k_ => some k_ ≠ (v2_ : Value).ownBlock) v1_ r2 ∧ Kd.R k129 129 w' w.heap.size (fun k_ => some k_ ≠ (v1_ : Value).ownBlock) v2_ r3 ∧ Below w.heap.size w w':=by
 have h':=Option.some.inj h
 clear h
 have HR0:=am hr0
 have HC0:=am hc0
 have HR1:=am hr1
 have HC1:=am hc1
 clear hr0 hc0 hr1 hc1
 have hu29:=Try.underlying29
 unfold forkP at h'
 by_cases ha : checkP l0 = 0
 ·by_cases hb : checkP l1 = 0
  ·rw [if_pos ha,if_pos hb] at h'
   have HT:=am (show book_two.f l0 l1 = some 0 by unfold book_two.f book_Check.f;simp [ha,hb])
   have hla:=checkP_len ha
   have hlb:=checkP_len hb
   clear ha hb
   rcases (Nat.lt_or_ge l1.length l0.length).symm with hle|hle
   ·obtain ⟨F,hF⟩ : ∃ F,F = forkAt l0 l1:=⟨_,rfl⟩
    rw [← hF] at h'
    have HF:=am hF
    have HM:=am (show min l0.length l1.length = l0.length by omega)
    have hmn : (min (l0.length : Int) (l1.length : Int)) = (l0.length : Int):=by omega
    rw [HM.out] at h'
    have H':=am h'
    have hle' : (l0.length : Int) ≤ (l1.length : Int):=by omega
    have hm0 : l0.length ≤ l0.length:=by omega
    have hm1 : l0.length ≤ l1.length:=by omega
    clear h' hF hle hmn
    go_enter Try.func66,Try.ntmps66
    go_wp2
    go_step3
    go_wp2_with fail
    refine (book_two.calls _ _ _ _ _ _ _ _ HR0.out HC0.out HR1.out HC1.out HT.out).mono ?_
    rintro e w1 ⟨rfl,hd⟩
    have HD:=am hd
    have HR0':=am (Kd.C_below HR0.out hd)
    have HR1':=am (Kd.C_below HR1.out hd)
    clear hd
    go_wp2
    go_step3
    go_wp2
    go_loopw [11,12,26] (fun v11 _ v26 wr => ∃ j : Nat,j ≤ l0.length ∧ v11 = .int .i64 (l0.length : Int) ∧ v26 = .int .i64 (j : Int) ∧ Aside0 (∀ i,i < j → neP (l0.getD i z29) (l1.getD i z29) = false) ∧ Drawn0 w1 wr) (fun _ _ v26 _ => l0.length - (intOf v26).toNat)
    case atStart => exact ⟨0,Nat.zero_le _,rfl,rfl,⟨fun i hi => absurd hi (by omega)⟩,Drawn0.refl _⟩
    case round =>
     obtain ⟨j,hj,rfl,rfl,HA,⟨mq,rfl⟩⟩:=hrel
     by_cases hlt : j < l0.length
     ·obtain ⟨ad,e,hx0,hx1,hx2,hx3⟩:=at_T29 HR0'.out (j : Int) (by omega) (by omega)
      cases e
      obtain ⟨ae,e,hy0,hy1,hy2,hy3⟩:=at_T29 HR1'.out (j : Int) (by omega) (by omega)
      cases e
      rw [Int.toNat_natCast] at hx0 hx1 hx2 hx3 hy0 hy1 hy2 hy3
      have z0 : (j : Int) < (l0.length : Int):=by omega
      have z1 : (j : Int) < (l1.length : Int):=by omega
      cases hne : neP (rd_T29 l0 (j : Int)) (rd_T29 l1 (j : Int)) with
     |true =>
       have HN:=am hne
       unfold neP at hne
       go_wp2
       go_quiet (fail)
       go_wp2_with fail
       have HJ:=am (forkAt_hit (a:=l0) (b:=l1) (j:=j) (by have:=HM.out;omega) HN.out HA.out)
       have hh:=H'.out
       rw [HF.out,HJ.out,if_neg (by omega)] at hh
       simp only [Prod.mk.injEq] at hh
       obtain ⟨rfl,rfl,rfl,rfl,rfl⟩:=hh
       have BB : Aside0 (∀ q,Below w.heap.size w (w1.drewN q)):=⟨fun q => below_then HD.out (below_size HD.out) (pw_below_drewN (Below.refl _ w1) q)⟩
       obtain ⟨q1,hq1,hq1'⟩ : ∃ q,book_siblings.f (l0.length : Int) (j : Int) = some q ∧ book_twigs.f 300 l0 q = some (standsP l0 j):=⟨_,siblings_some (by omega) hla,stands_some l0 j hla⟩
       obtain ⟨q2,hq2,hq2'⟩ : ∃ q,book_siblings.f (l1.length : Int) (j : Int) = some q ∧ book_twigs.f 300 l1 q = some (standsP l1 j):=⟨_,siblings_some (by omega) hlb,stands_some l1 j hlb⟩
       have Q1:=am hq1
       have Q1':=am hq1'
       have Q2:=am hq2
       have Q2':=am hq2'
       clear hq1 hq1' hq2 hq2'
       refine (book_siblings.calls _ _ _ _ Q1.out).mono ?_
       rintro e w2 ⟨s1,rfl,hs1,hb2⟩
       obtain ⟨As1,cs1,rfl,hsl1,hsr1⟩:=Kd.R_reads hs1
       have B2:=am (below_then (BB.out _) (below_size (BB.out _)) hb2)
       have SR1:=am hsr1
       have SL1:=am hsl1
       clear hs1 hb2 hsr1 hsl1
       go_wp2_with fail
       refine (book_twigs.calls 300 _ _ l0 _ _ _ _ _ (Kd.C_below HR0.out B2.out) HC0.out SR1.out SL1.out Q1'.out).mono ?_
       rintro e w3 ⟨t1,rfl,ht1,hb3⟩
       have B3:=am (below_then B2.out (below_size B2.out) hb3)
       have T1:=am (Kd.R_bound ht1)
       have HL1:=am (show ∀ k,t1.ownBlock = some k → k < w3.heap.size from fun k hk => (T1.out.1 k hk).2.2.1)
       have L3:=am hb3.size
       clear ht1 hb3
       go_wp2_with fail
       refine (book_siblings.calls _ _ _ _ Q2.out).mono ?_
       rintro e w4 ⟨s2,rfl,hs2,hb4⟩
       obtain ⟨As2,cs2,rfl,hsl2,hsr2⟩:=Kd.R_reads hs2
       have B4:=am (below_then B3.out (below_size B3.out) hb4)
       have SR2:=am hsr2
       have SL2:=am hsl2
       have T2:=am (Kd.R_below T1.out hb4)
       have L4:=am hb4.size
       clear hs2 hb4 hsr2 hsl2
       go_wp2_with fail
       refine (book_twigs.calls 300 _ _ l1 _ _ _ _ _ (Kd.C_below HR1.out B4.out) HC1.out SR2.out SL2.out Q2'.out).mono ?_
       rintro e w5 ⟨t2,rfl,ht2,hb5⟩
       have B5:=am (below_then B4.out (below_size B4.out) hb5)
       have T3:=am (Kd.R_below T2.out hb5)
       have U2:=am (Kd.R_bound ht2)
       have hge2 : ∀ k,t2.ownBlock = some k → w4.heap.size ≤ k:=fun k hk => (U2.out.1 k hk).2.1
       have HG2:=am hge2
       clear ht2 hb5 hge2
       go_wp2
       rw [Exit.noGoto_ret]
       refine bodyPost_ret (v:=.tuple #[.int .i64 (j : Int),t1,t2,.bool true,.int .i64 0]) (by simp [results,Try.results66,go_sem]) rfl ⟨t1,t2,rfl,?_,?_,B5.out⟩
       ·have hl4:=L4.out
        exact Kd.R_mono (Kd.R_lower T3.out (below_size B2.out)) (fun k hk e_ => by have h1:=HG2.out k e_.symm;have h2:=hk.2.2.1;omega)
       ·have hl4:=L4.out
        exact Kd.R_mono (Kd.R_lower U2.out (below_size B4.out)) (fun k hk e_ => by have h1:=HL1.out k e_.symm;have h2:=hk.2.1;omega)
     |false =>
       have HN:=am hne
       unfold neP at hne
       go_wp2
       go_quiet (fail)
       go_wp2
       go_roundw
       case rel => exact ⟨j + 1,by omega,rfl,by go_num,⟨fun i hi => if h : i = j then by subst h;exact HN.out else HA.out i (by omega)⟩,by repeat (first|exact Drawn0.refl _|apply Drawn0.step)⟩
       case measure => simp [intOf];omega
     ·have HJ:=am (forkAt_none (a:=l0) (b:=l1) (fun i hi => HA.out i (by have:=HM.out;omega)))
      have hh:=H'.out
      rw [HF.out,HJ.out,HM.out,if_pos rfl] at hh
      simp only [Prod.mk.injEq] at hh
      obtain ⟨rfl,rfl,rfl,rfl,rfl⟩:=hh
      go_wp2
      rw [Exit.noGoto_ret]
      refine bodyPost_ret (v:=.tuple #[.int .i64 (l0.length : Int),.slice none 0 0,.slice none 0 0,.bool false,.int .i64 0]) (by simp [results,Try.results66,go_sem]) rfl ⟨_,_,rfl,Kd.R_nil _ _ _ _ _,Kd.R_nil _ _ _ _ _,below_then HD.out (below_size HD.out) (pw_below_drewN (Below.refl _ w1) _)⟩
   ·obtain ⟨F,hF⟩ : ∃ F,F = forkAt l0 l1:=⟨_,rfl⟩
    rw [← hF] at h'
    have HF:=am hF
    have HM:=am (show min l0.length l1.length = l1.length by omega)
    have hmn : (min (l0.length : Int) (l1.length : Int)) = (l1.length : Int):=by omega
    rw [HM.out] at h'
    have H':=am h'
    have hle' : (l1.length : Int) < (l0.length : Int):=by omega
    have hm0 : l1.length ≤ l0.length:=by omega
    have hm1 : l1.length ≤ l1.length:=by omega
    clear h' hF hle hmn
    go_enter Try.func66,Try.ntmps66
    go_wp2
    go_step3
    go_wp2_with fail
    refine (book_two.calls _ _ _ _ _ _ _ _ HR0.out HC0.out HR1.out HC1.out HT.out).mono ?_
    rintro e w1 ⟨rfl,hd⟩
    have HD:=am hd
    have HR0':=am (Kd.C_below HR0.out hd)
    have HR1':=am (Kd.C_below HR1.out hd)
    clear hd
    go_wp2
    go_step3
    go_wp2
    go_loopw [11,12,26] (fun v11 _ v26 wr => ∃ j : Nat,j ≤ l1.length ∧ v11 = .int .i64 (l1.length : Int) ∧ v26 = .int .i64 (j : Int) ∧ Aside0 (∀ i,i < j → neP (l0.getD i z29) (l1.getD i z29) = false) ∧ Drawn0 w1 wr) (fun _ _ v26 _ => l1.length - (intOf v26).toNat)
    case atStart => exact ⟨0,Nat.zero_le _,rfl,rfl,⟨fun i hi => absurd hi (by omega)⟩,Drawn0.refl _⟩
    case round =>
     obtain ⟨j,hj,rfl,rfl,HA,⟨mq,rfl⟩⟩:=hrel
     by_cases hlt : j < l1.length
     ·obtain ⟨ad,e,hx0,hx1,hx2,hx3⟩:=at_T29 HR0'.out (j : Int) (by omega) (by omega)
      cases e
      obtain ⟨ae,e,hy0,hy1,hy2,hy3⟩:=at_T29 HR1'.out (j : Int) (by omega) (by omega)
      cases e
      rw [Int.toNat_natCast] at hx0 hx1 hx2 hx3 hy0 hy1 hy2 hy3
      have z0 : (j : Int) < (l0.length : Int):=by omega
      have z1 : (j : Int) < (l1.length : Int):=by omega
      cases hne : neP (rd_T29 l0 (j : Int)) (rd_T29 l1 (j : Int)) with
     |true =>
       have HN:=am hne
       unfold neP at hne
       go_wp2
       go_quiet (fail)
       go_wp2_with fail
       have HJ:=am (forkAt_hit (a:=l0) (b:=l1) (j:=j) (by have:=HM.out;omega) HN.out HA.out)
       have hh:=H'.out
       rw [HF.out,HJ.out,if_neg (by omega)] at hh
       simp only [Prod.mk.injEq] at hh
       obtain ⟨rfl,rfl,rfl,rfl,rfl⟩:=hh
       have BB : Aside0 (∀ q,Below w.heap.size w (w1.drewN q)):=⟨fun q => below_then HD.out (below_size HD.out) (pw_below_drewN (Below.refl _ w1) q)⟩
       obtain ⟨q1,hq1,hq1'⟩ : ∃ q,book_siblings.f (l0.length : Int) (j : Int) = some q ∧ book_twigs.f 300 l0 q = some (standsP l0 j):=⟨_,siblings_some (by omega) hla,stands_some l0 j hla⟩
       obtain ⟨q2,hq2,hq2'⟩ : ∃ q,book_siblings.f (l1.length : Int) (j : Int) = some q ∧ book_twigs.f 300 l1 q = some (standsP l1 j):=⟨_,siblings_some (by omega) hlb,stands_some l1 j hlb⟩
       have Q1:=am hq1
       have Q1':=am hq1'
       have Q2:=am hq2
       have Q2':=am hq2'
       clear hq1 hq1' hq2 hq2'
       refine (book_siblings.calls _ _ _ _ Q1.out).mono ?_
       rintro e w2 ⟨s1,rfl,hs1,hb2⟩
       obtain ⟨As1,cs1,rfl,hsl1,hsr1⟩:=Kd.R_reads hs1
       have B2:=am (below_then (BB.out _) (below_size (BB.out _)) hb2)
       have SR1:=am hsr1
       have SL1:=am hsl1
       clear hs1 hb2 hsr1 hsl1
       go_wp2_with fail
       refine (book_twigs.calls 300 _ _ l0 _ _ _ _ _ (Kd.C_below HR0.out B2.out) HC0.out SR1.out SL1.out Q1'.out).mono ?_
       rintro e w3 ⟨t1,rfl,ht1,hb3⟩
       have B3:=am (below_then B2.out (below_size B2.out) hb3)
       have T1:=am (Kd.R_bound ht1)
       have HL1:=am (show ∀ k,t1.ownBlock = some k → k < w3.heap.size from fun k hk => (T1.out.1 k hk).2.2.1)
       have L3:=am hb3.size
       clear ht1 hb3
       go_wp2_with fail
       refine (book_siblings.calls _ _ _ _ Q2.out).mono ?_
       rintro e w4 ⟨s2,rfl,hs2,hb4⟩
       obtain ⟨As2,cs2,rfl,hsl2,hsr2⟩:=Kd.R_reads hs2
       have B4:=am (below_then B3.out (below_size B3.out) hb4)
       have SR2:=am hsr2
       have SL2:=am hsl2
       have T2:=am (Kd.R_below T1.out hb4)
       have L4:=am hb4.size
       clear hs2 hb4 hsr2 hsl2
       go_wp2_with fail
       refine (book_twigs.calls 300 _ _ l1 _ _ _ _ _ (Kd.C_below HR1.out B4.out) HC1.out SR2.out SL2.out Q2'.out).mono ?_
       rintro e w5 ⟨t2,rfl,ht2,hb5⟩
       have B5:=am (below_then B4.out (below_size B4.out) hb5)
       have T3:=am (Kd.R_below T2.out hb5)
       have U2:=am (Kd.R_bound ht2)
       have hge2 : ∀ k,t2.ownBlock = some k → w4.heap.size ≤ k:=fun k hk => (U2.out.1 k hk).2.1
       have HG2:=am hge2
       clear ht2 hb5 hge2
       go_wp2
       rw [Exit.noGoto_ret]
       refine bodyPost_ret (v:=.tuple #[.int .i64 (j : Int),t1,t2,.bool true,.int .i64 0]) (by simp [results,Try.results66,go_sem]) rfl ⟨t1,t2,rfl,?_,?_,B5.out⟩
       ·have hl4:=L4.out
        exact Kd.R_mono (Kd.R_lower T3.out (below_size B2.out)) (fun k hk e_ => by have h1:=HG2.out k e_.symm;have h2:=hk.2.2.1;omega)
       ·have hl4:=L4.out
        exact Kd.R_mono (Kd.R_lower U2.out (below_size B4.out)) (fun k hk e_ => by have h1:=HL1.out k e_.symm;have h2:=hk.2.1;omega)
     |false =>
       have HN:=am hne
       unfold neP at hne
       go_wp2
       go_quiet (fail)
       go_wp2
       go_roundw
       case rel => exact ⟨j + 1,by omega,rfl,by go_num,⟨fun i hi => if h : i = j then by subst h;exact HN.out else HA.out i (by omega)⟩,by repeat (first|exact Drawn0.refl _|apply Drawn0.step)⟩
       case measure => simp [intOf];omega
     ·have HJ:=am (forkAt_none (a:=l0) (b:=l1) (fun i hi => HA.out i (by have:=HM.out;omega)))
      have hh:=H'.out
      rw [HF.out,HJ.out,HM.out,if_pos rfl] at hh
      simp only [Prod.mk.injEq] at hh
      obtain ⟨rfl,rfl,rfl,rfl,rfl⟩:=hh
      go_wp2
      rw [Exit.noGoto_ret]
      refine bodyPost_ret (v:=.tuple #[.int .i64 (l1.length : Int),.slice none 0 0,.slice none 0 0,.bool false,.int .i64 0]) (by simp [results,Try.results66,go_sem]) rfl ⟨_,_,rfl,Kd.R_nil _ _ _ _ _,Kd.R_nil _ _ _ _ _,below_then HD.out (below_size HD.out) (pw_below_drewN (Below.refl _ w1) _)⟩
  ·rw [if_pos ha,if_neg hb] at h'
   simp only [Prod.mk.injEq] at h'
   obtain ⟨rfl,rfl,rfl,rfl,rfl⟩:=h'
   have HT:=am (show book_two.f l0 l1 = some (checkP l1) by unfold book_two.f book_Check.f;simp [ha])
   have g1 : (checkP l1 != 0) = true:=by simpa using hb
   clear ha hb
   go_enter Try.func66,Try.ntmps66
   go_wp2
   go_step3
   go_wp2_with fail
   refine (book_two.calls _ _ _ _ _ _ _ _ HR0.out HC0.out HR1.out HC1.out HT.out).mono ?_
   rintro e w1 ⟨rfl,hd⟩
   have HD:=am hd
   clear hd
   go_wp2
   rw [Exit.noGoto_ret]
   refine bodyPost_ret (v:=.tuple #[.int .i64 0,.slice none 0 0,.slice none 0 0,.bool false,.int .i64 (checkP l1)]) (by simp [results,Try.results66,go_sem]) rfl ⟨_,_,rfl,Kd.R_nil _ _ _ _ _,Kd.R_nil _ _ _ _ _,HD.out⟩
 ·rw [if_neg ha] at h'
  simp only [Prod.mk.injEq] at h'
  obtain ⟨rfl,rfl,rfl,rfl,rfl⟩:=h'
  have HT:=am (show book_two.f l0 l1 = some (checkP l0) by unfold book_two.f book_Check.f;simp [ha])
  have g1 : (checkP l0 != 0) = true:=by simpa using ha
  clear ha
  go_enter Try.func66,Try.ntmps66
  go_wp2
  go_step3
  go_wp2_with fail
  refine (book_two.calls _ _ _ _ _ _ _ _ HR0.out HC0.out HR1.out HC1.out HT.out).mono ?_
  rintro e w1 ⟨rfl,hd⟩
  have HD:=am hd
  clear hd
  go_wp2
  rw [Exit.noGoto_ret]
  refine bodyPost_ret (v:=.tuple #[.int .i64 0,.slice none 0 0,.slice none 0 0,.bool false,.int .i64 (checkP l0)]) (by simp [results,Try.results66,go_sem]) rfl ⟨_,_,rfl,Kd.R_nil _ _ _ _ _,Kd.R_nil _ _ _ _ _,HD.out⟩
end
def calxref08_parts.f (a0_0 : Int) (a0_1 : Int) (a0_2 : Int) (a0_3 : Int) : Option (List Int):=some (([0,a0_0,a0_1,a0_2,a0_3] : List Int))
set_option maxHeartbeats 8000000 in
set_option maxRecDepth 100000 in
theorem calxref08_parts.calls (a0_0 : Int) (a0_1 : Int) (a0_2 : Int) (a0_3 : Int) (r : List Int) (w : World) (h : calxref08_parts.f a0_0 a0_1 a0_2 a0_3 = some r) :
  Calls Try.prog 143 #[.agg #[.int .i64 a0_0,.int .i64 a0_1,.int .i64 a0_2,.int .i64 a0_3]] w fun e w' => ∃ v0_ : Value,e = .returned (v0_) ∧ Kd.R (Kd.int .i64) 3 w' w.heap.size (fun _ => True) v0_ r ∧ Below w.heap.size w w':=by
 have hu29:=Try.underlying29
 have HB:=am (Below.refl w.heap.size w)
 have H : (some (([0,a0_0,a0_1,a0_2,a0_3] : List Int))) = some r:=h
 clear h
 obtain ⟨y102,hy102⟩ : ∃ y_ : List Int,y_ = (([0,a0_0,a0_1,a0_2,a0_3] : List Int)):=⟨_,rfl⟩
 replace H : (some y102) = some r:=by first|(rw [hy102];with_reducible exact H)|(have H2_:=(Option.bind_some _ _).symm.trans H;rw [hy102];with_reducible exact H2_)|(have H2_:=(Option.bind_some _ _).symm.trans H;with_reducible exact H2_)|with_reducible exact H|(rw [hy102];exact H)|exact H
 have Ny102:=am hy102
 clear hy102
 obtain rfl:=Option.some.inj H
 go_enter Try.func143,Try.ntmps143
 go_wp2_with (first|((with_reducible refine gate_dst (N:=1) rfl ?_);refine box_event ?hg (N:=1) ?hd (cs:=#[.int .i64 a0_0,.int .i64 a0_1,.int .i64 a0_2,.int .i64 a0_3]) (t:=29) ?hr ?_;(case hd => rfl);(case hg => rfl);(case hr => first|(go_simp;done)|(go_simp;rfl));intro gb101 hg w2 hbox hb;have n0_:=am (below_step (v0 HB.out) hb);have n1_:=am (hbox);have n2_:=am ((by rw [hg];exact (below_size (v0 HB.out)) : w.heap.size ≤ gb101));have n3_:=am ((by rw [hg];exact (below_size (v0 HB.out)) : w.heap.size ≤ gb101));clear HB;have HB:=n0_;have BK101:=n1_;have GW101:=n2_;have GE101:=n3_;clear n0_ n1_ n2_ n3_;clear hb hbox hg;have hcz3_0 : w2.cell? ⟨gb101,0,none⟩ = some (.int .i64 a0_0):=(blk_cell BK101.out 0).trans rfl;have hcz3_1 : w2.cell? ⟨gb101,1,none⟩ = some (.int .i64 a0_1):=(blk_cell BK101.out 1).trans rfl;have hcz3_2 : w2.cell? ⟨gb101,2,none⟩ = some (.int .i64 a0_2):=(blk_cell BK101.out 2).trans rfl;have hcz3_3 : w2.cell? ⟨gb101,3,none⟩ = some (.int .i64 a0_3):=(blk_cell BK101.out 3).trans rfl;have hfz3_0:=blk_frozen BK101.out 0;have hfz3_1:=blk_frozen BK101.out 1;have hfz3_2:=blk_frozen BK101.out 2;have hfz3_3:=blk_frozen BK101.out 3)|((with_reducible refine gate_dst (N:=11) rfl ?_);refine Kd.R_lit (Kd.int .i64) _ 3 ?hg (N:=11) ?hd (xs:=([0,a0_0,a0_1,a0_2,a0_3] : List Int)) (inner:=[.int .i64 0,.int .i64 a0_0,.int .i64 a0_1,.int .i64 a0_2,.int .i64 a0_3]) (ok:=fun _ => True) (okp:=fun _ => True) ?hr ?hp (fun _ hk => hk) trivial (Below.refl _ _) (Nat.le_refl _) (by simp) ?_;(case hd => rfl);(case hg => rfl);(case hr => first|(go_simp;done)|(go_simp;rfl));(case hp => exact (Reps.one (show Kd.M (Kd.int .i64) _ _ _ 0 [.int .i64 0] from rfl) (Reps.one (show Kd.M (Kd.int .i64) _ _ _ a0_0 [.int .i64 a0_0] from rfl) (Reps.one (show Kd.M (Kd.int .i64) _ _ _ a0_1 [.int .i64 a0_1] from rfl) (Reps.one (show Kd.M (Kd.int .i64) _ _ _ a0_2 [.int .i64 a0_2] from rfl) (Reps.one (show Kd.M (Kd.int .i64) _ _ _ a0_3 [.int .i64 a0_3] from rfl) (Reps.none _ _)))))));intro v103 w4 ho5 hb hg_ hnew_;clear hg_ hnew_;(first|rw [← Ny102.out] at ho5|(simp only [Int.reduceToNat] at ho5;rw [← Ny102.out] at ho5));have n0_:=am (Kd.R_lower ho5 (below_size (v1 HB.out GE101.out)));have n1_:=am (blk_below (g:=gb101) (o:=.cells #[.int .i64 a0_0,.int .i64 a0_1,.int .i64 a0_2,.int .i64 a0_3] 29 (0,0)) (vb BK101.out) hb);have n2_:=am (below_step (v1 HB.out GE101.out) hb);clear BK101;clear HB;have HO104:=n0_;have BK101:=n1_;have HB:=n2_;clear n0_ n1_ n2_;clear hb ho5))
 go_ret
 exact ⟨_,vf,by (with_reducible repeat (first|apply Kd.R_alloc|apply Kd.R_drewN|apply Kd.R_drew));exact HO104.out,v1 HB.out GE101.out⟩
def calxref08_leaf.f (k : Nat) (a0_0 : Int) (a0_1 : Int) (a0_2 : Int) (a0_3 : Int) : Option (Int):=(calxref08_parts.f a0_0 a0_1 a0_2 a0_3).bind fun t102 => ((calxref08_digest.f k t102).bind fun t105 => (some t105))
theorem calxref08_leaf.mono : ∀ a0 a1 a2 a3 k,LeO (calxref08_leaf.f k a0 a1 a2 a3) (calxref08_leaf.f (k + 1) a0 a1 a2 a3):=by
 intro a0 a1 a2 a3 k
 unfold calxref08_leaf.f
 repeat' first
  |(with_reducible exact calxref08_digest.mono _ _)
  |(with_reducible exact LeO.refl _)
  |(with_reducible exact LeO.none _)
  |(with_reducible refine LeO.ite ?_ ?_)
  |(with_reducible refine LeO.bind ?_ (fun _ => ?_))
  |exact calxref08_digest.mono _ _
  |exact LeO.none _
  |refine LeO.ite ?_ ?_
  |refine LeO.bind ?_ (fun _ => ?_)
set_option maxHeartbeats 8000000 in
set_option maxRecDepth 100000 in
theorem calxref08_leaf.calls (k : Nat) (a0_0 : Int) (a0_1 : Int) (a0_2 : Int) (a0_3 : Int) (r : Int) (w : World) (h : calxref08_leaf.f k a0_0 a0_1 a0_2 a0_3 = some r) :
  Calls Try.prog 102 #[.agg #[.int .i64 a0_0,.int .i64 a0_1,.int .i64 a0_2,.int .i64 a0_3]] w fun e w' => e = .returned (.int .i64 r) ∧ Below w.heap.size w w':=by
 have hu29:=Try.underlying29
 have HB:=am (Below.refl w.heap.size w)
 have H : ((calxref08_parts.f a0_0 a0_1 a0_2 a0_3).bind fun t102 => ((calxref08_digest.f k t102).bind fun t105 => (some t105))) = some r:=h
 clear h
 replace H:=Option.bind_eq_some_iff.mp H
 obtain ⟨t102,A20,H⟩:=H
 replace H : ((calxref08_digest.f k t102).bind fun t105 => (some t105)) = some r:=H
 have A2:=am A20
 clear A20
 replace H:=Option.bind_eq_some_iff.mp H
 obtain ⟨t105,A30,H⟩:=H
 replace H : (some t105) = some r:=H
 have A3:=am A30
 clear A30
 obtain rfl:=Option.some.inj H
 go_enter Try.func102,Try.ntmps102
 go_wp2_with (first|((with_reducible refine gate_dst (N:=1) rfl ?_);refine box_event ?hg (N:=1) ?hd (cs:=#[.int .i64 a0_0,.int .i64 a0_1,.int .i64 a0_2,.int .i64 a0_3]) (t:=29) ?hr ?_;(case hd => rfl);(case hg => rfl);(case hr => first|(go_simp;done)|(go_simp;rfl));intro gb101 hg w4 hbox hb;have n0_:=am (below_step (v0 HB.out) hb);have n1_:=am (hbox);have n2_:=am ((by rw [hg];exact (below_size (v0 HB.out)) : w.heap.size ≤ gb101));have n3_:=am ((by rw [hg];exact (below_size (v0 HB.out)) : w.heap.size ≤ gb101));clear HB;have HB:=n0_;have BK101:=n1_;have GW101:=n2_;have GE101:=n3_;clear n0_ n1_ n2_ n3_;clear hb hbox hg;have hcz5_0 : w4.cell? ⟨gb101,0,none⟩ = some (.int .i64 a0_0):=(blk_cell BK101.out 0).trans rfl;have hcz5_1 : w4.cell? ⟨gb101,1,none⟩ = some (.int .i64 a0_1):=(blk_cell BK101.out 1).trans rfl;have hcz5_2 : w4.cell? ⟨gb101,2,none⟩ = some (.int .i64 a0_2):=(blk_cell BK101.out 2).trans rfl;have hcz5_3 : w4.cell? ⟨gb101,3,none⟩ = some (.int .i64 a0_3):=(blk_cell BK101.out 3).trans rfl;have hfz5_0:=blk_frozen BK101.out 0;have hfz5_1:=blk_frozen BK101.out 1;have hfz5_2:=blk_frozen BK101.out 2;have hfz5_3:=blk_frozen BK101.out 3)|((with_reducible refine gate_callee (f:=143) rfl ?_);refine goesL_ (some 4) rfl rfl Try.func143 kr rfl #[.agg #[.int .i64 a0_0,.int .i64 a0_1,.int .i64 a0_2,.int .i64 a0_3]] rfl (by (try simp only [List.map_toArray,List.map_cons,List.map_nil]);first|done|rfl|(simp only [List.length_drop,List.length_take];rfl)) ?_;(with_reducible refine (calxref08_parts.calls a0_0 a0_1 a0_2 a0_3 t102 _ A2.out).mono ?_);rintro e w6 ⟨v103,rfl,ho0,hb⟩;refine ⟨_,rfl,?_⟩;have n0_:=am (Kd.R_lower ho0 (below_size (v1 HB.out GE101.out)));have n1_:=am (blk_below (g:=gb101) (o:=.cells #[.int .i64 a0_0,.int .i64 a0_1,.int .i64 a0_2,.int .i64 a0_3] 29 (0,0)) (vb BK101.out) hb);have n2_:=am (below_step (v1 HB.out GE101.out) hb);clear BK101;clear HB;have HO104:=n0_;have BK101:=n1_;have HB:=n2_;clear n0_ n1_ n2_;(try clear hb);(try clear hb2);(try clear hk);(try clear hi);(try clear ho0);obtain ⟨Ao7,co7,eo7⟩:=Kd.R_slice HO104.out;subst eo7)|((with_reducible refine gate_callee (f:=98) rfl ?_);refine goesL_ (some 5) rfl rfl Try.func98 kr rfl #[.slice Ao7 t102.length co7] rfl (by (try simp only [List.map_toArray,List.map_cons,List.map_nil]);first|done|rfl|(simp only [List.length_drop,List.length_take];rfl)) ?_;(with_reducible refine (calxref08_digest.calls k _ _ t102 t105 _ ?side1 ?side2 A3.out).mono ?_);(case side1 => repeat (first|exact (Kd.R_reads' HO104.out).2.2|(with_reducible refine Kd.C_alloc ?_ _)|(with_reducible refine Kd.C_drewN ?_ _)|(with_reducible refine Kd.C_drew ?_)));(case side2 => exact (Kd.R_reads' HO104.out).2.1);rintro e w' ⟨rfl,⟨nd,rfl⟩⟩;refine ⟨_,rfl,?_⟩))
 go_ret
 exact ⟨vf,v1 HB.out GE101.out⟩
def calxref08_node.f (k : Nat) (a0 : Int) (a1 : Int) (a2 : Int) : Option (Int):=(calxref08_digest.f k (([1,a0,a1,a2] : List Int))).bind fun t104 => (some t104)
theorem calxref08_node.mono : ∀ a0 a1 a2 k,LeO (calxref08_node.f k a0 a1 a2) (calxref08_node.f (k + 1) a0 a1 a2):=by
 intro a0 a1 a2 k
 unfold calxref08_node.f
 repeat' first
  |(with_reducible exact calxref08_digest.mono _ _)
  |(with_reducible exact LeO.refl _)
  |(with_reducible exact LeO.none _)
  |(with_reducible refine LeO.ite ?_ ?_)
  |(with_reducible refine LeO.bind ?_ (fun _ => ?_))
  |exact calxref08_digest.mono _ _
  |exact LeO.none _
  |refine LeO.ite ?_ ?_
  |refine LeO.bind ?_ (fun _ => ?_)
set_option maxHeartbeats 8000000 in
set_option maxRecDepth 100000 in
theorem calxref08_node.calls (k : Nat) (a0 : Int) (a1 : Int) (a2 : Int) (r : Int) (w : World) (h : calxref08_node.f k a0 a1 a2 = some r) :
  Calls Try.prog 105 #[.int .i64 a0,.int .i64 a1,.int .i64 a2] w fun e w' => e = .returned (.int .i64 r) ∧ Below w.heap.size w w':=by
 have HB:=am (Below.refl w.heap.size w)
 have H : ((calxref08_digest.f k (([1,a0,a1,a2] : List Int))).bind fun t104 => (some t104)) = some r:=h
 clear h
 obtain ⟨y101,hy101⟩ : ∃ y_ : List Int,y_ = (([1,a0,a1,a2] : List Int)):=⟨_,rfl⟩
 replace H : ((calxref08_digest.f k y101).bind fun t104 => (some t104)) = some r:=by first|(rw [hy101];with_reducible exact H)|(have H2_:=(Option.bind_some _ _).symm.trans H;rw [hy101];with_reducible exact H2_)|(have H2_:=(Option.bind_some _ _).symm.trans H;with_reducible exact H2_)|with_reducible exact H|(rw [hy101];exact H)|exact H
 have Ny101:=am hy101
 clear hy101
 replace H:=Option.bind_eq_some_iff.mp H
 obtain ⟨t104,A40,H⟩:=H
 replace H : (some t104) = some r:=H
 have A4:=am A40
 clear A40
 obtain rfl:=Option.some.inj H
 go_enter Try.func105,Try.ntmps105
 go_wp2_with (first|((with_reducible refine gate_dst (N:=10) rfl ?_);refine Kd.R_lit (Kd.int .i64) _ 3 ?hg (N:=10) ?hd (xs:=([1,a0,a1,a2] : List Int)) (inner:=[.int .i64 1,.int .i64 a0,.int .i64 a1,.int .i64 a2]) (ok:=fun _ => True) (okp:=fun _ => True) ?hr ?hp (fun _ hk => hk) trivial (Below.refl _ _) (Nat.le_refl _) (by simp) ?_;(case hd => rfl);(case hg => rfl);(case hr => first|(go_simp;done)|(go_simp;rfl));(case hp => exact (Reps.one (show Kd.M (Kd.int .i64) _ _ _ 1 [.int .i64 1] from rfl) (Reps.one (show Kd.M (Kd.int .i64) _ _ _ a0 [.int .i64 a0] from rfl) (Reps.one (show Kd.M (Kd.int .i64) _ _ _ a1 [.int .i64 a1] from rfl) (Reps.one (show Kd.M (Kd.int .i64) _ _ _ a2 [.int .i64 a2] from rfl) (Reps.none _ _))))));intro v102 w5 ho6 hb hg_ hnew_;clear hg_ hnew_;(first|rw [← Ny101.out] at ho6|(simp only [Int.reduceToNat] at ho6;rw [← Ny101.out] at ho6));have n0_:=am (Kd.R_lower ho6 (below_size (v0 HB.out)));have n1_:=am (below_step (v0 HB.out) hb);clear HB;have HO103:=n0_;have HB:=n1_;clear n0_ n1_;clear hb ho6;obtain ⟨Ao7,co7,eo7⟩:=Kd.R_slice HO103.out;subst eo7)|((with_reducible refine gate_callee (f:=98) rfl ?_);refine goesL_ (some 11) rfl rfl Try.func98 kr rfl #[.slice Ao7 y101.length co7] rfl (by (try simp only [List.map_toArray,List.map_cons,List.map_nil]);first|done|rfl|(simp only [List.length_drop,List.length_take];rfl)) ?_;(with_reducible refine (calxref08_digest.calls k _ _ y101 t104 _ ?side1 ?side2 A4.out).mono ?_);(case side1 => repeat (first|exact (Kd.R_reads' HO103.out).2.2|(with_reducible refine Kd.C_alloc ?_ _)|(with_reducible refine Kd.C_drewN ?_ _)|(with_reducible refine Kd.C_drew ?_)));(case side2 => exact (Kd.R_reads' HO103.out).2.1);rintro e w' ⟨rfl,⟨nd,rfl⟩⟩;refine ⟨_,rfl,?_⟩))
 go_ret
 exact ⟨vf,v0 HB.out⟩
def calxref08_half.l0 : Nat → Int → Int → Option (Int)
|0,_,_ => none
|k + 1,x0,x3 => if (wrap64 (x3 * 2)) < x0 then (calxref08_half.l0 k x0 (wrap64 (x3 * 2))) else (some x3)
def calxref08_half.f (k : Nat) (a0 : Int) : Option (Int):=calxref08_half.l0 k a0 1
theorem calxref08_half.mono_l : ∀ k,(∀ y0 y1,LeO (calxref08_half.l0 k y0 y1) (calxref08_half.l0 (k + 1) y0 y1))
|0 => fun _ _ r h => by simp [calxref08_half.l0] at h
|k + 1 => by
  have ih0:=calxref08_half.mono_l k
  ·intro y0 y1
   unfold calxref08_half.l0
   repeat' first
  |(with_reducible exact ih0 _ _)
  |(with_reducible exact LeO.refl _)
  |(with_reducible exact LeO.none _)
  |(with_reducible refine LeO.ite ?_ ?_)
  |(with_reducible refine LeO.bind ?_ (fun _ => ?_))
  |exact ih0 _ _
  |exact LeO.none _
  |refine LeO.ite ?_ ?_
  |refine LeO.bind ?_ (fun _ => ?_)
theorem calxref08_half.mono : ∀ a0 k,LeO (calxref08_half.f k a0) (calxref08_half.f (k + 1) a0):=by
 intro a0 k
 have ih0:=calxref08_half.mono_l k
 unfold calxref08_half.f
 repeat' first
  |(with_reducible exact ih0 _ _)
  |(with_reducible exact LeO.refl _)
  |(with_reducible exact LeO.none _)
  |(with_reducible refine LeO.ite ?_ ?_)
  |(with_reducible refine LeO.bind ?_ (fun _ => ?_))
  |exact ih0 _ _
  |exact LeO.none _
  |refine LeO.ite ?_ ?_
  |refine LeO.bind ?_ (fun _ => ?_)
set_option maxHeartbeats 8000000 in
set_option maxRecDepth 100000 in
theorem calxref08_half.calls (k : Nat) (a0 : Int) (r : Int) (w : World) (h : calxref08_half.f k a0 = some r) :
  Calls Try.prog 136 #[.int .i64 a0] w fun e w' => e = .returned (.int .i64 r) ∧ Drawn0 w w':=by
 have H : (calxref08_half.l0 k a0 1) = some r:=h
 clear h
 have H':=am H
 clear H
 go_enter Try.func136,Try.ntmps136
 go_wp2
 go_loopg [3] k (fun kq v3 w' => ∃ (x3_1 : Int),v3 = .int .i64 x3_1 ∧ Aside0 (calxref08_half.l0 kq a0 x3_1 = some r) ∧ Aside0 (kq ≤ k) ∧ Drawn0 w w')
 case atStart => exact ⟨(1),ve,H',⟨Nat.le_refl _⟩,by repeat (first|exact Drawn0.refl _|apply Drawn0.step)⟩
 case round =>
  clear H'
  try clear c1
  obtain ⟨x3_1,rfl,HA,HK1,⟨m1,rfl⟩⟩:=hrel
  cases gk with
 |zero => exact absurd HA.out (by simp [calxref08_half.l0])
 |succ k1 =>
   have H:=HA.out
   clear HA
   simp only [calxref08_half.l0] at H
   by_cases c2 : (wrap64 (x3_1 * 2)) < a0
   ·rw [if_pos c2] at H
    have c2b0 : decide ((wrap64 (x3_1 * 2)) < a0) = true:=decide_eq_true c2
    clear c2
    have H':=am H
    clear H
    go_wp2
    go_roundg k1
    case measure => have:=HK1.out;omega
    case rel => exact ⟨(wrap64 (x3_1 * 2)),ve,H',⟨by have:=HK1.out;omega⟩,by repeat (first|exact Drawn0.refl _|apply Drawn0.step)⟩
   ·rw [if_neg c2] at H
    have c2b0 : decide ((wrap64 (x3_1 * 2)) < a0) = false:=decide_eq_false c2
    clear c2
    obtain rfl:=Option.some.inj H
    go_wp2
    go_ret
    exact ⟨ve,by repeat (first|exact Drawn0.refl _|apply Drawn0.step)⟩
theorem ref_dig_from {l : List Int} (hl : l.length ≤ 100) : ∀ (d k i : Nat) (x : Int),i + d = l.length → d < k → calxref08_digest.l0 k l x (i : Int) = some ((l.drop i).foldl digStep x):=by
 intro d
 induction d with
|zero =>
  intro k i x hi hk
  obtain ⟨k,rfl⟩ : ∃ m,k = m + 1:=⟨k - 1,by omega⟩
  simp only [calxref08_digest.l0]
  rw [if_neg (by omega),List.drop_eq_nil_of_le (by omega)]
  rfl
|succ d ih =>
  intro k i x hi hk
  obtain ⟨k,rfl⟩ : ∃ m,k = m + 1:=⟨k - 1,by omega⟩
  have h1 : i < l.length:=by omega
  have hrd : rd l (i : Int) = l[i]:=by unfold rd;simp [List.getD_eq_getElem?_getD,List.getElem?_eq_getElem h1]
  have hw : wrap64 ((i : Int) + 1) = ((i + 1 : Nat) : Int):=by unfold wrap64;omega
  simp only [calxref08_digest.l0]
  rw [if_pos (by omega),if_pos (by omega),hrd,hw,ih k (i + 1) _ (by omega) (by omega),List.drop_eq_getElem_cons h1]
  rfl
theorem ref_dig {l : List Int} {k : Nat} (hl : l.length ≤ 100) (hk : l.length < k) : calxref08_digest.f k l = some (dig l):=by
 unfold calxref08_digest.f dig
 have:=ref_dig_from hl l.length k 0 1 (by omega) hk
 simpa using this
theorem ref_leaf10 (x : S29) : calxref08_leaf.f 10 x.f0 x.f1 x.f2 x.f3 = some (leafP x):=by
 unfold calxref08_leaf.f calxref08_parts.f
 simp only [Option.bind_some]
 rw [ref_dig (by simp) (by simp)]
 rfl
theorem ref_node10 (a b c : Int) : calxref08_node.f 10 a b c = some (dig [1,a,b,c]):=by
 unfold calxref08_node.f
 rw [ref_dig (by simp) (by simp)]
 rfl
theorem ref_half_some {n : Nat} (h : n ≤ 64) : calxref08_half.f 10 (n : Int) = some (halfP n : Int):=by
 have : ∀ m : Fin 65,calxref08_half.f 10 (m.val : Int) = some (halfP m.val : Int):=by decide +kernel
 exact this ⟨n,by omega⟩
def R106_6.T : Bool × List (List Nat × List Nat):=(true,[([],[]),([0],[0]),([],[]),([],[]),([2,3],[2,3]),([4],[4]),([],[]),([],[]),([6,7],[6,7]),([8,5],[8]),([1,5,9,9],[1,5,9]),([10,10,0,1,2,3,4,5,6,7,8,9,10],[10])])
def R106_6.B : List Nat:=[0,1,0,0,12,28,0,0,192,508,1023,2047]
theorem R106_6.tab : rtab .any (opsOf Try.f106 6) = R106_6.T:=by kernel_rfl
theorem R106_6.bits : waitsOk R106_6.T.2 R106_6.B = true:=by kernel_rfl
set_option maxHeartbeats 2000000 in
set_option maxRecDepth 100000 in
theorem ref_root_calls : ∀ (n : Nat) (l0 : List S29) (A0 : Option Addr) (c0 : Nat) (w : World),l0.length ≤ n → l0.length ≤ 64 → Kd.C k29 w A0 l0.length l0 → l0.length ≤ c0 →
  Calls Try.prog 106 #[.slice A0 l0.length c0] w fun e w' => e = .returned (.int .i64 (rootP l0)) ∧ Below w.heap.size w w':=by
 intro n
 induction n using Nat.strongRecOn with
|_ n ih =>
 intro l0 A0 c0 w hn h64 hr0 hc0
 have HR0:=am hr0
 have HC0:=am hc0
 have H64:=am h64
 clear hr0 hc0
 by_cases h0 : l0.length = 0
 ·obtain rfl : l0 = []:=List.eq_nil_of_length_eq_zero h0
  clear h0
  go_enter Try.func106,Try.ntmps106
  go_wp2_with (go_at_call 98;refine (calxref08_digest.calls 10 _ _ [2] _ _ (C_intsBlock [2] (blk_new' _ _ _ rfl) (by decide)) (by decide) (show calxref08_digest.f 10 [2] = some (dig [2]) by kernel_rfl)).mono ?_;rintro e w' ⟨rfl,nq,rfl⟩)
  go_ret
  exact ⟨rfl,pw_below_drewN (below_alloc (Below.refl _ _) _) nq⟩
 by_cases h1 : l0.length = 1
 ·obtain ⟨x,rfl⟩ : ∃ x,l0 = [x]:=by
   match l0,h1 with
  |[x],_ => exact ⟨x,rfl⟩
  clear h0 h1
  obtain ⟨ad,e,hx0,hx1,hx2,hx3⟩:=at_T29 HR0.out 0 (by omega) (by simp)
  cases e
  simp only [show rd_T29 [x] 0 = x from rfl,show ad.add (Int.toNat 0 * 4) = ad by simp [Addr.add]] at hx0 hx1 hx2 hx3
  go_enter Try.func106,Try.ntmps106
  go_wp2_with (go_at_call 102;refine (calxref08_leaf.calls 10 _ _ _ _ _ _ (ref_leaf10 x)).mono ?_;rintro e w' ⟨rfl,hb⟩;have HB:=am hb;clear hb)
  go_ret
  exact ⟨rfl,HB.out⟩
 ·have hb:=halfP_bounds (n:=l0.length) (by omega) h64
  have HF:=am (ref_half_some h64)
  have HP:=am (rootP_cut l0 (by omega) h64)
  obtain ⟨i0,hi,_,hsz,_⟩:=info_parts info29
  have hcut2:=cut_from (P:=Try.prog) 32 29 .i64 Try.underlying32 hi 4 hsz A0 l0.length c0 (halfP l0.length : Int) (by omega) (by omega)
  have HR1:=am (Kd.C_take (m:=halfP l0.length) HR0.out (by omega))
  have HR2:=am (Kd.C_drop (m:=halfP l0.length) (c:=c0) HR0.out (by omega) HC0.out)
  have g0 : (l0.length == 0) = false:=by simpa using h0
  have g1 : (l0.length == 1) = false:=by simpa using h1
  have g2 : ((l0.length : Int) == 0) = false:=by simpa using h0
  have g3 : ((l0.length : Int) == 1) = false:=by simp;omega
  clear h0 h1
  obtain ⟨y1,hy1⟩ : ∃ y1,y1 = l0.take (halfP l0.length):=⟨_,rfl⟩
  obtain ⟨y2,hy2⟩ : ∃ y2,y2 = l0.drop (halfP l0.length):=⟨_,rfl⟩
  obtain ⟨A2,hA2⟩ : ∃ A2,A2 = (if c0 = (halfP l0.length : Int).toNat then A0 else (A0 : Option Addr).map (·.add ((halfP l0.length : Int).toNat * 4))):=⟨_,rfl⟩
  obtain ⟨c2,hc2⟩ : ∃ c2,c2 = c0 - (halfP l0.length : Int).toNat:=⟨_,rfl⟩
  have e1 : y1.length = halfP l0.length:=by rw [hy1,List.length_take];omega
  have e2 : y2.length = l0.length - (halfP l0.length : Int).toNat:=by rw [hy2,List.length_drop];omega
  have e2' : y2.length = l0.length - halfP l0.length:=by rw [hy2,List.length_drop]
  have HC2:=am (show y2.length ≤ c2 by have:=HC0.out;omega)
  have HC1:=am (show y1.length ≤ c0 by have:=HC0.out;omega)
  have hle1 : halfP l0.length ≤ c0:=by have:=HC0.out;omega
  clear hi hsz
  rw [← hA2,← hc2,← e2] at hcut2
  have hr1:=HR1.out
  have hr2:=HR2.out
  rw [← hy1] at hr1
  rw [← hy2,show (if c0 = halfP l0.length then A0 else Option.map (fun x => x.add (halfP l0.length * k29.sz)) A0) = A2 from hA2.symm ▸ rfl] at hr2
  clear HR1 HR2
  have HR1:=am hr1
  have HR2:=am hr2
  clear hr1 hr2 hA2 hc2
  have HY:=am (show rootP l0 = dig [1,(l0.length : Int),rootP y1,rootP y2] by rw [hy1,hy2];exact HP.out)
  have E1:=am e1
  have E2:=am e2'
  clear hy1 hy2 e1 e2 e2'
  go_enter Try.func106,Try.ntmps106
  go_wp2_with (go_at_call 136;refine (calxref08_half.calls 10 _ _ _ HF.out).mono ?_;rintro e w' ⟨rfl,nq,rfl⟩)
  have HR1':=am (Kd.C_drew (Kd.C_drewN HR1.out nq))
  have HR2':=am (Kd.C_drew (Kd.C_drewN HR2.out nq))
  have HB:=am (below_drew1 (pw_below_drewN (Below.refl w.heap.size w) nq))
  refine start_ (n:=12) (S:=fun w' => True) (ds:=[]) #[false,false,false,false,false,false,false,false,false,false,false,false] kr rfl rfl trivial (fun hHeld => ?_);refine with_tabW R106_6.tab R106_6.bits (fun HT_ HW_ => ?_)
  generalize (w.drewN nq).drew = wd at HR1' HR2' HB hHeld ⊢
  refine pure_ (i:=0) (N:=(some 19)) (v:=?_) (a':=?_) #[true,false,false,false,false,false,false,false,false,false,false,false] rfl rfl (any_of HT_.out kr) (fun _ _ _ h => h) (Or.inl ⟨by rfl,?_⟩) ?_ ?_
  rotate_left
  ·intro w'
   go_simp
   with_reducible rfl
  rotate_left
  ·exact vs
  refine pure_ (i:=1) (N:=(some 20)) (v:=?_) (a':=?_) #[true,true,false,false,false,false,false,false,false,false,false,false] rfl rfl (any_of HT_.out kr) (fun _ _ _ h => h) (Or.inl ⟨by rfl,?_⟩) ?_ ?_
  rotate_left
  ·intro w'
   go_simp
   with_reducible rfl
  rotate_left
  ·exact vs
  refine pure_ (i:=2) (N:=(some 21)) (v:=?_) (a':=?_) #[true,true,true,false,false,false,false,false,false,false,false,false] rfl rfl (any_of HT_.out kr) (fun _ _ _ h => h) (Or.inl ⟨by rfl,?_⟩) ?_ ?_
  rotate_left
  ·intro w'
   go_simp
   with_reducible rfl
  rotate_left
  ·exact vs
  refine pure_ (i:=3) (N:=(some 22)) (v:=?_) (a':=?_) #[true,true,true,true,false,false,false,false,false,false,false,false] rfl rfl (any_of HT_.out kr) (fun _ _ _ h => h) (Or.inl ⟨by rfl,?_⟩) ?_ ?_
  rotate_left
  ·intro w'
   go_simp
   with_reducible rfl
  rotate_left
  ·exact vs
  refine pure_ (i:=4) (N:=(some 23)) (v:=?_) (a':=?_) #[true,true,true,true,true,false,false,false,false,false,false,false] rfl rfl (any_of HT_.out kr) (fun _ _ _ h => h) (Or.inl ⟨by rfl,?_⟩) ?_ ?_
  rotate_left
  ·intro w'
   go_simp
   with_reducible rfl
  rotate_left
  ·exact vs
  refine pure_ (i:=6) (N:=(some 25)) (v:=?_) (a':=?_) #[true,true,true,true,true,false,true,false,false,false,false,false] rfl rfl (any_of HT_.out kr) (fun _ _ _ h => h) (Or.inl ⟨by rfl,?_⟩) ?_ ?_
  rotate_left
  ·intro w'
   go_simp
   with_reducible rfl
  rotate_left
  ·exact vs
  refine pure_ (i:=7) (N:=(some 26)) (v:=?_) (a':=?_) #[true,true,true,true,true,false,true,true,false,false,false,false] rfl rfl (any_of HT_.out kr) (fun _ _ _ h => h) (Or.inl ⟨by rfl,?_⟩) ?_ ?_
  rotate_left
  ·intro w'
   go_simp
   with_reducible rfl
  rotate_left
  ·exact vs
  refine pure_ (i:=8) (N:=(some 27)) (v:=?_) (a':=?_) #[true,true,true,true,true,false,true,true,true,false,false,false] rfl rfl (any_of HT_.out kr) (fun _ _ _ h => h) (Or.inl ⟨by rfl,?_⟩) ?_ ?_
  rotate_left
  ·intro w'
   go_simp
   with_reducible rfl
  rotate_left
  ·exact vs
  refine one_ (i:=5) (N:=(some 24)) #[true,true,true,true,true,true,true,true,true,false,false,false] rfl rfl (one_of HT_.out kr) (by decide) (fun K hK => ?_)
  refine goes_ Try.func106 kr rfl #[.slice A0 (halfP l0.length) c0] (by rfl) rfl rfl (by (try simp only [List.map_toArray,List.map_cons,List.map_nil]);first|done|rfl|(simp only [List.length_drop,List.length_take];rfl)) ?_
  rw [show halfP l0.length = y1.length from E1.out.symm]
  refine (ih (halfP l0.length) (by have:=hb;omega) y1 _ _ _ (by have:=E1.out;omega) (by have:=E1.out;omega) ?c3 HC1.out).mono ?_
  (case c3 => exact HR1'.out)
  rintro e w1 ⟨rfl,hb1⟩
  have HR2'':=am (Kd.C_below HR2'.out hb1)
  have HB1:=am (below_then HB.out (below_size HB.out) hb1)
  clear hb1
  refine ⟨_,rfl,?_⟩
  refine hK.out _ _ trivial (fun hHeld => ?_)
  clear hK K
  refine norm_ (a':=?_) ?_ ?_
  rotate_left
  ·show Act.put _ (some 24) _ = _
   simp only [Act.put,List.setIfInBounds_toArray,List.set_cons_zero,List.set_cons_succ,i64_w,i32_w]
   rfl
  refine one_ (i:=9) (N:=(some 28)) #[true,true,true,true,true,true,true,true,true,true,false,false] rfl rfl (one_of HT_.out kr) (by decide) (fun K hK => ?_)
  refine goes_ Try.func106 kr rfl #[.slice A2 y2.length c2] (by rfl) rfl rfl (by (try simp only [List.map_toArray,List.map_cons,List.map_nil]);first|done|rfl|(simp only [List.length_drop,List.length_take];rfl)) ?_
  refine (ih (l0.length - halfP l0.length) (by have:=hb;omega) y2 _ _ _ (by have:=E2.out;omega) (by have:=E2.out;omega) ?c3 HC2.out).mono ?_
  (case c3 => exact HR2''.out)
  rintro e w2 ⟨rfl,hb2⟩
  have HB2:=am (below_then HB1.out (below_size HB1.out) hb2)
  clear hb2
  refine ⟨_,rfl,?_⟩
  refine hK.out _ _ trivial (fun hHeld => ?_)
  clear hK K
  refine norm_ (a':=?_) ?_ ?_
  rotate_left
  ·show Act.put _ (some 28) _ = _
   simp only [Act.put,List.setIfInBounds_toArray,List.set_cons_zero,List.set_cons_succ,i64_w,i32_w]
   rfl
  refine one_ (i:=10) (N:=(some 29)) #[true,true,true,true,true,true,true,true,true,true,true,false] rfl rfl (one_of HT_.out kr) (by decide) (fun K hK => ?_)
  refine goes_ Try.func105 kr rfl #[.int .i64 (l0.length : Int),.int .i64 (rootP y1),.int .i64 (rootP y2)] (by rfl) rfl rfl (by (try simp only [List.map_toArray,List.map_cons,List.map_nil]);first|done|rfl|(simp only [List.length_drop,List.length_take];rfl)) ?_
  refine (calxref08_node.calls 10 _ _ _ _ _ (ref_node10 _ _ _)).mono ?_
  rintro e w3 ⟨rfl,hb3⟩
  have HB3:=am (below_then HB2.out (below_size HB2.out) hb3)
  clear hb3
  refine ⟨_,rfl,?_⟩
  refine hK.out _ _ trivial (fun hHeld => ?_)
  clear hK K
  refine norm_ (a':=?_) ?_ ?_
  rotate_left
  ·show Act.put _ (some 29) _ = _
   simp only [Act.put,List.setIfInBounds_toArray,List.set_cons_zero,List.set_cons_succ,i64_w,i32_w]
   rfl
  refine pure_ (i:=11) (N:=(some 2)) (v:=?_) (a':=?_) #[true,true,true,true,true,true,true,true,true,true,true,true] rfl rfl (any_of HT_.out kr) (fun _ _ _ h => h) (Or.inl ⟨by rfl,?_⟩) ?_ ?_
  rotate_left
  ·intro w'
   go_simp
   with_reducible rfl
  rotate_left
  ·exact vs
  refine done_ (done_of HT_.out kr) ?_
  go_wp2
  go_ret
  exact ⟨by rw [HY.out];rfl,HB3.out⟩
def calxref08_root.f (l0 : List S29) : Option Int:=if l0.length ≤ 64 then some (rootP l0) else none
theorem calxref08_root.calls (A0 : Option Addr) (c0 : Nat) (l0 : List S29) (r : Int) (w : World) (hr0 : Kd.C k29 w A0 l0.length l0) (hc0 : l0.length ≤ c0) (h : calxref08_root.f l0 = some r) :
  Calls Try.prog 106 #[.slice A0 l0.length c0] w fun e w' => e = .returned (.int .i64 r) ∧ Below w.heap.size w w':=by
 unfold calxref08_root.f at h
 split at h
 ·obtain rfl:=Option.some.inj h
  exact ref_root_calls _ l0 A0 c0 w (Nat.le_refl _) (by assumption) hr0 hc0
 ·cases h
theorem eqA129 (d : Nat) (w : World) (x0 y0 : Int) (x1 y1 : Int) (x2 y2 : Int) :
  (Op.equalIn (d + 2) 129 (.agg #[.int .i64 x0,.int .i64 x1,.int .i64 x2]) (.agg #[.int .i64 y0,.int .i64 y1,.int .i64 y2])).run Try.prog w = .ok (x0 == y0 && (x1 == y1 && (x2 == y2))) w:=by
 refine eqA_of Try.underlying129 kr ?_
 refine eqf_cons (by rfl) (by go_simp;rfl) (by go_simp;rfl) (by go_simp) ?_
 refine eqf_cons (by rfl) (by go_simp;rfl) (by go_simp;rfl) (by go_simp) ?_
 exact eqf_last (by rfl) (by go_simp;rfl) (by go_simp;rfl) (by go_simp)
section
attribute [local go_sem high] eqA129
def calxref08_SameTwigs.l0 : Nat → List (S129) → List (S129) → Int → Option (Bool)
|0,_,_,_ => none
|k + 1,x0,x1,x5 => if x5 < (x0.length : Int) then (if 0 ≤ x5 then (if x5 < (x1.length : Int) then (if (!(((rd_T129 x0 x5).f0) == ((rd_T129 x1 x5).f0)) || (!(((rd_T129 x0 x5).f1) == ((rd_T129 x1 x5).f1)) || (!(((rd_T129 x0 x5).f2) == ((rd_T129 x1 x5).f2))))) = true then (some false) else (calxref08_SameTwigs.l0 k x0 x1 (wrap64 (x5 + 1)))) else (none)) else (none)) else (some true)
def calxref08_SameTwigs.f (k : Nat) (l0 : List (S129)) (l1 : List (S129)) : Option (Bool):=if (l0.length : Int) = (l1.length : Int) then (calxref08_SameTwigs.l0 k l0 l1 0) else (some false)
theorem calxref08_SameTwigs.mono_l : ∀ k,(∀ y0 y1 y2,LeO (calxref08_SameTwigs.l0 k y0 y1 y2) (calxref08_SameTwigs.l0 (k + 1) y0 y1 y2))
|0 => fun _ _ _ r h => by simp [calxref08_SameTwigs.l0] at h
|k + 1 => by
  have ih0:=calxref08_SameTwigs.mono_l k
  ·intro y0 y1 y2
   unfold calxref08_SameTwigs.l0
   repeat' first
  |(with_reducible exact ih0 _ _ _)
  |(with_reducible exact LeO.refl _)
  |(with_reducible exact LeO.none _)
  |(with_reducible refine LeO.ite ?_ ?_)
  |(with_reducible refine LeO.bind ?_ (fun _ => ?_))
  |exact ih0 _ _ _
  |exact LeO.none _
  |refine LeO.ite ?_ ?_
  |refine LeO.bind ?_ (fun _ => ?_)
theorem calxref08_SameTwigs.mono : ∀ a0 a1 k,LeO (calxref08_SameTwigs.f k a0 a1) (calxref08_SameTwigs.f (k + 1) a0 a1):=by
 intro a0 a1 k
 have ih0:=calxref08_SameTwigs.mono_l k
 unfold calxref08_SameTwigs.f
 repeat' first
  |(with_reducible exact ih0 _ _ _)
  |(with_reducible exact LeO.refl _)
  |(with_reducible exact LeO.none _)
  |(with_reducible refine LeO.ite ?_ ?_)
  |(with_reducible refine LeO.bind ?_ (fun _ => ?_))
  |exact ih0 _ _ _
  |exact LeO.none _
  |refine LeO.ite ?_ ?_
  |refine LeO.bind ?_ (fun _ => ?_)
set_option maxHeartbeats 8000000 in
set_option maxRecDepth 100000 in
theorem calxref08_SameTwigs.calls (k : Nat) (A0 : Option Addr) (c0 : Nat) (l0 : List (S129)) (A1 : Option Addr) (c1 : Nat) (l1 : List (S129)) (r : Bool) (w : World) (hr0 : Kd.C k129 w A0 l0.length l0) (hc0 : l0.length ≤ c0) (hr1 : Kd.C k129 w A1 l1.length l1) (hc1 : l1.length ≤ c1) (h : calxref08_SameTwigs.f k l0 l1 = some r) :
  Calls Try.prog 70 #[.slice A0 l0.length c0,.slice A1 l1.length c1] w fun e w' => e = .returned (.bool r) ∧ Drawn0 w w':=by
 have hu129:=Try.underlying129
 have HR0:=am hr0
 have HC0:=am hc0
 clear hr0 hc0
 have HR1:=am hr1
 have HC1:=am hc1
 clear hr1 hc1
 have H : (if (l0.length : Int) = (l1.length : Int) then (calxref08_SameTwigs.l0 k l0 l1 0) else (some false)) = some r:=h
 clear h
 by_cases c3 : (l0.length : Int) = (l1.length : Int)
 ·rw [if_pos c3] at H
  have c3b0 : ((l0.length : Int) == (l1.length : Int)) = true:=beq_iff_eq.mpr c3
  have c3b1 : ((l0.length : Int) != (l1.length : Int)) = false:=bne_eq_false_iff_eq.mpr c3
  have c3b2 : (l0.length == l1.length) = true:=by first|simpa using c3|(simp at c3 ⊢;omega)
  clear c3
  have H':=am H
  clear H
  go_enter Try.func70,Try.ntmps70
  go_wp2
  repeat (go_quiet (fail);try go_wp2)
  go_loopg [5] k (fun kq v5 w' => ∃ (x5_1 : Int),v5 = .int .i64 x5_1 ∧ Aside0 (calxref08_SameTwigs.l0 kq l0 l1 x5_1 = some r) ∧ Aside0 (kq ≤ k) ∧ Drawn0 w w')
  case atStart => exact ⟨(0),ve,H',⟨Nat.le_refl _⟩,by repeat (first|exact Drawn0.refl _|apply Drawn0.step)⟩
  case round =>
   clear H'
   try clear c1
   try clear p2
   try clear c3
   try clear c3b0
   try clear c3b1
   try clear c3b2
   obtain ⟨x5_1,rfl,HA,HK1,⟨m1,rfl⟩⟩:=hrel
   cases gk with
  |zero => exact absurd HA.out (by simp [calxref08_SameTwigs.l0])
  |succ k1 =>
    have H:=HA.out
    clear HA
    simp only [calxref08_SameTwigs.l0] at H
    by_cases c4 : x5_1 < (l0.length : Int)
    ·rw [if_pos c4] at H
     have c4b0 : decide (x5_1 < (l0.length : Int)) = true:=decide_eq_true c4
     clear c4
     by_cases c5 : 0 ≤ x5_1
     ·rw [if_pos c5] at H
      have c5b0 : decide (0 ≤ x5_1) = true:=decide_eq_true c5
      clear c5
      by_cases c6 : x5_1 < (l1.length : Int)
      ·rw [if_pos c6] at H
       have c6b0 : decide (x5_1 < (l1.length : Int)) = true:=decide_eq_true c6
       clear c6
       by_cases c7 : (!(((rd_T129 l0 x5_1).f0) == ((rd_T129 l1 x5_1).f0)) || (!(((rd_T129 l0 x5_1).f1) == ((rd_T129 l1 x5_1).f1)) || (!(((rd_T129 l0 x5_1).f2) == ((rd_T129 l1 x5_1).f2))))) = true
       ·rw [if_pos c7] at H
        have c7b0 : (!(((rd_T129 l0 x5_1).f0) == ((rd_T129 l1 x5_1).f0)) || (!(((rd_T129 l0 x5_1).f1) == ((rd_T129 l1 x5_1).f1)) || (!(((rd_T129 l0 x5_1).f2) == ((rd_T129 l1 x5_1).f2))))) = true:=c7
        clear c7
        obtain rfl:=Option.some.inj H
        have p101 : 0 ≤ (x5_1 : Int):=of_decide_eq_true va
        have q101 : x5_1 < (l0.length : Int):=of_decide_eq_true va
        obtain ⟨ad101,e101,hx101_0,hx101_1,hx101_2⟩:=at_T129 HR0.out x5_1 p101 q101
        cases e101
        replace p101:=eq_true p101
        replace q101:=eq_true q101
        have p102 : 0 ≤ (x5_1 : Int):=of_decide_eq_true va
        have q102 : x5_1 < (l1.length : Int):=of_decide_eq_true va
        obtain ⟨ad102,e102,hx102_0,hx102_1,hx102_2⟩:=at_T129 HR1.out x5_1 p102 q102
        cases e102
        replace p102:=eq_true p102
        replace q102:=eq_true q102
        go_wp2
        repeat (go_quiet (fail);try go_wp2)
        go_ret
        exact ⟨ve,by repeat (first|exact Drawn0.refl _|apply Drawn0.step)⟩
       ·rw [if_neg c7] at H
        have c7b0 : (!(((rd_T129 l0 x5_1).f0) == ((rd_T129 l1 x5_1).f0)) || (!(((rd_T129 l0 x5_1).f1) == ((rd_T129 l1 x5_1).f1)) || (!(((rd_T129 l0 x5_1).f2) == ((rd_T129 l1 x5_1).f2))))) = false:=by simpa using c7
        clear c7
        have H':=am H
        clear H
        have p101 : 0 ≤ (x5_1 : Int):=of_decide_eq_true va
        have q101 : x5_1 < (l0.length : Int):=of_decide_eq_true va
        obtain ⟨ad101,e101,hx101_0,hx101_1,hx101_2⟩:=at_T129 HR0.out x5_1 p101 q101
        cases e101
        replace p101:=eq_true p101
        replace q101:=eq_true q101
        have p102 : 0 ≤ (x5_1 : Int):=of_decide_eq_true va
        have q102 : x5_1 < (l1.length : Int):=of_decide_eq_true va
        obtain ⟨ad102,e102,hx102_0,hx102_1,hx102_2⟩:=at_T129 HR1.out x5_1 p102 q102
        cases e102
        replace p102:=eq_true p102
        replace q102:=eq_true q102
        go_wp2
        repeat (go_quiet (fail);try go_wp2)
        go_roundg k1
        case measure => have:=HK1.out;omega
        case rel => exact ⟨(wrap64 (x5_1 + 1)),ve,H',⟨by have:=HK1.out;omega⟩,by repeat (first|exact Drawn0.refl _|apply Drawn0.step)⟩
      ·rw [if_neg c6] at H
       exact absurd H (by simp)
     ·rw [if_neg c5] at H
      exact absurd H (by simp)
    ·rw [if_neg c4] at H
     have c4b0 : decide (x5_1 < (l0.length : Int)) = false:=decide_eq_false c4
     clear c4
     obtain rfl:=Option.some.inj H
     go_wp2
     repeat (go_quiet (fail);try go_wp2)
     go_ret
     exact ⟨ve,by repeat (first|exact Drawn0.refl _|apply Drawn0.step)⟩
 ·rw [if_neg c3] at H
  have c3b0 : ((l0.length : Int) == (l1.length : Int)) = false:=beq_eq_false_iff_ne.mpr c3
  have c3b1 : ((l0.length : Int) != (l1.length : Int)) = true:=bne_iff_ne.mpr c3
  have c3b2 : (l0.length == l1.length) = false:=by first|simpa using c3|(simp at c3 ⊢;omega)
  obtain rfl:=Option.some.inj H
  go_enter Try.func70,Try.ntmps70
  go_wp2
  repeat (go_quiet (fail);try go_wp2)
  go_ret
  exact ⟨ve,by repeat (first|exact Drawn0.refl _|apply Drawn0.step)⟩
end
def calxref08_twig.f (l0 : List (S29)) (a1 : Int) (a2 : Int) : Option (Int × Int × Int):=if (wrap64 (a1 + a2)) > (l0.length : Int) then (some (a1,a2,0)) else (if 0 ≤ a1 then (if a1 ≤ (wrap64 (a1 + a2)) then (if (wrap64 (a1 + a2)) ≤ (l0.length : Int) then ((calxref08_root.f ((l0.take ((wrap64 (a1 + a2)) : Int).toNat).drop (a1 : Int).toNat)).bind fun t106 => (some (a1,a2,t106))) else (none)) else (none)) else (none))
set_option maxHeartbeats 8000000 in
set_option maxRecDepth 100000 in
theorem calxref08_twig.calls (A0 : Option Addr) (c0 : Nat) (l0 : List (S29)) (a1 : Int) (a2 : Int) (r1 : Int) (r2 : Int) (r3 : Int) (w : World) (hr0 : Kd.C k29 w A0 l0.length l0) (hc0 : l0.length ≤ c0) (h : calxref08_twig.f l0 a1 a2 = some (r1,r2,r3)) :
  Calls Try.prog 169 #[.slice A0 l0.length c0,.int .i64 a1,.int .i64 a2] w fun e w' => e = .returned (.agg #[.int .i64 r1,.int .i64 r2,.int .i64 r3]) ∧ Below w.heap.size w w':=by
 have hu129:=Try.underlying129
 have HR0:=am hr0
 have HC0:=am hc0
 clear hr0 hc0
 have HB:=am (Below.refl w.heap.size w)
 have H : (if (wrap64 (a1 + a2)) > (l0.length : Int) then (some (a1,a2,0)) else (if 0 ≤ a1 then (if a1 ≤ (wrap64 (a1 + a2)) then (if (wrap64 (a1 + a2)) ≤ (l0.length : Int) then ((calxref08_root.f ((l0.take ((wrap64 (a1 + a2)) : Int).toNat).drop (a1 : Int).toNat)).bind fun t106 => (some (a1,a2,t106))) else (none)) else (none)) else (none))) = some (r1,r2,r3):=h
 clear h
 by_cases c4 : (wrap64 (a1 + a2)) > (l0.length : Int)
 ·rw [if_pos c4] at H
  have c4b0 : decide ((l0.length : Int) < (wrap64 (a1 + a2))) = true:=decide_eq_true c4
  clear c4
  simp only [Option.some.injEq,Prod.mk.injEq] at H
  obtain ⟨rfl,rfl,rfl⟩:=H
  go_enter Try.func169,Try.ntmps169
  go_wp2_with (first|((with_reducible refine gate_dst (N:=6) rfl ?_);refine box_event ?hg (N:=6) ?hd (cs:=#[.int .i64 0,.int .i64 0,.int .i64 0]) (t:=129) ?hr ?_;(case hd => rfl);(case hg => rfl);(case hr => first|(go_simp;done)|(go_simp;rfl));intro gb101 hg w5 hbox hb;have n0_:=am (below_step (v0 HB.out) hb);have n1_:=am (hbox);have n2_:=am ((by rw [hg];exact (below_size (v0 HB.out)) : w.heap.size ≤ gb101));have n3_:=am ((by rw [hg];exact (below_size (v0 HB.out)) : w.heap.size ≤ gb101));clear HB;have HB:=n0_;have BK101:=n1_;have GW101:=n2_;have GE101:=n3_;clear n0_ n1_ n2_ n3_;clear hb hbox hg;have hcz6_0 : w5.cell? ⟨gb101,0,none⟩ = some (.int .i64 0):=(blk_cell BK101.out 0).trans rfl;have hcz6_1 : w5.cell? ⟨gb101,1,none⟩ = some (.int .i64 0):=(blk_cell BK101.out 1).trans rfl;have hcz6_2 : w5.cell? ⟨gb101,2,none⟩ = some (.int .i64 0):=(blk_cell BK101.out 2).trans rfl;have hfz6_0:=blk_frozen BK101.out 0;have hfz6_1:=blk_frozen BK101.out 1;have hfz6_2:=blk_frozen BK101.out 2))
  refine bodyPost_ret (results_cell_row rfl _ _ gb101 129 #[.int .i64 a1,.int .i64 a2,.int .i64 0] (0,0) _ rfl (by (with_reducible repeat (first|refine blk_drewN ?_ _|refine blk_drew ?_|refine blk_alloc ?_ _));refine blk_put (cs:=#[.int .i64 a1,.int .i64 a2,.int .i64 0]) ?_ 2 _ rfl;(with_reducible repeat (first|refine blk_drewN ?_ _|refine blk_drew ?_|refine blk_alloc ?_ _));refine blk_put (cs:=#[.int .i64 a1,.int .i64 0,.int .i64 0]) ?_ 1 _ rfl;(with_reducible repeat (first|refine blk_drewN ?_ _|refine blk_drew ?_|refine blk_alloc ?_ _));refine blk_put (cs:=#[.int .i64 0,.int .i64 0,.int .i64 0]) ?_ 0 _ rfl;(with_reducible repeat (first|refine blk_drewN ?_ _|refine blk_drew ?_|refine blk_alloc ?_ _));exact BK101.out) Try.underlying129 rfl kr) rfl ?_
  exact ⟨vf,v1 HB.out GE101.out⟩
 ·rw [if_neg c4] at H
  have c4b0 : decide ((l0.length : Int) < (wrap64 (a1 + a2))) = false:=decide_eq_false c4
  clear c4
  by_cases c7 : 0 ≤ a1
  ·rw [if_pos c7] at H
   have c7b0:=eq_true c7
   have c7b1 : decide (0 ≤ a1) = true:=decide_eq_true c7
   clear c7
   by_cases c8 : a1 ≤ (wrap64 (a1 + a2))
   ·rw [if_pos c8] at H
    have c8b0:=eq_true c8
    have c8b1 : decide (a1 ≤ (wrap64 (a1 + a2))) = true:=decide_eq_true c8
    by_cases c9 : (wrap64 (a1 + a2)) ≤ (l0.length : Int)
    ·rw [if_pos c9] at H
     have c9b0:=eq_true c9
     have c9b1 : decide ((wrap64 (a1 + a2)) ≤ (l0.length : Int)) = true:=decide_eq_true c9
     obtain ⟨y102,hy102⟩ : ∃ y_ : List (S29),y_ = ((l0.take ((wrap64 (a1 + a2)) : Int).toNat).drop (a1 : Int).toNat):=⟨_,rfl⟩
     replace H : ((calxref08_root.f y102).bind fun t106 => (some (a1,a2,t106))) = some (r1,r2,r3):=by first|(rw [hy102];with_reducible exact H)|(have H2_:=(Option.bind_some _ _).symm.trans H;rw [hy102];with_reducible exact H2_)|(have H2_:=(Option.bind_some _ _).symm.trans H;with_reducible exact H2_)|with_reducible exact H|(rw [hy102];exact H)|exact H
     have Ny102:=am hy102
     clear hy102
     replace H:=Option.bind_eq_some_iff.mp H
     obtain ⟨t106,A100,H⟩:=H
     replace H : (some (a1,a2,t106)) = some (r1,r2,r3):=H
     have A10:=am A100
     clear A100
     simp only [Option.some.injEq,Prod.mk.injEq] at H
     obtain ⟨rfl,rfl,rfl⟩:=H
     go_enter Try.func169,Try.ntmps169
     go_wp2_with (first|((with_reducible refine gate_dst (N:=6) rfl ?_);refine box_event ?hg (N:=6) ?hd (cs:=#[.int .i64 0,.int .i64 0,.int .i64 0]) (t:=129) ?hr ?_;(case hd => rfl);(case hg => rfl);(case hr => first|(go_simp;done)|(go_simp;rfl));intro gb101 hg w11 hbox hb;have n0_:=am (below_step (v0 HB.out) hb);have n1_:=am (hbox);have n2_:=am ((by rw [hg];exact (below_size (v0 HB.out)) : w.heap.size ≤ gb101));have n3_:=am ((by rw [hg];exact (below_size (v0 HB.out)) : w.heap.size ≤ gb101));clear HB;have HB:=n0_;have BK101:=n1_;have GW101:=n2_;have GE101:=n3_;clear n0_ n1_ n2_ n3_;clear hb hbox hg;have q12 : ((wrap64 (a1 + a2)) : Int) ≤ ((l0.length : Int) : Int):=of_decide_eq_true va;obtain ⟨i012,hi012,_,hsz12,_⟩:=info_parts info29;have hroom12 : l0.length ≤ c0:=HC0.out;have hC12 : Kd.C k29 _ A0 l0.length l0:=HR0.out;have ql12 : (a1 : Int) ≤ ((wrap64 (a1 + a2)) : Int):=of_decide_eq_true va;have q012 : (0 : Int) ≤ (a1 : Int):=of_decide_eq_true va;have hcut12:=cut_mid (P:=Try.prog) 32 29 .i64 .i64 Try.underlying32 hi012 4 hsz12 A0 l0.length c0 a1 (wrap64 (a1 + a2)) q012 ql12 q12 hroom12;have hr12:=Kd.C_mid (lo:=(a1 : Int).toNat) (hi:=((wrap64 (a1 + a2)) : Int).toNat) (c:=c0) hC12 (by omega) (by omega) hroom12;obtain ⟨A12,hA12⟩ : ∃ A1,A1 = (if c0 = (a1 : Int).toNat then A0 else (A0 : Option Addr).map (·.add ((a1 : Int).toNat * 4))):=⟨_,rfl⟩;obtain ⟨c12,hc12⟩ : ∃ c1,c1 = c0 - (a1 : Int).toNat:=⟨_,rfl⟩;have hy12 : y102.length = ((wrap64 (a1 + a2)) : Int).toNat - (a1 : Int).toNat:=(by rw [Ny102.out,List.length_drop,List.length_take] <;> omega);rw [show ((l0).take ((wrap64 (a1 + a2)) : Int).toNat).drop (a1 : Int).toNat = y102 from Ny102.out.symm] at hr12;replace hr12 : Kd.C k29 _ A12 y102.length y102:=(by rw [hA12];exact hr12);rw [← hy12,← hA12,← hc12] at hcut12;have HR105:=am hr12;have HC105:=am (show y102.length ≤ c12 from by rw [hy12,hc12];exact Nat.sub_le_sub_right (Nat.le_trans (by omega) hroom12) _);clear hr12 hC12 hroom12 hi012 hsz12 hc12;have KY12:=am hy12;have KA12:=am hA12;clear hy12 hA12;replace q12:=eq_true q12)|((with_reducible refine gate_callee (f:=106) rfl ?_);refine goesL_ (some 24) rfl rfl Try.func106 kr rfl #[.slice A12 y102.length c12] rfl (by (try simp only [List.map_toArray,List.map_cons,List.map_nil]);first|done|rfl|(simp only [List.length_drop,List.length_take];rfl)) ?_;(with_reducible refine (calxref08_root.calls _ _ y102 t106 _ ?side1 ?side2 A10.out).mono ?_);(case side1 => repeat (first|exact (Kd.C_below HR105.out HB.out)|(with_reducible refine Kd.C_alloc ?_ _)|(with_reducible refine Kd.C_drewN ?_ _)|(with_reducible refine Kd.C_drew ?_)));(case side2 => exact HC105.out);rintro e w13 ⟨rfl,hb⟩;refine ⟨_,rfl,?_⟩;have n0_:=am (blk_below (g:=gb101) (o:=.cells #[.int .i64 0,.int .i64 0,.int .i64 0] 129 (0,0)) (vb BK101.out) hb);have n1_:=am (below_step (v1 HB.out GE101.out) hb);clear BK101;clear HB;have BK101:=n0_;have HB:=n1_;clear n0_ n1_;(try clear hb);(try clear hb2);(try clear hk);(try clear hi);have hcz14_0 : w13.cell? ⟨gb101,0,none⟩ = some (.int .i64 0):=(blk_cell BK101.out 0).trans rfl;have hcz14_1 : w13.cell? ⟨gb101,1,none⟩ = some (.int .i64 0):=(blk_cell BK101.out 1).trans rfl;have hcz14_2 : w13.cell? ⟨gb101,2,none⟩ = some (.int .i64 0):=(blk_cell BK101.out 2).trans rfl;have hfz14_0:=blk_frozen BK101.out 0;have hfz14_1:=blk_frozen BK101.out 1;have hfz14_2:=blk_frozen BK101.out 2))
     refine bodyPost_ret (results_cell_row rfl _ _ gb101 129 #[.int .i64 a1,.int .i64 a2,.int .i64 t106] (0,0) _ rfl (by (with_reducible repeat (first|refine blk_drewN ?_ _|refine blk_drew ?_|refine blk_alloc ?_ _));refine blk_put (cs:=#[.int .i64 a1,.int .i64 a2,.int .i64 0]) ?_ 2 _ rfl;(with_reducible repeat (first|refine blk_drewN ?_ _|refine blk_drew ?_|refine blk_alloc ?_ _));refine blk_put (cs:=#[.int .i64 a1,.int .i64 0,.int .i64 0]) ?_ 1 _ rfl;(with_reducible repeat (first|refine blk_drewN ?_ _|refine blk_drew ?_|refine blk_alloc ?_ _));refine blk_put (cs:=#[.int .i64 0,.int .i64 0,.int .i64 0]) ?_ 0 _ rfl;(with_reducible repeat (first|refine blk_drewN ?_ _|refine blk_drew ?_|refine blk_alloc ?_ _));exact BK101.out) Try.underlying129 rfl kr) rfl ?_
     exact ⟨vf,v1 HB.out GE101.out⟩
    ·rw [if_neg c9] at H
     exact absurd H (by simp)
   ·rw [if_neg c8] at H
    exact absurd H (by simp)
  ·rw [if_neg c7] at H
   exact absurd H (by simp)
def calxref08_beside.f : Nat → List (S29) → Int → Int → Int → Option ((List (S129)))
|0,_,_,_,_ => none
|k + 1,l0,a1,a2,a3 => if a2 < 2 then (some ([] : List (S129))) else ((calxref08_half.f k a2).bind fun t101 => (if a3 < (wrap64 (a1 + t101)) then ((calxref08_beside.f k l0 a1 t101 a3).bind fun t102 => ((calxref08_twig.f l0 (wrap64 (a1 + t101)) (wrap64 (a2 - t101))).bind fun bt105 => (if t102.length < 5864062014805 then (some (t102 ++ [(⟨bt105.1,bt105.2.1,bt105.2.2⟩ : S129)])) else (none)))) else ((calxref08_beside.f k l0 (wrap64 (a1 + t101)) (wrap64 (a2 - t101)) a3).bind fun t111 => ((calxref08_twig.f l0 a1 t101).bind fun bt114 => (if t111.length < 5864062014805 then (some (t111 ++ [(⟨bt114.1,bt114.2.1,bt114.2.2⟩ : S129)])) else (none))))))
theorem calxref08_beside.mono_l : ∀ k,(∀ y0 y1 y2 y3,LeO (calxref08_beside.f k y0 y1 y2 y3) (calxref08_beside.f (k + 1) y0 y1 y2 y3))
|0 => fun _ _ _ _ r h => by simp [calxref08_beside.f] at h
|k + 1 => by
  have ih0:=calxref08_beside.mono_l k
  ·intro y0 y1 y2 y3
   unfold calxref08_beside.f
   repeat' first
  |(with_reducible exact ih0 _ _ _ _)
  |(with_reducible exact calxref08_half.mono _ _)
  |(with_reducible exact LeO.refl _)
  |(with_reducible exact LeO.none _)
  |(with_reducible refine LeO.ite ?_ ?_)
  |(with_reducible refine LeO.bind ?_ (fun _ => ?_))
  |exact ih0 _ _ _ _
  |exact calxref08_half.mono _ _
  |exact LeO.none _
  |refine LeO.ite ?_ ?_
  |refine LeO.bind ?_ (fun _ => ?_)
theorem calxref08_beside.mono : ∀ a0 a1 a2 a3 k,LeO (calxref08_beside.f k a0 a1 a2 a3) (calxref08_beside.f (k + 1) a0 a1 a2 a3):=by
 intro a0 a1 a2 a3 k
 have ih0:=calxref08_beside.mono_l k
 exact ih0 a0 a1 a2 a3
set_option maxHeartbeats 8000000 in
set_option maxRecDepth 100000 in
theorem calxref08_beside.calls (k : Nat) : ∀ (A0 : Option Addr) (c0 : Nat) (l0 : List (S29)) (a1 : Int) (a2 : Int) (a3 : Int) (r : List (S129)) (w : World) (hr0 : Kd.C k29 w A0 l0.length l0) (hc0 : l0.length ≤ c0) (h : calxref08_beside.f k l0 a1 a2 a3 = some r),
  Calls Try.prog 134 #[.slice A0 l0.length c0,.int .i64 a1,.int .i64 a2,.int .i64 a3] w fun e w' => ∃ v0_ : Value,e = .returned (v0_) ∧ Kd.R k129 129 w' w.heap.size (fun _ => True) v0_ r ∧ Below w.heap.size w w':=by
 induction k using Nat.strongRecOn with
|_ k ih =>
 intro A0 c0 l0 a1 a2 a3 r w hr0 hc0 h
 cases k with
|zero => exact absurd h (by simp [calxref08_beside.f])
|succ k =>
 simp only [calxref08_beside.f] at h
 have HR0:=am hr0
 have HC0:=am hc0
 clear hr0 hc0
 have HB:=am (Below.refl w.heap.size w)
 have H : (if a2 < 2 then (some ([] : List (S129))) else ((calxref08_half.f k a2).bind fun t101 => (if a3 < (wrap64 (a1 + t101)) then ((calxref08_beside.f k l0 a1 t101 a3).bind fun t102 => ((calxref08_twig.f l0 (wrap64 (a1 + t101)) (wrap64 (a2 - t101))).bind fun bt105 => (if t102.length < 5864062014805 then (some (t102 ++ [(⟨bt105.1,bt105.2.1,bt105.2.2⟩ : S129)])) else (none)))) else ((calxref08_beside.f k l0 (wrap64 (a1 + t101)) (wrap64 (a2 - t101)) a3).bind fun t111 => ((calxref08_twig.f l0 a1 t101).bind fun bt114 => (if t111.length < 5864062014805 then (some (t111 ++ [(⟨bt114.1,bt114.2.1,bt114.2.2⟩ : S129)])) else (none))))))) = some r:=h
 clear h
 by_cases c5 : a2 < 2
 ·rw [if_pos c5] at H
  have c5b0 : decide (a2 < 2) = true:=decide_eq_true c5
  clear c5
  obtain rfl:=Option.some.inj H
  go_enter Try.func134,Try.ntmps134
  go_wp2
  go_ret
  exact ⟨_,vf,by first|exact Kd.R_nil _ _ _ _ _|exact Kd.N_nil _ _ _ _ _|exact Kd.V_nil _ _ _ _ _|exact Kd.Q_nil _ _ _ _ _|exact Kd.S_nil _ _ _ _ _,v0 HB.out⟩
 ·rw [if_neg c5] at H
  have c5b0 : decide (a2 < 2) = false:=decide_eq_false c5
  clear c5
  replace H:=Option.bind_eq_some_iff.mp H
  obtain ⟨t101,A60,H⟩:=H
  replace H : (if a3 < (wrap64 (a1 + t101)) then ((calxref08_beside.f k l0 a1 t101 a3).bind fun t102 => ((calxref08_twig.f l0 (wrap64 (a1 + t101)) (wrap64 (a2 - t101))).bind fun bt105 => (if t102.length < 5864062014805 then (some (t102 ++ [(⟨bt105.1,bt105.2.1,bt105.2.2⟩ : S129)])) else (none)))) else ((calxref08_beside.f k l0 (wrap64 (a1 + t101)) (wrap64 (a2 - t101)) a3).bind fun t111 => ((calxref08_twig.f l0 a1 t101).bind fun bt114 => (if t111.length < 5864062014805 then (some (t111 ++ [(⟨bt114.1,bt114.2.1,bt114.2.2⟩ : S129)])) else (none))))) = some r:=H
  have A6:=am A60
  clear A60
  by_cases c7 : a3 < (wrap64 (a1 + t101))
  ·rw [if_pos c7] at H
   have c7b0 : decide (a3 < (wrap64 (a1 + t101))) = true:=decide_eq_true c7
   clear c7
   replace H:=Option.bind_eq_some_iff.mp H
   obtain ⟨t102,A80,H⟩:=H
   replace H : ((calxref08_twig.f l0 (wrap64 (a1 + t101)) (wrap64 (a2 - t101))).bind fun bt105 => (if t102.length < 5864062014805 then (some (t102 ++ [(⟨bt105.1,bt105.2.1,bt105.2.2⟩ : S129)])) else (none))) = some r:=H
   have A8:=am A80
   clear A80
   replace H:=Option.bind_eq_some_iff.mp H
   obtain ⟨⟨t105,t106,t107⟩,A90,H⟩:=H
   replace H : (if t102.length < 5864062014805 then (some (t102 ++ [(⟨t105,t106,t107⟩ : S129)])) else (none)) = some r:=H
   have A9:=am A90
   clear A90
   by_cases c10 : t102.length < 5864062014805
   ·rw [if_pos c10] at H
    have LMc10:=am c10
    clear c10
    obtain ⟨y108,hy108⟩ : ∃ y_ : List (S129),y_ = (t102 ++ [(⟨t105,t106,t107⟩ : S129)]):=⟨_,rfl⟩
    replace H : (some y108) = some r:=by first|(rw [hy108];with_reducible exact H)|(have H2_:=(Option.bind_some _ _).symm.trans H;rw [hy108];with_reducible exact H2_)|(have H2_:=(Option.bind_some _ _).symm.trans H;with_reducible exact H2_)|with_reducible exact H|(rw [hy108];exact H)|exact H
    have Ny108:=am hy108
    clear hy108
    obtain rfl:=Option.some.inj H
    go_enter Try.func134,Try.ntmps134
    go_wp2_with (first|((with_reducible refine gate_callee (f:=136) rfl ?_);refine goesL_ (some 13) rfl rfl Try.func136 kr rfl #[.int .i64 a2] rfl (by (try simp only [List.map_toArray,List.map_cons,List.map_nil]);first|done|rfl|(simp only [List.length_drop,List.length_take];rfl)) ?_;(with_reducible refine (calxref08_half.calls k a2 t101 _ A6.out).mono ?_);rintro e w' ⟨rfl,⟨nd,rfl⟩⟩;refine ⟨_,rfl,?_⟩)|((with_reducible refine gate_callee (f:=134) rfl ?_);refine goesL_ (some 23) rfl rfl Try.func134 kr rfl #[.slice A0 l0.length c0,.int .i64 a1,.int .i64 t101,.int .i64 a3] rfl (by (try simp only [List.map_toArray,List.map_cons,List.map_nil]);first|done|rfl|(simp only [List.length_drop,List.length_take];rfl)) ?_;(with_reducible refine (ih k (by omega) _ _ l0 a1 t101 a3 t102 _ ?side1 ?side2 A8.out).mono ?_);(case side1 => repeat (first|exact HR0.out|(with_reducible refine Kd.C_alloc ?_ _)|(with_reducible refine Kd.C_drewN ?_ _)|(with_reducible refine Kd.C_drew ?_)));(case side2 => exact HC0.out);rintro e w11 ⟨v103,rfl,ho0,hb⟩;refine ⟨_,rfl,?_⟩;have n0_:=am (Kd.R_lower ho0 (below_size (v0 HB.out)));have n1_:=am (below_step (v0 HB.out) hb);clear HB;have HO104:=n0_;have HB:=n1_;clear n0_ n1_;(try clear hb);(try clear hb2);(try clear hk);(try clear hi);(try clear ho0))|((with_reducible refine gate_callee (f:=169) rfl ?_);refine goesL_ (some 31) rfl rfl Try.func169 kr rfl #[.slice A0 l0.length c0,.int .i64 (wrap64 (a1 + t101)),.int .i64 (wrap64 (a2 - t101))] rfl (by (try simp only [List.map_toArray,List.map_cons,List.map_nil]);first|done|rfl|(simp only [List.length_drop,List.length_take];rfl)) ?_;(with_reducible refine (calxref08_twig.calls _ _ l0 (wrap64 (a1 + t101)) (wrap64 (a2 - t101)) t105 t106 t107 _ ?side1 ?side2 A9.out).mono ?_);(case side1 => repeat (first|exact (Kd.C_below HR0.out HB.out)|(with_reducible refine Kd.C_alloc ?_ _)|(with_reducible refine Kd.C_drewN ?_ _)|(with_reducible refine Kd.C_drew ?_)));(case side2 => exact HC0.out);rintro e w12 ⟨rfl,hb⟩;refine ⟨_,rfl,?_⟩;have n0_:=am (Kd.R_below (by (with_reducible repeat (first|apply Kd.R_alloc|apply Kd.R_drewN|apply Kd.R_drew));exact HO104.out) hb);have n1_:=am (below_step (v0 HB.out) hb);clear HO104;clear HB;have HO104:=n0_;have HB:=n1_;clear n0_ n1_;(try clear hb);(try clear hb2);(try clear hk);(try clear hi))|((with_reducible refine gate_builtin (b:=.append) (xs:=#[.tmp 23,.tmp 32]) rfl ?_);at_builtin;refine Kd.R_append k129 (w0:=w) w.heap.size rfl (.tmp 23) (.tmp 32) 77 129 (.agg #[(.int .i64 0),(.int .i64 0),(.int .i64 0)]) 24 rfl Try.underlying77 info129 rfl (by decide) (by omega) v103 t102 (⟨t105,t106,t107⟩ : S129) [.int .i64 t105,.int .i64 t106,.int .i64 t107] (fun _ => True) (fun _ => False) rfl rfl ?aP (fun _ hk => hk.elim) ?aF ?aO ?aB ?aS ?aL ?_;(case aP => exact k129_mkM _ _ _ (⟨t105,t106,t107⟩ : S129));(case aB => exact (v0 HB.out));(case aF => exact (fun _ _ => trivial));(case aO => exact (by (with_reducible repeat (first|apply Kd.R_alloc|apply Kd.R_drewN|apply Kd.R_drew));exact HO104.out));(case aS => exact (below_size (v0 HB.out)));(case aL => have:=LMc10.out;omega);intro v109 w13 ho hb hg hat;rw [← Ny108.out] at ho;have n0_:=am (hb);have n1_:=am (ho);clear HB;clear HO104;have HB:=n0_;have HO110:=n1_;clear n0_ n1_;clear ho hb hg hat))
    go_ret
    exact ⟨_,vf,by (with_reducible repeat (first|apply Kd.R_alloc|apply Kd.R_drewN|apply Kd.R_drew));exact HO110.out,v0 HB.out⟩
   ·rw [if_neg c10] at H
    exact absurd H (by simp)
  ·rw [if_neg c7] at H
   have c7b0 : decide (a3 < (wrap64 (a1 + t101))) = false:=decide_eq_false c7
   clear c7
   replace H:=Option.bind_eq_some_iff.mp H
   obtain ⟨t111,A140,H⟩:=H
   replace H : ((calxref08_twig.f l0 a1 t101).bind fun bt114 => (if t111.length < 5864062014805 then (some (t111 ++ [(⟨bt114.1,bt114.2.1,bt114.2.2⟩ : S129)])) else (none))) = some r:=H
   have A14:=am A140
   clear A140
   replace H:=Option.bind_eq_some_iff.mp H
   obtain ⟨⟨t114,t115,t116⟩,A150,H⟩:=H
   replace H : (if t111.length < 5864062014805 then (some (t111 ++ [(⟨t114,t115,t116⟩ : S129)])) else (none)) = some r:=H
   have A15:=am A150
   clear A150
   by_cases c16 : t111.length < 5864062014805
   ·rw [if_pos c16] at H
    have LMc16:=am c16
    clear c16
    obtain ⟨y117,hy117⟩ : ∃ y_ : List (S129),y_ = (t111 ++ [(⟨t114,t115,t116⟩ : S129)]):=⟨_,rfl⟩
    replace H : (some y117) = some r:=by first|(rw [hy117];with_reducible exact H)|(have H2_:=(Option.bind_some _ _).symm.trans H;rw [hy117];with_reducible exact H2_)|(have H2_:=(Option.bind_some _ _).symm.trans H;with_reducible exact H2_)|with_reducible exact H|(rw [hy117];exact H)|exact H
    have Ny117:=am hy117
    clear hy117
    obtain rfl:=Option.some.inj H
    go_enter Try.func134,Try.ntmps134
    go_wp2_with (first|((with_reducible refine gate_callee (f:=136) rfl ?_);refine goesL_ (some 13) rfl rfl Try.func136 kr rfl #[.int .i64 a2] rfl (by (try simp only [List.map_toArray,List.map_cons,List.map_nil]);first|done|rfl|(simp only [List.length_drop,List.length_take];rfl)) ?_;(with_reducible refine (calxref08_half.calls k a2 t101 _ A6.out).mono ?_);rintro e w' ⟨rfl,⟨nd,rfl⟩⟩;refine ⟨_,rfl,?_⟩)|((with_reducible refine gate_callee (f:=134) rfl ?_);refine goesL_ (some 42) rfl rfl Try.func134 kr rfl #[.slice A0 l0.length c0,.int .i64 (wrap64 (a1 + t101)),.int .i64 (wrap64 (a2 - t101)),.int .i64 a3] rfl (by (try simp only [List.map_toArray,List.map_cons,List.map_nil]);first|done|rfl|(simp only [List.length_drop,List.length_take];rfl)) ?_;(with_reducible refine (ih k (by omega) _ _ l0 (wrap64 (a1 + t101)) (wrap64 (a2 - t101)) a3 t111 _ ?side1 ?side2 A14.out).mono ?_);(case side1 => repeat (first|exact HR0.out|(with_reducible refine Kd.C_alloc ?_ _)|(with_reducible refine Kd.C_drewN ?_ _)|(with_reducible refine Kd.C_drew ?_)));(case side2 => exact HC0.out);rintro e w17 ⟨v112,rfl,ho0,hb⟩;refine ⟨_,rfl,?_⟩;have n0_:=am (Kd.R_lower ho0 (below_size (v0 HB.out)));have n1_:=am (below_step (v0 HB.out) hb);clear HB;have HO113:=n0_;have HB:=n1_;clear n0_ n1_;(try clear hb);(try clear hb2);(try clear hk);(try clear hi);(try clear ho0))|((with_reducible refine gate_callee (f:=169) rfl ?_);refine goesL_ (some 46) rfl rfl Try.func169 kr rfl #[.slice A0 l0.length c0,.int .i64 a1,.int .i64 t101] rfl (by (try simp only [List.map_toArray,List.map_cons,List.map_nil]);first|done|rfl|(simp only [List.length_drop,List.length_take];rfl)) ?_;(with_reducible refine (calxref08_twig.calls _ _ l0 a1 t101 t114 t115 t116 _ ?side1 ?side2 A15.out).mono ?_);(case side1 => repeat (first|exact (Kd.C_below HR0.out HB.out)|(with_reducible refine Kd.C_alloc ?_ _)|(with_reducible refine Kd.C_drewN ?_ _)|(with_reducible refine Kd.C_drew ?_)));(case side2 => exact HC0.out);rintro e w18 ⟨rfl,hb⟩;refine ⟨_,rfl,?_⟩;have n0_:=am (Kd.R_below (by (with_reducible repeat (first|apply Kd.R_alloc|apply Kd.R_drewN|apply Kd.R_drew));exact HO113.out) hb);have n1_:=am (below_step (v0 HB.out) hb);clear HO113;clear HB;have HO113:=n0_;have HB:=n1_;clear n0_ n1_;(try clear hb);(try clear hb2);(try clear hk);(try clear hi))|((with_reducible refine gate_builtin (b:=.append) (xs:=#[.tmp 42,.tmp 47]) rfl ?_);at_builtin;refine Kd.R_append k129 (w0:=w) w.heap.size rfl (.tmp 42) (.tmp 47) 77 129 (.agg #[(.int .i64 0),(.int .i64 0),(.int .i64 0)]) 24 rfl Try.underlying77 info129 rfl (by decide) (by omega) v112 t111 (⟨t114,t115,t116⟩ : S129) [.int .i64 t114,.int .i64 t115,.int .i64 t116] (fun _ => True) (fun _ => False) rfl rfl ?aP (fun _ hk => hk.elim) ?aF ?aO ?aB ?aS ?aL ?_;(case aP => exact k129_mkM _ _ _ (⟨t114,t115,t116⟩ : S129));(case aB => exact (v0 HB.out));(case aF => exact (fun _ _ => trivial));(case aO => exact (by (with_reducible repeat (first|apply Kd.R_alloc|apply Kd.R_drewN|apply Kd.R_drew));exact HO113.out));(case aS => exact (below_size (v0 HB.out)));(case aL => have:=LMc16.out;omega);intro v118 w19 ho hb hg hat;rw [← Ny117.out] at ho;have n0_:=am (hb);have n1_:=am (ho);clear HB;clear HO113;have HB:=n0_;have HO119:=n1_;clear n0_ n1_;clear ho hb hg hat))
    go_ret
    exact ⟨_,vf,by (with_reducible repeat (first|apply Kd.R_alloc|apply Kd.R_drewN|apply Kd.R_drew));exact HO119.out,v0 HB.out⟩
   ·rw [if_neg c16] at H
    exact absurd H (by simp)
def rtwigP (l : List S29) (t : S164) : S129:=⟨t.f0,t.f1,if t.f0 + t.f1 > (l.length : Int) then 0 else rootP (cutP l t.f0 t.f1)⟩
theorem ref_half_any {n k : Nat} (h : n ≤ 64) (hk : 10 ≤ k) : calxref08_half.f k (n : Int) = some (halfP n : Int) :=
 at_rounds (g:=fun k => calxref08_half.f k (n : Int)) (fun k => calxref08_half.mono _ _) hk (ref_half_some h)
theorem ref_twig_is (l : List S29) (h64 : l.length ≤ 64) {a b : Int} (ha : 0 ≤ a) (hb : 0 ≤ b) (hs : a + b ≤ 1000) : calxref08_twig.f l a b = some (a,b,(rtwigP l ⟨a,b⟩).f2):=by
 unfold calxref08_twig.f rtwigP
 rw [show wrap64 (a + b) = a + b by unfold wrap64;omega]
 by_cases h : a + b > (l.length : Int)
 ·rw [if_pos h]
  simp [h]
 ·rw [if_neg h,if_pos ha,if_pos (by omega),if_pos (by omega)]
  unfold calxref08_root.f
  rw [if_pos (by rw [List.length_drop,List.length_take];omega),Option.bind_some]
  simp only [h,if_false]
  rfl
theorem beside_is (l : List S29) (h64 : l.length ≤ 64) (a : Nat) : ∀ (d g f k : Nat),g ≤ d → g ≤ 64 → f ≤ 200 - g → d + 11 ≤ k → calxref08_beside.f k l (f : Int) (g : Int) (a : Int) = some (((outsF g f g a).reverse).map (rtwigP l)):=by
 intro d
 induction d with
|zero =>
  intro g f k hg _ _ hk
  obtain ⟨k,rfl⟩ : ∃ m,k = m + 1:=⟨k - 1,by omega⟩
  obtain rfl : g = 0:=by omega
  simp only [calxref08_beside.f]
  rw [if_pos (by omega)]
  rfl
|succ d ih =>
  intro g f k hg hg64 hf hk
  obtain ⟨k,rfl⟩ : ∃ m,k = m + 1:=⟨k - 1,by omega⟩
  simp only [calxref08_beside.f]
  by_cases h2 : g < 2
  ·rw [if_pos (by omega)]
   have : outsF g f g a = []:=by
    cases g with
   |zero => rfl
   |succ g => unfold outsF;rw [if_neg (by omega)]
   rw [this]
   rfl
  ·rw [if_neg (by omega),ref_half_any hg64 (by omega),Option.bind_some]
   have hb:=halfP_bounds (n:=g) (by omega) hg64
   obtain ⟨h,hh⟩ : ∃ h,h = halfP g:=⟨_,rfl⟩
   rw [← hh] at hb ⊢
   rw [show wrap64 ((f : Int) + (h : Int)) = ((f + h : Nat) : Int) by unfold wrap64;omega,show wrap64 ((g : Int) - (h : Int)) = ((g - h : Nat) : Int) by unfold wrap64;omega]
   have hlen:=outsF_length h f h a
   have hlen2:=outsF_length (g - h) (f + h) (g - h) a
   by_cases ha : a < f + h
   ·rw [if_pos (by omega),ih h f k (by omega) (by omega) (by omega) (by omega),Option.bind_some,ref_twig_is l h64 (by omega) (by omega) (by omega),Option.bind_some,
     if_pos (by rw [List.length_map,List.length_reverse];omega),outs_in (by omega) hg64 hh ha]
    rw [List.reverse_append,List.map_append]
    congr 2
    simp only [List.reverse_cons,List.reverse_nil,List.nil_append,List.map_cons,List.map_nil]
    rw [show ((f + h : Nat) : Int) = (f : Int) + (h : Int) by push_cast;rfl,show ((g - h : Nat) : Int) = (g : Int) - (h : Int) by omega]
    rfl
   ·rw [if_neg (by omega),ih (g - h) (f + h) k (by omega) (by omega) (by omega) (by omega),Option.bind_some,ref_twig_is l h64 (by omega) (by omega) (by omega),Option.bind_some,
     if_pos (by rw [List.length_map,List.length_reverse];omega),outs_out (by omega) hg64 hh ha]
    rw [List.reverse_append,List.map_append]
    rfl
theorem rtwigs_own {l : List S29} {ts : List S164} (h : ∀ t ∈ ts,t.f0 + t.f1 ≤ (l.length : Int)) : ts.map (rtwigP l) = twigsP l ts:=by
 unfold twigsP
 refine List.map_congr_left (fun t ht => ?_)
 have:=h t ht
 unfold rtwigP twigP
 rw [if_neg (by omega)]
theorem beside_own (l : List S29) (h64 : l.length ≤ 64) (a k : Nat) (hk : 80 ≤ k) : calxref08_beside.f k l 0 (l.length : Int) (a : Int) = some (standsP l a):=by
 have:=beside_is l h64 a l.length l.length 0 k (Nat.le_refl _) h64 (by omega) (by omega)
 rw [rtwigs_own (fun t ht => (outs_in_book l.length 0 l.length a l.length h64 (by omega) t (List.mem_reverse.1 ht)).2.2)] at this
 exact this
instance decS129 : DecidableEq S129:=fun a b =>
 if h : a.f0 = b.f0 ∧ a.f1 = b.f1 ∧ a.f2 = b.f2 then isTrue (by cases a;cases b;simp only [S129.mk.injEq];exact h) else isFalse (fun e => h (by subst e;exact ⟨rfl,rfl,rfl⟩))
theorem rd129_getElem {l : List S129} {i : Nat} (h : i < l.length) : rd_T129 l (i : Int) = l[i]:=by unfold rd_T129;simp [List.getD_eq_getElem?_getD,List.getElem?_eq_getElem h]
theorem ne129_bool (x y : S129) : (!(x.f0 == y.f0) || (!(x.f1 == y.f1) || (!(x.f2 == y.f2)))) = true ↔ x ≠ y:=by
 cases x;cases y
 simp
 constructor
 ·rintro h h1 h2 h3
  rcases h with h|h|h
  ·exact h h1
  ·exact h h2
  ·exact h h3
 ·intro h
  rename_i a0 a1 a2 b0 b1 b2
  by_cases h1 : a0 = b0
  ·by_cases h2 : a1 = b1
   ·exact Or.inr (Or.inr (h h1 h2))
   ·exact Or.inr (Or.inl h2)
  ·exact Or.inl h1
theorem same_twigs_from {a b : List S129} (hl : a.length = b.length) (h64 : a.length < 4611686018427387904) : ∀ (d k i : Nat),i + d = a.length → d < k → calxref08_SameTwigs.l0 k a b (i : Int) = some (decide (a.drop i = b.drop i)):=by
 intro d
 induction d with
|zero =>
  intro k i hi hk
  obtain ⟨k,rfl⟩ : ∃ m,k = m + 1:=⟨k - 1,by omega⟩
  simp only [calxref08_SameTwigs.l0]
  rw [if_neg (by omega),List.drop_eq_nil_of_le (by omega),List.drop_eq_nil_of_le (by omega)]
  simp
|succ d ih =>
  intro k i hi hk
  obtain ⟨k,rfl⟩ : ∃ m,k = m + 1:=⟨k - 1,by omega⟩
  have h1 : i < a.length:=by omega
  have h2 : i < b.length:=by omega
  simp only [calxref08_SameTwigs.l0]
  rw [if_pos (by omega),if_pos (by omega),if_pos (by omega),rd129_getElem h1,rd129_getElem h2,List.drop_eq_getElem_cons h1,List.drop_eq_getElem_cons h2]
  by_cases he : a[i] = b[i]
  ·rw [if_neg (fun h => (ne129_bool _ _).1 h he),wrap_nat (by omega),ih k (i + 1) (by omega) (by omega)];simp only [List.cons.injEq,he,true_and]
  ·rw [if_pos ((ne129_bool _ _).2 he)];simp only [List.cons.injEq,he,false_and,decide_false]
theorem same_twigs {a b : List S129} {k : Nat} (h64 : a.length ≤ 200) (hk : 200 < k) : calxref08_SameTwigs.f k a b = some (decide (a = b)):=by
 unfold calxref08_SameTwigs.f
 by_cases hl : a.length = b.length
 ·rw [if_pos (by omega)]
  have:=same_twigs_from hl (by omega) a.length k 0 (by omega) (by omega)
  simpa using this
 ·rw [if_neg (by omega)]
  have : a ≠ b:=fun h => hl (by rw [h])
  simp [this]
def R68_12.T : Bool × List (List Nat × List Nat):=(true,[([],[]),([],[]),([],[]),([0,1,2],[0,1,2]),([3],[3]),([],[]),([],[]),([],[]),([5,6,7],[5,6,7]),([8,4],[8]),([4,9],[4,9])])
def R68_12.B : List Nat:=[0,0,0,7,15,0,0,0,224,511,1023]
theorem R68_12.tab : rtab .any (opsOf Try.f68 12) = R68_12.T:=by kernel_rfl
theorem R68_12.bits : waitsOk R68_12.T.2 R68_12.B = true:=by kernel_rfl
theorem ref_root_is (l : List S29) (h : l.length ≤ 64) : calxref08_root.f l = some (rootP l):=by
 unfold calxref08_root.f
 rw [if_pos h]
theorem twigs_eq {k : Nat} {a b : List S129} {t : Bool} (he : a = b) (hl : a.length ≤ 200) (h : calxref08_SameTwigs.f k a b = some t) : t = true:=by
 have h3:=at_rounds (g:=fun k => calxref08_SameTwigs.f k a b) (fun k => calxref08_SameTwigs.mono _ _ k) (Nat.le_max_left k 300) h
 have h4:=same_twigs (b:=b) hl (show 200 < max k 300 by omega)
 have h5 : some t = some (decide (a = b)):=h3.symm.trans h4
 have:=Option.some.inj h5
 rw [this,decide_eq_true he]
end Go.Proofs.Ytmfphlfakmnbmaa.B
end

section
namespace Go.Proofs.Ytmfphlfakmnbmaa.B
open Go.RowKit Go.MapKept Go.ChangeMaps
open Go.Maps (Keyed)
open Go.WideElems (Fit rd rg pl rd_val rd_key rg_of rd_mk)
def anyR (_ : Value) : Option (DataW Unit × List MemPlace):=some (.lit (.bool true),[])
def MapIs (P : Program) (k : TypeId) {κ ν : Type} (ek : κ → Value) (ev : ν → Value) (w : World) (b n : Nat) (M : κ → Option ν) : Prop :=
 ∃ es clock,w.heap[b]? = some (.map es clock) ∧ Fit P k anyR es clock ∧ es.size ≤ n ∧ (∀ x ∈ es.toList,∃ c,x.key = ek c) ∧
  (∀ c y,M c = some y → ∃ x ∈ es.toList,x.key = ek c) ∧ ∀ c,∀ x ∈ es.toList,x.key = ek c → ∃ y,M c = some y ∧ x.val = ev y
section
variable {P : Program} {k : TypeId} {κ ν : Type} {ek : κ → Value} {ev : ν → Value} {w : World} {b n : Nat} {M : κ → Option ν}
theorem MapIs.made (w : World) (P : Program) (k : TypeId) (ek : κ → Value) (ev : ν → Value) : MapIs P k ek ev (w.alloc (.map #[] 0)) w.heap.size 0 (fun _ => none) :=
 ⟨#[],0,(MapKept.heap_alloc w _).1,⟨by simp,stamped_empty 0,by simp⟩,Nat.le_refl _,by simp,by simp,by simp⟩
theorem MapIs.lt (h : MapIs P k ek ev w b n M) : b < w.heap.size:=by
 obtain ⟨es,clock,hb,_⟩:=h
 exact (Array.getElem?_eq_some_iff.1 hb).1
theorem MapIs.keep {w' : World} (h : MapIs P k ek ev w b n M) (hb : w'.heap[b]? = w.heap[b]?) : MapIs P k ek ev w' b n M:=by
 obtain ⟨es,clock,h1,h2⟩:=h
 exact ⟨es,clock,hb.trans h1,h2⟩
theorem MapIs.alloc (h : MapIs P k ek ev w b n M) (o : Obj) : MapIs P k ek ev (w.alloc o) b n M:=by
 refine h.keep ?_
 have hlt:=h.lt
 exact (World.grownBy_alloc w o none).block b hlt (by simp)
theorem MapIs.below {w' : World} {base : Nat} (h : MapIs P k ek ev w b n M) (hd : Below base w w') (hb : b < base) : MapIs P k ek ev w' b n M:=by
 refine h.keep ?_
 exact hd.block b hb
theorem MapIs.mono (h : MapIs P k ek ev w b n M) {n' : Nat} (hn : n ≤ n') : MapIs P k ek ev w b n' M:=by
 obtain ⟨es,clock,h1,h2,h3,h4⟩:=h
 exact ⟨es,clock,h1,h2,Nat.le_trans h3 hn,h4⟩
theorem rg_fst {es : Array MapEntry} {clock : Nat} (F : Fit P k anyR es clock) {x : MapEntry} (hx : x ∈ es.toList) : keyOf P k x.key = some (rg P k anyR x).1:=by
 obtain ⟨y,hy⟩:=F.reads x hx
 rw [rg_of hy]
 exact rd_key hy
theorem MapIs.lookup {t e : TypeId} (h : MapIs P k ek ev w b n M) (ok : Bool) (K : Keyed P k) (ht : P.underlying t = some (.map k e)) {z : Value} (hz : (zeroValue e).run P w = .ok z w) {c : κ} {kl : Lit} (hkey : keyOf P k (ek c) = some kl) :
  (Instr.lookup t (.map (some b)) (ek c) ok).run P w = .ok (match M c with
  |some y => if ok then .tuple #[ev y,.bool true] else ev y
  |none => if ok then .tuple #[z,.bool false] else z) w:=by
 obtain ⟨es,clock,hb,F,_,_,h1,h2⟩:=h
 rcases Maps.fit_look ok K ht hz hb F hkey with ⟨hrun,hno,_⟩|⟨e0,y,hm,hk,hrun,_⟩
 ·cases hM : M c with
 |none => exact hrun
 |some y =>
   obtain ⟨x,hx,hxk⟩:=h1 c y hM
   exact absurd hxk (hno x hx)
 ·obtain ⟨y,hM,hv⟩:=h2 c e0 hm hk
  rw [hM,hrun,hv]
theorem MapIs.update {t e : TypeId} [DecidableEq κ] (h : MapIs P k ek ev w b n M) (K : Keyed P k) (ht : P.underlying t = some (.map k e)) (hn : n < maxLen) {c : κ} (y : ν) {kl : Lit} (hkey : keyOf P k (ek c) = some kl) (hinj : ∀ c',ek c' = ek c → c' = c) :
  ∃ w',(Instr.mapUpdate t (.map (some b)) (ek c) (ev y)).run P w = .ok () w' ∧ MapIs P k ek ev w' b (n + 1) (fun c' => if c' = c then some y else M c') ∧ w.grownBy w' (some b):=by
 obtain ⟨es,clock,hb,F,hs,hks,h1,h2⟩:=h
 obtain ⟨es',clock',hrun,F',hput,_,_,hwho⟩:=Maps.fit_store (R':=anyR) (val:=ev y) K ht hb F (Nat.lt_of_le_of_lt hs hn) (fun _ _ _ _ hz => hz) hkey rfl
 have hin : ∀ q,q ∈ putKey kl (DataW.lit (.bool true) : DataW Unit) ((es.toList.map (rg P k anyR)).foldr DataW.insert []) → ∃ x' ∈ es'.toList,rg P k anyR x' = q:=by
  intro q hq
  rw [← hput] at hq
  obtain ⟨x',hx',e1⟩:=List.mem_map.1 ((WideShapes.sorted_perm _).mem_iff.1 hq)
  exact ⟨x',hx',e1⟩
 have hnew : ∃ x' ∈ es'.toList,x'.key = ek c:=by
  obtain ⟨x',hx',e1⟩:=hin (kl,.lit (.bool true)) (mem_insert_iff.2 (Or.inl rfl))
  refine ⟨x',hx',K.inj (rg_fst F' hx') ?_⟩
  rw [e1]
  exact hkey
 have hold : ∀ x ∈ es.toList,x.key ≠ ek c → ∃ x' ∈ es'.toList,x'.key = x.key:=by
  intro x hx hne
  obtain ⟨x',hx',e1⟩:=hin (rg P k anyR x) (mem_insert_iff.2 (Or.inr (List.mem_filter.2 ⟨(WideShapes.sorted_perm _).mem_iff.2 (List.mem_map.2 ⟨x,hx,rfl⟩),(Maps.notKey_iff (K.key hkey)).2 (fun e2 => hne (K.inj (rg_fst F hx) (by rw [e2];exact hkey)))⟩)))
  refine ⟨x',hx',K.inj (rg_fst F' hx') ?_⟩
  rw [e1]
  exact rg_fst F hx
 refine ⟨_,hrun,⟨es',clock',heap_setBlock_same hb _,F',?_,?_,?_,?_⟩,⟨rfl,rfl,rfl,by simp [setBlock],fun i _ hi => heap_setBlock_other hb _ (fun e => hi (by rw [e]))⟩⟩
 ·have e1 : es'.size = ((es'.toList.map (rg P k anyR)).foldr DataW.insert []).length:=by rw [length_sorted];simp
  rw [e1,hput]
  unfold putKey
  rw [length_insert]
  have e2:=List.length_filter_le (notKey kl) ((es.toList.map (rg P k anyR)).foldr DataW.insert [])
  rw [length_sorted] at e2
  simp at e2
  omega
 ·intro x hx
  rcases hwho x hx with ⟨hx',_⟩|⟨hx',_⟩
  ·exact hks x hx'
  ·exact ⟨c,hx'⟩
 ·intro c' y' hM
  replace hM : (if c' = c then some y else M c') = some y':=hM
  by_cases hc : c' = c
  ·subst hc
   exact hnew
  ·rw [if_neg hc] at hM
   obtain ⟨x,hx,hxk⟩:=h1 c' y' hM
   obtain ⟨x',hx',e1⟩:=hold x hx (fun e2 => hc (hinj c' (hxk.symm.trans e2)))
   exact ⟨x',hx',e1.trans hxk⟩
 ·intro c' x hx hxk
  rcases hwho x hx with ⟨hx',hne⟩|⟨hk',hv⟩
  ·have hc : c' ≠ c:=fun e2 => hne (by rw [hxk,e2])
   show ∃ y_1,(if c' = c then some y else M c') = some y_1 ∧ x.val = ev y_1
   rw [if_neg hc]
   exact h2 c' x hx' hxk
  ·have hc : c' = c:=hinj c' (hxk.symm.trans hk')
   show ∃ y_1,(if c' = c then some y else M c') = some y_1 ∧ x.val = ev y_1
   rw [if_pos hc]
   exact ⟨y,rfl,hv⟩
end
theorem wpList_lookup_map {P : Program} (w : World) {ops : Array Oper} {rest : List Oper} {o : Oper} {a : Act} {Q : Exit → Act → World → Prop}
  (hg : o.guard = none) (m x : Operand) (t : TypeId) (ok : Bool) (hop : o.op = Op.lookup t m x ok)
  (k e : TypeId) (K : Keyed P k) (ht : P.underlying t = some (.map k e)) (z : Value) (hz : (zeroValue e).run P w = .ok z w) {κ ν : Type} (ek : κ → Value) (ev : ν → Value) (b n : Nat) (M : κ → Option ν)
  (hm : a.eval m = .map (some b)) (h : MapIs P k ek ev w b n M) (c : κ) (kl : Lit) (hx : a.eval x = ek c) (hkey : keyOf P k (ek c) = some kl)
  (v : Value) (hv : (match M c with
  |some y => if ok then .tuple #[ev y,.bool true] else ev y
  |none => if ok then .tuple #[z,.bool false] else z) = v)
  (hK : wpList P ops Q rest (a.put o.dst v) w) :
  wpList P ops Q (o :: rest) a w:=by
 refine wpList_plain hg fun K' hK' => ?_
 have hrun:=h.lookup ok K ht hz hkey
 rw [hv] at hrun
 unfold Oper.wp
 simp [execOp,hop,hm,hx,hrun,Result.andThen]
 exact hK' _ _ hK
theorem wpList_update_map {P : Program} (w : World) {ops : Array Oper} {rest : List Oper} {o : Oper} {a : Act} {Q : Exit → Act → World → Prop}
  (hg : o.guard = none) (m x v : Operand) (t : TypeId) (hop : o.op = Op.mapUpdate t m x v)
  (k e : TypeId) (K : Keyed P k) (ht : P.underlying t = some (.map k e)) {κ ν : Type} [DecidableEq κ] (ek : κ → Value) (ev : ν → Value) (b n : Nat) (M : κ → Option ν)
  (hm : a.eval m = .map (some b)) (h : MapIs P k ek ev w b n M) (hn : n < maxLen) (c : κ) (y : ν) (kl : Lit) (hx : a.eval x = ek c) (hv : a.eval v = ev y) (hkey : keyOf P k (ek c) = some kl) (hinj : ∀ c',ek c' = ek c → c' = c)
  (hK : ∀ w',MapIs P k ek ev w' b (n + 1) (fun c' => if c' = c then some y else M c') → w.grownBy w' (some b) → wpList P ops Q rest (a.put o.dst undef) w') :
  wpList P ops Q (o :: rest) a w:=by
 refine wpList_plain hg fun K' hK' => ?_
 obtain ⟨w',hrun,r1,r2⟩:=h.update K ht hn y hkey hinj
 unfold Oper.wp
 simp [execOp,hop,hm,hx,hv,hrun,Result.andThen]
 exact hK' _ _ (hK w' r1 r2)
section
variable {P : Program} {k : TypeId} {κ ν : Type} {ek : κ → Value} {ev : ν → Value} {w : World} {b n : Nat} {M : κ → Option ν}
theorem MapIs.entry {t e : TypeId} [DecidableEq κ] (h : MapIs P k ek ev w b n M) (KL : WideMaps.KeyLaw P k) (K : Keyed P k) (ht : P.underlying t = some (.map k e)) (hn : n < maxLen) {z : Value} (hz : ∀ u : World,(zeroValue e).run P u = .ok z u) {c : κ} {kl : Lit} (hkey : keyOf P k (ek c) = some kl) (hinj : ∀ c',ek c' = ek c → c' = c) :
  ∃ (v0 : Value) (st : Nat) (o1 : Obj),(Instr.mapEntry t (.map (some b)) (ek c)).run P w = .ok (.tuple #[v0,goInt st]) (setBlock w b o1) ∧
   ∀ (w2 : World) (y : ν),w2.heap[b]? = some o1 → ∃ o2,(Instr.entryStore t (.map (some b)) (goInt st) (ev y)).run P w2 = .ok () (setBlock w2 b o2) ∧ MapIs P k ek ev (setBlock w2 b o2) b (n + 1) (fun c' => if c' = c then some y else M c'):=by
 obtain ⟨es,clock,hb,F,hs,hks,h1,h2⟩:=id h
 obtain ⟨v0,st,es1,clock1,hrun,_,hst⟩:=Go.WideElems.entry_then_store KL ht hz hb F hkey
 refine ⟨v0,st,.map es1 clock1,hrun,fun w2 y hw2 => ?_⟩
 obtain ⟨es',clock',r1,r2⟩:=hst w2 (ev y) hw2
 obtain ⟨w',r3,hM,hg⟩:=h.update K ht hn y hkey hinj
 rw [r2] at r3
 obtain rfl : setBlock w b (.map es' clock') = w':=by injection r3
 refine ⟨.map es' clock',r1,?_⟩
 refine hM.keep ?_
 rw [heap_setBlock_same hw2,heap_setBlock_same hb]
theorem MapIs.entry_is {t e : TypeId} [DecidableEq κ] (h : MapIs P k ek ev w b n M) (KL : WideMaps.KeyLaw P k) (K : Keyed P k) (ht : P.underlying t = some (.map k e)) (hn : n < maxLen) (y0 : ν) (hz : ∀ u : World,(zeroValue e).run P u = .ok (ev y0) u) {c : κ} {kl : Lit} (hkey : keyOf P k (ek c) = some kl) (hinj : ∀ c',ek c' = ek c → c' = c) :
  ∃ (v0 : Value) (st : Nat) (o1 : Obj),(Instr.mapEntry t (.map (some b)) (ek c)).run P w = .ok (.tuple #[v0,goInt st]) (setBlock w b o1) ∧ MapIs P k ek ev (setBlock w b o1) b (n + 1) (fun c' => if c' = c then some ((M c).getD y0) else M c'):=by
 obtain ⟨es,clock,hb,F,hs,hks,h1',h2'⟩:=id h
 rcases KL.find w hkey es.toList F.keys with ⟨h1,h2⟩|⟨j,e0,h1,h2,h3⟩
 ·have hM : M c = none:=by
   cases hM : M c with
  |none => rfl
  |some y =>
    obtain ⟨x,hx,hk⟩:=h1' c y hM
    exact absurd hk (h2 x hx)
  refine ⟨ev y0,clock,.map (es.push ⟨ek c,ev y0,clock⟩) (clock + 1),?_,?_⟩
  ·simp [Instr.mapEntry,run_underlying ht,MapKept.run_getObj_map hb,KL.check w false hkey,h1,hz,MapKept.run_setObj_map _ hb,Result.andThen,setBlock]
  ·obtain ⟨w',hr,hM',_⟩:=h.update K ht hn y0 hkey hinj
   have hr2 : (Instr.mapUpdate t (.map (some b)) (ek c) (ev y0)).run P w = .ok () (setBlock w b (.map (es.push ⟨ek c,ev y0,clock⟩) (clock + 1))):=by
    simp [Instr.mapUpdate,run_underlying ht,MapKept.run_getObj_map hb,KL.check w false hkey,h1,MapKept.run_setObj_map _ hb,Result.andThen,setBlock]
   rw [hr2] at hr
   injection hr with _ hr
   rw [hr,hM]
   exact hM'
 ·have hj : es[j]? = some e0:=by simpa using h2
  have hsame : es.modify j (fun e => { e with key:=ek c }) = es:=by
   apply Array.ext'
   rw [Array.toList_modify,modify_eq_set _ _ _ _ h2]
   have : ({ e0 with key:=ek c } : MapEntry) = e0:=by rw [← h3]
   rw [this]
   exact WideElems.set_self _ _ _ h2
  obtain ⟨y,hM,hv⟩:=h2' c e0 (List.mem_of_getElem? h2) h3
  refine ⟨e0.val,e0.born,.map es clock,?_,?_⟩
  ·simp [Instr.mapEntry,run_underlying ht,MapKept.run_getObj_map hb,KL.check w false hkey,h1,hj,h3,KL.stays w hkey,hsame,MapKept.run_setObj_map _ hb,Result.andThen,setBlock]
  ·have e : (fun c' => if c' = c then some ((M c).getD y0) else M c') = M:=by
    funext c'
    by_cases hc : c' = c
    ·rw [if_pos hc,hc,hM];rfl
    ·rw [if_neg hc]
   rw [e]
   exact (h.keep (by rw [heap_setBlock_same hb,hb])).mono (Nat.le_succ n)
theorem MapIs.entry_both {t e : TypeId} [DecidableEq κ] (h : MapIs P k ek ev w b n M) (KL : WideMaps.KeyLaw P k) (K : Keyed P k) (ht : P.underlying t = some (.map k e)) (hn : n < maxLen) (y0 : ν) (hz : ∀ u : World,(zeroValue e).run P u = .ok (ev y0) u) {c : κ} {kl : Lit} (hkey : keyOf P k (ek c) = some kl) (hinj : ∀ c',ek c' = ek c → c' = c) :
  ∃ (v0 : Value) (st : Nat) (o1 : Obj),(Instr.mapEntry t (.map (some b)) (ek c)).run P w = .ok (.tuple #[v0,goInt st]) (setBlock w b o1) ∧
   MapIs P k ek ev (setBlock w b o1) b (n + 1) (fun c' => if c' = c then some ((M c).getD y0) else M c') ∧
   ∀ (w2 : World) (y : ν),w2.heap[b]? = some o1 → ∃ o2,(Instr.entryStore t (.map (some b)) (goInt st) (ev y)).run P w2 = .ok () (setBlock w2 b o2) ∧ MapIs P k ek ev (setBlock w2 b o2) b (n + 1) (fun c' => if c' = c then some y else M c'):=by
 obtain ⟨v0,st,o1,hrun,hst⟩:=h.entry KL K ht hn hz hkey hinj
 obtain ⟨v1,st1,o3,hrun1,hM⟩:=h.entry_is KL K ht hn y0 hz hkey hinj
 rw [hrun] at hrun1
 injection hrun1 with _ hw
 rw [← hw] at hM
 exact ⟨v0,st,o1,hrun,hM,hst⟩
def Walks (P : Program) (k : TypeId) {κ ν : Type} (ek : κ → Value) (ev : ν → Value) (w : World) (b r n : Nat) (M : κ → Option ν) (Done : κ → ν → Prop) (cnt : Nat) : Prop :=
 ∃ es clock since seen c0,w.heap[b]? = some (.map es clock) ∧ Fit P k anyR es clock ∧ (∀ x ∈ es.toList,∃ c y,x.key = ek c ∧ x.val = ev y ∧ M c = some y) ∧
  w.heap[r]? = some (.mapIter (some b) since seen c0) ∧ (∀ x ∈ es.toList,x.born < since) ∧ (leftOf es seen).size = cnt ∧ since ≤ c0 ∧ since ≤ clock ∧
  (∀ c y,M c = some y → Done c y ∨ ∃ x ∈ es.toList,x.key = ek c ∧ seen.contains x.born = false) ∧ MapIs P k ek ev w b n M
theorem Walks.start {t e : TypeId} (h : MapIs P k ek ev w b n M) (K : Keyed P k) (ht : P.underlying t = some (.map k e)) (Done : κ → ν → Prop) :
  ∃ w' cnt,(Instr.range t (.map (some b))).run P w = .ok (.pointer (some ⟨w.heap.size,0,none⟩)) w' ∧ Walks P k ek ev w' b w.heap.size n M Done cnt ∧ cnt ≤ n ∧ w.grownBy w' none ∧ w'.heap.size = w.heap.size + 1:=by
 have hlt:=h.lt
 obtain ⟨es,clock,hb,F,hs,hks,h1,h2⟩:=id h
 refine ⟨_,_,run_range_map w t k e b es clock ht hb,⟨es,clock,clock,#[],clock,((MapKept.heap_alloc w _).2 b hlt).trans hb,F,?_,(MapKept.heap_alloc w _).1,F.stamped.1,rfl,Nat.le_refl _,Nat.le_refl _,?_,h.alloc _⟩,?_,World.grownBy_alloc w _ none,by simp⟩
 ·intro x hx
  obtain ⟨c,hc⟩:=hks x hx
  obtain ⟨y,hy,hv⟩:=h2 c x hx hc
  exact ⟨c,y,hc,hv,hy⟩
 ·intro c y hM
  obtain ⟨x,hx,hk⟩:=h1 c y hM
  exact Or.inr ⟨x,hx,hk,by simp⟩
 ·have e0 : leftOf es #[] = es:=by unfold leftOf;apply Array.filter_eq_self.2;intro x _;simp
  rw [e0];exact hs
theorem Walks.next {r cnt : Nat} {Done : κ → ν → Prop} (h : Walks P k ek ev w b r n M Done cnt) (K : Keyed P k) (hinj : ∀ c c',ek c' = ek c → c' = c) (ty : TypeId) :
  ((∀ c y,M c = some y → Done c y) ∧ (Instr.next (.pointer (some ⟨r,0,none⟩)) false ty).run P w = .ok (.tuple #[.bool false]) w) ∨
  ∃ c y w' cnt',M c = some y ∧ (Instr.next (.pointer (some ⟨r,0,none⟩)) false ty).run P w = .ok (.tuple #[.bool true,ek c,ev y]) w' ∧
   (Done c y → Walks P k ek ev w' b r n M Done cnt') ∧ cnt' < cnt ∧ w.grownBy w' (some r) ∧ w'.heap.size = w.heap.size ∧ (Instr.entry (.pointer (some ⟨r,0,none⟩))).run P w' = .ok (.tuple #[ek c,ev y]) w':=by
 obtain ⟨es,clock,since,seen,c0,hb,F,hks,hr,hold,rfl,hsc,hsk,hl,hM⟩:=h
 have hne : r ≠ b:=by
  intro e
  rw [e,hb] at hr
  cases hr
 rcases run_next_at (P:=P) w ty r b since c0 seen es clock hr hb hold hsc with ⟨h0,hrun⟩|⟨e,he,w1,hal,hrun⟩
 ·refine Or.inl ⟨fun c y hc => ?_,hrun⟩
  rcases hl c y hc with hd|⟨x,hx,_,hs⟩
  ·exact hd
  ·rw [all_seen es seen h0 x hx] at hs
   cases hs
 ·obtain ⟨hem,hes⟩:=mem_left he
  obtain ⟨c,y,hk,hv,hc⟩:=hks e hem
  have hst:=(stamped_iff es clock).1 F.stamped
  have hr1 : w1.heap[r]? = some (.mapIter (some b) since seen c0):=by rcases hal with rfl|rfl <;> exact hr
  have hb1 : w1.heap[b]? = some (.map es clock):=by rcases hal with rfl|rfl <;> exact hb
  have hset:=heap_set (o':=.mapIter (some b) since (seen.push e.born) clock) hr1
  have hb' : (setBlock w1 r (.mapIter (some b) since (seen.push e.born) clock)).heap[b]? = some (.map es clock):=(hset.2 b (fun e1 => hne e1.symm)).trans hb1
  rw [hk,hv] at hrun
  refine Or.inr ⟨c,y,_,_,hc,hrun,fun hd => ⟨es,clock,since,seen.push e.born,clock,hb',F,hks,hset.1,hold,rfl,hsk,hsk,fun c' y' hc' => ?_,?_⟩,left_shrinks es seen e he,?_,?_,?_⟩
  ·rcases hl c' y' hc' with hd'|⟨x,hx,hxk,hs⟩
   ·exact Or.inl hd'
   ·by_cases hbe : x.born = e.born
    ·obtain rfl:=born_inj hst.2.1 hx hem hbe
     have hcc : c' = c:=hinj c c' (hxk.symm.trans hk)
     subst hcc
     rw [hc] at hc'
     injection hc' with hyy
     subst hyy
     exact Or.inl hd
    ·refine Or.inr ⟨x,hx,hxk,?_⟩
     rw [contains_push,hs]
     simp [hbe]
  ·exact hM.keep (hb'.trans hb.symm)
  ·rcases hal with rfl|rfl <;> exact ⟨rfl,rfl,rfl,by simp [setBlock],fun i _ hi => hset.2 i (fun e1 => hi (by rw [e1]))⟩
  ·rcases hal with rfl|rfl <;> simp [setBlock]
  ·have:=run_entry_at (P:=P) _ r b since seen es clock e hset.1 hb' hem hst.2.1
   rw [hk,hv] at this
   exact this
theorem Walks.kept {w' : World} {row : Option Nat} {r cnt : Nat} {Done : κ → ν → Prop} (h : Walks P k ek ev w b r n M Done cnt) (hg : w.grownBy w' row) (hb' : some b ≠ row) (hr' : some r ≠ row) : Walks P k ek ev w' b r n M Done cnt:=by
 obtain ⟨es,clock,since,seen,c0,hb,F,hks,hr,hold,hc,hsc,hsk,hl,hM⟩:=h
 have h1:=(Array.getElem?_eq_some_iff.1 hb).1
 have h2:=(Array.getElem?_eq_some_iff.1 hr).1
 exact ⟨es,clock,since,seen,c0,(hg.block b h1 hb').trans hb,F,hks,(hg.block r h2 hr').trans hr,hold,hc,hsc,hsk,hl,hM.keep (hg.block b h1 hb')⟩
end
theorem wpList_range_walk {P : Program} (w : World) {ops : Array Oper} {rest : List Oper} {o : Oper} {a : Act} {Q : Exit → Act → World → Prop}
  (hg : o.guard = none) (m : Operand) (t : TypeId) (hop : o.op = Op.range t m) (k e : TypeId) (K : Keyed P k) (ht : P.underlying t = some (.map k e)) {κ ν : Type} (ek : κ → Value) (ev : ν → Value) (b n : Nat) (M : κ → Option ν) (Done : κ → ν → Prop)
  (hm : a.eval m = .map (some b)) (h : MapIs P k ek ev w b n M)
  (hK : ∀ w' cnt,Walks P k ek ev w' b w.heap.size n M Done cnt → w.grownBy w' none → w'.heap.size = w.heap.size + 1 → wpList P ops Q rest (a.put o.dst (.pointer (some ⟨w.heap.size,0,none⟩))) w') :
  wpList P ops Q (o :: rest) a w:=by
 refine wpList_plain hg fun K' hK' => ?_
 obtain ⟨w',cnt,hrun,r1,_,r2,r3⟩:=Walks.start h K ht Done
 unfold Oper.wp
 simp [execOp,hop,hm,hrun,Result.andThen]
 exact hK' _ _ (hK w' cnt r1 r2 r3)
theorem wpList_next_walk {P : Program} (w : World) {ops : Array Oper} {rest : List Oper} {o : Oper} {a : Act} {Q : Exit → Act → World → Prop}
  (hg : o.guard = none) (it : Operand) (hop : o.op = Op.next it false) (k : TypeId) (K : Keyed P k) {κ ν : Type} (ek : κ → Value) (ev : ν → Value) (hinj : ∀ c c',ek c' = ek c → c' = c) (b r n : Nat) (M : κ → Option ν) (Done : κ → ν → Prop) (cnt : Nat)
  (hit : a.eval it = .pointer (some ⟨r,0,none⟩)) (h : Walks P k ek ev w b r n M Done cnt)
  (hDone : (∀ c y,M c = some y → Done c y) → wpList P ops Q rest (a.put o.dst (.tuple #[.bool false])) w)
  (hMore : ∀ c y w' cnt',M c = some y → (Done c y → Walks P k ek ev w' b r n M Done cnt') → cnt' < cnt → w.grownBy w' (some r) → w'.heap.size = w.heap.size → (Instr.entry (.pointer (some ⟨r,0,none⟩))).run P w' = .ok (.tuple #[ek c,ev y]) w' →
   wpList P ops Q rest (a.put o.dst (.tuple #[.bool true,ek c,ev y])) w') :
  wpList P ops Q (o :: rest) a w:=by
 refine wpList_plain hg fun K' hK' => ?_
 unfold Oper.wp
 rcases Walks.next h K hinj o.type with ⟨hl,hrun⟩|⟨c,y,w',cnt',hc,hrun,hw,hlt,hgr,hsz,hen⟩
 ·simp [execOp,hop,hit,hrun,Result.andThen]
  exact hK' _ _ (hDone hl)
 ·simp [execOp,hop,hit,hrun,Result.andThen]
  exact hK' _ _ (hMore c y w' cnt' hc hw hlt hgr hsz hen)
theorem Walks.left_eq {P : Program} {k : TypeId} {κ ν : Type} {ek : κ → Value} {ev : ν → Value} {w : World} {b r n : Nat} {M : κ → Option ν} {Done : κ → ν → Prop} {cnt : Nat} (h : Walks P k ek ev w b r n M Done cnt) : w.rangeLeft b r = cnt:=by
 obtain ⟨es,clock,since,seen,c0,hb,_,_,hr,_,hc,_⟩:=h
 simp only [World.rangeLeft,hb,hr]
 exact hc
end Go.Proofs.Ytmfphlfakmnbmaa.B
end

section
namespace Go.Proofs.Ytmfphlfakmnbmaa.B
open Go.RowKit Go.Proofs.YtmfphlfakmnbmaaW.PrintWords Go.Proofs.YtmfphlfakmnbmaaW.PrintLast Go.Proofs.YtmfphlfakmnbmaaW.PrintMore
attribute [local go_sem] max2_int min2_int max_two min_two max_three min_three max_four min_four
theorem law3 : Go.Maps.Keyed Try.prog 3:=Go.Maps.int_keyed Try.underlying3
def ekI (i : Int) : Value:=.int .i64 i
def ev29 (x : S29) : Value:=.agg #[.int .i64 x.f0,.int .i64 x.f1,.int .i64 x.f2,.int .i64 x.f3]
theorem zero29 (w : World) : (zeroValue 29).run Try.prog w = .ok (.agg #[.int .i64 0,.int .i64 0,.int .i64 0,.int .i64 0]) w:=by kernel_rfl
theorem ekI_inj {c c' : Int} (h : ekI c' = ekI c) : c' = c:=by unfold ekI at h;injection h
section
attribute [local go_sem high] eqA29
abbrev Laid:=Int → Option S29
def putM (M : Laid) (i : Int) (x : S29) : Laid:=fun c' => if c' = i then some x else M c'
instance (M : Laid) (i : Int) (x : S29) : Decidable (∃ y,M i = some y ∧ neP y x = true) :=
 match h : M i with
|none => isFalse (by simp)
|some y => if h2 : neP y x = true then isTrue ⟨y,rfl,h2⟩ else isFalse (by simp [h2])
def putAll : Laid → Int → List S29 → Option Laid
|M,_,[] => some M
|M,i,x :: r => if (∃ y,M i = some y ∧ neP y x = true) then none else putAll (putM M i x) (i + 1) r
def laidFrom : Laid → List S34 → Option Laid
|M,[] => some M
|M,p :: r => (putAll M p.f0 p.f1).bind fun M' => laidFrom M' r
def laidP (l : List S34) : Option Laid:=laidFrom (fun _ => none) l
def MapsTo (w : World) (b n : Nat) (M : Laid) : Prop:=MapIs Try.prog 3 ekI ev29 w b n M
def Fits (p : S34) : Prop:=1 ≤ p.f1.length ∧ p.f1.length ≤ 64 ∧ 0 ≤ p.f0 ∧ p.f0 + p.f1.length ≤ 64
theorem below_grown {base : Nat} {w w1 w2 : World} {b : Nat} (h : Below base w w1) (hg : w1.grownBy w2 (some b)) (hb : base ≤ b) (hs : base ≤ w1.heap.size) : Below base w w2 :=
 h.trans ⟨hg.os,hg.tape,hg.output,hg.size,fun k hk => hg.block k (Nat.lt_of_lt_of_le hk hs) (by simp;omega)⟩
theorem laid_keep {w wo wi w3 : World} {o o' ob : Obj} (HB : Below w.heap.size w wi) (HS : w.heap.size < wo.heap.size ∧ wo.heap.size < wi.heap.size) (HG : wi.heap[wo.heap.size]? = some ob) (hg : ((wi.alloc o).alloc o').grownBy w3 (some w.heap.size)) :
  Below w.heap.size w w3 ∧ (w.heap.size < wo.heap.size ∧ wo.heap.size < w3.heap.size) ∧ w3.heap[wo.heap.size]? = some ob:=by
 have hs:=hg.size
 have h1 : ((wi.alloc o).alloc o').heap.size = wi.heap.size + 2:=by simp
 have hB:=below_alloc (below_alloc HB o) o'
 refine ⟨below_grown hB hg (Nat.le_refl _) (below_size hB),⟨HS.1,by omega⟩,?_⟩
 rw [hg.block wo.heap.size (by omega) (by simp;omega)]
 exact blk_alloc (blk_alloc HG o) o'
theorem putAll_cons {M : Laid} {i : Int} {x : S29} {r : List S29} (h : ∀ y,M i = some y → neP y x = false) : putAll M i (x :: r) = putAll (putM M i x) (i + 1) r:=by
 show (if (∃ y,M i = some y ∧ neP y x = true) then none else putAll (putM M i x) (i + 1) r) = _
 rw [if_neg]
 rintro ⟨y,h1,h2⟩
 rw [h y h1] at h2
 cases h2
theorem putAll_bad {M : Laid} {i : Int} {x y : S29} {r : List S29} (h : M i = some y) (h2 : neP y x = true) : putAll M i (x :: r) = none:=by
 show (if (∃ y,M i = some y ∧ neP y x = true) then none else putAll (putM M i x) (i + 1) r) = _
 rw [if_pos ⟨y,h,h2⟩]
set_option maxRecDepth 100000 in
set_option maxHeartbeats 1000000 in
theorem laid_calls (A0 : Option Addr) (c0 : Nat) (l0 : List S34) (w : World) (hr0 : Kd.C k34 w A0 l0.length l0) (hc0 : l0.length ≤ c0) (hl : l0.length ≤ 12) (hf : ∀ p ∈ l0,Fits p) :
  Calls Try.prog 85 #[.slice A0 l0.length c0] w fun e w' => Below w.heap.size w w' ∧ ((laidP l0 = none ∧ e = .returned (.tuple #[.map none,.bool false])) ∨
   ∃ M,laidP l0 = some M ∧ e = .returned (.tuple #[.map (some w.heap.size),.bool true]) ∧ MapsTo w' w.heap.size 1000 M):=by
 have HR0:=am hr0
 have HF:=am hf
 obtain ⟨R,hR⟩ : ∃ R,R = laidP l0:=⟨_,rfl⟩
 rw [← hR]
 have HR:=am hR
 have hmm:=@run_makeMap Try.prog
 have hu29:=Try.underlying29
 have hu34:=Try.underlying34
 clear hr0 hf hR
 have HM0 : Aside0 (MapsTo (w.alloc (.map #[] 0)) w.heap.size 0 (fun _ => none)):=⟨MapIs.made w _ _ _ _⟩
 go_enter Try.func85,Try.ntmps85
 go_wp2
 go_loopw [14] (fun v14 wr => ∃ j : Nat,j ≤ l0.length ∧ v14 = .int .i64 (j : Int) ∧ Aside0 (Below w.heap.size w wr) ∧ Aside0 (w.heap.size < wr.heap.size) ∧ Aside0 (∃ M,MapsTo wr w.heap.size (64 * j) M ∧ laidFrom M (l0.drop j) = R)) (fun v14 _ => l0.length - (intOf v14).toNat)
 case atStart => exact ⟨0,Nat.zero_le _,rfl,⟨below_alloc (Below.refl _ _) _⟩,⟨by simp⟩,⟨⟨_,HM0.out,HR.out.symm⟩⟩⟩
 case round =>
  rename World => wo
  obtain ⟨j,hj,rfl,HB,HS,HX⟩:=hrel
  by_cases hlt : j < l0.length
  ·obtain ⟨M,HM,HL⟩:=HX.out
   have HM':=am HM
   have HL':=am HL
   clear HM HL HX
   obtain ⟨ad,A1,c1,e,hy0,hy1,hle1,hC1⟩:=at_T34 HR0.out (j : Int) (by omega) (by omega)
   cases e
   rw [Int.toNat_natCast] at hy0 hy1
   have hx0 : wo.cell? (ad.add (j * 2)) = some (Value.int IntKind.i64 (rd_T34 l0 (j : Int)).f0):=(World.cell?_of_block (HB.out.block _ (wb w _ hy0))).trans hy0
   have hx1 : wo.cell? ⟨(ad.add (j * 2)).block,(ad.add (j * 2)).off + 1,none⟩ = some (Value.slice A1 (rd_T34 l0 (j : Int)).f1.length c1):=(World.cell?_of_block (HB.out.block _ (wb w _ hy1))).trans hy1
   have HFp:=HF.out (rd_T34 l0 (j : Int)) (by unfold rd_T34;simp [List.getD_eq_getElem?_getD,List.getElem?_eq_getElem hlt])
   have hdrop : l0.drop j = rd_T34 l0 (j : Int) :: l0.drop (j + 1):=by
    rw [List.drop_eq_getElem_cons hlt];unfold rd_T34;simp [List.getD_eq_getElem?_getD,List.getElem?_eq_getElem hlt]
   have HL2:=am (show (putAll M (rd_T34 l0 (j : Int)).f0 (rd_T34 l0 (j : Int)).f1).bind (fun M'' => laidFrom M'' (l0.drop (j + 1))) = R by rw [← HL'.out,hdrop];rfl)
   obtain ⟨p,hp⟩ : ∃ p,p = rd_T34 l0 (j : Int):=⟨_,rfl⟩
   rw [← hp] at hx0 hx1 hle1 hC1 HFp HL2
   have HFa:=am HFp
   have HC1:=am hC1
   clear hC1 HFp hy0 hy1 hdrop hp HL'
   go_wp2
   go_loopw [21] (fun v21 wi => ∃ i : Nat,i ≤ p.f1.length ∧ v21 = .int .i64 (i : Int) ∧ Aside0 (Below w.heap.size w wi) ∧ Aside0 (w.heap.size < wo.heap.size ∧ wo.heap.size < wi.heap.size) ∧ Aside0 (wi.heap[wo.heap.size]? = some (.cells #[.int .i64 p.f0,.slice A1 p.f1.length c1] 34 (0,0))) ∧ Aside0 (∃ M',MapsTo wi w.heap.size (64 * j + i) M' ∧ (putAll M' (p.f0 + i) (p.f1.drop i)).bind (fun M'' => laidFrom M'' (l0.drop (j + 1))) = R)) (fun v21 _ => p.f1.length - (intOf v21).toNat)
   case atStart => exact ⟨0,Nat.zero_le _,rfl,⟨below_alloc HB.out _⟩,⟨HS.out,by simp⟩,⟨blk_new' _ _ _ rfl⟩,⟨⟨M,HM'.out.alloc _,by simpa using HL2.out⟩⟩⟩
   case round =>
    rename World => wi
    obtain ⟨i,hi,rfl,HBi,HSi,HG,HXi⟩:=hrel
    by_cases hlti : i < p.f1.length
    ·obtain ⟨M',HMi,HLi⟩:=HXi.out
     obtain ⟨ae,e,hz0,hz1,hz2,hz3⟩:=at_T29 (Kd.C_below HC1.out HBi.out) (i : Int) (by omega) (by omega)
     cases e
     rw [Int.toNat_natCast] at hz0 hz1 hz2 hz3
     have hg0 : ∀ o,(wi.alloc o).cell? ⟨wo.heap.size,0,none⟩ = some (.int .i64 p.f0):=fun o => (blk_cell (blk_alloc HG.out o) 0).trans rfl
     have hfa:=HFa.out
     unfold Fits at hfa
     have hw1 : wrap64 (p.f0 + (i : Int)) = p.f0 + (i : Int):=by unfold wrap64;omega
     have hw2 : IntKind.i64.wrap (p.f0 + (i : Int)) = p.f0 + (i : Int):=by rw [IntKind.wrap_i64];omega
     have hkey : keyOf Try.prog 3 (ekI (p.f0 + (i : Int))) = some (.int .i64 (p.f0 + (i : Int))):=Go.Maps.keyOf_int_mk Try.underlying3 (by rw [← hw1];exact wrap64_wf _)
     have hg1 : ∀ o o',((wi.alloc o).alloc o').cell? ⟨wo.heap.size,0,none⟩ = some (.int .i64 p.f0):=fun o o' => (blk_cell (blk_alloc (blk_alloc HG.out o) o') 0).trans rfl
     have hdr : p.f1.drop i = rd_T29 p.f1 (i : Int) :: p.f1.drop (i + 1):=by
      rw [List.drop_eq_getElem_cons hlti];unfold rd_T29;simp [List.getD_eq_getElem?_getD,List.getElem?_eq_getElem hlti]
     rw [hdr] at HLi
     have HLe:=am HLi
     have HMe:=am HMi
     have hwe:=HSi.out
     have hnn : 64 * j + i < maxLen:=by unfold maxLen;omega
     have HNN:=am hnn
     have HKEY:=am hkey
     obtain ⟨x,hx⟩ : ∃ x,x = rd_T29 p.f1 (i : Int):=⟨_,rfl⟩
     rw [← hx] at hz0 hz1 hz2 hz3 HLe
     clear HLi HMi hdr hnn hkey hwe hfa hx
     cases hM : M' (p.f0 + (i : Int)) with
    |none =>
      have HM0:=am hM
      go_wp2_with (first
      |(at_lookup;refine wpList_lookup_map _ rfl _ _ 130 true rfl 3 29 law3 Try.underlying130 _ (zero29 _) ekI ev29 w.heap.size (64 * j + i) M' rfl (HMe.out.alloc _) (p.f0 + (i : Int)) _ rfl HKEY.out (.tuple #[.agg #[.int .i64 0,.int .i64 0,.int .i64 0,.int .i64 0],.bool false]) (by rw [HM0.out];rfl) ?_)
      |(at_mapUpdate;refine wpList_update_map _ rfl _ _ _ 130 rfl 3 29 law3 Try.underlying130 ekI ev29 w.heap.size (64 * j + i) M' rfl ((HMe.out.alloc _).alloc _) HNN.out (p.f0 + (i : Int)) x _ rfl rfl HKEY.out (fun _ => ekI_inj) ?_;intro w3 hm3 hg3)
      |fail)
      go_roundw
      case rel =>
       have h64:=HFa.out.2.1
       obtain ⟨k1,k2,k3⟩:=laid_keep HBi.out HSi.out HG.out hg3
       have hh:=HLe.out
       rw [putAll_cons (fun y hy => by rw [HM0.out] at hy;cases hy)] at hh
       exact ⟨i + 1,by omega,by rw [show wrap64 ((i : Int) + 1) = ((i + 1 : Nat) : Int) by unfold wrap64;omega],⟨k1⟩,⟨k2⟩,⟨k3⟩,⟨⟨_,hm3,by rw [show p.f0 + ((i + 1 : Nat) : Int) = p.f0 + (i : Int) + 1 by omega];exact hh⟩⟩⟩
      case measure => have h64:=HFa.out.2.1;rw [show wrap64 ((i : Int) + 1) = ((i + 1 : Nat) : Int) by unfold wrap64;omega];simp [intOf];omega
    |some y =>
      have HM0:=am hM
      cases hne : neP y x with
     |true =>
       have HN:=am hne
       unfold neP at hne
       go_wp2_with (first
       |(at_lookup;refine wpList_lookup_map _ rfl _ _ 130 true rfl 3 29 law3 Try.underlying130 _ (zero29 _) ekI ev29 w.heap.size (64 * j + i) M' rfl (HMe.out.alloc _) (p.f0 + (i : Int)) _ rfl HKEY.out (.tuple #[.agg #[.int .i64 y.f0,.int .i64 y.f1,.int .i64 y.f2,.int .i64 y.f3],.bool true]) (by rw [HM0.out];rfl) ?_)
       |fail)
       have hh:=HLe.out
       rw [putAll_bad HM0.out HN.out] at hh
       refine bodyPost_ret (v:=.tuple #[.map none,.bool false]) (by simp [results,Try.results85,go_sem]) rfl ⟨below_alloc (below_alloc HBi.out _) _,Or.inl ⟨hh.symm,rfl⟩⟩
     |false =>
       have HN:=am hne
       unfold neP at hne
       go_wp2_with (first
       |(at_lookup;refine wpList_lookup_map _ rfl _ _ 130 true rfl 3 29 law3 Try.underlying130 _ (zero29 _) ekI ev29 w.heap.size (64 * j + i) M' rfl (HMe.out.alloc _) (p.f0 + (i : Int)) _ rfl HKEY.out (.tuple #[.agg #[.int .i64 y.f0,.int .i64 y.f1,.int .i64 y.f2,.int .i64 y.f3],.bool true]) (by rw [HM0.out];rfl) ?_)
       |(at_mapUpdate;refine wpList_update_map _ rfl _ _ _ 130 rfl 3 29 law3 Try.underlying130 ekI ev29 w.heap.size (64 * j + i) M' rfl ((HMe.out.alloc _).alloc _) HNN.out (p.f0 + (i : Int)) x _ rfl rfl HKEY.out (fun _ => ekI_inj) ?_;intro w3 hm3 hg3)
       |fail)
       go_roundw
       case rel =>
        have h64:=HFa.out.2.1
        obtain ⟨k1,k2,k3⟩:=laid_keep HBi.out HSi.out HG.out hg3
        have hh:=HLe.out
        rw [putAll_cons (fun y' hy => by rw [HM0.out] at hy;cases hy;exact HN.out)] at hh
        exact ⟨i + 1,by omega,by rw [show wrap64 ((i : Int) + 1) = ((i + 1 : Nat) : Int) by unfold wrap64;omega],⟨k1⟩,⟨k2⟩,⟨k3⟩,⟨⟨_,hm3,by rw [show p.f0 + ((i + 1 : Nat) : Int) = p.f0 + (i : Int) + 1 by omega];exact hh⟩⟩⟩
       case measure => have h64:=HFa.out.2.1;rw [show wrap64 ((i : Int) + 1) = ((i + 1 : Nat) : Int) by unfold wrap64;omega];simp [intOf];omega
    ·obtain ⟨M',HMi,HLi⟩:=HXi.out
     have hii : i = p.f1.length:=by omega
     have hb64:=HFa.out
     unfold Fits at hb64
     have HB64:=am hb64
     have HHI:=am hii
     have HMe:=am HMi
     have HLe:=am HLi
     clear HMi HLi HXi hb64 hii
     go_wp2
     go_roundw
     case rel =>
      have h1:=HLe.out
      have h2:=HHI.out
      have h3:=HB64.out
      have h4:=HMe.out
      rw [h2] at h1 h4
      rw [List.drop_eq_nil_of_le (Nat.le_refl _)] at h1
      exact ⟨j + 1,by omega,by go_num,HBi,⟨by have:=HSi.out;omega⟩,⟨⟨M',MapIs.mono h4 (by omega),h1⟩⟩⟩
     case measure => simp [intOf];omega
  ·go_wp2
   go_ret2
   obtain ⟨M,HM,HL⟩:=HX.out
   rw [List.drop_eq_nil_of_le (by omega)] at HL
   exact ⟨HB.out,Or.inr ⟨M,HL.symm,rfl,MapIs.mono HM (by omega)⟩⟩
end
section
attribute [local go_sem high] eqA29
def pieceP (p : S34) : Bool:=decide (1 ≤ (p.f1.length : Int) ∧ (p.f1.length : Int) ≤ 64) && (decide (0 ≤ p.f0 ∧ p.f0 ≤ 64 - (p.f1.length : Int)) && followsP p.f1)
theorem pieceP_fits {p : S34} (h : pieceP p = true) : Fits p:=by
 unfold pieceP at h
 simp only [Bool.and_eq_true,decide_eq_true_eq] at h
 unfold Fits
 omega
def ordered (M : Laid) : Nat → Int → Int → Bool
|0,_,_ => true
|d + 1,i,day => match M i with
 |none => ordered M d (i + 1) day
 |some x => if x.f0 < day then false else ordered M d (i + 1) x.f0
def checkPiecesP (l : List S34) : Int :=
 if 12 < l.length then 2 else if l.all pieceP then (match laidP l with|none => 9|some M => if ordered M 64 0 0 then 0 else 9) else 1
def book_CheckPieces.f (l0 : List S34) : Option Int:=some (checkPiecesP l0)
set_option maxRecDepth 100000 in
set_option maxHeartbeats 1000000 in
theorem book_CheckPieces.calls (A0 : Option Addr) (c0 : Nat) (l0 : List S34) (r : Int) (w : World) (hr0 : Kd.C k34 w A0 l0.length l0) (hc0 : l0.length ≤ c0) (h : book_CheckPieces.f l0 = some r) :
  Calls Try.prog 63 #[.slice A0 l0.length c0] w fun e w' => e = .returned (.int .i64 r) ∧ Below w.heap.size w w':=by
 have H:=Option.some.inj h
 clear h
 have HR0:=am hr0
 have HC0:=am hc0
 clear hr0 hc0
 have hu29:=Try.underlying29
 have hu34:=Try.underlying34
 have hn:=run_not
 unfold checkPiecesP at H
 by_cases h12 : 12 < l0.length
 ·rw [if_pos h12] at H
  subst H
  have g1 : decide ((12 : Int) < (l0.length : Int)) = true:=by simp;omega
  have g2 : decide (12 < l0.length) = true:=by simp;omega
  clear h12
  go_enter Try.func63,Try.ntmps63
  go_wp2
  go_ret
  exact ⟨rfl,Below.refl _ _⟩
 ·rw [if_neg h12] at H
  have HH:=am H
  have h12' : l0.length ≤ 12:=by omega
  have g1 : decide ((12 : Int) < (l0.length : Int)) = false:=by simp;omega
  have g2 : decide (12 < l0.length) = false:=by simp;omega
  clear h12 H
  go_enter Try.func63,Try.ntmps63
  go_wp2
  go_loopw [16] (fun v16 wr => ∃ j : Nat,j ≤ l0.length ∧ v16 = .int .i64 (j : Int) ∧ Aside0 (Below w.heap.size w wr) ∧ Aside0 (∀ p ∈ l0.take j,pieceP p = true)) (fun v16 _ => l0.length - (intOf v16).toNat)
  case atStart => exact ⟨0,Nat.zero_le _,rfl,⟨Below.refl _ _⟩,⟨by simp⟩⟩
  case round =>
   rename World => wo
   obtain ⟨j,hj,rfl,HB,HA⟩:=hrel
   by_cases hlt : j < l0.length
   ·obtain ⟨ad,A1,c1,e,hy0,hy1,hle1,hC1⟩:=at_T34 (Kd.C_below HR0.out HB.out) (j : Int) (by omega) (by omega)
    cases e
    rw [Int.toNat_natCast] at hy0 hy1
    have HT:=am (show l0.take (j + 1) = l0.take j ++ [rd_T34 l0 (j : Int)] by rw [List.take_succ_eq_append_getElem hlt];unfold rd_T34;simp [List.getD_eq_getElem?_getD,List.getElem?_eq_getElem hlt])
    have HMm:=am (show rd_T34 l0 (j : Int) ∈ l0 by unfold rd_T34;simp [List.getD_eq_getElem?_getD,List.getElem?_eq_getElem hlt])
    obtain ⟨p,hp⟩ : ∃ p,p = rd_T34 l0 (j : Int):=⟨_,rfl⟩
    rw [← hp] at hy0 hy1 hle1 hC1 HT HMm
    have HC1:=am hC1
    have HLE:=am hle1
    clear hC1 hle1 hp
    have HBad:=am (show pieceP p = false → r = 1 by
     intro hbad
     have hh:=HH.out
     rw [if_neg] at hh
     ·exact hh.symm
     ·intro hall
      rw [List.all_eq_true] at hall
      rw [hall p HMm.out] at hbad
      cases hbad)
    have W1:=am (within_some (p.f1.length : Int) 1 64)
    have W2:=am (within_some p.f0 0 (64 - (p.f1.length : Int)))
    by_cases h1 : 1 ≤ (p.f1.length : Int) ∧ (p.f1.length : Int) ≤ 64
    ·rw [decide_eq_true h1] at W1
     have hsub : wrap64 (64 - (p.f1.length : Int)) = 64 - (p.f1.length : Int):=by unfold wrap64;omega
     have hsub2 : IntKind.i64.wrap (64 - (p.f1.length : Int)) = 64 - (p.f1.length : Int):=by rw [IntKind.wrap_i64];omega
     by_cases h2 : 0 ≤ p.f0 ∧ p.f0 ≤ 64 - (p.f1.length : Int)
     ·rw [decide_eq_true h2] at W2
      have HF:=am (follows_some p.f1 (by omega))
      have HPV:=am (show pieceP p = followsP p.f1 by unfold pieceP;simp [h1,h2])
      clear h1 h2
      cases hf : followsP p.f1 with
     |true =>
       rw [hf] at HF HPV
       clear hf
       go_wp2_with fail
       refine (book_within.calls _ _ _ _ _ W1.out).mono ?_
       rintro e w' ⟨rfl,n1,rfl⟩
       go_wp2_with fail
       refine (book_within.calls _ _ _ _ _ W2.out).mono ?_
       rintro e w' ⟨rfl,n2,rfl⟩
       go_wp2_with fail
       have BB : ∀ q o,Below w.heap.size w ((wo.alloc o).drewN q):=fun q o => pw_below_drewN (below_alloc HB.out o) q
       refine (book_follows.calls _ _ _ _ _ _ (Kd.C_drewN (Kd.C_alloc HC1.out _) _) HLE.out HF.out).mono ?_
       rintro e w1 ⟨rfl,hd⟩
       have HD:=am hd
       clear hd
       go_wp2
       go_roundw
       case rel => exact ⟨j + 1,by omega,by go_num,⟨below_then (BB _ _) (below_size (BB _ _)) HD.out⟩,⟨fun q hq => by rw [HT.out,List.mem_append] at hq;rcases hq with hq|hq;exact HA.out q hq;rw [List.mem_singleton.1 hq];exact HPV.out⟩⟩
       case measure => simp [intOf];omega
     |false =>
       rw [hf] at HF HPV
       clear hf
       have HR1:=HBad.out HPV.out
       subst HR1
       go_wp2_with fail
       refine (book_within.calls _ _ _ _ _ W1.out).mono ?_
       rintro e w' ⟨rfl,n1,rfl⟩
       go_wp2_with fail
       refine (book_within.calls _ _ _ _ _ W2.out).mono ?_
       rintro e w' ⟨rfl,n2,rfl⟩
       go_wp2_with fail
       have BB : ∀ q o,Below w.heap.size w ((wo.alloc o).drewN q):=fun q o => pw_below_drewN (below_alloc HB.out o) q
       refine (book_follows.calls _ _ _ _ _ _ (Kd.C_drewN (Kd.C_alloc HC1.out _) _) HLE.out HF.out).mono ?_
       rintro e w1 ⟨rfl,hd⟩
       have HD:=am hd
       clear hd
       go_wp2
       refine bodyPost_ret (v:=.int .i64 1) (by simp [results,Try.results63,go_sem]) rfl ⟨rfl,below_then (BB _ _) (below_size (BB _ _)) HD.out⟩
     ·rw [decide_eq_false h2] at W2
      have HR1:=HBad.out (by unfold pieceP;simp [h2])
      subst HR1
      clear h1 h2
      go_wp2_with fail
      refine (book_within.calls _ _ _ _ _ W1.out).mono ?_
      rintro e w' ⟨rfl,n1,rfl⟩
      go_wp2_with fail
      refine (book_within.calls _ _ _ _ _ W2.out).mono ?_
      rintro e w' ⟨rfl,n2,rfl⟩
      go_wp2
      refine bodyPost_ret (v:=.int .i64 1) (by simp [results,Try.results63,go_sem]) rfl ⟨rfl,pw_below_drewN (below_alloc HB.out _) _⟩
    ·rw [decide_eq_false h1] at W1
     have HR1:=HBad.out (by unfold pieceP;simp only [decide_eq_false h1,Bool.false_and])
     subst HR1
     clear h1
     go_wp2_with fail
     refine (book_within.calls _ _ _ _ _ W1.out).mono ?_
     rintro e w' ⟨rfl,n1,rfl⟩
     go_wp2
     refine bodyPost_ret (v:=.int .i64 1) (by simp [results,Try.results63,go_sem]) rfl ⟨rfl,pw_below_drewN (below_alloc HB.out _) _⟩
   ·have HAll:=am (show l0.all pieceP = true by rw [List.all_eq_true];intro q hq;exact HA.out q (by rw [List.take_of_length_le (by omega)];exact hq))
    have hh:=HH.out
    rw [if_pos HAll.out] at hh
    have HH2:=am hh
    clear hh
    go_wp2_with fail
    refine (laid_calls _ _ _ _ (Kd.C_below HR0.out HB.out) HC0.out h12' (fun q hq => pieceP_fits (by have:=HAll.out;rw [List.all_eq_true] at this;exact this q hq))).mono ?_
    rintro e w1 ⟨hd,hres⟩
    rcases hres with ⟨hl,rfl⟩|⟨M,hl,rfl,hM⟩
    ·have hh:=HH2.out
     rw [hl] at hh
     subst hh
     go_wp2
     refine bodyPost_ret (v:=.int .i64 9) (by simp [results,Try.results63,go_sem]) rfl ⟨rfl,below_then HB.out (below_size HB.out) hd⟩
    ·have hh:=HH2.out
     rw [hl] at hh
     replace hh : (if ordered M 64 0 0 = true then (0 : Int) else 9) = r:=hh
     have HO:=am hh
     have HD:=am (below_then HB.out (below_size HB.out) hd)
     have HMM:=am hM
     clear hh hl hd hM
     obtain ⟨b,hb⟩ : ∃ b,b = wo.heap.size:=⟨_,rfl⟩
     rw [← hb] at HMM ⊢
     clear hb
     go_wp2
     go_loopw [7,49] (fun v7 v49 wr => ∃ (i : Nat) (day : Int),i ≤ 64 ∧ v49 = .int .i64 (i : Int) ∧ v7 = .int .i64 day ∧ Aside0 (Below w.heap.size w wr) ∧ Aside0 (MapsTo wr b 1000 M) ∧ Aside0 ((if ordered M (64 - i) i day = true then (0 : Int) else 9) = r)) (fun _ v49 _ => 64 - (intOf v49).toNat)
     case atStart => exact ⟨0,0,by omega,rfl,rfl,HD,HMM,HO⟩
     case round =>
      rename World => wi
      obtain ⟨i,day,hi,rfl,rfl,HB,HM,HR⟩:=hrel
      by_cases hlt : i < 64
      ·obtain ⟨d,hd⟩ : ∃ d,64 - i = d + 1:=⟨63 - i,by omega⟩
       have hr:=HR.out
       rw [hd] at hr
       have hd2 : d = 64 - (i + 1):=by omega
       have HKEY:=am (show keyOf Try.prog 3 (ekI (i : Int)) = some (.int .i64 (i : Int)) from Go.Maps.keyOf_int_mk Try.underlying3 (by have e : wrap64 (i : Int) = (i : Int):=by {unfold wrap64;omega};rw [← e];exact wrap64_wf _))
       have HW:=am (show wrap64 ((i : Int) + 1) = ((i + 1 : Nat) : Int) by unfold wrap64;omega)
       cases hm : M (i : Int) with
      |none =>
        have hr2 : (if ordered M d ((i : Int) + 1) day = true then (0 : Int) else 9) = r:=by
         rw [← hr];simp only [ordered,hm]
        rw [hd2] at hr2
        have HR2:=am hr2
        have HM0:=am hm
        clear hr hr2 hm hd hd2
        go_wp2_with (first
        |(at_lookup;refine wpList_lookup_map _ rfl _ _ 130 true rfl 3 29 law3 Try.underlying130 _ (zero29 _) ekI ev29 b 1000 M rfl HM.out (i : Int) _ rfl HKEY.out (.tuple #[.agg #[.int .i64 0,.int .i64 0,.int .i64 0,.int .i64 0],.bool false]) (by rw [HM0.out];rfl) ?_)
        |fail)
        go_roundw
        case rel => exact ⟨i + 1,day,by omega,by push_cast;rfl,rfl,⟨below_alloc HB.out _⟩,⟨HM.out.alloc _⟩,HR2⟩
        case measure => simp [intOf];omega
      |some x =>
        have HM0:=am hm
        by_cases hx : x.f0 < day
        ·have hr2 : (9 : Int) = r:=by
          rw [← hr];simp [ordered,hm,hx]
         subst hr2
         have hxb : decide (x.f0 < day) = true:=by simp [hx]
         clear hr hm hd hd2 HR HH HH2 HO
         go_wp2_with (first
         |(at_lookup;refine wpList_lookup_map _ rfl _ _ 130 true rfl 3 29 law3 Try.underlying130 _ (zero29 _) ekI ev29 b 1000 M rfl HM.out (i : Int) _ rfl HKEY.out (.tuple #[.agg #[.int .i64 x.f0,.int .i64 x.f1,.int .i64 x.f2,.int .i64 x.f3],.bool true]) (by rw [HM0.out];rfl) ?_)
         |fail)
         refine bodyPost_ret (v:=.int .i64 9) (by simp [results,Try.results63,go_sem]) rfl ⟨rfl,below_alloc HB.out _⟩
        ·have hr2 : (if ordered M d ((i : Int) + 1) x.f0 = true then (0 : Int) else 9) = r:=by
          rw [← hr];simp [ordered,hm,hx]
         rw [hd2] at hr2
         have HR2:=am hr2
         have hxb : decide (x.f0 < day) = false:=by simp;omega
         clear hr hr2 hm hd hd2
         go_wp2_with (first
         |(at_lookup;refine wpList_lookup_map _ rfl _ _ 130 true rfl 3 29 law3 Try.underlying130 _ (zero29 _) ekI ev29 b 1000 M rfl HM.out (i : Int) _ rfl HKEY.out (.tuple #[.agg #[.int .i64 x.f0,.int .i64 x.f1,.int .i64 x.f2,.int .i64 x.f3],.bool true]) (by rw [HM0.out];rfl) ?_)
         |fail)
         go_roundw
         case rel => exact ⟨i + 1,x.f0,by omega,by push_cast;rfl,rfl,⟨below_alloc HB.out _⟩,⟨HM.out.alloc _⟩,HR2⟩
         case measure => simp [intOf];omega
      ·have hr:=HR.out
       rw [show 64 - i = 0 by omega] at hr
       replace hr : (0 : Int) = r:=hr
       subst hr
       clear HR HH HH2 HO
       go_wp2
       refine bodyPost_ret (v:=.int .i64 0) (by simp [results,Try.results63,go_sem]) rfl ⟨rfl,HB.out⟩
end
section
attribute [local go_sem high] eqA29
def R23_14.T : Bool × List (List Nat × List Nat):=(true,[([],[]),([],[]),([1],[1]),([2],[2]),([3],[3]),([],[]),([5],[5]),([4,6],[4,6]),([0,0,1,2,3,4,5,6,7],[0]),([8,0,1,2,3,4,5,6,7],[8]),([9,7,7,0,1,2,3,4,5,6,7],[7,9])])
def R23_14.B : List Nat:=[0,0,2,6,14,0,32,126,255,511,1023]
theorem R23_14.tab : rtab .any (opsOf Try.f23 14) = R23_14.T:=by kernel_rfl
theorem R23_14.bits : waitsOk R23_14.T.2 R23_14.B = true:=by kernel_rfl
theorem MapIs.grown {P : Program} {k : TypeId} {κ ν : Type} {ek : κ → Value} {ev : ν → Value} {w w1 : World} {b n : Nat} {M : κ → Option ν} (h : MapIs P k ek ev w b n M) {row : Option Nat} (hg : w.grownBy w1 row) (hne : some b ≠ row) : MapIs P k ek ev w1 b n M :=
 h.keep (hg.block b h.lt hne)
def addLast (out : List S34) (x : S29) : List S34:=out.set (out.length - 1) ⟨(out.getD (out.length - 1) z34).f0,(out.getD (out.length - 1) z34).f1 ++ [x]⟩
def joinFrom (M : Laid) : Nat → Int → List S34 → List S34
|0,_,out => out
|d + 1,i,out => match M i with
 |none => joinFrom M d (i + 1) out
 |some x => if (M (i - 1)).isSome then joinFrom M d (i + 1) (addLast out x) else joinFrom M d (i + 1) (out ++ [⟨i,[x]⟩])
def joinP (l : List S34) : List S34 × Int:=match laidP l with
|none => ([],checkPiecesP l)
|some M => if checkPiecesP l = 0 then (joinFrom M 64 0 [],0) else ([],checkPiecesP l)
theorem putAll_low : ∀ (xs : List S29) (M M' : Laid) (i k : Int),putAll M i xs = some M' → k < i → M' k = M k
|[],M,M',i,k,h,_ => by
  have:=Option.some.inj h
  rw [this]
|x :: r,M,M',i,k,h,hk => by
  rw [putAll] at h
  split at h
  ·cases h
  ·rw [putAll_low r _ M' (i + 1) k h (by omega)]
   unfold putM
   rw [if_neg (by omega)]
theorem laidFrom_neg : ∀ (l : List S34) (M M' : Laid) (k : Int),(∀ p ∈ l,0 ≤ p.f0) → k < 0 → laidFrom M l = some M' → M' k = M k
|[],M,M',k,_,_,h => by
  have:=Option.some.inj h
  rw [this]
|p :: r,M,M',k,hp,hk,h => by
  rw [laidFrom] at h
  obtain ⟨M1,h1,h2⟩:=Option.bind_eq_some_iff.1 h
  rw [laidFrom_neg r M1 M' k (fun q hq => hp q (List.mem_cons_of_mem _ hq)) hk h2]
  exact putAll_low p.f1 M M1 p.f0 k h1 (by have:=hp p List.mem_cons_self;omega)
theorem checkPieces_ok {l : List S34} (h : checkPiecesP l = 0) : l.length ≤ 12 ∧ (∀ p ∈ l,pieceP p = true) ∧ ∃ M,laidP l = some M ∧ ordered M 64 0 0 = true ∧ ∀ k,k < 0 → M k = none:=by
 unfold checkPiecesP at h
 split at h
 ·cases h
 ·split at h
  ·rename_i h1 h2
   rw [List.all_eq_true] at h2
   split at h
   ·cases h
   ·rename_i M hM
    split at h
    ·rename_i ho
     refine ⟨by omega,h2,M,hM,ho,fun k hk => ?_⟩
     exact laidFrom_neg l _ M k (fun p hp => (pieceP_fits (h2 p hp)).2.2.1) hk hM
    ·cases h
  ·cases h
theorem box29 (W : World) (x : S29) (base : Nat) (hb : base ≤ W.heap.size) : Kd.R k29 29 (W.alloc (.cells #[.int .i64 x.f0,.int .i64 x.f1,.int .i64 x.f2,.int .i64 x.f3] 29)) base (fun k => k = W.heap.size) (.slice (some ⟨W.heap.size,0,none⟩) 1 1) [x]:=by
 refine ⟨fun k hk => (show W.heap.size = k by simpa [Value.ownBlock] using hk).symm,?_⟩
 exact OwnRow.lit (ps:=[x]) W base (inner:=[.int .i64 x.f0,.int .i64 x.f1,.int .i64 x.f2,.int .i64 x.f3]) (Reps.front (k29_mkM _ _ _ x) rfl (Reps.none _ _) rfl) hb (by simp)
theorem join_new {ops : Array Oper} {rest : List Oper} {o : Oper} {a : Act} {Q : Exit → Act → World → Prop} {w wr : World} {b : Nat} {M : Laid} {v7 : Value} {out : List S34} (i : Nat) (x : S29) {o9 o11 : Obj} (hgd : o.guard = none) (s y : Operand)
  (ho : o.op = .call { callee:=.builtin .append,args:=#[s,y],argTypes:=#[22,22] }) (hs : a.eval s = v7) (hx : a.eval y = .slice (some ⟨wr.heap.size + 1 + 1 + 1,0,none⟩) 1 1)
  (HB : Below w.heap.size w wr) (HM : MapsTo wr b 1000 M) (HS : Kd.S k34 34 wr w.heap.size (fun k => k ≠ b) v7 out) (hl : out.length ≤ 64)
  (h : ∀ v1 w3,Kd.S k34 34 w3 w.heap.size (fun k => k ≠ b) v1 (out ++ [(⟨(i : Int),[x]⟩ : S34)]) → Below w.heap.size w w3 → MapsTo w3 b 1000 M → wpList Try.prog ops Q rest (a.put o.dst v1) w3) :
  wpList Try.prog ops Q (o :: rest) a ((((wr.alloc o9).alloc o11).alloc (.cells #[.int .i64 x.f0,.int .i64 x.f1,.int .i64 x.f2,.int .i64 x.f3] 29)).alloc (.cells #[.int .i64 (i : Int),.slice (some ⟨wr.heap.size + 1 + 1,0,none⟩) 1 1] 34)):=by
 have hbs:=below_size HB
 have hlt:=HM.lt
 have hsz : ∀ o',((((wr.alloc o9).alloc o11).alloc o')).heap.size = wr.heap.size + 1 + 1 + 1:=fun o' => by simp
 refine Kd.S_append k34 (w0:=w) (W:=(((wr.alloc o9).alloc o11).alloc (.cells #[.int .i64 x.f0,.int .i64 x.f1,.int .i64 x.f2,.int .i64 x.f3] 29))) w.heap.size hgd s y 22 34 (.agg #[.int .i64 0,.slice none 0 0]) 32 ho Try.underlying22 info34 rfl (by decide) (by omega) v7 out (⟨(i : Int),[x]⟩ : S34) [.int .i64 (i : Int),.slice (some ⟨wr.heap.size + 1 + 1,0,none⟩) 1 1] (fun k => k ≠ b) (fun k => k = wr.heap.size + 1 + 1) hs (by rw [hsz];exact hx) ?_ ?_ ?_ ?_ ?_ ?_ ?_ ?_
 ·refine k34_mkM _ _ _ (⟨(i : Int),[x]⟩ : S34) ?_
  have hh:=box29 ((wr.alloc o9).alloc o11) x w.heap.size (by simp;omega)
  simp only [World.size_alloc] at hh
  exact hh
 ·intro k hk
  exact ⟨by omega,fun e_ => by have h1:=Kd.S_lt HS k e_.symm;omega⟩
 ·intro k hk
  rw [hsz] at hk
  omega
 ·exact Kd.S_alloc (Kd.S_alloc (Kd.S_alloc (Kd.S_mono (Kd.S_bound HS) (fun k hk => ⟨hk.1,fun e_ => by have:=hk.2.2.1;omega⟩)) _) _) _
 ·exact below_alloc (below_alloc (below_alloc HB _) _) _
 ·rw [hsz];omega
 ·omega
 ·intro v1 w3 hs3 hb3 hg3 hat3
  exact h v1 w3 hs3 hb3 (MapIs.grown (((HM.alloc _).alloc _).alloc _) hg3 (fun e_ => (Kd.S_R HS).1 b e_.symm rfl))
def book_Join.f (l0 : List S34) : Option (List S34 × Int):=some (joinP l0)
set_option maxRecDepth 100000 in
set_option maxHeartbeats 1000000 in
theorem book_Join.calls (A0 : Option Addr) (c0 : Nat) (l0 : List S34) (r1 : List S34) (r2 : Int) (w : World) (hr0 : Kd.C k34 w A0 l0.length l0) (hc0 : l0.length ≤ c0) (h : book_Join.f l0 = some (r1,r2)) :
  Calls Try.prog 23 #[.slice A0 l0.length c0] w fun e w' => ∃ v_ : Value,e = .returned (.tuple #[v_,.int .i64 r2]) ∧ Kd.S k34 34 w' w.heap.size (fun _ => True) v_ r1 ∧ Below w.heap.size w w':=by
 have H:=Option.some.inj h
 clear h
 have HR0:=am hr0
 have HC0:=am hc0
 clear hr0 hc0
 have hu29:=Try.underlying29
 have hu34:=Try.underlying34
 have hn:=run_not
 have HCh:=am (show book_CheckPieces.f l0 = some (checkPiecesP l0) from rfl)
 unfold joinP at H
 by_cases hc : checkPiecesP l0 = 0
 ·obtain ⟨h12,hall,M,hM,hord,hneg⟩:=checkPieces_ok hc
  rw [hM] at H
  replace H : (if checkPiecesP l0 = 0 then (joinFrom M 64 0 [],(0 : Int)) else ([],checkPiecesP l0)) = (r1,r2):=H
  rw [if_pos hc] at H
  simp only [Prod.mk.injEq] at H
  obtain ⟨hj,rfl⟩:=H
  rw [hc] at HCh
  have HJ:=am hj
  have HN:=am hneg
  have HL:=am hM
  have HA:=am (show ∀ q ∈ l0,Fits q from fun q hq => pieceP_fits (hall q hq))
  have H12:=am h12
  clear hc h12 hall hM hord hneg hj
  go_enter Try.func23,Try.ntmps23
  go_wp2_with fail
  refine (book_CheckPieces.calls _ _ _ _ _ HR0.out HC0.out HCh.out).mono ?_
  rintro e w1 ⟨rfl,hd⟩
  have HD:=am hd
  clear hd
  go_wp2_with fail
  refine (laid_calls _ _ _ _ (Kd.C_below HR0.out HD.out) HC0.out H12.out HA.out).mono ?_
  rintro e w2 ⟨hd,hres⟩
  rcases hres with ⟨hl,rfl⟩|⟨M',hl,rfl,hm⟩
  ·exact absurd (HL.out.symm.trans hl) (by simp)
  ·obtain rfl : M = M':=Option.some.inj (HL.out.symm.trans hl)
   have HB:=am (below_then HD.out (below_size HD.out) hd)
   have HM:=am hm
   have HSZ:=am (show w.heap.size ≤ w1.heap.size from below_size HD.out)
   clear hl hd hm
   obtain ⟨b,hb⟩ : ∃ b,b = w1.heap.size:=⟨_,rfl⟩
   rw [← hb] at HM ⊢
   have HBB:=am (show w.heap.size ≤ b by rw [hb];exact HSZ.out)
   clear hb
   go_wp2
   go_loopw [7,24] (fun v7 v24 wr => ∃ (i : Nat) (out : List S34),i ≤ 64 ∧ v24 = .int .i64 (i : Int) ∧ Aside0 (Below w.heap.size w wr) ∧ Aside0 (MapsTo wr b 1000 M) ∧ Aside0 (Kd.S k34 34 wr w.heap.size (fun k => k ≠ b) v7 out) ∧ Aside0 (out.length ≤ i ∧ (∀ p ∈ out,p.f1.length ≤ i) ∧ ((M ((i : Int) - 1)).isSome = true → 0 < out.length)) ∧ Aside0 (joinFrom M (64 - i) i out = r1)) (fun _ v24 _ => 64 - (intOf v24).toNat)
   case atStart => exact ⟨0,[],by omega,rfl,HB,HM,⟨Kd.S_nil _ _ _ _ _⟩,⟨by simp,by simp,by rw [HN.out _ (by omega)];simp⟩,HJ⟩
   case round =>
    obtain ⟨i,out,hi,rfl,HBr,HMr,HS,HI,HJr⟩:=hrel
    obtain ⟨A7,c7,rfl⟩:=Kd.S_slice HS.out
    by_cases hlt : i < 64
    ·obtain ⟨d,hd⟩ : ∃ d,64 - i = d + 1:=⟨63 - i,by omega⟩
     have hr:=HJr.out
     rw [hd] at hr
     have hd2 : d = 64 - (i + 1):=by omega
     have HKEY:=am (show keyOf Try.prog 3 (ekI (i : Int)) = some (.int .i64 (i : Int)) from Go.Maps.keyOf_int_mk Try.underlying3 (by have e : wrap64 (i : Int) = (i : Int):=by {unfold wrap64;omega};rw [← e];exact wrap64_wf _))
     have HKEY2:=am (show keyOf Try.prog 3 (ekI ((i : Int) - 1)) = some (.int .i64 ((i : Int) - 1)) from Go.Maps.keyOf_int_mk Try.underlying3 (by have e : wrap64 ((i : Int) - 1) = (i : Int) - 1:=by {unfold wrap64;omega};rw [← e];exact wrap64_wf _))
     have hwm : wrap64 ((i : Int) - 1) = (i : Int) - 1:=by unfold wrap64;omega
     have hwm2 : IntKind.i64.wrap ((i : Int) - 1) = (i : Int) - 1:=by rw [IntKind.wrap_i64];omega
     cases hm : M (i : Int) with
    |none =>
      have hr2 : joinFrom M d ((i : Int) + 1) out = r1:=by rw [← hr];simp only [joinFrom,hm]
      rw [hd2] at hr2
      have HR2:=am hr2
      have HM0:=am hm
      clear hr hr2 hm hd hd2
      go_wp2_with (first
      |(at_lookup;refine wpList_lookup_map _ rfl _ _ 130 true rfl 3 29 law3 Try.underlying130 _ (zero29 _) ekI ev29 b 1000 M rfl HMr.out (i : Int) _ rfl HKEY.out (.tuple #[.agg #[.int .i64 0,.int .i64 0,.int .i64 0,.int .i64 0],.bool false]) (by rw [HM0.out];rfl) ?_)
      |fail)
      go_roundw
      case rel =>
       obtain ⟨k1,k2,k3⟩:=HI.out
       exact ⟨i + 1,out,by omega,by push_cast;rfl,⟨below_alloc HBr.out _⟩,⟨HMr.out.alloc _⟩,⟨Kd.S_alloc HS.out _⟩,⟨by omega,fun p hp => by have:=k2 p hp;omega,fun hh => by rw [show ((i + 1 : Nat) : Int) - 1 = (i : Int) by omega,HM0.out] at hh;cases hh⟩,HR2⟩
      case measure => simp [intOf];omega
    |some x =>
      have HM0:=am hm
      cases hm1 : M ((i : Int) - 1) with
     |none =>
       have hr2 : joinFrom M d ((i : Int) + 1) (out ++ [⟨(i : Int),[x]⟩]) = r1:=by rw [← hr];simp [joinFrom,hm,hm1]
       rw [hd2] at hr2
       have HR2:=am hr2
       have HM1:=am hm1
       clear hr hr2 hm hm1 hd hd2
       go_wp2_with (first
       |(at_lookup;refine wpList_lookup_map _ rfl _ _ 130 true rfl 3 29 law3 Try.underlying130 _ (zero29 _) ekI ev29 b 1000 M rfl HMr.out (i : Int) _ rfl HKEY.out (.tuple #[.agg #[.int .i64 x.f0,.int .i64 x.f1,.int .i64 x.f2,.int .i64 x.f3],.bool true]) (by rw [HM0.out];rfl) ?_)
       |(at_lookup;refine wpList_lookup_map _ rfl _ _ 130 true rfl 3 29 law3 Try.underlying130 _ (zero29 _) ekI ev29 b 1000 M rfl (HMr.out.alloc _) ((i : Int) - 1) _ rfl HKEY2.out (.tuple #[.agg #[.int .i64 0,.int .i64 0,.int .i64 0,.int .i64 0],.bool false]) (by rw [HM1.out];rfl) ?_)
       |(at_builtin;refine join_new i x rfl _ _ rfl rfl rfl HBr.out HMr.out HS.out (by have:=HI.out.1;omega) ?_;intro v1 w3 hs3 hb3 hm3)
       |fail)
       have HS3:=am hs3
       have HB3:=am hb3
       have HM3:=am hm3
       clear hs3 hb3 hm3
       go_roundw
       case rel =>
        obtain ⟨k1,k2,k3⟩:=HI.out
        exact ⟨i + 1,_,by omega,by push_cast;rfl,HB3,HM3,HS3,⟨by simp;omega,fun p hp => by
         rcases List.mem_append.1 hp with hp|hp
         ·have:=k2 p hp;omega
         ·rw [List.mem_singleton.1 hp];simp,fun _ => by simp⟩,HR2⟩
       case measure => simp [intOf];omega
     |some y =>
       have hr2 : joinFrom M d ((i : Int) + 1) (addLast out x) = r1:=by rw [← hr];simp [joinFrom,hm,hm1]
       rw [hd2] at hr2
       have HR2:=am hr2
       have HM1:=am hm1
       have hpos : 0 < out.length:=HI.out.2.2 (by rw [hm1];rfl)
       clear hr hr2 hm hm1 hd hd2
       obtain ⟨g,cap,e7,hbg,hgs,cg,hgc⟩:=Kd.S_form HS.out hpos
       injection e7 with e7a e7b e7c
       subst e7a e7c
       have HGC:=am (And.intro hbg hgs)
       have HGT:=am hgc
       clear hbg hgs hgc
       have hob:=HI.out.1
       have hwo : wrap64 ((out.length : Int) - 1) = (out.length : Int) - 1:=by unfold wrap64;omega
       have hwo2 : IntKind.i64.wrap ((out.length : Int) - 1) = (out.length : Int) - 1:=by rw [IntKind.wrap_i64];omega
       have hq0 : decide ((0 : Int) ≤ (out.length : Int) - 1) = true:=by simp;omega
       have hq1 : decide ((out.length : Int) - 1 < (out.length : Int)) = true:=by simp;omega
       clear hob
       go_wp2_with (first
       |(at_lookup;refine wpList_lookup_map _ rfl _ _ 130 true rfl 3 29 law3 Try.underlying130 _ (zero29 _) ekI ev29 b 1000 M rfl HMr.out (i : Int) _ rfl HKEY.out (.tuple #[.agg #[.int .i64 x.f0,.int .i64 x.f1,.int .i64 x.f2,.int .i64 x.f3],.bool true]) (by rw [HM0.out];rfl) ?_)
       |(at_lookup;refine wpList_lookup_map _ rfl _ _ 130 true rfl 3 29 law3 Try.underlying130 _ (zero29 _) ekI ev29 b 1000 M rfl (HMr.out.alloc _) ((i : Int) - 1) _ rfl HKEY2.out (.tuple #[.agg #[.int .i64 y.f0,.int .i64 y.f1,.int .i64 y.f2,.int .i64 y.f3],.bool true]) (by rw [HM1.out];rfl) ?_)
       |fail)
       obtain ⟨m,hm⟩ : ∃ m,m = out.length - 1:=⟨_,rfl⟩
       have HSW:=Kd.S_drew (Kd.S_alloc (Kd.S_alloc HS.out (.cells #[.int .i64 x.f0,.int .i64 x.f1,.int .i64 x.f2,.int .i64 x.f3] 29)) (.cells #[.int .i64 y.f0,.int .i64 y.f1,.int .i64 y.f2,.int .i64 y.f3] 29))
       obtain ⟨oki,ce,hcl,hMM,hcc,hfr,hoki,hH⟩:=Kd.S_elem HSW z34 (m : Int) (by omega) (by omega)
       rw [Int.toNat_natCast] at hMM
       obtain ⟨v1,rfl,ge⟩:=k34_openM hMM
       have hv1:=hcc 1 _ rfl
       rw [Int.toNat_natCast,show k34.sz = 2 from rfl] at hv1
       obtain ⟨p,hp⟩ : ∃ p,p = out.getD m z34:=⟨_,rfl⟩
       rw [← hp] at ge hH
       obtain ⟨A1,c1,rfl⟩:=Kd.R_slice ge
       have UU:=am (show Kd.R k29 29 _ w.heap.size oki (.slice A1 p.f1.length c1) p.f1 from ge)
       have HH:=am hH
       have HV:=am hv1
       have HOK:=am hoki
       have HPP:=am (show p.f1.length ≤ i by
        rw [hp];refine HI.out.2.1 _ ?_
        rw [List.getD_eq_getElem?_getD,List.getElem?_eq_getElem (show m < out.length by omega)]
        exact List.getElem_mem _)
       have HADD:=am (show addLast out x = out.set m (⟨p.f0,p.f1 ++ [x]⟩ : S34) by unfold addLast;rw [← hm,← hp])
       have HMO:=am (show m < out.length by omega)
       rw [← hm]
       have BK9:=am (blk_drew (blk_alloc (blk_new' wr (.cells #[.int .i64 x.f0,.int .i64 x.f1,.int .i64 x.f2,.int .i64 x.f3] 29) wr.heap.size rfl) (.cells #[.int .i64 y.f0,.int .i64 y.f1,.int .i64 y.f2,.int .i64 y.f3] 29)))
       have HBw:=am (below_drew1 (below_alloc (below_alloc HBr.out (.cells #[.int .i64 x.f0,.int .i64 x.f1,.int .i64 x.f2,.int .i64 x.f3] 29)) (.cells #[.int .i64 y.f0,.int .i64 y.f1,.int .i64 y.f2,.int .i64 y.f3] 29)))
       have HMw:=am (show MapsTo (((wr.alloc (.cells #[.int .i64 x.f0,.int .i64 x.f1,.int .i64 x.f2,.int .i64 x.f3] 29)).alloc (.cells #[.int .i64 y.f0,.int .i64 y.f1,.int .i64 y.f2,.int .i64 y.f3] 29)).drew) b 1000 M from (HMr.out.alloc _).alloc _)
       clear hm hp hcl hMM hcc hfr hoki hH hv1 ge HSW hq0 hq1 hpos
       refine start_ (n:=11) (S:=fun w' => w'.cell? ⟨g,m * 2 + 1,none⟩ = some (.slice A1 p.f1.length c1) ∧ w'.cell? ⟨wr.heap.size,0,none⟩ = some (.int .i64 x.f0) ∧ w'.cell? ⟨wr.heap.size,1,none⟩ = some (.int .i64 x.f1) ∧ w'.cell? ⟨wr.heap.size,2,none⟩ = some (.int .i64 x.f2) ∧ w'.cell? ⟨wr.heap.size,3,none⟩ = some (.int .i64 x.f3)) (ds:=[7,10]) #[false,false,false,false,false,false,false,false,false,false,false] kr rfl rfl ⟨HV.out,(blk_cell BK9.out 0).trans rfl,(blk_cell BK9.out 1).trans rfl,(blk_cell BK9.out 2).trans rfl,(blk_cell BK9.out 3).trans rfl⟩ (fun hHeld => ?_);refine with_tabW R23_14.tab R23_14.bits (fun HT_ HW_ => ?_)
       generalize (((wr.alloc (.cells #[.int .i64 x.f0,.int .i64 x.f1,.int .i64 x.f2,.int .i64 x.f3] 29)).alloc (.cells #[.int .i64 y.f0,.int .i64 y.f1,.int .i64 y.f2,.int .i64 y.f3] 29))).drew = wd at BK9 HBw HMw UU HH HV hHeld ⊢
       refine pure_ (i:=0) (N:=(some 48)) (v:=?_) (a':=?_) #[true,false,false,false,false,false,false,false,false,false,false] rfl rfl (any_of HT_.out kr) (fun _ _ _ h => h) (Or.inl ⟨by rfl,?_⟩) ?_ ?_
       rotate_left
       ·intro w'
        go_simp
        with_reducible rfl
       rotate_left
       ·exact vs
       refine pure_ (i:=1) (N:=(some 49)) (v:=?_) (a':=?_) #[true,true,false,false,false,false,false,false,false,false,false] rfl rfl (any_of HT_.out kr) (fun _ _ _ h => h) (Or.inl ⟨by rfl,?_⟩) ?_ ?_
       rotate_left
       ·intro w'
        go_simp
        with_reducible rfl
       rotate_left
       ·exact vs
       refine pure_ (i:=2) (N:=(some 50)) (v:=?_) (a':=?_) #[true,true,true,false,false,false,false,false,false,false,false] rfl rfl (any_of HT_.out kr) (fun _ _ _ h => h) (Or.inl ⟨by rfl,?_⟩) ?_ ?_
       rotate_left
       ·intro w'
        go_simp
        with_reducible rfl
       rotate_left
       ·exact vs
       refine pure_ (i:=3) (N:=(some 51)) (v:=?_) (a':=?_) #[true,true,true,true,false,false,false,false,false,false,false] rfl rfl (any_of HT_.out kr) (fun _ _ _ h => h) (Or.inl ⟨by rfl,?_⟩) ?_ ?_
       rotate_left
       ·intro w'
        go_simp
        with_reducible rfl
       rotate_left
       ·exact vs
       refine take_ (i:=4) (N:=(some 52)) (v:=?_) (a':=?_) #[true,true,true,true,true,false,false,false,false,false,false] rfl rfl (take_ofW HT_.out HW_.out kr) (fun _ _ _ h => h) (Or.inl ⟨by rfl,?_⟩) hHeld ?_ ?_
       rotate_left
       ·rintro w' ⟨s0,s1,s2,s3,s4⟩
        go_simp
        with_reducible rfl
       rotate_left
       ·exact vs
       refine take_ (i:=5) (N:=(some 53)) (v:=?_) (a':=?_) #[true,true,true,true,true,true,false,false,false,false,false] rfl rfl (take_ofW HT_.out HW_.out kr) (fun _ _ _ h => h) (Or.inl ⟨by rfl,?_⟩) hHeld ?_ ?_
       rotate_left
       ·rintro w' ⟨s0,s1,s2,s3,s4⟩
        go_simp
        with_reducible rfl
       rotate_left
       ·exact vs
       refine one_ (i:=6) (N:=(some 54)) #[true,true,true,true,true,true,true,false,false,false,false] rfl rfl (one_of HT_.out kr) (by decide) (fun K hK => ?_)
       refine value_ (w1:=?_) (v:=?_) (by rfl) rfl ?_ ?_
       rotate_left 2
       ·go_simp
        constructor
        ·rfl
        ·rfl
       refine hK.out _ _ ⟨(World.cell?_alloc_lt _ _ _ (wb _ _ (hHeld.1))).trans (hHeld.1),(blk_cell (blk_alloc BK9.out _) 0).trans rfl,(blk_cell (blk_alloc BK9.out _) 1).trans rfl,(blk_cell (blk_alloc BK9.out _) 2).trans rfl,(blk_cell (blk_alloc BK9.out _) 3).trans rfl⟩ (fun hHeld => ?_)
       clear hK K
       refine norm_ (a':=?_) ?_ ?_
       rotate_left
       ·show Act.put _ (some 54) _ = _
        simp only [Act.put,List.setIfInBounds_toArray,List.set_cons_zero,List.set_cons_succ,i64_w,i32_w]
        rfl
       refine last_ (i:=7) (N:=(some 55)) #[true,true,true,true,true,true,true,true,false,false,false] rfl rfl (one_of HT_.out kr) (by decide) (fun K hK => ?_)
       refine Kd.R_append_step k29 (w0:=w) w.heap.size (by rfl) (.tmp 52) (.tmp 54) 32 29 (.agg #[(.int .i64 0),(.int .i64 0),(.int .i64 0),(.int .i64 0)]) 32 rfl Try.underlying32 info29 rfl (by decide) (by omega) (.slice A1 p.f1.length c1) p.f1 x [.int .i64 x.f0,.int .i64 x.f1,.int .i64 x.f2,.int .i64 x.f3] (fun k_ => oki k_ ∨ k_ ≠ b ∧ wd.heap.size ≤ k_) (fun _ => False) rfl rfl ?aP (fun _ hk => hk.elim) ?aF ?aO ?aB ?aS ?aL ?_
       case aP => exact k29_mkM _ _ _ x
       case aF => exact fun k hk => .inr ⟨by have:=HMw.out.lt;omega,hk⟩
       case aO => exact Kd.R_mono UU.out (fun _ hk => .inl hk)
       case aB => exact HBw.out
       case aS => exact below_size HBw.out
       case aL => have:=HPP.out;omega
       intro v2 w3 ho hb hg hat
       have HH3:=Kd.H_grown (Kd.H_widen HH.out) hg (fun k_ e_ => .inl (UU.out.1 k_ e_))
       have HM3:=am (MapIs.grown HMw.out hg (fun e_ => (HOK.out b (UU.out.1 b e_.symm)).1 rfl))
       obtain ⟨A2,c2,rfl⟩:=Kd.R_slice ho
       have hm0 : (0 : Int) ≤ (m : Int):=by omega
       have hm1 : (m : Int) < ((out.length : Nat) : Int):=by have:=HMO.out;omega
       obtain ⟨hat1,hat2⟩:=Kd.H_at HH3 hm0 hm1
       have hx1:=hat1 1 _ rfl
       have hf1:=hat2 1
       rw [Int.toNat_natCast,show k34.sz = 2 from rfl] at hx1 hf1
       have HP:=Kd.S_seg0 HH3 hm0 hm1 (seg:=[.slice A2 (p.f1 ++ [x]).length c2]) (j:=1) (show 2 ≤ 2 from by decide) (x':=(⟨p.f0,p.f1 ++ [x]⟩ : S34)) (k34_mkM _ _ _ (⟨p.f0,p.f1 ++ [x]⟩ : S34) ho) (fun _ hk => hk)
       rw [Int.toNat_natCast,show k34.sz = 2 from rfl] at HP
       have HQ:=am HP.1
       have HB3:=am hb
       clear HP ho hb hg hat HH3 hat1 hat2 hm0 hm1
       refine hK.out _ _ ?_
       clear hK K
       refine norm_ (a':=?_) ?_ ?_
       rotate_left
       ·show Act.put _ (some 55) _ = _
        simp only [Act.put,List.setIfInBounds_toArray,List.set_cons_zero,List.set_cons_succ,i64_w,i32_w]
        rfl
       refine pure_ (i:=8) (N:=(some 56)) (v:=?_) (a':=?_) #[true,true,true,true,true,true,true,true,true,false,false] rfl rfl (any_of HT_.out kr) (fun _ _ _ h => h) (Or.inl ⟨by rfl,?_⟩) ?_ ?_
       rotate_left
       ·intro w'
        go_simp
        with_reducible rfl
       rotate_left
       ·exact vs
       refine pure_ (i:=9) (N:=(some 57)) (v:=?_) (a':=?_) #[true,true,true,true,true,true,true,true,true,true,false] rfl rfl (any_of HT_.out kr) (fun _ _ _ h => h) (Or.inl ⟨by rfl,?_⟩) ?_ ?_
       rotate_left
       ·intro w'
        go_simp
        with_reducible rfl
       rotate_left
       ·exact vs
       refine last_ (i:=10) (N:=none) #[true,true,true,true,true,true,true,true,true,true,true] rfl rfl (one_of HT_.out kr) (by decide) (fun K hK => ?_)
       refine skip_ (w1:=?_) (by rfl) rfl ?_ ?_
       rotate_left
       ·go_simp
        rfl
       refine hK.out _ _ ?_
       clear hK K
       refine done_ (done_of HT_.out kr) ?_
       go_wp2
       go_roundw
       case rel =>
        obtain ⟨k1,k2,k3⟩:=HI.out
        have hgc:=HGC.out
        refine ⟨i + 1,addLast out x,by omega,by push_cast;rfl,⟨below_set HB3.out hgc.1⟩,⟨MapIs.keep HM3.out (Below.heap_setCell _ _ _ b ?_)⟩,⟨by rw [HADD.out];have hq:=HQ.out;simp only [List.length_append,List.length_singleton] at hq;exact hq⟩,⟨by rw [HADD.out];simp;omega,?_,?_⟩,HR2⟩
        ·exact fun e_ => (Kd.S_R HS.out).1 g rfl e_.symm
        ·intro q hq
         rw [HADD.out] at hq
         rcases List.mem_or_eq_of_mem_set hq with hq|hq
         ·have:=k2 q hq;omega
         ·rw [hq];have:=HPP.out;simp;omega
        ·intro _
         rw [HADD.out];simp;have:=HMO.out;omega
       case measure => simp [intOf];omega
    ·have hr:=HJr.out
     rw [show 64 - i = 0 by omega] at hr
     replace hr : out = r1:=hr
     subst hr
     go_wp2
     go_ret2
     exact ⟨_,rfl,Kd.S_mono HS.out (fun _ _ => trivial),HBr.out⟩
 ·have HP:=am (show (([] : List S34),checkPiecesP l0) = (r1,r2) by
   rw [← H];cases laidP l0 with
  |none => rfl
  |some M => show _ = (if checkPiecesP l0 = 0 then (joinFrom M 64 0 [],(0 : Int)) else ([],checkPiecesP l0));rw [if_neg hc])
  have hh:=HP.out
  simp only [Prod.mk.injEq] at hh
  obtain ⟨rfl,rfl⟩:=hh
  have hcb : (checkPiecesP l0 == 0) = false:=by simp [hc]
  obtain ⟨r,hr⟩ : ∃ r,r = checkPiecesP l0:=⟨_,rfl⟩
  rw [← hr] at HCh hcb hc ⊢
  clear H HP hr
  go_enter Try.func23,Try.ntmps23
  go_wp2_with fail
  refine (book_CheckPieces.calls _ _ _ _ _ HR0.out HC0.out HCh.out).mono ?_
  rintro e w1 ⟨rfl,hd⟩
  have HD:=am hd
  clear hd
  go_wp2
  go_ret2
  exact ⟨_,rfl,Kd.S_nil _ _ _ _ _,HD.out⟩
end
def stepMiss (M : Laid) (i : Int) (out : List S39) : List S39 :=
 if (M i).isSome = true then out else if 0 < out.length ∧ (out.getD (out.length - 1) z39).f1 = i - 1 then out.set (out.length - 1) ⟨(out.getD (out.length - 1) z39).f0,i⟩ else out ++ [⟨i,i⟩]
def missFrom (M : Laid) : Nat → Int → List S39 → List S39
|0,_,out => out
|d + 1,i,out => missFrom M d (i + 1) (stepMiss M i out)
def missP (l : List S34) (many : Int) : List S39 × Int :=
 if checkPiecesP l = 0 then (if 0 ≤ many ∧ many ≤ 64 then (match laidP l with|some M => (missFrom M many.toNat 0 [],0)|none => ([],0)) else ([],1)) else ([],checkPiecesP l)
theorem miss_new {ops : Array Oper} {rest : List Oper} {o : Oper} {a : Act} {Q : Exit → Act → World → Prop} {w wr : World} {b : Nat} {M : Laid} {v7 : Value} {out : List S39} (i : Nat) {o9 : Obj} (hgd : o.guard = none) (s y : Operand)
  (ho : o.op = .call { callee:=.builtin .append,args:=#[s,y],argTypes:=#[35,35] }) (hs : a.eval s = v7) (hx : a.eval y = .slice (some ⟨wr.heap.size + 1,0,none⟩) 1 1)
  (HB : Below w.heap.size w wr) (HM : MapsTo wr b 1000 M) (HS : Kd.R k39 39 wr w.heap.size (fun k => k ≠ b) v7 out) (hl : out.length ≤ 64)
  (h : ∀ v1 w3,Kd.R k39 39 w3 w.heap.size (fun k => k ≠ b) v1 (out ++ [(⟨(i : Int),(i : Int)⟩ : S39)]) → Below w.heap.size w w3 → MapsTo w3 b 1000 M → wpList Try.prog ops Q rest (a.put o.dst v1) w3) :
  wpList Try.prog ops Q (o :: rest) a ((wr.alloc o9).alloc (.cells #[.int .i64 (i : Int),.int .i64 (i : Int)] 39)):=by
 have hbs:=below_size HB
 have hlt:=HM.lt
 have hsz : (wr.alloc o9).heap.size = wr.heap.size + 1:=by simp
 refine Kd.R_append k39 (w0:=w) (W:=(wr.alloc o9)) w.heap.size hgd s y 35 39 (.agg #[.int .i64 0,.int .i64 0]) 16 ho Try.underlying35 info39 rfl (by decide) (by omega) v7 out (⟨(i : Int),(i : Int)⟩ : S39) [.int .i64 (i : Int),.int .i64 (i : Int)] (fun k => k ≠ b) (fun _ => False) hs (by rw [hsz];exact hx) (k39_mkM _ _ _ (⟨(i : Int),(i : Int)⟩ : S39)) (fun _ hk => hk.elim) ?_ ?_ ?_ ?_ ?_ ?_
 ·intro k hk
  rw [hsz] at hk
  omega
 ·exact Kd.R_alloc HS _
 ·exact below_alloc HB _
 ·rw [hsz];omega
 ·omega
 ·intro v1 w3 hs3 hb3 hg3 hat3
  exact h v1 w3 hs3 hb3 (MapIs.grown (HM.alloc _) hg3 (fun e_ => HS.1 b e_.symm rfl))
def book_Missing.f (l0 : List S34) (many : Int) : Option (List S39 × Int):=some (missP l0 many)
set_option maxRecDepth 100000 in
set_option maxHeartbeats 1000000 in
theorem book_Missing.calls (A0 : Option Addr) (c0 : Nat) (l0 : List S34) (a1 : Int) (r1 : List S39) (r2 : Int) (w : World) (hr0 : Kd.C k34 w A0 l0.length l0) (hc0 : l0.length ≤ c0) (h : book_Missing.f l0 a1 = some (r1,r2)) :
  Calls Try.prog 25 #[.slice A0 l0.length c0,.int .i64 a1] w fun e w' => ∃ v_ : Value,e = .returned (.tuple #[v_,.int .i64 r2]) ∧ Kd.R k39 39 w' w.heap.size (fun _ => True) v_ r1 ∧ Below w.heap.size w w':=by
 have H:=Option.some.inj h
 clear h
 have HR0:=am hr0
 have HC0:=am hc0
 clear hr0 hc0
 have hu29:=Try.underlying29
 have hu39:=Try.underlying39
 have hn:=run_not
 have HCh:=am (show book_CheckPieces.f l0 = some (checkPiecesP l0) from rfl)
 unfold missP at H
 by_cases hc : checkPiecesP l0 = 0
 ·obtain ⟨h12,hall,M,hM,hord,hneg⟩:=checkPieces_ok hc
  rw [if_pos hc] at H
  rw [hc] at HCh
  have WI:=am (within_some a1 0 64)
  by_cases hw : 0 ≤ a1 ∧ a1 ≤ 64
  ·rw [if_pos hw,hM] at H
   rw [decide_eq_true hw] at WI
   replace H : (missFrom M a1.toNat 0 [],(0 : Int)) = (r1,r2):=H
   simp only [Prod.mk.injEq] at H
   obtain ⟨hj,rfl⟩:=H
   obtain ⟨n,rfl⟩:=Int.eq_ofNat_of_zero_le hw.1
   rw [Int.toNat_natCast] at hj
   have HJ:=am hj
   have HL:=am hM
   have HA:=am (show ∀ q ∈ l0,Fits q from fun q hq => pieceP_fits (hall q hq))
   have H12:=am h12
   have hn64 : n ≤ 64:=by omega
   clear hc h12 hall hM hord hneg hj hw
   go_enter Try.func25,Try.ntmps25
   go_wp2_with fail
   refine (book_CheckPieces.calls _ _ _ _ _ HR0.out HC0.out HCh.out).mono ?_
   rintro e w1 ⟨rfl,hd⟩
   have HD:=am hd
   clear hd
   go_wp2_with fail
   refine (book_within.calls _ _ _ _ _ WI.out).mono ?_
   rintro e w' ⟨rfl,n1,rfl⟩
   have HD1:=am (pw_below_drewN HD.out n1)
   go_wp2_with fail
   refine (laid_calls _ _ _ _ (Kd.C_below HR0.out HD1.out) HC0.out H12.out HA.out).mono ?_
   rintro e w2 ⟨hd,hres⟩
   rcases hres with ⟨hl,rfl⟩|⟨M',hl,rfl,hm⟩
   ·exact absurd (HL.out.symm.trans hl) (by simp)
   ·obtain rfl : M = M':=Option.some.inj (HL.out.symm.trans hl)
    have HB:=am (below_then HD1.out (below_size HD1.out) hd)
    have HM:=am hm
    have HSZ:=am (show w.heap.size ≤ w1.heap.size from below_size HD.out)
    clear hl hd hm
    obtain ⟨b,hb⟩ : ∃ b,b = (w1.drewN n1).heap.size:=⟨_,rfl⟩
    rw [← hb] at HM ⊢
    have HBB:=am (show w.heap.size ≤ b by rw [hb];exact HSZ.out)
    clear hb
    go_wp2
    go_loopw [9,28] (fun v9 v28 wr => ∃ (i : Nat) (out : List S39),i ≤ n ∧ v28 = .int .i64 (i : Int) ∧ Aside0 (Below w.heap.size w wr) ∧ Aside0 (MapsTo wr b 1000 M) ∧ Aside0 (Kd.R k39 39 wr w.heap.size (fun k => k ≠ b) v9 out) ∧ Aside0 (out.length ≤ i) ∧ Aside0 (missFrom M (n - i) i out = r1)) (fun _ v28 _ => n - (intOf v28).toNat)
    case atStart => exact ⟨0,[],by omega,rfl,HB,HM,⟨Kd.R_nil _ _ _ _ _⟩,⟨by simp⟩,HJ⟩
    case round =>
     obtain ⟨i,out,hi,rfl,HBr,HMr,HS,HI,HJr⟩:=hrel
     obtain ⟨A7,c7,rfl⟩:=Kd.R_slice HS.out
     by_cases hlt : i < n
     ·obtain ⟨d,hd⟩ : ∃ d,n - i = d + 1:=⟨n - i - 1,by omega⟩
      have hr:=HJr.out
      rw [hd] at hr
      have hd2 : d = n - (i + 1):=by omega
      replace hr : missFrom M d ((i : Int) + 1) (stepMiss M (i : Int) out) = r1:=hr
      rw [hd2] at hr
      have HKEY:=am (show keyOf Try.prog 3 (ekI (i : Int)) = some (.int .i64 (i : Int)) from Go.Maps.keyOf_int_mk Try.underlying3 (by have e : wrap64 (i : Int) = (i : Int):=by {unfold wrap64;omega};rw [← e];exact wrap64_wf _))
      have hwm : wrap64 ((i : Int) - 1) = (i : Int) - 1:=by unfold wrap64;omega
      have hwm2 : IntKind.i64.wrap ((i : Int) - 1) = (i : Int) - 1:=by rw [IntKind.wrap_i64];omega
      cases hm : M (i : Int) with
     |some x =>
       have hst : stepMiss M (i : Int) out = out:=by unfold stepMiss;rw [if_pos (by rw [hm];rfl)]
       rw [hst] at hr
       have HR2:=am hr
       have HM0:=am hm
       clear hr hm hd hd2 hst
       go_wp2_with (first
       |(at_lookup;refine wpList_lookup_map _ rfl _ _ 130 true rfl 3 29 law3 Try.underlying130 _ (zero29 _) ekI ev29 b 1000 M rfl HMr.out (i : Int) _ rfl HKEY.out (.tuple #[.agg #[.int .i64 x.f0,.int .i64 x.f1,.int .i64 x.f2,.int .i64 x.f3],.bool true]) (by rw [HM0.out];rfl) ?_)
       |fail)
       go_roundw
       case rel => exact ⟨i + 1,out,by omega,by push_cast;rfl,⟨below_alloc HBr.out _⟩,⟨HMr.out.alloc _⟩,⟨Kd.R_alloc HS.out _⟩,⟨by have:=HI.out;omega⟩,HR2⟩
       case measure => simp [intOf];omega
     |none =>
       have HM0:=am hm
       by_cases hpos : 0 < out.length
       ·obtain ⟨g,cap,e7,hbg,hgs,cg,hgc⟩:=Kd.R_form HS.out hpos
        injection e7 with e7a e7b e7c
        subst e7a e7c
        obtain ⟨m,hmm⟩ : ∃ m,m = out.length - 1:=⟨_,rfl⟩
        have hi64:=HI.out
        have hwo : wrap64 ((out.length : Int) - 1) = (m : Int):=by unfold wrap64;omega
        have hwo2 : IntKind.i64.wrap ((out.length : Int) - 1) = (m : Int):=by rw [IntKind.wrap_i64];omega
        have hml : m < out.length:=by omega
        obtain ⟨ce,hcl,hMM,hcc,hfr⟩:=Kd.R_elem HS.out z39 (m : Int) (by omega) (by omega)
        have ec:=k39_openM hMM
        rw [Int.toNat_natCast] at hMM ec
        subst ec
        have hx1:=hcc 1 _ rfl
        have hf1:=hfr 1
        obtain ⟨q,hq⟩ : ∃ q,q = out.getD m z39:=⟨_,rfl⟩
        rw [← hq] at hx1
        rw [Int.toNat_natCast,show k39.sz = 2 from rfl] at hx1 hf1
        have hx1' : ∀ o,(wr.alloc o).cell? ⟨g,m * 2 + 1,none⟩ = some (.int .i64 q.f1):=fun o => (World.cell?_alloc_lt _ _ _ (wb _ _ hx1)).trans hx1
        have hpb : decide ((0 : Int) < (out.length : Int)) = true:=by simp;omega
        have HO64:=am (show out.length ≤ 64 by omega)
        by_cases hhi : q.f1 = (i : Int) - 1
        ·have hst : stepMiss M (i : Int) out = out.set m (⟨q.f0,(i : Int)⟩ : S39):=by unfold stepMiss;rw [if_neg (by rw [hm];simp),if_pos ⟨hpos,by rw [← hmm,← hq];exact hhi⟩,← hmm,← hq]
         rw [hst] at hr
         have HR2:=am hr
         have hhb : (q.f1 == (i : Int) - 1) = true:=by simp only [beq_iff_eq];exact hhi
         have hfo : ∀ o,(wr.alloc o).frozen? ⟨g,m * 2 + 1,none⟩ = false:=fun o => by
          have h2:=Kd.R_elem (Kd.R_alloc HS.out o) z39 (m : Int) (by omega) (by omega)
          obtain ⟨_,_,_,_,hfr2⟩:=h2
          have h3:=hfr2 1
          rw [Int.toNat_natCast,show k39.sz = 2 from rfl] at h3
          exact h3
         have HSG : Aside0 (Kd.R k39 39 (wr.setCell ⟨g,m * 2 + 1,none⟩ (.int .i64 (i : Int))) w.heap.size (fun k => k ≠ b) (.slice (some ⟨g,0,none⟩) out.length c7) (out.set m (⟨q.f0,(i : Int)⟩ : S39))):=⟨by
          obtain ⟨ce2,hcl2,hMM2,hcc2,_⟩:=Kd.R_elem HS.out z39 (m : Int) (by omega) (by omega)
          have ec2:=k39_openM hMM2
          rw [Int.toNat_natCast,← hq] at ec2
          subst ec2
          have h5:=(Kd.R_seg HS.out (m : Int) (by omega) (by omega) (seg:=[.int .i64 (i : Int)]) (j:=1) (okp:=fun _ => False) hcl2 hcc2 (show 2 ≤ 2 from by decide) (x':=(⟨q.f0,(i : Int)⟩ : S39)) (k39_mkM _ _ _ (⟨q.f0,(i : Int)⟩ : S39)) (fun _ hk => hk.elim)).1
          rw [Int.toNat_natCast,show k39.sz = 2 from rfl] at h5
          exact h5⟩
         have HNB:=am (show b ≠ g from fun e_ => HS.out.1 g rfl e_.symm)
         have HGB:=am hbg
         clear hr hm hd hd2 hst hhi hcc hfr hMM hmm hi64 hx1 hq
         go_wp2_with (first
         |(at_lookup;refine wpList_lookup_map _ rfl _ _ 130 true rfl 3 29 law3 Try.underlying130 _ (zero29 _) ekI ev29 b 1000 M rfl HMr.out (i : Int) _ rfl HKEY.out (.tuple #[.agg #[.int .i64 0,.int .i64 0,.int .i64 0,.int .i64 0],.bool false]) (by rw [HM0.out];rfl) ?_)
         |fail)
         go_roundw
         case rel => exact ⟨i + 1,out.set m (⟨q.f0,(i : Int)⟩ : S39),by omega,by push_cast;rfl,⟨below_alloc (below_set HBr.out HGB.out) _⟩,⟨MapIs.alloc (MapIs.keep HMr.out (Below.heap_setCell _ _ _ b HNB.out)) _⟩,⟨Kd.R_alloc HSG.out _⟩,⟨by have:=HI.out;simp;omega⟩,HR2⟩
         case measure => simp [intOf];omega
        ·have hst : stepMiss M (i : Int) out = out ++ [⟨(i : Int),(i : Int)⟩]:=by unfold stepMiss;rw [if_neg (by rw [hm];simp),if_neg (fun hh => hhi (by rw [hq,hmm];exact hh.2))]
         rw [hst] at hr
         have HR2:=am hr
         have hhb : (q.f1 == (i : Int) - 1) = false:=by simp only [beq_eq_false_iff_ne];exact hhi
         clear hr hm hd hd2 hst hhi hcc hfr hMM hmm hi64 hx1 hq
         go_wp2_with (first
         |(at_lookup;refine wpList_lookup_map _ rfl _ _ 130 true rfl 3 29 law3 Try.underlying130 _ (zero29 _) ekI ev29 b 1000 M rfl HMr.out (i : Int) _ rfl HKEY.out (.tuple #[.agg #[.int .i64 0,.int .i64 0,.int .i64 0,.int .i64 0],.bool false]) (by rw [HM0.out];rfl) ?_)
         |(at_builtin;refine miss_new i rfl _ _ rfl rfl rfl HBr.out HMr.out HS.out HO64.out ?_;intro v1 w3 hs3 hb3 hm3)
         |fail)
         have HS3:=am hs3
         have HB3:=am hb3
         have HM3:=am hm3
         clear hs3 hb3 hm3
         go_roundw
         case rel => exact ⟨i + 1,_,by omega,by push_cast;rfl,HB3,HM3,HS3,⟨by have:=HI.out;simp;omega⟩,HR2⟩
         case measure => simp [intOf];omega
       ·have hst : stepMiss M (i : Int) out = out ++ [⟨(i : Int),(i : Int)⟩]:=by unfold stepMiss;rw [if_neg (by rw [hm];simp),if_neg (fun hh => hpos hh.1)]
        rw [hst] at hr
        have HR2:=am hr
        obtain rfl : out = []:=List.eq_nil_of_length_eq_zero (by omega)
        clear hr hm hd hd2 hst hpos
        go_wp2_with (first
        |(at_lookup;refine wpList_lookup_map _ rfl _ _ 130 true rfl 3 29 law3 Try.underlying130 _ (zero29 _) ekI ev29 b 1000 M rfl HMr.out (i : Int) _ rfl HKEY.out (.tuple #[.agg #[.int .i64 0,.int .i64 0,.int .i64 0,.int .i64 0],.bool false]) (by rw [HM0.out];rfl) ?_)
        |(at_builtin;refine miss_new i rfl _ _ rfl rfl rfl HBr.out HMr.out HS.out (by have:=HI.out;omega) ?_;intro v1 w3 hs3 hb3 hm3)
        |fail)
        have HS3:=am hs3
        have HB3:=am hb3
        have HM3:=am hm3
        clear hs3 hb3 hm3
        go_roundw
        case rel => exact ⟨i + 1,_,by omega,by push_cast;rfl,HB3,HM3,HS3,⟨by simp⟩,HR2⟩
        case measure => simp [intOf];omega
     ·have hr:=HJr.out
      rw [show n - i = 0 by omega] at hr
      replace hr : out = r1:=hr
      subst hr
      go_wp2
      go_ret2
      exact ⟨_,rfl,Kd.R_mono HS.out (fun _ _ => trivial),HBr.out⟩
  ·rw [if_neg hw] at H
   rw [decide_eq_false hw] at WI
   simp only [Prod.mk.injEq] at H
   obtain ⟨rfl,rfl⟩:=H
   clear hc h12 hall hM hord hneg hw
   go_enter Try.func25,Try.ntmps25
   go_wp2_with fail
   refine (book_CheckPieces.calls _ _ _ _ _ HR0.out HC0.out HCh.out).mono ?_
   rintro e w1 ⟨rfl,hd⟩
   have HD:=am hd
   clear hd
   go_wp2_with fail
   refine (book_within.calls _ _ _ _ _ WI.out).mono ?_
   rintro e w' ⟨rfl,n1,rfl⟩
   go_wp2
   go_ret2
   exact ⟨_,rfl,Kd.R_nil _ _ _ _ _,pw_below_drewN HD.out n1⟩
 ·rw [if_neg hc] at H
  simp only [Prod.mk.injEq] at H
  obtain ⟨rfl,rfl⟩:=H
  have hcb : (checkPiecesP l0 == 0) = false:=by simp [hc]
  obtain ⟨r,hr⟩ : ∃ r,r = checkPiecesP l0:=⟨_,rfl⟩
  rw [← hr] at HCh hcb hc ⊢
  clear hr
  go_enter Try.func25,Try.ntmps25
  go_wp2_with fail
  refine (book_CheckPieces.calls _ _ _ _ _ HR0.out HC0.out HCh.out).mono ?_
  rintro e w1 ⟨rfl,hd⟩
  have HD:=am hd
  clear hd
  go_wp2
  go_ret2
  exact ⟨_,rfl,Kd.R_nil _ _ _ _ _,HD.out⟩
instance decS29 : DecidableEq S29:=fun a b =>
 if h : a.f0 = b.f0 ∧ a.f1 = b.f1 ∧ a.f2 = b.f2 ∧ a.f3 = b.f3 then isTrue (by cases a;cases b;simp at h ⊢;exact h) else isFalse (fun e => h (by subst e;simp))
def atE (x : S29) (i : Nat) (l : List S29) : Bool:=decide (l[i]? = some x)
def votes (ls : List (List S29)) (i : Nat) (x : S29) : Nat:=(ls.filter (atE x i)).length
def most (h : Nat) (ls : List (List S29)) (i : Nat) : Option S29:=(ls.filterMap (fun l => l[i]?)).find? (fun x => decide (h < votes ls i x))
def majFrom (h : Nat) : Nat → List (List S29) → List S29 → List S29
|0,_,out => out
|d + 1,ls,out => match most h ls out.length with
 |none => out
 |some x => majFrom h d (ls.filter (atE x out.length)) (out ++ [x])
def majP (l : List (List S29)) : List S29 × Int :=
 if 8 < l.length then ([],2) else if l.length = 0 then ([],1) else
 match l.find? (fun x => decide (checkP x ≠ 0)) with
|some x => ([],checkP x)
|none => (majFrom (l.length / 2) 65 l [],0)
theorem atE_iff {x : S29} {i : Nat} {l : List S29} : atE x i l = true ↔ l[i]? = some x:=by simp [atE]
theorem votes_snoc (ls : List (List S29)) (l : List S29) (i : Nat) (x : S29) : votes (ls ++ [l]) i x = votes ls i x + (if l[i]? = some x then 1 else 0):=by
 unfold votes
 rw [List.filter_append,List.length_append]
 congr 1
 by_cases h : l[i]? = some x
 ·simp [atE,h]
 ·simp [atE,h]
theorem votes_le (ls : List (List S29)) (i : Nat) (x : S29) : votes ls i x ≤ ls.length:=List.length_filter_le _ _
theorem votes_cons (l : List S29) (r : List (List S29)) (i : Nat) (x : S29) : votes (l :: r) i x = (if l[i]? = some x then 1 else 0) + votes r i x:=by
 unfold votes
 rw [List.filter_cons]
 by_cases h : l[i]? = some x
 ·rw [if_pos (atE_iff.2 h),if_pos h,List.length_cons];omega
 ·rw [if_neg (fun e => h (atE_iff.1 e)),if_neg h];omega
theorem votes_two {x y : S29} (hne : x ≠ y) (i : Nat) : ∀ ls : List (List S29),votes ls i x + votes ls i y ≤ ls.length
|[] => by simp [votes]
|l :: r => by
  have ih:=votes_two hne i r
  rw [votes_cons,votes_cons,List.length_cons]
  by_cases h1 : l[i]? = some x
  ·have h2 : ¬ l[i]? = some y:=fun h2 => hne (by rw [h1] at h2;injection h2)
   rw [if_pos h1,if_neg h2]
   omega
  ·rw [if_neg h1]
   split <;> omega
theorem votes_pos {ls : List (List S29)} {i : Nat} {x : S29} (h : 0 < votes ls i x) : ∃ l ∈ ls,l[i]? = some x:=by
 unfold votes at h
 obtain ⟨l,hl⟩:=List.exists_mem_of_length_pos h
 obtain ⟨h1,h2⟩:=List.mem_filter.1 hl
 exact ⟨l,h1,atE_iff.1 h2⟩
theorem most_some {h : Nat} {ls : List (List S29)} {i : Nat} {x : S29} (hm : most h ls i = some x) : h < votes ls i x:=by
 have:=List.find?_some hm
 simpa using this
theorem most_none {h : Nat} {ls : List (List S29)} {i : Nat} (hm : most h ls i = none) (x : S29) : votes ls i x ≤ h:=by
 apply Nat.le_of_not_lt
 intro hlt
 obtain ⟨l,hl,hx⟩:=votes_pos (Nat.lt_of_le_of_lt (Nat.zero_le _) hlt)
 have:=List.find?_eq_none.1 hm x (List.mem_filterMap.2 ⟨l,hl,hx⟩)
 simp at this
 omega
theorem most_eq {h : Nat} {ls : List (List S29)} {i : Nat} {x : S29} (hls : ls.length < 2 * h + 2) (hx : h < votes ls i x) : most h ls i = some x:=by
 cases hm : most h ls i with
|none => have:=most_none hm x;omega
|some y =>
  by_cases hxy : y = x
  ·rw [hxy]
  ·have h1:=most_some hm
   have h2:=votes_two hxy i ls
   omega
theorem most_none_of {h : Nat} {ls : List (List S29)} {i : Nat} (hx : ∀ x,votes ls i x ≤ h) : most h ls i = none:=by
 cases hm : most h ls i with
|none => rfl
|some y => have:=most_some hm;have:=hx y;omega
end Go.Proofs.Ytmfphlfakmnbmaa.B
end
