import Derived.Recover
import Derived.Defers
import Derived.Test.YtjjfpmapjjemcaaGreatQ31
import Derived.Test.YtjjfpmapjjemcaaGreatQ32
import Derived.Test.YtjjfpmapjjemcaaGreatQ33
import Derived.Test.YtjjfpmapjjemcaaGreatQ7
set_option linter.unusedVariables false
set_option linter.unusedSimpArgs false
section
namespace Go.Proofs.YtjjfpmapjjemcaaGreat.B
open Go.RowKit Go.Proofs.YtjjfpmapjjemcaaGreatW.PrintWords Go.Proofs.YtjjfpmapjjemcaaGreatW.PrintLast Go.Proofs.YtjjfpmapjjemcaaGreatW.PrintMore
attribute [local go_sem] max2_int min2_int max_two min_two max_three min_three max_four min_four
theorem ta325 (c : Int) (W : World) : (Instr.typeAssert (.iface 325 (.agg #[ii c])) 20 325 false).run Tryz.prog W = .ok (.agg #[ii c]) W:=by kernel_rfl
theorem fd325 (c : Int) (W : World) : (Instr.field 325 (.agg #[ii c]) 0).run Tryz.prog W = .ok (ii c) W:=by kernel_rfl
theorem do1_panic (c x : Int) (p : Addr) (W : World) (hc : W.cell? p = some (ii x)) (hz : W.frozen? p = false) :
  CallsD Tryz.prog 220 #[.pointer (some p)] (.panicking [{ v:=.iface 325 (.agg #[ii c]),recovered:=false }]) W fun e u' w' => e = .returned (.tuple #[]) ∧ u' = .panicking [{ v:=.iface 325 (.agg #[ii c]),recovered:=true }] ∧ w' = W.setCell p (ii c):=by
 refine callsD_of_wpS Tryz.func220 rfl fun c₀ cs hu => ?_
 apply wpS_seq
 apply wpS_region
 simp [wpOpsS,go_sem,recoverD,hu,Tryz.ntmps220,Exit.thenS]
 apply wpS_seq
 apply wpS_region
 simp [wpOpsS,go_sem,recoverD,hu,Tryz.ntmps220,Exit.thenS]
 refine wpS_cond (t:=true) (by simp [Act.eval,Array.replicate]) ?_
 simp only [if_true]
 apply wpS_region
 simp [wpOpsS,go_sem,hc,hz,bodyPostS,results,Tryz.results220,ta325,fd325]
theorem do1_idle (p : Addr) (w : World) :
  CallsD Tryz.prog 220 #[.pointer (some p)] .returning w fun e u' w' => e = .returned (.tuple #[]) ∧ u' = .returning ∧ w' = w:=by
 refine callsD_of_wpS Tryz.func220 rfl fun c₀ cs hu => ?_
 apply wpS_seq
 apply wpS_region
 simp [wpOpsS,go_sem,recoverD,hu,Tryz.ntmps220,Exit.thenS]
 apply wpS_seq
 apply wpS_region
 simp [wpOpsS,go_sem,recoverD,hu,Tryz.ntmps220,Exit.thenS]
 refine wpS_cond (t:=false) (by simp [Act.eval,Array.replicate]) ?_
 simp only [Bool.false_eq_true,if_false]
 refine wpS_of_wp (wp_skip ?_)
 cases c₀
 simp_all [bodyPostS,results,Tryz.results220]
theorem wpList_insert_map {P : Program} (w : World) {ops : Array Oper} {rest : List Oper} {o : Oper} {a : Act} {Q : Exit → Act → World → Prop}
  (hg : o.guard = none) (m x v : Operand) (t : TypeId) (hop : o.op = Op.insert t m x v)
  (k e : TypeId) (K : Go.Maps.Keyed P k) (ht : P.underlying t = some (.map k e)) {κ ν : Type} [DecidableEq κ] (ek : κ → Value) (ev : ν → Value) (b n : Nat) (M : κ → Option ν)
  (hm : a.eval m = .map (some b)) (h : MapIs P k ek ev w b n M) (hn : n < maxLen) (c : κ) (y : ν) (kl : Lit) (hx : a.eval x = ek c) (hv : a.eval v = ev y) (hkey : keyOf P k (ek c) = some kl) (hinj : ∀ c',ek c' = ek c → c' = c)
  (hK : ∀ w',MapIs P k ek ev w' b (n + 1) (fun c' => if c' = c then some y else M c') → w.grownBy w' (some b) → wpList P ops Q rest (a.put o.dst undef) w') :
  wpList P ops Q (o :: rest) a w:=by
 refine wpList_plain hg fun K' hK' => ?_
 obtain ⟨w',hrun,r1,r2⟩:=h.update K ht hn y hkey hinj
 unfold Oper.wp
 simp [execOp,hop,hm,hx,hv,hrun,Result.andThen]
 exact hK' _ _ (hK w' r1 r2)
theorem zero326 (w : World) : (zeroValue 326).run Tryz.prog w = .ok .nilFunc w:=by kernel_rfl
theorem below_same {w : World} {b t : Nat} {v : Value} (h : w.heap[b]? = some (.cells #[v] t (0,0))) : Below w.heap.size w (w.setCell ⟨b,0,none⟩ v):=by
 have h1:=(Below.refl b w).setCell (p:=⟨b,0,none⟩) (Nat.le_refl b) v
 refine ⟨h1.os,h1.tape,h1.output,h1.size,fun k hk => ?_⟩
 by_cases e : k = b
 ·rw [e]
  exact (blk_put (cs':=#[v]) h 0 v rfl).trans h.symm
 ·exact Below.heap_setCell w ⟨b,0,none⟩ v k e
theorem fr_set {W w6 : World} {L L' : Loc} {b j : Nat} (h : Fr W L w6 L') (hb : W.heap.size ≤ b) (u : Value) : Fr W L (w6.setCell ⟨b,j,none⟩ u) L' :=
 ⟨by rw [World.size_setCell];exact h.size,fun k hk hn => ⟨(Below.heap_setCell w6 ⟨b,j,none⟩ u k (by show k ≠ b;omega)).trans (h.keep k hk hn).1,(h.keep k hk hn).2⟩,h.bad⟩
def fnV (g : Nat) (k : Nat) : Value:=.func (.func k) #[.pointer (some ⟨g,0,none⟩)] #[]
def DoPost (W : World) (base : Nat) (L : Loc) (r : Except Int Yd) (e : Ending) (W' : World) : Prop :=
 Below base W W' ∧ ∃ L',L'.g = L.g ∧ Fr W L W' L' ∧ (match r with
 |.ok Y' => e = .returned (ii 0) ∧ YardAt W' base L' Y'
 |.error c => e = .returned (ii c))
set_option maxRecDepth 100000 in
set_option maxHeartbeats 4000000 in
theorem do_calls {W : World} {base m : Nat} {L : Loc} {Y : Yd} (hY : YardAt W base L Y) (hw : Wf m Y) (hm : m ≤ 60) (s : S84) (step : Int) (hf : Formed Y.rooms.length s) :
  Calls Tryz.prog 177 #[.pointer (some ⟨L.g,0,none⟩),.agg #[ii s.f0,ii s.f1,ii s.f2,ii s.f3,ii s.f4,ii s.f5],ii step] W fun e W' => DoPost W base L (stepP Y s step) e W':=by
 have hmf : ∀ (fn : Fn) (first cap : Array Value) (w : World),(Instr.makeFunc fn first cap).run Tryz.prog w = .ok (.func fn first cap) w:=fun _ _ _ _ => rfl
 have hmm:=@run_makeMap Tryz.prog
 have hu:=Tryz.underlying84
 have HY:=am hY
 have HW:=am hw
 have HFo:=am hf
 clear hY hw hf
 have hbw : base ≤ W.heap.size:=by have:=HY.out.gLt;omega
 have HNN:=am (fun k (hk : W.heap.size ≤ k) => HY.out.not_new hk)
 have hm0:=MapIs.made ((W.alloc (.cells #[ii s.f0,ii s.f1,ii s.f2,ii s.f3,ii s.f4,ii s.f5] 84)).alloc (.cells #[ii 0] 34)) Tryz.prog 3 ekI (fun v : Value => v)
 have hall : ∀ w5 : World,(((W.alloc (.cells #[ii s.f0,ii s.f1,ii s.f2,ii s.f3,ii s.f4,ii s.f5] 84)).alloc (.cells #[ii 0] 34)).alloc (.map #[] 0)).grownBy w5 (some (W.heap.size + 1 + 1)) → Below W.heap.size W w5 ∧ w5.heap[W.heap.size]? = some (.cells #[ii s.f0,ii s.f1,ii s.f2,ii s.f3,ii s.f4,ii s.f5] 84) ∧ w5.heap[W.heap.size + 1]? = some (.cells #[ii 0] 34):=fun w5 hg => by
  have b1:=below_alloc (below_alloc (below_alloc (Below.refl W.heap.size W) (.cells #[ii s.f0,ii s.f1,ii s.f2,ii s.f3,ii s.f4,ii s.f5] 84)) (.cells #[ii 0] 34)) (.map #[] 0)
  have b2:=blk_alloc (blk_alloc (blk_new W (.cells #[ii s.f0,ii s.f1,ii s.f2,ii s.f3,ii s.f4,ii s.f5] 84)) (.cells #[ii 0] 34)) (.map #[] 0)
  have b3:=blk_alloc (blk_new' (W.alloc (.cells #[ii s.f0,ii s.f1,ii s.f2,ii s.f3,ii s.f4,ii s.f5] 84)) (.cells #[ii 0] 34) (W.heap.size + 1) (by simp)) (.map #[] 0)
  exact ⟨b1.grown hg (below_size b1) (fun k e => by cases e;omega),(hg.block _ (blk_lt b2) (fun e => by injection e;omega)).trans b2,(hg.block _ (blk_lt b3) (fun e => by injection e;omega)).trans b3⟩
 rw [World.size_alloc,World.size_alloc] at hm0
 have HM0:=am hm0
 have HALL:=am (show ∀ w5 : World,(((W.alloc (.cells #[ii s.f0,ii s.f1,ii s.f2,ii s.f3,ii s.f4,ii s.f5] 84)).alloc (.cells #[ii 0] 34)).alloc (.map #[] 0)).grownBy w5 (some (W.heap.size + 1 + 1)) → Aside0 (YardAt w5 base L Y) ∧ Aside0 (Below base W w5) ∧ Aside0 (w5.heap[W.heap.size]? = some (.cells #[ii s.f0,ii s.f1,ii s.f2,ii s.f3,ii s.f4,ii s.f5] 84)) ∧ Aside0 (w5.heap[W.heap.size + 1]? = some (.cells #[ii 0] 34)) from fun w5 hg => ⟨⟨HY.out.move (hall w5 hg).1⟩,⟨(hall w5 hg).1.mono hbw⟩,⟨(hall w5 hg).2.1⟩,⟨(hall w5 hg).2.2⟩⟩)
 have HF5:=am (fun (w5 : World) hg => Fr.of_below L (hall w5 hg).1)
 clear hm0 hall
 have hf3:=HFo.out.pit.1
 have hf4:=HFo.out.pit.2
 have hkind:=HFo.out.kind
 by_cases hk1 : s.f1 = 1
 ·have HK:=am hk1
  have hf5:=(HFo.out.amount (by omega)).1
  have hf6:=(HFo.out.amount (by omega)).2
  rw [show stepP Y s step = pourP Y s by unfold stepP;rw [if_pos hk1]]
  clear hk1 hkind
  cases hr : pourP Y s with
 |error c =>
   have HR:=am hr
   clear hr
   go_enter_defers Tryz.func177,Tryz.ntmps177
   go_wp2_with (first
   |(refine wpList_insert_map _ rfl _ _ _ 327 rfl 3 326 law3 Tryz.underlying327 ekI (fun v : Value => v) (W.heap.size + 1 + 1) 0 _ rfl HM0.out (by decide) 1 (fnV L.g 221) _ rfl rfl (keyI 1 (by decide) (by decide)) (fun _ => ekI_inj) ?_;intro w1 hm_ hg_;have HM1:=am hm_;have HG1:=am (hg_);clear hm_ hg_)
   |(refine wpList_insert_map _ rfl _ _ _ 327 rfl 3 326 law3 Tryz.underlying327 ekI (fun v : Value => v) (W.heap.size + 1 + 1) 1 _ rfl HM1.out (by decide) 2 (fnV L.g 222) _ rfl rfl (keyI 2 (by decide) (by decide)) (fun _ => ekI_inj) ?_;intro w2 hm_ hg_;have HM2:=am hm_;have HG2:=am (HG1.out.trans hg_);clear hm_ hg_)
   |(refine wpList_insert_map _ rfl _ _ _ 327 rfl 3 326 law3 Tryz.underlying327 ekI (fun v : Value => v) (W.heap.size + 1 + 1) 2 _ rfl HM2.out (by decide) 3 (fnV L.g 223) _ rfl rfl (keyI 3 (by decide) (by decide)) (fun _ => ekI_inj) ?_;intro w3 hm_ hg_;have HM3:=am hm_;have HG3:=am (HG2.out.trans hg_);clear hm_ hg_)
   |(refine wpList_insert_map _ rfl _ _ _ 327 rfl 3 326 law3 Tryz.underlying327 ekI (fun v : Value => v) (W.heap.size + 1 + 1) 3 _ rfl HM3.out (by decide) 4 (fnV L.g 224) _ rfl rfl (keyI 4 (by decide) (by decide)) (fun _ => ekI_inj) ?_;intro w4 hm_ hg_;have HM4:=am hm_;have HG4:=am (HG3.out.trans hg_);clear hm_ hg_)
   |(refine wpList_insert_map _ rfl _ _ _ 327 rfl 3 326 law3 Tryz.underlying327 ekI (fun v : Value => v) (W.heap.size + 1 + 1) 4 _ rfl HM4.out (by decide) 5 (fnV L.g 225) _ rfl rfl (keyI 5 (by decide) (by decide)) (fun _ => ekI_inj) ?_;intro w5 hm_ hg_;have HM5:=am hm_;have HG5:=am (HG4.out.trans hg_);clear hm_ hg_;obtain ⟨HY5,HB5,HX5,HZ5⟩:=HALL.out w5 HG5.out;have g0:=bd HX5.out 0;have g1:=bd HX5.out 1;have g2:=bd HX5.out 2;have g3:=bd HX5.out 3;have g4:=bd HX5.out 4;have g5:=bd HX5.out 5)
   |(refine wpList_lookup_map _ rfl _ _ 327 false rfl 3 326 law3 Tryz.underlying327 .nilFunc (zero326 _) ekI (fun v : Value => v) (W.heap.size + 1 + 1) 5 _ rfl HM5.out s.f1 _ rfl (keyI s.f1 (by have:=HK.out;omega) (by have:=HK.out;omega)) (.func (.func 221) #[.pointer (some ⟨L.g,0,none⟩)] #[]) (by simp [HK.out,fnV]) ?_)
   |fail)
   refine (pour_calls HY5.out HW.out hm s step hf3 hf4 hf5 hf6).mono ?_
   rintro e w6 ⟨hb,L',hg,hfr,h⟩
   rw [HR.out] at h
   have z1:=(hfr.keep (W.heap.size + 1) (blk_lt HZ5.out) (HNN.out _ (by omega))).1.trans HZ5.out
   have HB6:=am (HB5.out.trans hb)
   have HF6:=am (show Fr W L w6 L' from HF5.out w5 HG5.out |>.trans hfr)
   have HZ6:=am z1
   have HGG:=am hg
   clear hb hg hfr g0 g1 g2 g3 g4 g5
   have u0:=bd z1 0
   have u1:=blk_frozen z1 0
   clear z1
   subst h
   unfold Pan
   go_wp2
   refine leaves_cons (f:=220) (args:=#[.pointer (some ⟨W.heap.size + 1,0,none⟩)]) (by simp) (by simp [go_sem]) ?_
   refine (do1_panic c 0 ⟨W.heap.size + 1,0,none⟩ _ u0 u1).mono ?_
   rintro e u' w'' ⟨rfl,rfl,rfl⟩
   have s4:=(blk_cell (blk_put (cs':=#[ii c]) HZ6.out 0 (ii c) rfl) 0).trans (show _ = some (Value.int .i64 c) from rfl)
   exact ⟨_,by simp [results,Tryz.results177,go_sem,s4],HB6.out.trans ((Below.refl base w6).setCell (show base ≤ W.heap.size + 1 by omega) _),L',HGG.out,fr_set HF6.out (Nat.le_succ _) _,rfl⟩
 |ok Y' =>
   have HR:=am hr
   clear hr
   go_enter_defers Tryz.func177,Tryz.ntmps177
   go_wp2_with (first
   |(refine wpList_insert_map _ rfl _ _ _ 327 rfl 3 326 law3 Tryz.underlying327 ekI (fun v : Value => v) (W.heap.size + 1 + 1) 0 _ rfl HM0.out (by decide) 1 (fnV L.g 221) _ rfl rfl (keyI 1 (by decide) (by decide)) (fun _ => ekI_inj) ?_;intro w1 hm_ hg_;have HM1:=am hm_;have HG1:=am (hg_);clear hm_ hg_)
   |(refine wpList_insert_map _ rfl _ _ _ 327 rfl 3 326 law3 Tryz.underlying327 ekI (fun v : Value => v) (W.heap.size + 1 + 1) 1 _ rfl HM1.out (by decide) 2 (fnV L.g 222) _ rfl rfl (keyI 2 (by decide) (by decide)) (fun _ => ekI_inj) ?_;intro w2 hm_ hg_;have HM2:=am hm_;have HG2:=am (HG1.out.trans hg_);clear hm_ hg_)
   |(refine wpList_insert_map _ rfl _ _ _ 327 rfl 3 326 law3 Tryz.underlying327 ekI (fun v : Value => v) (W.heap.size + 1 + 1) 2 _ rfl HM2.out (by decide) 3 (fnV L.g 223) _ rfl rfl (keyI 3 (by decide) (by decide)) (fun _ => ekI_inj) ?_;intro w3 hm_ hg_;have HM3:=am hm_;have HG3:=am (HG2.out.trans hg_);clear hm_ hg_)
   |(refine wpList_insert_map _ rfl _ _ _ 327 rfl 3 326 law3 Tryz.underlying327 ekI (fun v : Value => v) (W.heap.size + 1 + 1) 3 _ rfl HM3.out (by decide) 4 (fnV L.g 224) _ rfl rfl (keyI 4 (by decide) (by decide)) (fun _ => ekI_inj) ?_;intro w4 hm_ hg_;have HM4:=am hm_;have HG4:=am (HG3.out.trans hg_);clear hm_ hg_)
   |(refine wpList_insert_map _ rfl _ _ _ 327 rfl 3 326 law3 Tryz.underlying327 ekI (fun v : Value => v) (W.heap.size + 1 + 1) 4 _ rfl HM4.out (by decide) 5 (fnV L.g 225) _ rfl rfl (keyI 5 (by decide) (by decide)) (fun _ => ekI_inj) ?_;intro w5 hm_ hg_;have HM5:=am hm_;have HG5:=am (HG4.out.trans hg_);clear hm_ hg_;obtain ⟨HY5,HB5,HX5,HZ5⟩:=HALL.out w5 HG5.out;have g0:=bd HX5.out 0;have g1:=bd HX5.out 1;have g2:=bd HX5.out 2;have g3:=bd HX5.out 3;have g4:=bd HX5.out 4;have g5:=bd HX5.out 5)
   |(refine wpList_lookup_map _ rfl _ _ 327 false rfl 3 326 law3 Tryz.underlying327 .nilFunc (zero326 _) ekI (fun v : Value => v) (W.heap.size + 1 + 1) 5 _ rfl HM5.out s.f1 _ rfl (keyI s.f1 (by have:=HK.out;omega) (by have:=HK.out;omega)) (.func (.func 221) #[.pointer (some ⟨L.g,0,none⟩)] #[]) (by simp [HK.out,fnV]) ?_)
   |fail)
   refine (pour_calls HY5.out HW.out hm s step hf3 hf4 hf5 hf6).mono ?_
   rintro e w6 ⟨hb,L',hg,hfr,h⟩
   rw [HR.out] at h
   have z1:=(hfr.keep (W.heap.size + 1) (blk_lt HZ5.out) (HNN.out _ (by omega))).1.trans HZ5.out
   have HB6:=am (HB5.out.trans hb)
   have HF6:=am (show Fr W L w6 L' from HF5.out w5 HG5.out |>.trans hfr)
   have HZ6:=am z1
   have HGG:=am hg
   clear hb hg hfr g0 g1 g2 g3 g4 g5
   have u0:=bd z1 0
   have u1:=blk_frozen z1 0
   clear z1
   obtain ⟨rfl,hY'⟩:=h
   have HY6:=am hY'
   clear hY'
   go_wp2
   refine leaves_cons (f:=220) (args:=#[.pointer (some ⟨W.heap.size + 1,0,none⟩)]) (by simp) (by simp [go_sem]) ?_
   refine (do1_idle ⟨W.heap.size + 1,0,none⟩ _).mono ?_
   rintro e u' w'' ⟨rfl,rfl,rfl⟩
   have hS:=below_same HZ6.out
   have s4:=(blk_cell (blk_put (cs':=#[ii 0]) HZ6.out 0 (ii 0) rfl) 0).trans (show _ = some (Value.int .i64 0) from rfl)
   exact ⟨_,by simp [results,Tryz.results177,go_sem,s4],HB6.out.trans (hS.mono (Nat.le_trans hbw (HF6.out.size))),L',HGG.out,HF6.out.trans (Fr.of_below L' hS),rfl,HY6.out.move hS⟩
 by_cases hk2 : s.f1 = 2
 ·have HK:=am hk2
  have hf5:=(HFo.out.amount (by omega)).1
  have hf6:=(HFo.out.amount (by omega)).2
  rw [show stepP Y s step = takeP Y s step by unfold stepP;rw [if_neg hk1,if_pos hk2]]
  clear hk1 hk2 hkind
  cases hr : takeP Y s step with
 |error c =>
   have HR:=am hr
   clear hr
   go_enter_defers Tryz.func177,Tryz.ntmps177
   go_wp2_with (first
   |(refine wpList_insert_map _ rfl _ _ _ 327 rfl 3 326 law3 Tryz.underlying327 ekI (fun v : Value => v) (W.heap.size + 1 + 1) 0 _ rfl HM0.out (by decide) 1 (fnV L.g 221) _ rfl rfl (keyI 1 (by decide) (by decide)) (fun _ => ekI_inj) ?_;intro w1 hm_ hg_;have HM1:=am hm_;have HG1:=am (hg_);clear hm_ hg_)
   |(refine wpList_insert_map _ rfl _ _ _ 327 rfl 3 326 law3 Tryz.underlying327 ekI (fun v : Value => v) (W.heap.size + 1 + 1) 1 _ rfl HM1.out (by decide) 2 (fnV L.g 222) _ rfl rfl (keyI 2 (by decide) (by decide)) (fun _ => ekI_inj) ?_;intro w2 hm_ hg_;have HM2:=am hm_;have HG2:=am (HG1.out.trans hg_);clear hm_ hg_)
   |(refine wpList_insert_map _ rfl _ _ _ 327 rfl 3 326 law3 Tryz.underlying327 ekI (fun v : Value => v) (W.heap.size + 1 + 1) 2 _ rfl HM2.out (by decide) 3 (fnV L.g 223) _ rfl rfl (keyI 3 (by decide) (by decide)) (fun _ => ekI_inj) ?_;intro w3 hm_ hg_;have HM3:=am hm_;have HG3:=am (HG2.out.trans hg_);clear hm_ hg_)
   |(refine wpList_insert_map _ rfl _ _ _ 327 rfl 3 326 law3 Tryz.underlying327 ekI (fun v : Value => v) (W.heap.size + 1 + 1) 3 _ rfl HM3.out (by decide) 4 (fnV L.g 224) _ rfl rfl (keyI 4 (by decide) (by decide)) (fun _ => ekI_inj) ?_;intro w4 hm_ hg_;have HM4:=am hm_;have HG4:=am (HG3.out.trans hg_);clear hm_ hg_)
   |(refine wpList_insert_map _ rfl _ _ _ 327 rfl 3 326 law3 Tryz.underlying327 ekI (fun v : Value => v) (W.heap.size + 1 + 1) 4 _ rfl HM4.out (by decide) 5 (fnV L.g 225) _ rfl rfl (keyI 5 (by decide) (by decide)) (fun _ => ekI_inj) ?_;intro w5 hm_ hg_;have HM5:=am hm_;have HG5:=am (HG4.out.trans hg_);clear hm_ hg_;obtain ⟨HY5,HB5,HX5,HZ5⟩:=HALL.out w5 HG5.out;have g0:=bd HX5.out 0;have g1:=bd HX5.out 1;have g2:=bd HX5.out 2;have g3:=bd HX5.out 3;have g4:=bd HX5.out 4;have g5:=bd HX5.out 5)
   |(refine wpList_lookup_map _ rfl _ _ 327 false rfl 3 326 law3 Tryz.underlying327 .nilFunc (zero326 _) ekI (fun v : Value => v) (W.heap.size + 1 + 1) 5 _ rfl HM5.out s.f1 _ rfl (keyI s.f1 (by have:=HK.out;omega) (by have:=HK.out;omega)) (.func (.func 222) #[.pointer (some ⟨L.g,0,none⟩)] #[]) (by simp [HK.out,fnV]) ?_)
   |fail)
   refine (take_calls HY5.out HW.out hm s step hf3 hf4 hf5 hf6).mono ?_
   rintro e w6 ⟨hb,L',hg,hfr,h⟩
   rw [HR.out] at h
   have z1:=(hfr.keep (W.heap.size + 1) (blk_lt HZ5.out) (HNN.out _ (by omega))).1.trans HZ5.out
   have HB6:=am (HB5.out.trans hb)
   have HF6:=am (show Fr W L w6 L' from HF5.out w5 HG5.out |>.trans hfr)
   have HZ6:=am z1
   have HGG:=am hg
   clear hb hg hfr g0 g1 g2 g3 g4 g5
   have u0:=bd z1 0
   have u1:=blk_frozen z1 0
   clear z1
   subst h
   unfold Pan
   go_wp2
   refine leaves_cons (f:=220) (args:=#[.pointer (some ⟨W.heap.size + 1,0,none⟩)]) (by simp) (by simp [go_sem]) ?_
   refine (do1_panic c 0 ⟨W.heap.size + 1,0,none⟩ _ u0 u1).mono ?_
   rintro e u' w'' ⟨rfl,rfl,rfl⟩
   have s4:=(blk_cell (blk_put (cs':=#[ii c]) HZ6.out 0 (ii c) rfl) 0).trans (show _ = some (Value.int .i64 c) from rfl)
   exact ⟨_,by simp [results,Tryz.results177,go_sem,s4],HB6.out.trans ((Below.refl base w6).setCell (show base ≤ W.heap.size + 1 by omega) _),L',HGG.out,fr_set HF6.out (Nat.le_succ _) _,rfl⟩
 |ok Y' =>
   have HR:=am hr
   clear hr
   go_enter_defers Tryz.func177,Tryz.ntmps177
   go_wp2_with (first
   |(refine wpList_insert_map _ rfl _ _ _ 327 rfl 3 326 law3 Tryz.underlying327 ekI (fun v : Value => v) (W.heap.size + 1 + 1) 0 _ rfl HM0.out (by decide) 1 (fnV L.g 221) _ rfl rfl (keyI 1 (by decide) (by decide)) (fun _ => ekI_inj) ?_;intro w1 hm_ hg_;have HM1:=am hm_;have HG1:=am (hg_);clear hm_ hg_)
   |(refine wpList_insert_map _ rfl _ _ _ 327 rfl 3 326 law3 Tryz.underlying327 ekI (fun v : Value => v) (W.heap.size + 1 + 1) 1 _ rfl HM1.out (by decide) 2 (fnV L.g 222) _ rfl rfl (keyI 2 (by decide) (by decide)) (fun _ => ekI_inj) ?_;intro w2 hm_ hg_;have HM2:=am hm_;have HG2:=am (HG1.out.trans hg_);clear hm_ hg_)
   |(refine wpList_insert_map _ rfl _ _ _ 327 rfl 3 326 law3 Tryz.underlying327 ekI (fun v : Value => v) (W.heap.size + 1 + 1) 2 _ rfl HM2.out (by decide) 3 (fnV L.g 223) _ rfl rfl (keyI 3 (by decide) (by decide)) (fun _ => ekI_inj) ?_;intro w3 hm_ hg_;have HM3:=am hm_;have HG3:=am (HG2.out.trans hg_);clear hm_ hg_)
   |(refine wpList_insert_map _ rfl _ _ _ 327 rfl 3 326 law3 Tryz.underlying327 ekI (fun v : Value => v) (W.heap.size + 1 + 1) 3 _ rfl HM3.out (by decide) 4 (fnV L.g 224) _ rfl rfl (keyI 4 (by decide) (by decide)) (fun _ => ekI_inj) ?_;intro w4 hm_ hg_;have HM4:=am hm_;have HG4:=am (HG3.out.trans hg_);clear hm_ hg_)
   |(refine wpList_insert_map _ rfl _ _ _ 327 rfl 3 326 law3 Tryz.underlying327 ekI (fun v : Value => v) (W.heap.size + 1 + 1) 4 _ rfl HM4.out (by decide) 5 (fnV L.g 225) _ rfl rfl (keyI 5 (by decide) (by decide)) (fun _ => ekI_inj) ?_;intro w5 hm_ hg_;have HM5:=am hm_;have HG5:=am (HG4.out.trans hg_);clear hm_ hg_;obtain ⟨HY5,HB5,HX5,HZ5⟩:=HALL.out w5 HG5.out;have g0:=bd HX5.out 0;have g1:=bd HX5.out 1;have g2:=bd HX5.out 2;have g3:=bd HX5.out 3;have g4:=bd HX5.out 4;have g5:=bd HX5.out 5)
   |(refine wpList_lookup_map _ rfl _ _ 327 false rfl 3 326 law3 Tryz.underlying327 .nilFunc (zero326 _) ekI (fun v : Value => v) (W.heap.size + 1 + 1) 5 _ rfl HM5.out s.f1 _ rfl (keyI s.f1 (by have:=HK.out;omega) (by have:=HK.out;omega)) (.func (.func 222) #[.pointer (some ⟨L.g,0,none⟩)] #[]) (by simp [HK.out,fnV]) ?_)
   |fail)
   refine (take_calls HY5.out HW.out hm s step hf3 hf4 hf5 hf6).mono ?_
   rintro e w6 ⟨hb,L',hg,hfr,h⟩
   rw [HR.out] at h
   have z1:=(hfr.keep (W.heap.size + 1) (blk_lt HZ5.out) (HNN.out _ (by omega))).1.trans HZ5.out
   have HB6:=am (HB5.out.trans hb)
   have HF6:=am (show Fr W L w6 L' from HF5.out w5 HG5.out |>.trans hfr)
   have HZ6:=am z1
   have HGG:=am hg
   clear hb hg hfr g0 g1 g2 g3 g4 g5
   have u0:=bd z1 0
   have u1:=blk_frozen z1 0
   clear z1
   obtain ⟨rfl,hY'⟩:=h
   have HY6:=am hY'
   clear hY'
   go_wp2
   refine leaves_cons (f:=220) (args:=#[.pointer (some ⟨W.heap.size + 1,0,none⟩)]) (by simp) (by simp [go_sem]) ?_
   refine (do1_idle ⟨W.heap.size + 1,0,none⟩ _).mono ?_
   rintro e u' w'' ⟨rfl,rfl,rfl⟩
   have hS:=below_same HZ6.out
   have s4:=(blk_cell (blk_put (cs':=#[ii 0]) HZ6.out 0 (ii 0) rfl) 0).trans (show _ = some (Value.int .i64 0) from rfl)
   exact ⟨_,by simp [results,Tryz.results177,go_sem,s4],HB6.out.trans (hS.mono (Nat.le_trans hbw (HF6.out.size))),L',HGG.out,HF6.out.trans (Fr.of_below L' hS),rfl,HY6.out.move hS⟩
 by_cases hk3 : s.f1 = 3
 ·have HK:=am hk3
  rw [show stepP Y s step = turnP Y s by unfold stepP;rw [if_neg hk1,if_neg hk2,if_pos hk3]]
  clear hk1 hk2 hk3 hkind
  cases hr : turnP Y s with
 |error c =>
   have HR:=am hr
   clear hr
   go_enter_defers Tryz.func177,Tryz.ntmps177
   go_wp2_with (first
   |(refine wpList_insert_map _ rfl _ _ _ 327 rfl 3 326 law3 Tryz.underlying327 ekI (fun v : Value => v) (W.heap.size + 1 + 1) 0 _ rfl HM0.out (by decide) 1 (fnV L.g 221) _ rfl rfl (keyI 1 (by decide) (by decide)) (fun _ => ekI_inj) ?_;intro w1 hm_ hg_;have HM1:=am hm_;have HG1:=am (hg_);clear hm_ hg_)
   |(refine wpList_insert_map _ rfl _ _ _ 327 rfl 3 326 law3 Tryz.underlying327 ekI (fun v : Value => v) (W.heap.size + 1 + 1) 1 _ rfl HM1.out (by decide) 2 (fnV L.g 222) _ rfl rfl (keyI 2 (by decide) (by decide)) (fun _ => ekI_inj) ?_;intro w2 hm_ hg_;have HM2:=am hm_;have HG2:=am (HG1.out.trans hg_);clear hm_ hg_)
   |(refine wpList_insert_map _ rfl _ _ _ 327 rfl 3 326 law3 Tryz.underlying327 ekI (fun v : Value => v) (W.heap.size + 1 + 1) 2 _ rfl HM2.out (by decide) 3 (fnV L.g 223) _ rfl rfl (keyI 3 (by decide) (by decide)) (fun _ => ekI_inj) ?_;intro w3 hm_ hg_;have HM3:=am hm_;have HG3:=am (HG2.out.trans hg_);clear hm_ hg_)
   |(refine wpList_insert_map _ rfl _ _ _ 327 rfl 3 326 law3 Tryz.underlying327 ekI (fun v : Value => v) (W.heap.size + 1 + 1) 3 _ rfl HM3.out (by decide) 4 (fnV L.g 224) _ rfl rfl (keyI 4 (by decide) (by decide)) (fun _ => ekI_inj) ?_;intro w4 hm_ hg_;have HM4:=am hm_;have HG4:=am (HG3.out.trans hg_);clear hm_ hg_)
   |(refine wpList_insert_map _ rfl _ _ _ 327 rfl 3 326 law3 Tryz.underlying327 ekI (fun v : Value => v) (W.heap.size + 1 + 1) 4 _ rfl HM4.out (by decide) 5 (fnV L.g 225) _ rfl rfl (keyI 5 (by decide) (by decide)) (fun _ => ekI_inj) ?_;intro w5 hm_ hg_;have HM5:=am hm_;have HG5:=am (HG4.out.trans hg_);clear hm_ hg_;obtain ⟨HY5,HB5,HX5,HZ5⟩:=HALL.out w5 HG5.out;have g0:=bd HX5.out 0;have g1:=bd HX5.out 1;have g2:=bd HX5.out 2;have g3:=bd HX5.out 3;have g4:=bd HX5.out 4;have g5:=bd HX5.out 5)
   |(refine wpList_lookup_map _ rfl _ _ 327 false rfl 3 326 law3 Tryz.underlying327 .nilFunc (zero326 _) ekI (fun v : Value => v) (W.heap.size + 1 + 1) 5 _ rfl HM5.out s.f1 _ rfl (keyI s.f1 (by have:=HK.out;omega) (by have:=HK.out;omega)) (.func (.func 223) #[.pointer (some ⟨L.g,0,none⟩)] #[]) (by simp [HK.out,fnV]) ?_)
   |fail)
   refine (turn_calls HY5.out HW.out hm s step hf3 hf4).mono ?_
   rintro e w6 ⟨hb,L',hg,hfr,h⟩
   rw [HR.out] at h
   have z1:=(hfr.keep (W.heap.size + 1) (blk_lt HZ5.out) (HNN.out _ (by omega))).1.trans HZ5.out
   have HB6:=am (HB5.out.trans hb)
   have HF6:=am (show Fr W L w6 L' from HF5.out w5 HG5.out |>.trans hfr)
   have HZ6:=am z1
   have HGG:=am hg
   clear hb hg hfr g0 g1 g2 g3 g4 g5
   have u0:=bd z1 0
   have u1:=blk_frozen z1 0
   clear z1
   subst h
   unfold Pan
   go_wp2
   refine leaves_cons (f:=220) (args:=#[.pointer (some ⟨W.heap.size + 1,0,none⟩)]) (by simp) (by simp [go_sem]) ?_
   refine (do1_panic c 0 ⟨W.heap.size + 1,0,none⟩ _ u0 u1).mono ?_
   rintro e u' w'' ⟨rfl,rfl,rfl⟩
   have s4:=(blk_cell (blk_put (cs':=#[ii c]) HZ6.out 0 (ii c) rfl) 0).trans (show _ = some (Value.int .i64 c) from rfl)
   exact ⟨_,by simp [results,Tryz.results177,go_sem,s4],HB6.out.trans ((Below.refl base w6).setCell (show base ≤ W.heap.size + 1 by omega) _),L',HGG.out,fr_set HF6.out (Nat.le_succ _) _,rfl⟩
 |ok Y' =>
   have HR:=am hr
   clear hr
   go_enter_defers Tryz.func177,Tryz.ntmps177
   go_wp2_with (first
   |(refine wpList_insert_map _ rfl _ _ _ 327 rfl 3 326 law3 Tryz.underlying327 ekI (fun v : Value => v) (W.heap.size + 1 + 1) 0 _ rfl HM0.out (by decide) 1 (fnV L.g 221) _ rfl rfl (keyI 1 (by decide) (by decide)) (fun _ => ekI_inj) ?_;intro w1 hm_ hg_;have HM1:=am hm_;have HG1:=am (hg_);clear hm_ hg_)
   |(refine wpList_insert_map _ rfl _ _ _ 327 rfl 3 326 law3 Tryz.underlying327 ekI (fun v : Value => v) (W.heap.size + 1 + 1) 1 _ rfl HM1.out (by decide) 2 (fnV L.g 222) _ rfl rfl (keyI 2 (by decide) (by decide)) (fun _ => ekI_inj) ?_;intro w2 hm_ hg_;have HM2:=am hm_;have HG2:=am (HG1.out.trans hg_);clear hm_ hg_)
   |(refine wpList_insert_map _ rfl _ _ _ 327 rfl 3 326 law3 Tryz.underlying327 ekI (fun v : Value => v) (W.heap.size + 1 + 1) 2 _ rfl HM2.out (by decide) 3 (fnV L.g 223) _ rfl rfl (keyI 3 (by decide) (by decide)) (fun _ => ekI_inj) ?_;intro w3 hm_ hg_;have HM3:=am hm_;have HG3:=am (HG2.out.trans hg_);clear hm_ hg_)
   |(refine wpList_insert_map _ rfl _ _ _ 327 rfl 3 326 law3 Tryz.underlying327 ekI (fun v : Value => v) (W.heap.size + 1 + 1) 3 _ rfl HM3.out (by decide) 4 (fnV L.g 224) _ rfl rfl (keyI 4 (by decide) (by decide)) (fun _ => ekI_inj) ?_;intro w4 hm_ hg_;have HM4:=am hm_;have HG4:=am (HG3.out.trans hg_);clear hm_ hg_)
   |(refine wpList_insert_map _ rfl _ _ _ 327 rfl 3 326 law3 Tryz.underlying327 ekI (fun v : Value => v) (W.heap.size + 1 + 1) 4 _ rfl HM4.out (by decide) 5 (fnV L.g 225) _ rfl rfl (keyI 5 (by decide) (by decide)) (fun _ => ekI_inj) ?_;intro w5 hm_ hg_;have HM5:=am hm_;have HG5:=am (HG4.out.trans hg_);clear hm_ hg_;obtain ⟨HY5,HB5,HX5,HZ5⟩:=HALL.out w5 HG5.out;have g0:=bd HX5.out 0;have g1:=bd HX5.out 1;have g2:=bd HX5.out 2;have g3:=bd HX5.out 3;have g4:=bd HX5.out 4;have g5:=bd HX5.out 5)
   |(refine wpList_lookup_map _ rfl _ _ 327 false rfl 3 326 law3 Tryz.underlying327 .nilFunc (zero326 _) ekI (fun v : Value => v) (W.heap.size + 1 + 1) 5 _ rfl HM5.out s.f1 _ rfl (keyI s.f1 (by have:=HK.out;omega) (by have:=HK.out;omega)) (.func (.func 223) #[.pointer (some ⟨L.g,0,none⟩)] #[]) (by simp [HK.out,fnV]) ?_)
   |fail)
   refine (turn_calls HY5.out HW.out hm s step hf3 hf4).mono ?_
   rintro e w6 ⟨hb,L',hg,hfr,h⟩
   rw [HR.out] at h
   have z1:=(hfr.keep (W.heap.size + 1) (blk_lt HZ5.out) (HNN.out _ (by omega))).1.trans HZ5.out
   have HB6:=am (HB5.out.trans hb)
   have HF6:=am (show Fr W L w6 L' from HF5.out w5 HG5.out |>.trans hfr)
   have HZ6:=am z1
   have HGG:=am hg
   clear hb hg hfr g0 g1 g2 g3 g4 g5
   have u0:=bd z1 0
   have u1:=blk_frozen z1 0
   clear z1
   obtain ⟨rfl,hY'⟩:=h
   have HY6:=am hY'
   clear hY'
   go_wp2
   refine leaves_cons (f:=220) (args:=#[.pointer (some ⟨W.heap.size + 1,0,none⟩)]) (by simp) (by simp [go_sem]) ?_
   refine (do1_idle ⟨W.heap.size + 1,0,none⟩ _).mono ?_
   rintro e u' w'' ⟨rfl,rfl,rfl⟩
   have hS:=below_same HZ6.out
   have s4:=(blk_cell (blk_put (cs':=#[ii 0]) HZ6.out 0 (ii 0) rfl) 0).trans (show _ = some (Value.int .i64 0) from rfl)
   exact ⟨_,by simp [results,Tryz.results177,go_sem,s4],HB6.out.trans (hS.mono (Nat.le_trans hbw (HF6.out.size))),L',HGG.out,HF6.out.trans (Fr.of_below L' hS),rfl,HY6.out.move hS⟩
 by_cases hk4 : s.f1 = 4
 ·have HK:=am hk4
  have hf5:=(HFo.out.amount (by omega)).1
  have hf6:=(HFo.out.amount (by omega)).2
  have hf7:=(HFo.out.dest hk4).1
  have hf8:=(HFo.out.dest hk4).2.1
  have hf9:=(HFo.out.dest hk4).2.2
  rw [show stepP Y s step = moveP Y s by unfold stepP;rw [if_neg hk1,if_neg hk2,if_neg hk3,if_pos hk4]]
  clear hk1 hk2 hk3 hk4 hkind
  cases hr : moveP Y s with
 |error c =>
   have HR:=am hr
   clear hr
   go_enter_defers Tryz.func177,Tryz.ntmps177
   go_wp2_with (first
   |(refine wpList_insert_map _ rfl _ _ _ 327 rfl 3 326 law3 Tryz.underlying327 ekI (fun v : Value => v) (W.heap.size + 1 + 1) 0 _ rfl HM0.out (by decide) 1 (fnV L.g 221) _ rfl rfl (keyI 1 (by decide) (by decide)) (fun _ => ekI_inj) ?_;intro w1 hm_ hg_;have HM1:=am hm_;have HG1:=am (hg_);clear hm_ hg_)
   |(refine wpList_insert_map _ rfl _ _ _ 327 rfl 3 326 law3 Tryz.underlying327 ekI (fun v : Value => v) (W.heap.size + 1 + 1) 1 _ rfl HM1.out (by decide) 2 (fnV L.g 222) _ rfl rfl (keyI 2 (by decide) (by decide)) (fun _ => ekI_inj) ?_;intro w2 hm_ hg_;have HM2:=am hm_;have HG2:=am (HG1.out.trans hg_);clear hm_ hg_)
   |(refine wpList_insert_map _ rfl _ _ _ 327 rfl 3 326 law3 Tryz.underlying327 ekI (fun v : Value => v) (W.heap.size + 1 + 1) 2 _ rfl HM2.out (by decide) 3 (fnV L.g 223) _ rfl rfl (keyI 3 (by decide) (by decide)) (fun _ => ekI_inj) ?_;intro w3 hm_ hg_;have HM3:=am hm_;have HG3:=am (HG2.out.trans hg_);clear hm_ hg_)
   |(refine wpList_insert_map _ rfl _ _ _ 327 rfl 3 326 law3 Tryz.underlying327 ekI (fun v : Value => v) (W.heap.size + 1 + 1) 3 _ rfl HM3.out (by decide) 4 (fnV L.g 224) _ rfl rfl (keyI 4 (by decide) (by decide)) (fun _ => ekI_inj) ?_;intro w4 hm_ hg_;have HM4:=am hm_;have HG4:=am (HG3.out.trans hg_);clear hm_ hg_)
   |(refine wpList_insert_map _ rfl _ _ _ 327 rfl 3 326 law3 Tryz.underlying327 ekI (fun v : Value => v) (W.heap.size + 1 + 1) 4 _ rfl HM4.out (by decide) 5 (fnV L.g 225) _ rfl rfl (keyI 5 (by decide) (by decide)) (fun _ => ekI_inj) ?_;intro w5 hm_ hg_;have HM5:=am hm_;have HG5:=am (HG4.out.trans hg_);clear hm_ hg_;obtain ⟨HY5,HB5,HX5,HZ5⟩:=HALL.out w5 HG5.out;have g0:=bd HX5.out 0;have g1:=bd HX5.out 1;have g2:=bd HX5.out 2;have g3:=bd HX5.out 3;have g4:=bd HX5.out 4;have g5:=bd HX5.out 5)
   |(refine wpList_lookup_map _ rfl _ _ 327 false rfl 3 326 law3 Tryz.underlying327 .nilFunc (zero326 _) ekI (fun v : Value => v) (W.heap.size + 1 + 1) 5 _ rfl HM5.out s.f1 _ rfl (keyI s.f1 (by have:=HK.out;omega) (by have:=HK.out;omega)) (.func (.func 224) #[.pointer (some ⟨L.g,0,none⟩)] #[]) (by simp [HK.out,fnV]) ?_)
   |fail)
   refine (move_calls HY5.out HW.out hm s step hf3 hf4 hf5 hf6 hf7 hf8 hf9).mono ?_
   rintro e w6 ⟨hb,L',hg,hfr,h⟩
   rw [HR.out] at h
   have z1:=(hfr.keep (W.heap.size + 1) (blk_lt HZ5.out) (HNN.out _ (by omega))).1.trans HZ5.out
   have HB6:=am (HB5.out.trans hb)
   have HF6:=am (show Fr W L w6 L' from HF5.out w5 HG5.out |>.trans hfr)
   have HZ6:=am z1
   have HGG:=am hg
   clear hb hg hfr g0 g1 g2 g3 g4 g5
   have u0:=bd z1 0
   have u1:=blk_frozen z1 0
   clear z1
   subst h
   unfold Pan
   go_wp2
   refine leaves_cons (f:=220) (args:=#[.pointer (some ⟨W.heap.size + 1,0,none⟩)]) (by simp) (by simp [go_sem]) ?_
   refine (do1_panic c 0 ⟨W.heap.size + 1,0,none⟩ _ u0 u1).mono ?_
   rintro e u' w'' ⟨rfl,rfl,rfl⟩
   have s4:=(blk_cell (blk_put (cs':=#[ii c]) HZ6.out 0 (ii c) rfl) 0).trans (show _ = some (Value.int .i64 c) from rfl)
   exact ⟨_,by simp [results,Tryz.results177,go_sem,s4],HB6.out.trans ((Below.refl base w6).setCell (show base ≤ W.heap.size + 1 by omega) _),L',HGG.out,fr_set HF6.out (Nat.le_succ _) _,rfl⟩
 |ok Y' =>
   have HR:=am hr
   clear hr
   go_enter_defers Tryz.func177,Tryz.ntmps177
   go_wp2_with (first
   |(refine wpList_insert_map _ rfl _ _ _ 327 rfl 3 326 law3 Tryz.underlying327 ekI (fun v : Value => v) (W.heap.size + 1 + 1) 0 _ rfl HM0.out (by decide) 1 (fnV L.g 221) _ rfl rfl (keyI 1 (by decide) (by decide)) (fun _ => ekI_inj) ?_;intro w1 hm_ hg_;have HM1:=am hm_;have HG1:=am (hg_);clear hm_ hg_)
   |(refine wpList_insert_map _ rfl _ _ _ 327 rfl 3 326 law3 Tryz.underlying327 ekI (fun v : Value => v) (W.heap.size + 1 + 1) 1 _ rfl HM1.out (by decide) 2 (fnV L.g 222) _ rfl rfl (keyI 2 (by decide) (by decide)) (fun _ => ekI_inj) ?_;intro w2 hm_ hg_;have HM2:=am hm_;have HG2:=am (HG1.out.trans hg_);clear hm_ hg_)
   |(refine wpList_insert_map _ rfl _ _ _ 327 rfl 3 326 law3 Tryz.underlying327 ekI (fun v : Value => v) (W.heap.size + 1 + 1) 2 _ rfl HM2.out (by decide) 3 (fnV L.g 223) _ rfl rfl (keyI 3 (by decide) (by decide)) (fun _ => ekI_inj) ?_;intro w3 hm_ hg_;have HM3:=am hm_;have HG3:=am (HG2.out.trans hg_);clear hm_ hg_)
   |(refine wpList_insert_map _ rfl _ _ _ 327 rfl 3 326 law3 Tryz.underlying327 ekI (fun v : Value => v) (W.heap.size + 1 + 1) 3 _ rfl HM3.out (by decide) 4 (fnV L.g 224) _ rfl rfl (keyI 4 (by decide) (by decide)) (fun _ => ekI_inj) ?_;intro w4 hm_ hg_;have HM4:=am hm_;have HG4:=am (HG3.out.trans hg_);clear hm_ hg_)
   |(refine wpList_insert_map _ rfl _ _ _ 327 rfl 3 326 law3 Tryz.underlying327 ekI (fun v : Value => v) (W.heap.size + 1 + 1) 4 _ rfl HM4.out (by decide) 5 (fnV L.g 225) _ rfl rfl (keyI 5 (by decide) (by decide)) (fun _ => ekI_inj) ?_;intro w5 hm_ hg_;have HM5:=am hm_;have HG5:=am (HG4.out.trans hg_);clear hm_ hg_;obtain ⟨HY5,HB5,HX5,HZ5⟩:=HALL.out w5 HG5.out;have g0:=bd HX5.out 0;have g1:=bd HX5.out 1;have g2:=bd HX5.out 2;have g3:=bd HX5.out 3;have g4:=bd HX5.out 4;have g5:=bd HX5.out 5)
   |(refine wpList_lookup_map _ rfl _ _ 327 false rfl 3 326 law3 Tryz.underlying327 .nilFunc (zero326 _) ekI (fun v : Value => v) (W.heap.size + 1 + 1) 5 _ rfl HM5.out s.f1 _ rfl (keyI s.f1 (by have:=HK.out;omega) (by have:=HK.out;omega)) (.func (.func 224) #[.pointer (some ⟨L.g,0,none⟩)] #[]) (by simp [HK.out,fnV]) ?_)
   |fail)
   refine (move_calls HY5.out HW.out hm s step hf3 hf4 hf5 hf6 hf7 hf8 hf9).mono ?_
   rintro e w6 ⟨hb,L',hg,hfr,h⟩
   rw [HR.out] at h
   have z1:=(hfr.keep (W.heap.size + 1) (blk_lt HZ5.out) (HNN.out _ (by omega))).1.trans HZ5.out
   have HB6:=am (HB5.out.trans hb)
   have HF6:=am (show Fr W L w6 L' from HF5.out w5 HG5.out |>.trans hfr)
   have HZ6:=am z1
   have HGG:=am hg
   clear hb hg hfr g0 g1 g2 g3 g4 g5
   have u0:=bd z1 0
   have u1:=blk_frozen z1 0
   clear z1
   obtain ⟨rfl,hY'⟩:=h
   have HY6:=am hY'
   clear hY'
   go_wp2
   refine leaves_cons (f:=220) (args:=#[.pointer (some ⟨W.heap.size + 1,0,none⟩)]) (by simp) (by simp [go_sem]) ?_
   refine (do1_idle ⟨W.heap.size + 1,0,none⟩ _).mono ?_
   rintro e u' w'' ⟨rfl,rfl,rfl⟩
   have hS:=below_same HZ6.out
   have s4:=(blk_cell (blk_put (cs':=#[ii 0]) HZ6.out 0 (ii 0) rfl) 0).trans (show _ = some (Value.int .i64 0) from rfl)
   exact ⟨_,by simp [results,Tryz.results177,go_sem,s4],HB6.out.trans (hS.mono (Nat.le_trans hbw (HF6.out.size))),L',HGG.out,HF6.out.trans (Fr.of_below L' hS),rfl,HY6.out.move hS⟩
 have hk5 : s.f1 = 5:=by omega
 have HK:=am hk5
 have hf5:=(HFo.out.amount (by omega)).1
 have hf6:=(HFo.out.amount (by omega)).2
 rw [show stepP Y s step = spillP Y s by unfold stepP;rw [if_neg hk1,if_neg hk2,if_neg hk3,if_neg hk4]]
 clear hk1 hk2 hk3 hk4 hk5 hkind
 cases hr : spillP Y s with
|error c =>
  have HR:=am hr
  clear hr
  go_enter_defers Tryz.func177,Tryz.ntmps177
  go_wp2_with (first
  |(refine wpList_insert_map _ rfl _ _ _ 327 rfl 3 326 law3 Tryz.underlying327 ekI (fun v : Value => v) (W.heap.size + 1 + 1) 0 _ rfl HM0.out (by decide) 1 (fnV L.g 221) _ rfl rfl (keyI 1 (by decide) (by decide)) (fun _ => ekI_inj) ?_;intro w1 hm_ hg_;have HM1:=am hm_;have HG1:=am (hg_);clear hm_ hg_)
  |(refine wpList_insert_map _ rfl _ _ _ 327 rfl 3 326 law3 Tryz.underlying327 ekI (fun v : Value => v) (W.heap.size + 1 + 1) 1 _ rfl HM1.out (by decide) 2 (fnV L.g 222) _ rfl rfl (keyI 2 (by decide) (by decide)) (fun _ => ekI_inj) ?_;intro w2 hm_ hg_;have HM2:=am hm_;have HG2:=am (HG1.out.trans hg_);clear hm_ hg_)
  |(refine wpList_insert_map _ rfl _ _ _ 327 rfl 3 326 law3 Tryz.underlying327 ekI (fun v : Value => v) (W.heap.size + 1 + 1) 2 _ rfl HM2.out (by decide) 3 (fnV L.g 223) _ rfl rfl (keyI 3 (by decide) (by decide)) (fun _ => ekI_inj) ?_;intro w3 hm_ hg_;have HM3:=am hm_;have HG3:=am (HG2.out.trans hg_);clear hm_ hg_)
  |(refine wpList_insert_map _ rfl _ _ _ 327 rfl 3 326 law3 Tryz.underlying327 ekI (fun v : Value => v) (W.heap.size + 1 + 1) 3 _ rfl HM3.out (by decide) 4 (fnV L.g 224) _ rfl rfl (keyI 4 (by decide) (by decide)) (fun _ => ekI_inj) ?_;intro w4 hm_ hg_;have HM4:=am hm_;have HG4:=am (HG3.out.trans hg_);clear hm_ hg_)
  |(refine wpList_insert_map _ rfl _ _ _ 327 rfl 3 326 law3 Tryz.underlying327 ekI (fun v : Value => v) (W.heap.size + 1 + 1) 4 _ rfl HM4.out (by decide) 5 (fnV L.g 225) _ rfl rfl (keyI 5 (by decide) (by decide)) (fun _ => ekI_inj) ?_;intro w5 hm_ hg_;have HM5:=am hm_;have HG5:=am (HG4.out.trans hg_);clear hm_ hg_;obtain ⟨HY5,HB5,HX5,HZ5⟩:=HALL.out w5 HG5.out;have g0:=bd HX5.out 0;have g1:=bd HX5.out 1;have g2:=bd HX5.out 2;have g3:=bd HX5.out 3;have g4:=bd HX5.out 4;have g5:=bd HX5.out 5)
  |(refine wpList_lookup_map _ rfl _ _ 327 false rfl 3 326 law3 Tryz.underlying327 .nilFunc (zero326 _) ekI (fun v : Value => v) (W.heap.size + 1 + 1) 5 _ rfl HM5.out s.f1 _ rfl (keyI s.f1 (by have:=HK.out;omega) (by have:=HK.out;omega)) (.func (.func 225) #[.pointer (some ⟨L.g,0,none⟩)] #[]) (by simp [HK.out,fnV]) ?_)
  |fail)
  refine (spill_calls HY5.out HW.out hm s step hf3 hf4 hf5 hf6).mono ?_
  rintro e w6 ⟨hb,L',hg,hfr,h⟩
  rw [HR.out] at h
  have z1:=(hfr.keep (W.heap.size + 1) (blk_lt HZ5.out) (HNN.out _ (by omega))).1.trans HZ5.out
  have HB6:=am (HB5.out.trans hb)
  have HF6:=am (show Fr W L w6 L' from HF5.out w5 HG5.out |>.trans hfr)
  have HZ6:=am z1
  have HGG:=am hg
  clear hb hg hfr g0 g1 g2 g3 g4 g5
  have u0:=bd z1 0
  have u1:=blk_frozen z1 0
  clear z1
  subst h
  unfold Pan
  go_wp2
  refine leaves_cons (f:=220) (args:=#[.pointer (some ⟨W.heap.size + 1,0,none⟩)]) (by simp) (by simp [go_sem]) ?_
  refine (do1_panic c 0 ⟨W.heap.size + 1,0,none⟩ _ u0 u1).mono ?_
  rintro e u' w'' ⟨rfl,rfl,rfl⟩
  have s4:=(blk_cell (blk_put (cs':=#[ii c]) HZ6.out 0 (ii c) rfl) 0).trans (show _ = some (Value.int .i64 c) from rfl)
  exact ⟨_,by simp [results,Tryz.results177,go_sem,s4],HB6.out.trans ((Below.refl base w6).setCell (show base ≤ W.heap.size + 1 by omega) _),L',HGG.out,fr_set HF6.out (Nat.le_succ _) _,rfl⟩
|ok Y' =>
  have HR:=am hr
  clear hr
  go_enter_defers Tryz.func177,Tryz.ntmps177
  go_wp2_with (first
  |(refine wpList_insert_map _ rfl _ _ _ 327 rfl 3 326 law3 Tryz.underlying327 ekI (fun v : Value => v) (W.heap.size + 1 + 1) 0 _ rfl HM0.out (by decide) 1 (fnV L.g 221) _ rfl rfl (keyI 1 (by decide) (by decide)) (fun _ => ekI_inj) ?_;intro w1 hm_ hg_;have HM1:=am hm_;have HG1:=am (hg_);clear hm_ hg_)
  |(refine wpList_insert_map _ rfl _ _ _ 327 rfl 3 326 law3 Tryz.underlying327 ekI (fun v : Value => v) (W.heap.size + 1 + 1) 1 _ rfl HM1.out (by decide) 2 (fnV L.g 222) _ rfl rfl (keyI 2 (by decide) (by decide)) (fun _ => ekI_inj) ?_;intro w2 hm_ hg_;have HM2:=am hm_;have HG2:=am (HG1.out.trans hg_);clear hm_ hg_)
  |(refine wpList_insert_map _ rfl _ _ _ 327 rfl 3 326 law3 Tryz.underlying327 ekI (fun v : Value => v) (W.heap.size + 1 + 1) 2 _ rfl HM2.out (by decide) 3 (fnV L.g 223) _ rfl rfl (keyI 3 (by decide) (by decide)) (fun _ => ekI_inj) ?_;intro w3 hm_ hg_;have HM3:=am hm_;have HG3:=am (HG2.out.trans hg_);clear hm_ hg_)
  |(refine wpList_insert_map _ rfl _ _ _ 327 rfl 3 326 law3 Tryz.underlying327 ekI (fun v : Value => v) (W.heap.size + 1 + 1) 3 _ rfl HM3.out (by decide) 4 (fnV L.g 224) _ rfl rfl (keyI 4 (by decide) (by decide)) (fun _ => ekI_inj) ?_;intro w4 hm_ hg_;have HM4:=am hm_;have HG4:=am (HG3.out.trans hg_);clear hm_ hg_)
  |(refine wpList_insert_map _ rfl _ _ _ 327 rfl 3 326 law3 Tryz.underlying327 ekI (fun v : Value => v) (W.heap.size + 1 + 1) 4 _ rfl HM4.out (by decide) 5 (fnV L.g 225) _ rfl rfl (keyI 5 (by decide) (by decide)) (fun _ => ekI_inj) ?_;intro w5 hm_ hg_;have HM5:=am hm_;have HG5:=am (HG4.out.trans hg_);clear hm_ hg_;obtain ⟨HY5,HB5,HX5,HZ5⟩:=HALL.out w5 HG5.out;have g0:=bd HX5.out 0;have g1:=bd HX5.out 1;have g2:=bd HX5.out 2;have g3:=bd HX5.out 3;have g4:=bd HX5.out 4;have g5:=bd HX5.out 5)
  |(refine wpList_lookup_map _ rfl _ _ 327 false rfl 3 326 law3 Tryz.underlying327 .nilFunc (zero326 _) ekI (fun v : Value => v) (W.heap.size + 1 + 1) 5 _ rfl HM5.out s.f1 _ rfl (keyI s.f1 (by have:=HK.out;omega) (by have:=HK.out;omega)) (.func (.func 225) #[.pointer (some ⟨L.g,0,none⟩)] #[]) (by simp [HK.out,fnV]) ?_)
  |fail)
  refine (spill_calls HY5.out HW.out hm s step hf3 hf4 hf5 hf6).mono ?_
  rintro e w6 ⟨hb,L',hg,hfr,h⟩
  rw [HR.out] at h
  have z1:=(hfr.keep (W.heap.size + 1) (blk_lt HZ5.out) (HNN.out _ (by omega))).1.trans HZ5.out
  have HB6:=am (HB5.out.trans hb)
  have HF6:=am (show Fr W L w6 L' from HF5.out w5 HG5.out |>.trans hfr)
  have HZ6:=am z1
  have HGG:=am hg
  clear hb hg hfr g0 g1 g2 g3 g4 g5
  have u0:=bd z1 0
  have u1:=blk_frozen z1 0
  clear z1
  obtain ⟨rfl,hY'⟩:=h
  have HY6:=am hY'
  clear hY'
  go_wp2
  refine leaves_cons (f:=220) (args:=#[.pointer (some ⟨W.heap.size + 1,0,none⟩)]) (by simp) (by simp [go_sem]) ?_
  refine (do1_idle ⟨W.heap.size + 1,0,none⟩ _).mono ?_
  rintro e u' w'' ⟨rfl,rfl,rfl⟩
  have hS:=below_same HZ6.out
  have s4:=(blk_cell (blk_put (cs':=#[ii 0]) HZ6.out 0 (ii 0) rfl) 0).trans (show _ = some (Value.int .i64 0) from rfl)
  exact ⟨_,by simp [results,Tryz.results177,go_sem,s4],HB6.out.trans (hS.mono (Nat.le_trans hbw (HF6.out.size))),L',HGG.out,HF6.out.trans (Fr.of_below L' hS),rfl,HY6.out.move hS⟩
theorem reps_empty (W : World) (ok okp : Nat → Prop) (n : Nat) : Reps ((ft (Kd.slice 212 k212) W ok).M W W.heap.size okp) 1 (List.replicate n ([] : List S212)) (madeCells #[.slice none 0 0] n).toList:=by
 have h:=Kd.reps_made (R:=(ft (Kd.slice 212 k212) W ok).M W W.heap.size okp) (size:=1) (z:=.slice none 0 0) rfl (by decide) (show (ft (Kd.slice 212 k212) W ok).M W W.heap.size okp ([] : List S212) [.slice none 0 0] from fun W2 _ => ⟨none,0,rfl,Nat.le_refl _,Kd.C_nil _ _⟩) n
 rw [Nat.mul_one] at h
 exact h
set_option maxRecDepth 100000 in
theorem empty_calls (A : Option Addr) (c : Nat) (rooms : List Int) (W : World) (lo : Nat) (hlo : lo ≤ W.heap.size) (hC : Kd.F (Kd.int .i64) W (fun k => k < lo) A rooms.length rooms) (hc : rooms.length ≤ c) (h6 : rooms.length ≤ 6) :
  Calls Tryz.prog 175 #[.slice A rooms.length c] W fun e W' => ∃ L : Loc,e = .returned (.pointer (some ⟨L.g,0,none⟩)) ∧ YardAt W' W.heap.size L (emptyP rooms) ∧ (∀ k,lo ≤ k → k < W.heap.size → L.bad k) ∧ Below W.heap.size W W':=by
 have hmk:=print_make_of (P:=Tryz.prog) 162 131 (.slice none 0 0) 24 Tryz.underlying162 kr rfl (by decide) rooms.length (by omega)
 have hu:=Tryz.underlying165
 have HC:=am hC
 clear hC
 go_enter Tryz.func175,Tryz.ntmps175
 go_wp2
 go_ret
 have hb : Below W.heap.size W ((W.alloc (.cells (madeCells #[.slice none 0 0] rooms.length) 131)).alloc (.cells #[.slice A rooms.length c,.slice (some ⟨W.heap.size,0,none⟩) rooms.length rooms.length,.slice none 0 0,.slice none 0 0,.slice none 0 0,.slice none 0 0] 165)):=below_alloc (below_alloc (Below.refl _ _) _) _
 have hN : ∀ k,k < lo → Loc.Not ⟨W.heap.size + 1,W.heap.size,.slice A rooms.length c,.slice none 0 0,.slice none 0 0,.slice none 0 0,.slice none 0 0,fun k => lo ≤ k ∧ k < W.heap.size⟩ k:=fun k hk hm => by
  rcases hm with e|e|e|e|e|e|e
  ·simp at e;omega
  ·simp at e;omega
  ·simp [Value.ownBlock] at e
  ·simp [Value.ownBlock] at e
  ·simp [Value.ownBlock] at e
  ·simp [Value.ownBlock] at e
  ·have:=e.1;omega
 refine ⟨⟨W.heap.size + 1,W.heap.size,.slice A rooms.length c,.slice none 0 0,.slice none 0 0,.slice none 0 0,.slice none 0 0,fun k => lo ≤ k ∧ k < W.heap.size⟩,rfl,{ gbase:=Nat.le_succ _,bad:=fun k hk => hk.2,blk:=blk_new' _ _ _ (by simp),rooms:=?_,pits:=?_,pours:=Kd.R_nil _ _ _ _ _,days:=Kd.R_nil _ _ _ _ _,apart:=fun k hk => by simp [Value.ownBlock] at hk,barrows:=Kd.R_nil _ _ _ _ _,lost:=Kd.R_nil _ _ _ _ _ },fun k h1 h2 => ⟨h1,h2⟩,hb⟩
 ·exact fun W2 hW => ⟨A,c,rfl,hc,HC.out W2 (fun k hk hlt => (hW k (hN k hk) (Nat.lt_of_lt_of_le hlt hb.size)).trans (hb.block k hlt))⟩
 ·have h1 : OwnRow ((ft (Kd.slice 212 k212) W (fun k => k < lo)).M W W.heap.size (fun _ => True)) 131 1 (W.alloc (.cells (madeCells #[.slice none 0 0] rooms.length).toList.toArray 131)) W.heap.size (.slice (some ⟨W.heap.size,0,none⟩) (List.replicate rooms.length ([] : List S212)).length (List.replicate rooms.length ([] : List S212)).length) (List.replicate rooms.length ([] : List S212)):=OwnRow.lit W W.heap.size (reps_empty W _ _ rooms.length) (Nat.le_refl _) (by simp;omega)
  rw [List.length_replicate] at h1
  have h2 : (ft (Kd.slice 212 k212) W (fun k => k < lo)).R 131 (W.alloc (.cells (madeCells #[.slice none 0 0] rooms.length) 131)) W.heap.size (fun _ => True) (.slice (some ⟨W.heap.size,0,none⟩) rooms.length rooms.length) (List.replicate rooms.length ([] : List S212)):=⟨fun _ _ => trivial,h1.imp_ (fun _ _ h => h)⟩
  exact ft_to (Kd.R_alloc h2 _) hb (fun k hk _ => hN k hk)
def R176_2.T : Bool × List (List Nat × List Nat):=(true,[([],[]),([0],[0]),([1],[1]),([],[]),([3],[3]),([4,2],[4]),([2,5,0,1,2],[2]),([5,6,0,1,2,3,4,5,6],[5])])
def R176_2.B : List Nat:=[0,1,3,0,8,31,63,127]
theorem R176_2.tab : rtab .any (opsOf Tryz.f176 2) = R176_2.T:=by kernel_rfl
theorem R176_2.bits : waitsOk R176_2.T.2 R176_2.B = true:=by kernel_rfl
set_option maxRecDepth 100000 in
theorem cl219 (Bp : Nat) (A : Option Addr) (n c : Nat) (v2 : Value) (x : Int) (w : World) (BK : w.heap[Bp]? = some (.cells #[.slice A n c,v2] 32 (0,0))) (hn : n ≤ 100) :
  Calls Tryz.prog 219 (#[ii x] ++ #[.pointer (some ⟨Bp,0,none⟩)]) w fun e w' => e = .returned (.bool (decide (0 ≤ x ∧ x ≤ (n : Int) - 1))) ∧ Below w.heap.size w w':=by
 have hu:=Tryz.underlying32
 have g0:=bd BK 0
 clear BK
 simp only [List.append_toArray,List.cons_append,List.nil_append]
 go_enter Tryz.func219,Tryz.ntmps219
 go_wp2_with fail
 refine (pit_within.calls _ _ _ _ _ (within_some _ _ _)).mono ?_
 rintro e w1 ⟨rfl,m,rfl⟩
 go_wp2
 go_ret
 refine ⟨?_,pw_below_drewN (Below.refl _ _) m⟩
 show Ending.returned (Value.bool _) = _
 rw [Bool.decide_and]
set_option maxRecDepth 100000 in
set_option maxHeartbeats 2000000 in
theorem formed_calls (A A2 : Option Addr) (n c n2 c2 : Nat) (s : S84) (day : Int) (w : World) (hn : n ≤ 6) :
  Calls Tryz.prog 176 #[.agg #[.slice A n c,.slice A2 n2 c2],.agg #[ii s.f0,ii s.f1,ii s.f2,ii s.f3,ii s.f4,ii s.f5],ii day] w fun e w' => e = .returned (.bool (formedP (n : Int) s day)) ∧ Below w.heap.size w w':=by
 have hmf : ∀ (fn : Fn) (first cap : Array Value) (w : World),(Instr.makeFunc fn first cap).run Tryz.prog w = .ok (.func fn first cap) w:=fun _ _ _ _ => rfl
 have hu:=Tryz.underlying32
 have hu84:=Tryz.underlying84
 have HX:=am (blk_drew (blk_new' (w.alloc (.cells #[.slice A n c,.slice A2 n2 c2] 32)) (.cells #[ii s.f0,ii s.f1,ii s.f2,ii s.f3,ii s.f4,ii s.f5] 84) (w.heap.size + 1) (by simp)))
 have HP:=am (blk_drew (blk_alloc (blk_new w (.cells #[.slice A n c,.slice A2 n2 c2] 32)) (.cells #[ii s.f0,ii s.f1,ii s.f2,ii s.f3,ii s.f4,ii s.f5] 84)))
 have HB:=am (below_drew (below_alloc (below_alloc (Below.refl w.heap.size w) (.cells #[.slice A n c,.slice A2 n2 c2] 32)) (.cells #[ii s.f0,ii s.f1,ii s.f2,ii s.f3,ii s.f4,ii s.f5] 84)))
 obtain ⟨i1,hi1⟩ : ∃ i1,i1 = decide (1 ≤ s.f0 ∧ s.f0 ≤ 1099511627776):=⟨_,rfl⟩
 obtain ⟨a1,ha1⟩ : ∃ a1,a1 = decide (1 ≤ s.f5 ∧ s.f5 ≤ 1000):=⟨_,rfl⟩
 obtain ⟨d1,hd1⟩ : ∃ d1,d1 = decide (day ≤ s.f2 ∧ s.f2 ≤ 682):=⟨_,rfl⟩
 obtain ⟨d2,hd2⟩ : ∃ d2,d2 = decide (0 ≤ s.f3 ∧ s.f3 ≤ (n : Int) - 1):=⟨_,rfl⟩
 have WI1:=am (show pit_within.f s.f0 1 1099511627776 = some i1 by rw [within_some,hi1])
 have WA1:=am (show pit_within.f s.f5 1 1000 = some a1 by rw [within_some,ha1])
 have HI1:=am hi1
 have HA1:=am ha1
 have HD1:=am hd1
 have HD2:=am hd2
 clear hi1 ha1 hd1 hd2
 go_enter Tryz.func176,Tryz.ntmps176
 go_wp2
 refine start_ (n:=8) (S:=fun w' => w'.cell? ⟨w.heap.size + 1,0,none⟩ = some (ii s.f0) ∧ w'.cell? ⟨w.heap.size + 1,5,none⟩ = some (ii s.f5)) (ds:=[]) (ab 8 0) kr rfl kr ⟨(blk_cell HX.out 0).trans rfl,(blk_cell HX.out 5).trans rfl⟩ (fun hHeld => ?_);refine with_tabW R176_2.tab R176_2.bits (fun HT_ HW_ => ?_)
 generalize (((w.alloc (.cells #[.slice A n c,.slice A2 n2 c2] 32)).alloc (.cells #[ii s.f0,ii s.f1,ii s.f2,ii s.f3,ii s.f4,ii s.f5] 84))).drew = wd at HX HP HB hHeld ⊢
 refine qA 0 (some 11) ?_;refine qT 1 (some 12) ?_;refine qA 3 (some 14) ?_;refine qT 4 (some 15) ?_
 refine qE 2 (some 13) fun K hK => ?_
 refine gC Tryz.func106 #[ii s.f0,ii 1,ii 1099511627776] ?_
 refine (pit_within.calls _ _ _ _ _ WI1.out).mono ?_
 rintro e w1 ⟨rfl,m1,rfl⟩
 have HX1:=am (blk_drewN HX.out m1)
 have HP1:=am (blk_drewN HP.out m1)
 have HB1:=am (pw_below_drewN HB.out m1)
 refine ⟨_,rfl,?_⟩
 refine hK.out _ _ ⟨(blk_cell HX1.out 0).trans rfl,(blk_cell HX1.out 5).trans rfl⟩ (fun hHeld => ?_)
 clear hK K
 refine qN (some 13) ?_
 refine qE 5 (some 16) fun K hK => ?_
 refine gC Tryz.func106 #[ii s.f5,ii 1,ii 1000] ?_
 refine (pit_within.calls _ _ _ _ _ WA1.out).mono ?_
 rintro e w2 ⟨rfl,m2,rfl⟩
 have HX2:=am (blk_drewN HX1.out m2)
 have HP2:=am (blk_drewN HP1.out m2)
 have HB2:=am (pw_below_drewN HB1.out m2)
 refine ⟨_,rfl,?_⟩
 refine hK.out _ _ ⟨(blk_cell HX2.out 0).trans rfl,(blk_cell HX2.out 5).trans rfl⟩ (fun hHeld => ?_)
 clear hK K
 refine qN (some 16) ?_
 refine qA 6 (some 8) ?_;refine qA 7 (some 9) ?_
 refine done_ (done_of HT_.out kr) ?_
 generalize (wd.drewN m1).drewN m2 = w2 at HX2 HP2 HB2 ⊢
 clear HX1 HP1 HB1 HX HP HB
 have g0:=bd HX2.out 0
 have g1:=bd HX2.out 1
 have g2:=bd HX2.out 2
 have g3:=bd HX2.out 3
 have g4:=bd HX2.out 4
 have g5:=bd HX2.out 5
 cases d1 with
|false =>
  go_wp2_with fail
  refine (pit_within.calls _ _ _ _ _ (within_some _ _ _)).mono ?_
  rintro e w3 ⟨rfl,m3,rfl⟩
  rw [← HD1.out]
  go_wp2
  go_ret
  exact ⟨by show Ending.returned (Value.bool false) = _;unfold formedP inP;rw [← HD1.out];rfl,pw_below_drewN HB2.out m3⟩
|true =>
  cases d2 with
 |false =>
   go_wp2_with fail
   refine (pit_within.calls _ _ _ _ _ (within_some _ _ _)).mono ?_
   rintro e w3 ⟨rfl,m3,rfl⟩
   rw [← HD1.out]
   go_wp2_with fail
   refine (cl219 w.heap.size A n c _ s.f3 _ (blk_drewN HP2.out m3) (by omega)).mono ?_
   rintro e w4 ⟨rfl,hb⟩
   rw [← HD2.out]
   have HB4:=am hb
   clear hb
   go_wp2
   go_ret
   exact ⟨by show Ending.returned (Value.bool false) = _;unfold formedP inP;rw [← HD1.out,← HD2.out];rfl,below_then (pw_below_drewN HB2.out m3) (below_size (pw_below_drewN HB2.out m3)) HB4.out⟩
 |true =>
   go_wp2_with fail
   refine (pit_within.calls _ _ _ _ _ (within_some _ _ _)).mono ?_
   rintro e w3 ⟨rfl,m3,rfl⟩
   rw [← HD1.out]
   go_wp2_with fail
   refine (cl219 w.heap.size A n c _ s.f3 _ (blk_drewN HP2.out m3) (by omega)).mono ?_
   rintro e w4 ⟨rfl,hb⟩
   rw [← HD2.out]
   have HB4:=am (below_then (pw_below_drewN HB2.out m3) (below_size (pw_below_drewN HB2.out m3)) hb)
   have HX4:=am (blk_below (blk_drewN HX2.out m3) hb)
   have HP4:=am (blk_below (blk_drewN HP2.out m3) hb)
   clear hb g0 g1 g2 g3 g4 g5
   have g0:=bd HX4.out 0
   have g1:=bd HX4.out 1
   have g3:=bd HX4.out 3
   have g4:=bd HX4.out 4
   have g5:=bd HX4.out 5
   by_cases k1 : s.f1 = 1
   ·rw [k1] at g1
    cases i1 with
   |false =>
     go_wp2
     go_ret
     exact ⟨by show Ending.returned (Value.bool _) = _;unfold formedP inP;rw [← HD1.out,← HD2.out,if_pos (show s.f1 = 1 ∨ s.f1 = 2 by omega),← HI1.out,← HA1.out];rfl,HB4.out⟩
   |true =>
     cases a1 with
    |false =>
      go_wp2
      go_ret
      exact ⟨by show Ending.returned (Value.bool _) = _;unfold formedP inP;rw [← HD1.out,← HD2.out,if_pos (show s.f1 = 1 ∨ s.f1 = 2 by omega),← HI1.out,← HA1.out];rfl,HB4.out⟩
    |true =>
      go_wp2
      go_ret
      exact ⟨by show Ending.returned (Value.bool _) = _;unfold formedP inP;rw [← HD1.out,← HD2.out,if_pos (show s.f1 = 1 ∨ s.f1 = 2 by omega),← HI1.out,← HA1.out];rfl,HB4.out⟩
   ·skip
    by_cases k2 : s.f1 = 2
    ·rw [k2] at g1
     cases i1 with
    |false =>
      go_wp2
      go_ret
      exact ⟨by show Ending.returned (Value.bool _) = _;unfold formedP inP;rw [← HD1.out,← HD2.out,if_pos (show s.f1 = 1 ∨ s.f1 = 2 by omega),← HI1.out,← HA1.out];rfl,HB4.out⟩
    |true =>
      cases a1 with
     |false =>
       go_wp2
       go_ret
       exact ⟨by show Ending.returned (Value.bool _) = _;unfold formedP inP;rw [← HD1.out,← HD2.out,if_pos (show s.f1 = 1 ∨ s.f1 = 2 by omega),← HI1.out,← HA1.out];rfl,HB4.out⟩
     |true =>
       go_wp2
       go_ret
       exact ⟨by show Ending.returned (Value.bool _) = _;unfold formedP inP;rw [← HD1.out,← HD2.out,if_pos (show s.f1 = 1 ∨ s.f1 = 2 by omega),← HI1.out,← HA1.out];rfl,HB4.out⟩
    ·skip
     by_cases k3 : s.f1 = 3
     ·rw [k3] at g1
      by_cases z0 : s.f0 = 0
      ·rw [z0] at g0
       by_cases z5 : s.f5 = 0
       ·rw [z5] at g5
        go_wp2
        go_ret
        exact ⟨by show Ending.returned (Value.bool _) = _;unfold formedP inP;rw [← HD1.out,← HD2.out,if_neg (show ¬ (s.f1 = 1 ∨ s.f1 = 2) by omega),if_pos (show s.f1 = 3 by omega)];simp [z0,z5] <;> rfl,HB4.out⟩
       ·skip
        go_wp2
        go_ret
        exact ⟨by show Ending.returned (Value.bool _) = _;unfold formedP inP;rw [← HD1.out,← HD2.out,if_neg (show ¬ (s.f1 = 1 ∨ s.f1 = 2) by omega),if_pos (show s.f1 = 3 by omega)];simp [z0,z5] <;> rfl,HB4.out⟩
      ·skip
       go_wp2
       go_ret
       exact ⟨by show Ending.returned (Value.bool _) = _;unfold formedP inP;rw [← HD1.out,← HD2.out,if_neg (show ¬ (s.f1 = 1 ∨ s.f1 = 2) by omega),if_pos (show s.f1 = 3 by omega)];simp [z0] <;> rfl,HB4.out⟩
     ·skip
      by_cases k4 : s.f1 = 4
      ·rw [k4] at g1
       by_cases z0 : s.f0 = 0
       ·rw [z0] at g0
        cases a1 with
       |false =>
         go_wp2
         go_ret
         exact ⟨by show Ending.returned (Value.bool _) = _;unfold formedP inP;rw [← HD1.out,← HD2.out,if_neg (show ¬ (s.f1 = 1 ∨ s.f1 = 2) by omega),if_neg (show ¬ s.f1 = 3 by omega),if_pos (show s.f1 = 4 by omega),← HA1.out];simp [z0] <;> rfl,HB4.out⟩
       |true =>
         obtain ⟨t1,ht1⟩ : ∃ t1,t1 = decide (0 ≤ s.f4 ∧ s.f4 ≤ (n : Int) - 1):=⟨_,rfl⟩
         have HT1:=am ht1
         clear ht1
         cases t1 with
        |false =>
          go_wp2_with fail
          refine (cl219 w.heap.size A n c _ s.f4 _ HP4.out (by omega)).mono ?_
          rintro e w5 ⟨rfl,hb⟩
          rw [← HT1.out]
          have HB5:=am (below_then HB4.out (below_size HB4.out) hb)
          have HX5:=am (blk_below HX4.out hb)
          clear hb g0 g1 g3 g4 g5
          have g3:=bd HX5.out 3
          have g4:=bd HX5.out 4
          go_wp2
          go_ret
          exact ⟨by show Ending.returned (Value.bool _) = _;unfold formedP inP;rw [← HD1.out,← HD2.out,if_neg (show ¬ (s.f1 = 1 ∨ s.f1 = 2) by omega),if_neg (show ¬ s.f1 = 3 by omega),if_pos (show s.f1 = 4 by omega),← HA1.out,← HT1.out];simp [z0] <;> rfl,HB5.out⟩
        |true =>
          go_wp2_with fail
          refine (cl219 w.heap.size A n c _ s.f4 _ HP4.out (by omega)).mono ?_
          rintro e w5 ⟨rfl,hb⟩
          rw [← HT1.out]
          have HB5:=am (below_then HB4.out (below_size HB4.out) hb)
          have HX5:=am (blk_below HX4.out hb)
          clear hb g0 g1 g3 g4 g5
          have g3:=bd HX5.out 3
          have g4:=bd HX5.out 4
          go_wp2
          go_ret
          exact ⟨by show Ending.returned (Value.bool _) = _;unfold formedP inP;rw [← HD1.out,← HD2.out,if_neg (show ¬ (s.f1 = 1 ∨ s.f1 = 2) by omega),if_neg (show ¬ s.f1 = 3 by omega),if_pos (show s.f1 = 4 by omega),← HA1.out,← HT1.out];simp [z0] <;> rfl,HB5.out⟩
       ·skip
        go_wp2
        go_ret
        exact ⟨by show Ending.returned (Value.bool _) = _;unfold formedP inP;rw [← HD1.out,← HD2.out,if_neg (show ¬ (s.f1 = 1 ∨ s.f1 = 2) by omega),if_neg (show ¬ s.f1 = 3 by omega),if_pos (show s.f1 = 4 by omega)];simp [z0] <;> rfl,HB4.out⟩
      ·skip
       by_cases k5 : s.f1 = 5
       ·rw [k5] at g1
        by_cases z0 : s.f0 = 0
        ·rw [z0] at g0
         cases a1 with
        |false =>
          go_wp2
          go_ret
          exact ⟨by show Ending.returned (Value.bool _) = _;unfold formedP inP;rw [← HD1.out,← HD2.out,if_neg (show ¬ (s.f1 = 1 ∨ s.f1 = 2) by omega),if_neg (show ¬ s.f1 = 3 by omega),if_neg (show ¬ s.f1 = 4 by omega),if_pos (show s.f1 = 5 by omega),← HA1.out];simp [z0] <;> rfl,HB4.out⟩
        |true =>
          go_wp2
          go_ret
          exact ⟨by show Ending.returned (Value.bool _) = _;unfold formedP inP;rw [← HD1.out,← HD2.out,if_neg (show ¬ (s.f1 = 1 ∨ s.f1 = 2) by omega),if_neg (show ¬ s.f1 = 3 by omega),if_neg (show ¬ s.f1 = 4 by omega),if_pos (show s.f1 = 5 by omega),← HA1.out];simp [z0] <;> rfl,HB4.out⟩
        ·skip
         go_wp2
         go_ret
         exact ⟨by show Ending.returned (Value.bool _) = _;unfold formedP inP;rw [← HD1.out,← HD2.out,if_neg (show ¬ (s.f1 = 1 ∨ s.f1 = 2) by omega),if_neg (show ¬ s.f1 = 3 by omega),if_neg (show ¬ s.f1 = 4 by omega),if_pos (show s.f1 = 5 by omega)];simp [z0] <;> rfl,HB4.out⟩
       ·skip
        go_wp2
        go_ret
        exact ⟨by show Ending.returned (Value.bool _) = _;unfold formedP inP;rw [← HD1.out,← HD2.out,if_neg (show ¬ (s.f1 = 1 ∨ s.f1 = 2) by omega),if_neg (show ¬ s.f1 = 3 by omega),if_neg (show ¬ s.f1 = 4 by omega),if_neg (show ¬ s.f1 = 5 by omega)];simp,HB4.out⟩
end Go.Proofs.YtjjfpmapjjemcaaGreat.B
end
