import Derived.Maps.OwnOps
import Derived.Maps.RangeWalk
import Derived.WideKeyEntry
import Derived.OwnWalkIn
import Derived.TacticsInMore
import Derived.LoopNIn
import Derived.LoopIn
import Derived.RangeFuncNested
import Derived.RangeFuncBound
import Derived.RangeFuncCalls
import Derived.RangeFuncLeaves
import Derived.RangeFuncBox
import Derived.Shelf.Abstract
import Derived.Test.YtjjfpmapjjemcaaGreatQ7
set_option linter.unusedVariables false
set_option linter.unusedSimpArgs false
section
namespace Go.Proofs.YtjjfpmapjjemcaaGreat.B
open Go.RowKit Go.MapKept Go.ChangeMaps
open Go.Maps (Keyed)
open Go.WideElems (Fit rd rg pl rd_val rd_key rg_of rd_mk)
def anyR (_ : Value) : Option (DataW Unit × List MemPlace):=some (.lit (.bool true),[])
def MapIs (P : Program) (k : TypeId) {κ ν : Type} (ek : κ → Value) (ev : ν → Value) (w : World) (b n : Nat) (M : κ → Option ν) : Prop :=
 ∃ es clock,w.heap[b]? = some (.map es clock) ∧ Fit P k anyR es clock ∧ es.size ≤ n ∧ (∀ x ∈ es.toList,∃ c,x.key = ek c) ∧
  (∀ c y,M c = some y → ∃ x ∈ es.toList,x.key = ek c) ∧ ∀ c,∀ x ∈ es.toList,x.key = ek c → ∃ y,M c = some y ∧ x.val = ev y
section
variable {P : Program} {k : TypeId} {κ ν : Type} {ek : κ → Value} {ev : ν → Value} {w : World} {b n : Nat} {M : κ → Option ν}
theorem MapIs.made (w : World) (P : Program) (k : TypeId) (ek : κ → Value) (ev : ν → Value) : MapIs P k ek ev (w.alloc (.map #[] 0)) w.heap.size 0 (fun _ => none) :=
 ⟨#[],0,(MapKept.heap_alloc w _).1,⟨by simp,stamped_empty 0,by simp⟩,Nat.le_refl _,by simp,by simp,by simp⟩
theorem MapIs.lt (h : MapIs P k ek ev w b n M) : b < w.heap.size:=by
 obtain ⟨es,clock,hb,_⟩:=h
 exact (Array.getElem?_eq_some_iff.1 hb).1
theorem MapIs.keep {w' : World} (h : MapIs P k ek ev w b n M) (hb : w'.heap[b]? = w.heap[b]?) : MapIs P k ek ev w' b n M:=by
 obtain ⟨es,clock,h1,h2⟩:=h
 exact ⟨es,clock,hb.trans h1,h2⟩
theorem MapIs.alloc (h : MapIs P k ek ev w b n M) (o : Obj) : MapIs P k ek ev (w.alloc o) b n M:=by
 refine h.keep ?_
 have hlt:=h.lt
 exact (World.grownBy_alloc w o none).block b hlt (by simp)
theorem MapIs.below {w' : World} {base : Nat} (h : MapIs P k ek ev w b n M) (hd : Below base w w') (hb : b < base) : MapIs P k ek ev w' b n M:=by
 refine h.keep ?_
 exact hd.block b hb
theorem MapIs.mono (h : MapIs P k ek ev w b n M) {n' : Nat} (hn : n ≤ n') : MapIs P k ek ev w b n' M:=by
 obtain ⟨es,clock,h1,h2,h3,h4⟩:=h
 exact ⟨es,clock,h1,h2,Nat.le_trans h3 hn,h4⟩
theorem rg_fst {es : Array MapEntry} {clock : Nat} (F : Fit P k anyR es clock) {x : MapEntry} (hx : x ∈ es.toList) : keyOf P k x.key = some (rg P k anyR x).1:=by
 obtain ⟨y,hy⟩:=F.reads x hx
 rw [rg_of hy]
 exact rd_key hy
theorem MapIs.lookup {t e : TypeId} (h : MapIs P k ek ev w b n M) (ok : Bool) (K : Keyed P k) (ht : P.underlying t = some (.map k e)) {z : Value} (hz : (zeroValue e).run P w = .ok z w) {c : κ} {kl : Lit} (hkey : keyOf P k (ek c) = some kl) :
  (Instr.lookup t (.map (some b)) (ek c) ok).run P w = .ok (match M c with
  |some y => if ok then .tuple #[ev y,.bool true] else ev y
  |none => if ok then .tuple #[z,.bool false] else z) w:=by
 obtain ⟨es,clock,hb,F,_,_,h1,h2⟩:=h
 rcases Maps.fit_look ok K ht hz hb F hkey with ⟨hrun,hno,_⟩|⟨e0,y,hm,hk,hrun,_⟩
 ·cases hM : M c with
 |none => exact hrun
 |some y =>
   obtain ⟨x,hx,hxk⟩:=h1 c y hM
   exact absurd hxk (hno x hx)
 ·obtain ⟨y,hM,hv⟩:=h2 c e0 hm hk
  rw [hM,hrun,hv]
theorem MapIs.update {t e : TypeId} [DecidableEq κ] (h : MapIs P k ek ev w b n M) (K : Keyed P k) (ht : P.underlying t = some (.map k e)) (hn : n < maxLen) {c : κ} (y : ν) {kl : Lit} (hkey : keyOf P k (ek c) = some kl) (hinj : ∀ c',ek c' = ek c → c' = c) :
  ∃ w',(Instr.mapUpdate t (.map (some b)) (ek c) (ev y)).run P w = .ok () w' ∧ MapIs P k ek ev w' b (n + 1) (fun c' => if c' = c then some y else M c') ∧ w.grownBy w' (some b):=by
 obtain ⟨es,clock,hb,F,hs,hks,h1,h2⟩:=h
 obtain ⟨es',clock',hrun,F',hput,_,_,hwho⟩:=Maps.fit_store (R':=anyR) (val:=ev y) K ht hb F (Nat.lt_of_le_of_lt hs hn) (fun _ _ _ _ hz => hz) hkey rfl
 have hin : ∀ q,q ∈ putKey kl (DataW.lit (.bool true) : DataW Unit) ((es.toList.map (rg P k anyR)).foldr DataW.insert []) → ∃ x' ∈ es'.toList,rg P k anyR x' = q:=by
  intro q hq
  rw [← hput] at hq
  obtain ⟨x',hx',e1⟩:=List.mem_map.1 ((WideShapes.sorted_perm _).mem_iff.1 hq)
  exact ⟨x',hx',e1⟩
 have hnew : ∃ x' ∈ es'.toList,x'.key = ek c:=by
  obtain ⟨x',hx',e1⟩:=hin (kl,.lit (.bool true)) (mem_insert_iff.2 (Or.inl rfl))
  refine ⟨x',hx',K.inj (rg_fst F' hx') ?_⟩
  rw [e1]
  exact hkey
 have hold : ∀ x ∈ es.toList,x.key ≠ ek c → ∃ x' ∈ es'.toList,x'.key = x.key:=by
  intro x hx hne
  obtain ⟨x',hx',e1⟩:=hin (rg P k anyR x) (mem_insert_iff.2 (Or.inr (List.mem_filter.2 ⟨(WideShapes.sorted_perm _).mem_iff.2 (List.mem_map.2 ⟨x,hx,rfl⟩),(Maps.notKey_iff (K.key hkey)).2 (fun e2 => hne (K.inj (rg_fst F hx) (by rw [e2];exact hkey)))⟩)))
  refine ⟨x',hx',K.inj (rg_fst F' hx') ?_⟩
  rw [e1]
  exact rg_fst F hx
 refine ⟨_,hrun,⟨es',clock',heap_setBlock_same hb _,F',?_,?_,?_,?_⟩,⟨rfl,rfl,rfl,by simp [setBlock],fun i _ hi => heap_setBlock_other hb _ (fun e => hi (by rw [e]))⟩⟩
 ·have e1 : es'.size = ((es'.toList.map (rg P k anyR)).foldr DataW.insert []).length:=by rw [length_sorted];simp
  rw [e1,hput]
  unfold putKey
  rw [length_insert]
  have e2:=List.length_filter_le (notKey kl) ((es.toList.map (rg P k anyR)).foldr DataW.insert [])
  rw [length_sorted] at e2
  simp at e2
  omega
 ·intro x hx
  rcases hwho x hx with ⟨hx',_⟩|⟨hx',_⟩
  ·exact hks x hx'
  ·exact ⟨c,hx'⟩
 ·intro c' y' hM
  replace hM : (if c' = c then some y else M c') = some y':=hM
  by_cases hc : c' = c
  ·subst hc
   exact hnew
  ·rw [if_neg hc] at hM
   obtain ⟨x,hx,hxk⟩:=h1 c' y' hM
   obtain ⟨x',hx',e1⟩:=hold x hx (fun e2 => hc (hinj c' (hxk.symm.trans e2)))
   exact ⟨x',hx',e1.trans hxk⟩
 ·intro c' x hx hxk
  rcases hwho x hx with ⟨hx',hne⟩|⟨hk',hv⟩
  ·have hc : c' ≠ c:=fun e2 => hne (by rw [hxk,e2])
   show ∃ y_1,(if c' = c then some y else M c') = some y_1 ∧ x.val = ev y_1
   rw [if_neg hc]
   exact h2 c' x hx' hxk
  ·have hc : c' = c:=hinj c' (hxk.symm.trans hk')
   show ∃ y_1,(if c' = c then some y else M c') = some y_1 ∧ x.val = ev y_1
   rw [if_pos hc]
   exact ⟨y,rfl,hv⟩
end
theorem wpList_lookup_map {P : Program} (w : World) {ops : Array Oper} {rest : List Oper} {o : Oper} {a : Act} {Q : Exit → Act → World → Prop}
  (hg : o.guard = none) (m x : Operand) (t : TypeId) (ok : Bool) (hop : o.op = Op.lookup t m x ok)
  (k e : TypeId) (K : Keyed P k) (ht : P.underlying t = some (.map k e)) (z : Value) (hz : (zeroValue e).run P w = .ok z w) {κ ν : Type} (ek : κ → Value) (ev : ν → Value) (b n : Nat) (M : κ → Option ν)
  (hm : a.eval m = .map (some b)) (h : MapIs P k ek ev w b n M) (c : κ) (kl : Lit) (hx : a.eval x = ek c) (hkey : keyOf P k (ek c) = some kl)
  (v : Value) (hv : (match M c with
  |some y => if ok then .tuple #[ev y,.bool true] else ev y
  |none => if ok then .tuple #[z,.bool false] else z) = v)
  (hK : wpList P ops Q rest (a.put o.dst v) w) :
  wpList P ops Q (o :: rest) a w:=by
 refine wpList_plain hg fun K' hK' => ?_
 have hrun:=h.lookup ok K ht hz hkey
 rw [hv] at hrun
 unfold Oper.wp
 simp [execOp,hop,hm,hx,hrun,Result.andThen]
 exact hK' _ _ hK
theorem wpListIn_lookup_map {F : Fence} {N : Nat} {P : Program} (w : World) {ops : Array Oper} {rest : List Oper} {o : Oper} {a : Act} {Q : Exit → Act → World → Prop}
  (hg : o.guard = none) (m x : Operand) (t : TypeId) (ok : Bool) (hop : o.op = Op.lookup t m x ok)
  (k e : TypeId) (K : Keyed P k) (ht : P.underlying t = some (.map k e)) (z : Value) (hz : (zeroValue e).run P w = .ok z w) {κ ν : Type} (ek : κ → Value) (ev : ν → Value) (b n : Nat) (M : κ → Option ν)
  (hm : a.eval m = .map (some b)) (h : MapIs P k ek ev w b n M) (c : κ) (kl : Lit) (hx : a.eval x = ek c) (hkey : keyOf P k (ek c) = some kl)
  (v : Value) (hv : (match M c with
  |some y => if ok then .tuple #[ev y,.bool true] else ev y
  |none => if ok then .tuple #[z,.bool false] else z) = v)
  (hK : wpListIn F N P ops Q rest (a.put o.dst v) w) :
  wpListIn F N P ops Q (o :: rest) a w:=by
 refine wpListIn_plain hg fun K' hK' => ?_
 have hrun:=h.lookup ok K ht hz hkey
 rw [hv] at hrun
 unfold Oper.wpIn
 refine ⟨?_,?_⟩
 ·simp [Oper.about,hop]
 ·rw [Oper.semAt_plain F _ _ (by rw [hop];intro c hc';cases hc')]
  simp [execOp,hop,hm,hx,hrun,Result.andThen]
  exact hK' _ _ hK
theorem wpListIn_update_map {F : Fence} {N : Nat} {P : Program} (w : World) {ops : Array Oper} {rest : List Oper} {o : Oper} {a : Act} {Q : Exit → Act → World → Prop}
  (hg : o.guard = none) (m x v : Operand) (t : TypeId) (hop : o.op = Op.mapUpdate t m x v)
  (k e : TypeId) (K : Keyed P k) (ht : P.underlying t = some (.map k e)) {κ ν : Type} [DecidableEq κ] (ek : κ → Value) (ev : ν → Value) (b n : Nat) (M : κ → Option ν)
  (hm : a.eval m = .map (some b)) (h : MapIs P k ek ev w b n M) (hn : n < maxLen) (c : κ) (y : ν) (kl : Lit) (hx : a.eval x = ek c) (hv : a.eval v = ev y) (hkey : keyOf P k (ek c) = some kl) (hinj : ∀ c',ek c' = ek c → c' = c)
  (hK : ∀ w',MapIs P k ek ev w' b (n + 1) (fun c' => if c' = c then some y else M c') → w.grownBy w' (some b) → wpListIn F N P ops Q rest (a.put o.dst undef) w') :
  wpListIn F N P ops Q (o :: rest) a w:=by
 refine wpListIn_plain hg fun K' hK' => ?_
 obtain ⟨w',hrun,r1,r2⟩:=h.update K ht hn y hkey hinj
 unfold Oper.wpIn
 refine ⟨?_,?_⟩
 ·simp [Oper.about,hop]
 ·rw [Oper.semAt_plain F _ _ (by rw [hop];intro c hc';cases hc')]
  simp [execOp,hop,hm,hx,hv,hrun,Result.andThen]
  exact hK' _ _ (hK w' r1 r2)
section
variable {P : Program} {k : TypeId} {κ ν : Type} {ek : κ → Value} {ev : ν → Value} {w : World} {b n : Nat} {M : κ → Option ν}
def Walks (P : Program) (k : TypeId) {κ ν : Type} (ek : κ → Value) (ev : ν → Value) (w : World) (b r n : Nat) (M : κ → Option ν) (Done : κ → ν → Prop) (cnt : Nat) : Prop :=
 ∃ es clock since seen c0,w.heap[b]? = some (.map es clock) ∧ Fit P k anyR es clock ∧ (∀ x ∈ es.toList,∃ c y,x.key = ek c ∧ x.val = ev y ∧ M c = some y) ∧
  w.heap[r]? = some (.mapIter (some b) since seen c0) ∧ (∀ x ∈ es.toList,x.born < since) ∧ (leftOf es seen).size = cnt ∧ since ≤ c0 ∧ since ≤ clock ∧
  (∀ c y,M c = some y → Done c y ∨ ∃ x ∈ es.toList,x.key = ek c ∧ seen.contains x.born = false) ∧ MapIs P k ek ev w b n M
theorem Walks.kept {w' : World} {row : Option Nat} {r cnt : Nat} {Done : κ → ν → Prop} (h : Walks P k ek ev w b r n M Done cnt) (hg : w.grownBy w' row) (hb' : some b ≠ row) (hr' : some r ≠ row) : Walks P k ek ev w' b r n M Done cnt:=by
 obtain ⟨es,clock,since,seen,c0,hb,F,hks,hr,hold,hc,hsc,hsk,hl,hM⟩:=h
 have h1:=(Array.getElem?_eq_some_iff.1 hb).1
 have h2:=(Array.getElem?_eq_some_iff.1 hr).1
 exact ⟨es,clock,since,seen,c0,(hg.block b h1 hb').trans hb,F,hks,(hg.block r h2 hr').trans hr,hold,hc,hsc,hsk,hl,hM.keep (hg.block b h1 hb')⟩
end
end Go.Proofs.YtjjfpmapjjemcaaGreat.B
end

section
namespace Go.Proofs.YtjjfpmapjjemcaaGreat.B
open Go.RowKit Go.Proofs.YtjjfpmapjjemcaaGreatW.PrintWords Go.Proofs.YtjjfpmapjjemcaaGreatW.PrintLast Go.Proofs.YtjjfpmapjjemcaaGreatW.PrintMore
attribute [local go_sem] max2_int min2_int max_two min_two max_three min_three max_four min_four
def pit_mille.f (a0_0 : Int) (a0_1 : Int) : Option (Bool):=if 0 ≤ a0_0 then (if a0_0 ≤ a0_1 then (some (decide (a0_1 ≤ 1000))) else (some false)) else (some false)
set_option maxHeartbeats 8000000 in
set_option maxRecDepth 100000 in
theorem pit_mille.calls (a0_0 : Int) (a0_1 : Int) (r : Bool) (w : World) (h : pit_mille.f a0_0 a0_1 = some r) :
  Calls Tryz.prog 153 #[.agg #[ii a0_0,ii a0_1]] w fun e w' => e = .returned (.bool r) ∧ Below w.heap.size w w':=by
 have hu66:=Tryz.underlying66
 have HB:=am (Below.refl w.heap.size w)
 have H : (if 0 ≤ a0_0 then (if a0_0 ≤ a0_1 then (some (decide (a0_1 ≤ 1000))) else (some false)) else (some false)) = some r:=h
 clear h
 by_cases c2 : 0 ≤ a0_0
 ·rw [if_pos c2] at H
  have c2b0 : decide (0 ≤ a0_0) = true:=decide_eq_true c2
  clear c2
  by_cases c3 : a0_0 ≤ a0_1
  ·rw [if_pos c3] at H
   have c3b0 : decide (a0_0 ≤ a0_1) = true:=decide_eq_true c3
   clear c3
   obtain rfl:=Option.some.inj H
   go_enter Tryz.func153,Tryz.ntmps153
   go_wp2_with (first|(refine bE 1 #[ii a0_0,ii a0_1] 66 ?_;intro gb101 hg w4 hbox hb;have BK101:=am (hbox);have GW101:=am (lg hg (below_size (v0 HB.out)) : w.heap.size ≤ gb101);have GE101:=GW101;replace HB:=am (below_step (v0 HB.out) hb);clear hb hbox hg;have hcz5_0:=bd BK101.out 0;have hcz5_1:=bd BK101.out 1;have hfz5_0:=blk_frozen BK101.out 0;have hfz5_1:=blk_frozen BK101.out 1))
   go_ret
   exact ⟨vf,v1 HB.out GE101.out⟩
  ·rw [if_neg c3] at H
   have c3b0 : decide (a0_0 ≤ a0_1) = false:=decide_eq_false c3
   clear c3
   obtain rfl:=Option.some.inj H
   go_enter Tryz.func153,Tryz.ntmps153
   go_wp2_with (first|(refine bE 1 #[ii a0_0,ii a0_1] 66 ?_;intro gb101 hg w6 hbox hb;have BK101:=am (hbox);have GW101:=am (lg hg (below_size (v0 HB.out)) : w.heap.size ≤ gb101);have GE101:=GW101;replace HB:=am (below_step (v0 HB.out) hb);clear hb hbox hg;have hcz7_0:=bd BK101.out 0;have hcz7_1:=bd BK101.out 1;have hfz7_0:=blk_frozen BK101.out 0;have hfz7_1:=blk_frozen BK101.out 1))
   go_ret
   exact ⟨vf,v1 HB.out GE101.out⟩
 ·rw [if_neg c2] at H
  have c2b0 : decide (0 ≤ a0_0) = false:=decide_eq_false c2
  clear c2
  obtain rfl:=Option.some.inj H
  go_enter Tryz.func153,Tryz.ntmps153
  go_wp2_with (first|(refine bE 1 #[ii a0_0,ii a0_1] 66 ?_;intro gb101 hg w8 hbox hb;have BK101:=am (hbox);have GW101:=am (lg hg (below_size (v0 HB.out)) : w.heap.size ≤ gb101);have GE101:=GW101;replace HB:=am (below_step (v0 HB.out) hb);clear hb hbox hg;have hcz9_0:=bd BK101.out 0;have hcz9_1:=bd BK101.out 1;have hfz9_0:=blk_frozen BK101.out 0;have hfz9_1:=blk_frozen BK101.out 1))
  go_ret
  exact ⟨vf,v1 HB.out GE101.out⟩
end Go.Proofs.YtjjfpmapjjemcaaGreat.B
end
