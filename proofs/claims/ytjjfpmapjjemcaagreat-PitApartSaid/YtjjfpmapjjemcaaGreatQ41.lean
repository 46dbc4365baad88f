import Derived.Test.YtjjfpmapjjemcaaGreatQ30
import Derived.Test.YtjjfpmapjjemcaaGreatQ35
import Derived.Test.YtjjfpmapjjemcaaGreatQ7
set_option linter.unusedVariables false
set_option linter.unusedSimpArgs false
section
namespace Go.Proofs.YtjjfpmapjjemcaaGreat.B
open Go.RowKit Go.Proofs.YtjjfpmapjjemcaaGreatW.PrintWords Go.Proofs.YtjjfpmapjjemcaaGreatW.PrintLast Go.Proofs.YtjjfpmapjjemcaaGreatW.PrintMore
attribute [local go_sem] max2_int min2_int max_two min_two max_three min_three max_four min_four
section
theorem wpListIn_append_at {F : Fence} {n : Nat} {P : Program} (w : World) {ops : Array Oper} {rest : List Oper} {o : Oper} {a : Act} {Q : Exit → Act → World → Prop}
  (hg : o.guard = none) (s x : Operand) (t : TypeId) (hop : o.op = Op.call { callee:=Callee.builtin Builtin.append,args:=#[s,x],argTypes:=#[t,t] })
  (base : Nat) (e : TypeId) (i : TypeInfo) (z : Value) (size bytes : Nat) (h1 : P.underlying t = some (.slice e)) (h2 : P.info? e = some i) (h3 : i.zero = some z) (h4 : i.size = size) (h5 : i.bytes = bytes) (h6 : z.cells.size = size) (h7 : 0 < size)
  (v : Value) (k : Nat) (xs : List Value) (hs : a.eval s = v) (hown : w.ownsRow base e size v k xs) (ad : Addr) (m c : Nat) (news : List Value) (hx : a.eval x = .slice (some ad) m c) (hn : news.length = m * size)
  (hc : ∀ j u,news[j]? = some u → w.cell? (ad.add j) = some u) (h1c : ∀ u ∈ news,u.oneCell' = true) (b1 : k + m ≤ maxLen) (b2 : (k + m) * bytes ≤ 140737488355328) (b3 : base ≤ w.heap.size)
  (hK : ∀ v' w',w'.ownsRow base e size v' (k + m) (xs ++ news) → w.grownBy w' v.ownBlock → (v'.ownBlock = v.ownBlock ∨ v'.ownBlock = some w.heap.size) → wpListIn F n P ops Q rest (a.put o.dst v') w') :
  wpListIn F n P ops Q (o :: rest) a w:=by
 refine wpListIn_plain hg fun K hK' => ?_
 obtain ⟨v',w',hrun,r1,r2,_,r3⟩:=run_append_own_at (P:=P) w base t o.type e i z size bytes h1 h2 h3 h4 h5 h6 h7 v k xs hown ad m c news hn hc h1c b1 b2 b3
 unfold Oper.wpIn
 refine ⟨?_,?_⟩
 ·simp [Oper.about,hop,resolve,Target.leads,Sem.run_pure]
 ·rw [Oper.semAt_plain F _ _ (by rw [hop];intro c hc';cases hc')]
  simp [execOp,hop,resolve,invoke,builtin,hs,hx,hrun,Result.andThen]
  exact hK' _ _ (hK v' w' r1 r2 r3)
theorem info43_ : (Tryz.prog.info? 43).map (fun i => (i.zero,i.size,i.bytes)) = some (some (.agg #[(ii 0),(ii 0)]),2,16):=by kernel_rfl
def rat43 (p : S43) (c : List Value) : Prop:=c = [ii p.f0,ii p.f1]
theorem R_of_rat {W : World} {base : Nat} {v : Value} {xs : List S43} (h : OwnRow rat43 43 2 W base v xs) : Kd.R k43 43 W base (fun _ => True) v xs :=
 ⟨fun _ _ => trivial,h.imp_ (fun p c (hc : rat43 p c) => by cases hc;exact k43_mkM _ _ _ p)⟩
def ofL (pour : Int) (l : List S89) : List S43:=(l.filter fun x => decide (x.f0 = pour)).map (·.f1)
theorem ofL_yes {pour : Int} {pre : List S89} {x : S89} (h : x.f0 = pour) : ofL pour (pre ++ [x]) = ofL pour pre ++ [x.f1]:=by unfold ofL;simp [h]
theorem ofL_no {pour : Int} {pre : List S89} {x : S89} (h : x.f0 ≠ pour) : ofL pour (pre ++ [x]) = ofL pour pre:=by unfold ofL;simp [h]
theorem ofL_len (pour : Int) (l : List S89) : (ofL pour l).length ≤ l.length:=by unfold ofL;rw [List.length_map];exact List.length_filter_le _ _
def OfSt (w0 : World) (D : Nat) (rec : Loop) (pour : Int) (pre : List S89) (W : World) : Prop :=
 ∃ v,W.heap[w0.heap.size + 1]? = some (.cells #[v] 208 (0,0)) ∧ OwnRow rat43 43 2 W w0.heap.size v (ofL pour pre) ∧ W.heap[w0.heap.size]? = some (.cells #[ii pour] 3 (0,0)) ∧ W.heap[D + 1]? = some (.loop rec) ∧ W.heap[D]? = some (.deferred (some [])) ∧ Below w0.heap.size w0 W
def OfPost (W : World) (xs : List S43) (e : Ending) (W' : World) : Prop :=
 Below W.heap.size W W' ∧ ∃ A c,e = .returned (.slice A xs.length c) ∧ xs.length ≤ c ∧ Kd.C k43 W' A xs.length xs
theorem rat_nil (W : World) (base : Nat) : OwnRow rat43 43 2 W base (.slice none 0 0) []:=(Kd.R_nil k43 43 W base (fun _ => True)).2.imp_ (fun p c hc => by obtain rfl:=k43_openM hc;rfl)
theorem rat_move {w w' : World} {base : Nat} {v : Value} {xs : List S43} (h : OwnRow rat43 43 2 w base v xs) (hm : ∀ k,v.ownBlock = some k → w'.heap[k]? = w.heap[k]?) : OwnRow rat43 43 2 w' base v xs:=by
 obtain ⟨inner,h2,h3⟩:=h
 exact ⟨inner,own_move h2 hm,h3⟩
theorem rat_typed {w : World} {base : Nat} {v : Value} {xs : List S43} (h : OwnRow rat43 43 2 w base v xs) {k : Nat} (hk : v.ownBlock = some k) : ∃ cells,w.heap[k]? = some (.cells cells 43 (0,0)):=by
 obtain ⟨inner,h2,h3⟩:=h
 exact own_typed h2 k hk
attribute [local go_sem] Oper.semAt_some
set_option maxRecDepth 100000 in
set_option maxHeartbeats 4000000 in
theorem of_in (n : Nat) (hn : 3 ≤ n) (W : World) (A : Option Addr) (c : Nat) (l : List S212) (pour : Int) (hC : Kd.C k212 W A l.length l) (hc : l.length ≤ c) (hlen : (partsP l).length ≤ 10000000) :
  CallsIn Fence.wide n Tryz.prog 115 #[.slice A l.length c,ii pour] W fun e W' => OfPost W (ofL pour (partsP l)) e W':=by
 have hu43:=Tryz.underlying43
 have hu89:=Tryz.underlying89
 have h1 : 1 ≤ n:=by omega
 refine callsIn_of_wpAt_marks Tryz.func115 rfl trivial ?_ rfl
 simp only [Tryz.ntmps115,List.size_toArray,List.length_cons,List.length_nil,Nat.reduceAdd,Nat.reduceSub,Array.replicate_succ,Array.replicate_zero,List.push_toArray,List.append_toArray,List.nil_append,List.cons_append]
 refine wpAt_seqL ?_
 gi_wp2
 refine wpAt_seqL ?_
 gi_wp2
 refine wpAt_seqR (wpAt_seqL ?_)
 gi_wp2_with fail
 refine ⟨trivial,(callsIn_wide.2 (parts_calls A c l.length _)).mono ?_⟩
 rintro e w' ⟨rfl,rfl⟩
 gi_wp2
 refine wpAt_block ?_
 have HBp:=am (blk_alloc (blk_alloc (blk_new W (.cells #[ii pour] 3)) (.cells #[.slice none 0 0] 208)) (.cells #[.slice A l.length c] 131))
 have HBt:=am (blk_alloc (blk_new' (W.alloc (.cells #[ii pour] 3)) (.cells #[.slice none 0 0] 208) (W.heap.size + 1) (by simp)) (.cells #[.slice A l.length c] 131))
 have HBl:=am (blk_new' ((W.alloc (.cells #[ii pour] 3)).alloc (.cells #[.slice none 0 0] 208)) (.cells #[.slice A l.length c] 131) (W.heap.size + 1 + 1) (by simp))
 have HB3:=am (below_alloc (below_alloc (below_alloc (Below.refl W.heap.size W) (.cells #[ii pour] 3)) (.cells #[.slice none 0 0] 208)) (.cells #[.slice A l.length c] 131))
 have HSZ:=am (show (((W.alloc (.cells #[ii pour] 3)).alloc (.cells #[.slice none 0 0] 208)).alloc (.cells #[.slice A l.length c] 131)).heap.size = W.heap.size + 3 by simp)
 generalize ((W.alloc (.cells #[ii pour] 3)).alloc (.cells #[.slice none 0 0] 208)).alloc (.cells #[.slice A l.length c] 131) = W3 at HBp HBt HBl HB3 HSZ ⊢
 have HC:=am hC
 have HLN:=am hlen
 clear hC hlen
 refine wpAt_range rfl h1 (gf:=213) (lb:=#[.pointer (some ⟨W.heap.size + 1 + 1,0,none⟩)]) rfl trivial (enters_of Tryz.func213 kr rfl) ?_
 intro rec hrec
 refine (parts1_in (n - 1) (by omega) (W3.heap.size + 1) A c l (W.heap.size + 1 + 1) (OfSt W W3.heap.size rec pour) (fun _ _ => False) (fun e W' h => h.elim) W HC.out (fun pre W' h => by obtain ⟨_,_,_,_,_,_,h⟩:=h;exact h) ?hM ?hY _ ?hS ?hB).mono ?fin
 case hM =>
  rintro pre W1 W2 ⟨v,b1,b2,b3,b4,b5,b6⟩ hb
  refine ⟨v,blk_below b1 hb,rat_move b2 (fun k hk => ?_),blk_below b3 hb,blk_below b4 hb,blk_below b5 hb,below_then b6 (below_size b6) hb⟩
  obtain ⟨cells,hcl⟩:=rat_typed b2 hk
  exact hb.block k (blk_lt hcl)
 case hS => exact ⟨_,blk_alloc (blk_alloc HBt.out _) _,rat_nil _ _,blk_alloc (blk_alloc HBp.out _) _,blk_new' (W3.alloc (.deferred (some []))) _ (W3.heap.size + 1) (by simp),blk_alloc (blk_new W3 _) _,below_alloc (below_alloc HB3.out _) _⟩
 case hB => exact blk_alloc (blk_alloc HBl.out _) _
 case hY =>
  subst hrec
  rintro pre x suf Wy hsp ⟨v,b1,b2,b3,b4,b5,b6⟩
  have hpl : (ofL pour pre).length < 10000000:=by
   have h1:=HLN.out
   rw [hsp,List.length_append,List.length_cons] at h1
   have h2:=ofL_len pour pre
   omega
  refine ⟨_,_,_,_,run_yield b4 rfl,roundInP_of_wpIn trivial Tryz.func115 ?_⟩
  dsimp only
  gi_wp2
  refine ⟨_,run_beginRound (blk_alloc b4 _) rfl,?_⟩
  have hsz:=HSZ.out
  have hl4:=blk_lt b4
  have hlo : ∀ b,v.ownBlock = some b → b ≠ W3.heap.size + 1 ∧ b ≠ W3.heap.size ∧ b ≠ W.heap.size + 1 ∧ b ≠ W.heap.size:=fun b hb => by
   obtain ⟨cells,hcl⟩:=rat_typed b2 hb
   refine ⟨fun e_ => ?_,fun e_ => ?_,fun e_ => ?_,fun e_ => ?_⟩
   ·rw [e_,b4] at hcl;cases hcl
   ·rw [e_,b5] at hcl;cases hcl
   ·rw [e_,b1] at hcl;cases hcl
   ·rw [e_,b3] at hcl;cases hcl
  have q0 : ∀ ob b,b ≠ W3.heap.size + 1 → b < Wy.heap.size → ((Wy.alloc (.cells #[ii x.f0,ii x.f1.f0,ii x.f1.f1] 89)).putObj (W3.heap.size + 1) ob).heap[b]? = Wy.heap[b]?:=fun ob b h hlt => (World.putObj_heap_other h).trans (Below.heap_alloc Wy _ b hlt)
  have q1 : ∀ ob,((Wy.alloc (.cells #[ii x.f0,ii x.f1.f0,ii x.f1.f1] 89)).putObj (W3.heap.size + 1) ob).heap[Wy.heap.size]? = some (.cells #[ii x.f0,ii x.f1.f0,ii x.f1.f1] 89 (0,0)):=fun ob => (World.putObj_heap_other (by omega)).trans (blk_new Wy _)
  have q2 : ∀ ob,((Wy.alloc (.cells #[ii x.f0,ii x.f1.f0,ii x.f1.f1] 89)).putObj (W3.heap.size + 1) ob).heap[W3.heap.size + 1]? = some ob:=fun ob => World.putObj_heap_same (by simp;omega)
  have q4 : ∀ ob,Below W.heap.size Wy ((Wy.alloc (.cells #[ii x.f0,ii x.f1.f0,ii x.f1.f1] 89)).putObj (W3.heap.size + 1) ob):=fun ob => ((Below.refl _ Wy).alloc b6.size _).grown (grownBy_putObj' _ _ _) (by have:=b6.size;simp;omega) (fun k e_ => by cases e_;omega)
  generalize hWb : (Wy.alloc (.cells #[ii x.f0,ii x.f1.f0,ii x.f1.f1] 89)).putObj (W3.heap.size + 1) _ = Wb
  have r0 : ∀ b,b ≠ W3.heap.size + 1 → b < Wy.heap.size → Wb.heap[b]? = Wy.heap[b]?:=by rw [← hWb];exact q0 _
  have r1 : Wb.heap[Wy.heap.size]? = some (.cells #[ii x.f0,ii x.f1.f0,ii x.f1.f1] 89 (0,0)):=by rw [← hWb];exact q1 _
  have r4 : Below W.heap.size Wy Wb:=by rw [← hWb];exact q4 _
  have r2:=hWb ▸ q2 (.loop _)
  have t1 : Wb.heap[W.heap.size + 1]? = some (.cells #[v] 208 (0,0)):=(r0 _ (by omega) (blk_lt b1)).trans b1
  have t2 : OwnRow rat43 43 2 Wb W.heap.size v (ofL pour pre):=rat_move b2 (fun k hk => by
   obtain ⟨cells,hcl⟩:=rat_typed b2 hk
   exact r0 k (hlo k hk).1 (blk_lt hcl))
  have t3 : Wb.heap[W.heap.size]? = some (.cells #[ii pour] 3 (0,0)):=(r0 _ (by omega) (blk_lt b3)).trans b3
  have t5 : Wb.heap[W3.heap.size]? = some (.deferred (some [])):=(r0 _ (by omega) (blk_lt b5)).trans b5
  have t6 : Below W.heap.size W Wb:=b6.trans r4
  clear q0 q1 q2 q4 hWb r0 r4 b1 b2 b3 b4 b5 b6
  have u0:=bd t3 0
  have u1:=bd r1 0
  have HLO:=am hlo
  have T1:=am t1
  have T2:=am t2
  have T3:=am t3
  have T5:=am t5
  have T6:=am t6
  have R1:=am r1
  have R2:=am r2
  have HSP:=am hsp
  have HPL:=am hpl
  have HSZ':=am hsz
  clear hlo t1 t2 t3 t5 t6 r1 r2 hsp hpl hsz hl4
  by_cases hxp : x.f0 = pour
  ·have HXP:=am hxp
   have hq : (x.f0 == pour) = true:=by simp [hxp]
   clear hxp
   have u2:=bd R1.out 1
   have u3:=bd R1.out 2
   have u4 : Wb.cell? ⟨W.heap.size + 1,0,none⟩ = some v:=(blk_cell T1.out 0).trans rfl
   obtain ⟨i0,hi,hz0,hz1,hz2⟩:=info_parts info43_
   obtain ⟨inner,t2,hre⟩:=T2.out
   have HRE:=am hre
   have HIN:=am t2
   have HI:=am (And.intro hi (And.intro hz0 (And.intro hz1 hz2)))
   clear hre t2 hi hz0 hz1 hz2
   gi_wp2_with (gi_at_builtin;refine wpListIn_append_at _ rfl _ _ 208 rfl W.heap.size 43 i0 (.agg #[(ii 0),(ii 0)]) 2 16 Tryz.underlying208 HI.out.1 HI.out.2.1 HI.out.2.2.1 HI.out.2.2.2 rfl (by decide) _ _ _ rfl (HIN.out.alloc _) ⟨Wb.heap.size,0,none⟩ 1 1 [ii x.f1.f0,ii x.f1.f1] rfl rfl ?hc ?h1c ?b1 ?b2 ?b3 ?_;(case hc => exact (World.news_of_block (cs:=#[ii x.f1.f0,ii x.f1.f1]) (t:=43) (fr:=(0,0)) (heap_alloc_new Wb _)));(case h1c => simp [Value.oneCell']);(case b1 => have:=HPL.out;simp only [maxLen];omega);(case b2 => have:=HPL.out;omega);(case b3 => have:=T6.out.size;simp;omega);intro v' w1 hown hg hat;obtain ⟨g',cap',rfl⟩:=ownsRow_succ hown;have hk1:=(hg.block (W.heap.size + 1) (by have:=blk_lt T1.out;simp;omega) (fun e_ => (HLO.out _ e_.symm).2.2.1 rfl)).trans (blk_alloc T1.out _);have x0 : w1.cell? ⟨W.heap.size + 1,0,none⟩ = some v:=(blk_cell hk1 0).trans rfl;have x1:=blk_frozen hk1 0;have HK1:=am hk1;have HOW:=am hown;have HGR:=am hg;have HAT:=am hat;clear hk1 hown hg hat)
   have hsz3:=HSZ'.out
   have hTl:=blk_lt R2.out
   have hTD:=blk_lt T5.out
   have hTP:=blk_lt T3.out
   have wl : w1.heap[W3.heap.size + 1]? = _:=(HGR.out.block (W3.heap.size + 1) (by simp;omega) (fun e_ => (HLO.out _ e_.symm).1 rfl)).trans (blk_alloc R2.out _)
   have wD : w1.heap[W3.heap.size]? = some (.deferred (some [])):=(HGR.out.block W3.heap.size (by simp;omega) (fun e_ => (HLO.out _ e_.symm).2.1 rfl)).trans (blk_alloc T5.out _)
   have wP : w1.heap[W.heap.size]? = some (.cells #[ii pour] 3 (0,0)):=(HGR.out.block W.heap.size (by simp;omega) (fun e_ => (HLO.out _ e_.symm).2.2.2 rfl)).trans (blk_alloc T3.out _)
   have zl : (w1.setCell ⟨W.heap.size + 1,0,none⟩ (.slice (some ⟨g',0,none⟩) ((ofL pour pre).length + 1) cap')).heap[W3.heap.size + 1]? = _:=(Below.heap_setCell w1 ⟨W.heap.size + 1,0,none⟩ (.slice (some ⟨g',0,none⟩) ((ofL pour pre).length + 1) cap') (W3.heap.size + 1) (by show W3.heap.size + 1 ≠ W.heap.size + 1;omega)).trans wl
   have gne : g' ≠ W.heap.size + 1:=fun e_ => by
    obtain ⟨cells,hcl⟩:=own_typed HOW.out g' rfl
    rw [e_,HK1.out] at hcl
    cases hcl
   have gnl : g' ≠ W3.heap.size + 1:=fun e_ => by
    obtain ⟨cells,hcl⟩:=own_typed HOW.out g' rfl
    rw [e_,wl] at hcl
    cases hcl
   refine ⟨_,_,run_endRound none zl,rfl,.slice (some ⟨g',0,none⟩) ((ofL pour pre).length + 1) cap',?_,?_,?_,?_,?_,?_⟩
   ·exact (World.putObj_heap_other (by omega)).trans (blk_put HK1.out 0 _ rfl)
   ·rw [ofL_yes HXP.out]
    refine ⟨_,own_move (w:=w1) (by rw [show (ofL pour pre ++ [x.f1]).length = (ofL pour pre).length + 1 by simp];exact HOW.out) ?_,Reps.snoc HRE.out rfl rfl⟩
    intro k hk
    obtain rfl : g' = k:=by simpa [Value.ownBlock] using hk
    exact (World.putObj_heap_other gnl).trans (Below.heap_setCell _ _ _ _ gne)
   ·exact (World.putObj_heap_other (by omega)).trans ((Below.heap_setCell _ _ _ _ (by show W.heap.size ≠ W.heap.size + 1;omega)).trans wP)
   ·exact World.putObj_heap_same (blk_lt zl)
   ·exact (World.putObj_heap_other (by omega)).trans ((Below.heap_setCell _ _ _ _ (by show W3.heap.size ≠ W.heap.size + 1;omega)).trans wD)
   ·have e1 : Below W.heap.size W (Wb.alloc (.cells #[ii x.f1.f0,ii x.f1.f1] 43)):=T6.out.alloc T6.out.size _
    have e2:=e1.grown HGR.out (by have:=T6.out.size;simp;omega) (fun k hk => own_base HIN.out k hk)
    exact ((e2.setCell (p:=⟨W.heap.size + 1,0,none⟩) (by show W.heap.size ≤ W.heap.size + 1;omega) _).grown (grownBy_putObj' _ _ _) (by have:=e2.size;simp;omega) (fun k e_ => by cases e_;omega))
  ·have HXP:=am hxp
   have hq : (x.f0 == pour) = false:=by simpa using hxp
   clear hxp
   gi_wp2
   have hsz3:=HSZ'.out
   have hTP:=blk_lt T3.out
   refine ⟨_,_,run_endRound none R2.out,rfl,v,?_,?_,?_,?_,?_,?_⟩
   ·exact (World.putObj_heap_other (by omega)).trans T1.out
   ·rw [ofL_no HXP.out]
    exact rat_move T2.out (fun k hk => World.putObj_heap_other (HLO.out k hk).1)
   ·exact (World.putObj_heap_other (by omega)).trans T3.out
   ·exact World.putObj_heap_same (blk_lt R2.out)
   ·exact (World.putObj_heap_other (by omega)).trans T5.out
   ·exact T6.out.grown (grownBy_putObj' _ _ _) T6.out.size (fun k e_ => by cases e_;omega)
 case fin =>
  subst hrec
  rintro e W4 (⟨⟨v0,rfl⟩,v,b1,b2,b3,b4,b5,b6⟩|h)
  ·refine ⟨_,_,run_endLoop b4 (by intro h_;cases h_),?_⟩
   have hsz3:=HSZ.out
   have c0 : ∀ ob,Below W.heap.size W (W4.putObj (W3.heap.size + 1) ob):=fun ob => b6.grown (grownBy_putObj' _ _ _) b6.size (fun k e_ => by cases e_;omega)
   have c1 : ∀ ob,(W4.putObj (W3.heap.size + 1) ob).heap[W.heap.size + 1]? = some (.cells #[v] 208 (0,0)):=fun ob => (World.putObj_heap_other (by omega)).trans b1
   have c2 : ∀ ob,OwnRow rat43 43 2 (W4.putObj (W3.heap.size + 1) ob) W.heap.size v (ofL pour (partsP l)):=fun ob => rat_move b2 (fun k hk => World.putObj_heap_other (fun e_ => by
    obtain ⟨cells,hcl⟩:=rat_typed b2 hk
    rw [e_,b4] at hcl
    cases hcl))
   have c5 : ∀ ob,(W4.putObj (W3.heap.size + 1) ob).heap[W3.heap.size]? = some (.deferred (some [])):=fun ob => (World.putObj_heap_other (by omega)).trans b5
   dsimp only
   generalize hW6 : W4.putObj (W3.heap.size + 1) _ = W6
   have C0:=am (hW6 ▸ c0 _)
   have C1:=am (hW6 ▸ c1 _)
   have C2:=am (hW6 ▸ c2 _)
   have C5:=am (hW6 ▸ c5 _)
   clear c0 c1 c2 c5 b1 b2 b3 b4 b5 b6 hW6 hsz3
   have g0 : W6.cell? ⟨W.heap.size + 1,0,none⟩ = some v:=(blk_cell C1.out 0).trans rfl
   refine wpIn_wide.2 ?_
   go_wp2
   refine ⟨by simp,.inl ⟨_,_,rfl,run_takeDeferred C5.out,?_⟩⟩
   have hR:=R_of_rat (rat_move (w':=W6.putObj W3.heap.size (.deferred none)) C2.out (fun k hk => World.putObj_heap_other (fun e_ => by
    obtain ⟨cells,hcl⟩:=rat_typed C2.out hk
    rw [e_,C5.out] at hcl
    cases hcl)))
   obtain ⟨Av,cv,rfl⟩:=Kd.R_slice hR
   refine ⟨_,results_tmp rfl _ _ _,?_,Av,cv,rfl,(Kd.R_reads' hR).2.1,(Kd.R_reads' hR).2.2⟩
   exact C0.out.grown (grownBy_putObj' _ _ _) C0.out.size (fun k e_ => by cases e_;have:=HSZ.out;omega)
  ·exact h.elim
theorem of_calls (W : World) (A : Option Addr) (c : Nat) (l : List S212) (pour : Int) (hC : Kd.C k212 W A l.length l) (hc : l.length ≤ c) (hlen : (partsP l).length ≤ 10000000) :
  Calls Tryz.prog 115 #[.slice A l.length c,ii pour] W fun e W' => OfPost W (ofL pour (partsP l)) e W':=callsIn_wide.1 (of_in 3 (Nat.le_refl _) W A c l pour hC hc hlen)
end
end Go.Proofs.YtjjfpmapjjemcaaGreat.B
end
