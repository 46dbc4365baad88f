import Derived.Test.YtjjfpmapjjemcaaGreatQ25
import Derived.Test.YtjjfpmapjjemcaaGreatQ7
import Derived.Test.YtjjfpmapjjemcaaGreatQ8
set_option linter.unusedVariables false
set_option linter.unusedSimpArgs false
section
namespace Go.Proofs.YtjjfpmapjjemcaaGreat.B
open Go.RowKit Go.Proofs.YtjjfpmapjjemcaaGreatW.PrintWords Go.Proofs.YtjjfpmapjjemcaaGreatW.PrintLast Go.Proofs.YtjjfpmapjjemcaaGreatW.PrintMore
attribute [local go_sem] max2_int min2_int max_two min_two max_three min_three max_four min_four
def DivPost (W : World) (p : S212) (n : Int) (e : Ending) (W' : World) : Prop :=
 Below W.heap.size W W' ∧ ((dividedP p n = none ∧ e = Pan 3) ∨ ∃ q A c,dividedP p n = some q ∧ e = .returned (.agg #[ii q.f0,.slice A q.f1.length c]) ∧ q.f1.length ≤ c ∧ Kd.F k89 W' (fun k => W.heap.size ≤ k) A q.f1.length q.f1)
theorem divParts_cons_no {x : S89} {l : List S89} {n m : Int} (h : fineP (timesP x.f1 n m) = false) : divParts (x :: l) n m = none:=by
 simp only [divParts];rw [if_neg (by rw [h];simp)]
theorem divParts_cons {x : S89} {l : List S89} {n m : Int} (h : fineP (timesP x.f1 n m) = true) : divParts (x :: l) n m = (divParts l n m).map (⟨x.f0,timesP x.f1 n m⟩ :: ·):=by
 simp only [divParts];rw [if_pos h]
theorem drop_rd89 {l : List S89} {j : Nat} (h : j < l.length) : l.drop j = rd_T89 l (j : Int) :: l.drop (j + 1):=by
 rw [List.drop_eq_getElem_cons h];unfold rd_T89;rw [Int.toNat_natCast,List.getD_eq_getElem?_getD,List.getElem?_eq_getElem h];rfl
set_option maxRecDepth 100000 in
set_option maxHeartbeats 4000000 in
theorem divided_calls (p : S212) (A : Option Addr) (c : Nat) (W : World) (n : Int) (hr : Kd.C k89 W A p.f1.length p.f1) (hc : p.f1.length ≤ c) {pours : List Int} (hp : ParcelOk pours p) (h1 : 1 ≤ n) (h2 : n ≤ 4096) :
  Calls Tryz.prog 253 #[.agg #[ii p.f0,.slice A p.f1.length c],ii n] W fun e W' => DivPost W p n e W':=by
 have HR:=am hr
 have HP:=am hp
 have hlen:=hp.len
 clear hr hp
 have hu:=Tryz.underlying212
 have hu89:=Tryz.underlying89
 have hu43:=Tryz.underlying43
 go_enter Tryz.func253,Tryz.ntmps253
 go_wp2
 go_loopw [14] (fun v14 wr => ∃ (q : List S89) (v : Value),q.length ≤ p.f1.length ∧ v14 = ii (q.length : Int) ∧ Aside0 (Below W.heap.size W wr) ∧ Aside0 (wr.heap[W.heap.size]? = some (.cells #[ii p.f0,.slice A p.f1.length c] 212 (0,0))) ∧ Aside0 (wr.heap[W.heap.size + 1]? = some (.cells #[ii 0,.slice none 0 0] 212 (0,0))) ∧ Aside0 (wr.heap[W.heap.size + 1 + 1]? = some (.cells #[ii n,v] 212 (0,0))) ∧ Aside0 (Kd.R k89 89 wr W.heap.size (fun _ => True) v q) ∧ Aside0 (divParts p.f1 n p.f0 = (divParts (p.f1.drop q.length) n p.f0).map (q ++ ·))) (fun v14 _ => p.f1.length - (intOf v14).toNat)
 case atStart => exact ⟨[],.slice none 0 0,Nat.zero_le _,rfl,⟨below_alloc (below_alloc (below_alloc (Below.refl _ _) _) _) _⟩,⟨blk_alloc (blk_alloc (blk_new _ _) _) _⟩,⟨blk_alloc (blk_new' _ _ _ (by simp)) _⟩,⟨blk_new' _ _ _ (by simp)⟩,⟨Kd.R_nil _ _ _ _ _⟩,⟨by simp⟩⟩
 case round =>
  obtain ⟨q,v,hj,rfl,HB,BP,BZ,BO,HV,HD⟩:=hrel
  obtain ⟨Av,cv,rfl⟩:=Kd.R_slice HV.out
  have hc0:=bd BP.out 0
  have hca : ∀ o,(wr.alloc o).cell? ⟨W.heap.size,0,none⟩ = some (ii p.f0):=fun o => (blk_cell (blk_alloc BP.out o) 0).trans rfl
  by_cases hlt : q.length < p.f1.length
  ·obtain ⟨ae,e,hx0,hx1,hx2⟩:=at_T89 (Kd.C_below HR.out HB.out) (q.length : Int) (by omega) (by omega)
   cases e
   rw [Int.toNat_natCast] at hx0 hx1 hx2
   have hmem : rd_T89 p.f1 (q.length : Int) ∈ p.f1:=getD_mem_ hlt
   have hpx:=HP.out.parts _ hmem
   obtain ⟨hok,hf0,hf1⟩:=fineP_of hpx.1
   have hlo:=HP.out.lo
   have hhi:=HP.out.hi
   have HT:=am (times_some (n:=n) (m:=p.f0) hok hf0 (by omega) (by omega) (by omega) hlo (by omega))
   rw [drop_rd89 hlt] at HD
   obtain ⟨x,hx⟩ : ∃ x,x = rd_T89 p.f1 (q.length : Int):=⟨_,rfl⟩
   rw [← hx] at hx0 hx1 hx2 HT HD
   clear hmem hpx hok hf0 hf1 hlo hhi hx
   obtain ⟨r,hr⟩ : ∃ r,r = timesP x.f1 n p.f0:=⟨_,rfl⟩
   rw [← hr] at HT
   have HRr:=am hr
   clear hr
   cases hfn : fineP r with
  |true =>
    have HFn:=am hfn
    clear hfn
    go_wp2_with fail
    refine (pit_times.calls FU _ _ _ _ _ _ _ HT.out).mono ?_
    rintro e w1 ⟨rfl,hd⟩
    have HB1:=am (below_then (below_alloc HB.out (.cells #[ii x.f0,ii x.f1.f0,ii x.f1.f1] 89)) (below_size (below_alloc HB.out _)) hd)
    have BP1:=am (blk_below (blk_alloc BP.out (.cells #[ii x.f0,ii x.f1.f0,ii x.f1.f1] 89)) hd)
    have BZ1:=am (blk_below (blk_alloc BZ.out (.cells #[ii x.f0,ii x.f1.f0,ii x.f1.f1] 89)) hd)
    have BO1:=am (blk_below (blk_alloc BO.out (.cells #[ii x.f0,ii x.f1.f0,ii x.f1.f1] 89)) hd)
    have BX1:=am (blk_below (blk_new wr (.cells #[ii x.f0,ii x.f1.f0,ii x.f1.f1] 89)) hd)
    have HV1:=am (Kd.R_below (Kd.R_alloc HV.out (.cells #[ii x.f0,ii x.f1.f0,ii x.f1.f1] 89)) hd)
    clear hd hc0 hca hx0 hx1 hx2
    go_wp2_with fail
    refine (fine_calls r _).mono ?_
    rintro e w2 ⟨rfl,hd⟩
    rw [HFn.out]
    have HB2:=am (below_then (below_alloc HB1.out (.cells #[ii r.f0,ii r.f1] 43)) (below_size (below_alloc HB1.out _)) hd)
    have BP2:=am (blk_below (blk_alloc BP1.out (.cells #[ii r.f0,ii r.f1] 43)) hd)
    have BZ2:=am (blk_below (blk_alloc BZ1.out (.cells #[ii r.f0,ii r.f1] 43)) hd)
    have BO2:=am (blk_below (blk_alloc BO1.out (.cells #[ii r.f0,ii r.f1] 43)) hd)
    have BX2:=am (blk_below (blk_alloc BX1.out (.cells #[ii r.f0,ii r.f1] 43)) hd)
    have BR2:=am (blk_below (blk_new w1 (.cells #[ii r.f0,ii r.f1] 43)) hd)
    have HV2:=am (Kd.R_below (Kd.R_alloc HV1.out (.cells #[ii r.f0,ii r.f1] 43)) hd)
    have g0:=bd BO2.out 1
    have g1:=bd BX2.out 0
    have g2:=bd BR2.out 0
    have g3:=bd BR2.out 1
    have HBS:=am (below_size HB2.out)
    clear hd
    go_wp2_with (at_builtin;refine Kd.R_append k89 (w0:=W) W.heap.size rfl _ _ 55 89 (.agg #[ii 0,ii 0,ii 0]) 24 rfl Tryz.underlying55 info89 rfl (by decide) (by decide) (.slice Av q.length cv) q ⟨x.f0,r⟩ [ii x.f0,ii r.f0,ii r.f1] (fun _ => True) (fun k => k < w2.heap.size ∧ some k ≠ (Value.slice Av q.length cv).ownBlock) rfl rfl (k89_mkM _ _ _ ⟨x.f0,r⟩) (fun k hk => ⟨trivial,hk.2⟩) (fun _ _ => trivial) HV2.out HB2.out HBS.out (by omega) ?_;intro v3 w3 hr3 hb3 hg3 hat3;obtain ⟨A3,c3,rfl⟩:=Kd.R_slice hr3;rw [List.length_append,List.length_singleton] at hr3 hat3 ⊢;have BO3:=am (blk_grown BO2.out hg3 (Kd.R_ne HV2.out BO2.out (by decide)));have BP3:=am (blk_grown BP2.out hg3 (Kd.R_ne HV2.out BP2.out (by decide)));have BZ3:=am (blk_grown BZ2.out hg3 (Kd.R_ne HV2.out BZ2.out (by decide)));have k0:=blk_frozen BO3.out 1;have k1:=bd BO3.out 1;have HV3:=am hr3;have HB3:=am hb3;have NE3:=am (Kd.R_ne hr3 BO3.out (by decide));clear hr3 hb3 hg3 hat3 g0 g1 g2 g3)
    go_roundw
    case rel =>
     have hd:=HD.out
     rw [divParts_cons (by rw [← HRr.out];exact HFn.out)] at hd
     refine ⟨q ++ [⟨x.f0,r⟩],.slice A3 (q.length + 1) c3,by simp only [List.length_append,List.length_singleton];omega,by simp only [List.length_append,List.length_singleton];go_num,⟨HB3.out.setCell (by show W.heap.size ≤ W.heap.size + 1 + 1;omega) _⟩,⟨blk_far BP3.out (by show W.heap.size ≠ W.heap.size + 1 + 1;omega) _⟩,⟨blk_far BZ3.out (by show W.heap.size + 1 ≠ W.heap.size + 1 + 1;omega) _⟩,⟨blk_put BO3.out 1 _ rfl⟩,⟨Kd.R_set HV3.out BO3.out (by decide) _ _⟩,⟨?_⟩⟩
     rw [hd,List.length_append,Option.map_map,HRr.out]
     congr 1
     funext y
     simp
    case measure => simp [intOf];omega
  |false =>
    have HFn:=am hfn
    clear hfn
    go_wp2_with fail
    refine (pit_times.calls FU _ _ _ _ _ _ _ HT.out).mono ?_
    rintro e w1 ⟨rfl,hd⟩
    have HB1:=am (below_then (below_alloc HB.out (.cells #[ii x.f0,ii x.f1.f0,ii x.f1.f1] 89)) (below_size (below_alloc HB.out _)) hd)
    clear hd hc0 hca hx0 hx1 hx2
    go_wp2_with fail
    refine (fine_calls r _).mono ?_
    rintro e w2 ⟨rfl,hd⟩
    rw [HFn.out]
    have HB2:=am (below_then (below_alloc HB1.out (.cells #[ii r.f0,ii r.f1] 43)) (below_size (below_alloc HB1.out _)) hd)
    clear hd
    go_wp2
    refine ⟨rfl,HB2.out,.inl ⟨?_,rfl⟩⟩
    have hd:=HD.out
    rw [divParts_cons_no (by rw [← HRr.out];exact HFn.out)] at hd
    unfold dividedP
    rw [hd]
    rfl
  ·have g0:=bd BO.out 0
   have g1:=bd BO.out 1
   have g2:=bd BZ.out 0
   have g3:=bd BZ.out 1
   have g4:=blk_frozen BZ.out 0
   have g5:=blk_frozen BZ.out 1
   go_wp2
   have bz:=blk_put (cs':=#[ii n,.slice Av q.length cv]) (blk_put (cs':=#[ii n,.slice none 0 0]) BZ.out 0 (ii n) rfl) 1 (.slice Av q.length cv) rfl
   have hq : q.length = p.f1.length:=by omega
   have hd:=HD.out
   rw [List.drop_eq_nil_of_le (by omega)] at hd
   have hV:=Kd.R_set (Kd.R_set HV.out BZ.out (by decide) 0 (ii n)) (blk_put (cs':=#[ii n,.slice none 0 0]) BZ.out 0 (ii n) rfl) (by decide) 1 (.slice Av q.length cv)
   have hBB:=(HB.out.setCell (p:=⟨W.heap.size + 1,0,none⟩) (by show W.heap.size ≤ W.heap.size + 1;omega) (ii n)).setCell (p:=⟨W.heap.size + 1,1,none⟩) (by show W.heap.size ≤ W.heap.size + 1;omega) (.slice Av q.length cv)
   refine bodyPost_ret (results_cell_row rfl _ _ (W.heap.size + 1) 212 #[ii n,.slice Av q.length cv] (0,0) _ rfl bz Tryz.underlying212 rfl kr) rfl ⟨hBB,.inr ⟨⟨n,q⟩,Av,cv,?_,rfl,(Kd.R_reads' HV.out).2.1,?_⟩⟩
   ·unfold dividedP
    rw [hd]
    simp [divParts]
   ·exact Kd.F_mono (Kd.R_F (Kd.R_bound hV)) (fun k hk => hk.2.1)
def R244_6.T : Bool × List (List Nat × List Nat):=(true,[([],[]),([],[]),([1],[1]),([0,2],[0,2]),([],[]),([],[]),([5],[5]),([],[]),([7],[7]),([4,6,8],[4,6,8]),([],[]),([],[]),([11],[11]),([10,12],[10,12]),([3,3,0,1,2,3],[0,3]),([9,14,0,1,2,3,4,5,6,7,8,9,14],[4,5,7,9]),([13,15,0,1,2,3,4,5,6,7,8,9,10,11,12,13,14,15],[10,13])])
def R244_6.B : List Nat:=[0,0,2,7,0,0,32,0,128,496,0,0,2048,7168,15,17407,65535]
theorem R244_6.tab : rtab .any (opsOf Tryz.f244 6) = R244_6.T:=by kernel_rfl
theorem R244_6.bits : waitsOk R244_6.T.2 R244_6.B = true:=by kernel_rfl
def R244_8.T : Bool × List (List Nat × List Nat):=(true,[([],[]),([],[]),([1],[1]),([],[]),([2,3],[2,3]),([0,4],[0,4]),([5],[5]),([],[]),([7],[7]),([6,8,5],[6,8]),([9,9,0,1,2,3,4,5,6,7,8,9],[7,9])])
def R244_8.B : List Nat:=[0,0,2,0,14,31,63,0,128,511,1023]
theorem R244_8.tab : rtab .any (opsOf Tryz.f244 8) = R244_8.T:=by kernel_rfl
theorem R244_8.bits : waitsOk R244_8.T.2 R244_8.B = true:=by kernel_rfl
theorem goesP_ {P : Program} {ops : Array Oper} {Q : Exit → Act → World → Prop} {oi : Oper} {N : Option Tmp} {a : Act} {w : World} {K : Act → World → Prop} {f : FuncId} {fn : Func} {xs : Array Operand} {ts : Array TypeId} (hf : P.funcs[f]? = some fn) (hname : (fn.name == "runtime.NumGoroutine") = false) (hb : fn.body.isSome = true) (args : Array Value)
  (hw : Region.wanted oi (yielded ops a.tmps) = true) (hop : oi.op = .call { callee:=.value (.func f),args:=xs,argTypes:=ts }) (hargs : xs.map a.eval = args)
  (h : Calls P f args w fun e w' => ∃ ch,e = .panicked ch ∧ Q (.panic ch) a w') : if Region.wanted oi (yielded ops a.tmps) = true then Oper.wp P oi a w K Q else K (a.put N undef) w:=by
 rw [if_pos hw]
 have he:=enters_ hf hname hb args w
 have hrun : (execOp a.eval oi).run P w = .ok (.enter f args) w:=by
  unfold execOp
  simp [hop,resolve,Deferred.ofValue,invoke,Act.eval,hargs,he]
 unfold Oper.wp
 rw [hrun,Oper.upon_enter]
 refine h.mono fun e w'' hh => ?_
 obtain ⟨ch,rfl,hk⟩:=hh
 exact hk
theorem cut_midM (t e : TypeId) {i : TypeInfo} (ht : Tryz.prog.underlying t = some (.slice e)) (hi : Tryz.prog.info? e = some i) (size : Nat) (hsz : i.size = size) (A : Option Addr) (n c : Nat) (lo hi' : Int) (h0 : 0 ≤ lo) (h1 : lo ≤ hi') (h2 : hi' ≤ n) (hc : n ≤ c) :
  ∀ W : World,(Instr.slice t (.slice A n c) (some (ii lo)) (some (ii hi')) (some (ii hi'))).run Tryz.prog W = .ok (.slice (if hi'.toNat = lo.toNat then A else A.map (·.add (lo.toNat * size))) (hi'.toNat - lo.toNat) (hi'.toNat - lo.toNat)) W:=by
 intro W
 have hel : Tryz.prog.elem t = e:=by simp [Program.elem,ht]
 have hu : Tryz.prog.underlying t = some (.slice (Tryz.prog.elem t)):=by rw [hel];exact ht
 rw [run_slice_lhm W t A n c hu .i64 .i64 .i64 lo hi' hi' h0 h1 (by omega) (by omega),hel]
 simp [sizeOf,typeInfo,hi,hsz,sliced,Result.andThen]
theorem aheadP_zero (l : List S212) : aheadP l 0 = some ([],l):=by cases l <;> simp [aheadP]
theorem aheadP_whole {p : S212} {l : List S212} {n : Int} (h0 : 0 < n) (h : p.f0 ≤ n) : aheadP (p :: l) n = (aheadP l (n - p.f0)).map (fun x => (p :: x.1,x.2)):=by
 simp only [aheadP];rw [if_pos h0,if_pos h]
theorem aheadP_part {p : S212} {l : List S212} {n : Int} (h0 : 0 < n) (h : ¬ p.f0 ≤ n) : aheadP (p :: l) n = (dividedP p n).bind fun a => (dividedP p (p.f0 - n)).map fun b => ([a],b :: l):=by
 simp only [aheadP];rw [if_pos h0,if_neg h]
def AheadPost (W : World) (base : Nat) (L : Loc) (Y : Yd) (i n : Int) (e : Ending) (W' : World) : Prop :=
 Below base W W' ∧ ((aheadP (pitP Y i) n = none ∧ e = Pan 3 ∧ Below W.heap.size W W') ∨ ∃ a b A c,aheadP (pitP Y i) n = some (a,b) ∧ e = .returned (.slice A a.length c) ∧ a.length ≤ c ∧ YardAt W' base L { Y with pits:=Y.pits.set i.toNat b } ∧ Fr W L W' L ∧ Kd.F k212 W' L.Not A a.length a)
theorem head_rd212 {l : List S212} (h : 0 < l.length) : l = rd_T212 l 0 :: l.drop 1:=by
 cases l with
|nil => simp at h
|cons x r => rfl
set_option maxRecDepth 100000 in
set_option maxHeartbeats 4000000 in
theorem ahead_calls {W : World} {base m : Nat} {L : Loc} {Y : Yd} (hY : YardAt W base L Y) (hw : Wf m Y) (i n : Int) (h0 : 0 ≤ i) (h1 : i < Y.rooms.length) (hn1 : 1 ≤ n) (hn2 : n ≤ 1000) (hh : n ≤ heldP (pitP Y i)) :
  Calls Tryz.prog 244 #[.pointer (some ⟨L.g,0,none⟩),ii i,ii n] W fun e W' => AheadPost W base L Y i n e W':=by
 obtain ⟨p1,p2,p3,p4⟩:=hw.pitOk h0 h1
 obtain ⟨A,c,hc,hle,hF,hfz⟩:=hY.pit_at h0 h1
 have hr6:=hw.r6
 have HY:=am hY
 have HN:=am (fun k (hk : W.heap.size ≤ k) => hY.not_new hk)
 have HBB:=am (hY.gLt)
 have hcg:=bd hY.blk 1
 obtain ⟨ad,had⟩ : ∃ ad : Addr,ad = ⟨L.gp,0,none⟩:=⟨_,rfl⟩
 rw [← had] at hcg
 have hc' : W.cell? (ad.add i.toNat) = some (.slice A (pitP Y i).length c):=by rw [had];rw [add_plain];exact hc
 have HF0:=am (show Kd.F k212 W (fun k => L.Not k ∧ some k ≠ (Value.slice none 0 0).ownBlock) A (pitP Y i).length (pitP Y i) from Kd.F_mono hF (fun k hk => ⟨hk,by simp [Value.ownBlock]⟩) )
 have HP0:=am p1
 have HAD:=am had
 have HH:=am hh
 have HLE:=am hle
 have HL0:=am (show (pitP Y i).length ≤ 4096 by have:=held_ge p1;omega)
 obtain ⟨i0,hi,_,hsz,_⟩:=info_parts info212
 have hu:=Tryz.underlying212
 clear hY hw p1 p2 p3 p4 hc hF hfz had hh hle
 go_enter Tryz.func244,Tryz.ntmps244
 go_wp2
 go_loopw [2,7,8] (fun v2 v7 v8 wr => ∃ (a rest : List S212) (r : Int) (A : Option Addr) (c : Nat) (v : Value),v2 = ii r ∧ v7 = .slice A rest.length c ∧ v8 = v ∧ Aside0 (rest.length ≤ c) ∧ Aside0 (0 ≤ r ∧ r ≤ heldP rest ∧ (a.length : Int) + r ≤ n ∧ rest.length ≤ 4096) ∧ Aside0 (∀ p ∈ rest,ParcelOk Y.pours p) ∧ Aside0 (Below W.heap.size W wr) ∧ Aside0 (Kd.N k212 212 wr W.heap.size L.Not v a) ∧ Aside0 (Kd.F k212 wr (fun k => L.Not k ∧ some k ≠ v.ownBlock) A rest.length rest) ∧ Aside0 (aheadP (pitP Y i) n = (aheadP rest r).map (fun x => (a ++ x.1,x.2)))) (fun v2 _ _ _ => (intOf v2).toNat)
 case atStart => exact ⟨[],pitP Y i,n,A,c,.slice none 0 0,rfl,rfl,rfl,HLE,⟨by omega,HH.out,by simp,HL0.out⟩,HP0,⟨Below.refl _ _⟩,⟨Kd.N_nil _ _ _ _ _⟩,HF0,⟨by simp⟩⟩
 case round =>
  clear HF0 HP0 HLE hc' hcg
  obtain ⟨a,rest,r,A,c,v,rfl,rfl,rfl,HLE,HI,HP,HB,HV,HF,HA⟩:=hrel
  obtain ⟨Av,cv,rfl⟩:=Kd.N_slice HV.out
  by_cases hr : 0 < r
  ·have hlen : 0 < rest.length:=by
    rcases Nat.eq_zero_or_pos rest.length with h|h
    ·have:=List.eq_nil_of_length_eq_zero h
     have h2:=HI.out.2.1
     rw [this] at h2
     simp only [heldP] at h2
     omega
    ·exact h
   obtain ⟨ae,cs,e,_,hK,hcell,_⟩:=Kd.F_get HF.out z212 0 (Int.le_refl 0) (by omega)
   cases e
   have hK' : Kd.FK k212 wr (fun k => L.Not k ∧ some k ≠ (Value.slice Av a.length cv).ownBlock) (rd_T212 rest 0) cs:=hK
   obtain ⟨A1,c1,rfl,hl1,hF1⟩:=k212_openF hK'
   have hx0 : wr.cell? ae = some (ii (rd_T212 rest 0).f0):=by have h:=hcell 0 _ rfl;rw [show (0 : Int).toNat * k212.sz + 0 = 0 from rfl,Addr.add_zero'] at h;exact h
   have hx1 : wr.cell? ⟨ae.block,ae.off + 1,none⟩ = some (.slice A1 (rd_T212 rest 0).f1.length c1):=by have h:=hcell 1 _ rfl;rw [show (0 : Int).toNat * k212.sz + 1 = 0 + 1 from rfl,add_field _ _ 1 (by omega),Addr.add_zero'] at h;exact h
   have hsp:=head_rd212 hlen
   have hpm : rd_T212 rest 0 ∈ rest:=by rw [hsp];exact List.mem_cons_self
   have hpo:=HP.out _ hpm
   rw [hsp] at HA
   have htl : (rest.drop 1).length = rest.length - 1:=List.length_drop
   obtain ⟨p,hp⟩ : ∃ p,p = rd_T212 rest 0:=⟨_,rfl⟩
   rw [← hp] at hx0 hx1 HA hpo hK' hF1 hl1 hsp
   have HSP:=am hsp
   have HPO:=am hpo
   have HK:=am hK'
   have HF1:=am hF1
   have HL1:=am hl1
   have HTL:=am htl
   clear hsp hpo hK hK' hF1 hpm hp hl1 htl hcell
   obtain ⟨tl,htl⟩ : ∃ tl,tl = rest.drop 1:=⟨_,rfl⟩
   obtain ⟨A2,hA2⟩ : ∃ A2,A2 = (if rest.length = 1 then some ae else (some ae).map (·.add (1 * 2))):=⟨_,rfl⟩
   have hFt:=Kd.F_cut (m:=1) (c:=rest.length) HF.out (by omega) (Nat.le_refl _)
   have hFc:=Kd.F_cut (m:=1) (c:=c) HF.out (by omega) HLE.out
   rw [← htl] at hFt hFc HTL HSP HA
   have hFt' : Kd.F k212 wr (fun k => L.Not k ∧ some k ≠ (Value.slice Av a.length cv).ownBlock) A2 tl.length tl:=by rw [hA2];exact hFt
   have hcut : ∀ W : World,(Instr.slice 131 (.slice (some ae) rest.length c) (some (ii 1)) (some (ii (rest.length : Int))) (some (ii (rest.length : Int)))).run Tryz.prog W = .ok (.slice A2 tl.length tl.length) W:=fun W => by
    rw [cut_midM 131 212 Tryz.underlying131 hi 2 hsz (some ae) rest.length c 1 (rest.length : Int) (by omega) (by omega) (by omega) HLE.out W,HTL.out,hA2]
    rfl
   have HPt:=am (fun q hq => HP.out q (by rw [HSP.out];exact List.mem_cons_of_mem _ hq) : ∀ q ∈ tl,ParcelOk Y.pours q)
   have HHt:=am (show heldP rest = p.f0 + heldP tl by rw [HSP.out];rfl)
   have HFt:=am hFt'
   have hplo:=HPO.out.lo
   have hphi:=HPO.out.hi
   have hri : r ≤ 1000:=by have:=HI.out;omega
   have NEv:=am (show ∀ k,wr.heap.size ≤ k → some k ≠ (Value.slice Av a.length cv).ownBlock from fun k hk e => by have:=Kd.N_lt HV.out _ e.symm;omega)
   clear hA2 hFt hFt' hFc htl
   by_cases hle : p.f0 ≤ r
   ·have hws : IntKind.i64.wrap (r - p.f0) = r - p.f0:=IntWalk.i64_in _ (by omega)
    rw [aheadP_whole hr hle] at HA
    have BX:=am (blk_drew (blk_new wr (.cells #[ii p.f0,.slice A1 p.f1.length c1] 212)))
    have HVd:=am (Kd.N_drew (Kd.N_alloc HV.out (.cells #[ii p.f0,.slice A1 p.f1.length c1] 212)))
    have HFd:=am (Kd.F_drew (Kd.F_alloc HFt.out (.cells #[ii p.f0,.slice A1 p.f1.length c1] 212)))
    have HKd:=am (Kd.FK_below (Kd.FK_below HK.out (below_alloc (Below.refl _ _) (.cells #[ii p.f0,.slice A1 p.f1.length c1] 212))) (below_drew (Below.refl _ _)))
    have HBd:=am (below_drew (below_alloc HB.out (.cells #[ii p.f0,.slice A1 p.f1.length c1] 212)))
    go_wp2
    refine start_ (n:=17) (S:=fun w' => w'.cell? ⟨wr.heap.size,0,none⟩ = some (ii p.f0) ∧ w'.cell? ⟨wr.heap.size,1,none⟩ = some (.slice A1 p.f1.length c1)) (ds:=[]) (ab 17 0) kr rfl kr ⟨(blk_cell BX.out 0).trans rfl,(blk_cell BX.out 1).trans rfl⟩ (fun hHeld => ?_);refine with_tabW R244_6.tab R244_6.bits (fun HT_ HW_ => ?_)
    generalize ((wr.alloc (.cells #[ii p.f0,.slice A1 p.f1.length c1] 212))).drew = wd at BX HVd HFd HKd HBd hHeld ⊢
    refine qA 0 (some 26) ?_;refine qT 1 (some 27) ?_;refine qA 4 (some 30) ?_;refine qA 5 (some 31) ?_;refine qA 6 (some 32) ?_;refine qA 7 (some 33) ?_;refine qA 8 (some 34) ?_;refine qA 9 (some 35) ?_;refine qA 10 (some 36) ?_;refine qA 11 (some 37) ?_;refine qT 12 (some 38) ?_;refine qA 13 (some 39) ?_
    refine qE 2 (some 28) fun K hK => ?_
    refine value_ (w1:=?_) (v:=?_) (by rfl) rfl ?_ ?_
    rotate_left 2
    ·go_simp
     constructor
     ·rfl
     ·rfl
    refine hK.out _ _ ⟨(blk_cell (blk_alloc BX.out _) 0).trans rfl,(blk_cell (blk_alloc BX.out _) 1).trans rfl⟩ (fun hHeld => ?_)
    clear hK K
    refine qN (some 28) ?_
    refine qE 3 (some 29) fun K hK => ?_
    refine Kd.N_append_step k212 (w0:=W) W.heap.size (by rfl) (.tmp 26) (.tmp 28) 131 212 (.agg #[ii 0,.slice none 0 0]) 32 rfl Tryz.underlying131 info212 rfl (by decide) (by decide) (.slice Av a.length cv) a p [ii p.f0,.slice A1 p.f1.length c1] L.Not (fun k => L.Not k ∧ some k ≠ (Value.slice Av a.length cv).ownBlock) rfl rfl HKd.out (fun k hk => hk) ?aF HVd.out HBd.out (below_size HBd.out) ?aL ?_
    case aF => exact fun k hk => HN.out k (Nat.le_trans (below_size HBd.out) hk)
    case aL => have:=HI.out.2.2;omega
    intro v1 w3 ho hb hg hat
    obtain ⟨A3,c3,rfl⟩:=Kd.N_slice ho
    rw [List.length_append,List.length_singleton] at ho hat ⊢
    have HF3:=am (Kd.F_after HFd.out hg hat)
    have BX3:=am (blk_grown BX.out hg (NEv.out _ (Nat.le_refl _)))
    have HV3:=am ho
    have HB3:=am hb
    clear ho hb hg hat
    refine hK.out _ _ ⟨(blk_cell BX3.out 0).trans rfl,(blk_cell BX3.out 1).trans rfl⟩ (fun hHeld => ?_)
    clear hK K
    refine qN (some 29) ?_
    refine qA 14 (some 8) ?_;refine qA 15 (some 7) ?_;refine qA 16 (some 2) ?_
    refine done_ (done_of HT_.out kr) ?_
    go_wp2
    go_roundw
    case rel =>
     refine ⟨a ++ [p],tl,r - p.f0,A2,tl.length,.slice A3 (a.length + 1) c3,rfl,rfl,rfl,⟨Nat.le_refl _⟩,⟨by omega,by have:=HI.out.2.1;have:=HHt.out;omega,by have:=HI.out.2.2;simp only [List.length_append,List.length_singleton];omega,by have:=HI.out.2.2.2;have:=HTL.out;omega⟩,HPt,HB3,HV3,HF3,⟨?_⟩⟩
     rw [HA.out,Option.map_map]
     congr 1
     funext y
     simp
    case measure => simp [intOf];omega
   ·have hle' : r < p.f0:=by omega
    have hws : IntKind.i64.wrap (p.f0 - r) = p.f0 - r:=IntWalk.i64_in _ (by omega)
    rw [aheadP_part hr hle] at HA
    have BX:=am (blk_new wr (.cells #[ii p.f0,.slice A1 p.f1.length c1] 212))
    have Ba:=am (below_alloc (Below.refl wr.heap.size wr) (.cells #[ii p.f0,.slice A1 p.f1.length c1] 212))
    obtain ⟨i1,hi1,_,hsz1,_⟩:=info_parts info212
    obtain ⟨A4,hA4⟩ : ∃ A4,A4 = (if c = 1 then some ae else (some ae).map (·.add (1 * 2))):=⟨_,rfl⟩
    have hcutf : ∀ W : World,(Instr.slice 131 (.slice (some ae) rest.length c) (some (ii 1)) none none).run Tryz.prog W = .ok (.slice A4 tl.length (c - 1)) W:=fun W => by
     rw [cut_from 131 212 .i64 Tryz.underlying131 hi1 2 hsz1 (some ae) rest.length c 1 (by omega) (by omega) W,HTL.out,hA4]
     rfl
    have hFc : Kd.F k212 wr (fun k => L.Not k ∧ some k ≠ (Value.slice Av a.length cv).ownBlock) A4 tl.length tl:=by
     have h:=Kd.F_cut (m:=1) (c:=c) HF.out (by omega) HLE.out
     rw [show rest.drop 1 = tl by rw [HSP.out];rfl] at h
     rw [hA4]
     exact h
    have HFc:=am hFc
    clear hA4 hFc hcut
    go_wp2_with fail
    refine (divided_calls p A1 c1 _ r ?hr HL1.out HPO.out (by omega) (by omega)).mono ?_
    case hr => exact Kd.C_below (Kd.F_now HF1.out) Ba.out
    rintro e w1 ⟨hB1,h⟩
    have HB1:=am (below_then Ba.out (below_size Ba.out) hB1)
    have HBW:=am (below_then HB.out (below_size HB.out) HB1.out)
    have BX1:=am (blk_below BX.out hB1)
    clear hB1
    rcases h with ⟨hn,rfl⟩|⟨q,Aq,cq,hq,rfl,hlq,hFq⟩
    ·unfold Pan
     go_wp2
     refine ⟨rfl,HBW.out.mono (by have:=HBB.out;omega),.inl ⟨?_,rfl,HBW.out⟩⟩
     rw [HA.out,hn]
     rfl
    ·have HV1:=am (Kd.N_below HV.out HB1.out)
     have HFc1:=am (Kd.F_below HFc.out HB1.out)
     have HFp1:=am (Kd.F_below HF1.out HB1.out)
     have HQ1:=am (k212_mkF w1 (fun k => wr.heap.size ≤ k) q hlq (Kd.F_mono hFq (fun k hk => by simp at hk;omega)))
     have HQ:=am hq
     have HSZ:=am (below_size HB.out)
     clear hq hlq hFq
     go_wp2_with (at_builtin;refine Kd.N_append k212 (w0:=W) W.heap.size rfl _ _ 131 212 (.agg #[ii 0,.slice none 0 0]) 32 rfl Tryz.underlying131 info212 rfl (by decide) (by decide) (.slice Av a.length cv) a q [ii q.f0,.slice Aq q.f1.length cq] L.Not (fun k => wr.heap.size ≤ k) rfl rfl HQ1.out (fun k hk => ⟨HN.out k (Nat.le_trans HSZ.out hk),NEv.out k hk⟩) (fun k hk => HN.out k (Nat.le_trans (below_size HBW.out) hk)) HV1.out HBW.out (below_size HBW.out) (by have:=HI.out.2.2;omega) ?_;intro v3 w3 ho hb hg hat;obtain ⟨A3,c3,rfl⟩:=Kd.N_slice ho;rw [List.length_append,List.length_singleton] at ho hat ⊢;have HF3:=am (Kd.F_after HFc1.out hg hat);have HP3:=am (Kd.F_after HFp1.out hg hat);have BX3:=am (blk_grown BX1.out hg (NEv.out _ (Nat.le_refl _)));have HV3:=am ho;have HB3:=am hb;clear ho hb hg hat)
     obtain ⟨v3,hv3⟩ : ∃ v3,v3 = Value.slice A3 (a.length + 1) c3:=⟨_,rfl⟩
     have HVl:=am (show ∀ k,v3.ownBlock = some k → k < w3.heap.size by rw [hv3];exact Kd.N_lt HV3.out)
     have HV3d:=am (show Kd.N k212 212 w3.drew W.heap.size L.Not v3 (a ++ [q]) by rw [hv3];exact Kd.N_drew HV3.out)
     have HF3d:=am (show Kd.F k212 w3.drew (fun k => L.Not k ∧ some k ≠ v3.ownBlock) A4 tl.length tl by rw [hv3];exact Kd.F_drew HF3.out)
     have HP3d:=am (Kd.F_drew HP3.out)
     have BX3d:=am (blk_drew BX3.out)
     have HB3d:=am (below_drew HB3.out)
     have HVLd:=am (show ∀ k,v3.ownBlock = some k → k < w3.drew.heap.size from HVl.out)
     have HV3v:=am hv3
     clear hv3
     cases hy : dividedP p (p.f0 - r) with
    |none =>
      have HYn:=am hy
      clear hy
      refine start_ (n:=11) (S:=fun w' => w'.cell? ⟨wr.heap.size,0,none⟩ = some (ii p.f0) ∧ w'.cell? ⟨wr.heap.size,1,none⟩ = some (.slice A1 p.f1.length c1)) (ds:=[]) (ab 11 0) kr rfl kr ⟨(blk_cell BX3d.out 0).trans rfl,(blk_cell BX3d.out 1).trans rfl⟩ (fun hHeld => ?_);refine with_tabW R244_8.tab R244_8.bits (fun HT_ HW_ => ?_)
      generalize (w3).drew = wd at HV3d HF3d HP3d BX3d HB3d HVLd hHeld ⊢
      refine qT 0 (some 46) ?_;refine qA 1 (some 47) ?_;refine qT 2 (some 48) ?_;refine qA 3 (some 49) ?_;refine qA 4 (some 50) ?_;refine qA 7 (some 53) ?_;refine qA 8 (some 54) ?_
      refine qE 5 (some 51) fun K hK => ?_
      refine goesP_ Tryz.func253 kr rfl #[.agg #[ii p.f0,.slice A1 p.f1.length c1],ii (p.f0 - r)] (by rfl) rfl vn ?_
      refine (divided_calls p A1 c1 _ (p.f0 - r) (Kd.F_now HP3d.out) HL1.out HPO.out (by omega) (by omega)).mono ?_
      rintro e w5 ⟨hB5,h⟩
      rcases h with ⟨_,rfl⟩|⟨y,Ay,cy,hy,_⟩
      ·refine ⟨_,rfl,rfl,(below_then HB3d.out (below_size HB3d.out) hB5).mono (by have:=HBB.out;omega),.inl ⟨?_,rfl,below_then HB3d.out (below_size HB3d.out) hB5⟩⟩
       rw [HA.out,HQ.out,HYn.out]
       rfl
      ·rw [HYn.out] at hy;cases hy
    |some y =>
      have HYs:=am hy
      clear hy
      refine start_ (n:=11) (S:=fun w' => w'.cell? ⟨wr.heap.size,0,none⟩ = some (ii p.f0) ∧ w'.cell? ⟨wr.heap.size,1,none⟩ = some (.slice A1 p.f1.length c1)) (ds:=[]) (ab 11 0) kr rfl kr ⟨(blk_cell BX3d.out 0).trans rfl,(blk_cell BX3d.out 1).trans rfl⟩ (fun hHeld => ?_);refine with_tabW R244_8.tab R244_8.bits (fun HT_ HW_ => ?_)
      generalize (w3).drew = wd at HV3d HF3d HP3d BX3d HB3d HVLd hHeld ⊢
      refine qT 0 (some 46) ?_;refine qA 1 (some 47) ?_;refine qT 2 (some 48) ?_;refine qA 3 (some 49) ?_;refine qA 4 (some 50) ?_;refine qA 7 (some 53) ?_;refine qA 8 (some 54) ?_
      refine qE 5 (some 51) fun K hK => ?_
      refine gC Tryz.func253 #[.agg #[ii p.f0,.slice A1 p.f1.length c1],ii (p.f0 - r)] ?_
      refine (divided_calls p A1 c1 _ (p.f0 - r) (Kd.F_now HP3d.out) HL1.out HPO.out (by omega) (by omega)).mono ?_
      rintro e w5 ⟨hB5,h⟩
      rcases h with ⟨hn5,_⟩|⟨y',Ay,cy,hy',rfl,hly,hFy⟩
      ·rw [HYs.out] at hn5;cases hn5
      obtain rfl : y = y':=Option.some.inj (HYs.out.symm.trans hy')
      have HSd:=am (below_size HB3d.out)
      have HB5:=am (below_then HB3d.out HSd.out hB5)
      have HV5:=am (Kd.N_below HV3d.out hB5)
      have HF5:=am (Kd.F_below HF3d.out hB5)
      have BX5:=am (blk_below BX3d.out hB5)
      have HY5:=am (k212_mkF w5 (fun k => wd.heap.size ≤ k) y hly hFy)
      have HS5:=am (below_size hB5)
      clear hB5 hy' hly hFy
      refine ⟨_,rfl,?_⟩
      refine hK.out _ _ ⟨(blk_cell BX5.out 0).trans rfl,(blk_cell BX5.out 1).trans rfl⟩ (fun hHeld => ?_)
      clear hK K
      refine qN (some 51) ?_
      refine qE 6 (some 52) fun K hK => ?_
      refine Kd.N_lit_step k212 (w0:=W) W.heap.size 212 (by rfl) rfl (xs:=[y]) (inner:=[ii y.f0,.slice Ay y.f1.length cy]) (ok:=fun k => L.Not k ∧ some k ≠ v3.ownBlock) (okp:=fun k => wd.heap.size ≤ k) ?run ?rep ?ok ?fr HB5.out (below_size HB5.out) (by simp) ?_
      case run =>
       go_simp
      case rep => exact (Reps.none _ _).snoc HY5.out rfl
      case ok => exact fun k hk => ⟨HN.out k (Nat.le_trans HSd.out hk),fun e => by have:=HVLd.out k e.symm;omega⟩
      case fr => exact ⟨HN.out _ (below_size HB5.out),fun e => by have:=HVLd.out _ e.symm;have:=HS5.out;omega⟩
      intro v6 w6 hn6 hb6 hg6 hat6
      obtain ⟨A6,c6,rfl⟩:=Kd.N_slice hn6
      have hb56 : Below w5.heap.size w5 w6:=⟨hg6.os,hg6.tape,hg6.output,hg6.size,fun k hk => hg6.block k hk (by simp)⟩
      have HV6:=am (Kd.N_elder' HV5.out (u:=.slice A6 [y].length c6) (fun k hk => by obtain ⟨b,h1,h2⟩:=hat6;rw [h1] at hk;injection hk with hk;omega) hb56)
      have HF6:=am (Kd.F_elder' HF5.out (fun k hk => by obtain ⟨b,h1,h2⟩:=hat6;rw [h1] at hk;injection hk with hk;omega) hb56)
      have BX6:=am (blk_below BX5.out hb56)
      have HN6:=am hn6
      have HB6:=am hb6
      have HS6:=am (below_size hb56)
      have NE6:=am (show some wr.heap.size ≠ (Value.slice A6 [y].length c6).ownBlock from fun e => by obtain ⟨b,h1,h2⟩:=hat6;rw [h1] at e;injection e with e;have:=blk_lt BX5.out;omega)
      clear hn6 hb6 hg6 hat6 hb56
      refine hK.out _ _ ⟨(blk_cell BX6.out 0).trans rfl,(blk_cell BX6.out 1).trans rfl⟩ (fun hHeld => ?_)
      clear hK K
      refine qN (some 52) ?_
      refine qE 9 (some 55) fun K hK => ?_
      refine Kd.N_append_rows_step k212 (w0:=W) W.heap.size (by rfl) (.tmp 52) (.tmp 54) 131 212 (.agg #[ii 0,.slice none 0 0]) 32 rfl Tryz.underlying131 info212 rfl (by decide) (by decide) (.slice A6 [y].length c6) [y] tl A4 tl.length (c - 1) (fun k => L.Not k ∧ some k ≠ v3.ownBlock) (fun k => (L.Not k ∧ some k ≠ v3.ownBlock) ∧ some k ≠ (Value.slice A6 [y].length c6).ownBlock) rfl rfl HN6.out HF6.out (fun k hk => hk) ?aF HB6.out (below_size HB6.out) ?aL ?_
      case aF => exact fun k hk => ⟨HN.out k (Nat.le_trans (below_size HB6.out) hk),fun e => by have:=HVLd.out k e.symm;have:=HS5.out;have:=HS6.out;omega⟩
      case aL => have:=HI.out.2.2.2;have:=HTL.out;simp only [List.length_singleton];omega
      intro v9 w9 ho hb hg hat
      obtain ⟨A9,c9,rfl⟩:=Kd.N_slice ho
      have BX9:=am (blk_grown BX6.out hg NE6.out)
      have HV9:=am (Kd.N_drop (Kd.N_grown HV6.out hg (fun k hk => hk.2)))
      have HN9:=am ho
      have HB9:=am hb
      clear ho hb hg hat
      refine hK.out _ _ ⟨(blk_cell BX9.out 0).trans rfl,(blk_cell BX9.out 1).trans rfl⟩ (fun hHeld => ?_)
      clear hK K
      refine qN (some 55) ?_
      refine qA 10 (some 7) ?_
      refine done_ (done_of HT_.out kr) ?_
      have HD9:=am (dividedP_ok HPO.out (n:=p.f0 - r) (by omega) (by omega) HYs.out)
      go_wp2
      go_roundw
      case rel =>
       refine ⟨a ++ [q],y :: tl,0,A9,c9,v3,rfl,rfl,HV3v.out.symm,⟨(Kd.N_reads' HN9.out).2.1⟩,⟨by omega,?_,by have:=HI.out.2.2;simp only [List.length_append,List.length_singleton];omega,by have:=HI.out.2.2.2;have:=HTL.out;simp only [List.length_cons];omega⟩,⟨?_⟩,HB9,HV9,⟨Kd.N_F HN9.out⟩,⟨?_⟩⟩
       ·have:=HD9.out.2.1
        have h2:=held_ge HPt.out
        show 0 ≤ y.f0 + heldP tl
        omega
       ·intro z hz
        rcases List.mem_cons.1 hz with rfl|hz
        ·exact HD9.out.1
        ·exact HPt.out z hz
       ·rw [HA.out,HQ.out,HYs.out,aheadP_zero]
        simp
      case measure => simp [intOf];omega
  ·have hr0 : r = 0:=by have:=HI.out.1;omega
   subst hr0
   have hYr:=HY.out.move HB.out
   obtain ⟨A0,c0,k1,k2,k3,k4⟩:=hYr.pit_at h0 h1
   have hcg : wr.cell? ⟨L.g,1,none⟩ = some (.slice (some ad) Y.rooms.length Y.rooms.length):=(blk_cell hYr.blk 1).trans (by rw [HAD.out];rfl)
   have hc' : wr.cell? (ad.add i.toNat) = some (.slice A0 (pitP Y i).length c0):=by rw [HAD.out,add_plain];exact k1
   have hf' : wr.frozen? (ad.add i.toNat) = false:=by rw [HAD.out,add_plain];exact k4
   have HYr:=am hYr
   clear hYr k1 k2 k3 k4
   go_wp2
   go_ret
   have hA:=HA.out
   rw [aheadP_zero] at hA
   have hFr : Kd.F k212 wr L.Not A rest.length rest:=Kd.F_mono HF.out (fun k hk => hk.1)
   obtain ⟨s1,s2,s3⟩:=HYr.out.set_pit h0 h1 HLE.out hFr
   have e : ad.add i.toNat = ⟨L.gp,i.toNat,none⟩:=by rw [HAD.out,add_plain]
   rw [e]
   have hb0 : base ≤ W.heap.size:=by have:=HBB.out;omega
   refine ⟨(HB.out.mono hb0).trans s3,.inr ⟨a,rest,Av,cv,by rw [hA];simp,rfl,(Kd.N_reads' HV.out).2.1,s1,(Fr.of_below L HB.out).trans s2,?_⟩⟩
   exact Foot_fr (Kd.N_F HV.out) s2
theorem parts_calls (A : Option Addr) (c : Nat) (n : Nat) (w : World) : Calls Tryz.prog 170 #[.slice A n c] w fun e w' => e = .returned (.func (.func 213) #[] #[.pointer (some ⟨w.heap.size,0,none⟩)]) ∧ w' = w.alloc (.cells #[.slice A n c] 131):=by
 have hmf : ∀ (fn : Fn) (first cap : Array Value) (w : World),(Instr.makeFunc fn first cap).run Tryz.prog w = .ok (.func fn first cap) w:=fun _ _ _ _ => rfl
 go_enter Tryz.func170,Tryz.ntmps170
 go_wp2
 go_ret
 exact ⟨rfl,rfl⟩
theorem partsP_take (l : List S212) (j : Nat) (h : j < l.length) : partsP l = partsP (l.take j) ++ ((rd_T212 l (j : Int)).f1 ++ partsP (l.drop (j + 1))):=by
 have e : rd_T212 l (j : Int) = l[j]:=by unfold rd_T212;rw [Int.toNat_natCast,List.getD_eq_getElem?_getD,List.getElem?_eq_getElem h];rfl
 rw [e]
 conv => lhs;rw [← List.take_append_drop j l]
 rw [partsP_append,List.drop_eq_getElem_cons h]
 rfl
theorem partsP_snoc (l : List S212) (j : Nat) (h : j < l.length) : partsP (l.take (j + 1)) = partsP (l.take j) ++ (rd_T212 l (j : Int)).f1:=by
 have e : rd_T212 l (j : Int) = l[j]:=by unfold rd_T212;rw [Int.toNat_natCast,List.getD_eq_getElem?_getD,List.getElem?_eq_getElem h];rfl
 rw [List.take_succ_eq_append_getElem h,partsP_append,e]
 simp [partsP]
set_option maxRecDepth 100000 in
set_option maxHeartbeats 4000000 in
theorem parts1_in (n : Nat) (hn : 1 ≤ n) (rl : Nat) (A : Option Addr) (c : Nat) (l : List S212) (Bl : Nat) (St : List S89 → World → Prop) (Bad : Ending → World → Prop) (hbad : ∀ e W,Bad e W → ∃ ch,e = .panicked ch)
  (W0 : World) (hF : Kd.C k212 W0 A l.length l) (hK : ∀ pre W,St pre W → Below W0.heap.size W0 W) (hM : ∀ pre W W',St pre W → Below W.heap.size W W' → St pre W')
  (hY : ∀ pre x suf W,partsP l = pre ++ x :: suf → St pre W → YieldAt Fence.wide (n - 1) Tryz.prog rl #[.agg #[ii x.f0,ii x.f1.f0,ii x.f1.f1]] W fun e W' => (e = .returned (.bool true) ∧ St (pre ++ [x]) W') ∨ Bad e W')
  (W : World) (hS : St [] W) (hB : W.heap[Bl]? = some (.cells #[.slice A l.length c] 131 (0,0))) :
  CallsIn Fence.wide n Tryz.prog 213 #[.func (.yield rl) #[] #[],.pointer (some ⟨Bl,0,none⟩)] W fun e W' => ((∃ v,e = .returned v) ∧ St (partsP l) W') ∨ Bad e W':=by
 have hu212:=Tryz.underlying212
 have hu89:=Tryz.underlying89
 have hu43:=Tryz.underlying43
 have hcm:=bd hB 0
 have hlm:=hF.2.1
 have HS:=am hS
 have HYY:=am hY
 have HF:=am hF
 have HM:=am hM
 have HK:=am hK
 have HBad:=am hbad
 clear hS hB hY hF hM hK hbad
 refine callsIn_of_wp Tryz.func213 rfl trivial ?_ rfl
 simp only [Tryz.ntmps213,List.size_toArray,List.length_cons,List.length_nil,Nat.reduceAdd,Nat.reduceSub,Array.replicate_succ,Array.replicate_zero,List.push_toArray,List.append_toArray,List.nil_append,List.cons_append]
 gi_wp2
 gi_loopw [9] (fun v9 wr => ∃ j : Nat,j ≤ l.length ∧ v9 = ii (j : Int) ∧ Aside0 (St (partsP (l.take j)) wr)) (fun v9 _ => l.length - (intOf v9).toNat)
 case atStart => exact ⟨0,Nat.zero_le _,rfl,⟨by simpa [partsP] using HS.out⟩⟩
 case round =>
  clear HS hcm
  obtain ⟨j,hj,rfl,HS⟩:=hrel
  by_cases hlt : j < l.length
  ·obtain ⟨ae,A1,c1,e,hy0,hy1,hl1,hC1⟩:=at_T212 HF.out (j : Int) (by omega) (by omega)
   cases e
   rw [Int.toNat_natCast] at hy0 hy1
   have hx0:=pw_cell_below (HK.out _ _ HS.out) hy0
   have hx1:=pw_cell_below (HK.out _ _ HS.out) hy1
   clear hy0 hy1
   have HSN:=am (partsP_snoc l j hlt)
   have HPT:=am (partsP_take l j hlt)
   have hlm1:=hC1.2.1
   obtain ⟨p,hp⟩ : ∃ p,p = rd_T212 l (j : Int):=⟨_,rfl⟩
   rw [← hp] at hx0 hx1 HSN HPT hl1 hC1 hlm1
   have HC1:=am hC1
   clear hC1 hl1
   have HPE:=am hp
   clear hp
   gi_wp2
   gi_loopw [16] (fun v16 wi => ∃ i : Nat,i ≤ p.f1.length ∧ v16 = ii (i : Int) ∧ Aside0 (St (partsP (l.take j) ++ p.f1.take i) wi)) (fun v16 _ => p.f1.length - (intOf v16).toNat)
   case atStart => exact ⟨0,Nat.zero_le _,rfl,⟨by simpa using HM.out _ _ _ HS.out (below_alloc (Below.refl _ _) _)⟩⟩
   case round =>
    rename World => wi
    obtain ⟨i,hi,rfl,HSi⟩:=hrel
    by_cases hlti : i < p.f1.length
    ·obtain ⟨af,e,hz0,hz1,hz2⟩:=at_T89 (Kd.C_below HC1.out (HK.out _ _ HSi.out)) (i : Int) (by omega) (by omega)
     cases e
     rw [Int.toNat_natCast] at hz0 hz1 hz2
     have hsp : partsP l = (partsP (l.take j) ++ p.f1.take i) ++ rd_T89 p.f1 (i : Int) :: (p.f1.drop (i + 1) ++ partsP (l.drop (j + 1))):=by
      rw [HPT.out,List.append_assoc]
      congr 1
      conv => lhs;rw [← List.take_append_drop i p.f1]
      rw [drop_rd89 hlti,List.append_assoc]
      rfl
     obtain ⟨fn,tmps,assign,body,hy,hR⟩:=HYY.out (partsP (l.take j) ++ p.f1.take i) (rd_T89 p.f1 (i : Int)) _ (wi.alloc (.cells #[ii (rd_T89 p.f1 (i : Int)).f0,ii (rd_T89 p.f1 (i : Int)).f1.f0,ii (rd_T89 p.f1 (i : Int)).f1.f1] 89)) hsp (HM.out _ _ _ HSi.out (below_alloc (Below.refl _ _) _))
     have HR:=am hR
     have HSX:=am (show p.f1.take (i + 1) = p.f1.take i ++ [rd_T89 p.f1 (i : Int)] by rw [List.take_succ_eq_append_getElem hlti];unfold rd_T89;rw [Int.toNat_natCast,List.getD_eq_getElem?_getD,List.getElem?_eq_getElem hlti];rfl)
     clear hR hsp
     gi_wp2
     refine HR.out.mono ?_
     rintro e W3 (⟨rfl,hs3⟩|hb)
     ·have HS3:=am hs3
      clear hs3 hy
      gi_wp2
      go_roundw
      case rel => exact ⟨i + 1,by omega,by go_num,⟨by rw [HSX.out,← List.append_assoc];exact HS3.out⟩⟩
      case measure => simp [intOf];omega
     ·obtain ⟨ch,rfl⟩:=HBad.out _ _ hb
      have HBx:=am hb
      clear hb hy
      gi_wp2
      exact ⟨rfl,.inr HBx.out⟩
    ·have hii : i = p.f1.length:=by omega
     have HSf:=am (show St (partsP (l.take (j + 1))) wi by have h:=HSi.out;rw [hii,List.take_length] at h;rw [HSN.out];exact h)
     clear hii
     gi_wp2
     go_roundw
     case rel => exact ⟨j + 1,by omega,by go_num,HSf⟩
     case measure => simp [intOf];omega
  ·gi_wp2
   go_end0
   refine .inl ⟨⟨_,rfl⟩,?_⟩
   have h:=HS.out
   rw [List.take_of_length_le (by omega)] at h
   exact h
end Go.Proofs.YtjjfpmapjjemcaaGreat.B
end
