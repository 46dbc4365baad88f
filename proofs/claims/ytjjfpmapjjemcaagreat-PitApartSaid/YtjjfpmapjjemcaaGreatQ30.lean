import Derived.BigFrameIn
import Derived.Test.YtjjfpmapjjemcaaGreatQ12
import Derived.Test.YtjjfpmapjjemcaaGreatQ18
import Derived.Test.YtjjfpmapjjemcaaGreatQ24
import Derived.Test.YtjjfpmapjjemcaaGreatQ25
import Derived.Test.YtjjfpmapjjemcaaGreatQ29
import Derived.Test.YtjjfpmapjjemcaaGreatQ7
import Derived.Test.YtjjfpmapjjemcaaGreatQ9
set_option linter.unusedVariables false
set_option linter.unusedSimpArgs false
section
namespace Go.Proofs.YtjjfpmapjjemcaaGreat.B
open Go.RowKit Go.Proofs.YtjjfpmapjjemcaaGreatW.PrintWords Go.Proofs.YtjjfpmapjjemcaaGreatW.PrintLast Go.Proofs.YtjjfpmapjjemcaaGreatW.PrintMore
attribute [local go_sem] max2_int min2_int max_two min_two max_three min_three max_four min_four
section
theorem partsP_len {pours : List Int} {l : List S212} (h : ∀ p ∈ l,ParcelOk pours p) : (partsP l).length ≤ 60 * l.length:=by
 induction l with
|nil => simp [partsP]
|cons p r ih =>
  have h1:=(h p List.mem_cons_self).len
  have h2:=ih fun q hq => h q (List.mem_cons_of_mem _ hq)
  simp only [partsP,List.length_append,List.length_cons]
  omega
theorem sumAll_append (M : ByPour) (a b : List S89) : sumAll M (a ++ b) = (sumAll M a).bind fun M' => sumAll M' b:=by
 induction a generalizing M with
|nil => rfl
|cons x r ih =>
  simp only [List.cons_append,sumAll]
  split
  ·exact ih _
  ·rfl
theorem sumAll_one_ok {M : ByPour} {x : S89} (h : fineP (addP ((M x.f0).getD (wholeP 0)) x.f1) = true) : sumAll M [x] = some (putBy M x.f0 (addP ((M x.f0).getD (wholeP 0)) x.f1)):=by
 simp only [sumAll];rw [if_pos h]
theorem sumAll_one_no {M : ByPour} {x : S89} (h : fineP (addP ((M x.f0).getD (wholeP 0)) x.f1) = false) : sumAll M [x] = none:=by
 simp only [sumAll];rw [if_neg (by rw [h];simp)]
theorem fineP_of' {M : ByPour} (h : MOk M) {i : Int} {r : S43} (hr : M i = some r) : Rok r ∧ r.f0 ≤ 68719476736 ∧ r.f1 ≤ 16777216:=by
 obtain ⟨h1,h2,h3⟩:=fineP_of (h i r hr).1
 exact ⟨h1,h2,by omega⟩
def SumSt (w0 : World) (D : Nat) (rec : Loop) (pre : List S89) (W : World) : Prop :=
 ∃ M,sumAll (fun _ => none) pre = some M ∧ MapIs Tryz.prog 3 ekI ev43 W w0.heap.size pre.length M ∧ W.heap[w0.heap.size + 1]? = some (.cells #[.map (some w0.heap.size)] 352 (0,0)) ∧ W.heap[D + 1]? = some (.loop rec) ∧ W.heap[D]? = some (.deferred (some [])) ∧ Below w0.heap.size w0 W
def SumPost (W : World) (pours : List Int) (l : List S212) (e : Ending) (W' : World) : Prop :=
 Below W.heap.size W W' ∧ ((summedP pours l = none ∧ e = Pan 3) ∨ ∃ ps A c,summedP pours l = some ps ∧ e = .returned (.slice A ps.length c) ∧ ps.length ≤ c ∧ Kd.F k89 W' (fun k => W.heap.size ≤ k) A ps.length ps)
theorem partIds {Y : Yd} {l : List S212} (hP : ∀ p ∈ l,ParcelOk Y.pours p) {x : S89} (hx : x ∈ partsP l) : PartOk Y.pours x:=(parts_ok hP).1 x hx
attribute [local go_sem] Oper.semAt_some
set_option maxRecDepth 100000 in
set_option maxHeartbeats 8000000 in
theorem summed_in (n : Nat) (hn : 3 ≤ n) {W : World} {base m : Nat} {L : Loc} {Y : Yd} (hY : YardAt W base L Y) (hpid : ∀ i ∈ Y.pours,1 ≤ i ∧ i ≤ 1099511627776) (hnp : Y.pours.length ≤ m) (hm : m ≤ 60) (A : Option Addr) (c : Nat) (l : List S212) (hP : ∀ p ∈ l,ParcelOk Y.pours p) (hl : l.length ≤ 4096) (hC : Kd.C k212 W A l.length l) (hc : l.length ≤ c) :
  CallsIn Fence.wide n Tryz.prog 245 #[.pointer (some ⟨L.g,0,none⟩),.slice A l.length c] W fun e W' => SumPost W Y.pours l e W':=by
 have hmm:=@run_makeMap Tryz.prog
 have hu43:=Tryz.underlying43
 have hu89:=Tryz.underlying89
 have h1 : 1 ≤ n:=by omega
 refine callsIn_of_wpAt_marks Tryz.func245 rfl trivial ?_ rfl
 simp only [Tryz.ntmps245,List.size_toArray,List.length_cons,List.length_nil,Nat.reduceAdd,Nat.reduceSub,Array.replicate_succ,Array.replicate_zero,List.push_toArray,List.append_toArray,List.nil_append,List.cons_append]
 refine wpAt_seqL ?_
 gi_wp2
 refine wpAt_seqL ?_
 gi_wp2
 refine wpAt_seqR (wpAt_seqL ?_)
 gi_wp2_with fail
 refine ⟨trivial,(callsIn_wide.2 (parts_calls A c l.length _)).mono ?_⟩
 rintro e w' ⟨rfl,rfl⟩
 gi_wp2
 refine wpAt_block ?_
 have HBt:=am (blk_alloc (blk_new' (W.alloc (.map #[] 0)) (.cells #[.map (some W.heap.size)] 352) (W.heap.size + 1) (by simp)) (.cells #[.slice A l.length c] 131))
 have HBl:=am (blk_new' ((W.alloc (.map #[] 0)).alloc (.cells #[.map (some W.heap.size)] 352)) (.cells #[.slice A l.length c] 131) (W.heap.size + 1 + 1) (by simp))
 have HBm:=am (((MapIs.made W Tryz.prog 3 ekI ev43).alloc (.cells #[.map (some W.heap.size)] 352)).alloc (.cells #[.slice A l.length c] 131))
 have HB3:=am (below_alloc (below_alloc (below_alloc (Below.refl W.heap.size W) (.map #[] 0)) (.cells #[.map (some W.heap.size)] 352)) (.cells #[.slice A l.length c] 131))
 have HSZ:=am (show (((W.alloc (.map #[] 0)).alloc (.cells #[.map (some W.heap.size)] 352)).alloc (.cells #[.slice A l.length c] 131)).heap.size = W.heap.size + 3 by simp)
 generalize ((W.alloc (.map #[] 0)).alloc (.cells #[.map (some W.heap.size)] 352)).alloc (.cells #[.slice A l.length c] 131) = W3 at HBt HBl HBm HB3 HSZ ⊢
 have HP:=am hP
 have HC:=am hC
 have HL:=am (Nat.le_trans (partsP_len hP) (show 60 * l.length ≤ 245760 by omega))
 have HPA:=am (fun x (hx : x ∈ partsP l) => partIds (Y:=Y) hP hx)
 have HY:=am hY
 have HPI:=am hpid
 have HNP:=am hnp
 clear hP hC hY hpid hnp
 refine wpAt_range rfl h1 (gf:=213) (lb:=#[.pointer (some ⟨W.heap.size + 1 + 1,0,none⟩)]) rfl trivial (enters_of Tryz.func213 kr rfl) ?_
 intro rec hrec
 refine (parts1_in (n - 1) (by omega) (W3.heap.size + 1) A c l (W.heap.size + 1 + 1) (SumSt W W3.heap.size rec) (fun e W' => e = Pan 3 ∧ summedP Y.pours l = none ∧ Below W.heap.size W W' ∧ W'.heap[W3.heap.size]? = some (.deferred (some []))) (fun e W' h => ⟨_,h.1⟩) W HC.out (fun pre W' h => by obtain ⟨_,_,_,_,_,_,h⟩:=h;exact h) ?hM ?hY _ ?hS ?hB).mono ?fin
 case hM =>
  rintro pre W1 W2 ⟨M,b1,b2,b3,b4,b5,b6⟩ hb
  exact ⟨M,b1,b2.below hb b2.lt,blk_below b3 hb,blk_below b4 hb,blk_below b5 hb,below_then b6 (below_size b6) hb⟩
 case hS => exact ⟨fun _ => none,rfl,(HBm.out.alloc _).alloc _,blk_alloc (blk_alloc HBt.out _) _,blk_new' (W3.alloc (.deferred (some []))) _ (W3.heap.size + 1) (by simp),blk_alloc (blk_new W3 _) _,below_alloc (below_alloc HB3.out _) _⟩
 case hB => exact blk_alloc (blk_alloc HBl.out _) _
 case hY =>
  subst hrec
  rintro pre x suf Wy hsp ⟨M,b1,b2,b3,b4,b5,b6⟩
  have hpl : pre.length < 245760:=by
   have h1:=HL.out
   rw [hsp,List.length_append,List.length_cons] at h1
   omega
  have hxm : x ∈ partsP l:=by rw [hsp];simp
  have hxo:=HPA.out x hxm
  have hxr:=HPI.out x.f0 hxo.2.2
  refine ⟨_,_,_,_,run_yield b4 rfl,roundInP_of_wpIn trivial Tryz.func245 ?_⟩
  dsimp only
  gi_wp2
  refine ⟨_,run_beginRound (blk_alloc b4 _) rfl,?_⟩
  have hsz:=HSZ.out
  have hl4:=blk_lt b4
  have q0 : ∀ ob b,b ≠ W3.heap.size + 1 → b < Wy.heap.size → ((Wy.alloc (.cells #[ii x.f0,ii x.f1.f0,ii x.f1.f1] 89)).putObj (W3.heap.size + 1) ob).heap[b]? = Wy.heap[b]?:=fun ob b h hlt => (World.putObj_heap_other h).trans (Below.heap_alloc Wy _ b hlt)
  have q1 : ∀ ob,((Wy.alloc (.cells #[ii x.f0,ii x.f1.f0,ii x.f1.f1] 89)).putObj (W3.heap.size + 1) ob).heap[Wy.heap.size]? = some (.cells #[ii x.f0,ii x.f1.f0,ii x.f1.f1] 89 (0,0)):=fun ob => (World.putObj_heap_other (by omega)).trans (blk_new Wy _)
  have q2 : ∀ ob,((Wy.alloc (.cells #[ii x.f0,ii x.f1.f0,ii x.f1.f1] 89)).putObj (W3.heap.size + 1) ob).heap[W3.heap.size + 1]? = some ob:=fun ob => World.putObj_heap_same (by simp;omega)
  have q3 : ∀ ob,((Wy.alloc (.cells #[ii x.f0,ii x.f1.f0,ii x.f1.f1] 89)).putObj (W3.heap.size + 1) ob).heap.size = Wy.heap.size + 1:=fun ob => by simp
  have q4 : ∀ ob,Below W.heap.size Wy ((Wy.alloc (.cells #[ii x.f0,ii x.f1.f0,ii x.f1.f1] 89)).putObj (W3.heap.size + 1) ob):=fun ob => ((Below.refl _ Wy).alloc b6.size _).grown (grownBy_putObj' _ _ _) (by have:=b6.size;simp;omega) (fun k e_ => by cases e_;omega)
  generalize hWb : (Wy.alloc (.cells #[ii x.f0,ii x.f1.f0,ii x.f1.f1] 89)).putObj (W3.heap.size + 1) _ = Wb
  have r0 : ∀ b,b ≠ W3.heap.size + 1 → b < Wy.heap.size → Wb.heap[b]? = Wy.heap[b]?:=by rw [← hWb];exact q0 _
  have r1 : Wb.heap[Wy.heap.size]? = some (.cells #[ii x.f0,ii x.f1.f0,ii x.f1.f1] 89 (0,0)):=by rw [← hWb];exact q1 _
  have r4 : Below W.heap.size Wy Wb:=by rw [← hWb];exact q4 _
  have r2:=hWb ▸ q2 (.loop _)
  have t1 : MapIs Tryz.prog 3 ekI ev43 Wb W.heap.size pre.length M:=b2.keep (r0 _ (by omega) b2.lt)
  have t2 : Wb.heap[W.heap.size + 1]? = some (.cells #[.map (some W.heap.size)] 352 (0,0)):=(r0 _ (by omega) (blk_lt b3)).trans b3
  have t3 : Wb.heap[W3.heap.size]? = some (.deferred (some [])):=(r0 _ (by omega) (blk_lt b5)).trans b5
  have t4 : Below W.heap.size W Wb:=b6.trans r4
  clear q0 q1 q2 q3 q4 hWb r0 r4 b2 b3 b4 b5 b6 hl4 hxm
  have u0:=bd t2 0
  have u1:=bd r1 0
  have HKEY:=am (keyI x.f0 (by omega) (by omega))
  have T1:=am t1
  have T2:=am t2
  have T3:=am t3
  have T4:=am t4
  have R1:=am r1
  have R2:=am r2
  have HXO:=am hxo
  have HS1:=am b1
  have HSF:=am ((sumAll_spec Y.pours pre _ M (fun id r hr => by cases hr) (fun y hy => HPA.out y (by rw [hsp];exact List.mem_append_left _ hy)) b1).1)
  have HSP:=am hsp
  have HPL:=am hpl
  have HSZ':=am hsz
  clear t1 t2 t3 t4 r1 r2 hxo b1 hsp hpl hsz hxr
  have nx : Wy.heap.size ≠ Wb.heap.size:=by have:=blk_lt R1.out;omega
  have nt : W.heap.size + 1 ≠ Wb.heap.size:=by have:=blk_lt T2.out;omega
  have nd : W3.heap.size ≠ Wb.heap.size:=by have:=blk_lt T3.out;omega
  have nl : W3.heap.size + 1 ≠ Wb.heap.size:=by have:=blk_lt R2.out;omega
  have nm : W.heap.size ≠ Wb.heap.size:=by have:=T1.out.lt;omega
  have nb : W.heap.size ≤ Wb.heap.size:=T4.out.size
  have HFX:=am (fineP_of HXO.out.1)
  cases hM : M x.f0 with
 |none =>
   have HM0:=am hM
   clear hM
   gi_wp2_with (refine wpListIn_lookup_map _ rfl _ _ 352 true rfl 3 43 law3 Tryz.underlying352 _ (zero43 _) ekI ev43 W.heap.size pre.length M rfl T1.out x.f0 _ rfl HKEY.out (.tuple #[.agg #[ii 0,ii 0],.bool false]) (by rw [HM0.out];rfl) ?_)
   refine ⟨trivial,(fun h => by cases h),(CallsIn.inRound _ (callsIn_wide.2 (pit_whole.calls 0 0 1 _ rfl))).mono ?_⟩
   rintro e W4 ⟨rfl,hd⟩
   have b1:=(T1.out.alloc (.cells #[ii 0,ii 0] 43)).below hd (T1.out.alloc _).lt
   have b2:=blk_below (blk_alloc T2.out (.cells #[ii 0,ii 0] 43)) hd
   have b3:=blk_below (blk_alloc T3.out (.cells #[ii 0,ii 0] 43)) hd
   have b4:=below_then (below_alloc T4.out (.cells #[ii 0,ii 0] 43)) (below_size (below_alloc T4.out _)) hd
   have bx:=blk_below (blk_alloc R1.out (.cells #[ii 0,ii 0] 43)) hd
   have bl:=blk_below (blk_alloc R2.out (.cells #[ii 0,ii 0] 43)) hd
   have bn:=blk_below (blk_new Wb (.cells #[ii 0,ii 0] 43)) hd
   have g0:=bd bn 0
   have g1:=bd bn 1
   have g2:=blk_frozen bn 0
   have g3:=blk_frozen bn 1
   have cn:=blk_put (cs':=#[ii 0,ii 1]) (blk_put (cs':=#[ii 0,ii 0]) bn 0 (ii 0) rfl) 1 (ii 1) rfl
   have c1:=(b1.keep (w':=(W4.setCell ⟨Wb.heap.size,0,none⟩ (ii 0)).setCell ⟨Wb.heap.size,1,none⟩ (ii 1)) ((Below.heap_setCell _ _ _ _ nm).trans (Below.heap_setCell _ _ _ _ nm)))
   have c2:=blk_far (blk_far b2 (p:=⟨Wb.heap.size,0,none⟩) nt (ii 0)) (p:=⟨Wb.heap.size,1,none⟩) nt (ii 1)
   have c3 : ((W4.setCell ⟨Wb.heap.size,0,none⟩ (ii 0)).setCell ⟨Wb.heap.size,1,none⟩ (ii 1)).heap[W3.heap.size]? = some (.deferred (some [])):=((Below.heap_setCell _ _ _ _ nd).trans (Below.heap_setCell _ _ _ _ nd)).trans b3
   have c4:=(b4.setCell (p:=⟨Wb.heap.size,0,none⟩) nb (ii 0)).setCell (p:=⟨Wb.heap.size,1,none⟩) nb (ii 1)
   have cx:=blk_far (blk_far bx (p:=⟨Wb.heap.size,0,none⟩) nx (ii 0)) (p:=⟨Wb.heap.size,1,none⟩) nx (ii 1)
   have cl:=((Below.heap_setCell (W4.setCell ⟨Wb.heap.size,0,none⟩ (ii 0)) ⟨Wb.heap.size,1,none⟩ (ii 1) _ nl).trans (Below.heap_setCell W4 ⟨Wb.heap.size,0,none⟩ (ii 0) _ nl)).trans bl
   have m0:=bd cn 0
   have m1:=bd cn 1
   have m2:=bd cx 0
   have m3:=bd cx 1
   have m4:=bd cx 2
   clear hd b1 b2 b3 b4 bx bl bn u0 u1
   have HCU:=am (show Rok (wholeP 0) ∧ (wholeP 0).f0 ≤ 68719476736 ∧ (wholeP 0).f1 ≤ 16777216 from ⟨wholeP_ok (Int.le_refl _),by decide,by decide⟩)
   have C1:=am c1;have C2:=am c2;have C3:=am c3;have C4:=am c4;have CX:=am cx;have CL:=am cl;have CN:=am cn
   clear c1 c2 c3 c4 cx cl cn
   have HADD:=am (add_some (a:=wholeP 0) (b:=x.f1) HCU.out.1 HFX.out.1 HCU.out.2.1 HCU.out.2.2 HFX.out.2.1 (by have:=HFX.out.2.2;omega))
   obtain ⟨z,hz⟩ : ∃ z,z = addP (wholeP 0) x.f1:=⟨_,rfl⟩
   rw [← hz] at HADD
   have HZ:=am hz
   clear hz
   gi_wp2_with fail
   have c1:=C1.out;have c2:=C2.out;have c3:=C3.out;have c4:=C4.out;have cx:=CX.out;have cl:=CL.out;have cn:=CN.out;clear C1 C2 C3 C4 CX CL CN g0 g1 g2 g3
   generalize (W4.setCell ⟨Wb.heap.size,0,none⟩ (ii 0)).setCell ⟨Wb.heap.size,1,none⟩ (ii 1) = Wc at c1 c2 c3 c4 cx cl cn m0 m1 m2 m3 m4 ⊢
   refine ⟨trivial,(fun h => by cases h),(CallsIn.inRound _ (callsIn_wide.2 (pit_add.calls FU _ _ _ _ _ _ _ HADD.out))).mono ?_⟩
   rintro e W5 ⟨rfl,hd⟩
   have d1:=c1.below hd c1.lt
   have d2:=blk_below c2 hd
   have d3:=blk_below c3 hd
   have d4:=below_then c4 (below_size c4) hd
   have dx:=blk_below cx hd
   have dl:=blk_below cl hd
   have dn:=blk_below cn hd
   clear hd c1 c2 c3 c4 cx cl cn m0 m1 m2 m3 m4
   have n1:=nx
   have n2:=nt
   have n3:=nd
   have n4:=nl
   have n5:=nm
   have en:=blk_put (cs':=#[ii z.f0,ii z.f1]) (blk_put (cs':=#[ii z.f0,ii 1]) dn 0 (ii z.f0) rfl) 1 (ii z.f1) rfl
   have e1:=(d1.keep (w':=(W5.setCell ⟨Wb.heap.size,0,none⟩ (ii z.f0)).setCell ⟨Wb.heap.size,1,none⟩ (ii z.f1)) ((Below.heap_setCell _ _ _ _ n5).trans (Below.heap_setCell _ _ _ _ n5)))
   have e2:=blk_far (blk_far d2 (p:=⟨Wb.heap.size,0,none⟩) n2 (ii z.f0)) (p:=⟨Wb.heap.size,1,none⟩) n2 (ii z.f1)
   have e3 : ((W5.setCell ⟨Wb.heap.size,0,none⟩ (ii z.f0)).setCell ⟨Wb.heap.size,1,none⟩ (ii z.f1)).heap[W3.heap.size]? = some (.deferred (some [])):=((Below.heap_setCell _ _ _ _ n3).trans (Below.heap_setCell _ _ _ _ n3)).trans d3
   have e4:=(d4.setCell (p:=⟨Wb.heap.size,0,none⟩) nb (ii z.f0)).setCell (p:=⟨Wb.heap.size,1,none⟩) nb (ii z.f1)
   have ex:=blk_far (blk_far dx (p:=⟨Wb.heap.size,0,none⟩) n1 (ii z.f0)) (p:=⟨Wb.heap.size,1,none⟩) n1 (ii z.f1)
   have el:=((Below.heap_setCell (W5.setCell ⟨Wb.heap.size,0,none⟩ (ii z.f0)) ⟨Wb.heap.size,1,none⟩ (ii z.f1) _ n4).trans (Below.heap_setCell W5 ⟨Wb.heap.size,0,none⟩ (ii z.f0) _ n4)).trans dl
   have g0:=bd dn 0
   have g1:=bd dn 1
   have g2:=blk_frozen dn 0
   have g3:=blk_frozen dn 1
   have g4:=bd en 0
   have g5:=bd en 1
   have E1:=am e1
   have E2:=am e2
   have E3:=am e3
   have E4:=am e4
   have EX:=am ex
   have EL:=am el
   have EN:=am en
   clear d1 d2 d3 d4 dx dl dn e1 e2 e3 e4 ex el en n1 n2 n3 n4 n5
   cases hfn : fineP z with
  |false =>
    have HFn:=am hfn
    clear hfn
    gi_wp2_with fail
    generalize (W5.setCell ⟨Wb.heap.size,0,none⟩ (ii z.f0)).setCell ⟨Wb.heap.size,1,none⟩ (ii z.f1) = W6 at E1 E2 E3 E4 EX EL EN ⊢
    refine ⟨trivial,(fun h => by cases h),(CallsIn.inRound _ (callsIn_wide.2 (fine_calls z _))).mono ?_⟩
    rintro e W7 ⟨rfl,hd⟩
    rw [HFn.out]
    have F3:=am (blk_below E3.out hd)
    have F4:=am (below_then E4.out (below_size E4.out) hd)
    clear hd g0 g1 g2 g3
    gi_wp2
    refine ⟨rfl,.inr ⟨rfl,?_,F4.out,F3.out⟩⟩
    unfold summedP
    rw [HSP.out,show pre ++ x :: suf = pre ++ ([x] ++ suf) from rfl,sumAll_append,HS1.out]
    simp only [Option.bind_some]
    rw [sumAll_append,sumAll_one_no (by rw [HM0.out,Option.getD_none,← HZ.out];exact HFn.out)]
    rfl
  |true =>
    have HFn:=am hfn
    clear hfn
    gi_wp2_with fail
    generalize (W5.setCell ⟨Wb.heap.size,0,none⟩ (ii z.f0)).setCell ⟨Wb.heap.size,1,none⟩ (ii z.f1) = W6 at E1 E2 E3 E4 EX EL EN ⊢
    refine ⟨trivial,(fun h => by cases h),(CallsIn.inRound _ (callsIn_wide.2 (fine_calls z _))).mono ?_⟩
    rintro e W7 ⟨rfl,hd⟩
    rw [HFn.out]
    have F1:=am (E1.out.below hd E1.out.lt)
    have F2:=am (blk_below E2.out hd)
    have F3:=am (blk_below E3.out hd)
    have F4:=am (below_then E4.out (below_size E4.out) hd)
    have FL:=am (blk_below EL.out hd)
    have fx:=blk_below EX.out hd
    have fn:=blk_below EN.out hd
    have k0:=bd F2.out 0
    have k1:=bd fx 0
    have k2:=bd fn 0
    have k3:=bd fn 1
    have hnn : pre.length < maxLen:=by unfold maxLen;have:=HPL.out;omega
    have HNN:=am hnn
    clear hd g0 g1 g2 g3 fx fn hnn
    gi_wp2_with (refine wpListIn_update_map _ rfl _ _ _ 352 rfl 3 43 law3 Tryz.underlying352 ekI ev43 W.heap.size pre.length M rfl F1.out HNN.out x.f0 z _ rfl rfl HKEY.out (fun _ => ekI_inj) ?_;intro W8 hm8 hg8;have M8:=am hm8;have G8:=am hg8;clear hm8 hg8)
    have hz1:=HSZ'.out
    have hml:=F1.out.lt
    have wl : W8.heap[W3.heap.size + 1]? = _:=(G8.out.block (W3.heap.size + 1) (blk_lt FL.out) (by simp;omega)).trans FL.out
    refine ⟨_,_,run_endRound none wl,.inl ⟨rfl,putBy M x.f0 z,?_,?_,?_,?_,?_,?_⟩⟩
    ·rw [sumAll_append,HS1.out]
     simp only [Option.bind_some]
     rw [sumAll_one_ok (by rw [HM0.out,Option.getD_none,← HZ.out];exact HFn.out),HM0.out,Option.getD_none,← HZ.out]
    ·rw [List.length_append,List.length_singleton]
     exact M8.out.keep (World.putObj_heap_other (by omega))
    ·exact (World.putObj_heap_other (by omega)).trans ((G8.out.block (W.heap.size + 1) (blk_lt F2.out) (by simp)).trans F2.out)
    ·exact World.putObj_heap_same (blk_lt wl)
    ·exact (World.putObj_heap_other (by omega)).trans ((G8.out.block W3.heap.size (blk_lt F3.out) (by simp;omega)).trans F3.out)
    ·exact (F4.out.grown G8.out (below_size F4.out) (fun k hk => by cases hk;exact Nat.le_refl _)).grown (grownBy_putObj' _ _ _) (by have:=F4.out.size;have:=G8.out.size;omega) (fun k e_ => by cases e_;omega)
 |some r0 =>
   have HM0:=am hM
   clear hM
   have c1:=T1.out.alloc (.cells #[ii r0.f0,ii r0.f1] 43)
   have c2:=blk_alloc T2.out (.cells #[ii r0.f0,ii r0.f1] 43)
   have c3:=blk_alloc T3.out (.cells #[ii r0.f0,ii r0.f1] 43)
   have c4:=below_alloc T4.out (.cells #[ii r0.f0,ii r0.f1] 43)
   have cx:=blk_alloc R1.out (.cells #[ii r0.f0,ii r0.f1] 43)
   have cl:=blk_alloc R2.out (.cells #[ii r0.f0,ii r0.f1] 43)
   have cn:=blk_new Wb (.cells #[ii r0.f0,ii r0.f1] 43)
   have m0:=bd cx 1
   have m1:=bd cx 2
   have m2 : True:=trivial
   have m3 : True:=trivial
   have m4 : True:=trivial
   have HCU:=am (fineP_of' HSF.out HM0.out)
   have C1:=am c1;have C2:=am c2;have C3:=am c3;have C4:=am c4;have CX:=am cx;have CL:=am cl;have CN:=am cn
   clear c1 c2 c3 c4 cx cl cn
   have HADD:=am (add_some (a:=r0) (b:=x.f1) HCU.out.1 HFX.out.1 HCU.out.2.1 HCU.out.2.2 HFX.out.2.1 (by have:=HFX.out.2.2;omega))
   obtain ⟨z,hz⟩ : ∃ z,z = addP (r0) x.f1:=⟨_,rfl⟩
   rw [← hz] at HADD
   have HZ:=am hz
   clear hz
   gi_wp2_with (refine wpListIn_lookup_map _ rfl _ _ 352 true rfl 3 43 law3 Tryz.underlying352 _ (zero43 _) ekI ev43 W.heap.size pre.length M rfl T1.out x.f0 _ rfl HKEY.out (.tuple #[.agg #[ii r0.f0,ii r0.f1],.bool true]) (by rw [HM0.out];rfl) ?_)
   have c1:=C1.out;have c2:=C2.out;have c3:=C3.out;have c4:=C4.out;have cx:=CX.out;have cl:=CL.out;have cn:=CN.out;clear C1 C2 C3 C4 CX CL CN u0 u1
   generalize Wb.alloc (.cells #[ii r0.f0,ii r0.f1] 43) = Wc at c1 c2 c3 c4 cx cl cn m0 m1 m2 m3 m4 ⊢
   refine ⟨trivial,(fun h => by cases h),(CallsIn.inRound _ (callsIn_wide.2 (pit_add.calls FU _ _ _ _ _ _ _ HADD.out))).mono ?_⟩
   rintro e W5 ⟨rfl,hd⟩
   have d1:=c1.below hd c1.lt
   have d2:=blk_below c2 hd
   have d3:=blk_below c3 hd
   have d4:=below_then c4 (below_size c4) hd
   have dx:=blk_below cx hd
   have dl:=blk_below cl hd
   have dn:=blk_below cn hd
   clear hd c1 c2 c3 c4 cx cl cn m0 m1 m2 m3 m4
   have n1:=nx
   have n2:=nt
   have n3:=nd
   have n4:=nl
   have n5:=nm
   have en:=blk_put (cs':=#[ii z.f0,ii z.f1]) (blk_put (cs':=#[ii z.f0,ii r0.f1]) dn 0 (ii z.f0) rfl) 1 (ii z.f1) rfl
   have e1:=(d1.keep (w':=(W5.setCell ⟨Wb.heap.size,0,none⟩ (ii z.f0)).setCell ⟨Wb.heap.size,1,none⟩ (ii z.f1)) ((Below.heap_setCell _ _ _ _ n5).trans (Below.heap_setCell _ _ _ _ n5)))
   have e2:=blk_far (blk_far d2 (p:=⟨Wb.heap.size,0,none⟩) n2 (ii z.f0)) (p:=⟨Wb.heap.size,1,none⟩) n2 (ii z.f1)
   have e3 : ((W5.setCell ⟨Wb.heap.size,0,none⟩ (ii z.f0)).setCell ⟨Wb.heap.size,1,none⟩ (ii z.f1)).heap[W3.heap.size]? = some (.deferred (some [])):=((Below.heap_setCell _ _ _ _ n3).trans (Below.heap_setCell _ _ _ _ n3)).trans d3
   have e4:=(d4.setCell (p:=⟨Wb.heap.size,0,none⟩) nb (ii z.f0)).setCell (p:=⟨Wb.heap.size,1,none⟩) nb (ii z.f1)
   have ex:=blk_far (blk_far dx (p:=⟨Wb.heap.size,0,none⟩) n1 (ii z.f0)) (p:=⟨Wb.heap.size,1,none⟩) n1 (ii z.f1)
   have el:=((Below.heap_setCell (W5.setCell ⟨Wb.heap.size,0,none⟩ (ii z.f0)) ⟨Wb.heap.size,1,none⟩ (ii z.f1) _ n4).trans (Below.heap_setCell W5 ⟨Wb.heap.size,0,none⟩ (ii z.f0) _ n4)).trans dl
   have g0:=bd dn 0
   have g1:=bd dn 1
   have g2:=blk_frozen dn 0
   have g3:=blk_frozen dn 1
   have g4:=bd en 0
   have g5:=bd en 1
   have E1:=am e1
   have E2:=am e2
   have E3:=am e3
   have E4:=am e4
   have EX:=am ex
   have EL:=am el
   have EN:=am en
   clear d1 d2 d3 d4 dx dl dn e1 e2 e3 e4 ex el en n1 n2 n3 n4 n5
   cases hfn : fineP z with
  |false =>
    have HFn:=am hfn
    clear hfn
    gi_wp2_with fail
    generalize (W5.setCell ⟨Wb.heap.size,0,none⟩ (ii z.f0)).setCell ⟨Wb.heap.size,1,none⟩ (ii z.f1) = W6 at E1 E2 E3 E4 EX EL EN ⊢
    refine ⟨trivial,(fun h => by cases h),(CallsIn.inRound _ (callsIn_wide.2 (fine_calls z _))).mono ?_⟩
    rintro e W7 ⟨rfl,hd⟩
    rw [HFn.out]
    have F3:=am (blk_below E3.out hd)
    have F4:=am (below_then E4.out (below_size E4.out) hd)
    clear hd g0 g1 g2 g3
    gi_wp2
    refine ⟨rfl,.inr ⟨rfl,?_,F4.out,F3.out⟩⟩
    unfold summedP
    rw [HSP.out,show pre ++ x :: suf = pre ++ ([x] ++ suf) from rfl,sumAll_append,HS1.out]
    simp only [Option.bind_some]
    rw [sumAll_append,sumAll_one_no (by rw [HM0.out,Option.getD_some,← HZ.out];exact HFn.out)]
    rfl
  |true =>
    have HFn:=am hfn
    clear hfn
    gi_wp2_with fail
    generalize (W5.setCell ⟨Wb.heap.size,0,none⟩ (ii z.f0)).setCell ⟨Wb.heap.size,1,none⟩ (ii z.f1) = W6 at E1 E2 E3 E4 EX EL EN ⊢
    refine ⟨trivial,(fun h => by cases h),(CallsIn.inRound _ (callsIn_wide.2 (fine_calls z _))).mono ?_⟩
    rintro e W7 ⟨rfl,hd⟩
    rw [HFn.out]
    have F1:=am (E1.out.below hd E1.out.lt)
    have F2:=am (blk_below E2.out hd)
    have F3:=am (blk_below E3.out hd)
    have F4:=am (below_then E4.out (below_size E4.out) hd)
    have FL:=am (blk_below EL.out hd)
    have fx:=blk_below EX.out hd
    have fn:=blk_below EN.out hd
    have k0:=bd F2.out 0
    have k1:=bd fx 0
    have k2:=bd fn 0
    have k3:=bd fn 1
    have hnn : pre.length < maxLen:=by unfold maxLen;have:=HPL.out;omega
    have HNN:=am hnn
    clear hd g0 g1 g2 g3 fx fn hnn
    gi_wp2_with (refine wpListIn_update_map _ rfl _ _ _ 352 rfl 3 43 law3 Tryz.underlying352 ekI ev43 W.heap.size pre.length M rfl F1.out HNN.out x.f0 z _ rfl rfl HKEY.out (fun _ => ekI_inj) ?_;intro W8 hm8 hg8;have M8:=am hm8;have G8:=am hg8;clear hm8 hg8)
    have hz1:=HSZ'.out
    have hml:=F1.out.lt
    have wl : W8.heap[W3.heap.size + 1]? = _:=(G8.out.block (W3.heap.size + 1) (blk_lt FL.out) (by simp;omega)).trans FL.out
    refine ⟨_,_,run_endRound none wl,.inl ⟨rfl,putBy M x.f0 z,?_,?_,?_,?_,?_,?_⟩⟩
    ·rw [sumAll_append,HS1.out]
     simp only [Option.bind_some]
     rw [sumAll_one_ok (by rw [HM0.out,Option.getD_some,← HZ.out];exact HFn.out),HM0.out,Option.getD_some,← HZ.out]
    ·rw [List.length_append,List.length_singleton]
     exact M8.out.keep (World.putObj_heap_other (by omega))
    ·exact (World.putObj_heap_other (by omega)).trans ((G8.out.block (W.heap.size + 1) (blk_lt F2.out) (by simp)).trans F2.out)
    ·exact World.putObj_heap_same (blk_lt wl)
    ·exact (World.putObj_heap_other (by omega)).trans ((G8.out.block W3.heap.size (blk_lt F3.out) (by simp;omega)).trans F3.out)
    ·exact (F4.out.grown G8.out (below_size F4.out) (fun k hk => by cases hk;exact Nat.le_refl _)).grown (grownBy_putObj' _ _ _) (by have:=F4.out.size;have:=G8.out.size;omega) (fun k e_ => by cases e_;omega)
 case fin =>
  subst hrec
  rintro e W4 (⟨⟨v0,rfl⟩,M,b1,b2,b3,b4,b5,b6⟩|⟨rfl,hs,b6,b5⟩)
  ·refine ⟨_,_,run_endLoop b4 (by intro h_;cases h_),?_⟩
   have hsz3:=HSZ.out
   have hpo:=HY.out.pours
   obtain ⟨Ao,co,hvo⟩:=Kd.R_slice hpo
   rw [hvo] at hpo
   have hpr:=Kd.R_reads' hpo
   have hpl:=hpr.2.2.2.1
   have gb:=HY.out.blk
   rw [hvo] at gb
   have c0 : ∀ ob,Below W.heap.size W (W4.putObj (W3.heap.size + 1) ob):=fun ob => b6.grown (grownBy_putObj' _ _ _) b6.size (fun k e_ => by cases e_;omega)
   have c2 : ∀ ob,MapIs Tryz.prog 3 ekI ev43 (W4.putObj (W3.heap.size + 1) ob) W.heap.size (partsP l).length M:=fun ob => b2.keep (World.putObj_heap_other (by omega))
   have c3 : ∀ ob,(W4.putObj (W3.heap.size + 1) ob).heap[W.heap.size + 1]? = some (.cells #[.map (some W.heap.size)] 352 (0,0)):=fun ob => (World.putObj_heap_other (by omega)).trans b3
   have c5 : ∀ ob,(W4.putObj (W3.heap.size + 1) ob).heap[W3.heap.size]? = some (.deferred (some [])):=fun ob => (World.putObj_heap_other (by omega)).trans b5
   dsimp only
   generalize hW6 : W4.putObj (W3.heap.size + 1) _ = W6
   have C0:=am (hW6 ▸ c0 _)
   have C2:=am (hW6 ▸ c2 _)
   have C3:=am (hW6 ▸ c3 _)
   have C5:=am (hW6 ▸ c5 _)
   have HM1:=am b1
   clear c0 c2 c3 c5 b1 b2 b3 b4 b5 b6 hW6
   have g2 : W6.cell? ⟨L.g,2,none⟩ = some (.slice Ao Y.pours.length co):=by
    rw [hpr.1] at gb
    exact (blk_cell (blk_below gb C0.out) 2).trans rfl
   have HPO:=am hpr.2.2
   have HML:=HPI
   have hnp:=HNP.out
   clear hpo hpr gb hvo hsz3
   refine wpIn_wide.2 ?_
   go_wp2
   simp only [List.cons_append,List.nil_append]
   go_loopw [9,46] (fun v9 v46 wr => ∃ (j : Nat) (q : List S89),j ≤ Y.pours.length ∧ v46 = ii (j : Int) ∧ q.length ≤ j ∧ Aside0 (Below W.heap.size W wr) ∧ Aside0 (MapIs Tryz.prog 3 ekI ev43 wr W.heap.size (partsP l).length M) ∧ Aside0 (wr.heap[W.heap.size + 1]? = some (.cells #[.map (some W.heap.size)] 352 (0,0))) ∧ Aside0 (wr.heap[W3.heap.size]? = some (.deferred (some []))) ∧ Aside0 (Kd.R k89 89 wr W.heap.size (fun _ => True) v9 q) ∧ Aside0 (outOf M Y.pours = q ++ outOf M (Y.pours.drop j))) (fun _ v46 _ => Y.pours.length - (intOf v46).toNat)
   case atStart => exact ⟨0,[],Nat.zero_le _,rfl,Nat.le_refl _,C0,C2,C3,C5,⟨Kd.R_nil _ _ _ _ _⟩,⟨by simp⟩⟩
   case round =>
    clear C0 C2 C3 C5 g2
    obtain ⟨j,q,hj,rfl,hql,D0,D2,D3,D5,HV,HO⟩:=hrel
    obtain ⟨Av,cv,rfl⟩:=Kd.R_slice HV.out
    by_cases hlt : j < Y.pours.length
    ·obtain ⟨ae,e,hx0⟩:=Kd.at_int (Kd.C_below HPO.out D0.out) (j : Int) (by omega) (by omega)
     cases e
     rw [Int.toNat_natCast] at hx0
     have HDR:=am (List.drop_eq_getElem_cons hlt)
     have hmem : rd Y.pours (j : Int) = Y.pours[j]:=by unfold rd;rw [Int.toNat_natCast,List.getD_eq_getElem?_getD,List.getElem?_eq_getElem hlt];rfl
     obtain ⟨id,hid⟩ : ∃ id,id = rd Y.pours (j : Int):=⟨_,rfl⟩
     rw [← hid] at hx0 hmem
     have hidr:=HML.out id (by rw [hmem];exact List.getElem_mem hlt)
     rw [← hmem] at HDR
     have HKEY:=am (keyI id (by omega) (by omega))
     clear hid hmem hidr
     have u0:=bd D3.out 0
     cases hM : M id with
    |none =>
      have HM0:=am hM
      clear hM
      go_wp2_with (refine wpList_lookup_map _ rfl _ _ 352 true rfl 3 43 law3 Tryz.underlying352 _ (zero43 _) ekI ev43 W.heap.size (partsP l).length M rfl D2.out id _ rfl HKEY.out (.tuple #[.agg #[ii 0,ii 0],.bool false]) (by rw [HM0.out];rfl) ?_)
      go_roundw
      case rel =>
       refine ⟨j + 1,q,by omega,by go_num,by omega,⟨below_alloc D0.out _⟩,⟨D2.out.alloc _⟩,⟨blk_alloc D3.out _⟩,⟨blk_alloc D5.out _⟩,⟨Kd.R_alloc HV.out _⟩,⟨?_⟩⟩
       rw [HO.out,HDR.out]
       simp only [outOf]
       rw [HM0.out]
      case measure => simp [intOf];omega
    |some r =>
      have HM0:=am hM
      clear hM
      have m0 : (wr.alloc (.cells #[ii r.f0,ii r.f1] 43)).cell? ⟨wr.heap.size,0,none⟩ = some (ii r.f0):=(blk_cell (blk_new wr _) 0).trans rfl
      have HB1:=am (below_alloc D0.out (.cells #[ii r.f0,ii r.f1] 43))
      have E2:=am (D2.out.alloc (.cells #[ii r.f0,ii r.f1] 43))
      have E3:=am (blk_alloc D3.out (.cells #[ii r.f0,ii r.f1] 43))
      have E5:=am (blk_alloc D5.out (.cells #[ii r.f0,ii r.f1] 43))
      have HV1:=am (Kd.R_alloc HV.out (.cells #[ii r.f0,ii r.f1] 43))
      have HBS:=am (below_size HB1.out)
      go_wp2_with (first
      |refine wpList_lookup_map _ rfl _ _ 352 true rfl 3 43 law3 Tryz.underlying352 _ (zero43 _) ekI ev43 W.heap.size (partsP l).length M rfl D2.out id _ rfl HKEY.out (.tuple #[.agg #[ii r.f0,ii r.f1],.bool true]) (by rw [HM0.out];rfl) ?_
      |(at_builtin;refine Kd.R_append k89 (w0:=W) W.heap.size rfl _ _ 55 89 (.agg #[ii 0,ii 0,ii 0]) 24 rfl Tryz.underlying55 info89 rfl (by decide) (by decide) (.slice Av q.length cv) q ⟨id,r⟩ [ii id,ii r.f0,ii r.f1] (fun _ => True) (fun k => k < (wr.alloc (.cells #[ii r.f0,ii r.f1] 43)).heap.size ∧ some k ≠ (Value.slice Av q.length cv).ownBlock) rfl (by rw [show (wr.alloc (.cells #[ii r.f0,ii r.f1] 43)).heap.size = wr.heap.size + 1 by simp];rfl) (k89_mkM _ _ _ ⟨id,r⟩) (fun k hk => ⟨trivial,hk.2⟩) (fun _ _ => trivial) HV1.out HB1.out HBS.out (by omega) ?_;intro v3 w3 hr3 hb3 hg3 hat3;obtain ⟨A3,c3,rfl⟩:=Kd.R_slice hr3;rw [List.length_append,List.length_singleton] at hr3 hat3 ⊢;have HR3:=am hr3;have HB3:=am hb3;have HG3:=am hg3;clear hr3 hb3 hg3 hat3))
      go_roundw
      case rel =>
       have hz3:=HSZ.out
       refine ⟨j + 1,q ++ [⟨id,r⟩],by omega,by go_num,by simp only [List.length_append,List.length_singleton];omega,?_,?_,?_,?_,?_,⟨?_⟩⟩
       ·exact HB3
       ·exact ⟨E2.out.keep (HG3.out.block _ E2.out.lt (fun e => by
         obtain ⟨es,clock,hb,_⟩:=E2.out
         obtain ⟨cl,hcl⟩:=Kd.R_typed HV1.out _ e.symm
         rw [hb] at hcl
         cases hcl))⟩
       ·exact ⟨blk_grown E3.out HG3.out (Kd.R_ne HV1.out E3.out (by decide))⟩
       ·exact ⟨(HG3.out.block _ (blk_lt E5.out) (fun e => by
         obtain ⟨cl,hcl⟩:=Kd.R_typed HV1.out _ e.symm
         rw [E5.out] at hcl
         cases hcl)).trans E5.out⟩
       ·exact HR3
       ·rw [HO.out,HDR.out]
        simp only [outOf]
        rw [HM0.out]
        simp
      case measure => simp [intOf];omega
    ·have hje : j = Y.pours.length:=by omega
     have ho:=HO.out
     rw [List.drop_eq_nil_of_le (by omega)] at ho
     have HOO:=am (show outOf M Y.pours = q by rw [ho];simp [outOf])
     clear ho hje
     go_wp2
     refine ⟨by simp,.inl ⟨_,_,rfl,run_takeDeferred D5.out,?_⟩⟩
     refine ⟨_,results_tmp rfl _ _ _,?_,.inr ⟨q,Av,cv,?_,rfl,(Kd.R_reads' HV.out).2.1,?_⟩⟩
     ·exact D0.out.grown (grownBy_putObj' _ _ _) D0.out.size (fun k e_ => by cases e_;have:=HSZ.out;omega)
     ·unfold summedP
      rw [HM1.out]
      simp [HOO.out]
     ·have hF:=Kd.R_bound (R_own_move (w1:=wr.putObj W3.heap.size (.deferred none)) rfl HV.out (fun k hk => World.putObj_heap_other (fun e => by
       obtain ⟨cl,hcl⟩:=Kd.R_typed HV.out _ hk
       rw [e,D5.out] at hcl
       cases hcl)))
      exact Kd.F_mono (Kd.R_F hF) (fun k hk => hk.2.1)
  ·refine ⟨by simp,.inl ⟨_,_,rfl,run_takeDeferred b5,?_⟩⟩
   refine ⟨?_,.inl ⟨hs,rfl⟩⟩
   exact b6.grown (grownBy_putObj' _ _ _) b6.size (fun k e_ => by cases e_;have:=HSZ.out;omega)
end
def R222_4.T : Bool × List (List Nat × List Nat):=(true,[([],[]),([],[]),([1],[1]),([2],[2]),([3],[3]),([],[]),([5],[5]),([],[]),([],[]),([8],[8]),([],[]),([],[]),([10,11],[10,11]),([6,7,9,12],[6,7,9,12]),([13],[13]),([4,14,12],[4,14]),([0,0,1,2,3,4,5,6,7,8,9,10,11,12,13,14,15],[0]),([16,0,1,2,3,4,5,6,7,8,9,10,11,12,13,14,15],[16]),([17,15,15,0,1,2,3,4,5,6,7,8,9,10,11,12,13,14,15],[15,17])])
def R222_4.B : List Nat:=[0,0,2,6,14,0,32,0,0,256,0,0,3072,8160,16352,32766,65535,131071,262143]
theorem R222_4.tab : rtab .any (opsOf Tryz.f222 4) = R222_4.T:=by kernel_rfl
theorem R222_4.bits : waitsOk R222_4.T.2 R222_4.B = true:=by kernel_rfl
def StepPost (W : World) (base : Nat) (L : Loc) (r : Except Int Yd) (e : Ending) (W' : World) : Prop :=
 Below base W W' ∧ ∃ L',L'.g = L.g ∧ Fr W L W' L' ∧ (match r with
 |.ok Y' => e = .returned (.tuple #[]) ∧ YardAt W' base L' Y'
 |.error c => e = Pan c)
theorem StepPost.err {W W' : World} {base : Nat} {L L' : Loc} {c : Int} (hb : Below base W W') (hg : L'.g = L.g) (h : Fr W L W' L') : StepPost W base L (.error c) (Pan c) W':=⟨hb,L',hg,h,rfl⟩
theorem StepPost.err0 {W W' : World} {base : Nat} {L : Loc} {Y : Yd} {c : Int} (hY : YardAt W base L Y) (hb : Below W.heap.size W W') : StepPost W base L (.error c) (Pan c) W' :=
 ⟨hb.mono (by have:=hY.gLt;omega),L,rfl,Fr.of_below L hb,rfl⟩
theorem StepPost.done {W W' : World} {base : Nat} {L L' : Loc} {Y' : Yd} (hb : Below base W W') (hg : L'.g = L.g) (h : Fr W L W' L') (hY : YardAt W' base L' Y') : StepPost W base L (.ok Y') (.returned (.tuple #[])) W':=⟨hb,L',hg,h,rfl,hY⟩
theorem info167 : (Tryz.prog.info? 167).map (fun i => (i.zero,i.size,i.bytes)) = some (some (.agg #[ii 0,ii 0,ii 0,.slice none 0 0]),4,48):=by kernel_rfl
theorem takeP_old {Y : Yd} {s : S84} {k : Int} (h : isNew Y s.f0 = false) : takeP Y s k = .error 6:=by unfold takeP;rw [if_neg (by rw [h];simp)]
theorem takeP_little {Y : Yd} {s : S84} {k : Int} (h : isNew Y s.f0 = true) (h2 : ¬ s.f5 ≤ heldP (pitP Y s.f3)) : takeP Y s k = .error 4:=by unfold takeP;rw [if_pos h,if_neg h2]
theorem takeP_ahead {Y : Yd} {s : S84} {k : Int} (h : isNew Y s.f0 = true) (h2 : s.f5 ≤ heldP (pitP Y s.f3)) (h3 : aheadP (pitP Y s.f3) s.f5 = none) : takeP Y s k = .error 3:=by unfold takeP;rw [if_pos h,if_pos h2,h3]
theorem takeP_sum {Y : Yd} {s : S84} {k : Int} (h : isNew Y s.f0 = true) (h2 : s.f5 ≤ heldP (pitP Y s.f3)) {a b : List S212} (h3 : aheadP (pitP Y s.f3) s.f5 = some (a,b)) (h4 : summedP Y.pours a = none) : takeP Y s k = .error 3:=by unfold takeP;rw [if_pos h,if_pos h2,h3];simp only;rw [h4]
theorem takeP_ok {Y : Yd} {s : S84} {k : Int} (h : isNew Y s.f0 = true) (h2 : s.f5 ≤ heldP (pitP Y s.f3)) {a b : List S212} (h3 : aheadP (pitP Y s.f3) s.f5 = some (a,b)) {ps : List S89} (h4 : summedP Y.pours a = some ps) :
  takeP Y s k = .ok { Y with pits:=Y.pits.set s.f3.toNat b,barrows:=Y.barrows ++ [⟨s.f0,k,s.f5,ps⟩] }:=by unfold takeP;rw [if_pos h,if_pos h2,h3];simp only;rw [h4]
set_option maxRecDepth 100000 in
set_option maxHeartbeats 4000000 in
theorem take_calls {W : World} {base m : Nat} {L : Loc} {Y : Yd} (hY : YardAt W base L Y) (hw : Wf m Y) (hm : m ≤ 60) (s : S84) (step : Int) (h0 : 0 ≤ s.f3) (h1 : s.f3 < Y.rooms.length) (hn1 : 1 ≤ s.f5) (hn2 : s.f5 ≤ 1000) :
  Calls Tryz.prog 222 #[.pointer (some ⟨L.g,0,none⟩),.agg #[ii s.f0,ii s.f1,ii s.f2,ii s.f3,ii s.f4,ii s.f5],ii step] W fun e W' => StepPost W base L (takeP Y s step) e W':=by
 have hu:=Tryz.underlying84
 obtain ⟨p1,p2,p3,p4⟩:=hw.pitOk h0 h1
 have HY:=am hY
 have HW:=am hw
 have HP1:=am p1
 have HY1:=am (hY.move (below_alloc (Below.refl W.heap.size W) (.cells #[ii s.f0,ii s.f1,ii s.f2,ii s.f3,ii s.f4,ii s.f5] 84)))
 have HB1:=am (below_alloc (Below.refl W.heap.size W) (.cells #[ii s.f0,ii s.f1,ii s.f2,ii s.f3,ii s.f4,ii s.f5] 84))
 have HX1:=am (blk_new W (.cells #[ii s.f0,ii s.f1,ii s.f2,ii s.f3,ii s.f4,ii s.f5] 84))
 have HNX:=am (hY.not_new (Nat.le_refl W.heap.size))
 have hbw : base ≤ W.heap.size:=by have:=hY.gLt;omega
 clear hY hw p1 p2 p3 p4
 cases hnew : isNew Y s.f0 with
|false =>
  have HNW:=am hnew
  clear hnew
  rw [takeP_old HNW.out]
  go_enter Tryz.func222,Tryz.ntmps222
  go_wp2_with fail
  refine (fresh_calls HY1.out HW.out hm s.f0).mono ?_
  rintro e w1 ⟨rfl,hd⟩
  rw [freshE_no HNW.out]
  have HD:=am hd
  clear hd
  unfold Pan
  go_wp2
  exact ⟨rfl,StepPost.err0 HY.out (below_then HB1.out (below_size HB1.out) HD.out)⟩
|true =>
  have HNW:=am hnew
  clear hnew
  by_cases hen : s.f5 ≤ heldP (pitP Y s.f3)
  ·have HEN:=am hen
   clear hen
   cases hah : aheadP (pitP Y s.f3) s.f5 with
  |none =>
    have HAH:=am hah
    clear hah
    rw [takeP_ahead HNW.out HEN.out HAH.out]
    go_enter Tryz.func222,Tryz.ntmps222
    go_wp2_with fail
    refine (fresh_calls HY1.out HW.out hm s.f0).mono ?_
    rintro e w1 ⟨rfl,hd⟩
    rw [freshE_ok HNW.out]
    have HB2:=am (below_then HB1.out (below_size HB1.out) hd)
    have HX2:=am (blk_below HX1.out hd)
    have HY2:=am (HY1.out.move hd)
    have g0a:=bd HX2.out 0
    have g1a:=bd HX2.out 1
    have g2a:=bd HX2.out 2
    have g3a:=bd HX2.out 3
    have g4a:=bd HX2.out 4
    have g5a:=bd HX2.out 5
    clear hd
    go_wp2_with fail
    refine (enough_calls HY2.out HW.out s h0 h1).mono ?_
    rintro e w2 ⟨rfl,hd⟩
    rw [show enoughE Y s.f3 s.f5 = .returned (.tuple #[]) from if_pos HEN.out]
    have HB3:=am (below_then HB2.out (below_size HB2.out) hd)
    have HX3:=am (blk_below HX2.out hd)
    have HY3:=am (HY2.out.move hd)
    clear hd g0a g1a g2a g3a g4a g5a
    have g0b:=bd HX3.out 0
    have g1b:=bd HX3.out 1
    have g2b:=bd HX3.out 2
    have g3b:=bd HX3.out 3
    have g4b:=bd HX3.out 4
    have g5b:=bd HX3.out 5
    go_wp2_with fail
    refine (ahead_calls HY3.out HW.out s.f3 s.f5 h0 h1 hn1 hn2 HEN.out).mono ?_
    rintro e w3 ⟨hd,h⟩
    rcases h with ⟨_,rfl,hd2⟩|⟨a,b,A,c,h,_⟩
    ·have HD:=am hd2
     clear hd hd2
     unfold Pan
     go_wp2
     exact ⟨rfl,StepPost.err0 HY.out (below_then HB3.out (below_size HB3.out) HD.out)⟩
    ·rw [HAH.out] at h;cases h
  |some x =>
    obtain ⟨a,b⟩:=x
    have HAH:=am hah
    clear hah
    have hsp:=aheadP_spec Y.pours (pitP Y s.f3) s.f5 HP1.out (by omega) HEN.out a b HAH.out
    have HPA:=am hsp.1
    have HLA:=am (show a.length ≤ 4096 by have:=held_ge hsp.1;have:=hsp.2.2.1;omega)
    clear hsp
    cases hsm : summedP Y.pours a with
   |none =>
     have HSM:=am hsm
     clear hsm
     rw [takeP_sum HNW.out HEN.out HAH.out HSM.out]
     go_enter Tryz.func222,Tryz.ntmps222
     go_wp2_with fail
     refine (fresh_calls HY1.out HW.out hm s.f0).mono ?_
     rintro e w1 ⟨rfl,hd⟩
     rw [freshE_ok HNW.out]
     have HB2:=am (below_then HB1.out (below_size HB1.out) hd)
     have HX2:=am (blk_below HX1.out hd)
     have HY2:=am (HY1.out.move hd)
     have g0a:=bd HX2.out 0
     have g1a:=bd HX2.out 1
     have g2a:=bd HX2.out 2
     have g3a:=bd HX2.out 3
     have g4a:=bd HX2.out 4
     have g5a:=bd HX2.out 5
     clear hd
     go_wp2_with fail
     refine (enough_calls HY2.out HW.out s h0 h1).mono ?_
     rintro e w2 ⟨rfl,hd⟩
     rw [show enoughE Y s.f3 s.f5 = .returned (.tuple #[]) from if_pos HEN.out]
     have HB3:=am (below_then HB2.out (below_size HB2.out) hd)
     have HX3:=am (blk_below HX2.out hd)
     have HY3:=am (HY2.out.move hd)
     clear hd g0a g1a g2a g3a g4a g5a
     have g0b:=bd HX3.out 0
     have g1b:=bd HX3.out 1
     have g2b:=bd HX3.out 2
     have g3b:=bd HX3.out 3
     have g4b:=bd HX3.out 4
     have g5b:=bd HX3.out 5
     go_wp2_with fail
     refine (ahead_calls HY3.out HW.out s.f3 s.f5 h0 h1 hn1 hn2 HEN.out).mono ?_
     rintro e w3 ⟨hd,h⟩
     rcases h with ⟨h,_⟩|⟨a',b',A,c,h,rfl,hlc,hY4,hfr,hFa⟩
     ·rw [HAH.out] at h;cases h
     rw [HAH.out] at h
     injection h with h
     injection h with ha hb
     subst ha
     subst hb
     have q:=hfr.keep W.heap.size (blk_lt HX3.out) HNX.out
     have hx4:=q.1.trans HX3.out
     have HX5:=am (blk_drew hx4)
     have HY5:=am (hY4.move (below_drew (Below.refl _ w3)))
     have HF5:=am (Kd.F_drew hFa)
     have HR5:=am (((Fr.of_below L HB3.out).trans hfr).trans (Fr.of_below L (below_drew (Below.refl _ w3))))
     have HB5:=am (below_drew ((HB3.out.mono hbw).trans hd))
     have HLC:=am hlc
     have g0c:=bd hx4 0
     clear hd q hx4 hlc hY4 hfr hFa g0b g1b g2b g3b g4b g5b
     go_wp2
     refine start_ (n:=19) (S:=fun w' => w'.cell? ⟨L.g,4,none⟩ = some L.vb ∧ w'.cell? ⟨W.heap.size,0,none⟩ = some (ii s.f0) ∧ w'.cell? ⟨W.heap.size,5,none⟩ = some (ii s.f5)) (ds:=[18]) (ab 19 0) kr rfl kr ⟨(blk_cell HY5.out.blk 4).trans rfl,(blk_cell HX5.out 0).trans rfl,(blk_cell HX5.out 5).trans rfl⟩ (fun hHeld => ?_);refine with_tabW R222_4.tab R222_4.bits (fun HT_ HW_ => ?_)
     generalize (w3).drew = wd at HY5 HX5 HF5 HR5 HB5 hHeld ⊢
     refine qA 0 (some 20) ?_;refine qA 1 (some 21) ?_;refine qA 2 (some 22) ?_;refine qA 3 (some 23) ?_;refine qT 4 (some 24) ?_;refine qA 5 (some 25) ?_;refine qT 6 (some 26) ?_;refine qA 7 (some 27) ?_;refine qA 8 (some 28) ?_;refine qT 9 (some 29) ?_;refine qA 10 (some 30) ?_;refine qA 11 (some 31) ?_
     refine qE 12 (some 32) fun K hK => ?_
     refine goesP_ Tryz.func245 kr rfl #[.pointer (some ⟨L.g,0,none⟩),.slice A a.length c] (by rfl) rfl vn ?_
     refine (callsIn_wide.1 (summed_in 3 (Nat.le_refl 3) HY5.out HW.out.pid HW.out.npours hm A c a HPA.out HLA.out (Kd.F_now HF5.out) HLC.out)).mono ?_
     rintro e w5 ⟨hB5,h⟩
     rcases h with ⟨_,rfl⟩|⟨ps,Ap,cp,h,_⟩
     ·exact ⟨_,rfl,rfl,StepPost.err (HB5.out.trans (hB5.mono (Nat.le_trans hbw HB5.out.size))) rfl (HR5.out.trans (Fr.of_below L hB5))⟩
     ·rw [show ({ Y with pits:=Y.pits.set s.f3.toNat b } : Yd).pours = Y.pours from rfl,HSM.out] at h;cases h
   |some ps =>
     have HSM:=am hsm
     clear hsm
     rw [takeP_ok HNW.out HEN.out HAH.out HSM.out]
     go_enter Tryz.func222,Tryz.ntmps222
     go_wp2_with fail
     refine (fresh_calls HY1.out HW.out hm s.f0).mono ?_
     rintro e w1 ⟨rfl,hd⟩
     rw [freshE_ok HNW.out]
     have HB2:=am (below_then HB1.out (below_size HB1.out) hd)
     have HX2:=am (blk_below HX1.out hd)
     have HY2:=am (HY1.out.move hd)
     have g0a:=bd HX2.out 0
     have g1a:=bd HX2.out 1
     have g2a:=bd HX2.out 2
     have g3a:=bd HX2.out 3
     have g4a:=bd HX2.out 4
     have g5a:=bd HX2.out 5
     clear hd
     go_wp2_with fail
     refine (enough_calls HY2.out HW.out s h0 h1).mono ?_
     rintro e w2 ⟨rfl,hd⟩
     rw [show enoughE Y s.f3 s.f5 = .returned (.tuple #[]) from if_pos HEN.out]
     have HB3:=am (below_then HB2.out (below_size HB2.out) hd)
     have HX3:=am (blk_below HX2.out hd)
     have HY3:=am (HY2.out.move hd)
     clear hd g0a g1a g2a g3a g4a g5a
     have g0b:=bd HX3.out 0
     have g1b:=bd HX3.out 1
     have g2b:=bd HX3.out 2
     have g3b:=bd HX3.out 3
     have g4b:=bd HX3.out 4
     have g5b:=bd HX3.out 5
     go_wp2_with fail
     refine (ahead_calls HY3.out HW.out s.f3 s.f5 h0 h1 hn1 hn2 HEN.out).mono ?_
     rintro e w3 ⟨hd,h⟩
     rcases h with ⟨h,_⟩|⟨a',b',A,c,h,rfl,hlc,hY4,hfr,hFa⟩
     ·rw [HAH.out] at h;cases h
     rw [HAH.out] at h
     injection h with h
     injection h with ha hb
     subst ha
     subst hb
     have q:=hfr.keep W.heap.size (blk_lt HX3.out) HNX.out
     have hx4:=q.1.trans HX3.out
     have HX5:=am (blk_drew hx4)
     have HY5:=am (hY4.move (below_drew (Below.refl _ w3)))
     have HF5:=am (Kd.F_drew hFa)
     have HR5:=am (((Fr.of_below L HB3.out).trans hfr).trans (Fr.of_below L (below_drew (Below.refl _ w3))))
     have HB5:=am (below_drew ((HB3.out.mono hbw).trans hd))
     have HLC:=am hlc
     have g0c:=bd hx4 0
     clear hd q hx4 hlc hY4 hfr hFa g0b g1b g2b g3b g4b g5b
     go_wp2
     refine start_ (n:=19) (S:=fun w' => w'.cell? ⟨L.g,4,none⟩ = some L.vb ∧ w'.cell? ⟨W.heap.size,0,none⟩ = some (ii s.f0) ∧ w'.cell? ⟨W.heap.size,5,none⟩ = some (ii s.f5)) (ds:=[18]) (ab 19 0) kr rfl kr ⟨(blk_cell HY5.out.blk 4).trans rfl,(blk_cell HX5.out 0).trans rfl,(blk_cell HX5.out 5).trans rfl⟩ (fun hHeld => ?_);refine with_tabW R222_4.tab R222_4.bits (fun HT_ HW_ => ?_)
     generalize (w3).drew = wd at HY5 HX5 HF5 HR5 HB5 hHeld ⊢
     refine qA 0 (some 20) ?_;refine qA 1 (some 21) ?_;refine qA 2 (some 22) ?_;refine qA 3 (some 23) ?_;refine qT 4 (some 24) ?_;refine qA 5 (some 25) ?_;refine qT 6 (some 26) ?_;refine qA 7 (some 27) ?_;refine qA 8 (some 28) ?_;refine qT 9 (some 29) ?_;refine qA 10 (some 30) ?_;refine qA 11 (some 31) ?_
     refine qE 12 (some 32) fun K hK => ?_
     refine gC Tryz.func245 #[.pointer (some ⟨L.g,0,none⟩),.slice A a.length c] ?_
     refine (callsIn_wide.1 (summed_in 3 (Nat.le_refl 3) HY5.out HW.out.pid HW.out.npours hm A c a HPA.out HLA.out (Kd.F_now HF5.out) HLC.out)).mono ?_
     rintro e w5 ⟨hB5,h⟩
     rcases h with ⟨h,_⟩|⟨ps',Ap,cp,h,rfl,hlp,hFp⟩
     ·rw [show ({ Y with pits:=Y.pits.set s.f3.toNat b } : Yd).pours = Y.pours from rfl,HSM.out] at h;cases h
     have hpe : ps = ps':=by rw [show ({ Y with pits:=Y.pits.set s.f3.toNat b } : Yd).pours = Y.pours from rfl,HSM.out] at h;injection h
     subst hpe
     have HY6:=am (HY5.out.move hB5)
     have HX6:=am (blk_below HX5.out hB5)
     have HR6:=am (HR5.out.trans (Fr.of_below L hB5))
     have HB6:=am (HB5.out.trans (hB5.mono (Nat.le_trans hbw HB5.out.size)))
     have HF6:=am (k167_mkF w5 L.Not ⟨s.f0,step,s.f5,ps⟩ hlp (Kd.F_mono hFp (fun k hk => HY5.out.not_new hk)))
     clear hB5 h hlp hFp
     refine ⟨_,rfl,?_⟩
     refine hK.out _ _ ⟨(blk_cell HY6.out.blk 4).trans rfl,(blk_cell HX6.out 0).trans rfl,(blk_cell HX6.out 5).trans rfl⟩ (fun hHeld => ?_)
     clear hK K
     refine qN (some 32) ?_
     refine qA 13 (some 33) ?_
     refine qE 14 (some 34) fun K hK => ?_
     refine value_ (w1:=?_) (v:=?_) (by rfl) rfl ?_ ?_
     rotate_left 2
     ·go_simp
      constructor
      ·rfl
      ·rfl
     refine hK.out _ _ ⟨(blk_cell (blk_alloc HY6.out.blk _) 4).trans rfl,(blk_cell (blk_alloc HX6.out _) 0).trans rfl,(blk_cell (blk_alloc HX6.out _) 5).trans rfl⟩ (fun hHeld => ?_)
     clear hK K
     refine qN (some 34) ?_
     refine qE 15 (some 35) fun K hK => ?_
     refine Kd.R_append_step (ft k167 w5 L.Not) (w0:=w5) base (by rfl) (.tmp 24) (.tmp 34) 163 167 (.agg #[ii 0,ii 0,ii 0,.slice none 0 0]) 48 rfl Tryz.underlying163 info167 rfl (by show 0 < k167.sz;decide) (by decide) L.vb Y.barrows ⟨s.f0,step,s.f5,ps⟩ [ii s.f0,ii step,ii s.f5,.slice Ap ps.length cp] (fun _ => True) (fun k => some k ≠ L.vb.ownBlock) rfl rfl HF6.out (fun k hk => ⟨trivial,hk⟩) (fun _ _ => trivial) HY6.out.barrows (Below.refl _ _) (Nat.le_trans hbw HB6.out.size) ?aL ?_
     case aL => have:=HW.out.nbarrows;omega
     intro v1 w7 hr hb hg hat
     obtain ⟨A7,c7,rfl⟩:=Kd.R_slice hr
     rw [List.length_append,List.length_singleton] at hr hat ⊢
     obtain ⟨s1,s2,s3,s4⟩:=HY6.out.set_barrows hr hg hat
     have hx7:=blk_grown HX6.out hg (fun e_ => HNX.out (.inr (.inr (.inr (.inr (.inl e_.symm))))))
     have HY8:=am s1
     have HR8:=am (HR6.out.trans s2)
     have HB8:=am ((HB6.out.trans hb).setCell (p:=⟨L.g,4,none⟩) HY.out.gbase (.slice A7 (Y.barrows.length + 1) c7))
     clear hr hb hg hat s1 s2
     refine hK.out _ _ ⟨s3,(blk_cell hx7 0).trans rfl,(blk_cell hx7 5).trans rfl⟩ (fun hHeld => ?_)
     clear hK K
     refine qN (some 35) ?_
     refine qA 16 (some 36) ?_;refine qA 17 (some 37) ?_
     refine qL 18 (none) fun K hK => ?_
     refine skip_ (w1:=?_) (by rfl) rfl ?_ ?_
     rotate_left
     ·go_simp
      rfl
     refine hK.out _ _ ?_
     clear hK K
     refine done_ (done_of HT_.out kr) ?_
     go_wp2
     go_end0
     exact StepPost.done (L':={ L with vb:=.slice A7 (Y.barrows.length + 1) c7 }) HB8.out rfl HR8.out HY8.out
  ·have HEN:=am hen
   clear hen
   rw [takeP_little HNW.out (by have:=HEN.out;omega)]
   go_enter Tryz.func222,Tryz.ntmps222
   go_wp2_with fail
   refine (fresh_calls HY1.out HW.out hm s.f0).mono ?_
   rintro e w1 ⟨rfl,hd⟩
   rw [freshE_ok HNW.out]
   have HB2:=am (below_then HB1.out (below_size HB1.out) hd)
   have HX2:=am (blk_below HX1.out hd)
   have HY2:=am (HY1.out.move hd)
   have g0a:=bd HX2.out 0
   have g1a:=bd HX2.out 1
   have g2a:=bd HX2.out 2
   have g3a:=bd HX2.out 3
   have g4a:=bd HX2.out 4
   have g5a:=bd HX2.out 5
   clear hd
   go_wp2_with fail
   refine (enough_calls HY2.out HW.out s h0 h1).mono ?_
   rintro e w2 ⟨rfl,hd⟩
   rw [show enoughE Y s.f3 s.f5 = Pan 4 from if_neg (by have:=HEN.out;omega)]
   have HD:=am hd
   clear hd
   unfold Pan
   go_wp2
   exact ⟨rfl,StepPost.err0 HY.out (below_then HB2.out (below_size HB2.out) HD.out)⟩
theorem spillP_little {Y : Yd} {s : S84} (h2 : ¬ s.f5 ≤ heldP (pitP Y s.f3)) : spillP Y s = .error 4:=by unfold spillP;rw [if_neg h2]
theorem spillP_ahead {Y : Yd} {s : S84} (h2 : s.f5 ≤ heldP (pitP Y s.f3)) (h3 : aheadP (pitP Y s.f3) s.f5 = none) : spillP Y s = .error 3:=by unfold spillP;rw [if_pos h2,h3]
theorem spillP_ok {Y : Yd} {s : S84} (h2 : s.f5 ≤ heldP (pitP Y s.f3)) {a b : List S212} (h3 : aheadP (pitP Y s.f3) s.f5 = some (a,b)) : spillP Y s = .ok { Y with pits:=Y.pits.set s.f3.toNat b,lost:=Y.lost ++ a }:=by unfold spillP;rw [if_pos h2,h3]
theorem ft_F {α : Type} {d : Kd α} {W0 w : World} {e base n c : Nat} {ok ok' : Nat → Prop} {A : Option Addr} {xs : List α} (h : (ft d W0 ok).R e w base ok' (.slice A n c) xs) (hm : ∀ k,ok k → k < W0.heap.size → w.heap[k]? = W0.heap[k]?) (ho : ∀ k,(Value.slice A n c).ownBlock = some k → ok k) : Kd.F d w ok A n xs:=fun W' hW => by
 have h1 : (ft d W0 ok).C W' A n xs:=Kd.R_F (Kd.R_tight rfl h) W' (fun k hk hlt => hW k (ho k hk.symm) hlt)
 exact ReadsRow.imp_ h1 (Below.refl W'.heap.size W') (fun x cs (hp : Kd.FK d W0 ok x cs) => hp W' (fun k hk hlt => (hW k hk (heap_lt (hm k hk hlt) hlt)).trans (hm k hk hlt)))
set_option maxRecDepth 100000 in
set_option maxHeartbeats 4000000 in
theorem spill_calls {W : World} {base m : Nat} {L : Loc} {Y : Yd} (hY : YardAt W base L Y) (hw : Wf m Y) (hm : m ≤ 60) (s : S84) (step : Int) (h0 : 0 ≤ s.f3) (h1 : s.f3 < Y.rooms.length) (hn1 : 1 ≤ s.f5) (hn2 : s.f5 ≤ 1000) :
  Calls Tryz.prog 225 #[.pointer (some ⟨L.g,0,none⟩),.agg #[ii s.f0,ii s.f1,ii s.f2,ii s.f3,ii s.f4,ii s.f5],ii step] W fun e W' => StepPost W base L (spillP Y s) e W':=by
 have hu:=Tryz.underlying84
 obtain ⟨p1,p2,p3,p4⟩:=hw.pitOk h0 h1
 have HY:=am hY
 have HW:=am hw
 have HP1:=am p1
 have HY1:=am (hY.move (below_alloc (Below.refl W.heap.size W) (.cells #[ii s.f0,ii s.f1,ii s.f2,ii s.f3,ii s.f4,ii s.f5] 84)))
 have HB1:=am (below_alloc (Below.refl W.heap.size W) (.cells #[ii s.f0,ii s.f1,ii s.f2,ii s.f3,ii s.f4,ii s.f5] 84))
 have HX1:=am (blk_new W (.cells #[ii s.f0,ii s.f1,ii s.f2,ii s.f3,ii s.f4,ii s.f5] 84))
 have hbw : base ≤ W.heap.size:=by have:=hY.gLt;omega
 clear hY hw p1 p2 p3 p4
 by_cases hen : s.f5 ≤ heldP (pitP Y s.f3)
 ·have HEN:=am hen
  clear hen
  cases hah : aheadP (pitP Y s.f3) s.f5 with
 |none =>
   have HAH:=am hah
   clear hah
   rw [spillP_ahead HEN.out HAH.out]
   go_enter Tryz.func225,Tryz.ntmps225
   go_wp2_with fail
   refine (enough_calls HY1.out HW.out s h0 h1).mono ?_
   rintro e w1 ⟨rfl,hd⟩
   rw [show enoughE Y s.f3 s.f5 = .returned (.tuple #[]) from if_pos HEN.out]
   have HB2:=am (below_then HB1.out (below_size HB1.out) hd)
   have HX2:=am (blk_below HX1.out hd)
   have HY2:=am (HY1.out.move hd)
   clear hd
   have g0a:=bd HX2.out 0
   have g1a:=bd HX2.out 1
   have g2a:=bd HX2.out 2
   have g3a:=bd HX2.out 3
   have g4a:=bd HX2.out 4
   have g5a:=bd HX2.out 5
   go_wp2_with fail
   refine (ahead_calls HY2.out HW.out s.f3 s.f5 h0 h1 hn1 hn2 HEN.out).mono ?_
   rintro e w2 ⟨hd,h⟩
   rcases h with ⟨_,rfl,hd2⟩|⟨a,b,A,c,h,_⟩
   ·have HD:=am hd2
    clear hd hd2
    unfold Pan
    go_wp2
    exact ⟨rfl,StepPost.err0 HY.out (below_then HB2.out (below_size HB2.out) HD.out)⟩
   ·rw [HAH.out] at h;cases h
 |some x =>
   obtain ⟨a,b⟩:=x
   have HAH:=am hah
   clear hah
   have hsp:=aheadP_spec Y.pours (pitP Y s.f3) s.f5 HP1.out (by omega) HEN.out a b HAH.out
   have HLA:=am (show a.length ≤ 4096 by have:=held_ge hsp.1;have:=hsp.2.2.1;omega)
   clear hsp
   rw [spillP_ok HEN.out HAH.out]
   go_enter Tryz.func225,Tryz.ntmps225
   go_wp2_with fail
   refine (enough_calls HY1.out HW.out s h0 h1).mono ?_
   rintro e w1 ⟨rfl,hd⟩
   rw [show enoughE Y s.f3 s.f5 = .returned (.tuple #[]) from if_pos HEN.out]
   have HB2:=am (below_then HB1.out (below_size HB1.out) hd)
   have HX2:=am (blk_below HX1.out hd)
   have HY2:=am (HY1.out.move hd)
   clear hd
   have g0a:=bd HX2.out 0
   have g1a:=bd HX2.out 1
   have g2a:=bd HX2.out 2
   have g3a:=bd HX2.out 3
   have g4a:=bd HX2.out 4
   have g5a:=bd HX2.out 5
   go_wp2_with fail
   refine (ahead_calls HY2.out HW.out s.f3 s.f5 h0 h1 hn1 hn2 HEN.out).mono ?_
   rintro e w2 ⟨hd,h⟩
   rcases h with ⟨h,_⟩|⟨a',b',A,c,h,rfl,hlc,hY4,hfr,hFa⟩
   ·rw [HAH.out] at h;cases h
   rw [HAH.out] at h
   injection h with h
   injection h with ha hb
   subst ha
   subst hb
   have HY4:=am hY4
   have HF4:=am hFa
   have HR4:=am ((Fr.of_below L HB2.out).trans hfr)
   have HB4:=am ((HB2.out.mono hbw).trans hd)
   have HLC:=am hlc
   clear hd hlc hY4 hfr hFa g0a g1a g2a g3a g4a g5a
   have g5 : w2.cell? ⟨L.g,5,none⟩ = some L.vl:=(blk_cell HY4.out.blk 5).trans rfl
   go_wp2_with (at_builtin;refine Kd.R_append_rows (ft k212 w2 L.Not) (Rr:=fun x c => Kd.FK k212 w2 L.Not x c) (w0:=w2) base rfl _ _ 131 212 (.agg #[ii 0,.slice none 0 0]) 32 rfl Tryz.underlying131 info212 rfl (by show 0 < (k212 : Kd _).sz;decide) (by decide) L.vl Y.lost a A a.length c (fun _ => True) (fun k => some k ≠ L.vl.ownBlock) rfl rfl HY4.out.lost (Kd.F_rows HF4.out) (fun _ _ h => h) (fun k hk => ⟨trivial,hk⟩) (fun _ _ => trivial) (Below.refl _ _) (Nat.le_trans hbw HB4.out.size) (by have:=HW.out.nlost;have:=HLA.out;omega) ?_;intro v1 w7 hr hb hg hat;obtain ⟨A7,c7,rfl⟩:=Kd.R_slice hr;rw [List.length_append] at hr hat ⊢;obtain ⟨s1,s2,s3,s4⟩:=HY4.out.set_lost hr hg hat;have HY8:=am s1;have HR8:=am (HR4.out.trans s2);have HB8:=am ((HB4.out.trans hb).setCell (p:=⟨L.g,5,none⟩) HY.out.gbase (.slice A7 (Y.lost.length + a.length) c7));clear hr hb hg hat s1 s2)
   go_end0
   exact StepPost.done (L':={ L with vl:=.slice A7 (Y.lost.length + a.length) c7 }) HB8.out rfl HR8.out HY8.out
 ·have HEN:=am hen
  clear hen
  rw [spillP_little (by have:=HEN.out;omega)]
  go_enter Tryz.func225,Tryz.ntmps225
  go_wp2_with fail
  refine (enough_calls HY1.out HW.out s h0 h1).mono ?_
  rintro e w1 ⟨rfl,hd⟩
  rw [show enoughE Y s.f3 s.f5 = Pan 4 from if_neg (by have:=HEN.out;omega)]
  have HD:=am hd
  clear hd
  unfold Pan
  go_wp2
  exact ⟨rfl,StepPost.err0 HY.out (below_then HB1.out (below_size HB1.out) HD.out)⟩
end Go.Proofs.YtjjfpmapjjemcaaGreat.B
end
