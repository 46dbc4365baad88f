import Derived.BigFrameIn
import Derived.WalkSpells
import Derived.Outline
import Derived.Recover
import Derived.Defers
import Derived.Test.YtjjfpmapjjemcaaGreatQ1
import Derived.Test.YtjjfpmapjjemcaaGreatQ2
set_option linter.unusedVariables false
set_option linter.unusedSimpArgs false
section
namespace Go.Proofs.YtjjfpmapjjemcaaGreat.B
open Go.RowKit Go.Proofs.YtjjfpmapjjemcaaGreatW.PrintWords Go.Proofs.YtjjfpmapjjemcaaGreatW.PrintLast Go.Proofs.YtjjfpmapjjemcaaGreatW.PrintMore
attribute [local go_sem] max2_int min2_int max_two min_two max_three min_three max_four min_four
section
theorem partsP_len {pours : List Int} {l : List S212} (h : ∀ p ∈ l,ParcelOk pours p) : (partsP l).length ≤ 60 * l.length:=by
 induction l with
|nil => simp [partsP]
|cons p r ih =>
  have h1:=(h p List.mem_cons_self).len
  have h2:=ih fun q hq => h q (List.mem_cons_of_mem _ hq)
  simp only [partsP,List.length_append,List.length_cons]
  omega
theorem sumAll_append (M : ByPour) (a b : List S89) : sumAll M (a ++ b) = (sumAll M a).bind fun M' => sumAll M' b:=by
 induction a generalizing M with
|nil => rfl
|cons x r ih =>
  simp only [List.cons_append,sumAll]
  split
  ·exact ih _
  ·rfl
theorem sumAll_one_ok {M : ByPour} {x : S89} (h : fineP (addP ((M x.f0).getD (wholeP 0)) x.f1) = true) : sumAll M [x] = some (putBy M x.f0 (addP ((M x.f0).getD (wholeP 0)) x.f1)):=by
 simp only [sumAll];rw [if_pos h]
theorem sumAll_one_no {M : ByPour} {x : S89} (h : fineP (addP ((M x.f0).getD (wholeP 0)) x.f1) = false) : sumAll M [x] = none:=by
 simp only [sumAll];rw [if_neg (by rw [h];simp)]
theorem fineP_of' {M : ByPour} (h : MOk M) {i : Int} {r : S43} (hr : M i = some r) : Rok r ∧ r.f0 ≤ 68719476736 ∧ r.f1 ≤ 16777216:=by
 obtain ⟨h1,h2,h3⟩:=fineP_of (h i r hr).1
 exact ⟨h1,h2,by omega⟩
def SumSt (w0 : World) (D : Nat) (rec : Loop) (pre : List S89) (W : World) : Prop :=
 ∃ M,sumAll (fun _ => none) pre = some M ∧ MapIs Tryz.prog 3 ekI ev43 W w0.heap.size pre.length M ∧ W.heap[w0.heap.size + 1]? = some (.cells #[.map (some w0.heap.size)] 352 (0,0)) ∧ W.heap[D + 1]? = some (.loop rec) ∧ W.heap[D]? = some (.deferred (some [])) ∧ Below w0.heap.size w0 W
def SumPost (W : World) (pours : List Int) (l : List S212) (e : Ending) (W' : World) : Prop :=
 Below W.heap.size W W' ∧ ((summedP pours l = none ∧ e = Pan 3) ∨ ∃ ps A c,summedP pours l = some ps ∧ e = .returned (.slice A ps.length c) ∧ ps.length ≤ c ∧ Kd.F k89 W' (fun k => W.heap.size ≤ k) A ps.length ps)
theorem partIds {Y : Yd} {l : List S212} (hP : ∀ p ∈ l,ParcelOk Y.pours p) {x : S89} (hx : x ∈ partsP l) : PartOk Y.pours x:=(parts_ok hP).1 x hx
attribute [local go_sem] Oper.semAt_some
set_option maxRecDepth 100000 in
set_option maxHeartbeats 8000000 in
theorem summed_in (n : Nat) (hn : 3 ≤ n) {W : World} {base m : Nat} {L : Loc} {Y : Yd} (hY : YardAt W base L Y) (hpid : ∀ i ∈ Y.pours,1 ≤ i ∧ i ≤ 1099511627776) (hnp : Y.pours.length ≤ m) (hm : m ≤ 60) (A : Option Addr) (c : Nat) (l : List S212) (hP : ∀ p ∈ l,ParcelOk Y.pours p) (hl : l.length ≤ 4096) (hC : Kd.C k212 W A l.length l) (hc : l.length ≤ c) :
  CallsIn Fence.wide n Tryz.prog 245 #[.pointer (some ⟨L.g,0,none⟩),.slice A l.length c] W fun e W' => SumPost W Y.pours l e W':=by
 have hmm:=@run_makeMap Tryz.prog
 have hu43:=Tryz.underlying43
 have hu89:=Tryz.underlying89
 have h1 : 1 ≤ n:=by omega
 refine callsIn_of_wpAt_marks Tryz.func245 rfl trivial ?_ rfl
 simp only [Tryz.ntmps245,List.size_toArray,List.length_cons,List.length_nil,Nat.reduceAdd,Nat.reduceSub,Array.replicate_succ,Array.replicate_zero,List.push_toArray,List.append_toArray,List.nil_append,List.cons_append]
 refine wpAt_seqL ?_
 gi_wp2
 refine wpAt_seqL ?_
 gi_wp2
 refine wpAt_seqR (wpAt_seqL ?_)
 gi_wp2_with fail
 refine ⟨trivial,(callsIn_wide.2 (parts_calls A c l.length _)).mono ?_⟩
 rintro e w' ⟨rfl,rfl⟩
 gi_wp2
 refine wpAt_block ?_
 have HBt:=am (blk_alloc (blk_new' (W.alloc (.map #[] 0)) (.cells #[.map (some W.heap.size)] 352) (W.heap.size + 1) (by simp)) (.cells #[.slice A l.length c] 131))
 have HBl:=am (blk_new' ((W.alloc (.map #[] 0)).alloc (.cells #[.map (some W.heap.size)] 352)) (.cells #[.slice A l.length c] 131) (W.heap.size + 1 + 1) (by simp))
 have HBm:=am (((MapIs.made W Tryz.prog 3 ekI ev43).alloc (.cells #[.map (some W.heap.size)] 352)).alloc (.cells #[.slice A l.length c] 131))
 have HB3:=am (below_alloc (below_alloc (below_alloc (Below.refl W.heap.size W) (.map #[] 0)) (.cells #[.map (some W.heap.size)] 352)) (.cells #[.slice A l.length c] 131))
 have HSZ:=am (show (((W.alloc (.map #[] 0)).alloc (.cells #[.map (some W.heap.size)] 352)).alloc (.cells #[.slice A l.length c] 131)).heap.size = W.heap.size + 3 by simp)
 generalize ((W.alloc (.map #[] 0)).alloc (.cells #[.map (some W.heap.size)] 352)).alloc (.cells #[.slice A l.length c] 131) = W3 at HBt HBl HBm HB3 HSZ ⊢
 have HP:=am hP
 have HC:=am hC
 have HL:=am (Nat.le_trans (partsP_len hP) (show 60 * l.length ≤ 245760 by omega))
 have HPA:=am (fun x (hx : x ∈ partsP l) => partIds (Y:=Y) hP hx)
 have HY:=am hY
 have HPI:=am hpid
 have HNP:=am hnp
 clear hP hC hY hpid hnp
 refine wpAt_range rfl h1 (gf:=213) (lb:=#[.pointer (some ⟨W.heap.size + 1 + 1,0,none⟩)]) rfl trivial (enters_of Tryz.func213 kr rfl) ?_
 intro rec hrec
 refine (parts1_in (n - 1) (by omega) (W3.heap.size + 1) A c l (W.heap.size + 1 + 1) (SumSt W W3.heap.size rec) (fun e W' => e = Pan 3 ∧ summedP Y.pours l = none ∧ Below W.heap.size W W' ∧ W'.heap[W3.heap.size]? = some (.deferred (some []))) (fun e W' h => ⟨_,h.1⟩) W HC.out (fun pre W' h => by obtain ⟨_,_,_,_,_,_,h⟩:=h;exact h) ?hM ?hY _ ?hS ?hB).mono ?fin
 case hM =>
  rintro pre W1 W2 ⟨M,b1,b2,b3,b4,b5,b6⟩ hb
  exact ⟨M,b1,b2.below hb b2.lt,blk_below b3 hb,blk_below b4 hb,blk_below b5 hb,below_then b6 (below_size b6) hb⟩
 case hS => exact ⟨fun _ => none,rfl,(HBm.out.alloc _).alloc _,blk_alloc (blk_alloc HBt.out _) _,blk_new' (W3.alloc (.deferred (some []))) _ (W3.heap.size + 1) (by simp),blk_alloc (blk_new W3 _) _,below_alloc (below_alloc HB3.out _) _⟩
 case hB => exact blk_alloc (blk_alloc HBl.out _) _
 case hY =>
  subst hrec
  rintro pre x suf Wy hsp ⟨M,b1,b2,b3,b4,b5,b6⟩
  have hpl : pre.length < 245760:=by
   have h1:=HL.out
   rw [hsp,List.length_append,List.length_cons] at h1
   omega
  have hxm : x ∈ partsP l:=by rw [hsp];simp
  have hxo:=HPA.out x hxm
  have hxr:=HPI.out x.f0 hxo.2.2
  refine ⟨_,_,_,_,run_yield b4 rfl,roundInP_of_wpIn trivial Tryz.func245 ?_⟩
  dsimp only
  gi_wp2
  refine ⟨_,run_beginRound (blk_alloc b4 _) rfl,?_⟩
  have hsz:=HSZ.out
  have hl4:=blk_lt b4
  have q0 : ∀ ob b,b ≠ W3.heap.size + 1 → b < Wy.heap.size → ((Wy.alloc (.cells #[.int .i64 x.f0,.int .i64 x.f1.f0,.int .i64 x.f1.f1] 89)).putObj (W3.heap.size + 1) ob).heap[b]? = Wy.heap[b]?:=fun ob b h hlt => (World.putObj_heap_other h).trans (Below.heap_alloc Wy _ b hlt)
  have q1 : ∀ ob,((Wy.alloc (.cells #[.int .i64 x.f0,.int .i64 x.f1.f0,.int .i64 x.f1.f1] 89)).putObj (W3.heap.size + 1) ob).heap[Wy.heap.size]? = some (.cells #[.int .i64 x.f0,.int .i64 x.f1.f0,.int .i64 x.f1.f1] 89 (0,0)):=fun ob => (World.putObj_heap_other (by omega)).trans (blk_new Wy _)
  have q2 : ∀ ob,((Wy.alloc (.cells #[.int .i64 x.f0,.int .i64 x.f1.f0,.int .i64 x.f1.f1] 89)).putObj (W3.heap.size + 1) ob).heap[W3.heap.size + 1]? = some ob:=fun ob => World.putObj_heap_same (by simp;omega)
  have q3 : ∀ ob,((Wy.alloc (.cells #[.int .i64 x.f0,.int .i64 x.f1.f0,.int .i64 x.f1.f1] 89)).putObj (W3.heap.size + 1) ob).heap.size = Wy.heap.size + 1:=fun ob => by simp
  have q4 : ∀ ob,Below W.heap.size Wy ((Wy.alloc (.cells #[.int .i64 x.f0,.int .i64 x.f1.f0,.int .i64 x.f1.f1] 89)).putObj (W3.heap.size + 1) ob):=fun ob => ((Below.refl _ Wy).alloc b6.size _).grown (grownBy_putObj' _ _ _) (by have:=b6.size;simp;omega) (fun k e_ => by cases e_;omega)
  generalize hWb : (Wy.alloc (.cells #[.int .i64 x.f0,.int .i64 x.f1.f0,.int .i64 x.f1.f1] 89)).putObj (W3.heap.size + 1) _ = Wb
  have r0 : ∀ b,b ≠ W3.heap.size + 1 → b < Wy.heap.size → Wb.heap[b]? = Wy.heap[b]?:=by rw [← hWb];exact q0 _
  have r1 : Wb.heap[Wy.heap.size]? = some (.cells #[.int .i64 x.f0,.int .i64 x.f1.f0,.int .i64 x.f1.f1] 89 (0,0)):=by rw [← hWb];exact q1 _
  have r4 : Below W.heap.size Wy Wb:=by rw [← hWb];exact q4 _
  have r2:=hWb ▸ q2 (.loop _)
  have t1 : MapIs Tryz.prog 3 ekI ev43 Wb W.heap.size pre.length M:=b2.keep (r0 _ (by omega) b2.lt)
  have t2 : Wb.heap[W.heap.size + 1]? = some (.cells #[.map (some W.heap.size)] 352 (0,0)):=(r0 _ (by omega) (blk_lt b3)).trans b3
  have t3 : Wb.heap[W3.heap.size]? = some (.deferred (some [])):=(r0 _ (by omega) (blk_lt b5)).trans b5
  have t4 : Below W.heap.size W Wb:=b6.trans r4
  clear q0 q1 q2 q3 q4 hWb r0 r4 b2 b3 b4 b5 b6 hl4 hxm
  have u0:=bd t2 0
  have u1:=bd r1 0
  have HKEY:=am (keyI x.f0 (by omega) (by omega))
  have T1:=am t1
  have T2:=am t2
  have T3:=am t3
  have T4:=am t4
  have R1:=am r1
  have R2:=am r2
  have HXO:=am hxo
  have HS1:=am b1
  have HSF:=am ((sumAll_spec Y.pours pre _ M (fun id r hr => by cases hr) (fun y hy => HPA.out y (by rw [hsp];exact List.mem_append_left _ hy)) b1).1)
  have HSP:=am hsp
  have HPL:=am hpl
  have HSZ':=am hsz
  clear t1 t2 t3 t4 r1 r2 hxo b1 hsp hpl hsz hxr
  have nx : Wy.heap.size ≠ Wb.heap.size:=by have:=blk_lt R1.out;omega
  have nt : W.heap.size + 1 ≠ Wb.heap.size:=by have:=blk_lt T2.out;omega
  have nd : W3.heap.size ≠ Wb.heap.size:=by have:=blk_lt T3.out;omega
  have nl : W3.heap.size + 1 ≠ Wb.heap.size:=by have:=blk_lt R2.out;omega
  have nm : W.heap.size ≠ Wb.heap.size:=by have:=T1.out.lt;omega
  have nb : W.heap.size ≤ Wb.heap.size:=T4.out.size
  have HFX:=am (fineP_of HXO.out.1)
  cases hM : M x.f0 with
 |none =>
   have HM0:=am hM
   clear hM
   gi_wp2_with (refine wpListIn_lookup_map _ rfl _ _ 352 true rfl 3 43 law3 Tryz.underlying352 _ (zero43 _) ekI ev43 W.heap.size pre.length M rfl T1.out x.f0 _ rfl HKEY.out (.tuple #[.agg #[.int .i64 0,.int .i64 0],.bool false]) (by rw [HM0.out];rfl) ?_)
   refine ⟨trivial,(fun h => by cases h),(CallsIn.inRound _ (callsIn_wide.2 (pit_whole.calls 0 0 1 _ rfl))).mono ?_⟩
   rintro e W4 ⟨rfl,hd⟩
   have b1:=(T1.out.alloc (.cells #[.int .i64 0,.int .i64 0] 43)).below hd (T1.out.alloc _).lt
   have b2:=blk_below (blk_alloc T2.out (.cells #[.int .i64 0,.int .i64 0] 43)) hd
   have b3:=blk_below (blk_alloc T3.out (.cells #[.int .i64 0,.int .i64 0] 43)) hd
   have b4:=below_then (below_alloc T4.out (.cells #[.int .i64 0,.int .i64 0] 43)) (below_size (below_alloc T4.out _)) hd
   have bx:=blk_below (blk_alloc R1.out (.cells #[.int .i64 0,.int .i64 0] 43)) hd
   have bl:=blk_below (blk_alloc R2.out (.cells #[.int .i64 0,.int .i64 0] 43)) hd
   have bn:=blk_below (blk_new Wb (.cells #[.int .i64 0,.int .i64 0] 43)) hd
   have g0:=bd bn 0
   have g1:=bd bn 1
   have g2:=blk_frozen bn 0
   have g3:=blk_frozen bn 1
   have cn:=blk_put (cs':=#[.int .i64 0,.int .i64 1]) (blk_put (cs':=#[.int .i64 0,.int .i64 0]) bn 0 (.int .i64 0) rfl) 1 (.int .i64 1) rfl
   have c1:=(b1.keep (w':=(W4.setCell ⟨Wb.heap.size,0,none⟩ (.int .i64 0)).setCell ⟨Wb.heap.size,1,none⟩ (.int .i64 1)) ((Below.heap_setCell _ _ _ _ nm).trans (Below.heap_setCell _ _ _ _ nm)))
   have c2:=blk_far (blk_far b2 (p:=⟨Wb.heap.size,0,none⟩) nt (.int .i64 0)) (p:=⟨Wb.heap.size,1,none⟩) nt (.int .i64 1)
   have c3 : ((W4.setCell ⟨Wb.heap.size,0,none⟩ (.int .i64 0)).setCell ⟨Wb.heap.size,1,none⟩ (.int .i64 1)).heap[W3.heap.size]? = some (.deferred (some [])):=((Below.heap_setCell _ _ _ _ nd).trans (Below.heap_setCell _ _ _ _ nd)).trans b3
   have c4:=(b4.setCell (p:=⟨Wb.heap.size,0,none⟩) nb (.int .i64 0)).setCell (p:=⟨Wb.heap.size,1,none⟩) nb (.int .i64 1)
   have cx:=blk_far (blk_far bx (p:=⟨Wb.heap.size,0,none⟩) nx (.int .i64 0)) (p:=⟨Wb.heap.size,1,none⟩) nx (.int .i64 1)
   have cl:=((Below.heap_setCell (W4.setCell ⟨Wb.heap.size,0,none⟩ (.int .i64 0)) ⟨Wb.heap.size,1,none⟩ (.int .i64 1) _ nl).trans (Below.heap_setCell W4 ⟨Wb.heap.size,0,none⟩ (.int .i64 0) _ nl)).trans bl
   have m0:=bd cn 0
   have m1:=bd cn 1
   have m2:=bd cx 0
   have m3:=bd cx 1
   have m4:=bd cx 2
   clear hd b1 b2 b3 b4 bx bl bn u0 u1
   have HCU:=am (show Rok (wholeP 0) ∧ (wholeP 0).f0 ≤ 68719476736 ∧ (wholeP 0).f1 ≤ 16777216 from ⟨wholeP_ok (Int.le_refl _),by decide,by decide⟩)
   have C1:=am c1;have C2:=am c2;have C3:=am c3;have C4:=am c4;have CX:=am cx;have CL:=am cl;have CN:=am cn
   clear c1 c2 c3 c4 cx cl cn
   have HADD:=am (add_some (a:=wholeP 0) (b:=x.f1) HCU.out.1 HFX.out.1 HCU.out.2.1 HCU.out.2.2 HFX.out.2.1 (by have:=HFX.out.2.2;omega))
   obtain ⟨z,hz⟩ : ∃ z,z = addP (wholeP 0) x.f1:=⟨_,rfl⟩
   rw [← hz] at HADD
   have HZ:=am hz
   clear hz
   gi_wp2_with fail
   have c1:=C1.out;have c2:=C2.out;have c3:=C3.out;have c4:=C4.out;have cx:=CX.out;have cl:=CL.out;have cn:=CN.out;clear C1 C2 C3 C4 CX CL CN g0 g1 g2 g3
   generalize (W4.setCell ⟨Wb.heap.size,0,none⟩ (.int .i64 0)).setCell ⟨Wb.heap.size,1,none⟩ (.int .i64 1) = Wc at c1 c2 c3 c4 cx cl cn m0 m1 m2 m3 m4 ⊢
   refine ⟨trivial,(fun h => by cases h),(CallsIn.inRound _ (callsIn_wide.2 (pit_add.calls FU _ _ _ _ _ _ _ HADD.out))).mono ?_⟩
   rintro e W5 ⟨rfl,hd⟩
   have d1:=c1.below hd c1.lt
   have d2:=blk_below c2 hd
   have d3:=blk_below c3 hd
   have d4:=below_then c4 (below_size c4) hd
   have dx:=blk_below cx hd
   have dl:=blk_below cl hd
   have dn:=blk_below cn hd
   clear hd c1 c2 c3 c4 cx cl cn m0 m1 m2 m3 m4
   have n1:=nx
   have n2:=nt
   have n3:=nd
   have n4:=nl
   have n5:=nm
   have en:=blk_put (cs':=#[.int .i64 z.f0,.int .i64 z.f1]) (blk_put (cs':=#[.int .i64 z.f0,.int .i64 1]) dn 0 (.int .i64 z.f0) rfl) 1 (.int .i64 z.f1) rfl
   have e1:=(d1.keep (w':=(W5.setCell ⟨Wb.heap.size,0,none⟩ (.int .i64 z.f0)).setCell ⟨Wb.heap.size,1,none⟩ (.int .i64 z.f1)) ((Below.heap_setCell _ _ _ _ n5).trans (Below.heap_setCell _ _ _ _ n5)))
   have e2:=blk_far (blk_far d2 (p:=⟨Wb.heap.size,0,none⟩) n2 (.int .i64 z.f0)) (p:=⟨Wb.heap.size,1,none⟩) n2 (.int .i64 z.f1)
   have e3 : ((W5.setCell ⟨Wb.heap.size,0,none⟩ (.int .i64 z.f0)).setCell ⟨Wb.heap.size,1,none⟩ (.int .i64 z.f1)).heap[W3.heap.size]? = some (.deferred (some [])):=((Below.heap_setCell _ _ _ _ n3).trans (Below.heap_setCell _ _ _ _ n3)).trans d3
   have e4:=(d4.setCell (p:=⟨Wb.heap.size,0,none⟩) nb (.int .i64 z.f0)).setCell (p:=⟨Wb.heap.size,1,none⟩) nb (.int .i64 z.f1)
   have ex:=blk_far (blk_far dx (p:=⟨Wb.heap.size,0,none⟩) n1 (.int .i64 z.f0)) (p:=⟨Wb.heap.size,1,none⟩) n1 (.int .i64 z.f1)
   have el:=((Below.heap_setCell (W5.setCell ⟨Wb.heap.size,0,none⟩ (.int .i64 z.f0)) ⟨Wb.heap.size,1,none⟩ (.int .i64 z.f1) _ n4).trans (Below.heap_setCell W5 ⟨Wb.heap.size,0,none⟩ (.int .i64 z.f0) _ n4)).trans dl
   have g0:=bd dn 0
   have g1:=bd dn 1
   have g2:=blk_frozen dn 0
   have g3:=blk_frozen dn 1
   have g4:=bd en 0
   have g5:=bd en 1
   have E1:=am e1
   have E2:=am e2
   have E3:=am e3
   have E4:=am e4
   have EX:=am ex
   have EL:=am el
   have EN:=am en
   clear d1 d2 d3 d4 dx dl dn e1 e2 e3 e4 ex el en n1 n2 n3 n4 n5
   cases hfn : fineP z with
  |false =>
    have HFn:=am hfn
    clear hfn
    gi_wp2_with fail
    generalize (W5.setCell ⟨Wb.heap.size,0,none⟩ (.int .i64 z.f0)).setCell ⟨Wb.heap.size,1,none⟩ (.int .i64 z.f1) = W6 at E1 E2 E3 E4 EX EL EN ⊢
    refine ⟨trivial,(fun h => by cases h),(CallsIn.inRound _ (callsIn_wide.2 (fine_calls z _))).mono ?_⟩
    rintro e W7 ⟨rfl,hd⟩
    rw [HFn.out]
    have F3:=am (blk_below E3.out hd)
    have F4:=am (below_then E4.out (below_size E4.out) hd)
    clear hd g0 g1 g2 g3
    gi_wp2
    refine ⟨rfl,.inr ⟨rfl,?_,F4.out,F3.out⟩⟩
    unfold summedP
    rw [HSP.out,show pre ++ x :: suf = pre ++ ([x] ++ suf) from rfl,sumAll_append,HS1.out]
    simp only [Option.bind_some]
    rw [sumAll_append,sumAll_one_no (by rw [HM0.out,Option.getD_none,← HZ.out];exact HFn.out)]
    rfl
  |true =>
    have HFn:=am hfn
    clear hfn
    gi_wp2_with fail
    generalize (W5.setCell ⟨Wb.heap.size,0,none⟩ (.int .i64 z.f0)).setCell ⟨Wb.heap.size,1,none⟩ (.int .i64 z.f1) = W6 at E1 E2 E3 E4 EX EL EN ⊢
    refine ⟨trivial,(fun h => by cases h),(CallsIn.inRound _ (callsIn_wide.2 (fine_calls z _))).mono ?_⟩
    rintro e W7 ⟨rfl,hd⟩
    rw [HFn.out]
    have F1:=am (E1.out.below hd E1.out.lt)
    have F2:=am (blk_below E2.out hd)
    have F3:=am (blk_below E3.out hd)
    have F4:=am (below_then E4.out (below_size E4.out) hd)
    have FL:=am (blk_below EL.out hd)
    have fx:=blk_below EX.out hd
    have fn:=blk_below EN.out hd
    have k0:=bd F2.out 0
    have k1:=bd fx 0
    have k2:=bd fn 0
    have k3:=bd fn 1
    have hnn : pre.length < maxLen:=by unfold maxLen;have:=HPL.out;omega
    have HNN:=am hnn
    clear hd g0 g1 g2 g3 fx fn hnn
    gi_wp2_with (refine wpListIn_update_map _ rfl _ _ _ 352 rfl 3 43 law3 Tryz.underlying352 ekI ev43 W.heap.size pre.length M rfl F1.out HNN.out x.f0 z _ rfl rfl HKEY.out (fun _ => ekI_inj) ?_;intro W8 hm8 hg8;have M8:=am hm8;have G8:=am hg8;clear hm8 hg8)
    have hz1:=HSZ'.out
    have hml:=F1.out.lt
    have wl : W8.heap[W3.heap.size + 1]? = _:=(G8.out.block (W3.heap.size + 1) (blk_lt FL.out) (by simp;omega)).trans FL.out
    refine ⟨_,_,run_endRound none wl,.inl ⟨rfl,putBy M x.f0 z,?_,?_,?_,?_,?_,?_⟩⟩
    ·rw [sumAll_append,HS1.out]
     simp only [Option.bind_some]
     rw [sumAll_one_ok (by rw [HM0.out,Option.getD_none,← HZ.out];exact HFn.out),HM0.out,Option.getD_none,← HZ.out]
    ·rw [List.length_append,List.length_singleton]
     exact M8.out.keep (World.putObj_heap_other (by omega))
    ·exact (World.putObj_heap_other (by omega)).trans ((G8.out.block (W.heap.size + 1) (blk_lt F2.out) (by simp)).trans F2.out)
    ·exact World.putObj_heap_same (blk_lt wl)
    ·exact (World.putObj_heap_other (by omega)).trans ((G8.out.block W3.heap.size (blk_lt F3.out) (by simp;omega)).trans F3.out)
    ·exact (F4.out.grown G8.out (below_size F4.out) (fun k hk => by cases hk;exact Nat.le_refl _)).grown (grownBy_putObj' _ _ _) (by have:=F4.out.size;have:=G8.out.size;omega) (fun k e_ => by cases e_;omega)
 |some r0 =>
   have HM0:=am hM
   clear hM
   have c1:=T1.out.alloc (.cells #[.int .i64 r0.f0,.int .i64 r0.f1] 43)
   have c2:=blk_alloc T2.out (.cells #[.int .i64 r0.f0,.int .i64 r0.f1] 43)
   have c3:=blk_alloc T3.out (.cells #[.int .i64 r0.f0,.int .i64 r0.f1] 43)
   have c4:=below_alloc T4.out (.cells #[.int .i64 r0.f0,.int .i64 r0.f1] 43)
   have cx:=blk_alloc R1.out (.cells #[.int .i64 r0.f0,.int .i64 r0.f1] 43)
   have cl:=blk_alloc R2.out (.cells #[.int .i64 r0.f0,.int .i64 r0.f1] 43)
   have cn:=blk_new Wb (.cells #[.int .i64 r0.f0,.int .i64 r0.f1] 43)
   have m0:=bd cx 1
   have m1:=bd cx 2
   have m2 : True:=trivial
   have m3 : True:=trivial
   have m4 : True:=trivial
   have HCU:=am (fineP_of' HSF.out HM0.out)
   have C1:=am c1;have C2:=am c2;have C3:=am c3;have C4:=am c4;have CX:=am cx;have CL:=am cl;have CN:=am cn
   clear c1 c2 c3 c4 cx cl cn
   have HADD:=am (add_some (a:=r0) (b:=x.f1) HCU.out.1 HFX.out.1 HCU.out.2.1 HCU.out.2.2 HFX.out.2.1 (by have:=HFX.out.2.2;omega))
   obtain ⟨z,hz⟩ : ∃ z,z = addP (r0) x.f1:=⟨_,rfl⟩
   rw [← hz] at HADD
   have HZ:=am hz
   clear hz
   gi_wp2_with (refine wpListIn_lookup_map _ rfl _ _ 352 true rfl 3 43 law3 Tryz.underlying352 _ (zero43 _) ekI ev43 W.heap.size pre.length M rfl T1.out x.f0 _ rfl HKEY.out (.tuple #[.agg #[.int .i64 r0.f0,.int .i64 r0.f1],.bool true]) (by rw [HM0.out];rfl) ?_)
   have c1:=C1.out;have c2:=C2.out;have c3:=C3.out;have c4:=C4.out;have cx:=CX.out;have cl:=CL.out;have cn:=CN.out;clear C1 C2 C3 C4 CX CL CN u0 u1
   generalize Wb.alloc (.cells #[.int .i64 r0.f0,.int .i64 r0.f1] 43) = Wc at c1 c2 c3 c4 cx cl cn m0 m1 m2 m3 m4 ⊢
   refine ⟨trivial,(fun h => by cases h),(CallsIn.inRound _ (callsIn_wide.2 (pit_add.calls FU _ _ _ _ _ _ _ HADD.out))).mono ?_⟩
   rintro e W5 ⟨rfl,hd⟩
   have d1:=c1.below hd c1.lt
   have d2:=blk_below c2 hd
   have d3:=blk_below c3 hd
   have d4:=below_then c4 (below_size c4) hd
   have dx:=blk_below cx hd
   have dl:=blk_below cl hd
   have dn:=blk_below cn hd
   clear hd c1 c2 c3 c4 cx cl cn m0 m1 m2 m3 m4
   have n1:=nx
   have n2:=nt
   have n3:=nd
   have n4:=nl
   have n5:=nm
   have en:=blk_put (cs':=#[.int .i64 z.f0,.int .i64 z.f1]) (blk_put (cs':=#[.int .i64 z.f0,.int .i64 r0.f1]) dn 0 (.int .i64 z.f0) rfl) 1 (.int .i64 z.f1) rfl
   have e1:=(d1.keep (w':=(W5.setCell ⟨Wb.heap.size,0,none⟩ (.int .i64 z.f0)).setCell ⟨Wb.heap.size,1,none⟩ (.int .i64 z.f1)) ((Below.heap_setCell _ _ _ _ n5).trans (Below.heap_setCell _ _ _ _ n5)))
   have e2:=blk_far (blk_far d2 (p:=⟨Wb.heap.size,0,none⟩) n2 (.int .i64 z.f0)) (p:=⟨Wb.heap.size,1,none⟩) n2 (.int .i64 z.f1)
   have e3 : ((W5.setCell ⟨Wb.heap.size,0,none⟩ (.int .i64 z.f0)).setCell ⟨Wb.heap.size,1,none⟩ (.int .i64 z.f1)).heap[W3.heap.size]? = some (.deferred (some [])):=((Below.heap_setCell _ _ _ _ n3).trans (Below.heap_setCell _ _ _ _ n3)).trans d3
   have e4:=(d4.setCell (p:=⟨Wb.heap.size,0,none⟩) nb (.int .i64 z.f0)).setCell (p:=⟨Wb.heap.size,1,none⟩) nb (.int .i64 z.f1)
   have ex:=blk_far (blk_far dx (p:=⟨Wb.heap.size,0,none⟩) n1 (.int .i64 z.f0)) (p:=⟨Wb.heap.size,1,none⟩) n1 (.int .i64 z.f1)
   have el:=((Below.heap_setCell (W5.setCell ⟨Wb.heap.size,0,none⟩ (.int .i64 z.f0)) ⟨Wb.heap.size,1,none⟩ (.int .i64 z.f1) _ n4).trans (Below.heap_setCell W5 ⟨Wb.heap.size,0,none⟩ (.int .i64 z.f0) _ n4)).trans dl
   have g0:=bd dn 0
   have g1:=bd dn 1
   have g2:=blk_frozen dn 0
   have g3:=blk_frozen dn 1
   have g4:=bd en 0
   have g5:=bd en 1
   have E1:=am e1
   have E2:=am e2
   have E3:=am e3
   have E4:=am e4
   have EX:=am ex
   have EL:=am el
   have EN:=am en
   clear d1 d2 d3 d4 dx dl dn e1 e2 e3 e4 ex el en n1 n2 n3 n4 n5
   cases hfn : fineP z with
  |false =>
    have HFn:=am hfn
    clear hfn
    gi_wp2_with fail
    generalize (W5.setCell ⟨Wb.heap.size,0,none⟩ (.int .i64 z.f0)).setCell ⟨Wb.heap.size,1,none⟩ (.int .i64 z.f1) = W6 at E1 E2 E3 E4 EX EL EN ⊢
    refine ⟨trivial,(fun h => by cases h),(CallsIn.inRound _ (callsIn_wide.2 (fine_calls z _))).mono ?_⟩
    rintro e W7 ⟨rfl,hd⟩
    rw [HFn.out]
    have F3:=am (blk_below E3.out hd)
    have F4:=am (below_then E4.out (below_size E4.out) hd)
    clear hd g0 g1 g2 g3
    gi_wp2
    refine ⟨rfl,.inr ⟨rfl,?_,F4.out,F3.out⟩⟩
    unfold summedP
    rw [HSP.out,show pre ++ x :: suf = pre ++ ([x] ++ suf) from rfl,sumAll_append,HS1.out]
    simp only [Option.bind_some]
    rw [sumAll_append,sumAll_one_no (by rw [HM0.out,Option.getD_some,← HZ.out];exact HFn.out)]
    rfl
  |true =>
    have HFn:=am hfn
    clear hfn
    gi_wp2_with fail
    generalize (W5.setCell ⟨Wb.heap.size,0,none⟩ (.int .i64 z.f0)).setCell ⟨Wb.heap.size,1,none⟩ (.int .i64 z.f1) = W6 at E1 E2 E3 E4 EX EL EN ⊢
    refine ⟨trivial,(fun h => by cases h),(CallsIn.inRound _ (callsIn_wide.2 (fine_calls z _))).mono ?_⟩
    rintro e W7 ⟨rfl,hd⟩
    rw [HFn.out]
    have F1:=am (E1.out.below hd E1.out.lt)
    have F2:=am (blk_below E2.out hd)
    have F3:=am (blk_below E3.out hd)
    have F4:=am (below_then E4.out (below_size E4.out) hd)
    have FL:=am (blk_below EL.out hd)
    have fx:=blk_below EX.out hd
    have fn:=blk_below EN.out hd
    have k0:=bd F2.out 0
    have k1:=bd fx 0
    have k2:=bd fn 0
    have k3:=bd fn 1
    have hnn : pre.length < maxLen:=by unfold maxLen;have:=HPL.out;omega
    have HNN:=am hnn
    clear hd g0 g1 g2 g3 fx fn hnn
    gi_wp2_with (refine wpListIn_update_map _ rfl _ _ _ 352 rfl 3 43 law3 Tryz.underlying352 ekI ev43 W.heap.size pre.length M rfl F1.out HNN.out x.f0 z _ rfl rfl HKEY.out (fun _ => ekI_inj) ?_;intro W8 hm8 hg8;have M8:=am hm8;have G8:=am hg8;clear hm8 hg8)
    have hz1:=HSZ'.out
    have hml:=F1.out.lt
    have wl : W8.heap[W3.heap.size + 1]? = _:=(G8.out.block (W3.heap.size + 1) (blk_lt FL.out) (by simp;omega)).trans FL.out
    refine ⟨_,_,run_endRound none wl,.inl ⟨rfl,putBy M x.f0 z,?_,?_,?_,?_,?_,?_⟩⟩
    ·rw [sumAll_append,HS1.out]
     simp only [Option.bind_some]
     rw [sumAll_one_ok (by rw [HM0.out,Option.getD_some,← HZ.out];exact HFn.out),HM0.out,Option.getD_some,← HZ.out]
    ·rw [List.length_append,List.length_singleton]
     exact M8.out.keep (World.putObj_heap_other (by omega))
    ·exact (World.putObj_heap_other (by omega)).trans ((G8.out.block (W.heap.size + 1) (blk_lt F2.out) (by simp)).trans F2.out)
    ·exact World.putObj_heap_same (blk_lt wl)
    ·exact (World.putObj_heap_other (by omega)).trans ((G8.out.block W3.heap.size (blk_lt F3.out) (by simp;omega)).trans F3.out)
    ·exact (F4.out.grown G8.out (below_size F4.out) (fun k hk => by cases hk;exact Nat.le_refl _)).grown (grownBy_putObj' _ _ _) (by have:=F4.out.size;have:=G8.out.size;omega) (fun k e_ => by cases e_;omega)
 case fin =>
  subst hrec
  rintro e W4 (⟨⟨v0,rfl⟩,M,b1,b2,b3,b4,b5,b6⟩|⟨rfl,hs,b6,b5⟩)
  ·refine ⟨_,_,run_endLoop b4 (by intro h_;cases h_),?_⟩
   have hsz3:=HSZ.out
   have hpo:=HY.out.pours
   obtain ⟨Ao,co,hvo⟩:=Kd.R_slice hpo
   rw [hvo] at hpo
   have hpr:=Kd.R_reads' hpo
   have hpl:=hpr.2.2.2.1
   have gb:=HY.out.blk
   rw [hvo] at gb
   have c0 : ∀ ob,Below W.heap.size W (W4.putObj (W3.heap.size + 1) ob):=fun ob => b6.grown (grownBy_putObj' _ _ _) b6.size (fun k e_ => by cases e_;omega)
   have c2 : ∀ ob,MapIs Tryz.prog 3 ekI ev43 (W4.putObj (W3.heap.size + 1) ob) W.heap.size (partsP l).length M:=fun ob => b2.keep (World.putObj_heap_other (by omega))
   have c3 : ∀ ob,(W4.putObj (W3.heap.size + 1) ob).heap[W.heap.size + 1]? = some (.cells #[.map (some W.heap.size)] 352 (0,0)):=fun ob => (World.putObj_heap_other (by omega)).trans b3
   have c5 : ∀ ob,(W4.putObj (W3.heap.size + 1) ob).heap[W3.heap.size]? = some (.deferred (some [])):=fun ob => (World.putObj_heap_other (by omega)).trans b5
   dsimp only
   generalize hW6 : W4.putObj (W3.heap.size + 1) _ = W6
   have C0:=am (hW6 ▸ c0 _)
   have C2:=am (hW6 ▸ c2 _)
   have C3:=am (hW6 ▸ c3 _)
   have C5:=am (hW6 ▸ c5 _)
   have HM1:=am b1
   clear c0 c2 c3 c5 b1 b2 b3 b4 b5 b6 hW6
   have g2 : W6.cell? ⟨L.g,2,none⟩ = some (.slice Ao Y.pours.length co):=by
    rw [hpr.1] at gb
    exact (blk_cell (blk_below gb C0.out) 2).trans rfl
   have HPO:=am hpr.2.2
   have HML:=HPI
   have hnp:=HNP.out
   clear hpo hpr gb hvo hsz3
   refine wpIn_wide.2 ?_
   go_wp2
   simp only [List.cons_append,List.nil_append]
   go_loopw [9,46] (fun v9 v46 wr => ∃ (j : Nat) (q : List S89),j ≤ Y.pours.length ∧ v46 = .int .i64 (j : Int) ∧ q.length ≤ j ∧ Aside0 (Below W.heap.size W wr) ∧ Aside0 (MapIs Tryz.prog 3 ekI ev43 wr W.heap.size (partsP l).length M) ∧ Aside0 (wr.heap[W.heap.size + 1]? = some (.cells #[.map (some W.heap.size)] 352 (0,0))) ∧ Aside0 (wr.heap[W3.heap.size]? = some (.deferred (some []))) ∧ Aside0 (Kd.R k89 89 wr W.heap.size (fun _ => True) v9 q) ∧ Aside0 (outOf M Y.pours = q ++ outOf M (Y.pours.drop j))) (fun _ v46 _ => Y.pours.length - (intOf v46).toNat)
   case atStart => exact ⟨0,[],Nat.zero_le _,rfl,Nat.le_refl _,C0,C2,C3,C5,⟨Kd.R_nil _ _ _ _ _⟩,⟨by simp⟩⟩
   case round =>
    clear C0 C2 C3 C5 g2
    obtain ⟨j,q,hj,rfl,hql,D0,D2,D3,D5,HV,HO⟩:=hrel
    obtain ⟨Av,cv,rfl⟩:=Kd.R_slice HV.out
    by_cases hlt : j < Y.pours.length
    ·obtain ⟨ae,e,hx0⟩:=Kd.at_int (Kd.C_below HPO.out D0.out) (j : Int) (by omega) (by omega)
     cases e
     rw [Int.toNat_natCast] at hx0
     have HDR:=am (List.drop_eq_getElem_cons hlt)
     have hmem : rd Y.pours (j : Int) = Y.pours[j]:=by unfold rd;rw [Int.toNat_natCast,List.getD_eq_getElem?_getD,List.getElem?_eq_getElem hlt];rfl
     obtain ⟨id,hid⟩ : ∃ id,id = rd Y.pours (j : Int):=⟨_,rfl⟩
     rw [← hid] at hx0 hmem
     have hidr:=HML.out id (by rw [hmem];exact List.getElem_mem hlt)
     rw [← hmem] at HDR
     have HKEY:=am (keyI id (by omega) (by omega))
     clear hid hmem hidr
     have u0:=bd D3.out 0
     cases hM : M id with
    |none =>
      have HM0:=am hM
      clear hM
      go_wp2_with (refine wpList_lookup_map _ rfl _ _ 352 true rfl 3 43 law3 Tryz.underlying352 _ (zero43 _) ekI ev43 W.heap.size (partsP l).length M rfl D2.out id _ rfl HKEY.out (.tuple #[.agg #[.int .i64 0,.int .i64 0],.bool false]) (by rw [HM0.out];rfl) ?_)
      go_roundw
      case rel =>
       refine ⟨j + 1,q,by omega,by go_num,by omega,⟨below_alloc D0.out _⟩,⟨D2.out.alloc _⟩,⟨blk_alloc D3.out _⟩,⟨blk_alloc D5.out _⟩,⟨Kd.R_alloc HV.out _⟩,⟨?_⟩⟩
       rw [HO.out,HDR.out]
       simp only [outOf]
       rw [HM0.out]
      case measure => simp [intOf];omega
    |some r =>
      have HM0:=am hM
      clear hM
      have m0 : (wr.alloc (.cells #[.int .i64 r.f0,.int .i64 r.f1] 43)).cell? ⟨wr.heap.size,0,none⟩ = some (.int .i64 r.f0):=(blk_cell (blk_new wr _) 0).trans rfl
      have HB1:=am (below_alloc D0.out (.cells #[.int .i64 r.f0,.int .i64 r.f1] 43))
      have E2:=am (D2.out.alloc (.cells #[.int .i64 r.f0,.int .i64 r.f1] 43))
      have E3:=am (blk_alloc D3.out (.cells #[.int .i64 r.f0,.int .i64 r.f1] 43))
      have E5:=am (blk_alloc D5.out (.cells #[.int .i64 r.f0,.int .i64 r.f1] 43))
      have HV1:=am (Kd.R_alloc HV.out (.cells #[.int .i64 r.f0,.int .i64 r.f1] 43))
      have HBS:=am (below_size HB1.out)
      go_wp2_with (first
      |refine wpList_lookup_map _ rfl _ _ 352 true rfl 3 43 law3 Tryz.underlying352 _ (zero43 _) ekI ev43 W.heap.size (partsP l).length M rfl D2.out id _ rfl HKEY.out (.tuple #[.agg #[.int .i64 r.f0,.int .i64 r.f1],.bool true]) (by rw [HM0.out];rfl) ?_
      |(at_builtin;refine Kd.R_append k89 (w0:=W) W.heap.size rfl _ _ 55 89 (.agg #[.int .i64 0,.int .i64 0,.int .i64 0]) 24 rfl Tryz.underlying55 info89 rfl (by decide) (by decide) (.slice Av q.length cv) q ⟨id,r⟩ [.int .i64 id,.int .i64 r.f0,.int .i64 r.f1] (fun _ => True) (fun k => k < (wr.alloc (.cells #[.int .i64 r.f0,.int .i64 r.f1] 43)).heap.size ∧ some k ≠ (Value.slice Av q.length cv).ownBlock) rfl (by rw [show (wr.alloc (.cells #[.int .i64 r.f0,.int .i64 r.f1] 43)).heap.size = wr.heap.size + 1 by simp];rfl) (k89_mkM _ _ _ ⟨id,r⟩) (fun k hk => ⟨trivial,hk.2⟩) (fun _ _ => trivial) HV1.out HB1.out HBS.out (by omega) ?_;intro v3 w3 hr3 hb3 hg3 hat3;obtain ⟨A3,c3,rfl⟩:=Kd.R_slice hr3;rw [List.length_append,List.length_singleton] at hr3 hat3 ⊢;have HR3:=am hr3;have HB3:=am hb3;have HG3:=am hg3;clear hr3 hb3 hg3 hat3))
      go_roundw
      case rel =>
       have hz3:=HSZ.out
       refine ⟨j + 1,q ++ [⟨id,r⟩],by omega,by go_num,by simp only [List.length_append,List.length_singleton];omega,?_,?_,?_,?_,?_,⟨?_⟩⟩
       ·exact HB3
       ·exact ⟨E2.out.keep (HG3.out.block _ E2.out.lt (fun e => by
         obtain ⟨es,clock,hb,_⟩:=E2.out
         obtain ⟨cl,hcl⟩:=Kd.R_typed HV1.out _ e.symm
         rw [hb] at hcl
         cases hcl))⟩
       ·exact ⟨blk_grown E3.out HG3.out (Kd.R_ne HV1.out E3.out (by decide))⟩
       ·exact ⟨(HG3.out.block _ (blk_lt E5.out) (fun e => by
         obtain ⟨cl,hcl⟩:=Kd.R_typed HV1.out _ e.symm
         rw [E5.out] at hcl
         cases hcl)).trans E5.out⟩
       ·exact HR3
       ·rw [HO.out,HDR.out]
        simp only [outOf]
        rw [HM0.out]
        simp
      case measure => simp [intOf];omega
    ·have hje : j = Y.pours.length:=by omega
     have ho:=HO.out
     rw [List.drop_eq_nil_of_le (by omega)] at ho
     have HOO:=am (show outOf M Y.pours = q by rw [ho];simp [outOf])
     clear ho hje
     go_wp2
     refine ⟨by simp,.inl ⟨_,_,rfl,run_takeDeferred D5.out,?_⟩⟩
     refine ⟨_,results_tmp rfl _ _ _,?_,.inr ⟨q,Av,cv,?_,rfl,(Kd.R_reads' HV.out).2.1,?_⟩⟩
     ·exact D0.out.grown (grownBy_putObj' _ _ _) D0.out.size (fun k e_ => by cases e_;have:=HSZ.out;omega)
     ·unfold summedP
      rw [HM1.out]
      simp [HOO.out]
     ·have hF:=Kd.R_bound (R_own_move (w1:=wr.putObj W3.heap.size (.deferred none)) rfl HV.out (fun k hk => World.putObj_heap_other (fun e => by
       obtain ⟨cl,hcl⟩:=Kd.R_typed HV.out _ hk
       rw [e,D5.out] at hcl
       cases hcl)))
      exact Kd.F_mono (Kd.R_F hF) (fun k hk => hk.2.1)
  ·refine ⟨by simp,.inl ⟨_,_,rfl,run_takeDeferred b5,?_⟩⟩
   refine ⟨?_,.inl ⟨hs,rfl⟩⟩
   exact b6.grown (grownBy_putObj' _ _ _) b6.size (fun k e_ => by cases e_;have:=HSZ.out;omega)
end
def R222_4.T : Bool × List (List Nat × List Nat):=(true,[([],[]),([],[]),([1],[1]),([2],[2]),([3],[3]),([],[]),([5],[5]),([],[]),([],[]),([8],[8]),([],[]),([],[]),([10,11],[10,11]),([6,7,9,12],[6,7,9,12]),([13],[13]),([4,14,12],[4,14]),([0,0,1,2,3,4,5,6,7,8,9,10,11,12,13,14,15],[0]),([16,0,1,2,3,4,5,6,7,8,9,10,11,12,13,14,15],[16]),([17,15,15,0,1,2,3,4,5,6,7,8,9,10,11,12,13,14,15],[15,17])])
def R222_4.B : List Nat:=[0,0,2,6,14,0,32,0,0,256,0,0,3072,8160,16352,32766,65535,131071,262143]
theorem R222_4.tab : rtab .any (opsOf Tryz.f222 4) = R222_4.T:=by kernel_rfl
theorem R222_4.bits : waitsOk R222_4.T.2 R222_4.B = true:=by kernel_rfl
def StepPost (W : World) (base : Nat) (L : Loc) (r : Except Int Yd) (e : Ending) (W' : World) : Prop :=
 Below base W W' ∧ ∃ L',L'.g = L.g ∧ Fr W L W' L' ∧ (match r with
 |.ok Y' => e = .returned (.tuple #[]) ∧ YardAt W' base L' Y'
 |.error c => e = Pan c)
theorem StepPost.err {W W' : World} {base : Nat} {L L' : Loc} {c : Int} (hb : Below base W W') (hg : L'.g = L.g) (h : Fr W L W' L') : StepPost W base L (.error c) (Pan c) W':=⟨hb,L',hg,h,rfl⟩
theorem StepPost.err0 {W W' : World} {base : Nat} {L : Loc} {Y : Yd} {c : Int} (hY : YardAt W base L Y) (hb : Below W.heap.size W W') : StepPost W base L (.error c) (Pan c) W' :=
 ⟨hb.mono (by have:=hY.gLt;omega),L,rfl,Fr.of_below L hb,rfl⟩
theorem StepPost.done {W W' : World} {base : Nat} {L L' : Loc} {Y' : Yd} (hb : Below base W W') (hg : L'.g = L.g) (h : Fr W L W' L') (hY : YardAt W' base L' Y') : StepPost W base L (.ok Y') (.returned (.tuple #[])) W':=⟨hb,L',hg,h,rfl,hY⟩
theorem info167 : (Tryz.prog.info? 167).map (fun i => (i.zero,i.size,i.bytes)) = some (some (.agg #[.int .i64 0,.int .i64 0,.int .i64 0,.slice none 0 0]),4,48):=by kernel_rfl
theorem takeP_old {Y : Yd} {s : S84} {k : Int} (h : isNew Y s.f0 = false) : takeP Y s k = .error 6:=by unfold takeP;rw [if_neg (by rw [h];simp)]
theorem takeP_little {Y : Yd} {s : S84} {k : Int} (h : isNew Y s.f0 = true) (h2 : ¬ s.f5 ≤ heldP (pitP Y s.f3)) : takeP Y s k = .error 4:=by unfold takeP;rw [if_pos h,if_neg h2]
theorem takeP_ahead {Y : Yd} {s : S84} {k : Int} (h : isNew Y s.f0 = true) (h2 : s.f5 ≤ heldP (pitP Y s.f3)) (h3 : aheadP (pitP Y s.f3) s.f5 = none) : takeP Y s k = .error 3:=by unfold takeP;rw [if_pos h,if_pos h2,h3]
theorem takeP_sum {Y : Yd} {s : S84} {k : Int} (h : isNew Y s.f0 = true) (h2 : s.f5 ≤ heldP (pitP Y s.f3)) {a b : List S212} (h3 : aheadP (pitP Y s.f3) s.f5 = some (a,b)) (h4 : summedP Y.pours a = none) : takeP Y s k = .error 3:=by unfold takeP;rw [if_pos h,if_pos h2,h3];simp only;rw [h4]
theorem takeP_ok {Y : Yd} {s : S84} {k : Int} (h : isNew Y s.f0 = true) (h2 : s.f5 ≤ heldP (pitP Y s.f3)) {a b : List S212} (h3 : aheadP (pitP Y s.f3) s.f5 = some (a,b)) {ps : List S89} (h4 : summedP Y.pours a = some ps) :
  takeP Y s k = .ok { Y with pits:=Y.pits.set s.f3.toNat b,barrows:=Y.barrows ++ [⟨s.f0,k,s.f5,ps⟩] }:=by unfold takeP;rw [if_pos h,if_pos h2,h3];simp only;rw [h4]
set_option maxRecDepth 100000 in
set_option maxHeartbeats 4000000 in
theorem take_calls {W : World} {base m : Nat} {L : Loc} {Y : Yd} (hY : YardAt W base L Y) (hw : Wf m Y) (hm : m ≤ 60) (s : S84) (step : Int) (h0 : 0 ≤ s.f3) (h1 : s.f3 < Y.rooms.length) (hn1 : 1 ≤ s.f5) (hn2 : s.f5 ≤ 1000) :
  Calls Tryz.prog 222 #[.pointer (some ⟨L.g,0,none⟩),.agg #[.int .i64 s.f0,.int .i64 s.f1,.int .i64 s.f2,.int .i64 s.f3,.int .i64 s.f4,.int .i64 s.f5],.int .i64 step] W fun e W' => StepPost W base L (takeP Y s step) e W':=by
 have hu:=Tryz.underlying84
 obtain ⟨p1,p2,p3,p4⟩:=hw.pitOk h0 h1
 have HY:=am hY
 have HW:=am hw
 have HP1:=am p1
 have HY1:=am (hY.move (below_alloc (Below.refl W.heap.size W) (.cells #[.int .i64 s.f0,.int .i64 s.f1,.int .i64 s.f2,.int .i64 s.f3,.int .i64 s.f4,.int .i64 s.f5] 84)))
 have HB1:=am (below_alloc (Below.refl W.heap.size W) (.cells #[.int .i64 s.f0,.int .i64 s.f1,.int .i64 s.f2,.int .i64 s.f3,.int .i64 s.f4,.int .i64 s.f5] 84))
 have HX1:=am (blk_new W (.cells #[.int .i64 s.f0,.int .i64 s.f1,.int .i64 s.f2,.int .i64 s.f3,.int .i64 s.f4,.int .i64 s.f5] 84))
 have HNX:=am (hY.not_new (Nat.le_refl W.heap.size))
 have hbw : base ≤ W.heap.size:=by have:=hY.gLt;omega
 clear hY hw p1 p2 p3 p4
 cases hnew : isNew Y s.f0 with
|false =>
  have HNW:=am hnew
  clear hnew
  rw [takeP_old HNW.out]
  go_enter Tryz.func222,Tryz.ntmps222
  go_wp2_with fail
  refine (fresh_calls HY1.out HW.out hm s.f0).mono ?_
  rintro e w1 ⟨rfl,hd⟩
  rw [freshE_no HNW.out]
  have HD:=am hd
  clear hd
  unfold Pan
  go_wp2
  exact ⟨rfl,StepPost.err0 HY.out (below_then HB1.out (below_size HB1.out) HD.out)⟩
|true =>
  have HNW:=am hnew
  clear hnew
  by_cases hen : s.f5 ≤ heldP (pitP Y s.f3)
  ·have HEN:=am hen
   clear hen
   cases hah : aheadP (pitP Y s.f3) s.f5 with
  |none =>
    have HAH:=am hah
    clear hah
    rw [takeP_ahead HNW.out HEN.out HAH.out]
    go_enter Tryz.func222,Tryz.ntmps222
    go_wp2_with fail
    refine (fresh_calls HY1.out HW.out hm s.f0).mono ?_
    rintro e w1 ⟨rfl,hd⟩
    rw [freshE_ok HNW.out]
    have HB2:=am (below_then HB1.out (below_size HB1.out) hd)
    have HX2:=am (blk_below HX1.out hd)
    have HY2:=am (HY1.out.move hd)
    have g0a:=bd HX2.out 0
    have g1a:=bd HX2.out 1
    have g2a:=bd HX2.out 2
    have g3a:=bd HX2.out 3
    have g4a:=bd HX2.out 4
    have g5a:=bd HX2.out 5
    clear hd
    go_wp2_with fail
    refine (enough_calls HY2.out HW.out s h0 h1).mono ?_
    rintro e w2 ⟨rfl,hd⟩
    rw [show enoughE Y s.f3 s.f5 = .returned (.tuple #[]) from if_pos HEN.out]
    have HB3:=am (below_then HB2.out (below_size HB2.out) hd)
    have HX3:=am (blk_below HX2.out hd)
    have HY3:=am (HY2.out.move hd)
    clear hd g0a g1a g2a g3a g4a g5a
    have g0b:=bd HX3.out 0
    have g1b:=bd HX3.out 1
    have g2b:=bd HX3.out 2
    have g3b:=bd HX3.out 3
    have g4b:=bd HX3.out 4
    have g5b:=bd HX3.out 5
    go_wp2_with fail
    refine (ahead_calls HY3.out HW.out s.f3 s.f5 h0 h1 hn1 hn2 HEN.out).mono ?_
    rintro e w3 ⟨hd,h⟩
    rcases h with ⟨_,rfl,hd2⟩|⟨a,b,A,c,h,_⟩
    ·have HD:=am hd2
     clear hd hd2
     unfold Pan
     go_wp2
     exact ⟨rfl,StepPost.err0 HY.out (below_then HB3.out (below_size HB3.out) HD.out)⟩
    ·rw [HAH.out] at h;cases h
  |some x =>
    obtain ⟨a,b⟩:=x
    have HAH:=am hah
    clear hah
    have hsp:=aheadP_spec Y.pours (pitP Y s.f3) s.f5 HP1.out (by omega) HEN.out a b HAH.out
    have HPA:=am hsp.1
    have HLA:=am (show a.length ≤ 4096 by have:=held_ge hsp.1;have:=hsp.2.2.1;omega)
    clear hsp
    cases hsm : summedP Y.pours a with
   |none =>
     have HSM:=am hsm
     clear hsm
     rw [takeP_sum HNW.out HEN.out HAH.out HSM.out]
     go_enter Tryz.func222,Tryz.ntmps222
     go_wp2_with fail
     refine (fresh_calls HY1.out HW.out hm s.f0).mono ?_
     rintro e w1 ⟨rfl,hd⟩
     rw [freshE_ok HNW.out]
     have HB2:=am (below_then HB1.out (below_size HB1.out) hd)
     have HX2:=am (blk_below HX1.out hd)
     have HY2:=am (HY1.out.move hd)
     have g0a:=bd HX2.out 0
     have g1a:=bd HX2.out 1
     have g2a:=bd HX2.out 2
     have g3a:=bd HX2.out 3
     have g4a:=bd HX2.out 4
     have g5a:=bd HX2.out 5
     clear hd
     go_wp2_with fail
     refine (enough_calls HY2.out HW.out s h0 h1).mono ?_
     rintro e w2 ⟨rfl,hd⟩
     rw [show enoughE Y s.f3 s.f5 = .returned (.tuple #[]) from if_pos HEN.out]
     have HB3:=am (below_then HB2.out (below_size HB2.out) hd)
     have HX3:=am (blk_below HX2.out hd)
     have HY3:=am (HY2.out.move hd)
     clear hd g0a g1a g2a g3a g4a g5a
     have g0b:=bd HX3.out 0
     have g1b:=bd HX3.out 1
     have g2b:=bd HX3.out 2
     have g3b:=bd HX3.out 3
     have g4b:=bd HX3.out 4
     have g5b:=bd HX3.out 5
     go_wp2_with fail
     refine (ahead_calls HY3.out HW.out s.f3 s.f5 h0 h1 hn1 hn2 HEN.out).mono ?_
     rintro e w3 ⟨hd,h⟩
     rcases h with ⟨h,_⟩|⟨a',b',A,c,h,rfl,hlc,hY4,hfr,hFa⟩
     ·rw [HAH.out] at h;cases h
     rw [HAH.out] at h
     injection h with h
     injection h with ha hb
     subst ha
     subst hb
     have q:=hfr.keep W.heap.size (blk_lt HX3.out) HNX.out
     have hx4:=q.1.trans HX3.out
     have HX5:=am (blk_drew hx4)
     have HY5:=am (hY4.move (below_drew (Below.refl _ w3)))
     have HF5:=am (Kd.F_drew hFa)
     have HR5:=am (((Fr.of_below L HB3.out).trans hfr).trans (Fr.of_below L (below_drew (Below.refl _ w3))))
     have HB5:=am (below_drew ((HB3.out.mono hbw).trans hd))
     have HLC:=am hlc
     have g0c:=bd hx4 0
     clear hd q hx4 hlc hY4 hfr hFa g0b g1b g2b g3b g4b g5b
     go_wp2
     refine start_ (n:=19) (S:=fun w' => w'.cell? ⟨L.g,4,none⟩ = some L.vb ∧ w'.cell? ⟨W.heap.size,0,none⟩ = some (.int .i64 s.f0) ∧ w'.cell? ⟨W.heap.size,5,none⟩ = some (.int .i64 s.f5)) (ds:=[18]) (ab 19 0) kr rfl kr ⟨(blk_cell HY5.out.blk 4).trans rfl,(blk_cell HX5.out 0).trans rfl,(blk_cell HX5.out 5).trans rfl⟩ (fun hHeld => ?_);refine with_tabW R222_4.tab R222_4.bits (fun HT_ HW_ => ?_)
     generalize (w3).drew = wd at HY5 HX5 HF5 HR5 HB5 hHeld ⊢
     refine qA 0 (some 20) ?_;refine qA 1 (some 21) ?_;refine qA 2 (some 22) ?_;refine qA 3 (some 23) ?_;refine qT 4 (some 24) ?_;refine qA 5 (some 25) ?_;refine qT 6 (some 26) ?_;refine qA 7 (some 27) ?_;refine qA 8 (some 28) ?_;refine qT 9 (some 29) ?_;refine qA 10 (some 30) ?_;refine qA 11 (some 31) ?_
     refine qE 12 (some 32) fun K hK => ?_
     refine goesP_ Tryz.func245 kr rfl #[.pointer (some ⟨L.g,0,none⟩),.slice A a.length c] (by rfl) rfl vn ?_
     refine (callsIn_wide.1 (summed_in 3 (Nat.le_refl 3) HY5.out HW.out.pid HW.out.npours hm A c a HPA.out HLA.out (Kd.F_now HF5.out) HLC.out)).mono ?_
     rintro e w5 ⟨hB5,h⟩
     rcases h with ⟨_,rfl⟩|⟨ps,Ap,cp,h,_⟩
     ·exact ⟨_,rfl,rfl,StepPost.err (HB5.out.trans (hB5.mono (Nat.le_trans hbw HB5.out.size))) rfl (HR5.out.trans (Fr.of_below L hB5))⟩
     ·rw [show ({ Y with pits:=Y.pits.set s.f3.toNat b } : Yd).pours = Y.pours from rfl,HSM.out] at h;cases h
   |some ps =>
     have HSM:=am hsm
     clear hsm
     rw [takeP_ok HNW.out HEN.out HAH.out HSM.out]
     go_enter Tryz.func222,Tryz.ntmps222
     go_wp2_with fail
     refine (fresh_calls HY1.out HW.out hm s.f0).mono ?_
     rintro e w1 ⟨rfl,hd⟩
     rw [freshE_ok HNW.out]
     have HB2:=am (below_then HB1.out (below_size HB1.out) hd)
     have HX2:=am (blk_below HX1.out hd)
     have HY2:=am (HY1.out.move hd)
     have g0a:=bd HX2.out 0
     have g1a:=bd HX2.out 1
     have g2a:=bd HX2.out 2
     have g3a:=bd HX2.out 3
     have g4a:=bd HX2.out 4
     have g5a:=bd HX2.out 5
     clear hd
     go_wp2_with fail
     refine (enough_calls HY2.out HW.out s h0 h1).mono ?_
     rintro e w2 ⟨rfl,hd⟩
     rw [show enoughE Y s.f3 s.f5 = .returned (.tuple #[]) from if_pos HEN.out]
     have HB3:=am (below_then HB2.out (below_size HB2.out) hd)
     have HX3:=am (blk_below HX2.out hd)
     have HY3:=am (HY2.out.move hd)
     clear hd g0a g1a g2a g3a g4a g5a
     have g0b:=bd HX3.out 0
     have g1b:=bd HX3.out 1
     have g2b:=bd HX3.out 2
     have g3b:=bd HX3.out 3
     have g4b:=bd HX3.out 4
     have g5b:=bd HX3.out 5
     go_wp2_with fail
     refine (ahead_calls HY3.out HW.out s.f3 s.f5 h0 h1 hn1 hn2 HEN.out).mono ?_
     rintro e w3 ⟨hd,h⟩
     rcases h with ⟨h,_⟩|⟨a',b',A,c,h,rfl,hlc,hY4,hfr,hFa⟩
     ·rw [HAH.out] at h;cases h
     rw [HAH.out] at h
     injection h with h
     injection h with ha hb
     subst ha
     subst hb
     have q:=hfr.keep W.heap.size (blk_lt HX3.out) HNX.out
     have hx4:=q.1.trans HX3.out
     have HX5:=am (blk_drew hx4)
     have HY5:=am (hY4.move (below_drew (Below.refl _ w3)))
     have HF5:=am (Kd.F_drew hFa)
     have HR5:=am (((Fr.of_below L HB3.out).trans hfr).trans (Fr.of_below L (below_drew (Below.refl _ w3))))
     have HB5:=am (below_drew ((HB3.out.mono hbw).trans hd))
     have HLC:=am hlc
     have g0c:=bd hx4 0
     clear hd q hx4 hlc hY4 hfr hFa g0b g1b g2b g3b g4b g5b
     go_wp2
     refine start_ (n:=19) (S:=fun w' => w'.cell? ⟨L.g,4,none⟩ = some L.vb ∧ w'.cell? ⟨W.heap.size,0,none⟩ = some (.int .i64 s.f0) ∧ w'.cell? ⟨W.heap.size,5,none⟩ = some (.int .i64 s.f5)) (ds:=[18]) (ab 19 0) kr rfl kr ⟨(blk_cell HY5.out.blk 4).trans rfl,(blk_cell HX5.out 0).trans rfl,(blk_cell HX5.out 5).trans rfl⟩ (fun hHeld => ?_);refine with_tabW R222_4.tab R222_4.bits (fun HT_ HW_ => ?_)
     generalize (w3).drew = wd at HY5 HX5 HF5 HR5 HB5 hHeld ⊢
     refine qA 0 (some 20) ?_;refine qA 1 (some 21) ?_;refine qA 2 (some 22) ?_;refine qA 3 (some 23) ?_;refine qT 4 (some 24) ?_;refine qA 5 (some 25) ?_;refine qT 6 (some 26) ?_;refine qA 7 (some 27) ?_;refine qA 8 (some 28) ?_;refine qT 9 (some 29) ?_;refine qA 10 (some 30) ?_;refine qA 11 (some 31) ?_
     refine qE 12 (some 32) fun K hK => ?_
     refine gC Tryz.func245 #[.pointer (some ⟨L.g,0,none⟩),.slice A a.length c] ?_
     refine (callsIn_wide.1 (summed_in 3 (Nat.le_refl 3) HY5.out HW.out.pid HW.out.npours hm A c a HPA.out HLA.out (Kd.F_now HF5.out) HLC.out)).mono ?_
     rintro e w5 ⟨hB5,h⟩
     rcases h with ⟨h,_⟩|⟨ps',Ap,cp,h,rfl,hlp,hFp⟩
     ·rw [show ({ Y with pits:=Y.pits.set s.f3.toNat b } : Yd).pours = Y.pours from rfl,HSM.out] at h;cases h
     have hpe : ps = ps':=by rw [show ({ Y with pits:=Y.pits.set s.f3.toNat b } : Yd).pours = Y.pours from rfl,HSM.out] at h;injection h
     subst hpe
     have HY6:=am (HY5.out.move hB5)
     have HX6:=am (blk_below HX5.out hB5)
     have HR6:=am (HR5.out.trans (Fr.of_below L hB5))
     have HB6:=am (HB5.out.trans (hB5.mono (Nat.le_trans hbw HB5.out.size)))
     have HF6:=am (k167_mkF w5 L.Not ⟨s.f0,step,s.f5,ps⟩ hlp (Kd.F_mono hFp (fun k hk => HY5.out.not_new hk)))
     clear hB5 h hlp hFp
     refine ⟨_,rfl,?_⟩
     refine hK.out _ _ ⟨(blk_cell HY6.out.blk 4).trans rfl,(blk_cell HX6.out 0).trans rfl,(blk_cell HX6.out 5).trans rfl⟩ (fun hHeld => ?_)
     clear hK K
     refine qN (some 32) ?_
     refine qA 13 (some 33) ?_
     refine qE 14 (some 34) fun K hK => ?_
     refine value_ (w1:=?_) (v:=?_) (by rfl) rfl ?_ ?_
     rotate_left 2
     ·go_simp
      constructor
      ·rfl
      ·rfl
     refine hK.out _ _ ⟨(blk_cell (blk_alloc HY6.out.blk _) 4).trans rfl,(blk_cell (blk_alloc HX6.out _) 0).trans rfl,(blk_cell (blk_alloc HX6.out _) 5).trans rfl⟩ (fun hHeld => ?_)
     clear hK K
     refine qN (some 34) ?_
     refine qE 15 (some 35) fun K hK => ?_
     refine Kd.R_append_step (ft k167 w5 L.Not) (w0:=w5) base (by rfl) (.tmp 24) (.tmp 34) 163 167 (.agg #[.int .i64 0,.int .i64 0,.int .i64 0,.slice none 0 0]) 48 rfl Tryz.underlying163 info167 rfl (by show 0 < k167.sz;decide) (by decide) L.vb Y.barrows ⟨s.f0,step,s.f5,ps⟩ [.int .i64 s.f0,.int .i64 step,.int .i64 s.f5,.slice Ap ps.length cp] (fun _ => True) (fun k => some k ≠ L.vb.ownBlock) rfl rfl HF6.out (fun k hk => ⟨trivial,hk⟩) (fun _ _ => trivial) HY6.out.barrows (Below.refl _ _) (Nat.le_trans hbw HB6.out.size) ?aL ?_
     case aL => have:=HW.out.nbarrows;omega
     intro v1 w7 hr hb hg hat
     obtain ⟨A7,c7,rfl⟩:=Kd.R_slice hr
     rw [List.length_append,List.length_singleton] at hr hat ⊢
     obtain ⟨s1,s2,s3,s4⟩:=HY6.out.set_barrows hr hg hat
     have hx7:=blk_grown HX6.out hg (fun e_ => HNX.out (.inr (.inr (.inr (.inr (.inl e_.symm))))))
     have HY8:=am s1
     have HR8:=am (HR6.out.trans s2)
     have HB8:=am ((HB6.out.trans hb).setCell (p:=⟨L.g,4,none⟩) HY.out.gbase (.slice A7 (Y.barrows.length + 1) c7))
     clear hr hb hg hat s1 s2
     refine hK.out _ _ ⟨s3,(blk_cell hx7 0).trans rfl,(blk_cell hx7 5).trans rfl⟩ (fun hHeld => ?_)
     clear hK K
     refine qN (some 35) ?_
     refine qA 16 (some 36) ?_;refine qA 17 (some 37) ?_
     refine qL 18 (none) fun K hK => ?_
     refine skip_ (w1:=?_) (by rfl) rfl ?_ ?_
     rotate_left
     ·go_simp
      rfl
     refine hK.out _ _ ?_
     clear hK K
     refine done_ (done_of HT_.out kr) ?_
     go_wp2
     go_end0
     exact StepPost.done (L':={ L with vb:=.slice A7 (Y.barrows.length + 1) c7 }) HB8.out rfl HR8.out HY8.out
  ·have HEN:=am hen
   clear hen
   rw [takeP_little HNW.out (by have:=HEN.out;omega)]
   go_enter Tryz.func222,Tryz.ntmps222
   go_wp2_with fail
   refine (fresh_calls HY1.out HW.out hm s.f0).mono ?_
   rintro e w1 ⟨rfl,hd⟩
   rw [freshE_ok HNW.out]
   have HB2:=am (below_then HB1.out (below_size HB1.out) hd)
   have HX2:=am (blk_below HX1.out hd)
   have HY2:=am (HY1.out.move hd)
   have g0a:=bd HX2.out 0
   have g1a:=bd HX2.out 1
   have g2a:=bd HX2.out 2
   have g3a:=bd HX2.out 3
   have g4a:=bd HX2.out 4
   have g5a:=bd HX2.out 5
   clear hd
   go_wp2_with fail
   refine (enough_calls HY2.out HW.out s h0 h1).mono ?_
   rintro e w2 ⟨rfl,hd⟩
   rw [show enoughE Y s.f3 s.f5 = Pan 4 from if_neg (by have:=HEN.out;omega)]
   have HD:=am hd
   clear hd
   unfold Pan
   go_wp2
   exact ⟨rfl,StepPost.err0 HY.out (below_then HB2.out (below_size HB2.out) HD.out)⟩
theorem spillP_little {Y : Yd} {s : S84} (h2 : ¬ s.f5 ≤ heldP (pitP Y s.f3)) : spillP Y s = .error 4:=by unfold spillP;rw [if_neg h2]
theorem spillP_ahead {Y : Yd} {s : S84} (h2 : s.f5 ≤ heldP (pitP Y s.f3)) (h3 : aheadP (pitP Y s.f3) s.f5 = none) : spillP Y s = .error 3:=by unfold spillP;rw [if_pos h2,h3]
theorem spillP_ok {Y : Yd} {s : S84} (h2 : s.f5 ≤ heldP (pitP Y s.f3)) {a b : List S212} (h3 : aheadP (pitP Y s.f3) s.f5 = some (a,b)) : spillP Y s = .ok { Y with pits:=Y.pits.set s.f3.toNat b,lost:=Y.lost ++ a }:=by unfold spillP;rw [if_pos h2,h3]
theorem ft_F {α : Type} {d : Kd α} {W0 w : World} {e base n c : Nat} {ok ok' : Nat → Prop} {A : Option Addr} {xs : List α} (h : (ft d W0 ok).R e w base ok' (.slice A n c) xs) (hm : ∀ k,ok k → k < W0.heap.size → w.heap[k]? = W0.heap[k]?) (ho : ∀ k,(Value.slice A n c).ownBlock = some k → ok k) : Kd.F d w ok A n xs:=fun W' hW => by
 have h1 : (ft d W0 ok).C W' A n xs:=Kd.R_F (Kd.R_tight rfl h) W' (fun k hk hlt => hW k (ho k hk.symm) hlt)
 exact ReadsRow.imp_ h1 (Below.refl W'.heap.size W') (fun x cs (hp : Kd.FK d W0 ok x cs) => hp W' (fun k hk hlt => (hW k hk (heap_lt (hm k hk hlt) hlt)).trans (hm k hk hlt)))
set_option maxRecDepth 100000 in
set_option maxHeartbeats 4000000 in
theorem spill_calls {W : World} {base m : Nat} {L : Loc} {Y : Yd} (hY : YardAt W base L Y) (hw : Wf m Y) (hm : m ≤ 60) (s : S84) (step : Int) (h0 : 0 ≤ s.f3) (h1 : s.f3 < Y.rooms.length) (hn1 : 1 ≤ s.f5) (hn2 : s.f5 ≤ 1000) :
  Calls Tryz.prog 225 #[.pointer (some ⟨L.g,0,none⟩),.agg #[.int .i64 s.f0,.int .i64 s.f1,.int .i64 s.f2,.int .i64 s.f3,.int .i64 s.f4,.int .i64 s.f5],.int .i64 step] W fun e W' => StepPost W base L (spillP Y s) e W':=by
 have hu:=Tryz.underlying84
 obtain ⟨p1,p2,p3,p4⟩:=hw.pitOk h0 h1
 have HY:=am hY
 have HW:=am hw
 have HP1:=am p1
 have HY1:=am (hY.move (below_alloc (Below.refl W.heap.size W) (.cells #[.int .i64 s.f0,.int .i64 s.f1,.int .i64 s.f2,.int .i64 s.f3,.int .i64 s.f4,.int .i64 s.f5] 84)))
 have HB1:=am (below_alloc (Below.refl W.heap.size W) (.cells #[.int .i64 s.f0,.int .i64 s.f1,.int .i64 s.f2,.int .i64 s.f3,.int .i64 s.f4,.int .i64 s.f5] 84))
 have HX1:=am (blk_new W (.cells #[.int .i64 s.f0,.int .i64 s.f1,.int .i64 s.f2,.int .i64 s.f3,.int .i64 s.f4,.int .i64 s.f5] 84))
 have hbw : base ≤ W.heap.size:=by have:=hY.gLt;omega
 clear hY hw p1 p2 p3 p4
 by_cases hen : s.f5 ≤ heldP (pitP Y s.f3)
 ·have HEN:=am hen
  clear hen
  cases hah : aheadP (pitP Y s.f3) s.f5 with
 |none =>
   have HAH:=am hah
   clear hah
   rw [spillP_ahead HEN.out HAH.out]
   go_enter Tryz.func225,Tryz.ntmps225
   go_wp2_with fail
   refine (enough_calls HY1.out HW.out s h0 h1).mono ?_
   rintro e w1 ⟨rfl,hd⟩
   rw [show enoughE Y s.f3 s.f5 = .returned (.tuple #[]) from if_pos HEN.out]
   have HB2:=am (below_then HB1.out (below_size HB1.out) hd)
   have HX2:=am (blk_below HX1.out hd)
   have HY2:=am (HY1.out.move hd)
   clear hd
   have g0a:=bd HX2.out 0
   have g1a:=bd HX2.out 1
   have g2a:=bd HX2.out 2
   have g3a:=bd HX2.out 3
   have g4a:=bd HX2.out 4
   have g5a:=bd HX2.out 5
   go_wp2_with fail
   refine (ahead_calls HY2.out HW.out s.f3 s.f5 h0 h1 hn1 hn2 HEN.out).mono ?_
   rintro e w2 ⟨hd,h⟩
   rcases h with ⟨_,rfl,hd2⟩|⟨a,b,A,c,h,_⟩
   ·have HD:=am hd2
    clear hd hd2
    unfold Pan
    go_wp2
    exact ⟨rfl,StepPost.err0 HY.out (below_then HB2.out (below_size HB2.out) HD.out)⟩
   ·rw [HAH.out] at h;cases h
 |some x =>
   obtain ⟨a,b⟩:=x
   have HAH:=am hah
   clear hah
   have hsp:=aheadP_spec Y.pours (pitP Y s.f3) s.f5 HP1.out (by omega) HEN.out a b HAH.out
   have HLA:=am (show a.length ≤ 4096 by have:=held_ge hsp.1;have:=hsp.2.2.1;omega)
   clear hsp
   rw [spillP_ok HEN.out HAH.out]
   go_enter Tryz.func225,Tryz.ntmps225
   go_wp2_with fail
   refine (enough_calls HY1.out HW.out s h0 h1).mono ?_
   rintro e w1 ⟨rfl,hd⟩
   rw [show enoughE Y s.f3 s.f5 = .returned (.tuple #[]) from if_pos HEN.out]
   have HB2:=am (below_then HB1.out (below_size HB1.out) hd)
   have HX2:=am (blk_below HX1.out hd)
   have HY2:=am (HY1.out.move hd)
   clear hd
   have g0a:=bd HX2.out 0
   have g1a:=bd HX2.out 1
   have g2a:=bd HX2.out 2
   have g3a:=bd HX2.out 3
   have g4a:=bd HX2.out 4
   have g5a:=bd HX2.out 5
   go_wp2_with fail
   refine (ahead_calls HY2.out HW.out s.f3 s.f5 h0 h1 hn1 hn2 HEN.out).mono ?_
   rintro e w2 ⟨hd,h⟩
   rcases h with ⟨h,_⟩|⟨a',b',A,c,h,rfl,hlc,hY4,hfr,hFa⟩
   ·rw [HAH.out] at h;cases h
   rw [HAH.out] at h
   injection h with h
   injection h with ha hb
   subst ha
   subst hb
   have HY4:=am hY4
   have HF4:=am hFa
   have HR4:=am ((Fr.of_below L HB2.out).trans hfr)
   have HB4:=am ((HB2.out.mono hbw).trans hd)
   have HLC:=am hlc
   clear hd hlc hY4 hfr hFa g0a g1a g2a g3a g4a g5a
   have g5 : w2.cell? ⟨L.g,5,none⟩ = some L.vl:=(blk_cell HY4.out.blk 5).trans rfl
   go_wp2_with (at_builtin;refine Kd.R_append_rows (ft k212 w2 L.Not) (Rr:=fun x c => Kd.FK k212 w2 L.Not x c) (w0:=w2) base rfl _ _ 131 212 (.agg #[.int .i64 0,.slice none 0 0]) 32 rfl Tryz.underlying131 info212 rfl (by show 0 < (k212 : Kd _).sz;decide) (by decide) L.vl Y.lost a A a.length c (fun _ => True) (fun k => some k ≠ L.vl.ownBlock) rfl rfl HY4.out.lost (Kd.F_rows HF4.out) (fun _ _ h => h) (fun k hk => ⟨trivial,hk⟩) (fun _ _ => trivial) (Below.refl _ _) (Nat.le_trans hbw HB4.out.size) (by have:=HW.out.nlost;have:=HLA.out;omega) ?_;intro v1 w7 hr hb hg hat;obtain ⟨A7,c7,rfl⟩:=Kd.R_slice hr;rw [List.length_append] at hr hat ⊢;obtain ⟨s1,s2,s3,s4⟩:=HY4.out.set_lost hr hg hat;have HY8:=am s1;have HR8:=am (HR4.out.trans s2);have HB8:=am ((HB4.out.trans hb).setCell (p:=⟨L.g,5,none⟩) HY.out.gbase (.slice A7 (Y.lost.length + a.length) c7));clear hr hb hg hat s1 s2)
   go_end0
   exact StepPost.done (L':={ L with vl:=.slice A7 (Y.lost.length + a.length) c7 }) HB8.out rfl HR8.out HY8.out
 ·have HEN:=am hen
  clear hen
  rw [spillP_little (by have:=HEN.out;omega)]
  go_enter Tryz.func225,Tryz.ntmps225
  go_wp2_with fail
  refine (enough_calls HY1.out HW.out s h0 h1).mono ?_
  rintro e w1 ⟨rfl,hd⟩
  rw [show enoughE Y s.f3 s.f5 = Pan 4 from if_neg (by have:=HEN.out;omega)]
  have HD:=am hd
  clear hd
  unfold Pan
  go_wp2
  exact ⟨rfl,StepPost.err0 HY.out (below_then HB1.out (below_size HB1.out) HD.out)⟩
theorem YardAt.set_pours {W w7 : World} {base : Nat} {L : Loc} {Y : Yd} (h : YardAt W base L Y) {v1 v2 : Value} {ps ds : List Int} (hsz : W.heap.size ≤ w7.heap.size) (far0 : ∀ k,k < W.heap.size → some k ≠ L.vo.ownBlock → some k ≠ L.vd.ownBlock → w7.heap[k]? = W.heap[k]?)
  (r1 : (Kd.int .i64).R 3 w7 base (fun _ => True) v1 ps) (r2 : (Kd.int .i64).R 3 w7 base (fun _ => True) v2 ds) (a1 : v1.ownBlock = L.vo.ownBlock ∨ ∃ b,v1.ownBlock = some b ∧ W.heap.size ≤ b) (a2 : v2.ownBlock = L.vd.ownBlock ∨ ∃ b,v2.ownBlock = some b ∧ W.heap.size ≤ b) (ap : NeRow v1 v2) :
  YardAt ((w7.setCell ⟨L.g,2,none⟩ v1).setCell ⟨L.g,3,none⟩ v2) base { L with vo:=v1,vd:=v2 } { Y with pours:=ps,days:=ds } ∧ Fr W L ((w7.setCell ⟨L.g,2,none⟩ v1).setCell ⟨L.g,3,none⟩ v2) { L with vo:=v1,vd:=v2 } ∧
   w7.cell? ⟨L.g,2,none⟩ = some L.vo ∧ w7.frozen? ⟨L.g,2,none⟩ = false ∧ (w7.setCell ⟨L.g,2,none⟩ v1).cell? ⟨L.g,3,none⟩ = some L.vd ∧ (w7.setCell ⟨L.g,2,none⟩ v1).frozen? ⟨L.g,3,none⟩ = false:=by
 have hgo : some L.g ≠ L.vo.ownBlock:=fun e => R_offg h.pours h.blk (by decide) e.symm
 have hgd : some L.g ≠ L.vd.ownBlock:=fun e => R_offg h.days h.blk (by decide) e.symm
 have hB : w7.heap[L.g]? = _:=(far0 L.g (blk_lt h.blk) hgo hgd).trans h.blk
 have hB2:=blk_put hB 2 v1 rfl
 have far : ∀ k,k < W.heap.size → some k ≠ L.vo.ownBlock → some k ≠ L.vd.ownBlock → k ≠ L.g → ((w7.setCell ⟨L.g,2,none⟩ v1).setCell ⟨L.g,3,none⟩ v2).heap[k]? = W.heap[k]?:=fun k hk h1 h2 h3 =>
  ((Below.heap_setCell _ ⟨L.g,3,none⟩ v2 k h3).trans (Below.heap_setCell w7 ⟨L.g,2,none⟩ v1 k h3)).trans (far0 k hk h1 h2)
 have f : Fr W L ((w7.setCell ⟨L.g,2,none⟩ v1).setCell ⟨L.g,3,none⟩ v2) { L with vo:=v1,vd:=v2 }:=⟨by rw [World.size_setCell,World.size_setCell];exact hsz,fun k hk hn => by
  refine ⟨far k hk (fun e => hn (.inr (.inr (.inl e.symm)))) (fun e => hn (.inr (.inr (.inr (.inl e.symm))))) (fun e => hn (.inl e)),fun hm => ?_⟩
  rcases hm with e|e|e|e|e|e
  ·exact hn (.inl e)
  ·exact hn (.inr (.inl e))
  ·rcases a1 with hat|⟨b,hb,hle⟩
   ·exact hn (.inr (.inr (.inl (hat.symm.trans e))))
   ·have : some b = some k:=hb.symm.trans e
    injection this with this
    omega
  ·rcases a2 with hat|⟨b,hb,hle⟩
   ·exact hn (.inr (.inr (.inr (.inl (hat.symm.trans e)))))
   ·have : some b = some k:=hb.symm.trans e
    injection this with this
    omega
  ·exact hn (.inr (.inr (.inr (.inr (.inl e)))))
  ·exact hn (.inr (.inr (.inr (.inr (.inr e))))),rfl⟩
 have mv : ∀ {α : Type} {d : Kd α} {e : Nat} {v : Value} {xs : List α},d.E = [] → d.R e W base (fun _ => True) v xs → e ≠ 3 → e ≠ 165 → d.R e ((w7.setCell ⟨L.g,2,none⟩ v1).setCell ⟨L.g,3,none⟩ v2) base (fun _ => True) v xs:=fun hE hR n1 n2 =>
  R_own_move hE hR fun k hk => far k (Kd.R_lt hR k hk) (fun e => R_off hR h.pours n1 k hk e.symm) (fun e => R_off hR h.days n1 k hk e.symm) (fun e => R_offg hR h.blk n2 (e ▸ hk))
 have ow : ∀ {v : Value} {xs : List Int},(Kd.int .i64).R 3 w7 base (fun _ => True) v xs → (Kd.int .i64).R 3 ((w7.setCell ⟨L.g,2,none⟩ v1).setCell ⟨L.g,3,none⟩ v2) base (fun _ => True) v xs:=fun hR =>
  R_own_move rfl hR fun k hk => have n : k ≠ L.g:=fun e => R_offg hR hB (by decide) (e ▸ hk);(Below.heap_setCell _ ⟨L.g,3,none⟩ v2 k n).trans (Below.heap_setCell w7 ⟨L.g,2,none⟩ v1 k n)
 refine ⟨{ gbase:=h.gbase,bad:=h.bad,blk:=blk_put hB2 3 v2 rfl,rooms:=Foot_fr h.rooms f,pits:=ft_fr (mv rfl h.pits (by decide) (by decide)) f,pours:=ow r1,days:=ow r2,apart:=ap,barrows:=ft_fr (mv rfl h.barrows (by decide) (by decide)) f,lost:=ft_fr (mv rfl h.lost (by decide) (by decide)) f },f,(blk_cell hB 2).trans rfl,blk_frozen hB 2,(blk_cell hB2 3).trans rfl,blk_frozen hB2 3⟩
theorem R_one (w : World) (i : Int) (base : Nat) (hb : base ≤ w.heap.size) : (Kd.int .i64).R 3 (w.alloc (.cells #[.int .i64 i] 3)) base (fun _ => True) (.slice (some ⟨w.heap.size,0,none⟩) 1 1) [i] :=
 ⟨fun _ _ => trivial,OwnRow.lit (ps:=[i]) w base (inner:=[.int .i64 i]) ((Reps.none _ _).snoc (show (Kd.int .i64).M _ _ _ i [.int .i64 i] from rfl) rfl) hb (by simp)⟩
theorem ft_to {α : Type} {d : Kd α} {W W2 w : World} {e base : Nat} {ok okr ok2 : Nat → Prop} {v : Value} {xs : List α} (h : (ft d W ok).R e w base okr v xs) (hb : Below W.heap.size W W2) (hok : ∀ k,ok k → k < W.heap.size → ok2 k) : (ft d W2 ok2).R e w base okr v xs :=
 ⟨h.1,h.2.imp_ (fun _ _ (hp : Kd.FK d W ok _ _) => (Foot.mono (Foot.old hp hb) (fun k hk => hok k hk.1 hk.2) : Kd.FK d W2 ok2 _ _))⟩
theorem ft_F2 {α : Type} {d : Kd α} {W0 w : World} {e base n c : Nat} {ok ok' ok3 : Nat → Prop} {A : Option Addr} {xs : List α} (h : (ft d W0 ok).R e w base ok' (.slice A n c) xs) (hm : ∀ k,ok k → k < W0.heap.size → w.heap[k]? = W0.heap[k]?) (h3 : ∀ k,ok k → ok3 k) (ho : ∀ k,(Value.slice A n c).ownBlock = some k → ok3 k) : Kd.F d w ok3 A n xs:=fun W' hW => by
 have h1 : (ft d W0 ok).C W' A n xs:=Kd.R_F (Kd.R_tight rfl h) W' (fun k hk hlt => hW k (ho k hk.symm) hlt)
 exact ReadsRow.imp_ h1 (Below.refl W'.heap.size W') (fun x cs (hp : Kd.FK d W0 ok x cs) => hp W' (fun k hk hlt => (hW k (h3 k hk) (heap_lt (hm k hk hlt) hlt)).trans (hm k hk hlt)))
theorem info212_ : (Tryz.prog.info? 212).map (fun i => (i.zero,i.size,i.bytes)) = some (some (.agg #[.int .i64 0,.slice none 0 0]),k212.sz,32):=by kernel_rfl
set_option maxRecDepth 100000 in
set_option maxHeartbeats 1000000 in
theorem clone242_calls (A : Option Addr) (c : Nat) (l : List S212) (W : World) (ok : Nat → Prop) (hF : Kd.F k212 W ok A l.length l) (hc : l.length ≤ c) (hm : l.length ≤ 100000000) :
  Calls Tryz.prog 242 #[.slice A l.length c] W fun e W' => ∃ v,e = .returned v ∧ Below W.heap.size W W' ∧ (ft k212 W ok).R 212 W' W.heap.size (fun _ => True) v l:=by
 have q : ∀ (w : World) (a : Option Addr) (n c n' c' : Nat),(binOp .eql 131 (.slice a n c) (.slice none n' c')).run Tryz.prog w = .ok (.bool a.isNone) w:=fun w a n c n' c' => Lib.run_eql_slice_nil w _ _ a n c n' c' Tryz.underlying131
 have HF:=am hF
 have HC:=(Kd.F_now hF).2.2
 clear hF
 rcases A with _|ad
 ·have hl : l = []:=by
   rcases Nat.eq_zero_or_pos l.length with h|h
   ·exact List.eq_nil_of_length_eq_zero h
   ·obtain ⟨ad,h,_⟩:=HC h;cases h
  subst hl
  clear HC
  go_enter Tryz.func242,Tryz.ntmps242
  go_wp2
  go_ret
  exact ⟨_,rfl,Below.refl _ _,Kd.R_nil _ _ _ _ _⟩
 ·clear HC
  have HO:=am (show (ft k212 W ok).R 212 (W.alloc (.cells #[] 212)) W.heap.size (fun _ => True) (.slice (some ⟨W.heap.size,0,none⟩) 0 0) [] from ⟨fun _ _ => trivial,OwnRow.lit (ps:=[]) W W.heap.size (inner:=[]) (Reps.none _ _) (Nat.le_refl _) (by simp)⟩)
  have HB:=am (below_alloc (Below.refl W.heap.size W) (.cells #[] 212))
  have HX:=am (ReadsRow.imp_ (Kd.F_rows HF.out) (below_alloc (Below.refl _ _) (.cells #[] 212)) (fun _ _ h => h))
  go_enter Tryz.func242,Tryz.ntmps242
  go_wp2_with (at_builtin;go_loud (refine Kd.R_append_rows (ft k212 W ok) (Rr:=fun x c => Kd.FK k212 W ok x c) (w0:=W) (W:=W.alloc (.cells #[] 212)) W.heap.size rfl _ _ 131 212 (.agg #[.int .i64 0,.slice none 0 0]) 32 rfl Tryz.underlying131 info212_ rfl (by show 0 < (k212 : Kd _).sz;decide) (by decide) (.slice (some ⟨W.heap.size,0,none⟩) 0 0) [] l (some ad) l.length c (fun _ => True) (fun _ => False) rfl rfl HO.out HX.out (fun _ _ h => h) (fun _ h => h.elim) (fun _ _ => trivial) HB.out (below_size HB.out) (by simp;omega) ?_;intro v1 w1 hs1 hb1 hg1 hat1;have HS1:=am hs1;have HB1:=am hb1;clear hs1 hb1 hg1 hat1))
  go_ret
  exact ⟨_,rfl,HB1.out,HS1.out⟩
def R221_3.T : Bool × List (List Nat × List Nat):=(true,[([],[]),([],[]),([],[]),([2],[2]),([3],[3]),([4],[4]),([],[]),([6],[6]),([7],[7]),([5,8],[5,8]),([],[]),([10],[10]),([11],[11]),([12],[12]),([],[]),([14],[14]),([15],[15]),([13,16,9],[13,16]),([0,0,2,3,4,5,6,7,8,9,13,17],[0]),([18,0,2,3,4,5,6,7,8,9,13,17],[18]),([19,9,17,0,2,3,4,5,6,7,8,9,13,17],[9,19]),([1,0,1,2,3,4,5,6,7,8,9,10,11,12,13,14,15,16,17,18,19,20],[1]),([21,0,1,2,3,4,5,6,7,8,9,10,11,12,13,14,15,16,17,18,19,20],[21]),([22,17,20,0,1,2,3,4,5,6,7,8,9,10,11,12,13,14,15,16,17,18,19,20],[17,22])])
def R221_3.B : List Nat:=[0,0,0,4,12,28,0,64,192,508,0,1024,3072,7168,0,16384,49152,131068,262141,524285,1048573,2097151,4194303,8388607]
theorem R221_3.tab : rtab .any (opsOf Tryz.f221 3) = R221_3.T:=by kernel_rfl
theorem R221_3.bits : waitsOk R221_3.T.2 R221_3.B = true:=by kernel_rfl
def R221_4.T : Bool × List (List Nat × List Nat):=(true,[([],[]),([0],[0]),([1],[1]),([2],[2]),([],[]),([4],[4]),([],[]),([6],[6]),([7],[7]),([8],[8]),([],[]),([10],[10]),([9,11],[9,11]),([12],[12]),([13],[13]),([],[]),([15],[15]),([],[]),([17],[17]),([],[]),([19],[19]),([20,14],[20]),([18,21],[18,21]),([22],[22]),([16,23],[16,23]),([24],[24]),([14,25,21],[14,25]),([3,5,0,1,2,3,4,5,6,7,8,9,10,11,12,13,14,15,16,17,18,19,20,21,22,23,24,25,26],[3,5]),([27,26,26,0,1,2,3,4,5,6,7,8,9,10,11,12,13,14,15,16,17,18,19,20,21,22,23,24,25,26],[26,27])])
def R221_4.B : List Nat:=[0,1,3,7,0,16,0,64,192,448,0,1024,4032,8128,16320,0,32768,0,131072,0,524288,1605568,4095936,8290240,16777152,33554368,67108800,134217727,268435455]
theorem R221_4.tab : rtab .any (opsOf Tryz.f221 4) = R221_4.T:=by kernel_rfl
theorem R221_4.bits : waitsOk R221_4.T.2 R221_4.B = true:=by kernel_rfl
theorem pourP_old {Y : Yd} {s : S84} (h : isNew Y s.f0 = false) : pourP Y s = .error 6:=by unfold pourP;rw [if_neg (by rw [h];simp)]
theorem pourP_full {Y : Yd} {s : S84} (h : isNew Y s.f0 = true) (h2 : ¬ heldP (pitP Y s.f3) + s.f5 ≤ roomP Y s.f3) : pourP Y s = .error 2:=by unfold pourP;rw [if_pos h,if_neg h2]
theorem pourP_ok {Y : Yd} {s : S84} (h : isNew Y s.f0 = true) (h2 : heldP (pitP Y s.f3) + s.f5 ≤ roomP Y s.f3) : pourP Y s = .ok { Y with pours:=Y.pours ++ [s.f0],days:=Y.days ++ [s.f2],pits:=Y.pits.set s.f3.toNat (pitP Y s.f3 ++ [⟨s.f5,[⟨s.f0,wholeP s.f5⟩]⟩]) }:=by unfold pourP;rw [if_pos h,if_pos h2]
structure PourMid (wd w' : World) (base : Nat) (L : Loc) (Y : Yd) (s : S84) (Bx k8 k16 : Nat) (v : Value) : Prop where
 below : Below base wd w'
 grown : wd.grownBy w' L.vo.ownBlock
 r25 : (Kd.int .i64).R 3 w' base (fun _ => True) v (Y.pours ++ [s.f0])
 at25 : v.ownBlock = L.vo.ownBlock ∨ ∃ b,v.ownBlock = some b ∧ wd.heap.size ≤ b
 r16 : (Kd.int .i64).R 3 w' base (fun _ => True) (.slice (some ⟨k16,0,none⟩) 1 1) [s.f2]
theorem PourMid.lay {wd w' : World} {base : Nat} {L : Loc} {Y : Yd} {s : S84} {Bx k8 : Nat} {v : Value} (below : Below base wd w') (grown : wd.grownBy w' L.vo.ownBlock) (r25 : (Kd.int .i64).R 3 w' base (fun _ => True) v (Y.pours ++ [s.f0])) (at25 : v.ownBlock = L.vo.ownBlock ∨ ∃ b,v.ownBlock = some b ∧ wd.heap.size ≤ b) (hb : base ≤ w'.heap.size) :
  PourMid wd (w'.alloc (.cells #[.int .i64 s.f2] 3)) base L Y s Bx k8 w'.heap.size v :=
 ⟨below.alloc hb _,grown.trans (World.grownBy_alloc w' _ _),Kd.R_alloc r25 _,at25,R_one w' s.f2 base hb⟩
theorem at_weak {v v0 : Value} {n m : Nat} (h : v.ownBlock = v0.ownBlock ∨ ∃ b,v.ownBlock = some b ∧ n ≤ b) (hm : m ≤ n) : v.ownBlock = v0.ownBlock ∨ ∃ b,v.ownBlock = some b ∧ m ≤ b:=h.imp_right fun ⟨b,h1,h2⟩ => ⟨b,h1,Nat.le_trans hm h2⟩
theorem own_some {b k n c : Nat} (h : (Value.slice (some ⟨b,0,none⟩) n c).ownBlock = some k) : b = k:=by simpa [Value.ownBlock] using h
theorem R_one' (w : World) (i : Int) (base : Nat) (hb : base ≤ w.heap.size) (k : Nat) (hk : w.heap.size = k) : (Kd.int .i64).R 3 (w.alloc (.cells #[.int .i64 i] 3)) base (fun _ => True) (.slice (some ⟨k,0,none⟩) 1 1) [i]:=by subst hk;exact R_one w i base hb
set_option maxRecDepth 100000 in
set_option maxHeartbeats 4000000 in
theorem pour_calls {W : World} {base m : Nat} {L : Loc} {Y : Yd} (hY : YardAt W base L Y) (hw : Wf m Y) (hm : m ≤ 60) (s : S84) (step : Int) (h0 : 0 ≤ s.f3) (h1 : s.f3 < Y.rooms.length) (hn1 : 1 ≤ s.f5) (hn2 : s.f5 ≤ 1000) :
  Calls Tryz.prog 221 #[.pointer (some ⟨L.g,0,none⟩),.agg #[.int .i64 s.f0,.int .i64 s.f1,.int .i64 s.f2,.int .i64 s.f3,.int .i64 s.f4,.int .i64 s.f5],.int .i64 step] W fun e W' => StepPost W base L (pourP Y s) e W':=by
 have hu:=Tryz.underlying84
 obtain ⟨p1,p2,p3,p4⟩:=hw.pitOk h0 h1
 have HY:=am hY
 have HW:=am hw
 have HP1:=am p1
 have HHM:=am (show heldP (pitP Y s.f3) ≤ 4096 by omega)
 have HY1:=am (hY.move (below_alloc (Below.refl W.heap.size W) (.cells #[.int .i64 s.f0,.int .i64 s.f1,.int .i64 s.f2,.int .i64 s.f3,.int .i64 s.f4,.int .i64 s.f5] 84)))
 have HB1:=am (below_alloc (Below.refl W.heap.size W) (.cells #[.int .i64 s.f0,.int .i64 s.f1,.int .i64 s.f2,.int .i64 s.f3,.int .i64 s.f4,.int .i64 s.f5] 84))
 have HX1:=am (blk_new W (.cells #[.int .i64 s.f0,.int .i64 s.f1,.int .i64 s.f2,.int .i64 s.f3,.int .i64 s.f4,.int .i64 s.f5] 84))
 have HNX:=am (hY.not_new (Nat.le_refl W.heap.size))
 have hbw : base ≤ W.heap.size:=by have:=hY.gLt;omega
 clear hY hw p1 p2 p3 p4
 cases hnew : isNew Y s.f0 with
|false =>
  have HNW:=am hnew
  clear hnew
  rw [pourP_old HNW.out]
  go_enter Tryz.func221,Tryz.ntmps221
  go_wp2_with fail
  refine (fresh_calls HY1.out HW.out hm s.f0).mono ?_
  rintro e w1 ⟨rfl,hd⟩
  rw [freshE_no HNW.out]
  have HD:=am hd
  clear hd
  unfold Pan
  go_wp2
  exact ⟨rfl,StepPost.err0 HY.out (below_then HB1.out (below_size HB1.out) HD.out)⟩
|true =>
  have HNW:=am hnew
  clear hnew
  by_cases hro : heldP (pitP Y s.f3) + s.f5 ≤ roomP Y s.f3
  ·have HRO:=am hro
   clear hro
   rw [pourP_ok HNW.out HRO.out]
   go_enter Tryz.func221,Tryz.ntmps221
   go_wp2_with fail
   refine (fresh_calls HY1.out HW.out hm s.f0).mono ?_
   rintro e w1 ⟨rfl,hd⟩
   rw [freshE_ok HNW.out]
   have HB2:=am (below_then HB1.out (below_size HB1.out) hd)
   have HX2:=am (blk_below HX1.out hd)
   have HY2:=am (HY1.out.move hd)
   clear hd
   have g0a:=bd HX2.out 0
   have g1a:=bd HX2.out 1
   have g2a:=bd HX2.out 2
   have g3a:=bd HX2.out 3
   have g4a:=bd HX2.out 4
   have g5a:=bd HX2.out 5
   go_wp2_with fail
   refine (room_calls HY2.out HW.out s.f3 s.f5 h0 h1 (by omega) hn2).mono ?_
   rintro e w2 ⟨rfl,hd⟩
   rw [show roomE Y s.f3 s.f5 = .returned (.tuple #[]) from if_pos HRO.out]
   have HB3:=am (below_then HB2.out (below_size HB2.out) hd)
   have HX3:=am (blk_below HX2.out hd)
   have HY3:=am (HY2.out.move hd)
   clear hd g0a g1a g2a g3a g4a g5a
   have g0b:=bd HX3.out 0
   have g1b:=bd HX3.out 1
   have g2b:=bd HX3.out 2
   have g3b:=bd HX3.out 3
   have g4b:=bd HX3.out 4
   have g5b:=bd HX3.out 5
   have HX5:=am (blk_drew HX3.out)
   have HY5:=am (HY3.out.move (below_drew (Below.refl _ w2)))
   have HB5:=am (below_drew HB3.out)
   have HSS:=am (show ∀ w' : World,(∀ k,k < w2.drew.heap.size → some k ≠ L.vo.ownBlock → some k ≠ L.vd.ownBlock → w'.heap[k]? = w2.drew.heap[k]?) → (w'.cell? ⟨L.g,2,none⟩ = some L.vo ∧ w'.cell? ⟨L.g,3,none⟩ = some L.vd ∧ w'.cell? ⟨W.heap.size,0,none⟩ = some (.int .i64 s.f0) ∧ w'.cell? ⟨W.heap.size,2,none⟩ = some (.int .i64 s.f2)) from fun w' hk => by
    have b1:=(hk L.g (blk_lt HY5.out.blk) (fun e => R_offg HY5.out.pours HY5.out.blk (by decide) e.symm) (fun e => R_offg HY5.out.days HY5.out.blk (by decide) e.symm)).trans HY5.out.blk
    have b2:=(hk W.heap.size (blk_lt HX5.out) (fun e => HNX.out (.inr (.inr (.inl e.symm)))) (fun e => HNX.out (.inr (.inr (.inr (.inl e.symm)))))).trans HX5.out
    exact ⟨(blk_cell b1 2).trans rfl,(blk_cell b1 3).trans rfl,(blk_cell b2 0).trans rfl,(blk_cell b2 2).trans rfl⟩)
   clear g0b g1b g2b g3b g4b g5b
   go_wp2
   refine start_ (n:=24) (S:=fun w' => w'.cell? ⟨L.g,2,none⟩ = some L.vo ∧ w'.cell? ⟨L.g,3,none⟩ = some L.vd ∧ w'.cell? ⟨W.heap.size,0,none⟩ = some (.int .i64 s.f0) ∧ w'.cell? ⟨W.heap.size,2,none⟩ = some (.int .i64 s.f2)) (ds:=[20,23]) (ab 24 0) kr rfl kr (HSS.out _ (fun _ _ _ _ => rfl)) (fun hHeld => ?_);refine with_tabW R221_3.tab R221_3.bits (fun HT_ HW_ => ?_)
   generalize (w2).drew = wd at HX5 HY5 HB5 HSS hHeld ⊢
   refine qA 0 (some 16) ?_;refine qA 1 (some 17) ?_;refine qA 2 (some 18) ?_;refine qA 3 (some 19) ?_;refine qA 4 (some 20) ?_;refine qT 5 (some 21) ?_;refine qA 6 (some 22) ?_;refine qT 7 (some 23) ?_;refine qA 10 (some 26) ?_;refine qA 11 (some 27) ?_;refine qA 12 (some 28) ?_;refine qT 13 (some 29) ?_;refine qA 14 (some 30) ?_;refine qT 15 (some 31) ?_
   have hbd : base ≤ wd.heap.size:=Nat.le_trans hbw HB5.out.size
   refine join_ (σ:=Nat × Nat × Value) 7 (ab 24 131071) (fun x => [(24,.slice (some ⟨x.1,0,none⟩) 1 1),(25,x.2.2),(32,.slice (some ⟨x.2.1,0,none⟩) 1 1)]) (fun x w' => PourMid wd w' base L Y s W.heap.size x.1 x.2.1 x.2.2) ?_ ?_
   rotate_left
   ·intro hCont
    refine two_ (i:=8) (j:=16) (Ni:=some 24) (Nj:=some 32) (ab 24 65023) (ab 24 130303) rfl rfl rfl rfl (two_of HT_.out kr) (by decide) (by decide) (fun K hK => ?_) (fun K hK => ?_)
    ·skip
     refine value_ (w1:=?_) (v:=?_) (by rfl) rfl ?_ ?_
     rotate_left 2
     ·go_simp
      constructor
      ·rfl
      ·rfl
     refine hK.out _ _ (HSS.out _ (fun k hk n1 _ => ((World.grownBy_alloc wd (.cells #[.int .i64 s.f0] 3) L.vo.ownBlock)).block k hk n1)) (fun hHeld => ?_)
     clear hK K
     refine qN (some 24) ?_
     refine two_ (i:=9) (j:=16) (Ni:=some 25) (Nj:=some 32) (ab 24 65535) (ab 24 130559) rfl rfl rfl rfl (two_of HT_.out kr) (by decide) (by decide) (fun K hK => ?_) (fun K hK => ?_)
     ·skip
      refine Kd.R_append_rows_step (Kd.int .i64) (Rr:=fun x c => (Kd.int .i64).K (wd.alloc (.cells #[.int .i64 s.f0] 3)) x c) (w0:=(wd.alloc (.cells #[.int .i64 s.f0] 3))) base (by rfl) (.tmp 21) (.tmp 24) 27 3 (.int .i64 0) 8 rfl Tryz.underlying27 info3 rfl (by decide) (by decide) L.vo Y.pours [s.f0] (some ⟨wd.heap.size,0,none⟩) 1 1 (fun _ => True) (fun _ => False) rfl rfl (Kd.R_alloc HY5.out.pours _) (Kd.R_reads' (R_one wd s.f0 base hbd)).2.2 (fun _ _ h => h) (fun _ h => h.elim) (fun _ _ => trivial) (Below.refl _ _) (by rw [World.size_alloc];omega) (by have:=HW.out.npours;omega) ?_
      intro v9 w9 hr hb hg hat
      refine hK.out _ _ (HSS.out _ (fun k hk n1 _ => ((World.grownBy_alloc wd (.cells #[.int .i64 s.f0] 3) L.vo.ownBlock).trans hg).block k hk n1)) (fun hHeld => ?_)
      clear hK K
      refine qN (some 25) ?_
      refine one_ (i:=16) (N:=some 32) (ab 24 131071) rfl rfl (one_of HT_.out kr) (by decide) (fun K hK => ?_)
      refine value_ (w1:=?_) (v:=?_) (by rfl) rfl ?_ ?_
      rotate_left 2
      ·go_simp
       constructor
       ·rfl
       ·rfl
      refine hK.out _ _ (HSS.out _ (fun k hk n1 _ => (((World.grownBy_alloc wd (.cells #[.int .i64 s.f0] 3) L.vo.ownBlock).trans hg).trans (World.grownBy_alloc w9 _ _)).block k hk n1)) (fun hHeld => ?_)
      clear hK K
      refine qN (some 32) ?_
      exact norm_ (by first|(simp only [putAll,Act.put,List.setIfInBounds_toArray,List.set_cons_zero,List.set_cons_succ];done)|(simp only [putAll,Act.put,List.setIfInBounds_toArray,List.set_cons_zero,List.set_cons_succ];rfl)) (hCont ⟨wd.heap.size,w9.heap.size,v9⟩ _ (PourMid.lay (((Below.refl base wd).alloc hbd _).trans hb) ((World.grownBy_alloc wd (.cells #[.int .i64 s.f0] 3) L.vo.ownBlock).trans hg) hr (at_weak hat (by rw [World.size_alloc];omega)) (Nat.le_trans (by rw [World.size_alloc];omega) hg.size)))
     ·skip
      refine value_ (w1:=?_) (v:=?_) (by rfl) rfl ?_ ?_
      rotate_left 2
      ·go_simp
       constructor
       ·rfl
       ·rfl
      refine hK.out _ _ (HSS.out _ (fun k hk n1 _ => ((World.grownBy_alloc wd (.cells #[.int .i64 s.f0] 3) L.vo.ownBlock).trans (World.grownBy_alloc _ (.cells #[.int .i64 s.f2] 3) _)).block k hk n1)) (fun hHeld => ?_)
      clear hK K
      refine qN (some 32) ?_
      refine one_ (i:=9) (N:=some 25) (ab 24 131071) rfl rfl (one_of HT_.out kr) (by decide) (fun K hK => ?_)
      refine Kd.R_append_rows_step (Kd.int .i64) (Rr:=fun x c => (Kd.int .i64).K ((wd.alloc (.cells #[.int .i64 s.f0] 3)).alloc (.cells #[.int .i64 s.f2] 3)) x c) (w0:=((wd.alloc (.cells #[.int .i64 s.f0] 3)).alloc (.cells #[.int .i64 s.f2] 3))) base (by rfl) (.tmp 21) (.tmp 24) 27 3 (.int .i64 0) 8 rfl Tryz.underlying27 info3 rfl (by decide) (by decide) L.vo Y.pours [s.f0] (some ⟨wd.heap.size,0,none⟩) 1 1 (fun _ => True) (fun _ => False) rfl rfl (Kd.R_alloc (Kd.R_alloc HY5.out.pours _) _) (Kd.R_reads' (Kd.R_alloc (R_one wd s.f0 base hbd) _)).2.2 (fun _ _ h => h) (fun _ h => h.elim) (fun _ _ => trivial) (Below.refl _ _) (by rw [World.size_alloc,World.size_alloc];omega) (by have:=HW.out.npours;omega) ?_
      intro v9 w9 hr hb hg hat
      refine hK.out _ _ (HSS.out _ (fun k hk n1 _ => (((World.grownBy_alloc wd (.cells #[.int .i64 s.f0] 3) L.vo.ownBlock).trans (World.grownBy_alloc _ (.cells #[.int .i64 s.f2] 3) _)).trans hg).block k hk n1)) (fun hHeld => ?_)
      clear hK K
      refine qN (some 25) ?_
      exact norm_ (by first|(simp only [putAll,Act.put,List.setIfInBounds_toArray,List.set_cons_zero,List.set_cons_succ];done)|(simp only [putAll,Act.put,List.setIfInBounds_toArray,List.set_cons_zero,List.set_cons_succ];rfl)) (hCont ⟨wd.heap.size,wd.heap.size + 1,v9⟩ _ (⟨(((Below.refl base wd).alloc hbd _).alloc (by rw [World.size_alloc];omega) _).trans hb,((World.grownBy_alloc wd (.cells #[.int .i64 s.f0] 3) L.vo.ownBlock).trans (World.grownBy_alloc _ _ _)).trans hg,hr,at_weak hat (by rw [World.size_alloc,World.size_alloc];omega),R_own_move rfl (R_one' (wd.alloc (.cells #[.int .i64 s.f0] 3)) s.f2 base (by rw [World.size_alloc];omega) (wd.heap.size + 1) (by rw [World.size_alloc])) (fun k hk => hg.block k (by rw [World.size_alloc,World.size_alloc];have : wd.heap.size + 1 = k:=own_some hk;omega) (fun e => by have:=Kd.R_lt HY5.out.pours k e.symm;have : wd.heap.size + 1 = k:=own_some hk;omega))⟩))
    ·skip
     refine value_ (w1:=?_) (v:=?_) (by rfl) rfl ?_ ?_
     rotate_left 2
     ·go_simp
      constructor
      ·rfl
      ·rfl
     refine hK.out _ _ (HSS.out _ (fun k hk n1 _ => ((World.grownBy_alloc wd (.cells #[.int .i64 s.f2] 3) L.vo.ownBlock)).block k hk n1)) (fun hHeld => ?_)
     clear hK K
     refine qN (some 32) ?_
     refine one_ (i:=8) (N:=some 24) (ab 24 130559) rfl rfl (one_of HT_.out kr) (by decide) (fun K hK => ?_)
     refine value_ (w1:=?_) (v:=?_) (by rfl) rfl ?_ ?_
     rotate_left 2
     ·go_simp
      constructor
      ·rfl
      ·rfl
     refine hK.out _ _ (HSS.out _ (fun k hk n1 _ => ((World.grownBy_alloc wd (.cells #[.int .i64 s.f2] 3) L.vo.ownBlock).trans (World.grownBy_alloc _ (.cells #[.int .i64 s.f0] 3) _)).block k hk n1)) (fun hHeld => ?_)
     clear hK K
     refine qN (some 24) ?_
     refine one_ (i:=9) (N:=some 25) (ab 24 131071) rfl rfl (one_of HT_.out kr) (by decide) (fun K hK => ?_)
     refine Kd.R_append_rows_step (Kd.int .i64) (Rr:=fun x c => (Kd.int .i64).K ((wd.alloc (.cells #[.int .i64 s.f2] 3)).alloc (.cells #[.int .i64 s.f0] 3)) x c) (w0:=((wd.alloc (.cells #[.int .i64 s.f2] 3)).alloc (.cells #[.int .i64 s.f0] 3))) base (by rfl) (.tmp 21) (.tmp 24) 27 3 (.int .i64 0) 8 rfl Tryz.underlying27 info3 rfl (by decide) (by decide) L.vo Y.pours [s.f0] (some ⟨wd.heap.size + 1,0,none⟩) 1 1 (fun _ => True) (fun _ => False) rfl rfl (Kd.R_alloc (Kd.R_alloc HY5.out.pours _) _) (Kd.R_reads' (R_one' (wd.alloc (.cells #[.int .i64 s.f2] 3)) s.f0 base (by rw [World.size_alloc];omega) (wd.heap.size + 1) (by rw [World.size_alloc]))).2.2 (fun _ _ h => h) (fun _ h => h.elim) (fun _ _ => trivial) (Below.refl _ _) (by rw [World.size_alloc,World.size_alloc];omega) (by have:=HW.out.npours;omega) ?_
     intro v9 w9 hr hb hg hat
     refine hK.out _ _ (HSS.out _ (fun k hk n1 _ => (((World.grownBy_alloc wd (.cells #[.int .i64 s.f2] 3) L.vo.ownBlock).trans (World.grownBy_alloc _ (.cells #[.int .i64 s.f0] 3) _)).trans hg).block k hk n1)) (fun hHeld => ?_)
     clear hK K
     refine qN (some 25) ?_
     exact norm_ (by first|(simp only [putAll,Act.put,List.setIfInBounds_toArray,List.set_cons_zero,List.set_cons_succ];done)|(simp only [putAll,Act.put,List.setIfInBounds_toArray,List.set_cons_zero,List.set_cons_succ];rfl)) (hCont ⟨wd.heap.size + 1,wd.heap.size,v9⟩ _ (⟨(((Below.refl base wd).alloc hbd _).alloc (by rw [World.size_alloc];omega) _).trans hb,((World.grownBy_alloc wd (.cells #[.int .i64 s.f2] 3) L.vo.ownBlock).trans (World.grownBy_alloc _ _ _)).trans hg,hr,at_weak hat (by rw [World.size_alloc,World.size_alloc];omega),R_own_move rfl (Kd.R_alloc (R_one wd s.f2 base hbd) _) (fun k hk => hg.block k (by rw [World.size_alloc,World.size_alloc];have : wd.heap.size = k:=own_some hk;omega) (fun e => by have:=Kd.R_lt HY5.out.pours k e.symm;have : wd.heap.size = k:=own_some hk;omega))⟩))
   rintro ⟨k8,k16,v25⟩ w5 hmid
   obtain ⟨A9,c9,rfl⟩:=Kd.R_slice hmid.r25
   rw [List.length_append,List.length_singleton] at hmid ⊢
   have HM:=am hmid
   clear hmid
   refine norm_ (a':=?_) ?_ ?_
   rotate_left
   ·simp only [putAll,Act.put,List.setIfInBounds_toArray,List.set_cons_zero,List.set_cons_succ]
    rfl
   have hdy : (Kd.int .i64).R 3 w5 base (fun _ => True) L.vd Y.days:=R_own_move rfl HY5.out.days (fun k hk => HM.out.grown.block k (Kd.R_lt HY5.out.days k hk) (fun e => HY5.out.apart k e.symm hk))
   have HDY:=am hdy
   clear hdy
   refine one_ (i:=17) (N:=(some 33)) (ab 24 262143) rfl rfl (one_of HT_.out kr) (by decide) (fun K hK => ?_)
   refine Kd.R_append_rows_step (Kd.int .i64) (Rr:=fun x c => (Kd.int .i64).K w5 x c) (w0:=w5) base (by rfl) (.tmp 29) (.tmp 32) 27 3 (.int .i64 0) 8 rfl Tryz.underlying27 info3 rfl (by decide) (by decide) L.vd Y.days [s.f2] (some ⟨k16,0,none⟩) 1 1 (fun _ => True) (fun _ => False) rfl rfl HDY.out (Kd.R_reads' HM.out.r16).2.2 (fun _ _ h => h) (fun _ h => h.elim) (fun _ _ => trivial) (Below.refl _ _) (Nat.le_trans hbd HM.out.grown.size) (by have:=HW.out.npours;have:=HW.out.days;omega) ?_
   intro v33 w7 hr hb hg hat
   obtain ⟨A10,c10,rfl⟩:=Kd.R_slice hr
   rw [List.length_append,List.length_singleton] at hr hat ⊢
   have hnv : NeRow (.slice A9 (Y.pours.length + 1) c9) L.vd:=fun k hk hk' => by
    rcases HM.out.at25 with e|⟨b,e,hle⟩
    ·exact HY5.out.apart k (e ▸ hk) hk'
    ·have:=Kd.R_lt HY5.out.days k hk'
     rw [e] at hk
     injection hk with hk
     omega
   have hr25 : (Kd.int .i64).R 3 w7 base (fun _ => True) (.slice A9 (Y.pours.length + 1) c9) (Y.pours ++ [s.f0]):=R_own_move rfl HM.out.r25 (fun k hk => hg.block k (Kd.R_lt HM.out.r25 k hk) (fun e => hnv k hk e.symm))
   have hfar : ∀ k,k < wd.heap.size → some k ≠ L.vo.ownBlock → some k ≠ L.vd.ownBlock → w7.heap[k]? = wd.heap[k]?:=fun k hk n1 n2 => (hg.block k (Nat.lt_of_lt_of_le hk HM.out.grown.size) n2).trans (HM.out.grown.block k hk n1)
   have hnr : NeRow (.slice A9 (Y.pours.length + 1) c9) (.slice A10 (Y.days.length + 1) c10):=fun k hk hk' => by
    rcases hat with e|⟨b,e,hle⟩
    ·exact hnv k hk (e ▸ hk')
    ·have:=Kd.R_lt HM.out.r25 k hk
     rw [e] at hk'
     injection hk' with hk'
     omega
   obtain ⟨s1,s2,s3,s4,s5,s6⟩:=HY5.out.set_pours (Nat.le_trans HM.out.grown.size hg.size) hfar hr25 hr HM.out.at25 (at_weak hat HM.out.grown.size) hnr
   have HY8:=am s1
   have HF8:=am s2
   have HB8:=am (((((HB5.out.mono hbw).trans (HM.out.below.trans hb)).setCell (p:=⟨L.g,2,none⟩) HY.out.gbase (.slice A9 (Y.pours.length + 1) c9))).setCell (p:=⟨L.g,3,none⟩) HY.out.gbase (.slice A10 (Y.days.length + 1) c10))
   have hss:=HSS.out w7 hfar
   clear hr hb hg hat hnv hr25 hfar hnr s1 s2
   refine hK.out _ _ hss (fun hHeld => ?_)
   clear hK K
   refine qN (some 33) ?_
   refine qA 18 (some 34) ?_;refine qA 19 (some 35) ?_
   refine last_ (i:=20) (N:=none) (ab 24 2097151) rfl rfl (one_of HT_.out kr) (by decide) (fun K hK => ?_)
   refine skip_ (w1:=?_) (by rfl) rfl ?_ ?_
   rotate_left
   ·go_simp
    rfl
   refine hK.out _ _ ?_
   clear hK K
   refine qA 21 (some 36) ?_;refine qA 22 (some 37) ?_
   refine last_ (i:=23) (N:=none) (ab 24 16777215) rfl rfl (one_of HT_.out kr) (by decide) (fun K hK => ?_)
   refine skip_ (w1:=?_) (by rfl) rfl ?_ ?_
   rotate_left
   ·go_simp
    rfl
   refine hK.out _ _ ?_
   clear hK K
   refine done_ (done_of HT_.out kr) ?_
   go_wp2
   have HX8:=am ((HF8.out.keep W.heap.size (by have:=blk_lt HX5.out;exact this) HNX.out).1.trans HX5.out)
   have HN8:=am ((HF8.out.keep W.heap.size (by have:=blk_lt HX5.out;exact this) HNX.out).2)
   have HR8:=am ((Fr.of_below L HB5.out).trans HF8.out)
   obtain ⟨L2,hL2⟩ : ∃ L2 : Loc,L2 = { L with vo:=.slice A9 (Y.pours.length + 1) c9,vd:=.slice A10 (Y.days.length + 1) c10 }:=⟨_,rfl⟩
   have HLG:=am (show L2.g = L.g by rw [hL2])
   have HLP:=am (show L2.gp = L.gp by rw [hL2])
   rw [← hL2] at HY8 HN8 HR8
   clear hL2 HF8 HM HDY HSS s3 s4 s5 s6 hss
   generalize ((w7.setCell ⟨L.g,2,none⟩ (.slice A9 (Y.pours.length + 1) c9)).setCell ⟨L.g,3,none⟩ (.slice A10 (Y.days.length + 1) c10)) = w8 at HY8 HX8 HN8 HR8 HB8 ⊢
   obtain ⟨A2,c2,y1,y2,y3,y4⟩:=HY8.out.pit_at h0 h1
   obtain ⟨q,hq⟩ : ∃ q,q = pitP Y s.f3:=⟨_,rfl⟩
   rw [show pitP ({ Y with pours:=Y.pours ++ [s.f0],days:=Y.days ++ [s.f2] } : Yd) s.f3 = q from hq.symm] at y1 y2 y3
   have HQL:=am (show q.length ≤ 4096 by have:=held_ge HP1.out;have:=HHM.out;rw [hq];omega)
   have HQ:=am hq
   have HL2:=am y2
   clear hq y2
   obtain ⟨ad,had⟩ : ∃ ad : Addr,ad = ⟨L.gp,0,none⟩:=⟨_,rfl⟩
   have HAD:=am had
   have e2 : ad.add s.f3.toNat = ⟨L2.gp,s.f3.toNat,none⟩:=by rw [had,add_plain,HLP.out]
   rw [← e2] at y1 y4
   have hb8:=HY8.out.blk
   rw [HLG.out,HLP.out] at hb8
   have HG9:=am (show ∀ w' : World,Below w8.heap.size w8 w' → w'.cell? ⟨L.g,1,none⟩ = some (.slice (some ad) Y.rooms.length Y.rooms.length) from fun w' hb => (blk_cell (blk_below hb8 hb) 1).trans (by rw [HAD.out];rfl))
   have HP9:=am (show ∀ w' : World,Below w8.heap.size w8 w' → w'.cell? (ad.add s.f3.toNat) = some (.slice A2 q.length c2) from fun w' hb => pw_cell_below hb y1)
   have HS9:=am (show ∀ w' : World,Below w8.heap.size w8 w' → (w'.cell? ⟨L.g,1,none⟩ = some (.slice (some ad) Y.rooms.length Y.rooms.length) ∧ w'.cell? ⟨W.heap.size,0,none⟩ = some (.int .i64 s.f0) ∧ w'.cell? ⟨W.heap.size,3,none⟩ = some (.int .i64 s.f3) ∧ w'.cell? ⟨W.heap.size,5,none⟩ = some (.int .i64 s.f5) ∧ w'.cell? (ad.add s.f3.toNat) = some (.slice A2 q.length c2)) from fun w' hb => ⟨HG9.out w' hb,(blk_cell (blk_below HX8.out hb) 0).trans rfl,(blk_cell (blk_below HX8.out hb) 3).trans rfl,(blk_cell (blk_below HX8.out hb) 5).trans rfl,HP9.out w' hb⟩)
   have HD9:=am (below_drew (Below.refl w8.heap.size w8))
   have HY9:=am (HY8.out.move HD9.out)
   have HG9':=am (Kd.F_drew y3)
   have HE2:=am e2
   clear had e2 y1 y3 y4 hb8 HX5 HY5 HB5 HP9 HG9
   refine start_ (n:=29) (S:=fun w' => w'.cell? ⟨L.g,1,none⟩ = some (.slice (some ad) Y.rooms.length Y.rooms.length) ∧ w'.cell? ⟨W.heap.size,0,none⟩ = some (.int .i64 s.f0) ∧ w'.cell? ⟨W.heap.size,3,none⟩ = some (.int .i64 s.f3) ∧ w'.cell? ⟨W.heap.size,5,none⟩ = some (.int .i64 s.f5) ∧ w'.cell? (ad.add s.f3.toNat) = some (.slice A2 q.length c2)) (ds:=[28]) (ab 29 0) kr rfl kr (HS9.out _ HD9.out) (fun hHeld => ?_);refine with_tabW R221_4.tab R221_4.bits (fun HT_ HW_ => ?_)
   generalize (w8).drew = wd2 at HY9 HG9' HD9 hHeld ⊢
   refine qA 0 (some 38) ?_;refine qA 1 (some 39) ?_;refine qA 2 (some 40) ?_;refine qT 3 (some 41) ?_;refine qA 4 (some 42) ?_;refine qT 5 (some 43) ?_;refine qA 6 (some 44) ?_;refine qA 7 (some 45) ?_;refine qA 8 (some 46) ?_;refine qT 9 (some 47) ?_;refine qA 10 (some 48) ?_;refine qT 11 (some 49) ?_;refine qA 12 (some 50) ?_;refine qT 13 (some 51) ?_;refine qA 15 (some 53) ?_;refine qT 16 (some 54) ?_;refine qA 17 (some 55) ?_;refine qT 18 (some 56) ?_;refine qA 19 (some 57) ?_;refine qT 20 (some 58) ?_
   refine one_ (i:=14) (N:=(some 52)) (ab 29 2097151) rfl rfl (one_of HT_.out kr) (by decide) (fun K hK => ?_)
   refine gC Tryz.func242 #[.slice A2 q.length c2] ?_
   refine (clone242_calls A2 c2 q _ L2.Not HG9'.out HL2.out (by have:=HQL.out;omega)).mono ?_
   rintro e w10 ⟨v,rfl,hB,hRv⟩
   obtain ⟨A5,c5,rfl⟩:=Kd.R_slice hRv
   have HV10:=am hRv
   have HD10:=am (below_then HD9.out (below_size HD9.out) hB)
   have HC10:=am hB
   have HLT10:=am (fun k hk => Kd.R_lt hRv k hk)
   clear hB hRv
   refine ⟨_,rfl,?_⟩
   refine hK.out _ _ (HS9.out _ HD10.out) (fun hHeld => ?_)
   clear hK K
   refine qN (some 52) ?_
   refine one_ (i:=21) (N:=(some 59)) (ab 29 4194303) rfl rfl (one_of HT_.out kr) (by decide) (fun K hK => ?_)
   refine gC Tryz.func156 #[.int .i64 s.f5] ?_
   refine (pit_whole.calls s.f5 s.f5 1 _ rfl).mono ?_
   rintro e w11 ⟨rfl,hB⟩
   have HD11:=am (below_then HD10.out (below_size HD10.out) hB)
   have HC11:=am (HC10.out.trans (hB.mono HC10.out.size))
   have HE11:=am hB
   clear hB
   refine ⟨_,rfl,?_⟩
   refine hK.out _ _ (HS9.out _ HD11.out) (fun hHeld => ?_)
   clear hK K
   refine qN (some 59) ?_
   refine qA 22 (some 60) ?_
   refine one_ (i:=23) (N:=(some 61)) (ab 29 16777215) rfl rfl (one_of HT_.out kr) (by decide) (fun K hK => ?_)
   refine Kd.N_lit_step k89 (w0:=w11) w11.heap.size 89 (by rfl) rfl (xs:=[⟨s.f0,wholeP s.f5⟩]) (inner:=[.int .i64 s.f0,.int .i64 s.f5,.int .i64 1]) (ok:=fun k => w11.heap.size ≤ k) (okp:=fun _ => False) ?run ?rep ?ok ?fr (Below.refl _ _) (Nat.le_refl _) (by simp) ?_
   case run => go_simp
   case rep => exact (Reps.none _ _).snoc (Kd.FK_of_M (base:=0) (k89_mkM _ _ _ ⟨s.f0,wholeP s.f5⟩)) rfl
   case ok => exact fun k hk => hk.elim
   case fr => exact Nat.le_refl _
   intro v12 w12 hn hB hg hat
   obtain ⟨A12,c12,rfl⟩:=Kd.N_slice hn
   have HD12:=am (below_then HD11.out (below_size HD11.out) hB)
   have HC12:=am (HC11.out.trans (hB.mono HC11.out.size))
   have HN12:=am hn
   have HB1012:=am (below_then HE11.out (below_size HE11.out) hB)
   have hs12 : w11.heap.size ≤ w12.heap.size:=hB.size
   have HS12:=am hs12
   clear hn hB hg hat hs12
   refine hK.out _ _ (HS9.out _ HD12.out) (fun hHeld => ?_)
   clear hK K
   refine qN (some 61) ?_
   refine qA 24 (some 62) ?_
   refine one_ (i:=25) (N:=(some 63)) (ab 29 67108863) rfl rfl (one_of HT_.out kr) (by decide) (fun K hK => ?_)
   refine value_ (w1:=?_) (v:=?_) (by rfl) rfl ?_ ?_
   rotate_left 2
   ·go_simp
    constructor
    ·rfl
    ·rfl
   refine hK.out _ _ (HS9.out _ (below_alloc HD12.out _)) (fun hHeld => ?_)
   clear hK K
   refine qN (some 63) ?_
   refine one_ (i:=26) (N:=(some 64)) (ab 29 134217727) rfl rfl (one_of HT_.out kr) (by decide) (fun K hK => ?_)
   refine Kd.R_append_step (ft k212 w12 (fun k => L2.Not k ∧ some k ≠ (Value.slice A5 q.length c5).ownBlock)) (w0:=w12) wd2.heap.size (by rfl) (.tmp 52) (.tmp 63) 131 212 (.agg #[.int .i64 0,.slice none 0 0]) 32 rfl Tryz.underlying131 info212 rfl (by show 0 < (k212 : Kd _).sz;decide) (by decide) (.slice A5 q.length c5) q ⟨s.f5,[⟨s.f0,wholeP s.f5⟩]⟩ [.int .i64 s.f5,.slice A12 1 c12] (fun _ => True) (fun k => some k ≠ (Value.slice A5 q.length c5).ownBlock) rfl rfl ?aM (fun k hk => ⟨trivial,hk⟩) (fun _ _ => trivial) ?aO (Below.refl _ _) HC12.out.size ?aL ?_
   case aM =>
    exact k212_mkF w12 _ ⟨s.f5,[⟨s.f0,wholeP s.f5⟩]⟩ (Kd.N_reads' HN12.out).2.1 (Kd.F_mono (Kd.N_F HN12.out) (fun k hk => ⟨HY9.out.not_new (Nat.le_trans HC11.out.size hk),fun e => by have:=HLT10.out k e.symm;have:=HE11.out.size;omega⟩))
   case aO => exact ft_to (Kd.R_below HV10.out HB1012.out) HC12.out (fun k hk hlt => ⟨hk,fun e => by have:=Kd.R_base HV10.out k e.symm;omega⟩)
   case aL => have:=HQL.out;omega
   intro v1 w13 hr hb hg hat
   obtain ⟨A7,c7,rfl⟩:=Kd.R_slice hr
   have HV7:=am (Kd.R_reads' hr).2.1
   have hD13:=HD12.out.trans (hb.mono HD9.out.size)
   have HY13:=am (HY8.out.move hD13)
   have hF13 : Kd.F k212 w13 L2.Not A7 (q ++ [(⟨s.f5,[⟨s.f0,wholeP s.f5⟩]⟩ : S212)]).length (q ++ [(⟨s.f5,[⟨s.f0,wholeP s.f5⟩]⟩ : S212)]):=ft_F2 hr (fun k hk hlt => hg.block k hlt hk.2) (fun k hk => hk.1) (fun k hk => HY9.out.not_new (Kd.R_base hr k hk))
   obtain ⟨s1,s2,s3⟩:=HY13.out.set_pit h0 h1 HV7.out hF13
   obtain ⟨_,_,z1,_,_,z4⟩:=HY13.out.pit_at h0 h1
   have z5 : w13.frozen? (ad.add s.f3.toNat) = false:=by rw [HE2.out];exact z4
   have hss:=HS9.out _ hD13
   have z6:=hss.2.2.2.2
   rw [List.length_append,List.length_singleton] at s1 s2 s3 ⊢
   have HY14:=am s1
   have HR14:=am ((HR8.out.trans (Fr.of_below L2 hD13)).trans s2)
   have HB14:=am ((HB8.out.trans (hD13.mono (Nat.le_trans hbw HB8.out.size))).trans s3)
   clear hr hb hg hat hD13 hF13 s1 s2 s3 z1 z4
   refine hK.out _ _ hss (fun hHeld => ?_)
   clear hK K
   refine qN (some 64) ?_
   refine qA 27 (some 65) ?_
   refine last_ (i:=28) (N:=none) (ab 29 536870911) rfl rfl (one_of HT_.out kr) (by decide) (fun K hK => ?_)
   refine skip_ (w1:=?_) (by rfl) rfl ?_ ?_
   rotate_left
   ·go_simp
    rfl
   refine hK.out _ _ ?_
   clear hK K
   refine done_ (done_of HT_.out kr) ?_
   go_wp2
   go_end0
   rw [HE2.out]
   rw [HQ.out] at HB14 HR14 HY14 ⊢
   exact StepPost.done HB14.out HLG.out HR14.out HY14.out
  ·have HRO:=am hro
   clear hro
   rw [pourP_full HNW.out (by have:=HRO.out;omega)]
   go_enter Tryz.func221,Tryz.ntmps221
   go_wp2_with fail
   refine (fresh_calls HY1.out HW.out hm s.f0).mono ?_
   rintro e w1 ⟨rfl,hd⟩
   rw [freshE_ok HNW.out]
   have HB2:=am (below_then HB1.out (below_size HB1.out) hd)
   have HX2:=am (blk_below HX1.out hd)
   have HY2:=am (HY1.out.move hd)
   clear hd
   have g0a:=bd HX2.out 0
   have g1a:=bd HX2.out 1
   have g2a:=bd HX2.out 2
   have g3a:=bd HX2.out 3
   have g4a:=bd HX2.out 4
   have g5a:=bd HX2.out 5
   go_wp2_with fail
   refine (room_calls HY2.out HW.out s.f3 s.f5 h0 h1 (by omega) hn2).mono ?_
   rintro e w2 ⟨rfl,hd⟩
   rw [show roomE Y s.f3 s.f5 = Pan 2 from if_neg (by have:=HRO.out;omega)]
   have HD:=am hd
   clear hd
   unfold Pan
   go_wp2
   exact ⟨rfl,StepPost.err0 HY.out (below_then HB2.out (below_size HB2.out) HD.out)⟩
def R224_4.T : Bool × List (List Nat × List Nat):=(true,[([],[]),([0],[0]),([1],[1]),([2],[2]),([],[]),([4],[4]),([],[]),([6],[6]),([7],[7]),([8],[8]),([],[]),([10],[10]),([9,11],[9,11]),([12],[12]),([13],[13]),([],[]),([14,15,14],[14,15]),([3,5,0,1,2,3,4,5,6,7,8,9,10,11,12,13,14,15,16],[3,5]),([17,16,16,0,1,2,3,4,5,6,7,8,9,10,11,12,13,14,15,16],[16,17])])
def R224_4.B : List Nat:=[0,1,3,7,0,16,0,64,192,448,0,1024,4032,8128,16320,0,65472,131071,262143]
theorem R224_4.tab : rtab .any (opsOf Tryz.f224 4) = R224_4.T:=by kernel_rfl
theorem R224_4.bits : waitsOk R224_4.T.2 R224_4.B = true:=by kernel_rfl
theorem moveP_little {Y : Yd} {s : S84} (h2 : ¬ s.f5 ≤ heldP (pitP Y s.f3)) : moveP Y s = .error 4:=by unfold moveP;rw [if_neg h2]
theorem moveP_full {Y : Yd} {s : S84} (h2 : s.f5 ≤ heldP (pitP Y s.f3)) (h : ¬ heldP (pitP Y s.f4) + s.f5 ≤ roomP Y s.f4) : moveP Y s = .error 2:=by unfold moveP;rw [if_pos h2,if_neg h]
theorem moveP_ahead {Y : Yd} {s : S84} (h2 : s.f5 ≤ heldP (pitP Y s.f3)) (h : heldP (pitP Y s.f4) + s.f5 ≤ roomP Y s.f4) (h3 : aheadP (pitP Y s.f3) s.f5 = none) : moveP Y s = .error 3:=by unfold moveP;rw [if_pos h2,if_pos h,h3]
theorem moveP_ok {Y : Yd} {s : S84} (h2 : s.f5 ≤ heldP (pitP Y s.f3)) (h : heldP (pitP Y s.f4) + s.f5 ≤ roomP Y s.f4) {a b : List S212} (h3 : aheadP (pitP Y s.f3) s.f5 = some (a,b)) : moveP Y s = .ok { Y with pits:=(Y.pits.set s.f3.toNat b).set s.f4.toNat ((Y.pits.set s.f3.toNat b).getD s.f4.toNat [] ++ a) }:=by unfold moveP;rw [if_pos h2,if_pos h,h3]
set_option maxRecDepth 100000 in
set_option maxHeartbeats 4000000 in
theorem move_calls {W : World} {base m : Nat} {L : Loc} {Y : Yd} (hY : YardAt W base L Y) (hw : Wf m Y) (hm : m ≤ 60) (s : S84) (step : Int) (h0 : 0 ≤ s.f3) (h1 : s.f3 < Y.rooms.length) (hn1 : 1 ≤ s.f5) (hn2 : s.f5 ≤ 1000) (t0 : 0 ≤ s.f4) (t1 : s.f4 < Y.rooms.length) (hne : s.f4 ≠ s.f3) :
  Calls Tryz.prog 224 #[.pointer (some ⟨L.g,0,none⟩),.agg #[.int .i64 s.f0,.int .i64 s.f1,.int .i64 s.f2,.int .i64 s.f3,.int .i64 s.f4,.int .i64 s.f5],.int .i64 step] W fun e W' => StepPost W base L (moveP Y s) e W':=by
 have hu:=Tryz.underlying84
 obtain ⟨p1,p2,p3,p4⟩:=hw.pitOk h0 h1
 have HY:=am hY
 have HW:=am hw
 have HP1:=am p1
 have HY1:=am (hY.move (below_alloc (Below.refl W.heap.size W) (.cells #[.int .i64 s.f0,.int .i64 s.f1,.int .i64 s.f2,.int .i64 s.f3,.int .i64 s.f4,.int .i64 s.f5] 84)))
 have HB1:=am (below_alloc (Below.refl W.heap.size W) (.cells #[.int .i64 s.f0,.int .i64 s.f1,.int .i64 s.f2,.int .i64 s.f3,.int .i64 s.f4,.int .i64 s.f5] 84))
 have HX1:=am (blk_new W (.cells #[.int .i64 s.f0,.int .i64 s.f1,.int .i64 s.f2,.int .i64 s.f3,.int .i64 s.f4,.int .i64 s.f5] 84))
 have HNX:=am (hY.not_new (Nat.le_refl W.heap.size))
 have hbw : base ≤ W.heap.size:=by have:=hY.gLt;omega
 clear hY hw p1 p2 p3 p4
 by_cases hen : s.f5 ≤ heldP (pitP Y s.f3)
 ·have HEN:=am hen
  clear hen
  by_cases hro : heldP (pitP Y s.f4) + s.f5 ≤ roomP Y s.f4
  ·have HRO:=am hro
   clear hro
   cases hah : aheadP (pitP Y s.f3) s.f5 with
  |none =>
    have HAH:=am hah
    clear hah
    rw [moveP_ahead HEN.out HRO.out HAH.out]
    go_enter Tryz.func224,Tryz.ntmps224
    go_wp2_with fail
    refine (enough_calls HY1.out HW.out s h0 h1).mono ?_
    rintro e w1 ⟨rfl,hd⟩
    rw [show enoughE Y s.f3 s.f5 = .returned (.tuple #[]) from if_pos HEN.out]
    have HB2:=am (below_then HB1.out (below_size HB1.out) hd)
    have HX2:=am (blk_below HX1.out hd)
    have HY2:=am (HY1.out.move hd)
    clear hd
    have g0a:=bd HX2.out 0
    have g1a:=bd HX2.out 1
    have g2a:=bd HX2.out 2
    have g3a:=bd HX2.out 3
    have g4a:=bd HX2.out 4
    have g5a:=bd HX2.out 5
    go_wp2_with fail
    refine (room_calls HY2.out HW.out s.f4 s.f5 t0 t1 (by omega) hn2).mono ?_
    rintro e w2 ⟨rfl,hd⟩
    rw [show roomE Y s.f4 s.f5 = .returned (.tuple #[]) from if_pos HRO.out]
    have HB3:=am (below_then HB2.out (below_size HB2.out) hd)
    have HX3:=am (blk_below HX2.out hd)
    have HY3:=am (HY2.out.move hd)
    clear hd g0a g1a g2a g3a g4a g5a
    have g0b:=bd HX3.out 0
    have g1b:=bd HX3.out 1
    have g2b:=bd HX3.out 2
    have g3b:=bd HX3.out 3
    have g4b:=bd HX3.out 4
    have g5b:=bd HX3.out 5
    go_wp2_with fail
    refine (ahead_calls HY3.out HW.out s.f3 s.f5 h0 h1 hn1 hn2 HEN.out).mono ?_
    rintro e w3 ⟨hd,h⟩
    rcases h with ⟨_,rfl,hd2⟩|⟨a,b,A,c,h,_⟩
    ·have HD:=am hd2
     clear hd hd2
     unfold Pan
     go_wp2
     exact ⟨rfl,StepPost.err0 HY.out (below_then HB3.out (below_size HB3.out) HD.out)⟩
    ·rw [HAH.out] at h;cases h
  |some x =>
    obtain ⟨a,b⟩:=x
    have HAH:=am hah
    clear hah
    have hsp:=aheadP_spec Y.pours (pitP Y s.f3) s.f5 HP1.out (by omega) HEN.out a b HAH.out
    have HLA:=am (show a.length ≤ 4096 by have:=held_ge hsp.1;have:=hsp.2.2.1;omega)
    clear hsp
    rw [moveP_ok HEN.out HRO.out HAH.out]
    go_enter Tryz.func224,Tryz.ntmps224
    go_wp2_with fail
    refine (enough_calls HY1.out HW.out s h0 h1).mono ?_
    rintro e w1 ⟨rfl,hd⟩
    rw [show enoughE Y s.f3 s.f5 = .returned (.tuple #[]) from if_pos HEN.out]
    have HB2:=am (below_then HB1.out (below_size HB1.out) hd)
    have HX2:=am (blk_below HX1.out hd)
    have HY2:=am (HY1.out.move hd)
    clear hd
    have g0a:=bd HX2.out 0
    have g1a:=bd HX2.out 1
    have g2a:=bd HX2.out 2
    have g3a:=bd HX2.out 3
    have g4a:=bd HX2.out 4
    have g5a:=bd HX2.out 5
    go_wp2_with fail
    refine (room_calls HY2.out HW.out s.f4 s.f5 t0 t1 (by omega) hn2).mono ?_
    rintro e w2 ⟨rfl,hd⟩
    rw [show roomE Y s.f4 s.f5 = .returned (.tuple #[]) from if_pos HRO.out]
    have HB3:=am (below_then HB2.out (below_size HB2.out) hd)
    have HX3:=am (blk_below HX2.out hd)
    have HY3:=am (HY2.out.move hd)
    clear hd g0a g1a g2a g3a g4a g5a
    have g0b:=bd HX3.out 0
    have g1b:=bd HX3.out 1
    have g2b:=bd HX3.out 2
    have g3b:=bd HX3.out 3
    have g4b:=bd HX3.out 4
    have g5b:=bd HX3.out 5
    go_wp2_with fail
    refine (ahead_calls HY3.out HW.out s.f3 s.f5 h0 h1 hn1 hn2 HEN.out).mono ?_
    rintro e w3 ⟨hd,h⟩
    rcases h with ⟨h,_⟩|⟨a',b',A,c,h,rfl,hlc,hY4,hfr,hFa⟩
    ·rw [HAH.out] at h;cases h
    rw [HAH.out] at h
    injection h with h
    injection h with ha hb
    subst ha
    subst hb
    have HX4:=am ((hfr.keep W.heap.size (blk_lt HX3.out) HNX.out).1.trans HX3.out)
    have HY4:=am hY4
    have HF4:=am hFa
    have HR4:=am ((Fr.of_below L HB3.out).trans hfr)
    have HB4:=am ((HB3.out.mono hbw).trans hd)
    have HLC:=am hlc
    clear hd hlc hY4 hfr hFa g0b g1b g2b g3b g4b g5b
    obtain ⟨A2,c2,y1,y2,y3,y4⟩:=HY4.out.pit_at t0 t1
    obtain ⟨q,hq⟩ : ∃ q,q = pitP ({ Y with pits:=Y.pits.set s.f3.toNat b } : Yd) s.f4:=⟨_,rfl⟩
    rw [← hq] at y1 y2 y3
    have hql : q.length ≤ 4096:=by
     have e : q = pitP Y s.f4:=by
      rw [hq]
      unfold pitP
      rw [List.getD_eq_getElem?_getD,List.getD_eq_getElem?_getD,List.getElem?_set_ne (by omega)]
     obtain ⟨p1,p2,p3,p4⟩:=HW.out.pitOk t0 t1
     have:=held_ge p1
     rw [e]
     omega
    have HQ:=am hq
    have HQL:=am hql
    have HL2:=am y2
    clear hq hql y2
    obtain ⟨ad,had⟩ : ∃ ad : Addr,ad = ⟨L.gp,0,none⟩:=⟨_,rfl⟩
    have HAD:=am had
    have e2 : ad.add s.f4.toNat = ⟨L.gp,s.f4.toNat,none⟩:=by rw [had,add_plain]
    rw [← e2] at y1 y4
    have HPC:=am ((show w3.drew.cell? (ad.add s.f4.toNat) = w3.cell? (ad.add s.f4.toNat) from rfl).trans y1)
    have HX5:=am (blk_drew HX4.out)
    have HY5:=am (HY4.out.move (below_drew (Below.refl _ w3)))
    have HF5:=am (Kd.F_drew HF4.out)
    have HG5:=am (Kd.F_drew y3)
    have HR5:=am (HR4.out.trans (Fr.of_below L (below_drew (Below.refl _ w3))))
    have HB5:=am (below_drew HB4.out)
    have HE2:=am e2
    clear had e2 y1 y3 y4
    go_wp2
    refine start_ (n:=19) (S:=fun w' => w'.cell? ⟨L.g,1,none⟩ = some (.slice (some ad) Y.rooms.length Y.rooms.length) ∧ w'.cell? ⟨W.heap.size,4,none⟩ = some (.int .i64 s.f4) ∧ w'.cell? (ad.add s.f4.toNat) = some (.slice A2 q.length c2)) (ds:=[18]) (ab 19 0) kr rfl kr ⟨(blk_cell HY5.out.blk 1).trans (by rw [HAD.out];rfl),(blk_cell HX5.out 4).trans rfl,HPC.out⟩ (fun hHeld => ?_);refine with_tabW R224_4.tab R224_4.bits (fun HT_ HW_ => ?_)
    generalize (w3).drew = wd at HPC HX5 HY5 HF5 HG5 HR5 HB5 hHeld ⊢
    refine qA 0 (some 22) ?_;refine qA 1 (some 23) ?_;refine qA 2 (some 24) ?_;refine qT 3 (some 25) ?_;refine qA 4 (some 26) ?_;refine qT 5 (some 27) ?_;refine qA 6 (some 28) ?_;refine qA 7 (some 29) ?_;refine qA 8 (some 30) ?_;refine qT 9 (some 31) ?_;refine qA 10 (some 32) ?_;refine qT 11 (some 33) ?_;refine qA 12 (some 34) ?_;refine qT 13 (some 35) ?_;refine qA 15 (some 37) ?_
    refine qE 14 (some 36) fun K hK => ?_
    refine gC Tryz.func242 #[.slice A2 q.length c2] ?_
    refine (clone242_calls A2 c2 q _ L.Not HG5.out HL2.out (by have:=HQL.out;omega)).mono ?_
    rintro e w5 ⟨v,rfl,hB5,hRv⟩
    obtain ⟨A5,c5,rfl⟩:=Kd.R_slice hRv
    have HY6:=am (HY5.out.move hB5)
    have HX6:=am (blk_below HX5.out hB5)
    have HD6:=am hB5
    have HV6:=am hRv
    have HPC6:=am (pw_cell_below hB5 HPC.out)
    have HRW:=am (ReadsRow.imp_ (Kd.F_rows HF5.out) HD6.out (fun _ _ h => h))
    clear hB5 hRv
    refine ⟨_,rfl,?_⟩
    refine hK.out _ _ ⟨(blk_cell HY6.out.blk 1).trans (by rw [HAD.out];rfl),(blk_cell HX6.out 4).trans rfl,HPC6.out⟩ (fun hHeld => ?_)
    clear hK K
    refine qN (some 36) ?_
    refine qE 16 (some 38) fun K hK => ?_
    refine Kd.R_append_rows_step (ft k212 wd L.Not) (Rr:=fun x c => Kd.FK k212 wd L.Not x c) (w0:=wd) wd.heap.size (by rfl) (.tmp 36) (.tmp 37) 131 212 (.agg #[.int .i64 0,.slice none 0 0]) 32 rfl Tryz.underlying131 info212 rfl (by show 0 < (k212 : Kd _).sz;decide) (by decide) (.slice A5 q.length c5) q a A a.length c (fun _ => True) (fun k => some k ≠ (Value.slice A5 q.length c5).ownBlock) rfl rfl HV6.out HRW.out (fun _ _ h => h) (fun k hk => ⟨trivial,hk⟩) (fun _ _ => trivial) HD6.out HD6.out.size ?aL ?_
    case aL => have:=HQL.out;have:=HLA.out;omega
    intro v1 w7 hr hb hg hat
    obtain ⟨A7,c7,rfl⟩:=Kd.R_slice hr
    have HV7:=am (Kd.R_reads' hr).2.1
    rw [List.length_append] at hr hat ⊢
    have HY7:=am (HY5.out.move hb)
    have HX7:=am (blk_below HX5.out hb)
    have HPC7:=am (pw_cell_below hb HPC.out)
    have hF7 : Kd.F k212 w7 L.Not A7 (q ++ a).length (q ++ a):=by
     rw [List.length_append]
     exact ft_F hr (fun k _ hlt => hb.block k hlt) (fun k hk => HY5.out.not_new (Kd.R_base hr k hk))
    obtain ⟨s1,s2,s3⟩:=HY7.out.set_pit t0 t1 HV7.out hF7
    obtain ⟨_,_,z1,_,_,z4⟩:=HY7.out.pit_at t0 t1
    rw [List.length_append] at s1 s2 s3
    have z5 : w7.frozen? (ad.add s.f4.toNat) = false:=by rw [HE2.out];exact z4
    have z6:=HPC7.out
    have HY8:=am s1
    have HR8:=am ((HR5.out.trans (Fr.of_below L hb)).trans s2)
    have HB8:=am ((HB5.out.trans (hb.mono (Nat.le_trans hbw HB5.out.size))).trans s3)
    clear hr hb hg hat hF7 s1 s2 s3 z1 z4
    refine hK.out _ _ ⟨(blk_cell HY7.out.blk 1).trans (by rw [HAD.out];rfl),(blk_cell HX7.out 4).trans rfl,HPC7.out⟩ (fun hHeld => ?_)
    clear hK K
    refine qN (some 38) ?_
    refine qA 17 (some 39) ?_
    refine qL 18 (none) fun K hK => ?_
    refine skip_ (w1:=?_) (by rfl) rfl ?_ ?_
    rotate_left
    ·go_simp
     rfl
    refine hK.out _ _ ?_
    clear hK K
    refine done_ (done_of HT_.out kr) ?_
    go_wp2
    go_end0
    rw [HE2.out]
    rw [HQ.out] at HB8 HR8 HY8 ⊢
    exact StepPost.done HB8.out rfl HR8.out HY8.out
  ·have HRO:=am hro
   clear hro
   rw [moveP_full HEN.out (by have:=HRO.out;omega)]
   go_enter Tryz.func224,Tryz.ntmps224
   go_wp2_with fail
   refine (enough_calls HY1.out HW.out s h0 h1).mono ?_
   rintro e w1 ⟨rfl,hd⟩
   rw [show enoughE Y s.f3 s.f5 = .returned (.tuple #[]) from if_pos HEN.out]
   have HB2:=am (below_then HB1.out (below_size HB1.out) hd)
   have HX2:=am (blk_below HX1.out hd)
   have HY2:=am (HY1.out.move hd)
   clear hd
   have g0a:=bd HX2.out 0
   have g1a:=bd HX2.out 1
   have g2a:=bd HX2.out 2
   have g3a:=bd HX2.out 3
   have g4a:=bd HX2.out 4
   have g5a:=bd HX2.out 5
   go_wp2_with fail
   refine (room_calls HY2.out HW.out s.f4 s.f5 t0 t1 (by omega) hn2).mono ?_
   rintro e w2 ⟨rfl,hd⟩
   rw [show roomE Y s.f4 s.f5 = Pan 2 from if_neg (by have:=HRO.out;omega)]
   have HD:=am hd
   clear hd
   unfold Pan
   go_wp2
   exact ⟨rfl,StepPost.err0 HY.out (below_then HB2.out (below_size HB2.out) HD.out)⟩
 ·have HEN:=am hen
  clear hen
  rw [moveP_little (by have:=HEN.out;omega)]
  go_enter Tryz.func224,Tryz.ntmps224
  go_wp2_with fail
  refine (enough_calls HY1.out HW.out s h0 h1).mono ?_
  rintro e w1 ⟨rfl,hd⟩
  rw [show enoughE Y s.f3 s.f5 = Pan 4 from if_neg (by have:=HEN.out;omega)]
  have HD:=am hd
  clear hd
  unfold Pan
  go_wp2
  exact ⟨rfl,StepPost.err0 HY.out (below_then HB1.out (below_size HB1.out) HD.out)⟩
def R223_3.T : Bool × List (List Nat × List Nat):=(true,[([],[]),([0],[0]),([1],[1]),([2],[2]),([],[]),([4],[4]),([],[]),([],[]),([],[]),([8],[8]),([9],[9]),([10],[10]),([],[]),([12],[12]),([11,13],[11,13]),([14],[14]),([7,15],[7,15]),([6,16],[6,16]),([17],[17]),([3,5,0,1,2,3,4,5,6,7,8,9,10,11,12,13,14,15,16,17,18],[3,5]),([19,18,16,0,1,2,3,4,5,6,7,8,9,10,11,12,13,14,15,16,17,18],[18,19])])
def R223_3.B : List Nat:=[0,1,3,7,0,16,0,0,0,256,768,1792,0,4096,16128,32512,65408,131008,262080,524287,1048575]
theorem R223_3.tab : rtab .any (opsOf Tryz.f223 3) = R223_3.T:=by kernel_rfl
theorem R223_3.bits : waitsOk R223_3.T.2 R223_3.B = true:=by kernel_rfl
theorem turnP_none {Y : Yd} {s : S84} (h : ¬ 0 < heldP (pitP Y s.f3)) : turnP Y s = .ok Y:=by unfold turnP;rw [if_neg h]
theorem turnP_sum {Y : Yd} {s : S84} (h : 0 < heldP (pitP Y s.f3)) (h2 : summedP Y.pours (pitP Y s.f3) = none) : turnP Y s = .error 3:=by unfold turnP;rw [if_pos h,h2]
theorem turnP_ok {Y : Yd} {s : S84} (h : 0 < heldP (pitP Y s.f3)) {ps : List S89} (h2 : summedP Y.pours (pitP Y s.f3) = some ps) : turnP Y s = .ok { Y with pits:=Y.pits.set s.f3.toNat [⟨heldP (pitP Y s.f3),ps⟩] }:=by unfold turnP;rw [if_pos h,h2];rfl
set_option maxRecDepth 100000 in
set_option maxHeartbeats 4000000 in
theorem turn_calls {W : World} {base m : Nat} {L : Loc} {Y : Yd} (hY : YardAt W base L Y) (hw : Wf m Y) (hm : m ≤ 60) (s : S84) (step : Int) (h0 : 0 ≤ s.f3) (h1 : s.f3 < Y.rooms.length) :
  Calls Tryz.prog 223 #[.pointer (some ⟨L.g,0,none⟩),.agg #[.int .i64 s.f0,.int .i64 s.f1,.int .i64 s.f2,.int .i64 s.f3,.int .i64 s.f4,.int .i64 s.f5],.int .i64 step] W fun e W' => StepPost W base L (turnP Y s) e W':=by
 have hu:=Tryz.underlying84
 obtain ⟨p1,p2,p3,p4⟩:=hw.pitOk h0 h1
 have HY:=am hY
 have HW:=am hw
 have HP1:=am p1
 have HHM:=am (show heldP (pitP Y s.f3) ≤ 4096 by omega)
 have HY1:=am (hY.move (below_alloc (Below.refl W.heap.size W) (.cells #[.int .i64 s.f0,.int .i64 s.f1,.int .i64 s.f2,.int .i64 s.f3,.int .i64 s.f4,.int .i64 s.f5] 84)))
 have HB1:=am (below_alloc (Below.refl W.heap.size W) (.cells #[.int .i64 s.f0,.int .i64 s.f1,.int .i64 s.f2,.int .i64 s.f3,.int .i64 s.f4,.int .i64 s.f5] 84))
 have HX1:=am (blk_new W (.cells #[.int .i64 s.f0,.int .i64 s.f1,.int .i64 s.f2,.int .i64 s.f3,.int .i64 s.f4,.int .i64 s.f5] 84))
 have hbw : base ≤ W.heap.size:=by have:=hY.gLt;omega
 clear hY hw p1 p2 p3 p4
 by_cases hpos : 0 < heldP (pitP Y s.f3)
 ·cases hsm : summedP Y.pours (pitP Y s.f3) with
 |none =>
   have HSM:=am hsm
   clear hsm
   rw [turnP_sum hpos HSM.out]
   go_enter Tryz.func223,Tryz.ntmps223
   go_wp2_with fail
   refine (held_calls HY1.out HW.out s.f3 h0 h1).mono ?_
   rintro e w1 ⟨rfl,hd⟩
   have HB2:=am (below_then HB1.out (below_size HB1.out) hd)
   have HX2:=am (blk_below HX1.out hd)
   have HY2:=am (HY1.out.move hd)
   clear hd
   obtain ⟨A2,c2,y1,y2,y3,y4⟩:=HY2.out.pit_at h0 h1
   have hql : (pitP Y s.f3).length ≤ 4096:=by have:=held_ge HP1.out;have:=HHM.out;omega
   obtain ⟨hh,hhh⟩ : ∃ hh,hh = heldP (pitP Y s.f3):=⟨_,rfl⟩
   rw [← hhh] at hpos ⊢
   have HHE:=am hhh
   clear hhh
   have HPQ:=am HP1.out
   clear HP1 HHM
   obtain ⟨q,hq⟩ : ∃ q,q = pitP Y s.f3:=⟨_,rfl⟩
   rw [← hq] at y1 y2 y3 hql HPQ HSM
   have HQ:=am hq
   have HQL:=am hql
   have HL2:=am y2
   clear hq hql y2
   obtain ⟨ad,had⟩ : ∃ ad : Addr,ad = ⟨L.gp,0,none⟩:=⟨_,rfl⟩
   have HAD:=am had
   have e2 : ad.add s.f3.toNat = ⟨L.gp,s.f3.toNat,none⟩:=by rw [had,add_plain]
   rw [← e2] at y1 y4
   have HPC:=am ((show w1.drew.cell? (ad.add s.f3.toNat) = w1.cell? (ad.add s.f3.toNat) from rfl).trans y1)
   have HX5:=am (blk_drew HX2.out)
   have HY5:=am (HY2.out.move (below_drew (Below.refl _ w1)))
   have HG5:=am (Kd.F_drew y3)
   have HB5:=am (below_drew HB2.out)
   have HE2:=am e2
   clear had e2 y1 y3 y4
   go_wp2
   refine start_ (n:=21) (S:=fun w' => w'.cell? ⟨L.g,1,none⟩ = some (.slice (some ad) Y.rooms.length Y.rooms.length) ∧ w'.cell? ⟨W.heap.size,3,none⟩ = some (.int .i64 s.f3) ∧ w'.cell? (ad.add s.f3.toNat) = some (.slice A2 q.length c2)) (ds:=[20]) (ab 21 0) kr rfl kr ⟨(blk_cell HY5.out.blk 1).trans (by rw [HAD.out];rfl),(blk_cell HX5.out 3).trans rfl,HPC.out⟩ (fun hHeld => ?_);refine with_tabW R223_3.tab R223_3.bits (fun HT_ HW_ => ?_)
   generalize (w1).drew = wd at HPC HX5 HY5 HG5 HB5 hHeld ⊢
   refine qA 0 (some 13) ?_;refine qA 1 (some 14) ?_;refine qA 2 (some 15) ?_;refine qT 3 (some 16) ?_;refine qA 4 (some 17) ?_;refine qT 5 (some 18) ?_;refine qA 6 (some 19) ?_;refine qA 7 (some 20) ?_;refine qA 8 (some 21) ?_;refine qA 9 (some 22) ?_;refine qA 10 (some 23) ?_;refine qT 11 (some 24) ?_;refine qA 12 (some 25) ?_;refine qT 13 (some 26) ?_;refine qA 14 (some 27) ?_;refine qT 15 (some 28) ?_
   refine qE 16 (some 29) fun K hK => ?_
   refine goesP_ Tryz.func245 kr rfl #[.pointer (some ⟨L.g,0,none⟩),.slice A2 q.length c2] (by rfl) rfl vn ?_
   refine (callsIn_wide.1 (summed_in 3 (Nat.le_refl 3) HY5.out HW.out.pid HW.out.npours hm A2 c2 q HPQ.out HQL.out (Kd.F_now HG5.out) HL2.out)).mono ?_
   rintro e w5 ⟨hB5,h⟩
   rcases h with ⟨_,rfl⟩|⟨ps,Ap,cp,h,_⟩
   ·exact ⟨_,rfl,rfl,StepPost.err0 HY.out (below_then HB5.out (below_size HB5.out) hB5)⟩
   ·rw [HSM.out] at h;cases h
 |some ps =>
   have HSM:=am hsm
   clear hsm
   rw [turnP_ok hpos HSM.out]
   go_enter Tryz.func223,Tryz.ntmps223
   go_wp2_with fail
   refine (held_calls HY1.out HW.out s.f3 h0 h1).mono ?_
   rintro e w1 ⟨rfl,hd⟩
   have HB2:=am (below_then HB1.out (below_size HB1.out) hd)
   have HX2:=am (blk_below HX1.out hd)
   have HY2:=am (HY1.out.move hd)
   clear hd
   obtain ⟨A2,c2,y1,y2,y3,y4⟩:=HY2.out.pit_at h0 h1
   have hql : (pitP Y s.f3).length ≤ 4096:=by have:=held_ge HP1.out;have:=HHM.out;omega
   obtain ⟨hh,hhh⟩ : ∃ hh,hh = heldP (pitP Y s.f3):=⟨_,rfl⟩
   rw [← hhh] at hpos ⊢
   have HHE:=am hhh
   clear hhh
   have HPQ:=am HP1.out
   clear HP1 HHM
   obtain ⟨q,hq⟩ : ∃ q,q = pitP Y s.f3:=⟨_,rfl⟩
   rw [← hq] at y1 y2 y3 hql HPQ HSM
   have HQ:=am hq
   have HQL:=am hql
   have HL2:=am y2
   clear hq hql y2
   obtain ⟨ad,had⟩ : ∃ ad : Addr,ad = ⟨L.gp,0,none⟩:=⟨_,rfl⟩
   have HAD:=am had
   have e2 : ad.add s.f3.toNat = ⟨L.gp,s.f3.toNat,none⟩:=by rw [had,add_plain]
   rw [← e2] at y1 y4
   have HPC:=am ((show w1.drew.cell? (ad.add s.f3.toNat) = w1.cell? (ad.add s.f3.toNat) from rfl).trans y1)
   have HX5:=am (blk_drew HX2.out)
   have HY5:=am (HY2.out.move (below_drew (Below.refl _ w1)))
   have HG5:=am (Kd.F_drew y3)
   have HB5:=am (below_drew HB2.out)
   have HE2:=am e2
   clear had e2 y1 y3 y4
   go_wp2
   refine start_ (n:=21) (S:=fun w' => w'.cell? ⟨L.g,1,none⟩ = some (.slice (some ad) Y.rooms.length Y.rooms.length) ∧ w'.cell? ⟨W.heap.size,3,none⟩ = some (.int .i64 s.f3) ∧ w'.cell? (ad.add s.f3.toNat) = some (.slice A2 q.length c2)) (ds:=[20]) (ab 21 0) kr rfl kr ⟨(blk_cell HY5.out.blk 1).trans (by rw [HAD.out];rfl),(blk_cell HX5.out 3).trans rfl,HPC.out⟩ (fun hHeld => ?_);refine with_tabW R223_3.tab R223_3.bits (fun HT_ HW_ => ?_)
   generalize (w1).drew = wd at HPC HX5 HY5 HG5 HB5 hHeld ⊢
   refine qA 0 (some 13) ?_;refine qA 1 (some 14) ?_;refine qA 2 (some 15) ?_;refine qT 3 (some 16) ?_;refine qA 4 (some 17) ?_;refine qT 5 (some 18) ?_;refine qA 6 (some 19) ?_;refine qA 7 (some 20) ?_;refine qA 8 (some 21) ?_;refine qA 9 (some 22) ?_;refine qA 10 (some 23) ?_;refine qT 11 (some 24) ?_;refine qA 12 (some 25) ?_;refine qT 13 (some 26) ?_;refine qA 14 (some 27) ?_;refine qT 15 (some 28) ?_
   refine qE 16 (some 29) fun K hK => ?_
   refine gC Tryz.func245 #[.pointer (some ⟨L.g,0,none⟩),.slice A2 q.length c2] ?_
   refine (callsIn_wide.1 (summed_in 3 (Nat.le_refl 3) HY5.out HW.out.pid HW.out.npours hm A2 c2 q HPQ.out HQL.out (Kd.F_now HG5.out) HL2.out)).mono ?_
   rintro e w5 ⟨hB5,h⟩
   rcases h with ⟨h,_⟩|⟨ps',Ap,cp,h,rfl,hlp,hFp⟩
   ·rw [HSM.out] at h;cases h
   have hpe : ps = ps':=by rw [HSM.out] at h;injection h
   subst hpe
   have HY6:=am (HY5.out.move hB5)
   have HX6:=am (blk_below HX5.out hB5)
   have HB6:=am (below_then HB5.out (below_size HB5.out) hB5)
   have HPC6:=am (pw_cell_below hB5 HPC.out)
   have HK6:=am (k212_mkF w5 (fun k => wd.heap.size ≤ k) ⟨hh,ps⟩ hlp hFp)
   have HS6:=am hB5.size
   clear hB5 h hlp hFp
   refine ⟨_,rfl,?_⟩
   refine hK.out _ _ ⟨(blk_cell HY6.out.blk 1).trans (by rw [HAD.out];rfl),(blk_cell HX6.out 3).trans rfl,HPC6.out⟩ (fun hHeld => ?_)
   clear hK K
   refine qN (some 29) ?_
   refine qA 17 (some 30) ?_
   refine qE 18 (some 31) fun K hK => ?_
   refine Kd.N_lit_step k212 (w0:=w5) w5.heap.size 212 (by rfl) rfl (xs:=[⟨hh,ps⟩]) (inner:=[.int .i64 hh,.slice Ap ps.length cp]) (ok:=L.Not) (okp:=fun k => wd.heap.size ≤ k) ?run ?rep ?ok ?fr (Below.refl _ _) (Nat.le_refl _) (by simp) ?_
   case run => go_simp
   case rep => exact (Reps.none _ _).snoc HK6.out rfl
   case ok => exact fun k hk => HY5.out.not_new hk
   case fr => exact HY6.out.not_new (Nat.le_refl _)
   intro v6 w6 hn6 hb6 hg6 hat6
   obtain ⟨A6,c6,rfl⟩:=Kd.N_slice hn6
   have HY7:=am (HY6.out.move hb6)
   have HX7:=am (blk_below HX6.out hb6)
   have HPC7:=am (pw_cell_below hb6 HPC6.out)
   have hF7:=Kd.N_F hn6
   obtain ⟨s1,s2,s3⟩:=HY7.out.set_pit h0 h1 (Kd.N_reads' hn6).2.1 hF7
   obtain ⟨_,_,z1,_,_,z4⟩:=HY7.out.pit_at h0 h1
   have z5 : w6.frozen? (ad.add s.f3.toNat) = false:=by rw [HE2.out];exact z4
   have z6:=HPC7.out
   have HY8:=am s1
   have HR8:=am ((Fr.of_below L (below_then HB6.out (below_size HB6.out) hb6)).trans s2)
   have HB8:=am (((below_then HB6.out (below_size HB6.out) hb6).mono hbw).trans s3)
   clear hn6 hb6 hg6 hat6 hF7 s1 s2 s3 z1 z4
   refine hK.out _ _ ⟨(blk_cell HY7.out.blk 1).trans (by rw [HAD.out];rfl),(blk_cell HX7.out 3).trans rfl,HPC7.out⟩ (fun hHeld => ?_)
   clear hK K
   refine qN (some 31) ?_
   refine qA 19 (some 32) ?_
   refine qL 20 (none) fun K hK => ?_
   refine skip_ (w1:=?_) (by rfl) rfl ?_ ?_
   rotate_left
   ·go_simp
    rfl
   refine hK.out _ _ ?_
   clear hK K
   refine done_ (done_of HT_.out kr) ?_
   go_wp2
   go_end0
   rw [HE2.out]
   have e0:=HHE.out
   subst e0
   exact StepPost.done HB8.out rfl HR8.out HY8.out
 ·rw [turnP_none hpos]
  go_enter Tryz.func223,Tryz.ntmps223
  go_wp2_with fail
  refine (held_calls HY1.out HW.out s.f3 h0 h1).mono ?_
  rintro e w1 ⟨rfl,hd⟩
  have HB2:=am (below_then HB1.out (below_size HB1.out) hd)
  have HX2:=am (blk_below HX1.out hd)
  have HY2:=am (HY1.out.move hd)
  clear hd
  obtain ⟨hh,hhh⟩ : ∃ hh,hh = heldP (pitP Y s.f3):=⟨_,rfl⟩
  rw [← hhh] at hpos ⊢
  go_wp2
  go_end0
  exact StepPost.done (HB2.out.mono hbw) rfl (Fr.of_below L HB2.out) HY2.out
theorem ta325 (c : Int) (W : World) : (Instr.typeAssert (.iface 325 (.agg #[.int .i64 c])) 20 325 false).run Tryz.prog W = .ok (.agg #[.int .i64 c]) W:=by kernel_rfl
theorem fd325 (c : Int) (W : World) : (Instr.field 325 (.agg #[.int .i64 c]) 0).run Tryz.prog W = .ok (.int .i64 c) W:=by kernel_rfl
theorem do1_panic (c x : Int) (p : Addr) (W : World) (hc : W.cell? p = some (.int .i64 x)) (hz : W.frozen? p = false) :
  CallsD Tryz.prog 220 #[.pointer (some p)] (.panicking [{ v:=.iface 325 (.agg #[.int .i64 c]),recovered:=false }]) W fun e u' w' => e = .returned (.tuple #[]) ∧ u' = .panicking [{ v:=.iface 325 (.agg #[.int .i64 c]),recovered:=true }] ∧ w' = W.setCell p (.int .i64 c):=by
 refine callsD_of_wpS Tryz.func220 rfl fun c₀ cs hu => ?_
 apply wpS_seq
 apply wpS_region
 simp [wpOpsS,go_sem,recoverD,hu,Tryz.ntmps220,Exit.thenS]
 apply wpS_seq
 apply wpS_region
 simp [wpOpsS,go_sem,recoverD,hu,Tryz.ntmps220,Exit.thenS]
 refine wpS_cond (t:=true) (by simp [Act.eval,Array.replicate]) ?_
 simp only [if_true]
 apply wpS_region
 simp [wpOpsS,go_sem,hc,hz,bodyPostS,results,Tryz.results220,ta325,fd325]
theorem do1_idle (p : Addr) (w : World) :
  CallsD Tryz.prog 220 #[.pointer (some p)] .returning w fun e u' w' => e = .returned (.tuple #[]) ∧ u' = .returning ∧ w' = w:=by
 refine callsD_of_wpS Tryz.func220 rfl fun c₀ cs hu => ?_
 apply wpS_seq
 apply wpS_region
 simp [wpOpsS,go_sem,recoverD,hu,Tryz.ntmps220,Exit.thenS]
 apply wpS_seq
 apply wpS_region
 simp [wpOpsS,go_sem,recoverD,hu,Tryz.ntmps220,Exit.thenS]
 refine wpS_cond (t:=false) (by simp [Act.eval,Array.replicate]) ?_
 simp only [Bool.false_eq_true,if_false]
 refine wpS_of_wp (wp_skip ?_)
 cases c₀
 simp_all [bodyPostS,results,Tryz.results220]
theorem wpList_insert_map {P : Program} (w : World) {ops : Array Oper} {rest : List Oper} {o : Oper} {a : Act} {Q : Exit → Act → World → Prop}
  (hg : o.guard = none) (m x v : Operand) (t : TypeId) (hop : o.op = Op.insert t m x v)
  (k e : TypeId) (K : Go.Maps.Keyed P k) (ht : P.underlying t = some (.map k e)) {κ ν : Type} [DecidableEq κ] (ek : κ → Value) (ev : ν → Value) (b n : Nat) (M : κ → Option ν)
  (hm : a.eval m = .map (some b)) (h : MapIs P k ek ev w b n M) (hn : n < maxLen) (c : κ) (y : ν) (kl : Lit) (hx : a.eval x = ek c) (hv : a.eval v = ev y) (hkey : keyOf P k (ek c) = some kl) (hinj : ∀ c',ek c' = ek c → c' = c)
  (hK : ∀ w',MapIs P k ek ev w' b (n + 1) (fun c' => if c' = c then some y else M c') → w.grownBy w' (some b) → wpList P ops Q rest (a.put o.dst undef) w') :
  wpList P ops Q (o :: rest) a w:=by
 refine wpList_plain hg fun K' hK' => ?_
 obtain ⟨w',hrun,r1,r2⟩:=h.update K ht hn y hkey hinj
 unfold Oper.wp
 simp [execOp,hop,hm,hx,hv,hrun,Result.andThen]
 exact hK' _ _ (hK w' r1 r2)
theorem zero326 (w : World) : (zeroValue 326).run Tryz.prog w = .ok .nilFunc w:=by kernel_rfl
theorem below_same {w : World} {b t : Nat} {v : Value} (h : w.heap[b]? = some (.cells #[v] t (0,0))) : Below w.heap.size w (w.setCell ⟨b,0,none⟩ v):=by
 have h1:=(Below.refl b w).setCell (p:=⟨b,0,none⟩) (Nat.le_refl b) v
 refine ⟨h1.os,h1.tape,h1.output,h1.size,fun k hk => ?_⟩
 by_cases e : k = b
 ·rw [e]
  exact (blk_put (cs':=#[v]) h 0 v rfl).trans h.symm
 ·exact Below.heap_setCell w ⟨b,0,none⟩ v k e
theorem fr_set {W w6 : World} {L L' : Loc} {b j : Nat} (h : Fr W L w6 L') (hb : W.heap.size ≤ b) (u : Value) : Fr W L (w6.setCell ⟨b,j,none⟩ u) L' :=
 ⟨by rw [World.size_setCell];exact h.size,fun k hk hn => ⟨(Below.heap_setCell w6 ⟨b,j,none⟩ u k (by show k ≠ b;omega)).trans (h.keep k hk hn).1,(h.keep k hk hn).2⟩,h.bad⟩
def fnV (g : Nat) (k : Nat) : Value:=.func (.func k) #[.pointer (some ⟨g,0,none⟩)] #[]
def DoPost (W : World) (base : Nat) (L : Loc) (r : Except Int Yd) (e : Ending) (W' : World) : Prop :=
 Below base W W' ∧ ∃ L',L'.g = L.g ∧ Fr W L W' L' ∧ (match r with
 |.ok Y' => e = .returned (.int .i64 0) ∧ YardAt W' base L' Y'
 |.error c => e = .returned (.int .i64 c))
set_option maxRecDepth 100000 in
set_option maxHeartbeats 4000000 in
theorem do_calls {W : World} {base m : Nat} {L : Loc} {Y : Yd} (hY : YardAt W base L Y) (hw : Wf m Y) (hm : m ≤ 60) (s : S84) (step : Int) (hf : Formed Y.rooms.length s) :
  Calls Tryz.prog 177 #[.pointer (some ⟨L.g,0,none⟩),.agg #[.int .i64 s.f0,.int .i64 s.f1,.int .i64 s.f2,.int .i64 s.f3,.int .i64 s.f4,.int .i64 s.f5],.int .i64 step] W fun e W' => DoPost W base L (stepP Y s step) e W':=by
 have hmf : ∀ (fn : Fn) (first cap : Array Value) (w : World),(Instr.makeFunc fn first cap).run Tryz.prog w = .ok (.func fn first cap) w:=fun _ _ _ _ => rfl
 have hmm:=@run_makeMap Tryz.prog
 have hu:=Tryz.underlying84
 have HY:=am hY
 have HW:=am hw
 have HFo:=am hf
 clear hY hw hf
 have hbw : base ≤ W.heap.size:=by have:=HY.out.gLt;omega
 have HNN:=am (fun k (hk : W.heap.size ≤ k) => HY.out.not_new hk)
 have hm0:=MapIs.made ((W.alloc (.cells #[.int .i64 s.f0,.int .i64 s.f1,.int .i64 s.f2,.int .i64 s.f3,.int .i64 s.f4,.int .i64 s.f5] 84)).alloc (.cells #[.int .i64 0] 34)) Tryz.prog 3 ekI (fun v : Value => v)
 have hall : ∀ w5 : World,(((W.alloc (.cells #[.int .i64 s.f0,.int .i64 s.f1,.int .i64 s.f2,.int .i64 s.f3,.int .i64 s.f4,.int .i64 s.f5] 84)).alloc (.cells #[.int .i64 0] 34)).alloc (.map #[] 0)).grownBy w5 (some (W.heap.size + 1 + 1)) → Below W.heap.size W w5 ∧ w5.heap[W.heap.size]? = some (.cells #[.int .i64 s.f0,.int .i64 s.f1,.int .i64 s.f2,.int .i64 s.f3,.int .i64 s.f4,.int .i64 s.f5] 84) ∧ w5.heap[W.heap.size + 1]? = some (.cells #[.int .i64 0] 34):=fun w5 hg => by
  have b1:=below_alloc (below_alloc (below_alloc (Below.refl W.heap.size W) (.cells #[.int .i64 s.f0,.int .i64 s.f1,.int .i64 s.f2,.int .i64 s.f3,.int .i64 s.f4,.int .i64 s.f5] 84)) (.cells #[.int .i64 0] 34)) (.map #[] 0)
  have b2:=blk_alloc (blk_alloc (blk_new W (.cells #[.int .i64 s.f0,.int .i64 s.f1,.int .i64 s.f2,.int .i64 s.f3,.int .i64 s.f4,.int .i64 s.f5] 84)) (.cells #[.int .i64 0] 34)) (.map #[] 0)
  have b3:=blk_alloc (blk_new' (W.alloc (.cells #[.int .i64 s.f0,.int .i64 s.f1,.int .i64 s.f2,.int .i64 s.f3,.int .i64 s.f4,.int .i64 s.f5] 84)) (.cells #[.int .i64 0] 34) (W.heap.size + 1) (by simp)) (.map #[] 0)
  exact ⟨b1.grown hg (below_size b1) (fun k e => by cases e;omega),(hg.block _ (blk_lt b2) (fun e => by injection e;omega)).trans b2,(hg.block _ (blk_lt b3) (fun e => by injection e;omega)).trans b3⟩
 rw [World.size_alloc,World.size_alloc] at hm0
 have HM0:=am hm0
 have HALL:=am (show ∀ w5 : World,(((W.alloc (.cells #[.int .i64 s.f0,.int .i64 s.f1,.int .i64 s.f2,.int .i64 s.f3,.int .i64 s.f4,.int .i64 s.f5] 84)).alloc (.cells #[.int .i64 0] 34)).alloc (.map #[] 0)).grownBy w5 (some (W.heap.size + 1 + 1)) → Aside0 (YardAt w5 base L Y) ∧ Aside0 (Below base W w5) ∧ Aside0 (w5.heap[W.heap.size]? = some (.cells #[.int .i64 s.f0,.int .i64 s.f1,.int .i64 s.f2,.int .i64 s.f3,.int .i64 s.f4,.int .i64 s.f5] 84)) ∧ Aside0 (w5.heap[W.heap.size + 1]? = some (.cells #[.int .i64 0] 34)) from fun w5 hg => ⟨⟨HY.out.move (hall w5 hg).1⟩,⟨(hall w5 hg).1.mono hbw⟩,⟨(hall w5 hg).2.1⟩,⟨(hall w5 hg).2.2⟩⟩)
 have HF5:=am (fun (w5 : World) hg => Fr.of_below L (hall w5 hg).1)
 clear hm0 hall
 have hf3:=HFo.out.pit.1
 have hf4:=HFo.out.pit.2
 have hkind:=HFo.out.kind
 by_cases hk1 : s.f1 = 1
 ·have HK:=am hk1
  have hf5:=(HFo.out.amount (by omega)).1
  have hf6:=(HFo.out.amount (by omega)).2
  rw [show stepP Y s step = pourP Y s by unfold stepP;rw [if_pos hk1]]
  clear hk1 hkind
  cases hr : pourP Y s with
 |error c =>
   have HR:=am hr
   clear hr
   go_enter_defers Tryz.func177,Tryz.ntmps177
   go_wp2_with (first
   |(refine wpList_insert_map _ rfl _ _ _ 327 rfl 3 326 law3 Tryz.underlying327 ekI (fun v : Value => v) (W.heap.size + 1 + 1) 0 _ rfl HM0.out (by decide) 1 (fnV L.g 221) _ rfl rfl (keyI 1 (by decide) (by decide)) (fun _ => ekI_inj) ?_;intro w1 hm_ hg_;have HM1:=am hm_;have HG1:=am (hg_);clear hm_ hg_)
   |(refine wpList_insert_map _ rfl _ _ _ 327 rfl 3 326 law3 Tryz.underlying327 ekI (fun v : Value => v) (W.heap.size + 1 + 1) 1 _ rfl HM1.out (by decide) 2 (fnV L.g 222) _ rfl rfl (keyI 2 (by decide) (by decide)) (fun _ => ekI_inj) ?_;intro w2 hm_ hg_;have HM2:=am hm_;have HG2:=am (HG1.out.trans hg_);clear hm_ hg_)
   |(refine wpList_insert_map _ rfl _ _ _ 327 rfl 3 326 law3 Tryz.underlying327 ekI (fun v : Value => v) (W.heap.size + 1 + 1) 2 _ rfl HM2.out (by decide) 3 (fnV L.g 223) _ rfl rfl (keyI 3 (by decide) (by decide)) (fun _ => ekI_inj) ?_;intro w3 hm_ hg_;have HM3:=am hm_;have HG3:=am (HG2.out.trans hg_);clear hm_ hg_)
   |(refine wpList_insert_map _ rfl _ _ _ 327 rfl 3 326 law3 Tryz.underlying327 ekI (fun v : Value => v) (W.heap.size + 1 + 1) 3 _ rfl HM3.out (by decide) 4 (fnV L.g 224) _ rfl rfl (keyI 4 (by decide) (by decide)) (fun _ => ekI_inj) ?_;intro w4 hm_ hg_;have HM4:=am hm_;have HG4:=am (HG3.out.trans hg_);clear hm_ hg_)
   |(refine wpList_insert_map _ rfl _ _ _ 327 rfl 3 326 law3 Tryz.underlying327 ekI (fun v : Value => v) (W.heap.size + 1 + 1) 4 _ rfl HM4.out (by decide) 5 (fnV L.g 225) _ rfl rfl (keyI 5 (by decide) (by decide)) (fun _ => ekI_inj) ?_;intro w5 hm_ hg_;have HM5:=am hm_;have HG5:=am (HG4.out.trans hg_);clear hm_ hg_;obtain ⟨HY5,HB5,HX5,HZ5⟩:=HALL.out w5 HG5.out;have g0:=bd HX5.out 0;have g1:=bd HX5.out 1;have g2:=bd HX5.out 2;have g3:=bd HX5.out 3;have g4:=bd HX5.out 4;have g5:=bd HX5.out 5)
   |(refine wpList_lookup_map _ rfl _ _ 327 false rfl 3 326 law3 Tryz.underlying327 .nilFunc (zero326 _) ekI (fun v : Value => v) (W.heap.size + 1 + 1) 5 _ rfl HM5.out s.f1 _ rfl (keyI s.f1 (by have:=HK.out;omega) (by have:=HK.out;omega)) (.func (.func 221) #[.pointer (some ⟨L.g,0,none⟩)] #[]) (by simp [HK.out,fnV]) ?_)
   |fail)
   refine (pour_calls HY5.out HW.out hm s step hf3 hf4 hf5 hf6).mono ?_
   rintro e w6 ⟨hb,L',hg,hfr,h⟩
   rw [HR.out] at h
   have z1:=(hfr.keep (W.heap.size + 1) (blk_lt HZ5.out) (HNN.out _ (by omega))).1.trans HZ5.out
   have HB6:=am (HB5.out.trans hb)
   have HF6:=am (show Fr W L w6 L' from HF5.out w5 HG5.out |>.trans hfr)
   have HZ6:=am z1
   have HGG:=am hg
   clear hb hg hfr g0 g1 g2 g3 g4 g5
   have u0:=bd z1 0
   have u1:=blk_frozen z1 0
   clear z1
   subst h
   unfold Pan
   go_wp2
   refine leaves_cons (f:=220) (args:=#[.pointer (some ⟨W.heap.size + 1,0,none⟩)]) (by simp) (by simp [go_sem]) ?_
   refine (do1_panic c 0 ⟨W.heap.size + 1,0,none⟩ _ u0 u1).mono ?_
   rintro e u' w'' ⟨rfl,rfl,rfl⟩
   have s4:=(blk_cell (blk_put (cs':=#[.int .i64 c]) HZ6.out 0 (.int .i64 c) rfl) 0).trans (show _ = some (Value.int .i64 c) from rfl)
   exact ⟨_,by simp [results,Tryz.results177,go_sem,s4],HB6.out.trans ((Below.refl base w6).setCell (show base ≤ W.heap.size + 1 by omega) _),L',HGG.out,fr_set HF6.out (Nat.le_succ _) _,rfl⟩
 |ok Y' =>
   have HR:=am hr
   clear hr
   go_enter_defers Tryz.func177,Tryz.ntmps177
   go_wp2_with (first
   |(refine wpList_insert_map _ rfl _ _ _ 327 rfl 3 326 law3 Tryz.underlying327 ekI (fun v : Value => v) (W.heap.size + 1 + 1) 0 _ rfl HM0.out (by decide) 1 (fnV L.g 221) _ rfl rfl (keyI 1 (by decide) (by decide)) (fun _ => ekI_inj) ?_;intro w1 hm_ hg_;have HM1:=am hm_;have HG1:=am (hg_);clear hm_ hg_)
   |(refine wpList_insert_map _ rfl _ _ _ 327 rfl 3 326 law3 Tryz.underlying327 ekI (fun v : Value => v) (W.heap.size + 1 + 1) 1 _ rfl HM1.out (by decide) 2 (fnV L.g 222) _ rfl rfl (keyI 2 (by decide) (by decide)) (fun _ => ekI_inj) ?_;intro w2 hm_ hg_;have HM2:=am hm_;have HG2:=am (HG1.out.trans hg_);clear hm_ hg_)
   |(refine wpList_insert_map _ rfl _ _ _ 327 rfl 3 326 law3 Tryz.underlying327 ekI (fun v : Value => v) (W.heap.size + 1 + 1) 2 _ rfl HM2.out (by decide) 3 (fnV L.g 223) _ rfl rfl (keyI 3 (by decide) (by decide)) (fun _ => ekI_inj) ?_;intro w3 hm_ hg_;have HM3:=am hm_;have HG3:=am (HG2.out.trans hg_);clear hm_ hg_)
   |(refine wpList_insert_map _ rfl _ _ _ 327 rfl 3 326 law3 Tryz.underlying327 ekI (fun v : Value => v) (W.heap.size + 1 + 1) 3 _ rfl HM3.out (by decide) 4 (fnV L.g 224) _ rfl rfl (keyI 4 (by decide) (by decide)) (fun _ => ekI_inj) ?_;intro w4 hm_ hg_;have HM4:=am hm_;have HG4:=am (HG3.out.trans hg_);clear hm_ hg_)
   |(refine wpList_insert_map _ rfl _ _ _ 327 rfl 3 326 law3 Tryz.underlying327 ekI (fun v : Value => v) (W.heap.size + 1 + 1) 4 _ rfl HM4.out (by decide) 5 (fnV L.g 225) _ rfl rfl (keyI 5 (by decide) (by decide)) (fun _ => ekI_inj) ?_;intro w5 hm_ hg_;have HM5:=am hm_;have HG5:=am (HG4.out.trans hg_);clear hm_ hg_;obtain ⟨HY5,HB5,HX5,HZ5⟩:=HALL.out w5 HG5.out;have g0:=bd HX5.out 0;have g1:=bd HX5.out 1;have g2:=bd HX5.out 2;have g3:=bd HX5.out 3;have g4:=bd HX5.out 4;have g5:=bd HX5.out 5)
   |(refine wpList_lookup_map _ rfl _ _ 327 false rfl 3 326 law3 Tryz.underlying327 .nilFunc (zero326 _) ekI (fun v : Value => v) (W.heap.size + 1 + 1) 5 _ rfl HM5.out s.f1 _ rfl (keyI s.f1 (by have:=HK.out;omega) (by have:=HK.out;omega)) (.func (.func 221) #[.pointer (some ⟨L.g,0,none⟩)] #[]) (by simp [HK.out,fnV]) ?_)
   |fail)
   refine (pour_calls HY5.out HW.out hm s step hf3 hf4 hf5 hf6).mono ?_
   rintro e w6 ⟨hb,L',hg,hfr,h⟩
   rw [HR.out] at h
   have z1:=(hfr.keep (W.heap.size + 1) (blk_lt HZ5.out) (HNN.out _ (by omega))).1.trans HZ5.out
   have HB6:=am (HB5.out.trans hb)
   have HF6:=am (show Fr W L w6 L' from HF5.out w5 HG5.out |>.trans hfr)
   have HZ6:=am z1
   have HGG:=am hg
   clear hb hg hfr g0 g1 g2 g3 g4 g5
   have u0:=bd z1 0
   have u1:=blk_frozen z1 0
   clear z1
   obtain ⟨rfl,hY'⟩:=h
   have HY6:=am hY'
   clear hY'
   go_wp2
   refine leaves_cons (f:=220) (args:=#[.pointer (some ⟨W.heap.size + 1,0,none⟩)]) (by simp) (by simp [go_sem]) ?_
   refine (do1_idle ⟨W.heap.size + 1,0,none⟩ _).mono ?_
   rintro e u' w'' ⟨rfl,rfl,rfl⟩
   have hS:=below_same HZ6.out
   have s4:=(blk_cell (blk_put (cs':=#[.int .i64 0]) HZ6.out 0 (.int .i64 0) rfl) 0).trans (show _ = some (Value.int .i64 0) from rfl)
   exact ⟨_,by simp [results,Tryz.results177,go_sem,s4],HB6.out.trans (hS.mono (Nat.le_trans hbw (HF6.out.size))),L',HGG.out,HF6.out.trans (Fr.of_below L' hS),rfl,HY6.out.move hS⟩
 by_cases hk2 : s.f1 = 2
 ·have HK:=am hk2
  have hf5:=(HFo.out.amount (by omega)).1
  have hf6:=(HFo.out.amount (by omega)).2
  rw [show stepP Y s step = takeP Y s step by unfold stepP;rw [if_neg hk1,if_pos hk2]]
  clear hk1 hk2 hkind
  cases hr : takeP Y s step with
 |error c =>
   have HR:=am hr
   clear hr
   go_enter_defers Tryz.func177,Tryz.ntmps177
   go_wp2_with (first
   |(refine wpList_insert_map _ rfl _ _ _ 327 rfl 3 326 law3 Tryz.underlying327 ekI (fun v : Value => v) (W.heap.size + 1 + 1) 0 _ rfl HM0.out (by decide) 1 (fnV L.g 221) _ rfl rfl (keyI 1 (by decide) (by decide)) (fun _ => ekI_inj) ?_;intro w1 hm_ hg_;have HM1:=am hm_;have HG1:=am (hg_);clear hm_ hg_)
   |(refine wpList_insert_map _ rfl _ _ _ 327 rfl 3 326 law3 Tryz.underlying327 ekI (fun v : Value => v) (W.heap.size + 1 + 1) 1 _ rfl HM1.out (by decide) 2 (fnV L.g 222) _ rfl rfl (keyI 2 (by decide) (by decide)) (fun _ => ekI_inj) ?_;intro w2 hm_ hg_;have HM2:=am hm_;have HG2:=am (HG1.out.trans hg_);clear hm_ hg_)
   |(refine wpList_insert_map _ rfl _ _ _ 327 rfl 3 326 law3 Tryz.underlying327 ekI (fun v : Value => v) (W.heap.size + 1 + 1) 2 _ rfl HM2.out (by decide) 3 (fnV L.g 223) _ rfl rfl (keyI 3 (by decide) (by decide)) (fun _ => ekI_inj) ?_;intro w3 hm_ hg_;have HM3:=am hm_;have HG3:=am (HG2.out.trans hg_);clear hm_ hg_)
   |(refine wpList_insert_map _ rfl _ _ _ 327 rfl 3 326 law3 Tryz.underlying327 ekI (fun v : Value => v) (W.heap.size + 1 + 1) 3 _ rfl HM3.out (by decide) 4 (fnV L.g 224) _ rfl rfl (keyI 4 (by decide) (by decide)) (fun _ => ekI_inj) ?_;intro w4 hm_ hg_;have HM4:=am hm_;have HG4:=am (HG3.out.trans hg_);clear hm_ hg_)
   |(refine wpList_insert_map _ rfl _ _ _ 327 rfl 3 326 law3 Tryz.underlying327 ekI (fun v : Value => v) (W.heap.size + 1 + 1) 4 _ rfl HM4.out (by decide) 5 (fnV L.g 225) _ rfl rfl (keyI 5 (by decide) (by decide)) (fun _ => ekI_inj) ?_;intro w5 hm_ hg_;have HM5:=am hm_;have HG5:=am (HG4.out.trans hg_);clear hm_ hg_;obtain ⟨HY5,HB5,HX5,HZ5⟩:=HALL.out w5 HG5.out;have g0:=bd HX5.out 0;have g1:=bd HX5.out 1;have g2:=bd HX5.out 2;have g3:=bd HX5.out 3;have g4:=bd HX5.out 4;have g5:=bd HX5.out 5)
   |(refine wpList_lookup_map _ rfl _ _ 327 false rfl 3 326 law3 Tryz.underlying327 .nilFunc (zero326 _) ekI (fun v : Value => v) (W.heap.size + 1 + 1) 5 _ rfl HM5.out s.f1 _ rfl (keyI s.f1 (by have:=HK.out;omega) (by have:=HK.out;omega)) (.func (.func 222) #[.pointer (some ⟨L.g,0,none⟩)] #[]) (by simp [HK.out,fnV]) ?_)
   |fail)
   refine (take_calls HY5.out HW.out hm s step hf3 hf4 hf5 hf6).mono ?_
   rintro e w6 ⟨hb,L',hg,hfr,h⟩
   rw [HR.out] at h
   have z1:=(hfr.keep (W.heap.size + 1) (blk_lt HZ5.out) (HNN.out _ (by omega))).1.trans HZ5.out
   have HB6:=am (HB5.out.trans hb)
   have HF6:=am (show Fr W L w6 L' from HF5.out w5 HG5.out |>.trans hfr)
   have HZ6:=am z1
   have HGG:=am hg
   clear hb hg hfr g0 g1 g2 g3 g4 g5
   have u0:=bd z1 0
   have u1:=blk_frozen z1 0
   clear z1
   subst h
   unfold Pan
   go_wp2
   refine leaves_cons (f:=220) (args:=#[.pointer (some ⟨W.heap.size + 1,0,none⟩)]) (by simp) (by simp [go_sem]) ?_
   refine (do1_panic c 0 ⟨W.heap.size + 1,0,none⟩ _ u0 u1).mono ?_
   rintro e u' w'' ⟨rfl,rfl,rfl⟩
   have s4:=(blk_cell (blk_put (cs':=#[.int .i64 c]) HZ6.out 0 (.int .i64 c) rfl) 0).trans (show _ = some (Value.int .i64 c) from rfl)
   exact ⟨_,by simp [results,Tryz.results177,go_sem,s4],HB6.out.trans ((Below.refl base w6).setCell (show base ≤ W.heap.size + 1 by omega) _),L',HGG.out,fr_set HF6.out (Nat.le_succ _) _,rfl⟩
 |ok Y' =>
   have HR:=am hr
   clear hr
   go_enter_defers Tryz.func177,Tryz.ntmps177
   go_wp2_with (first
   |(refine wpList_insert_map _ rfl _ _ _ 327 rfl 3 326 law3 Tryz.underlying327 ekI (fun v : Value => v) (W.heap.size + 1 + 1) 0 _ rfl HM0.out (by decide) 1 (fnV L.g 221) _ rfl rfl (keyI 1 (by decide) (by decide)) (fun _ => ekI_inj) ?_;intro w1 hm_ hg_;have HM1:=am hm_;have HG1:=am (hg_);clear hm_ hg_)
   |(refine wpList_insert_map _ rfl _ _ _ 327 rfl 3 326 law3 Tryz.underlying327 ekI (fun v : Value => v) (W.heap.size + 1 + 1) 1 _ rfl HM1.out (by decide) 2 (fnV L.g 222) _ rfl rfl (keyI 2 (by decide) (by decide)) (fun _ => ekI_inj) ?_;intro w2 hm_ hg_;have HM2:=am hm_;have HG2:=am (HG1.out.trans hg_);clear hm_ hg_)
   |(refine wpList_insert_map _ rfl _ _ _ 327 rfl 3 326 law3 Tryz.underlying327 ekI (fun v : Value => v) (W.heap.size + 1 + 1) 2 _ rfl HM2.out (by decide) 3 (fnV L.g 223) _ rfl rfl (keyI 3 (by decide) (by decide)) (fun _ => ekI_inj) ?_;intro w3 hm_ hg_;have HM3:=am hm_;have HG3:=am (HG2.out.trans hg_);clear hm_ hg_)
   |(refine wpList_insert_map _ rfl _ _ _ 327 rfl 3 326 law3 Tryz.underlying327 ekI (fun v : Value => v) (W.heap.size + 1 + 1) 3 _ rfl HM3.out (by decide) 4 (fnV L.g 224) _ rfl rfl (keyI 4 (by decide) (by decide)) (fun _ => ekI_inj) ?_;intro w4 hm_ hg_;have HM4:=am hm_;have HG4:=am (HG3.out.trans hg_);clear hm_ hg_)
   |(refine wpList_insert_map _ rfl _ _ _ 327 rfl 3 326 law3 Tryz.underlying327 ekI (fun v : Value => v) (W.heap.size + 1 + 1) 4 _ rfl HM4.out (by decide) 5 (fnV L.g 225) _ rfl rfl (keyI 5 (by decide) (by decide)) (fun _ => ekI_inj) ?_;intro w5 hm_ hg_;have HM5:=am hm_;have HG5:=am (HG4.out.trans hg_);clear hm_ hg_;obtain ⟨HY5,HB5,HX5,HZ5⟩:=HALL.out w5 HG5.out;have g0:=bd HX5.out 0;have g1:=bd HX5.out 1;have g2:=bd HX5.out 2;have g3:=bd HX5.out 3;have g4:=bd HX5.out 4;have g5:=bd HX5.out 5)
   |(refine wpList_lookup_map _ rfl _ _ 327 false rfl 3 326 law3 Tryz.underlying327 .nilFunc (zero326 _) ekI (fun v : Value => v) (W.heap.size + 1 + 1) 5 _ rfl HM5.out s.f1 _ rfl (keyI s.f1 (by have:=HK.out;omega) (by have:=HK.out;omega)) (.func (.func 222) #[.pointer (some ⟨L.g,0,none⟩)] #[]) (by simp [HK.out,fnV]) ?_)
   |fail)
   refine (take_calls HY5.out HW.out hm s step hf3 hf4 hf5 hf6).mono ?_
   rintro e w6 ⟨hb,L',hg,hfr,h⟩
   rw [HR.out] at h
   have z1:=(hfr.keep (W.heap.size + 1) (blk_lt HZ5.out) (HNN.out _ (by omega))).1.trans HZ5.out
   have HB6:=am (HB5.out.trans hb)
   have HF6:=am (show Fr W L w6 L' from HF5.out w5 HG5.out |>.trans hfr)
   have HZ6:=am z1
   have HGG:=am hg
   clear hb hg hfr g0 g1 g2 g3 g4 g5
   have u0:=bd z1 0
   have u1:=blk_frozen z1 0
   clear z1
   obtain ⟨rfl,hY'⟩:=h
   have HY6:=am hY'
   clear hY'
   go_wp2
   refine leaves_cons (f:=220) (args:=#[.pointer (some ⟨W.heap.size + 1,0,none⟩)]) (by simp) (by simp [go_sem]) ?_
   refine (do1_idle ⟨W.heap.size + 1,0,none⟩ _).mono ?_
   rintro e u' w'' ⟨rfl,rfl,rfl⟩
   have hS:=below_same HZ6.out
   have s4:=(blk_cell (blk_put (cs':=#[.int .i64 0]) HZ6.out 0 (.int .i64 0) rfl) 0).trans (show _ = some (Value.int .i64 0) from rfl)
   exact ⟨_,by simp [results,Tryz.results177,go_sem,s4],HB6.out.trans (hS.mono (Nat.le_trans hbw (HF6.out.size))),L',HGG.out,HF6.out.trans (Fr.of_below L' hS),rfl,HY6.out.move hS⟩
 by_cases hk3 : s.f1 = 3
 ·have HK:=am hk3
  rw [show stepP Y s step = turnP Y s by unfold stepP;rw [if_neg hk1,if_neg hk2,if_pos hk3]]
  clear hk1 hk2 hk3 hkind
  cases hr : turnP Y s with
 |error c =>
   have HR:=am hr
   clear hr
   go_enter_defers Tryz.func177,Tryz.ntmps177
   go_wp2_with (first
   |(refine wpList_insert_map _ rfl _ _ _ 327 rfl 3 326 law3 Tryz.underlying327 ekI (fun v : Value => v) (W.heap.size + 1 + 1) 0 _ rfl HM0.out (by decide) 1 (fnV L.g 221) _ rfl rfl (keyI 1 (by decide) (by decide)) (fun _ => ekI_inj) ?_;intro w1 hm_ hg_;have HM1:=am hm_;have HG1:=am (hg_);clear hm_ hg_)
   |(refine wpList_insert_map _ rfl _ _ _ 327 rfl 3 326 law3 Tryz.underlying327 ekI (fun v : Value => v) (W.heap.size + 1 + 1) 1 _ rfl HM1.out (by decide) 2 (fnV L.g 222) _ rfl rfl (keyI 2 (by decide) (by decide)) (fun _ => ekI_inj) ?_;intro w2 hm_ hg_;have HM2:=am hm_;have HG2:=am (HG1.out.trans hg_);clear hm_ hg_)
   |(refine wpList_insert_map _ rfl _ _ _ 327 rfl 3 326 law3 Tryz.underlying327 ekI (fun v : Value => v) (W.heap.size + 1 + 1) 2 _ rfl HM2.out (by decide) 3 (fnV L.g 223) _ rfl rfl (keyI 3 (by decide) (by decide)) (fun _ => ekI_inj) ?_;intro w3 hm_ hg_;have HM3:=am hm_;have HG3:=am (HG2.out.trans hg_);clear hm_ hg_)
   |(refine wpList_insert_map _ rfl _ _ _ 327 rfl 3 326 law3 Tryz.underlying327 ekI (fun v : Value => v) (W.heap.size + 1 + 1) 3 _ rfl HM3.out (by decide) 4 (fnV L.g 224) _ rfl rfl (keyI 4 (by decide) (by decide)) (fun _ => ekI_inj) ?_;intro w4 hm_ hg_;have HM4:=am hm_;have HG4:=am (HG3.out.trans hg_);clear hm_ hg_)
   |(refine wpList_insert_map _ rfl _ _ _ 327 rfl 3 326 law3 Tryz.underlying327 ekI (fun v : Value => v) (W.heap.size + 1 + 1) 4 _ rfl HM4.out (by decide) 5 (fnV L.g 225) _ rfl rfl (keyI 5 (by decide) (by decide)) (fun _ => ekI_inj) ?_;intro w5 hm_ hg_;have HM5:=am hm_;have HG5:=am (HG4.out.trans hg_);clear hm_ hg_;obtain ⟨HY5,HB5,HX5,HZ5⟩:=HALL.out w5 HG5.out;have g0:=bd HX5.out 0;have g1:=bd HX5.out 1;have g2:=bd HX5.out 2;have g3:=bd HX5.out 3;have g4:=bd HX5.out 4;have g5:=bd HX5.out 5)
   |(refine wpList_lookup_map _ rfl _ _ 327 false rfl 3 326 law3 Tryz.underlying327 .nilFunc (zero326 _) ekI (fun v : Value => v) (W.heap.size + 1 + 1) 5 _ rfl HM5.out s.f1 _ rfl (keyI s.f1 (by have:=HK.out;omega) (by have:=HK.out;omega)) (.func (.func 223) #[.pointer (some ⟨L.g,0,none⟩)] #[]) (by simp [HK.out,fnV]) ?_)
   |fail)
   refine (turn_calls HY5.out HW.out hm s step hf3 hf4).mono ?_
   rintro e w6 ⟨hb,L',hg,hfr,h⟩
   rw [HR.out] at h
   have z1:=(hfr.keep (W.heap.size + 1) (blk_lt HZ5.out) (HNN.out _ (by omega))).1.trans HZ5.out
   have HB6:=am (HB5.out.trans hb)
   have HF6:=am (show Fr W L w6 L' from HF5.out w5 HG5.out |>.trans hfr)
   have HZ6:=am z1
   have HGG:=am hg
   clear hb hg hfr g0 g1 g2 g3 g4 g5
   have u0:=bd z1 0
   have u1:=blk_frozen z1 0
   clear z1
   subst h
   unfold Pan
   go_wp2
   refine leaves_cons (f:=220) (args:=#[.pointer (some ⟨W.heap.size + 1,0,none⟩)]) (by simp) (by simp [go_sem]) ?_
   refine (do1_panic c 0 ⟨W.heap.size + 1,0,none⟩ _ u0 u1).mono ?_
   rintro e u' w'' ⟨rfl,rfl,rfl⟩
   have s4:=(blk_cell (blk_put (cs':=#[.int .i64 c]) HZ6.out 0 (.int .i64 c) rfl) 0).trans (show _ = some (Value.int .i64 c) from rfl)
   exact ⟨_,by simp [results,Tryz.results177,go_sem,s4],HB6.out.trans ((Below.refl base w6).setCell (show base ≤ W.heap.size + 1 by omega) _),L',HGG.out,fr_set HF6.out (Nat.le_succ _) _,rfl⟩
 |ok Y' =>
   have HR:=am hr
   clear hr
   go_enter_defers Tryz.func177,Tryz.ntmps177
   go_wp2_with (first
   |(refine wpList_insert_map _ rfl _ _ _ 327 rfl 3 326 law3 Tryz.underlying327 ekI (fun v : Value => v) (W.heap.size + 1 + 1) 0 _ rfl HM0.out (by decide) 1 (fnV L.g 221) _ rfl rfl (keyI 1 (by decide) (by decide)) (fun _ => ekI_inj) ?_;intro w1 hm_ hg_;have HM1:=am hm_;have HG1:=am (hg_);clear hm_ hg_)
   |(refine wpList_insert_map _ rfl _ _ _ 327 rfl 3 326 law3 Tryz.underlying327 ekI (fun v : Value => v) (W.heap.size + 1 + 1) 1 _ rfl HM1.out (by decide) 2 (fnV L.g 222) _ rfl rfl (keyI 2 (by decide) (by decide)) (fun _ => ekI_inj) ?_;intro w2 hm_ hg_;have HM2:=am hm_;have HG2:=am (HG1.out.trans hg_);clear hm_ hg_)
   |(refine wpList_insert_map _ rfl _ _ _ 327 rfl 3 326 law3 Tryz.underlying327 ekI (fun v : Value => v) (W.heap.size + 1 + 1) 2 _ rfl HM2.out (by decide) 3 (fnV L.g 223) _ rfl rfl (keyI 3 (by decide) (by decide)) (fun _ => ekI_inj) ?_;intro w3 hm_ hg_;have HM3:=am hm_;have HG3:=am (HG2.out.trans hg_);clear hm_ hg_)
   |(refine wpList_insert_map _ rfl _ _ _ 327 rfl 3 326 law3 Tryz.underlying327 ekI (fun v : Value => v) (W.heap.size + 1 + 1) 3 _ rfl HM3.out (by decide) 4 (fnV L.g 224) _ rfl rfl (keyI 4 (by decide) (by decide)) (fun _ => ekI_inj) ?_;intro w4 hm_ hg_;have HM4:=am hm_;have HG4:=am (HG3.out.trans hg_);clear hm_ hg_)
   |(refine wpList_insert_map _ rfl _ _ _ 327 rfl 3 326 law3 Tryz.underlying327 ekI (fun v : Value => v) (W.heap.size + 1 + 1) 4 _ rfl HM4.out (by decide) 5 (fnV L.g 225) _ rfl rfl (keyI 5 (by decide) (by decide)) (fun _ => ekI_inj) ?_;intro w5 hm_ hg_;have HM5:=am hm_;have HG5:=am (HG4.out.trans hg_);clear hm_ hg_;obtain ⟨HY5,HB5,HX5,HZ5⟩:=HALL.out w5 HG5.out;have g0:=bd HX5.out 0;have g1:=bd HX5.out 1;have g2:=bd HX5.out 2;have g3:=bd HX5.out 3;have g4:=bd HX5.out 4;have g5:=bd HX5.out 5)
   |(refine wpList_lookup_map _ rfl _ _ 327 false rfl 3 326 law3 Tryz.underlying327 .nilFunc (zero326 _) ekI (fun v : Value => v) (W.heap.size + 1 + 1) 5 _ rfl HM5.out s.f1 _ rfl (keyI s.f1 (by have:=HK.out;omega) (by have:=HK.out;omega)) (.func (.func 223) #[.pointer (some ⟨L.g,0,none⟩)] #[]) (by simp [HK.out,fnV]) ?_)
   |fail)
   refine (turn_calls HY5.out HW.out hm s step hf3 hf4).mono ?_
   rintro e w6 ⟨hb,L',hg,hfr,h⟩
   rw [HR.out] at h
   have z1:=(hfr.keep (W.heap.size + 1) (blk_lt HZ5.out) (HNN.out _ (by omega))).1.trans HZ5.out
   have HB6:=am (HB5.out.trans hb)
   have HF6:=am (show Fr W L w6 L' from HF5.out w5 HG5.out |>.trans hfr)
   have HZ6:=am z1
   have HGG:=am hg
   clear hb hg hfr g0 g1 g2 g3 g4 g5
   have u0:=bd z1 0
   have u1:=blk_frozen z1 0
   clear z1
   obtain ⟨rfl,hY'⟩:=h
   have HY6:=am hY'
   clear hY'
   go_wp2
   refine leaves_cons (f:=220) (args:=#[.pointer (some ⟨W.heap.size + 1,0,none⟩)]) (by simp) (by simp [go_sem]) ?_
   refine (do1_idle ⟨W.heap.size + 1,0,none⟩ _).mono ?_
   rintro e u' w'' ⟨rfl,rfl,rfl⟩
   have hS:=below_same HZ6.out
   have s4:=(blk_cell (blk_put (cs':=#[.int .i64 0]) HZ6.out 0 (.int .i64 0) rfl) 0).trans (show _ = some (Value.int .i64 0) from rfl)
   exact ⟨_,by simp [results,Tryz.results177,go_sem,s4],HB6.out.trans (hS.mono (Nat.le_trans hbw (HF6.out.size))),L',HGG.out,HF6.out.trans (Fr.of_below L' hS),rfl,HY6.out.move hS⟩
 by_cases hk4 : s.f1 = 4
 ·have HK:=am hk4
  have hf5:=(HFo.out.amount (by omega)).1
  have hf6:=(HFo.out.amount (by omega)).2
  have hf7:=(HFo.out.dest hk4).1
  have hf8:=(HFo.out.dest hk4).2.1
  have hf9:=(HFo.out.dest hk4).2.2
  rw [show stepP Y s step = moveP Y s by unfold stepP;rw [if_neg hk1,if_neg hk2,if_neg hk3,if_pos hk4]]
  clear hk1 hk2 hk3 hk4 hkind
  cases hr : moveP Y s with
 |error c =>
   have HR:=am hr
   clear hr
   go_enter_defers Tryz.func177,Tryz.ntmps177
   go_wp2_with (first
   |(refine wpList_insert_map _ rfl _ _ _ 327 rfl 3 326 law3 Tryz.underlying327 ekI (fun v : Value => v) (W.heap.size + 1 + 1) 0 _ rfl HM0.out (by decide) 1 (fnV L.g 221) _ rfl rfl (keyI 1 (by decide) (by decide)) (fun _ => ekI_inj) ?_;intro w1 hm_ hg_;have HM1:=am hm_;have HG1:=am (hg_);clear hm_ hg_)
   |(refine wpList_insert_map _ rfl _ _ _ 327 rfl 3 326 law3 Tryz.underlying327 ekI (fun v : Value => v) (W.heap.size + 1 + 1) 1 _ rfl HM1.out (by decide) 2 (fnV L.g 222) _ rfl rfl (keyI 2 (by decide) (by decide)) (fun _ => ekI_inj) ?_;intro w2 hm_ hg_;have HM2:=am hm_;have HG2:=am (HG1.out.trans hg_);clear hm_ hg_)
   |(refine wpList_insert_map _ rfl _ _ _ 327 rfl 3 326 law3 Tryz.underlying327 ekI (fun v : Value => v) (W.heap.size + 1 + 1) 2 _ rfl HM2.out (by decide) 3 (fnV L.g 223) _ rfl rfl (keyI 3 (by decide) (by decide)) (fun _ => ekI_inj) ?_;intro w3 hm_ hg_;have HM3:=am hm_;have HG3:=am (HG2.out.trans hg_);clear hm_ hg_)
   |(refine wpList_insert_map _ rfl _ _ _ 327 rfl 3 326 law3 Tryz.underlying327 ekI (fun v : Value => v) (W.heap.size + 1 + 1) 3 _ rfl HM3.out (by decide) 4 (fnV L.g 224) _ rfl rfl (keyI 4 (by decide) (by decide)) (fun _ => ekI_inj) ?_;intro w4 hm_ hg_;have HM4:=am hm_;have HG4:=am (HG3.out.trans hg_);clear hm_ hg_)
   |(refine wpList_insert_map _ rfl _ _ _ 327 rfl 3 326 law3 Tryz.underlying327 ekI (fun v : Value => v) (W.heap.size + 1 + 1) 4 _ rfl HM4.out (by decide) 5 (fnV L.g 225) _ rfl rfl (keyI 5 (by decide) (by decide)) (fun _ => ekI_inj) ?_;intro w5 hm_ hg_;have HM5:=am hm_;have HG5:=am (HG4.out.trans hg_);clear hm_ hg_;obtain ⟨HY5,HB5,HX5,HZ5⟩:=HALL.out w5 HG5.out;have g0:=bd HX5.out 0;have g1:=bd HX5.out 1;have g2:=bd HX5.out 2;have g3:=bd HX5.out 3;have g4:=bd HX5.out 4;have g5:=bd HX5.out 5)
   |(refine wpList_lookup_map _ rfl _ _ 327 false rfl 3 326 law3 Tryz.underlying327 .nilFunc (zero326 _) ekI (fun v : Value => v) (W.heap.size + 1 + 1) 5 _ rfl HM5.out s.f1 _ rfl (keyI s.f1 (by have:=HK.out;omega) (by have:=HK.out;omega)) (.func (.func 224) #[.pointer (some ⟨L.g,0,none⟩)] #[]) (by simp [HK.out,fnV]) ?_)
   |fail)
   refine (move_calls HY5.out HW.out hm s step hf3 hf4 hf5 hf6 hf7 hf8 hf9).mono ?_
   rintro e w6 ⟨hb,L',hg,hfr,h⟩
   rw [HR.out] at h
   have z1:=(hfr.keep (W.heap.size + 1) (blk_lt HZ5.out) (HNN.out _ (by omega))).1.trans HZ5.out
   have HB6:=am (HB5.out.trans hb)
   have HF6:=am (show Fr W L w6 L' from HF5.out w5 HG5.out |>.trans hfr)
   have HZ6:=am z1
   have HGG:=am hg
   clear hb hg hfr g0 g1 g2 g3 g4 g5
   have u0:=bd z1 0
   have u1:=blk_frozen z1 0
   clear z1
   subst h
   unfold Pan
   go_wp2
   refine leaves_cons (f:=220) (args:=#[.pointer (some ⟨W.heap.size + 1,0,none⟩)]) (by simp) (by simp [go_sem]) ?_
   refine (do1_panic c 0 ⟨W.heap.size + 1,0,none⟩ _ u0 u1).mono ?_
   rintro e u' w'' ⟨rfl,rfl,rfl⟩
   have s4:=(blk_cell (blk_put (cs':=#[.int .i64 c]) HZ6.out 0 (.int .i64 c) rfl) 0).trans (show _ = some (Value.int .i64 c) from rfl)
   exact ⟨_,by simp [results,Tryz.results177,go_sem,s4],HB6.out.trans ((Below.refl base w6).setCell (show base ≤ W.heap.size + 1 by omega) _),L',HGG.out,fr_set HF6.out (Nat.le_succ _) _,rfl⟩
 |ok Y' =>
   have HR:=am hr
   clear hr
   go_enter_defers Tryz.func177,Tryz.ntmps177
   go_wp2_with (first
   |(refine wpList_insert_map _ rfl _ _ _ 327 rfl 3 326 law3 Tryz.underlying327 ekI (fun v : Value => v) (W.heap.size + 1 + 1) 0 _ rfl HM0.out (by decide) 1 (fnV L.g 221) _ rfl rfl (keyI 1 (by decide) (by decide)) (fun _ => ekI_inj) ?_;intro w1 hm_ hg_;have HM1:=am hm_;have HG1:=am (hg_);clear hm_ hg_)
   |(refine wpList_insert_map _ rfl _ _ _ 327 rfl 3 326 law3 Tryz.underlying327 ekI (fun v : Value => v) (W.heap.size + 1 + 1) 1 _ rfl HM1.out (by decide) 2 (fnV L.g 222) _ rfl rfl (keyI 2 (by decide) (by decide)) (fun _ => ekI_inj) ?_;intro w2 hm_ hg_;have HM2:=am hm_;have HG2:=am (HG1.out.trans hg_);clear hm_ hg_)
   |(refine wpList_insert_map _ rfl _ _ _ 327 rfl 3 326 law3 Tryz.underlying327 ekI (fun v : Value => v) (W.heap.size + 1 + 1) 2 _ rfl HM2.out (by decide) 3 (fnV L.g 223) _ rfl rfl (keyI 3 (by decide) (by decide)) (fun _ => ekI_inj) ?_;intro w3 hm_ hg_;have HM3:=am hm_;have HG3:=am (HG2.out.trans hg_);clear hm_ hg_)
   |(refine wpList_insert_map _ rfl _ _ _ 327 rfl 3 326 law3 Tryz.underlying327 ekI (fun v : Value => v) (W.heap.size + 1 + 1) 3 _ rfl HM3.out (by decide) 4 (fnV L.g 224) _ rfl rfl (keyI 4 (by decide) (by decide)) (fun _ => ekI_inj) ?_;intro w4 hm_ hg_;have HM4:=am hm_;have HG4:=am (HG3.out.trans hg_);clear hm_ hg_)
   |(refine wpList_insert_map _ rfl _ _ _ 327 rfl 3 326 law3 Tryz.underlying327 ekI (fun v : Value => v) (W.heap.size + 1 + 1) 4 _ rfl HM4.out (by decide) 5 (fnV L.g 225) _ rfl rfl (keyI 5 (by decide) (by decide)) (fun _ => ekI_inj) ?_;intro w5 hm_ hg_;have HM5:=am hm_;have HG5:=am (HG4.out.trans hg_);clear hm_ hg_;obtain ⟨HY5,HB5,HX5,HZ5⟩:=HALL.out w5 HG5.out;have g0:=bd HX5.out 0;have g1:=bd HX5.out 1;have g2:=bd HX5.out 2;have g3:=bd HX5.out 3;have g4:=bd HX5.out 4;have g5:=bd HX5.out 5)
   |(refine wpList_lookup_map _ rfl _ _ 327 false rfl 3 326 law3 Tryz.underlying327 .nilFunc (zero326 _) ekI (fun v : Value => v) (W.heap.size + 1 + 1) 5 _ rfl HM5.out s.f1 _ rfl (keyI s.f1 (by have:=HK.out;omega) (by have:=HK.out;omega)) (.func (.func 224) #[.pointer (some ⟨L.g,0,none⟩)] #[]) (by simp [HK.out,fnV]) ?_)
   |fail)
   refine (move_calls HY5.out HW.out hm s step hf3 hf4 hf5 hf6 hf7 hf8 hf9).mono ?_
   rintro e w6 ⟨hb,L',hg,hfr,h⟩
   rw [HR.out] at h
   have z1:=(hfr.keep (W.heap.size + 1) (blk_lt HZ5.out) (HNN.out _ (by omega))).1.trans HZ5.out
   have HB6:=am (HB5.out.trans hb)
   have HF6:=am (show Fr W L w6 L' from HF5.out w5 HG5.out |>.trans hfr)
   have HZ6:=am z1
   have HGG:=am hg
   clear hb hg hfr g0 g1 g2 g3 g4 g5
   have u0:=bd z1 0
   have u1:=blk_frozen z1 0
   clear z1
   obtain ⟨rfl,hY'⟩:=h
   have HY6:=am hY'
   clear hY'
   go_wp2
   refine leaves_cons (f:=220) (args:=#[.pointer (some ⟨W.heap.size + 1,0,none⟩)]) (by simp) (by simp [go_sem]) ?_
   refine (do1_idle ⟨W.heap.size + 1,0,none⟩ _).mono ?_
   rintro e u' w'' ⟨rfl,rfl,rfl⟩
   have hS:=below_same HZ6.out
   have s4:=(blk_cell (blk_put (cs':=#[.int .i64 0]) HZ6.out 0 (.int .i64 0) rfl) 0).trans (show _ = some (Value.int .i64 0) from rfl)
   exact ⟨_,by simp [results,Tryz.results177,go_sem,s4],HB6.out.trans (hS.mono (Nat.le_trans hbw (HF6.out.size))),L',HGG.out,HF6.out.trans (Fr.of_below L' hS),rfl,HY6.out.move hS⟩
 have hk5 : s.f1 = 5:=by omega
 have HK:=am hk5
 have hf5:=(HFo.out.amount (by omega)).1
 have hf6:=(HFo.out.amount (by omega)).2
 rw [show stepP Y s step = spillP Y s by unfold stepP;rw [if_neg hk1,if_neg hk2,if_neg hk3,if_neg hk4]]
 clear hk1 hk2 hk3 hk4 hk5 hkind
 cases hr : spillP Y s with
|error c =>
  have HR:=am hr
  clear hr
  go_enter_defers Tryz.func177,Tryz.ntmps177
  go_wp2_with (first
  |(refine wpList_insert_map _ rfl _ _ _ 327 rfl 3 326 law3 Tryz.underlying327 ekI (fun v : Value => v) (W.heap.size + 1 + 1) 0 _ rfl HM0.out (by decide) 1 (fnV L.g 221) _ rfl rfl (keyI 1 (by decide) (by decide)) (fun _ => ekI_inj) ?_;intro w1 hm_ hg_;have HM1:=am hm_;have HG1:=am (hg_);clear hm_ hg_)
  |(refine wpList_insert_map _ rfl _ _ _ 327 rfl 3 326 law3 Tryz.underlying327 ekI (fun v : Value => v) (W.heap.size + 1 + 1) 1 _ rfl HM1.out (by decide) 2 (fnV L.g 222) _ rfl rfl (keyI 2 (by decide) (by decide)) (fun _ => ekI_inj) ?_;intro w2 hm_ hg_;have HM2:=am hm_;have HG2:=am (HG1.out.trans hg_);clear hm_ hg_)
  |(refine wpList_insert_map _ rfl _ _ _ 327 rfl 3 326 law3 Tryz.underlying327 ekI (fun v : Value => v) (W.heap.size + 1 + 1) 2 _ rfl HM2.out (by decide) 3 (fnV L.g 223) _ rfl rfl (keyI 3 (by decide) (by decide)) (fun _ => ekI_inj) ?_;intro w3 hm_ hg_;have HM3:=am hm_;have HG3:=am (HG2.out.trans hg_);clear hm_ hg_)
  |(refine wpList_insert_map _ rfl _ _ _ 327 rfl 3 326 law3 Tryz.underlying327 ekI (fun v : Value => v) (W.heap.size + 1 + 1) 3 _ rfl HM3.out (by decide) 4 (fnV L.g 224) _ rfl rfl (keyI 4 (by decide) (by decide)) (fun _ => ekI_inj) ?_;intro w4 hm_ hg_;have HM4:=am hm_;have HG4:=am (HG3.out.trans hg_);clear hm_ hg_)
  |(refine wpList_insert_map _ rfl _ _ _ 327 rfl 3 326 law3 Tryz.underlying327 ekI (fun v : Value => v) (W.heap.size + 1 + 1) 4 _ rfl HM4.out (by decide) 5 (fnV L.g 225) _ rfl rfl (keyI 5 (by decide) (by decide)) (fun _ => ekI_inj) ?_;intro w5 hm_ hg_;have HM5:=am hm_;have HG5:=am (HG4.out.trans hg_);clear hm_ hg_;obtain ⟨HY5,HB5,HX5,HZ5⟩:=HALL.out w5 HG5.out;have g0:=bd HX5.out 0;have g1:=bd HX5.out 1;have g2:=bd HX5.out 2;have g3:=bd HX5.out 3;have g4:=bd HX5.out 4;have g5:=bd HX5.out 5)
  |(refine wpList_lookup_map _ rfl _ _ 327 false rfl 3 326 law3 Tryz.underlying327 .nilFunc (zero326 _) ekI (fun v : Value => v) (W.heap.size + 1 + 1) 5 _ rfl HM5.out s.f1 _ rfl (keyI s.f1 (by have:=HK.out;omega) (by have:=HK.out;omega)) (.func (.func 225) #[.pointer (some ⟨L.g,0,none⟩)] #[]) (by simp [HK.out,fnV]) ?_)
  |fail)
  refine (spill_calls HY5.out HW.out hm s step hf3 hf4 hf5 hf6).mono ?_
  rintro e w6 ⟨hb,L',hg,hfr,h⟩
  rw [HR.out] at h
  have z1:=(hfr.keep (W.heap.size + 1) (blk_lt HZ5.out) (HNN.out _ (by omega))).1.trans HZ5.out
  have HB6:=am (HB5.out.trans hb)
  have HF6:=am (show Fr W L w6 L' from HF5.out w5 HG5.out |>.trans hfr)
  have HZ6:=am z1
  have HGG:=am hg
  clear hb hg hfr g0 g1 g2 g3 g4 g5
  have u0:=bd z1 0
  have u1:=blk_frozen z1 0
  clear z1
  subst h
  unfold Pan
  go_wp2
  refine leaves_cons (f:=220) (args:=#[.pointer (some ⟨W.heap.size + 1,0,none⟩)]) (by simp) (by simp [go_sem]) ?_
  refine (do1_panic c 0 ⟨W.heap.size + 1,0,none⟩ _ u0 u1).mono ?_
  rintro e u' w'' ⟨rfl,rfl,rfl⟩
  have s4:=(blk_cell (blk_put (cs':=#[.int .i64 c]) HZ6.out 0 (.int .i64 c) rfl) 0).trans (show _ = some (Value.int .i64 c) from rfl)
  exact ⟨_,by simp [results,Tryz.results177,go_sem,s4],HB6.out.trans ((Below.refl base w6).setCell (show base ≤ W.heap.size + 1 by omega) _),L',HGG.out,fr_set HF6.out (Nat.le_succ _) _,rfl⟩
|ok Y' =>
  have HR:=am hr
  clear hr
  go_enter_defers Tryz.func177,Tryz.ntmps177
  go_wp2_with (first
  |(refine wpList_insert_map _ rfl _ _ _ 327 rfl 3 326 law3 Tryz.underlying327 ekI (fun v : Value => v) (W.heap.size + 1 + 1) 0 _ rfl HM0.out (by decide) 1 (fnV L.g 221) _ rfl rfl (keyI 1 (by decide) (by decide)) (fun _ => ekI_inj) ?_;intro w1 hm_ hg_;have HM1:=am hm_;have HG1:=am (hg_);clear hm_ hg_)
  |(refine wpList_insert_map _ rfl _ _ _ 327 rfl 3 326 law3 Tryz.underlying327 ekI (fun v : Value => v) (W.heap.size + 1 + 1) 1 _ rfl HM1.out (by decide) 2 (fnV L.g 222) _ rfl rfl (keyI 2 (by decide) (by decide)) (fun _ => ekI_inj) ?_;intro w2 hm_ hg_;have HM2:=am hm_;have HG2:=am (HG1.out.trans hg_);clear hm_ hg_)
  |(refine wpList_insert_map _ rfl _ _ _ 327 rfl 3 326 law3 Tryz.underlying327 ekI (fun v : Value => v) (W.heap.size + 1 + 1) 2 _ rfl HM2.out (by decide) 3 (fnV L.g 223) _ rfl rfl (keyI 3 (by decide) (by decide)) (fun _ => ekI_inj) ?_;intro w3 hm_ hg_;have HM3:=am hm_;have HG3:=am (HG2.out.trans hg_);clear hm_ hg_)
  |(refine wpList_insert_map _ rfl _ _ _ 327 rfl 3 326 law3 Tryz.underlying327 ekI (fun v : Value => v) (W.heap.size + 1 + 1) 3 _ rfl HM3.out (by decide) 4 (fnV L.g 224) _ rfl rfl (keyI 4 (by decide) (by decide)) (fun _ => ekI_inj) ?_;intro w4 hm_ hg_;have HM4:=am hm_;have HG4:=am (HG3.out.trans hg_);clear hm_ hg_)
  |(refine wpList_insert_map _ rfl _ _ _ 327 rfl 3 326 law3 Tryz.underlying327 ekI (fun v : Value => v) (W.heap.size + 1 + 1) 4 _ rfl HM4.out (by decide) 5 (fnV L.g 225) _ rfl rfl (keyI 5 (by decide) (by decide)) (fun _ => ekI_inj) ?_;intro w5 hm_ hg_;have HM5:=am hm_;have HG5:=am (HG4.out.trans hg_);clear hm_ hg_;obtain ⟨HY5,HB5,HX5,HZ5⟩:=HALL.out w5 HG5.out;have g0:=bd HX5.out 0;have g1:=bd HX5.out 1;have g2:=bd HX5.out 2;have g3:=bd HX5.out 3;have g4:=bd HX5.out 4;have g5:=bd HX5.out 5)
  |(refine wpList_lookup_map _ rfl _ _ 327 false rfl 3 326 law3 Tryz.underlying327 .nilFunc (zero326 _) ekI (fun v : Value => v) (W.heap.size + 1 + 1) 5 _ rfl HM5.out s.f1 _ rfl (keyI s.f1 (by have:=HK.out;omega) (by have:=HK.out;omega)) (.func (.func 225) #[.pointer (some ⟨L.g,0,none⟩)] #[]) (by simp [HK.out,fnV]) ?_)
  |fail)
  refine (spill_calls HY5.out HW.out hm s step hf3 hf4 hf5 hf6).mono ?_
  rintro e w6 ⟨hb,L',hg,hfr,h⟩
  rw [HR.out] at h
  have z1:=(hfr.keep (W.heap.size + 1) (blk_lt HZ5.out) (HNN.out _ (by omega))).1.trans HZ5.out
  have HB6:=am (HB5.out.trans hb)
  have HF6:=am (show Fr W L w6 L' from HF5.out w5 HG5.out |>.trans hfr)
  have HZ6:=am z1
  have HGG:=am hg
  clear hb hg hfr g0 g1 g2 g3 g4 g5
  have u0:=bd z1 0
  have u1:=blk_frozen z1 0
  clear z1
  obtain ⟨rfl,hY'⟩:=h
  have HY6:=am hY'
  clear hY'
  go_wp2
  refine leaves_cons (f:=220) (args:=#[.pointer (some ⟨W.heap.size + 1,0,none⟩)]) (by simp) (by simp [go_sem]) ?_
  refine (do1_idle ⟨W.heap.size + 1,0,none⟩ _).mono ?_
  rintro e u' w'' ⟨rfl,rfl,rfl⟩
  have hS:=below_same HZ6.out
  have s4:=(blk_cell (blk_put (cs':=#[.int .i64 0]) HZ6.out 0 (.int .i64 0) rfl) 0).trans (show _ = some (Value.int .i64 0) from rfl)
  exact ⟨_,by simp [results,Tryz.results177,go_sem,s4],HB6.out.trans (hS.mono (Nat.le_trans hbw (HF6.out.size))),L',HGG.out,HF6.out.trans (Fr.of_below L' hS),rfl,HY6.out.move hS⟩
theorem reps_empty (W : World) (ok okp : Nat → Prop) (n : Nat) : Reps ((ft (Kd.slice 212 k212) W ok).M W W.heap.size okp) 1 (List.replicate n ([] : List S212)) (madeCells #[.slice none 0 0] n).toList:=by
 have h:=Kd.reps_made (R:=(ft (Kd.slice 212 k212) W ok).M W W.heap.size okp) (size:=1) (z:=.slice none 0 0) rfl (by decide) (show (ft (Kd.slice 212 k212) W ok).M W W.heap.size okp ([] : List S212) [.slice none 0 0] from fun W2 _ => ⟨none,0,rfl,Nat.le_refl _,Kd.C_nil _ _⟩) n
 rw [Nat.mul_one] at h
 exact h
set_option maxRecDepth 100000 in
theorem empty_calls (A : Option Addr) (c : Nat) (rooms : List Int) (W : World) (lo : Nat) (hlo : lo ≤ W.heap.size) (hC : Kd.F (Kd.int .i64) W (fun k => k < lo) A rooms.length rooms) (hc : rooms.length ≤ c) (h6 : rooms.length ≤ 6) :
  Calls Tryz.prog 175 #[.slice A rooms.length c] W fun e W' => ∃ L : Loc,e = .returned (.pointer (some ⟨L.g,0,none⟩)) ∧ YardAt W' W.heap.size L (emptyP rooms) ∧ (∀ k,lo ≤ k → k < W.heap.size → L.bad k) ∧ Below W.heap.size W W':=by
 have hmk:=print_make_of (P:=Tryz.prog) 162 131 (.slice none 0 0) 24 Tryz.underlying162 kr rfl (by decide) rooms.length (by omega)
 have hu:=Tryz.underlying165
 have HC:=am hC
 clear hC
 go_enter Tryz.func175,Tryz.ntmps175
 go_wp2
 go_ret
 have hb : Below W.heap.size W ((W.alloc (.cells (madeCells #[.slice none 0 0] rooms.length) 131)).alloc (.cells #[.slice A rooms.length c,.slice (some ⟨W.heap.size,0,none⟩) rooms.length rooms.length,.slice none 0 0,.slice none 0 0,.slice none 0 0,.slice none 0 0] 165)):=below_alloc (below_alloc (Below.refl _ _) _) _
 have hN : ∀ k,k < lo → Loc.Not ⟨W.heap.size + 1,W.heap.size,.slice A rooms.length c,.slice none 0 0,.slice none 0 0,.slice none 0 0,.slice none 0 0,fun k => lo ≤ k ∧ k < W.heap.size⟩ k:=fun k hk hm => by
  rcases hm with e|e|e|e|e|e|e
  ·simp at e;omega
  ·simp at e;omega
  ·simp [Value.ownBlock] at e
  ·simp [Value.ownBlock] at e
  ·simp [Value.ownBlock] at e
  ·simp [Value.ownBlock] at e
  ·have:=e.1;omega
 refine ⟨⟨W.heap.size + 1,W.heap.size,.slice A rooms.length c,.slice none 0 0,.slice none 0 0,.slice none 0 0,.slice none 0 0,fun k => lo ≤ k ∧ k < W.heap.size⟩,rfl,{ gbase:=Nat.le_succ _,bad:=fun k hk => hk.2,blk:=blk_new' _ _ _ (by simp),rooms:=?_,pits:=?_,pours:=Kd.R_nil _ _ _ _ _,days:=Kd.R_nil _ _ _ _ _,apart:=fun k hk => by simp [Value.ownBlock] at hk,barrows:=Kd.R_nil _ _ _ _ _,lost:=Kd.R_nil _ _ _ _ _ },fun k h1 h2 => ⟨h1,h2⟩,hb⟩
 ·exact fun W2 hW => ⟨A,c,rfl,hc,HC.out W2 (fun k hk hlt => (hW k (hN k hk) (Nat.lt_of_lt_of_le hlt hb.size)).trans (hb.block k hlt))⟩
 ·have h1 : OwnRow ((ft (Kd.slice 212 k212) W (fun k => k < lo)).M W W.heap.size (fun _ => True)) 131 1 (W.alloc (.cells (madeCells #[.slice none 0 0] rooms.length).toList.toArray 131)) W.heap.size (.slice (some ⟨W.heap.size,0,none⟩) (List.replicate rooms.length ([] : List S212)).length (List.replicate rooms.length ([] : List S212)).length) (List.replicate rooms.length ([] : List S212)):=OwnRow.lit W W.heap.size (reps_empty W _ _ rooms.length) (Nat.le_refl _) (by simp;omega)
  rw [List.length_replicate] at h1
  have h2 : (ft (Kd.slice 212 k212) W (fun k => k < lo)).R 131 (W.alloc (.cells (madeCells #[.slice none 0 0] rooms.length) 131)) W.heap.size (fun _ => True) (.slice (some ⟨W.heap.size,0,none⟩) rooms.length rooms.length) (List.replicate rooms.length ([] : List S212)):=⟨fun _ _ => trivial,h1.imp_ (fun _ _ h => h)⟩
  exact ft_to (Kd.R_alloc h2 _) hb (fun k hk _ => hN k hk)
def R176_2.T : Bool × List (List Nat × List Nat):=(true,[([],[]),([0],[0]),([1],[1]),([],[]),([3],[3]),([4,2],[4]),([2,5,0,1,2],[2]),([5,6,0,1,2,3,4,5,6],[5])])
def R176_2.B : List Nat:=[0,1,3,0,8,31,63,127]
theorem R176_2.tab : rtab .any (opsOf Tryz.f176 2) = R176_2.T:=by kernel_rfl
theorem R176_2.bits : waitsOk R176_2.T.2 R176_2.B = true:=by kernel_rfl
set_option maxRecDepth 100000 in
theorem cl219 (Bp : Nat) (A : Option Addr) (n c : Nat) (v2 : Value) (x : Int) (w : World) (BK : w.heap[Bp]? = some (.cells #[.slice A n c,v2] 32 (0,0))) (hn : n ≤ 100) :
  Calls Tryz.prog 219 (#[.int .i64 x] ++ #[.pointer (some ⟨Bp,0,none⟩)]) w fun e w' => e = .returned (.bool (decide (0 ≤ x ∧ x ≤ (n : Int) - 1))) ∧ Below w.heap.size w w':=by
 have hu:=Tryz.underlying32
 have g0:=bd BK 0
 clear BK
 simp only [List.append_toArray,List.cons_append,List.nil_append]
 go_enter Tryz.func219,Tryz.ntmps219
 go_wp2_with fail
 refine (pit_within.calls _ _ _ _ _ (within_some _ _ _)).mono ?_
 rintro e w1 ⟨rfl,m,rfl⟩
 go_wp2
 go_ret
 refine ⟨?_,pw_below_drewN (Below.refl _ _) m⟩
 show Ending.returned (Value.bool _) = _
 rw [Bool.decide_and]
set_option maxRecDepth 100000 in
set_option maxHeartbeats 2000000 in
theorem formed_calls (A A2 : Option Addr) (n c n2 c2 : Nat) (s : S84) (day : Int) (w : World) (hn : n ≤ 6) :
  Calls Tryz.prog 176 #[.agg #[.slice A n c,.slice A2 n2 c2],.agg #[.int .i64 s.f0,.int .i64 s.f1,.int .i64 s.f2,.int .i64 s.f3,.int .i64 s.f4,.int .i64 s.f5],.int .i64 day] w fun e w' => e = .returned (.bool (formedP (n : Int) s day)) ∧ Below w.heap.size w w':=by
 have hmf : ∀ (fn : Fn) (first cap : Array Value) (w : World),(Instr.makeFunc fn first cap).run Tryz.prog w = .ok (.func fn first cap) w:=fun _ _ _ _ => rfl
 have hu:=Tryz.underlying32
 have hu84:=Tryz.underlying84
 have HX:=am (blk_drew (blk_new' (w.alloc (.cells #[.slice A n c,.slice A2 n2 c2] 32)) (.cells #[.int .i64 s.f0,.int .i64 s.f1,.int .i64 s.f2,.int .i64 s.f3,.int .i64 s.f4,.int .i64 s.f5] 84) (w.heap.size + 1) (by simp)))
 have HP:=am (blk_drew (blk_alloc (blk_new w (.cells #[.slice A n c,.slice A2 n2 c2] 32)) (.cells #[.int .i64 s.f0,.int .i64 s.f1,.int .i64 s.f2,.int .i64 s.f3,.int .i64 s.f4,.int .i64 s.f5] 84)))
 have HB:=am (below_drew (below_alloc (below_alloc (Below.refl w.heap.size w) (.cells #[.slice A n c,.slice A2 n2 c2] 32)) (.cells #[.int .i64 s.f0,.int .i64 s.f1,.int .i64 s.f2,.int .i64 s.f3,.int .i64 s.f4,.int .i64 s.f5] 84)))
 obtain ⟨i1,hi1⟩ : ∃ i1,i1 = decide (1 ≤ s.f0 ∧ s.f0 ≤ 1099511627776):=⟨_,rfl⟩
 obtain ⟨a1,ha1⟩ : ∃ a1,a1 = decide (1 ≤ s.f5 ∧ s.f5 ≤ 1000):=⟨_,rfl⟩
 obtain ⟨d1,hd1⟩ : ∃ d1,d1 = decide (day ≤ s.f2 ∧ s.f2 ≤ 682):=⟨_,rfl⟩
 obtain ⟨d2,hd2⟩ : ∃ d2,d2 = decide (0 ≤ s.f3 ∧ s.f3 ≤ (n : Int) - 1):=⟨_,rfl⟩
 have WI1:=am (show pit_within.f s.f0 1 1099511627776 = some i1 by rw [within_some,hi1])
 have WA1:=am (show pit_within.f s.f5 1 1000 = some a1 by rw [within_some,ha1])
 have HI1:=am hi1
 have HA1:=am ha1
 have HD1:=am hd1
 have HD2:=am hd2
 clear hi1 ha1 hd1 hd2
 go_enter Tryz.func176,Tryz.ntmps176
 go_wp2
 refine start_ (n:=8) (S:=fun w' => w'.cell? ⟨w.heap.size + 1,0,none⟩ = some (.int .i64 s.f0) ∧ w'.cell? ⟨w.heap.size + 1,5,none⟩ = some (.int .i64 s.f5)) (ds:=[]) (ab 8 0) kr rfl kr ⟨(blk_cell HX.out 0).trans rfl,(blk_cell HX.out 5).trans rfl⟩ (fun hHeld => ?_);refine with_tabW R176_2.tab R176_2.bits (fun HT_ HW_ => ?_)
 generalize (((w.alloc (.cells #[.slice A n c,.slice A2 n2 c2] 32)).alloc (.cells #[.int .i64 s.f0,.int .i64 s.f1,.int .i64 s.f2,.int .i64 s.f3,.int .i64 s.f4,.int .i64 s.f5] 84))).drew = wd at HX HP HB hHeld ⊢
 refine qA 0 (some 11) ?_;refine qT 1 (some 12) ?_;refine qA 3 (some 14) ?_;refine qT 4 (some 15) ?_
 refine qE 2 (some 13) fun K hK => ?_
 refine gC Tryz.func106 #[.int .i64 s.f0,.int .i64 1,.int .i64 1099511627776] ?_
 refine (pit_within.calls _ _ _ _ _ WI1.out).mono ?_
 rintro e w1 ⟨rfl,m1,rfl⟩
 have HX1:=am (blk_drewN HX.out m1)
 have HP1:=am (blk_drewN HP.out m1)
 have HB1:=am (pw_below_drewN HB.out m1)
 refine ⟨_,rfl,?_⟩
 refine hK.out _ _ ⟨(blk_cell HX1.out 0).trans rfl,(blk_cell HX1.out 5).trans rfl⟩ (fun hHeld => ?_)
 clear hK K
 refine qN (some 13) ?_
 refine qE 5 (some 16) fun K hK => ?_
 refine gC Tryz.func106 #[.int .i64 s.f5,.int .i64 1,.int .i64 1000] ?_
 refine (pit_within.calls _ _ _ _ _ WA1.out).mono ?_
 rintro e w2 ⟨rfl,m2,rfl⟩
 have HX2:=am (blk_drewN HX1.out m2)
 have HP2:=am (blk_drewN HP1.out m2)
 have HB2:=am (pw_below_drewN HB1.out m2)
 refine ⟨_,rfl,?_⟩
 refine hK.out _ _ ⟨(blk_cell HX2.out 0).trans rfl,(blk_cell HX2.out 5).trans rfl⟩ (fun hHeld => ?_)
 clear hK K
 refine qN (some 16) ?_
 refine qA 6 (some 8) ?_;refine qA 7 (some 9) ?_
 refine done_ (done_of HT_.out kr) ?_
 generalize (wd.drewN m1).drewN m2 = w2 at HX2 HP2 HB2 ⊢
 clear HX1 HP1 HB1 HX HP HB
 have g0:=bd HX2.out 0
 have g1:=bd HX2.out 1
 have g2:=bd HX2.out 2
 have g3:=bd HX2.out 3
 have g4:=bd HX2.out 4
 have g5:=bd HX2.out 5
 cases d1 with
|false =>
  go_wp2_with fail
  refine (pit_within.calls _ _ _ _ _ (within_some _ _ _)).mono ?_
  rintro e w3 ⟨rfl,m3,rfl⟩
  rw [← HD1.out]
  go_wp2
  go_ret
  exact ⟨by show Ending.returned (Value.bool false) = _;unfold formedP inP;rw [← HD1.out];rfl,pw_below_drewN HB2.out m3⟩
|true =>
  cases d2 with
 |false =>
   go_wp2_with fail
   refine (pit_within.calls _ _ _ _ _ (within_some _ _ _)).mono ?_
   rintro e w3 ⟨rfl,m3,rfl⟩
   rw [← HD1.out]
   go_wp2_with fail
   refine (cl219 w.heap.size A n c _ s.f3 _ (blk_drewN HP2.out m3) (by omega)).mono ?_
   rintro e w4 ⟨rfl,hb⟩
   rw [← HD2.out]
   have HB4:=am hb
   clear hb
   go_wp2
   go_ret
   exact ⟨by show Ending.returned (Value.bool false) = _;unfold formedP inP;rw [← HD1.out,← HD2.out];rfl,below_then (pw_below_drewN HB2.out m3) (below_size (pw_below_drewN HB2.out m3)) HB4.out⟩
 |true =>
   go_wp2_with fail
   refine (pit_within.calls _ _ _ _ _ (within_some _ _ _)).mono ?_
   rintro e w3 ⟨rfl,m3,rfl⟩
   rw [← HD1.out]
   go_wp2_with fail
   refine (cl219 w.heap.size A n c _ s.f3 _ (blk_drewN HP2.out m3) (by omega)).mono ?_
   rintro e w4 ⟨rfl,hb⟩
   rw [← HD2.out]
   have HB4:=am (below_then (pw_below_drewN HB2.out m3) (below_size (pw_below_drewN HB2.out m3)) hb)
   have HX4:=am (blk_below (blk_drewN HX2.out m3) hb)
   have HP4:=am (blk_below (blk_drewN HP2.out m3) hb)
   clear hb g0 g1 g2 g3 g4 g5
   have g0:=bd HX4.out 0
   have g1:=bd HX4.out 1
   have g3:=bd HX4.out 3
   have g4:=bd HX4.out 4
   have g5:=bd HX4.out 5
   by_cases k1 : s.f1 = 1
   ·rw [k1] at g1
    cases i1 with
   |false =>
     go_wp2
     go_ret
     exact ⟨by show Ending.returned (Value.bool _) = _;unfold formedP inP;rw [← HD1.out,← HD2.out,if_pos (show s.f1 = 1 ∨ s.f1 = 2 by omega),← HI1.out,← HA1.out];rfl,HB4.out⟩
   |true =>
     cases a1 with
    |false =>
      go_wp2
      go_ret
      exact ⟨by show Ending.returned (Value.bool _) = _;unfold formedP inP;rw [← HD1.out,← HD2.out,if_pos (show s.f1 = 1 ∨ s.f1 = 2 by omega),← HI1.out,← HA1.out];rfl,HB4.out⟩
    |true =>
      go_wp2
      go_ret
      exact ⟨by show Ending.returned (Value.bool _) = _;unfold formedP inP;rw [← HD1.out,← HD2.out,if_pos (show s.f1 = 1 ∨ s.f1 = 2 by omega),← HI1.out,← HA1.out];rfl,HB4.out⟩
   ·skip
    by_cases k2 : s.f1 = 2
    ·rw [k2] at g1
     cases i1 with
    |false =>
      go_wp2
      go_ret
      exact ⟨by show Ending.returned (Value.bool _) = _;unfold formedP inP;rw [← HD1.out,← HD2.out,if_pos (show s.f1 = 1 ∨ s.f1 = 2 by omega),← HI1.out,← HA1.out];rfl,HB4.out⟩
    |true =>
      cases a1 with
     |false =>
       go_wp2
       go_ret
       exact ⟨by show Ending.returned (Value.bool _) = _;unfold formedP inP;rw [← HD1.out,← HD2.out,if_pos (show s.f1 = 1 ∨ s.f1 = 2 by omega),← HI1.out,← HA1.out];rfl,HB4.out⟩
     |true =>
       go_wp2
       go_ret
       exact ⟨by show Ending.returned (Value.bool _) = _;unfold formedP inP;rw [← HD1.out,← HD2.out,if_pos (show s.f1 = 1 ∨ s.f1 = 2 by omega),← HI1.out,← HA1.out];rfl,HB4.out⟩
    ·skip
     by_cases k3 : s.f1 = 3
     ·rw [k3] at g1
      by_cases z0 : s.f0 = 0
      ·rw [z0] at g0
       by_cases z5 : s.f5 = 0
       ·rw [z5] at g5
        go_wp2
        go_ret
        exact ⟨by show Ending.returned (Value.bool _) = _;unfold formedP inP;rw [← HD1.out,← HD2.out,if_neg (show ¬ (s.f1 = 1 ∨ s.f1 = 2) by omega),if_pos (show s.f1 = 3 by omega)];simp [z0,z5] <;> rfl,HB4.out⟩
       ·skip
        go_wp2
        go_ret
        exact ⟨by show Ending.returned (Value.bool _) = _;unfold formedP inP;rw [← HD1.out,← HD2.out,if_neg (show ¬ (s.f1 = 1 ∨ s.f1 = 2) by omega),if_pos (show s.f1 = 3 by omega)];simp [z0,z5] <;> rfl,HB4.out⟩
      ·skip
       go_wp2
       go_ret
       exact ⟨by show Ending.returned (Value.bool _) = _;unfold formedP inP;rw [← HD1.out,← HD2.out,if_neg (show ¬ (s.f1 = 1 ∨ s.f1 = 2) by omega),if_pos (show s.f1 = 3 by omega)];simp [z0] <;> rfl,HB4.out⟩
     ·skip
      by_cases k4 : s.f1 = 4
      ·rw [k4] at g1
       by_cases z0 : s.f0 = 0
       ·rw [z0] at g0
        cases a1 with
       |false =>
         go_wp2
         go_ret
         exact ⟨by show Ending.returned (Value.bool _) = _;unfold formedP inP;rw [← HD1.out,← HD2.out,if_neg (show ¬ (s.f1 = 1 ∨ s.f1 = 2) by omega),if_neg (show ¬ s.f1 = 3 by omega),if_pos (show s.f1 = 4 by omega),← HA1.out];simp [z0] <;> rfl,HB4.out⟩
       |true =>
         obtain ⟨t1,ht1⟩ : ∃ t1,t1 = decide (0 ≤ s.f4 ∧ s.f4 ≤ (n : Int) - 1):=⟨_,rfl⟩
         have HT1:=am ht1
         clear ht1
         cases t1 with
        |false =>
          go_wp2_with fail
          refine (cl219 w.heap.size A n c _ s.f4 _ HP4.out (by omega)).mono ?_
          rintro e w5 ⟨rfl,hb⟩
          rw [← HT1.out]
          have HB5:=am (below_then HB4.out (below_size HB4.out) hb)
          have HX5:=am (blk_below HX4.out hb)
          clear hb g0 g1 g3 g4 g5
          have g3:=bd HX5.out 3
          have g4:=bd HX5.out 4
          go_wp2
          go_ret
          exact ⟨by show Ending.returned (Value.bool _) = _;unfold formedP inP;rw [← HD1.out,← HD2.out,if_neg (show ¬ (s.f1 = 1 ∨ s.f1 = 2) by omega),if_neg (show ¬ s.f1 = 3 by omega),if_pos (show s.f1 = 4 by omega),← HA1.out,← HT1.out];simp [z0] <;> rfl,HB5.out⟩
        |true =>
          go_wp2_with fail
          refine (cl219 w.heap.size A n c _ s.f4 _ HP4.out (by omega)).mono ?_
          rintro e w5 ⟨rfl,hb⟩
          rw [← HT1.out]
          have HB5:=am (below_then HB4.out (below_size HB4.out) hb)
          have HX5:=am (blk_below HX4.out hb)
          clear hb g0 g1 g3 g4 g5
          have g3:=bd HX5.out 3
          have g4:=bd HX5.out 4
          go_wp2
          go_ret
          exact ⟨by show Ending.returned (Value.bool _) = _;unfold formedP inP;rw [← HD1.out,← HD2.out,if_neg (show ¬ (s.f1 = 1 ∨ s.f1 = 2) by omega),if_neg (show ¬ s.f1 = 3 by omega),if_pos (show s.f1 = 4 by omega),← HA1.out,← HT1.out];simp [z0] <;> rfl,HB5.out⟩
       ·skip
        go_wp2
        go_ret
        exact ⟨by show Ending.returned (Value.bool _) = _;unfold formedP inP;rw [← HD1.out,← HD2.out,if_neg (show ¬ (s.f1 = 1 ∨ s.f1 = 2) by omega),if_neg (show ¬ s.f1 = 3 by omega),if_pos (show s.f1 = 4 by omega)];simp [z0] <;> rfl,HB4.out⟩
      ·skip
       by_cases k5 : s.f1 = 5
       ·rw [k5] at g1
        by_cases z0 : s.f0 = 0
        ·rw [z0] at g0
         cases a1 with
        |false =>
          go_wp2
          go_ret
          exact ⟨by show Ending.returned (Value.bool _) = _;unfold formedP inP;rw [← HD1.out,← HD2.out,if_neg (show ¬ (s.f1 = 1 ∨ s.f1 = 2) by omega),if_neg (show ¬ s.f1 = 3 by omega),if_neg (show ¬ s.f1 = 4 by omega),if_pos (show s.f1 = 5 by omega),← HA1.out];simp [z0] <;> rfl,HB4.out⟩
        |true =>
          go_wp2
          go_ret
          exact ⟨by show Ending.returned (Value.bool _) = _;unfold formedP inP;rw [← HD1.out,← HD2.out,if_neg (show ¬ (s.f1 = 1 ∨ s.f1 = 2) by omega),if_neg (show ¬ s.f1 = 3 by omega),if_neg (show ¬ s.f1 = 4 by omega),if_pos (show s.f1 = 5 by omega),← HA1.out];simp [z0] <;> rfl,HB4.out⟩
        ·skip
         go_wp2
         go_ret
         exact ⟨by show Ending.returned (Value.bool _) = _;unfold formedP inP;rw [← HD1.out,← HD2.out,if_neg (show ¬ (s.f1 = 1 ∨ s.f1 = 2) by omega),if_neg (show ¬ s.f1 = 3 by omega),if_neg (show ¬ s.f1 = 4 by omega),if_pos (show s.f1 = 5 by omega)];simp [z0] <;> rfl,HB4.out⟩
       ·skip
        go_wp2
        go_ret
        exact ⟨by show Ending.returned (Value.bool _) = _;unfold formedP inP;rw [← HD1.out,← HD2.out,if_neg (show ¬ (s.f1 = 1 ∨ s.f1 = 2) by omega),if_neg (show ¬ s.f1 = 3 by omega),if_neg (show ¬ s.f1 = 4 by omega),if_neg (show ¬ s.f1 = 5 by omega)];simp,HB4.out⟩
set_option maxRecDepth 100000 in
set_option maxHeartbeats 1000000 in
theorem idx190_calls (A : Option Addr) (c : Nat) (l : List Int) (p : Int → Bool) (K : Nat) (caps : Array Value) (Inv : World → Prop) (W : World) (hr : Kd.C (Kd.int .i64) W A l.length l) (hc : l.length ≤ c)
  (ek : ∀ args w,(callFunc K args).run Tryz.prog w = .ok (.enter K args) w) (hi0 : Inv W) (hi1 : ∀ w w',Inv w → Below w.heap.size w w' → Inv w')
  (hcl : ∀ (x : Int) (w : World),x ∈ l → Inv w → Calls Tryz.prog K (#[.int .i64 x] ++ caps) w fun e w' => e = .returned (.bool (p x)) ∧ Below w.heap.size w w') :
  Calls Tryz.prog 190 #[.slice A l.length c,.func (.func K) #[] caps] W fun e W' => e = .returned (.int .i64 (idxP p l)) ∧ Below W.heap.size W W':=by
 have HR:=am hr
 have hm:=hr.2.1
 have HI:=am hi0
 have HJ:=am hi1
 have HCL:=am hcl
 clear hr hc hi0 hi1 hcl
 go_enter Tryz.func190,Tryz.ntmps190
 go_wp2
 go_loopw [8] (fun v8 wr => ∃ j : Nat,j ≤ l.length ∧ v8 = .int .i64 (j : Int) ∧ Aside0 (∀ i (hi : i < l.length),i < j → p l[i] = false) ∧ Aside0 (Below W.heap.size W wr)) (fun v8 _ => l.length - (intOf v8).toNat)
 case atStart => exact ⟨0,Nat.zero_le _,rfl,⟨fun i _ hi => absurd hi (Nat.not_lt_zero _)⟩,⟨Below.refl _ _⟩⟩
 case round =>
  obtain ⟨j,hj,rfl,HP,HBw⟩:=hrel
  by_cases hlt : j < l.length
  ·obtain ⟨ad,e,hx0⟩:=Kd.at_int (Kd.C_below HR.out HBw.out) (j : Int) (by omega) (by omega)
   cases e
   rw [Int.toNat_natCast] at hx0
   have hx : rd l (j : Int) = l[j]:=by unfold rd;rw [Int.toNat_natCast,List.getD_eq_getElem?_getD,List.getElem?_eq_getElem hlt];rfl
   have HC:=am (HCL.out (rd l (j : Int)) wr (by rw [hx];exact List.getElem_mem hlt) (HJ.out _ _ HI.out HBw.out))
   have HX:=am hx
   clear hx
   cases hp : p (rd l (j : Int)) with
  |true =>
    have HPx:=am hp
    rw [hp] at HC
    clear hp
    go_wp2_with fail
    refine HC.out.mono ?_
    rintro e w' ⟨rfl,hd⟩
    have HD:=am hd
    clear hd
    go_wp2
    go_ret
    exact ⟨by rw [idxP_found hlt (by rw [← HX.out];exact HPx.out) HP.out];rfl,below_then HBw.out (below_size HBw.out) HD.out⟩
  |false =>
    have HPx:=am hp
    rw [hp] at HC
    clear hp
    go_wp2_with fail
    refine HC.out.mono ?_
    rintro e w' ⟨rfl,hd⟩
    have HD:=am hd
    clear hd
    go_wp2
    go_roundw
    case rel =>
     refine ⟨j + 1,by omega,by go_num,⟨fun i hi hij => ?_⟩,⟨below_then HBw.out (below_size HBw.out) HD.out⟩⟩
     by_cases e : i = j
     ·subst e;rw [← HX.out];exact HPx.out
     ·exact HP.out i hi (by omega)
    case measure => simp [intOf];omega
  ·go_wp2
   go_ret
   exact ⟨by rw [idxP_none (fun i hi => HP.out i hi (by omega))];rfl,HBw.out⟩
set_option maxRecDepth 100000 in
theorem has145_calls (A : Option Addr) (c : Nat) (l : List Int) (p : Int → Bool) (K : Nat) (caps : Array Value) (Inv : World → Prop) (W : World) (hr : Kd.C (Kd.int .i64) W A l.length l) (hc : l.length ≤ c)
  (ek : ∀ args w,(callFunc K args).run Tryz.prog w = .ok (.enter K args) w) (hi0 : Inv W) (hi1 : ∀ w w',Inv w → Below w.heap.size w w' → Inv w')
  (hcl : ∀ (x : Int) (w : World),x ∈ l → Inv w → Calls Tryz.prog K (#[.int .i64 x] ++ caps) w fun e w' => e = .returned (.bool (p x)) ∧ Below w.heap.size w w') :
  Calls Tryz.prog 145 #[.slice A l.length c,.func (.func K) #[] caps] W fun e W' => e = .returned (.bool (l.any p)) ∧ Below W.heap.size W W':=by
 have HC:=am (idx190_calls A c l p K caps Inv W hr hc ek hi0 hi1 hcl)
 clear hr hc hi0 hi1 hcl
 go_enter Tryz.func145,Tryz.ntmps145
 go_wp2_with fail
 refine HC.out.mono ?_
 rintro e w' ⟨rfl,hd⟩
 have HD:=am hd
 clear hd
 go_wp2
 go_ret
 exact ⟨by rw [← idxP_nn];rfl,HD.out⟩
theorem cl174 (x : Int) (w : World) : Calls Tryz.prog 174 (#[.int .i64 x] ++ #[]) w fun e w' => e = .returned (.bool (!decide (1 ≤ x ∧ x ≤ 4096))) ∧ Below w.heap.size w w':=by
 simp only [List.append_toArray,List.cons_append,List.nil_append,Array.append_empty]
 go_enter Tryz.func174,Tryz.ntmps174
 go_wp2_with fail
 obtain ⟨r,hr⟩ : ∃ r,r = decide (1 ≤ x ∧ x ≤ 4096):=⟨_,rfl⟩
 have HR:=am hr
 clear hr
 refine (pit_within.calls _ _ _ r _ (by rw [within_some,HR.out])).mono ?_
 rintro e w1 ⟨rfl,m,rfl⟩
 go_wp2
 go_ret
 exact ⟨by rw [← HR.out];rfl,pw_below_drewN (Below.refl _ _) m⟩
def PlayedPost (W : World) (lo : Nat) (r : Except (Int × Int) Yd) (e : Ending) (W' : World) : Prop :=
 Below W.heap.size W W' ∧ (match r with
 |.ok Y => ∃ (L : Loc) (base : Nat),W.heap.size ≤ base ∧ (∀ k,lo ≤ k → k < W.heap.size → L.bad k) ∧ e = .returned (.tuple #[.pointer (some ⟨L.g,0,none⟩),.int .i64 0,.int .i64 0]) ∧ YardAt W' base L Y
 |.error x => e = .returned (.tuple #[.pointer none,.int .i64 x.1,.int .i64 x.2]))
theorem playedP_rooms {rooms : List Int} {stirs : List S84} {k : Nat} (h : roomsOk rooms = false) : playedP rooms stirs k = .error (1,0):=by unfold playedP;rw [if_neg (by rw [h];simp)]
theorem playedP_many {rooms : List Int} {stirs : List S84} {k : Nat} (h : roomsOk rooms = true) (h2 : ¬ stirs.length ≤ 60) : playedP rooms stirs k = .error (2,0):=by unfold playedP;rw [if_pos h,if_neg h2]
theorem playedP_go {rooms : List Int} {stirs : List S84} {k : Nat} (h : roomsOk rooms = true) (h2 : stirs.length ≤ 60) : playedP rooms stirs k = goP (emptyP rooms) 0 0 (stirs.take k):=by unfold playedP;rw [if_pos h,if_pos h2]
theorem any_not_all (l : List Int) : (l.any fun x => !decide (1 ≤ x ∧ x ≤ 4096)) = !(l.all fun n => inP n 1 4096):=by
 induction l with
|nil => rfl
|cons x r ih => rw [List.any_cons,List.all_cons,ih];unfold inP;cases decide (1 ≤ x ∧ x ≤ 4096) <;> simp
theorem goP_bad {Y : Yd} {day i : Int} {s : S84} {r : List S84} (h : formedP Y.rooms.length s day = false) : goP Y day i (s :: r) = .error (7,i + 1):=by simp only [goP];rw [if_neg (by rw [h];simp)]
theorem goP_err {Y : Yd} {day i : Int} {s : S84} {r : List S84} (h : formedP Y.rooms.length s day = true) {c : Int} (h2 : stepP Y s i = .error c) : goP Y day i (s :: r) = .error (c,i + 1):=by simp only [goP];rw [if_pos h,h2]
theorem goP_next {Y Y' : Yd} {day i : Int} {s : S84} {r : List S84} (h : formedP Y.rooms.length s day = true) (h2 : stepP Y s i = .ok Y') : goP Y day i (s :: r) = goP Y' s.f2 (i + 1) r:=by simp only [goP];rw [if_pos h,h2]
theorem drop_rd84 {l : List S84} {j : Nat} (h : j < l.length) : l.drop j = rd_T84 l (j : Int) :: l.drop (j + 1):=by
 rw [List.drop_eq_getElem_cons h];unfold rd_T84;rw [Int.toNat_natCast,List.getD_eq_getElem?_getD,List.getElem?_eq_getElem h];rfl
theorem stepP_code {Y : Yd} {s : S84} {k c : Int} (h : stepP Y s k = .error c) : c = 2 ∨ c = 3 ∨ c = 4 ∨ c = 6:=by
 unfold stepP pourP takeP turnP moveP spillP at h
 repeat' split at h
 all_goals first|(injection h with h;omega)|(cases h;done)
set_option maxRecDepth 100000 in
set_option maxHeartbeats 4000000 in
theorem played_calls (A A2 : Option Addr) (c c2 : Nat) (rooms : List Int) (stirs : List S84) (k : Nat) (W : World) (lo : Nat) (hlo : lo ≤ W.heap.size) (hC : Kd.F (Kd.int .i64) W (fun k => k < lo) A rooms.length rooms) (hc : rooms.length ≤ c) (hS : Kd.C k84 W A2 stirs.length stirs) (hc2 : stirs.length ≤ c2) (hk : k ≤ stirs.length) :
  Calls Tryz.prog 123 #[.agg #[.slice A rooms.length c,.slice A2 stirs.length c2],.int .i64 (k : Int)] W fun e W' => PlayedPost W lo (playedP rooms stirs k) e W':=by
 have hmf : ∀ (fn : Fn) (first cap : Array Value) (w : World),(Instr.makeFunc fn first cap).run Tryz.prog w = .ok (.func fn first cap) w:=fun _ _ _ _ => rfl
 have hu:=Tryz.underlying32
 have hu84:=Tryz.underlying84
 have HB1:=am (below_alloc (Below.refl W.heap.size W) (.cells #[.slice A rooms.length c,.slice A2 stirs.length c2] 32))
 have HX1:=am (blk_new W (.cells #[.slice A rooms.length c,.slice A2 stirs.length c2] 32))
 have HC:=am (Kd.F_now hC)
 have HCF:=am hC
 have HS:=am hS
 have hrm:=(Kd.F_now hC).2.1
 have hsm:=hS.2.1
 clear hC hS
 obtain ⟨b1,hb1⟩ : ∃ b1,b1 = decide (1 ≤ (rooms.length : Int) ∧ (rooms.length : Int) ≤ 6):=⟨_,rfl⟩
 obtain ⟨b2,hb2⟩ : ∃ b2,b2 = rooms.any fun x => !decide (1 ≤ x ∧ x ≤ 4096):=⟨_,rfl⟩
 have HW1:=am (show pit_within.f (rooms.length : Int) 1 6 = some b1 by rw [within_some,hb1])
 have hro : roomsOk rooms = (b1 && !b2):=by
  unfold roomsOk
  rw [hb2,any_not_all,hb1]
  unfold inP
  simp
 have HB2:=am hb2
 have H1:=am hb1
 clear hb1 hb2
 cases b1 with
|false =>
  rw [playedP_rooms (by rw [hro];rfl)]
  clear hro
  go_enter Tryz.func123,Tryz.ntmps123
  go_wp2_with fail
  refine (pit_within.calls _ _ _ _ _ HW1.out).mono ?_
  rintro e w1 ⟨rfl,m,rfl⟩
  go_wp2
  go_ret3
  exact ⟨pw_below_drewN HB1.out m,rfl⟩
|true =>
  cases b2 with
 |true =>
   rw [playedP_rooms (by rw [hro];rfl)]
   clear hro
   go_enter Tryz.func123,Tryz.ntmps123
   go_wp2_with fail
   refine (pit_within.calls _ _ _ _ _ HW1.out).mono ?_
   rintro e w1 ⟨rfl,m,rfl⟩
   have HX2:=am (blk_drewN HX1.out m)
   have HD2:=am (pw_below_drewN HB1.out m)
   have g0:=bd HX2.out 0
   generalize (W.alloc (.cells #[.slice A rooms.length c,.slice A2 stirs.length c2] 32)).drewN m = w2 at HX2 HD2 g0 ⊢
   go_wp2_with fail
   refine (has145_calls A c rooms (fun x => !decide (1 ≤ x ∧ x ≤ 4096)) 174 #[] (fun _ => True) w2 (Kd.C_below HC.out HD2.out) hc (enters_of Tryz.func174 kr rfl) trivial (fun _ _ _ _ => trivial) (fun x w _ _ => cl174 x w)).mono ?_
   rintro e w3 ⟨rfl,hb⟩
   rw [← HB2.out]
   have HD3:=am (below_then HD2.out (below_size HD2.out) hb)
   clear hb g0
   go_wp2
   go_ret3
   exact ⟨HD3.out,rfl⟩
 |false =>
   have HRO:=am (show roomsOk rooms = true by rw [hro];rfl)
   clear hro
   by_cases hl : stirs.length ≤ 60
   ·rw [playedP_go HRO.out hl]
    go_enter Tryz.func123,Tryz.ntmps123
    go_wp2_with fail
    refine (pit_within.calls _ _ _ _ _ HW1.out).mono ?_
    rintro e w1 ⟨rfl,m,rfl⟩
    have HX2:=am (blk_drewN HX1.out m)
    have HD2:=am (pw_below_drewN HB1.out m)
    have g0:=bd HX2.out 0
    generalize (W.alloc (.cells #[.slice A rooms.length c,.slice A2 stirs.length c2] 32)).drewN m = w2 at HX2 HD2 g0 ⊢
    go_wp2_with fail
    refine (has145_calls A c rooms (fun x => !decide (1 ≤ x ∧ x ≤ 4096)) 174 #[] (fun _ => True) w2 (Kd.C_below HC.out HD2.out) hc (enters_of Tryz.func174 kr rfl) trivial (fun _ _ _ _ => trivial) (fun x w _ _ => cl174 x w)).mono ?_
    rintro e w3 ⟨rfl,hb⟩
    rw [← HB2.out]
    have HD3:=am (below_then HD2.out (below_size HD2.out) hb)
    have HX3:=am (blk_below HX2.out hb)
    clear hb g0
    have g0:=bd HX3.out 0
    have g1:=bd HX3.out 1
    have hr6 : rooms.length ≤ 6:=by
     have h:=HRO.out
     unfold roomsOk inP at h
     simp only [Bool.and_eq_true,decide_eq_true_eq] at h
     omega
    go_wp2_with fail
    refine (empty_calls A c rooms w3 lo (Nat.le_trans hlo HD3.out.size) (Kd.F_below HCF.out HD3.out) hc hr6).mono ?_
    rintro e w4 ⟨L,rfl,hY,hbad,hb⟩
    have HBA:=am hbad
    clear hbad
    have HY4:=am hY
    have HD4:=am (below_then HD3.out (below_size HD3.out) hb)
    have HX4:=am (blk_below HX3.out hb)
    have HW0:=am (empty_ok HRO.out)
    have HBX:=am (show W.heap.size < w3.heap.size from blk_lt HX3.out)
    clear hY hb g0 g1
    have g1:=bd HX4.out 1
    have hkc : (k : Int) ≤ (c2 : Int):=by omega
    have hk60 : k ≤ 60:=by omega
    go_wp2
    go_loopw [8,34] (fun v8 v34 wr => ∃ (j : Nat) (Yj : Yd) (Lj : Loc) (day : Int),j ≤ k ∧ v8 = .int .i64 day ∧ v34 = .int .i64 (j : Int) ∧ 0 ≤ day ∧ day ≤ 682 ∧ Aside0 (YardAt wr w3.heap.size Lj Yj) ∧ Aside0 (Lj.g = L.g) ∧ Aside0 (Lj.bad = L.bad) ∧ Aside0 (Wf j Yj) ∧ Aside0 (Yj.rooms = rooms) ∧ Aside0 (Below W.heap.size W wr) ∧ Aside0 (wr.heap[W.heap.size]? = some (.cells #[.slice A rooms.length c,.slice A2 stirs.length c2] 32 (0,0))) ∧ Aside0 (goP (emptyP rooms) 0 0 (stirs.take k) = goP Yj day (j : Int) ((stirs.take k).drop j))) (fun _ v34 _ => k - (intOf v34).toNat)
    case atStart => exact ⟨0,emptyP rooms,L,0,Nat.zero_le _,rfl,rfl,by omega,by omega,HY4,⟨rfl⟩,⟨rfl⟩,HW0,⟨rfl⟩,HD4,HX4,⟨by simp⟩⟩
    case round =>
     clear HX1 HB1 HX2 HD2 HD3 HX3 HY4 HD4 HX4 HW0 g1
     obtain ⟨j,Yj,Lj,day,hj,rfl,rfl,hd0,hd1,HYj,HGj,HAj,HWj,HRj,HBj,HXj,HGo⟩:=hrel
     by_cases hlt : j < k
     ·obtain ⟨ad,e,hx0,hx1,hx2,hx3,hx4,hx5⟩:=at_T84 (Kd.C_below HS.out HBj.out) (j : Int) (by omega) (by omega)
      cases e
      rw [Int.toNat_natCast] at hx0 hx1 hx2 hx3 hx4 hx5
      have HDR:=am (show (stirs.take k).drop j = rd_T84 stirs (j : Int) :: (stirs.take k).drop (j + 1) by
       rw [drop_rd84 (by rw [List.length_take];omega)]
       unfold rd_T84
       rw [Int.toNat_natCast,List.getD_eq_getElem?_getD,List.getD_eq_getElem?_getD,List.getElem?_take_of_lt hlt])
      obtain ⟨s,hs⟩ : ∃ s,s = rd_T84 stirs (j : Int):=⟨_,rfl⟩
      rw [← hs] at hx0 hx1 hx2 hx3 hx4 hx5 HDR
      clear hs
      have HNj:=am (fun k (hk : wr.heap.size ≤ k) => HYj.out.not_new hk)
      cases hfb : formedP (rooms.length : Int) s day with
     |false =>
       have HFB:=am hfb
       clear hfb
       have HXs:=am (blk_new wr (.cells #[.int .i64 s.f0,.int .i64 s.f1,.int .i64 s.f2,.int .i64 s.f3,.int .i64 s.f4,.int .i64 s.f5] 84))
       have HXb:=am (blk_alloc HXj.out (.cells #[.int .i64 s.f0,.int .i64 s.f1,.int .i64 s.f2,.int .i64 s.f3,.int .i64 s.f4,.int .i64 s.f5] 84))
       have HB5:=am (below_alloc HBj.out (.cells #[.int .i64 s.f0,.int .i64 s.f1,.int .i64 s.f2,.int .i64 s.f3,.int .i64 s.f4,.int .i64 s.f5] 84))
       have HY5:=am (HYj.out.move (below_alloc (Below.refl _ _) (.cells #[.int .i64 s.f0,.int .i64 s.f1,.int .i64 s.f2,.int .i64 s.f3,.int .i64 s.f4,.int .i64 s.f5] 84)))
       have u0:=bd HXb.out 0
       have u1:=bd HXb.out 1
       go_wp2_with fail
       refine (formed_calls A (some ad) rooms.length c stirs.length c2 s day _ hr6).mono ?_
       rintro e w5 ⟨rfl,hb⟩
       rw [HFB.out]
       have HD6:=am (below_then HB5.out (below_size HB5.out) hb)
       have HX6:=am (blk_below HXb.out hb)
       have HS6:=am (blk_below HXs.out hb)
       have HY6:=am (HY5.out.move hb)
       clear hb u0 u1 hx0 hx1 hx2 hx3 hx4 hx5
       go_wp2
       go_ret3
       refine ⟨HD6.out,?_⟩
       rw [HGo.out,HDR.out,goP_bad (by rw [HRj.out];exact HFB.out)]
       rfl
     |true =>
       have HFB:=am hfb
       clear hfb
       have HFo:=am (formed_of hd0 HFB.out)
       cases hst : stepP Yj s (j : Int) with
      |error ec =>
        have HST:=am hst
        have hcode:=stepP_code hst
        clear hst
        have HXs:=am (blk_new wr (.cells #[.int .i64 s.f0,.int .i64 s.f1,.int .i64 s.f2,.int .i64 s.f3,.int .i64 s.f4,.int .i64 s.f5] 84))
        have HXb:=am (blk_alloc HXj.out (.cells #[.int .i64 s.f0,.int .i64 s.f1,.int .i64 s.f2,.int .i64 s.f3,.int .i64 s.f4,.int .i64 s.f5] 84))
        have HB5:=am (below_alloc HBj.out (.cells #[.int .i64 s.f0,.int .i64 s.f1,.int .i64 s.f2,.int .i64 s.f3,.int .i64 s.f4,.int .i64 s.f5] 84))
        have HY5:=am (HYj.out.move (below_alloc (Below.refl _ _) (.cells #[.int .i64 s.f0,.int .i64 s.f1,.int .i64 s.f2,.int .i64 s.f3,.int .i64 s.f4,.int .i64 s.f5] 84)))
        have u0:=bd HXb.out 0
        have u1:=bd HXb.out 1
        go_wp2_with fail
        refine (formed_calls A (some ad) rooms.length c stirs.length c2 s day _ hr6).mono ?_
        rintro e w5 ⟨rfl,hb⟩
        rw [HFB.out]
        have HD6:=am (below_then HB5.out (below_size HB5.out) hb)
        have HX6:=am (blk_below HXb.out hb)
        have HS6:=am (blk_below HXs.out hb)
        have HY6:=am (HY5.out.move hb)
        clear hb u0 u1 hx0 hx1 hx2 hx3 hx4 hx5
        have u0:=bd HS6.out 0
        have u1:=bd HS6.out 1
        have u2:=bd HS6.out 2
        have u3:=bd HS6.out 3
        have u4:=bd HS6.out 4
        have u5:=bd HS6.out 5
        have hdo:=do_calls HY6.out HWj.out (by omega) s (j : Int) (by rw [HRj.out];exact HFo.out.1)
        rw [HGj.out] at hdo
        have HDO:=am hdo
        clear hdo
        go_wp2_with fail
        refine HDO.out.mono ?_
        rintro e w6 ⟨hb,L',hg,hfr,h⟩
        rw [HST.out] at h
        have HD7:=am (HD6.out.trans (hb.mono (Nat.le_of_lt HBX.out)))
        have HX7:=am ((hb.block W.heap.size HBX.out).trans HX6.out)
        have HS7:=am ((hfr.keep wr.heap.size (blk_lt HS6.out) (HNj.out _ (Nat.le_refl _))).1.trans HS6.out)
        have HG7:=am (hg.trans HGj.out);have HA7:=am (hfr.bad.trans HAj.out)
        clear hb hfr hg u0 u1 u2 u3 u4 u5
        subst h
        have hne : ¬ ec = 0:=by omega
        go_wp2
        go_ret3
        refine ⟨HD7.out,?_⟩
        rw [HGo.out,HDR.out,goP_err (by rw [HRj.out];exact HFB.out) HST.out]
        rfl
      |ok Y' =>
        have HST:=am hst
        clear hst
        have HXs:=am (blk_new wr (.cells #[.int .i64 s.f0,.int .i64 s.f1,.int .i64 s.f2,.int .i64 s.f3,.int .i64 s.f4,.int .i64 s.f5] 84))
        have HXb:=am (blk_alloc HXj.out (.cells #[.int .i64 s.f0,.int .i64 s.f1,.int .i64 s.f2,.int .i64 s.f3,.int .i64 s.f4,.int .i64 s.f5] 84))
        have HB5:=am (below_alloc HBj.out (.cells #[.int .i64 s.f0,.int .i64 s.f1,.int .i64 s.f2,.int .i64 s.f3,.int .i64 s.f4,.int .i64 s.f5] 84))
        have HY5:=am (HYj.out.move (below_alloc (Below.refl _ _) (.cells #[.int .i64 s.f0,.int .i64 s.f1,.int .i64 s.f2,.int .i64 s.f3,.int .i64 s.f4,.int .i64 s.f5] 84)))
        have u0:=bd HXb.out 0
        have u1:=bd HXb.out 1
        go_wp2_with fail
        refine (formed_calls A (some ad) rooms.length c stirs.length c2 s day _ hr6).mono ?_
        rintro e w5 ⟨rfl,hb⟩
        rw [HFB.out]
        have HD6:=am (below_then HB5.out (below_size HB5.out) hb)
        have HX6:=am (blk_below HXb.out hb)
        have HS6:=am (blk_below HXs.out hb)
        have HY6:=am (HY5.out.move hb)
        clear hb u0 u1 hx0 hx1 hx2 hx3 hx4 hx5
        have u0:=bd HS6.out 0
        have u1:=bd HS6.out 1
        have u2:=bd HS6.out 2
        have u3:=bd HS6.out 3
        have u4:=bd HS6.out 4
        have u5:=bd HS6.out 5
        have hdo:=do_calls HY6.out HWj.out (by omega) s (j : Int) (by rw [HRj.out];exact HFo.out.1)
        rw [HGj.out] at hdo
        have HDO:=am hdo
        clear hdo
        go_wp2_with fail
        refine HDO.out.mono ?_
        rintro e w6 ⟨hb,L',hg,hfr,h⟩
        rw [HST.out] at h
        have HD7:=am (HD6.out.trans (hb.mono (Nat.le_of_lt HBX.out)))
        have HX7:=am ((hb.block W.heap.size HBX.out).trans HX6.out)
        have HS7:=am ((hfr.keep wr.heap.size (blk_lt HS6.out) (HNj.out _ (Nat.le_refl _))).1.trans HS6.out)
        have HG7:=am (hg.trans HGj.out);have HA7:=am (hfr.bad.trans HAj.out)
        clear hb hfr hg u0 u1 u2 u3 u4 u5
        obtain ⟨rfl,hY'⟩:=h
        have HY7:=am hY'
        clear hY'
        have u2:=bd HS7.out 2
        go_wp2
        go_roundw
        case rel =>
         have hok:=step_ok HWj.out (by omega) (by rw [HRj.out];exact HFo.out.1) HST.out
         exact ⟨j + 1,Y',L',s.f2,by omega,rfl,by go_num,by have:=HFo.out.2;omega,HFo.out.1.day.2,HY7,HG7,HA7,⟨hok.1⟩,⟨hok.2.trans HRj.out⟩,HD7,HX7,⟨by rw [HGo.out,HDR.out,goP_next (by rw [HRj.out];exact HFB.out) HST.out];rfl⟩⟩
        case measure => simp [intOf];omega
     ·have hjk : j = k:=by omega
      have hgo:=HGo.out
      rw [List.drop_eq_nil_of_le (by rw [List.length_take];omega)] at hgo
      have HGO:=am (show goP (emptyP rooms) 0 0 (stirs.take k) = .ok Yj by rw [hgo];rfl)
      clear hgo
      go_wp2
      go_ret3
      refine ⟨HBj.out,?_⟩
      rw [HGO.out]
      exact ⟨Lj,w3.heap.size,Nat.le_of_lt HBX.out,fun k h1 h2 => by rw [HAj.out];exact HBA.out k h1 (Nat.lt_trans h2 HBX.out),by rw [HGj.out];rfl,HYj.out⟩
   ·rw [playedP_many HRO.out hl]
    go_enter Tryz.func123,Tryz.ntmps123
    go_wp2_with fail
    refine (pit_within.calls _ _ _ _ _ HW1.out).mono ?_
    rintro e w1 ⟨rfl,m,rfl⟩
    have HX2:=am (blk_drewN HX1.out m)
    have HD2:=am (pw_below_drewN HB1.out m)
    have g0:=bd HX2.out 0
    generalize (W.alloc (.cells #[.slice A rooms.length c,.slice A2 stirs.length c2] 32)).drewN m = w2 at HX2 HD2 g0 ⊢
    go_wp2_with fail
    refine (has145_calls A c rooms (fun x => !decide (1 ≤ x ∧ x ≤ 4096)) 174 #[] (fun _ => True) w2 (Kd.C_below HC.out HD2.out) hc (enters_of Tryz.func174 kr rfl) trivial (fun _ _ _ _ => trivial) (fun x w _ _ => cl174 x w)).mono ?_
    rintro e w3 ⟨rfl,hb⟩
    rw [← HB2.out]
    have HD3:=am (below_then HD2.out (below_size HD2.out) hb)
    have HX3:=am (blk_below HX2.out hb)
    clear hb g0
    have g1:=bd HX3.out 1
    go_wp2
    go_ret3
    exact ⟨HD3.out,rfl⟩
def AllPost (W : World) (lo : Nat) (r : Except (Int × Int) Yd) (e : Ending) (W' : World) : Prop :=
 Below W.heap.size W W' ∧ (match r with
 |.ok Y => ∃ (L : Loc) (base : Nat),W.heap.size ≤ base ∧ (∀ k,lo ≤ k → k < W.heap.size → L.bad k) ∧ e = .returned (.tuple #[.pointer (some ⟨L.g,0,none⟩),.int .i64 0]) ∧ YardAt W' base L Y
 |.error x => e = .returned (.tuple #[.pointer none,.int .i64 x.1]))
def codeOf : Except (Int × Int) Yd → Int × Int
|.ok _ => (0,0)
|.error x => x
set_option maxRecDepth 100000 in
theorem all_calls (A A2 : Option Addr) (c c2 : Nat) (rooms : List Int) (stirs : List S84) (W : World) (lo : Nat) (hlo : lo ≤ W.heap.size) (hC : Kd.F (Kd.int .i64) W (fun k => k < lo) A rooms.length rooms) (hc : rooms.length ≤ c) (hS : Kd.C k84 W A2 stirs.length stirs) (hc2 : stirs.length ≤ c2) :
  Calls Tryz.prog 77 #[.agg #[.slice A rooms.length c,.slice A2 stirs.length c2]] W fun e W' => AllPost W lo (playedP rooms stirs stirs.length) e W':=by
 have hu:=Tryz.underlying32
 have HC1:=am (Kd.F_alloc hC (.cells #[.slice A rooms.length c,.slice A2 stirs.length c2] 32))
 have HS1:=am (Kd.C_alloc hS (.cells #[.slice A rooms.length c,.slice A2 stirs.length c2] 32))
 have HB1:=am (below_alloc (Below.refl W.heap.size W) (.cells #[.slice A rooms.length c,.slice A2 stirs.length c2] 32))
 clear hC hS
 obtain ⟨r,hr⟩ : ∃ r,r = playedP rooms stirs stirs.length:=⟨_,rfl⟩
 rw [← hr]
 cases r with
|error x =>
  have HP:=am hr.symm
  clear hr
  go_enter Tryz.func77,Tryz.ntmps77
  go_wp2_with fail
  refine (played_calls A A2 c c2 rooms stirs stirs.length _ lo (Nat.le_trans hlo (by simp)) HC1.out hc HS1.out hc2 (Nat.le_refl _)).mono ?_
  rintro e w1 ⟨hb,h⟩
  rw [HP.out] at h
  have HB2:=am (below_then HB1.out (below_size HB1.out) hb)
  have HSZ:=am (below_size HB1.out)
  clear hb
  subst h
  go_wp2
  go_ret2
  exact ⟨HB2.out,rfl⟩
|ok Y =>
  have HP:=am hr.symm
  clear hr
  go_enter Tryz.func77,Tryz.ntmps77
  go_wp2_with fail
  refine (played_calls A A2 c c2 rooms stirs stirs.length _ lo (Nat.le_trans hlo (by simp)) HC1.out hc HS1.out hc2 (Nat.le_refl _)).mono ?_
  rintro e w1 ⟨hb,h⟩
  rw [HP.out] at h
  have HB2:=am (below_then HB1.out (below_size HB1.out) hb)
  have HSZ:=am (below_size HB1.out)
  clear hb
  obtain ⟨L,base,hbase,hbad,rfl,hY⟩:=h
  have HBA:=am hbad
  clear hbad
  have HY:=am hY
  clear hY
  go_wp2
  go_ret2
  exact ⟨HB2.out,L,base,Nat.le_trans (by simp) hbase,fun k h1 h2 => HBA.out k h1 (Nat.lt_of_lt_of_le h2 (by simp)),rfl,HY.out⟩
set_option maxRecDepth 100000 in
theorem check_calls (A A2 : Option Addr) (c c2 : Nat) (rooms : List Int) (stirs : List S84) (W : World) (lo : Nat) (hlo : lo ≤ W.heap.size) (hC : Kd.F (Kd.int .i64) W (fun k => k < lo) A rooms.length rooms) (hc : rooms.length ≤ c) (hS : Kd.C k84 W A2 stirs.length stirs) (hc2 : stirs.length ≤ c2) :
  Calls Tryz.prog 40 #[.agg #[.slice A rooms.length c,.slice A2 stirs.length c2]] W fun e W' => e = .returned (.tuple #[.int .i64 (codeOf (playedP rooms stirs stirs.length)).1,.int .i64 (codeOf (playedP rooms stirs stirs.length)).2]) ∧ Below W.heap.size W W':=by
 have hu:=Tryz.underlying32
 have HC1:=am (Kd.F_alloc hC (.cells #[.slice A rooms.length c,.slice A2 stirs.length c2] 32))
 have HS1:=am (Kd.C_alloc hS (.cells #[.slice A rooms.length c,.slice A2 stirs.length c2] 32))
 have HB1:=am (below_alloc (Below.refl W.heap.size W) (.cells #[.slice A rooms.length c,.slice A2 stirs.length c2] 32))
 clear hC hS
 obtain ⟨r,hr⟩ : ∃ r,r = playedP rooms stirs stirs.length:=⟨_,rfl⟩
 rw [← hr]
 cases r with
|error x =>
  have HP:=am hr.symm
  clear hr
  go_enter Tryz.func40,Tryz.ntmps40
  go_wp2_with fail
  refine (played_calls A A2 c c2 rooms stirs stirs.length _ lo (Nat.le_trans hlo (by simp)) HC1.out hc HS1.out hc2 (Nat.le_refl _)).mono ?_
  rintro e w1 ⟨hb,h⟩
  rw [HP.out] at h
  have HB2:=am (below_then HB1.out (below_size HB1.out) hb)
  have HSZ:=am (below_size HB1.out)
  clear hb
  subst h
  go_wp2
  go_ret2
  exact ⟨rfl,HB2.out⟩
|ok Y =>
  have HP:=am hr.symm
  clear hr
  go_enter Tryz.func40,Tryz.ntmps40
  go_wp2_with fail
  refine (played_calls A A2 c c2 rooms stirs stirs.length _ lo (Nat.le_trans hlo (by simp)) HC1.out hc HS1.out hc2 (Nat.le_refl _)).mono ?_
  rintro e w1 ⟨hb,h⟩
  rw [HP.out] at h
  have HB2:=am (below_then HB1.out (below_size HB1.out) hb)
  have HSZ:=am (below_size HB1.out)
  clear hb
  obtain ⟨L,base,hbase,hbad,rfl,hY⟩:=h
  have HBA:=am hbad
  clear hbad
  have HY:=am hY
  clear hY
  go_wp2
  go_ret2
  exact ⟨rfl,HB2.out⟩
def isId (id : Int) (b : S167) : Bool:=decide (b.f0 = id)
def FindPost (W : World) (L : Loc) (Y : Yd) (id : Int) (e : Ending) (W' : World) : Prop :=
 Below W.heap.size W W' ∧ ((Y.barrows.any (isId id) = false ∧ e = .returned (.tuple #[.agg #[.int .i64 0,.int .i64 0,.int .i64 0,.slice none 0 0],.bool false])) ∨
  ∃ (b : S167) (A3 : Option Addr) (c3 : Nat),Y.barrows.find? (isId id) = some b ∧ e = .returned (.tuple #[.agg #[.int .i64 b.f0,.int .i64 b.f1,.int .i64 b.f2,.slice A3 b.f3.length c3],.bool true]) ∧ b.f3.length ≤ c3 ∧ Kd.F k89 W' L.Not A3 b.f3.length b.f3)
theorem find_at {α : Type} {p : α → Bool} {l : List α} (z : α) (h : l.any p = true) : l.find? p = some (l.getD (idxP p l).toNat z):=by
 unfold idxP
 rw [if_pos h,Int.toNat_natCast,List.getD_eq_getElem?_getD]
 induction l with
|nil => simp at h
|cons x r ih =>
  rw [List.find?_cons,List.findIdx_cons]
  cases hx : p x with
 |true => simp
 |false =>
   rw [List.any_cons,hx,Bool.false_or] at h
   simp [ih h]
set_option maxRecDepth 100000 in
set_option maxHeartbeats 2000000 in
theorem find_calls {W : World} {base n : Nat} {L : Loc} {Y : Yd} (hY : YardAt W base L Y) (hw : Wf n Y) (hn : n ≤ 60) (id : Int) :
  Calls Tryz.prog 152 #[.pointer (some ⟨L.g,0,none⟩),.int .i64 id] W fun e W' => FindPost W L Y id e W':=by
 have hmf : ∀ (fn : Fn) (first cap : Array Value) (w : World),(Instr.makeFunc fn first cap).run Tryz.prog w = .ok (.func fn first cap) w:=fun _ _ _ _ => rfl
 have hu:=Tryz.underlying167
 obtain ⟨Ab,cb,hb,hlb,hCb⟩:=Kd.R_reads hY.barrows
 have hCb' : Kd.C k167 W Ab Y.barrows.length Y.barrows:=hCb.imp_ (Below.refl _ _) fun _ _ hp => Foot.now hp
 have hB:=hY.blk
 rw [hb] at hB
 have hm:=hCb.2.1
 have hb1 : Below W.heap.size W ((W.alloc (.cells #[.int .i64 id] 3)).alloc (.cells #[.int .i64 0,.int .i64 0,.int .i64 0,.slice none 0 0] 167)):=below_alloc (below_alloc (Below.refl _ _) _) _
 have BG:=am (blk_below hB hb1)
 have BK:=am (blk_alloc (blk_new W (.cells #[.int .i64 id] 3)) (.cells #[.int .i64 0,.int .i64 0,.int .i64 0,.slice none 0 0] 167))
 have BR:=am (blk_new' (W.alloc (.cells #[.int .i64 id] 3)) (.cells #[.int .i64 0,.int .i64 0,.int .i64 0,.slice none 0 0] 167) (W.heap.size + 1) (by simp))
 have HC1:=am (Kd.C_below hCb' hb1)
 have HCF:=am hCb
 have HLb:=am hlb
 have HB1:=am hb1
 have g4:=bd BG.out 4
 clear hb hlb hCb hCb' hB hb1 hY hw
 go_enter Tryz.func152,Tryz.ntmps152
 go_wp2_with fail
 refine (idx207_calls Ab cb Y.barrows (isId id) 208 _ (fun w => w.heap[W.heap.size]? = some (.cells #[.int .i64 id] 3 (0,0))) _ HC1.out HLb.out (fun args w => by kernel_rfl) BK.out (fun w w' h hb => blk_below h hb) (fun x A3 c3 w _ h => cl208_calls _ id x A3 c3 w h)).mono ?_
 rintro e w1 ⟨rfl,hd⟩
 have HD:=am (below_then HB1.out (below_size HB1.out) hd)
 have BG1:=am (blk_below BG.out hd)
 have BR1:=am (blk_below BR.out hd)
 clear hd g4
 have u0:=bd BR1.out 0
 have u1:=bd BR1.out 1
 have u2:=bd BR1.out 2
 have u3:=bd BR1.out 3
 have f0:=blk_frozen BR1.out 0
 have f1:=blk_frozen BR1.out 1
 have f2:=blk_frozen BR1.out 2
 have f3:=blk_frozen BR1.out 3
 cases ha : Y.barrows.any (isId id) with
|false =>
  have HA:=am ha
  clear ha
  rw [show idxP (isId id) Y.barrows = -1 by unfold idxP;rw [if_neg (by rw [HA.out];simp)]]
  go_wp2
  have bz:=blk_put (cs':=#[.int .i64 0,.int .i64 0,.int .i64 0,.slice none 0 0]) (blk_put (cs':=#[.int .i64 0,.int .i64 0,.int .i64 0,.slice none 0 0]) (blk_put (cs':=#[.int .i64 0,.int .i64 0,.int .i64 0,.slice none 0 0]) (blk_put (cs':=#[.int .i64 0,.int .i64 0,.int .i64 0,.slice none 0 0]) BR1.out 0 (.int .i64 0) rfl) 1 (.int .i64 0) rfl) 2 (.int .i64 0) rfl) 3 (.slice none 0 0) rfl
  have hbb:=(((HD.out.setCell (p:=⟨W.heap.size + 1,0,none⟩) (Nat.le_succ _) (.int .i64 0)).setCell (p:=⟨W.heap.size + 1,1,none⟩) (Nat.le_succ _) (.int .i64 0)).setCell (p:=⟨W.heap.size + 1,2,none⟩) (Nat.le_succ _) (.int .i64 0)).setCell (p:=⟨W.heap.size + 1,3,none⟩) (Nat.le_succ _) (.slice none 0 0)
  have z0:=bd bz 0
  have z1:=bd bz 1
  have z2:=bd bz 2
  have z3:=bd bz 3
  exact bodyPost_ret (v:=.tuple #[.agg #[.int .i64 0,.int .i64 0,.int .i64 0,.slice none 0 0],.bool false]) (by simp [results,Tryz.results152,go_sem,z0,z1,z2,z3,hu]) rfl ⟨hbb,.inl ⟨HA.out,rfl⟩⟩
|true =>
  have HA:=am ha
  obtain ⟨hi0,hi1,_⟩:=idxP_lt ha
  clear ha
  have HF:=am (find_at z167 HA.out)
  obtain ⟨j,hj⟩ : ∃ j,j = idxP (isId id) Y.barrows:=⟨_,rfl⟩
  rw [← hj] at hi0 hi1 HF ⊢
  obtain ⟨ad,cs,e,_,hK,hcc⟩:=Kd.C_get HCF.out z167 j hi0 hi1
  cases e
  obtain ⟨b,hb⟩ : ∃ b,b = Y.barrows.getD j.toNat z167:=⟨_,rfl⟩
  rw [← hb] at hK HF
  obtain ⟨A3,c3,rfl,hl3,hF3⟩:=k167_openF hK
  have hx0 : w1.cell? (ad.add (j.toNat * 4)) = some (.int .i64 b.f0):=pw_cell_below HD.out (hcc 0 _ rfl)
  have hx1 : w1.cell? ⟨(ad.add (j.toNat * 4)).block,(ad.add (j.toNat * 4)).off + 1,none⟩ = some (.int .i64 b.f1):=by rw [← add_field _ _ 1 (by omega)];exact pw_cell_below HD.out (hcc 1 _ rfl)
  have hx2 : w1.cell? ⟨(ad.add (j.toNat * 4)).block,(ad.add (j.toNat * 4)).off + 2,none⟩ = some (.int .i64 b.f2):=by rw [← add_field _ _ 2 (by omega)];exact pw_cell_below HD.out (hcc 2 _ rfl)
  have hx3 : w1.cell? ⟨(ad.add (j.toNat * 4)).block,(ad.add (j.toNat * 4)).off + 3,none⟩ = some (.slice A3 b.f3.length c3):=by rw [← add_field _ _ 3 (by omega)];exact pw_cell_below HD.out (hcc 3 _ rfl)
  have HF3:=am hF3
  have HL3:=am hl3
  have HJ:=am hj
  clear hj hb hK hcc hF3 hl3
  have g4:=bd BG1.out 4
  go_wp2
  have bz:=blk_put (cs':=#[.int .i64 b.f0,.int .i64 b.f1,.int .i64 b.f2,.slice A3 b.f3.length c3]) (blk_put (cs':=#[.int .i64 b.f0,.int .i64 b.f1,.int .i64 b.f2,.slice none 0 0]) (blk_put (cs':=#[.int .i64 b.f0,.int .i64 b.f1,.int .i64 0,.slice none 0 0]) (blk_put (cs':=#[.int .i64 b.f0,.int .i64 0,.int .i64 0,.slice none 0 0]) BR1.out 0 (.int .i64 b.f0) rfl) 1 (.int .i64 b.f1) rfl) 2 (.int .i64 b.f2) rfl) 3 (.slice A3 b.f3.length c3) rfl
  have hbb:=(((HD.out.setCell (p:=⟨W.heap.size + 1,0,none⟩) (Nat.le_succ _) (.int .i64 b.f0)).setCell (p:=⟨W.heap.size + 1,1,none⟩) (Nat.le_succ _) (.int .i64 b.f1)).setCell (p:=⟨W.heap.size + 1,2,none⟩) (Nat.le_succ _) (.int .i64 b.f2)).setCell (p:=⟨W.heap.size + 1,3,none⟩) (Nat.le_succ _) (.slice A3 b.f3.length c3)
  have z0:=bd bz 0
  have z1:=bd bz 1
  have z2:=bd bz 2
  have z3:=bd bz 3
  exact bodyPost_ret (v:=.tuple #[.agg #[.int .i64 b.f0,.int .i64 b.f1,.int .i64 b.f2,.slice A3 b.f3.length c3],.bool true]) (by simp [results,Tryz.results152,go_sem,z0,z1,z2,z3,hu]) rfl ⟨hbb,.inr ⟨b,A3,c3,HF.out,rfl,HL3.out,Foot_fr HF3.out (Fr.of_below L hbb)⟩⟩
theorem YardAt.set_bad {W : World} {base : Nat} {L : Loc} {Y : Yd} (h : YardAt W base L Y) {b j : Nat} (hb : L.bad b) (u : Value) : YardAt (W.setCell ⟨b,j,none⟩ u) base L Y ∧ Fr W L (W.setCell ⟨b,j,none⟩ u) L:=by
 have hlt:=h.bad b hb
 have far : ∀ k,k ≠ b → (W.setCell ⟨b,j,none⟩ u).heap[k]? = W.heap[k]?:=fun k hk => Below.heap_setCell W ⟨b,j,none⟩ u k hk
 have f : Fr W L (W.setCell ⟨b,j,none⟩ u) L:=⟨by rw [World.size_setCell];exact Nat.le_refl _,fun k hk hn => ⟨far k (fun e => hn (.inr (.inr (.inr (.inr (.inr (.inr (e ▸ hb)))))))),hn⟩,rfl⟩
 have mv : ∀ {α : Type} {d : Kd α} {e : Nat} {v : Value} {xs : List α},d.E = [] → d.R e W base (fun _ => True) v xs → d.R e (W.setCell ⟨b,j,none⟩ u) base (fun _ => True) v xs:=fun hE hR => R_own_move hE hR fun k hk => far k (fun e => by have:=Kd.R_base hR k hk;omega)
 exact ⟨{ gbase:=h.gbase,bad:=h.bad,blk:=(far L.g (fun e => by have:=h.gbase;omega)).trans h.blk,rooms:=Foot_fr h.rooms f,pits:=ft_fr (mv rfl h.pits) f,pours:=mv rfl h.pours,days:=mv rfl h.days,apart:=h.apart,barrows:=ft_fr (mv rfl h.barrows) f,lost:=ft_fr (mv rfl h.lost) f },f⟩
def R83_7.T : Bool × List (List Nat × List Nat):=(true,[([],[]),([],[]),([0,0],[0]),([1,2,0,1,2],[1]),([3,0,1,2,3],[])])
def R83_7.B : List Nat:=[0,0,1,7,15]
theorem R83_7.tab : rtab .any (opsOf Tryz.f83 7) = R83_7.T:=by kernel_rfl
theorem R83_7.bits : waitsOk R83_7.T.2 R83_7.B = true:=by kernel_rfl
theorem find_none_of {α : Type} {p : α → Bool} {l : List α} (h : l.any p = false) : l.find? p = none:=by
 rw [List.find?_eq_none]
 intro x hx hp
 rw [List.any_eq_false] at h
 exact h x hx hp
theorem goP_code : ∀ (l : List S84) (Y : Yd) (day i : Int) (x : Int × Int),goP Y day i l = .error x → x.1 ≠ 0
|[],_,_,_,_,h => by simp [goP] at h
|s :: r,Y,day,i,x,h => by
  cases hf : formedP Y.rooms.length s day with
 |false => rw [goP_bad hf] at h;injection h with h;rw [← h];show (7 : Int) ≠ 0;decide
 |true =>
   cases hs : stepP Y s i with
  |error c => rw [goP_err hf hs] at h;injection h with h;rw [← h];have:=stepP_code hs;show c ≠ 0;omega
  |ok Y' => rw [goP_next hf hs] at h;exact goP_code r Y' s.f2 (i + 1) x h
theorem playedP_code {rooms : List Int} {stirs : List S84} {k : Nat} {x : Int × Int} (h : playedP rooms stirs k = .error x) : x.1 ≠ 0:=by
 unfold playedP at h
 split at h
 ·split at h
  ·exact goP_code _ _ _ _ _ h
  ·injection h with h;rw [← h];decide
 ·injection h with h;rw [← h];decide
def BarrowPost (W : World) (lo : Nat) (r : Except (Int × Int) Yd) (id : Int) (e : Ending) (W' : World) : Prop :=
 Below W.heap.size W W' ∧ (match r with
 |.error x => e = .returned (.tuple #[.pointer none,.agg #[.int .i64 0,.int .i64 0,.int .i64 0,.slice none 0 0],.int .i64 x.1])
 |.ok Y => (match Y.barrows.find? (isId id) with
  |none => e = .returned (.tuple #[.pointer none,.agg #[.int .i64 0,.int .i64 0,.int .i64 0,.slice none 0 0],.int .i64 5])
  |some b => ∃ (L : Loc) (base : Nat) (A3 : Option Addr) (c3 : Nat),W.heap.size ≤ base ∧ (∀ k,lo ≤ k → k < W.heap.size → L.bad k) ∧ e = .returned (.tuple #[.pointer (some ⟨L.g,0,none⟩),.agg #[.int .i64 b.f0,.int .i64 b.f1,.int .i64 b.f2,.slice A3 b.f3.length c3],.int .i64 0]) ∧ YardAt W' base L Y ∧ b.f3.length ≤ c3 ∧ Kd.F k89 W' L.Not A3 b.f3.length b.f3))
set_option maxRecDepth 100000 in
set_option maxHeartbeats 2000000 in
theorem barrowOf_calls (A A2 : Option Addr) (c c2 : Nat) (rooms : List Int) (stirs : List S84) (W : World) (lo : Nat) (hlo : lo ≤ W.heap.size) (hC : Kd.F (Kd.int .i64) W (fun k => k < lo) A rooms.length rooms) (hc : rooms.length ≤ c) (hS : Kd.C k84 W A2 stirs.length stirs) (hc2 : stirs.length ≤ c2) (id : Int) :
  Calls Tryz.prog 83 #[.agg #[.slice A rooms.length c,.slice A2 stirs.length c2],.int .i64 id] W fun e W' => BarrowPost W lo (playedP rooms stirs stirs.length) id e W':=by
 have hu:=Tryz.underlying32
 have hu167:=Tryz.underlying167
 have HC1:=am (Kd.F_alloc (Kd.F_alloc hC (.cells #[.slice A rooms.length c,.slice A2 stirs.length c2] 32)) (.cells #[.int .i64 0,.int .i64 0,.int .i64 0,.slice none 0 0] 167))
 have HS1:=am (Kd.C_alloc (Kd.C_alloc hS (.cells #[.slice A rooms.length c,.slice A2 stirs.length c2] 32)) (.cells #[.int .i64 0,.int .i64 0,.int .i64 0,.slice none 0 0] 167))
 have HB1:=am (below_alloc (below_alloc (Below.refl W.heap.size W) (.cells #[.slice A rooms.length c,.slice A2 stirs.length c2] 32)) (.cells #[.int .i64 0,.int .i64 0,.int .i64 0,.slice none 0 0] 167))
 have HR1:=am (blk_new' (W.alloc (.cells #[.slice A rooms.length c,.slice A2 stirs.length c2] 32)) (.cells #[.int .i64 0,.int .i64 0,.int .i64 0,.slice none 0 0] 167) (W.heap.size + 1) (by simp))
 clear hC hS
 obtain ⟨r,hr⟩ : ∃ r,r = playedP rooms stirs stirs.length:=⟨_,rfl⟩
 rw [← hr]
 have HP:=am hr.symm
 clear hr
 go_enter Tryz.func83,Tryz.ntmps83
 go_wp2_with fail
 refine (all_calls A A2 c c2 rooms stirs _ lo (Nat.le_trans hlo (by simp;omega)) HC1.out hc HS1.out hc2).mono ?_
 rintro e w1 ⟨hb,h⟩
 rw [HP.out] at h
 have HB2:=am (below_then HB1.out (below_size HB1.out) hb)
 have HR2:=am (blk_below HR1.out hb)
 clear hb
 cases r with
|error x =>
  subst h
  have hx : ¬ x.1 = 0:=playedP_code HP.out
  have u0:=bd HR2.out 0
  have f0:=blk_frozen HR2.out 0
  have u1:=bd HR2.out 1
  have f1:=blk_frozen HR2.out 1
  have u2:=bd HR2.out 2
  have f2:=blk_frozen HR2.out 2
  have u3:=bd HR2.out 3
  have f3:=blk_frozen HR2.out 3
  go_wp2
  have bz:=blk_put (cs':=#[.int .i64 0,.int .i64 0,.int .i64 0,.slice none 0 0]) (blk_put (cs':=#[.int .i64 0,.int .i64 0,.int .i64 0,.slice none 0 0]) (blk_put (cs':=#[.int .i64 0,.int .i64 0,.int .i64 0,.slice none 0 0]) (blk_put (cs':=#[.int .i64 0,.int .i64 0,.int .i64 0,.slice none 0 0]) (HR2.out) 0 (.int .i64 0) rfl) 1 (.int .i64 0) rfl) 2 (.int .i64 0) rfl) 3 (.slice none 0 0) rfl
  have z0:=bd bz 0
  have z1:=bd bz 1
  have z2:=bd bz 2
  have z3:=bd bz 3
  exact bodyPost_ret (v:=.tuple #[.pointer none,.agg #[.int .i64 0,.int .i64 0,.int .i64 0,.slice none 0 0],.int .i64 x.1]) (by simp [results,Tryz.results83,go_sem,z0,z1,z2,z3,hu167]) rfl ⟨((((HB2.out).setCell (p:=⟨W.heap.size + 1,0,none⟩) (Nat.le_succ _) (.int .i64 0)).setCell (p:=⟨W.heap.size + 1,1,none⟩) (Nat.le_succ _) (.int .i64 0)).setCell (p:=⟨W.heap.size + 1,2,none⟩) (Nat.le_succ _) (.int .i64 0)).setCell (p:=⟨W.heap.size + 1,3,none⟩) (Nat.le_succ _) (.slice none 0 0),rfl⟩
|ok Y =>
  obtain ⟨L,base,hbase,hbad,rfl,hY⟩:=h
  have HBA:=am hbad
  have HY:=am hY
  have HBS:=am hbase
  have HWF:=am (played_ok HP.out).2.2.1
  clear hbad hY hbase
  go_wp2_with fail
  refine (find_calls HY.out HWF.out (by decide) id).mono ?_
  rintro e w2 ⟨hb,h⟩
  have HB3:=am (below_then HB2.out (below_size HB2.out) hb)
  have HR3:=am (blk_below HR2.out hb)
  have HY3:=am (HY.out.move hb)
  clear hb
  rcases h with ⟨ha,rfl⟩|⟨b,A3,c3,hfd,rfl,hl3,hF3⟩
  ·have HA:=am (find_none_of ha)
   clear ha
   have HR4:=am (blk_alloc HR3.out (.cells #[.int .i64 0,.int .i64 0,.int .i64 0,.slice none 0 0] 167))
   have HB4:=am (below_alloc HB3.out (.cells #[.int .i64 0,.int .i64 0,.int .i64 0,.slice none 0 0] 167))
   have u0:=bd HR4.out 0
   have f0:=blk_frozen HR4.out 0
   have u1:=bd HR4.out 1
   have f1:=blk_frozen HR4.out 1
   have u2:=bd HR4.out 2
   have f2:=blk_frozen HR4.out 2
   have u3:=bd HR4.out 3
   have f3:=blk_frozen HR4.out 3
   go_wp2
   have bz:=blk_put (cs':=#[.int .i64 0,.int .i64 0,.int .i64 0,.slice none 0 0]) (blk_put (cs':=#[.int .i64 0,.int .i64 0,.int .i64 0,.slice none 0 0]) (blk_put (cs':=#[.int .i64 0,.int .i64 0,.int .i64 0,.slice none 0 0]) (blk_put (cs':=#[.int .i64 0,.int .i64 0,.int .i64 0,.slice none 0 0]) (HR4.out) 0 (.int .i64 0) rfl) 1 (.int .i64 0) rfl) 2 (.int .i64 0) rfl) 3 (.slice none 0 0) rfl
   have z0:=bd bz 0
   have z1:=bd bz 1
   have z2:=bd bz 2
   have z3:=bd bz 3
   refine bodyPost_ret (v:=.tuple #[.pointer none,.agg #[.int .i64 0,.int .i64 0,.int .i64 0,.slice none 0 0],.int .i64 5]) (by simp [results,Tryz.results83,go_sem,z0,z1,z2,z3,hu167]) rfl ⟨((((HB4.out).setCell (p:=⟨W.heap.size + 1,0,none⟩) (Nat.le_succ _) (.int .i64 0)).setCell (p:=⟨W.heap.size + 1,1,none⟩) (Nat.le_succ _) (.int .i64 0)).setCell (p:=⟨W.heap.size + 1,2,none⟩) (Nat.le_succ _) (.int .i64 0)).setCell (p:=⟨W.heap.size + 1,3,none⟩) (Nat.le_succ _) (.slice none 0 0),?_⟩
   simp only [HA.out]
  ·have HFD:=am hfd
   have HL3:=am hl3
   have HF3:=am hF3
   clear hfd hl3 hF3
   have HR5:=am (blk_drew (blk_alloc HR3.out (.cells #[.int .i64 b.f0,.int .i64 b.f1,.int .i64 b.f2,.slice A3 b.f3.length c3] 167)))
   have HB5:=am (below_drew (below_alloc HB3.out (.cells #[.int .i64 b.f0,.int .i64 b.f1,.int .i64 b.f2,.slice A3 b.f3.length c3] 167)))
   have HY5:=am ((HY3.out.move (below_alloc (Below.refl _ _) (.cells #[.int .i64 b.f0,.int .i64 b.f1,.int .i64 b.f2,.slice A3 b.f3.length c3] 167))).move (below_drew (Below.refl _ _)))
   have HX5:=am (blk_drew (blk_new w2 (.cells #[.int .i64 b.f0,.int .i64 b.f1,.int .i64 b.f2,.slice A3 b.f3.length c3] 167)))
   have HF5:=am (Kd.F_drew (Kd.F_alloc HF3.out (.cells #[.int .i64 b.f0,.int .i64 b.f1,.int .i64 b.f2,.slice A3 b.f3.length c3] 167)))
   have HBD:=am (HBA.out (W.heap.size + 1) (by omega) (by simp))
   go_wp2
   refine start_ (n:=5) (S:=fun w' => w'.cell? ⟨w2.heap.size,0,none⟩ = some (.int .i64 b.f0) ∧ w'.cell? ⟨w2.heap.size,1,none⟩ = some (.int .i64 b.f1) ∧ w'.cell? ⟨w2.heap.size,2,none⟩ = some (.int .i64 b.f2) ∧ w'.cell? ⟨w2.heap.size,3,none⟩ = some (.slice A3 b.f3.length c3)) (ds:=[3]) (ab 5 0) kr rfl kr ⟨(blk_cell HX5.out 0).trans rfl,(blk_cell HX5.out 1).trans rfl,(blk_cell HX5.out 2).trans rfl,(blk_cell HX5.out 3).trans rfl⟩ (fun hHeld => ?_);refine with_tabW R83_7.tab R83_7.bits (fun HT_ HW_ => ?_)
   generalize ((w2.alloc (.cells #[.int .i64 b.f0,.int .i64 b.f1,.int .i64 b.f2,.slice A3 b.f3.length c3] 167))).drew = wd at HR5 HB5 HY5 HX5 HF5 hHeld ⊢
   refine qA 0 (some 29) ?_;refine qT 1 (some 30) ?_;refine qA 2 (some 4) ?_
   refine qL 3 (none) fun K hK => ?_
   have u0:=bd HR5.out 0
   have f0:=blk_frozen HR5.out 0
   have u1:=bd HR5.out 1
   have f1:=blk_frozen HR5.out 1
   have u2:=bd HR5.out 2
   have f2:=blk_frozen HR5.out 2
   have u3:=bd HR5.out 3
   have f3:=blk_frozen HR5.out 3
   refine skip_ (w1:=?_) (by rfl) rfl ?_ ?_
   rotate_left
   ·go_simp
    rfl
   refine hK.out _ _ ?_
   clear hK K
   refine qA 4 (some 6) ?_
   refine done_ (done_of HT_.out kr) ?_
   go_wp2
   have bz:=blk_put (cs':=#[.int .i64 b.f0,.int .i64 b.f1,.int .i64 b.f2,.slice A3 b.f3.length c3]) (blk_put (cs':=#[.int .i64 b.f0,.int .i64 b.f1,.int .i64 b.f2,.slice none 0 0]) (blk_put (cs':=#[.int .i64 b.f0,.int .i64 b.f1,.int .i64 0,.slice none 0 0]) (blk_put (cs':=#[.int .i64 b.f0,.int .i64 0,.int .i64 0,.slice none 0 0]) (HR5.out) 0 (.int .i64 b.f0) rfl) 1 (.int .i64 b.f1) rfl) 2 (.int .i64 b.f2) rfl) 3 (.slice A3 b.f3.length c3) rfl
   have z0:=bd bz 0
   have z1:=bd bz 1
   have z2:=bd bz 2
   have z3:=bd bz 3
   obtain ⟨y1,r1⟩:=HY5.out.set_bad (j:=0) HBD.out (.int .i64 b.f0)
   obtain ⟨y2,r2⟩:=y1.set_bad (j:=1) HBD.out (.int .i64 b.f1)
   obtain ⟨y3,r3⟩:=y2.set_bad (j:=2) HBD.out (.int .i64 b.f2)
   obtain ⟨y4,r4⟩:=y3.set_bad (j:=3) HBD.out (.slice A3 b.f3.length c3)
   refine bodyPost_ret (v:=.tuple #[.pointer (some ⟨L.g,0,none⟩),.agg #[.int .i64 b.f0,.int .i64 b.f1,.int .i64 b.f2,.slice A3 b.f3.length c3],.int .i64 0]) (by simp [results,Tryz.results83,go_sem,z0,z1,z2,z3,hu167]) rfl ⟨((((HB5.out).setCell (p:=⟨W.heap.size + 1,0,none⟩) (Nat.le_succ _) (.int .i64 b.f0)).setCell (p:=⟨W.heap.size + 1,1,none⟩) (Nat.le_succ _) (.int .i64 b.f1)).setCell (p:=⟨W.heap.size + 1,2,none⟩) (Nat.le_succ _) (.int .i64 b.f2)).setCell (p:=⟨W.heap.size + 1,3,none⟩) (Nat.le_succ _) (.slice A3 b.f3.length c3),?_⟩
   simp only [HFD.out]
   exact ⟨L,base,A3,c3,Nat.le_trans (by simp;omega) HBS.out,fun k h1 h2 => HBA.out k h1 (Nat.lt_of_lt_of_le h2 (by simp;omega)),rfl,y4,HL3.out,Foot_fr HF5.out (((r1.trans r2).trans r3).trans r4)⟩
theorem info89_ : (Tryz.prog.info? 89).map (fun i => (i.zero,i.size,i.bytes)) = some (some (.agg #[.int .i64 0,.int .i64 0,.int .i64 0]),k89.sz,24):=by kernel_rfl
set_option maxRecDepth 100000 in
set_option maxHeartbeats 1000000 in
theorem clone97_calls (A : Option Addr) (c : Nat) (l : List S89) (W : World) (ok : Nat → Prop) (hF : Kd.F k89 W ok A l.length l) (hc : l.length ≤ c) (hm : l.length ≤ 100000000) :
  Calls Tryz.prog 97 #[.slice A l.length c] W fun e W' => ∃ v,e = .returned v ∧ Below W.heap.size W W' ∧ (ft k89 W ok).R 89 W' W.heap.size (fun _ => True) v l:=by
 have q : ∀ (w : World) (a : Option Addr) (n c n' c' : Nat),(binOp .eql 55 (.slice a n c) (.slice none n' c')).run Tryz.prog w = .ok (.bool a.isNone) w:=fun w a n c n' c' => Lib.run_eql_slice_nil w _ _ a n c n' c' Tryz.underlying55
 have HF:=am hF
 have HC:=(Kd.F_now hF).2.2
 clear hF
 rcases A with _|ad
 ·have hl : l = []:=by
   rcases Nat.eq_zero_or_pos l.length with h|h
   ·exact List.eq_nil_of_length_eq_zero h
   ·obtain ⟨ad,h,_⟩:=HC h;cases h
  subst hl
  clear HC
  go_enter Tryz.func97,Tryz.ntmps97
  go_wp2
  go_ret
  exact ⟨_,rfl,Below.refl _ _,Kd.R_nil _ _ _ _ _⟩
 ·clear HC
  have HO:=am (show (ft k89 W ok).R 89 (W.alloc (.cells #[] 89)) W.heap.size (fun _ => True) (.slice (some ⟨W.heap.size,0,none⟩) 0 0) [] from ⟨fun _ _ => trivial,OwnRow.lit (ps:=[]) W W.heap.size (inner:=[]) (Reps.none _ _) (Nat.le_refl _) (by simp)⟩)
  have HB:=am (below_alloc (Below.refl W.heap.size W) (.cells #[] 89))
  have HX:=am (ReadsRow.imp_ (Kd.F_rows HF.out) (below_alloc (Below.refl _ _) (.cells #[] 89)) (fun _ _ h => h))
  go_enter Tryz.func97,Tryz.ntmps97
  go_wp2_with (at_builtin;go_loud (refine Kd.R_append_rows (ft k89 W ok) (Rr:=fun x c => Kd.FK k89 W ok x c) (w0:=W) (W:=W.alloc (.cells #[] 89)) W.heap.size rfl _ _ 55 89 (.agg #[.int .i64 0,.int .i64 0,.int .i64 0]) 24 rfl Tryz.underlying55 info89_ rfl (by show 0 < (k89 : Kd _).sz;decide) (by decide) (.slice (some ⟨W.heap.size,0,none⟩) 0 0) [] l (some ad) l.length c (fun _ => True) (fun _ => False) rfl rfl HO.out HX.out (fun _ _ h => h) (fun _ h => h.elim) (fun _ _ => trivial) HB.out (below_size HB.out) (by simp;omega) ?_;intro v1 w1 hs1 hb1 hg1 hat1;have HS1:=am hs1;have HB1:=am hb1;clear hs1 hb1 hg1 hat1))
  go_ret
  exact ⟨_,rfl,HB1.out,HS1.out⟩
def PartsPost (W : World) (r : Except (Int × Int) Yd) (id : Int) (e : Ending) (W' : World) : Prop :=
 Below W.heap.size W W' ∧ (match r with
 |.error x => e = .returned (.tuple #[.slice none 0 0,.int .i64 x.1])
 |.ok Y => (match Y.barrows.find? (isId id) with
  |none => e = .returned (.tuple #[.slice none 0 0,.int .i64 5])
  |some b => ∃ (A3 : Option Addr) (c3 : Nat),e = .returned (.tuple #[.slice A3 b.f3.length c3,.int .i64 0]) ∧ b.f3.length ≤ c3 ∧ Kd.C k89 W' A3 b.f3.length b.f3))
set_option maxRecDepth 100000 in
set_option maxHeartbeats 2000000 in
theorem barrow_calls (A A2 : Option Addr) (c c2 : Nat) (rooms : List Int) (stirs : List S84) (W : World) (lo : Nat) (hlo : lo ≤ W.heap.size) (hC : Kd.F (Kd.int .i64) W (fun k => k < lo) A rooms.length rooms) (hc : rooms.length ≤ c) (hS : Kd.C k84 W A2 stirs.length stirs) (hc2 : stirs.length ≤ c2) (id : Int) :
  Calls Tryz.prog 28 #[.agg #[.slice A rooms.length c,.slice A2 stirs.length c2],.int .i64 id] W fun e W' => PartsPost W (playedP rooms stirs stirs.length) id e W':=by
 have hu:=Tryz.underlying32
 have hu167:=Tryz.underlying167
 have HC1:=am (Kd.F_alloc hC (.cells #[.slice A rooms.length c,.slice A2 stirs.length c2] 32))
 have HS1:=am (Kd.C_alloc hS (.cells #[.slice A rooms.length c,.slice A2 stirs.length c2] 32))
 have HB1:=am (below_alloc (Below.refl W.heap.size W) (.cells #[.slice A rooms.length c,.slice A2 stirs.length c2] 32))
 clear hC hS
 obtain ⟨r,hr⟩ : ∃ r,r = playedP rooms stirs stirs.length:=⟨_,rfl⟩
 rw [← hr]
 have HP:=am hr.symm
 clear hr
 go_enter Tryz.func28,Tryz.ntmps28
 go_wp2_with fail
 refine (barrowOf_calls A A2 c c2 rooms stirs _ lo (Nat.le_trans hlo (by simp)) HC1.out hc HS1.out hc2 id).mono ?_
 rintro e w1 ⟨hb,h⟩
 rw [HP.out] at h
 have HB2:=am (below_then HB1.out (below_size HB1.out) hb)
 clear hb
 cases r with
|error x =>
  subst h
  have hx : ¬ x.1 = 0:=playedP_code HP.out
  go_wp2
  go_ret2
  exact ⟨below_alloc HB2.out _,rfl⟩
|ok Y =>
  cases hf : Y.barrows.find? (isId id) with
 |none =>
   have HF:=am hf
   simp only [hf] at h
   clear hf
   subst h
   go_wp2
   go_ret2
   refine ⟨below_alloc HB2.out _,?_⟩
   simp only [HF.out]
   rfl
 |some b =>
   have HF:=am hf
   simp only [hf] at h
   clear hf
   obtain ⟨L,base,A3,c3,hbase,hbad,rfl,hY,hl3,hF3⟩:=h
   have HWF:=am (played_ok HP.out).2.2.1
   have HLB:=am (show b.f3.length ≤ 60 from by have:=(HWF.out.barrows b (List.mem_of_find?_eq_some HF.out)).par.len;exact this)
   have HY:=am hY
   have HL3:=am hl3
   have HF4:=am (Kd.F_alloc hF3 (.cells #[.int .i64 b.f0,.int .i64 b.f1,.int .i64 b.f2,.slice A3 b.f3.length c3] 167))
   have HB3:=am (below_alloc HB2.out (.cells #[.int .i64 b.f0,.int .i64 b.f1,.int .i64 b.f2,.slice A3 b.f3.length c3] 167))
   have HY4:=am (hY.move (below_alloc (Below.refl _ _) (.cells #[.int .i64 b.f0,.int .i64 b.f1,.int .i64 b.f2,.slice A3 b.f3.length c3] 167)))
   clear hbase hbad hY hl3 hF3
   go_wp2_with fail
   refine (clone97_calls A3 c3 b.f3 _ L.Not HF4.out HL3.out (by have:=HLB.out;omega)).mono ?_
   rintro e w2 ⟨v,rfl,hb,hR⟩
   obtain ⟨A5,c5,rfl⟩:=Kd.R_slice hR
   have HB4:=am (below_then HB3.out (below_size HB3.out) hb)
   have HC5:=am (Kd.F_now (ft_F hR (fun k _ hlt => hb.block k hlt) (fun k hk => HY4.out.not_new (Kd.R_base hR k hk))))
   have HL5:=am (Kd.R_reads' hR).2.1
   clear hb hR
   go_wp2
   go_ret2
   refine ⟨HB4.out,?_⟩
   simp only [HF.out]
   exact ⟨A5,c5,rfl,HL5.out,HC5.out⟩
end Go.Proofs.YtjjfpmapjjemcaaGreat.B
end
