import Derived.Test.YtjjfpmapjjemcaaGreatQ10
import Derived.Test.YtjjfpmapjjemcaaGreatQ41
import Derived.Test.YtjjfpmapjjemcaaGreatQ42
import Derived.Test.YtjjfpmapjjemcaaGreatQ45
import Derived.Test.YtjjfpmapjjemcaaGreatQ47
import Derived.Test.YtjjfpmapjjemcaaGreatQ7
set_option linter.unusedVariables false
set_option linter.unusedSimpArgs false
section
namespace Go.Proofs.YtjjfpmapjjemcaaGreat.B
open Go.RowKit Go.Proofs.YtjjfpmapjjemcaaGreatW.PrintWords Go.Proofs.YtjjfpmapjjemcaaGreatW.PrintLast Go.Proofs.YtjjfpmapjjemcaaGreatW.PrintMore
attribute [local go_sem] max2_int min2_int max_two min_two max_three min_three max_four min_four
def R36_18.T : Bool × List (List Nat × List Nat):=(true,[([],[]),([],[]),([],[]),([0,0],[0]),([1,3,0,1,3],[1]),([2,4,0,1,2,3,4],[2]),([5,0,1,2,3,4,5],[])])
def R36_18.B : List Nat:=[0,0,0,1,11,31,63]
theorem R36_18.tab : rtab .any (opsOf Tryz.f36 18) = R36_18.T:=by kernel_rfl
theorem R36_18.bits : waitsOk R36_18.T.2 R36_18.B = true:=by kernel_rfl
def wentP (bs : List S167) (pour : Int) : List S89:=(bs.filter fun b => decide ((partP b pour).f0 > 0)).map fun b => ⟨b.f0,partP b pour⟩
theorem wentP_snoc {bs : List S167} {pour : Int} {j : Nat} (h : j < bs.length) : wentP (bs.take (j + 1)) pour = wentP (bs.take j) pour ++ (if (partP (rd_T167 bs (j : Int)) pour).f0 > 0 then [⟨(rd_T167 bs (j : Int)).f0,partP (rd_T167 bs (j : Int)) pour⟩] else []):=by
 rw [List.take_succ_eq_append_getElem h]
 have hrd : rd_T167 bs (j : Int) = bs[j]:=by unfold rd_T167;rw [Int.toNat_natCast,List.getD_eq_getElem?_getD,List.getElem?_eq_getElem h];rfl
 rw [hrd]
 unfold wentP
 rw [List.filter_append,List.map_append,List.filter_cons,List.filter_nil]
 by_cases hp : (partP bs[j] pour).f0 > 0
 ·simp [hp]
 ·simp [hp]
theorem wentP_len (bs : List S167) (pour : Int) : (wentP bs pour).length ≤ bs.length:=by unfold wentP;rw [List.length_map];exact List.length_filter_le _ _
def idR (r : S43) : S43:=r
def leftP (Y : Yd) (pour : Int) : Option S43:=totalP idR (ofL pour (partsP Y.pits.flatten))
def lostP (Y : Yd) (pour : Int) : Option S43:=totalP idR (ofL pour (partsP Y.lost))
def fateE (r : Except (Int × Int) Yd) (pour : Int) : List S89 × S43 × S43 × Int:=match r with
|.error x => ([],⟨0,0⟩,⟨0,0⟩,x.1)
|.ok Y => if pour ∈ Y.pours then (if (leftP Y pour).isSome = true then (if (lostP Y pour).isSome = true then (wentP Y.barrows pour,(leftP Y pour).getD ⟨0,0⟩,(lostP Y pour).getD ⟨0,0⟩,0) else ([],⟨0,0⟩,⟨0,0⟩,3)) else ([],⟨0,0⟩,⟨0,0⟩,3)) else ([],⟨0,0⟩,⟨0,0⟩,5)
def FatePost (W : World) (q : List S89 × S43 × S43 × Int) (e : Ending) (W' : World) : Prop :=
 Below W.heap.size W W' ∧ ∃ (A3 : Option Addr) (c3 : Nat),e = .returned (.tuple #[.slice A3 q.1.length c3,.agg #[ii q.2.1.f0,ii q.2.1.f1],.agg #[ii q.2.2.1.f0,ii q.2.2.1.f1],ii q.2.2.2]) ∧ q.1.length ≤ c3 ∧ Kd.F k89 W' (fun k => W.heap.size ≤ k) A3 q.1.length q.1
theorem flat_len : ∀ (l : List (List S212)),(∀ p ∈ l,p.length ≤ 4096) → l.flatten.length ≤ 4096 * l.length
|[],_ => by simp
|p :: l,h => by
  have h1:=h p List.mem_cons_self
  have h2:=flat_len l fun q hq => h q (List.mem_cons_of_mem _ hq)
  simp only [List.flatten_cons,List.length_append,List.length_cons]
  omega
theorem Wf.flat {n : Nat} {Y : Yd} (hw : Wf n Y) : Y.pits.flatten.length ≤ 24576 ∧ ∀ p ∈ Y.pits.flatten,ParcelOk Y.pours p:=by
 have h1 : ∀ p ∈ Y.pits,p.length ≤ 4096:=by
  intro p hp
  obtain ⟨i,hi,rfl⟩:=List.getElem_of_mem hp
  have hr : i < Y.rooms.length:=by rw [← hw.plen];exact hi
  have h2:=hw.held i hr
  rw [List.getD_eq_getElem?_getD,List.getElem?_eq_getElem hi] at h2
  have h3:=heldP_nonneg (l:=Y.pits[i]) fun p hp => (hw.parcels _ (List.getElem_mem hi) p hp).lo
  have h4:=(hw.rooms (Y.rooms.getD i 0) (getD_mem_ hr)).2
  simp only [Option.getD_some] at h2
  omega
 have h5:=flat_len Y.pits h1
 have h6:=hw.plen
 have h7:=hw.r6
 refine ⟨by omega,fun p hp => ?_⟩
 obtain ⟨q,hq,hpq⟩:=List.mem_flatten.1 hp
 exact hw.parcels q hq p hpq
theorem own_calls (r : S43) (w : World) : Calls Tryz.prog 117 (#[.agg #[ii r.f0,ii r.f1]] ++ #[]) w fun e w' => e = .returned (.agg #[ii (idR r).f0,ii (idR r).f1]) ∧ Below w.heap.size w w':=pit_own.calls r.f0 r.f1 _ _ w rfl
theorem C_of_ft {α : Type} {d : Kd α} {W w : World} {ok : Nat → Prop} {A : Option Addr} {n : Nat} {xs : List α} (h : Kd.C (ft d W ok) w A n xs) (hm : ∀ k,ok k → k < W.heap.size → w.heap[k]? = W.heap[k]?) : Kd.C d w A n xs :=
 ReadsRow.imp_ h (Below.refl _ _) (fun _ _ (hp : Kd.FK d W ok _ _) => hp w hm)
theorem R89_far {w : World} {N : Nat} {ok : Nat → Prop} {v : Value} {l : List S89} (h : k89.R 89 w N ok v l) (p : Addr) (hp : p.block < N) (u : Value) : k89.R 89 (w.setCell p u) N ok v l :=
 R_own_move rfl h fun k hk => Below.heap_setCell w p u k (fun e => by have:=Kd.R_base h k hk;omega)
set_option maxRecDepth 100000 in
set_option maxHeartbeats 1000000 in
theorem fate_calls (A A2 : Option Addr) (c c2 : Nat) (rooms : List Int) (stirs : List S84) (W : World) (lo : Nat) (hlo : lo ≤ W.heap.size) (hC : Kd.F (Kd.int .i64) W (fun k => k < lo) A rooms.length rooms) (hc : rooms.length ≤ c) (hS : Kd.C k84 W A2 stirs.length stirs) (hc2 : stirs.length ≤ c2) (pour : Int) :
  Calls Tryz.prog 36 #[.agg #[.slice A rooms.length c,.slice A2 stirs.length c2],ii pour] W fun e W' => FatePost W (fateE (playedP rooms stirs stirs.length) pour) e W':=by
 have hu:=Tryz.underlying32
 have hu167:=Tryz.underlying167
 have hu43:=Tryz.underlying43
 have hu89:=Tryz.underlying89
 have ek117 : ∀ args w,(callFunc 117 args).run Tryz.prog w = .ok (.enter 117 args) w:=enters_of Tryz.func117 kr rfl
 have HC:=am (hC)
 have HS:=am (hS)
 have HB:=am (Below.refl W.heap.size W)
 have HC1:=am (Kd.F_alloc HC.out (.cells #[.slice A rooms.length c,.slice A2 stirs.length c2] 32))
 have HS1:=am (Kd.C_alloc HS.out (.cells #[.slice A rooms.length c,.slice A2 stirs.length c2] 32))
 have HB1:=am (below_alloc HB.out (.cells #[.slice A rooms.length c,.slice A2 stirs.length c2] 32))
 have HC2:=am (Kd.F_alloc HC1.out (.cells #[ii 0,ii 0] 43))
 have HS2:=am (Kd.C_alloc HS1.out (.cells #[ii 0,ii 0] 43))
 have HB2:=am (below_alloc HB1.out (.cells #[ii 0,ii 0] 43))
 have HR:=am (blk_new' (W.alloc (.cells #[.slice A rooms.length c,.slice A2 stirs.length c2] 32)) (.cells #[ii 0,ii 0] 43) (W.heap.size + 1) (by simp))
 have HC3:=am (Kd.F_alloc HC2.out (.cells #[ii 0,ii 0] 43))
 have HS3:=am (Kd.C_alloc HS2.out (.cells #[ii 0,ii 0] 43))
 have HB3:=am (below_alloc HB2.out (.cells #[ii 0,ii 0] 43))
 have HR1:=am (blk_alloc HR.out (.cells #[ii 0,ii 0] 43))
 have HT:=am (blk_new' ((W.alloc (.cells #[.slice A rooms.length c,.slice A2 stirs.length c2] 32)).alloc (.cells #[ii 0,ii 0] 43)) (.cells #[ii 0,ii 0] 43) (W.heap.size + 1 + 1) (by simp))
 clear hC hS
 obtain ⟨r,hr⟩ : ∃ r,r = playedP rooms stirs stirs.length:=⟨_,rfl⟩
 rw [← hr]
 have HQP:=am hr.symm
 clear hr
 obtain ⟨q,hq⟩ : ∃ q,q = fateE r pour:=⟨_,rfl⟩
 rw [← hq]
 have HQ:=am hq
 clear hq
 go_enter Tryz.func36,Tryz.ntmps36
 go_wp2_with fail
 refine (all_calls A A2 c c2 rooms stirs _ lo (Nat.le_trans hlo (by simp;omega)) HC3.out hc HS3.out hc2).mono ?_
 rintro e w1 ⟨hb,h⟩
 rw [HQP.out] at h
 have HB4:=am (below_then HB3.out (below_size HB3.out) hb)
 have HR2:=am (blk_below HR1.out hb)
 have HT1:=am (blk_below HT.out hb)
 clear hb
 cases r with
|error x =>
  subst h
  have hx : ¬ x.1 = 0:=playedP_code HQP.out
  have HE:=am (show q = ([],⟨0,0⟩,⟨0,0⟩,x.1) by rw [HQ.out];rfl)
  have u0:=bd HR2.out 0
  have fu0:=blk_frozen HR2.out 0
  have u1:=bd HR2.out 1
  have fu1:=blk_frozen HR2.out 1
  have v0:=bd HT1.out 0
  have fv0:=blk_frozen HT1.out 0
  have v1:=bd HT1.out 1
  have fv1:=blk_frozen HT1.out 1
  go_wp2
  rw [HE.out]
  have by_:=blk_far (p:=⟨W.heap.size + 1 + 1,1,none⟩) (blk_far (p:=⟨W.heap.size + 1 + 1,0,none⟩) (blk_put (cs':=#[ii 0,ii 0]) (blk_put (cs':=#[ii 0,ii 0]) (HR2.out) 0 (ii 0) rfl) 1 (ii 0) rfl) (by simp) (ii 0)) (by simp) (ii 0)
  have bz:=blk_put (cs':=#[ii 0,ii 0]) (blk_put (cs':=#[ii 0,ii 0]) (blk_far (p:=⟨W.heap.size + 1,1,none⟩) (blk_far (p:=⟨W.heap.size + 1,0,none⟩) (HT1.out) (by simp) (ii 0)) (by simp) (ii 0)) 0 (ii 0) rfl) 1 (ii 0) rfl
  have y0:=bd by_ 0
  have y1:=bd by_ 1
  have z0:=bd bz 0
  have z1:=bd bz 1
  exact bodyPost_ret (v:=.tuple #[.slice none 0 0,.agg #[ii 0,ii 0],.agg #[ii 0,ii 0],ii x.1]) (by simp [results,Tryz.results36,go_sem,y0,y1,z0,z1,hu43]) rfl ⟨((((HB4.out).setCell (p:=⟨W.heap.size + 1,0,none⟩) (by first|(simp;done)|(simp;omega)) (ii 0)).setCell (p:=⟨W.heap.size + 1,1,none⟩) (by first|(simp;done)|(simp;omega)) (ii 0)).setCell (p:=⟨W.heap.size + 1 + 1,0,none⟩) (by first|(simp;done)|(simp;omega)) (ii 0)).setCell (p:=⟨W.heap.size + 1 + 1,1,none⟩) (by first|(simp;done)|(simp;omega)) (ii 0),none,0,rfl,Nat.le_refl 0,Kd.F_nil k89 _ _⟩
|ok Y =>
  obtain ⟨L,base,hbase,hbad,rfl,hY⟩:=h
  have HWF:=am (played_wf HQP.out)
  have HSL:=am (played_ok HQP.out).2.1
  have HY:=am (hY)
  clear hbase hbad hY
  obtain ⟨k,hk⟩ : ∃ k,k = decide (pour ∈ Y.pours):=⟨_,rfl⟩
  have HK:=am hk
  clear hk
  go_wp2_with fail
  refine (known_calls HY.out HWF.out HSL.out pour).mono ?_
  rintro e w2 ⟨rfl,hb⟩
  rw [← HK.out]
  have HB5:=am (below_then HB4.out (below_size HB4.out) hb)
  have HR3:=am (blk_below HR2.out hb)
  have HT2:=am (blk_below HT1.out hb)
  have HY1:=am (HY.out.move hb)
  clear hb
  cases k with
 |false =>
   have HE:=am (show q = ([],⟨0,0⟩,⟨0,0⟩,5) by rw [HQ.out];unfold fateE;simp only [];rw [if_neg (of_decide_eq_false HK.out.symm)])
   have u0:=bd HR3.out 0
   have fu0:=blk_frozen HR3.out 0
   have u1:=bd HR3.out 1
   have fu1:=blk_frozen HR3.out 1
   have v0:=bd HT2.out 0
   have fv0:=blk_frozen HT2.out 0
   have v1:=bd HT2.out 1
   have fv1:=blk_frozen HT2.out 1
   go_wp2
   rw [HE.out]
   have by_:=blk_far (p:=⟨W.heap.size + 1 + 1,1,none⟩) (blk_far (p:=⟨W.heap.size + 1 + 1,0,none⟩) (blk_put (cs':=#[ii 0,ii 0]) (blk_put (cs':=#[ii 0,ii 0]) (HR3.out) 0 (ii 0) rfl) 1 (ii 0) rfl) (by simp) (ii 0)) (by simp) (ii 0)
   have bz:=blk_put (cs':=#[ii 0,ii 0]) (blk_put (cs':=#[ii 0,ii 0]) (blk_far (p:=⟨W.heap.size + 1,1,none⟩) (blk_far (p:=⟨W.heap.size + 1,0,none⟩) (HT2.out) (by simp) (ii 0)) (by simp) (ii 0)) 0 (ii 0) rfl) 1 (ii 0) rfl
   have y0:=bd by_ 0
   have y1:=bd by_ 1
   have z0:=bd bz 0
   have z1:=bd bz 1
   exact bodyPost_ret (v:=.tuple #[.slice none 0 0,.agg #[ii 0,ii 0],.agg #[ii 0,ii 0],ii 5]) (by simp [results,Tryz.results36,go_sem,y0,y1,z0,z1,hu43]) rfl ⟨((((HB5.out).setCell (p:=⟨W.heap.size + 1,0,none⟩) (by first|(simp;done)|(simp;omega)) (ii 0)).setCell (p:=⟨W.heap.size + 1,1,none⟩) (by first|(simp;done)|(simp;omega)) (ii 0)).setCell (p:=⟨W.heap.size + 1 + 1,0,none⟩) (by first|(simp;done)|(simp;omega)) (ii 0)).setCell (p:=⟨W.heap.size + 1 + 1,1,none⟩) (by first|(simp;done)|(simp;omega)) (ii 0),none,0,rfl,Nat.le_refl 0,Kd.F_nil k89 _ _⟩
 |true =>
   have HQ1:=am (show q = (if (leftP Y pour).isSome = true then (if (lostP Y pour).isSome = true then (wentP Y.barrows pour,(leftP Y pour).getD ⟨0,0⟩,(lostP Y pour).getD ⟨0,0⟩,0) else ([],⟨0,0⟩,⟨0,0⟩,3)) else ([],⟨0,0⟩,⟨0,0⟩,3)) by rw [HQ.out];unfold fateE;simp only [];rw [if_pos (of_decide_eq_true HK.out.symm)])
   obtain ⟨Ab,cb,hb,hlb,hCb⟩:=Kd.R_reads HY1.out.barrows
   have HCB:=am (show Kd.C k167 w2 Ab Y.barrows.length Y.barrows from hCb.imp_ (Below.refl _ _) fun _ _ hp => Foot.now hp)
   have hmb:=hCb.2.1
   have g4 : w2.cell? ⟨L.g,4,none⟩ = some (.slice Ab Y.barrows.length cb):=(blk_cell HY1.out.blk 4).trans (by rw [← hb];rfl)
   clear hb hlb hCb
   have HLW:=am (blk_lt HT2.out)
   have hnb:=HWF.out.nbarrows
   have hsl:=HSL.out
   go_wp2
   clear g4
   go_loopw [10,39] (fun v10 v39 wr => ∃ (j : Nat),j ≤ Y.barrows.length ∧ v39 = ii (j : Int) ∧ Aside0 (Below w2.heap.size w2 wr) ∧ Aside0 (k89.R 89 wr w2.heap.size (fun _ => True) v10 (wentP (Y.barrows.take j) pour))) (fun _ v39 _ => Y.barrows.length - (intOf v39).toNat)
   case atStart => exact ⟨0,Nat.zero_le _,rfl,⟨Below.refl _ _⟩,⟨Kd.R_nil _ _ _ _ _⟩⟩
   case round =>
    obtain ⟨j,hj,rfl,HN,HV⟩:=hrel
    obtain ⟨qq,hqq⟩ : ∃ qq,qq = wentP (Y.barrows.take j) pour:=⟨_,rfl⟩
    have hql : qq.length ≤ j:=by rw [hqq];exact Nat.le_trans (wentP_len _ _) (by rw [List.length_take];omega)
    rw [← hqq] at HV
    have HQQ:=am hqq
    clear hqq
    obtain ⟨Av,cv,rfl⟩:=Kd.R_slice HV.out
    have HQL:=am hql
    clear hql
    by_cases hlt : j < Y.barrows.length
    ·
     have HT9:=am (wentP_snoc (pour:=pour) hlt)
     rw [← HQQ.out] at HT9
     obtain ⟨ae,A3,c3,e,hx0,hx1,hx2,hx3,hl3,hC3⟩:=at_T167 (Kd.C_below HCB.out HN.out) (j : Int) (by omega) (by omega)
     cases e
     rw [Int.toNat_natCast] at hx0 hx1 hx2 hx3
     have hmem : rd_T167 Y.barrows (j : Int) ∈ Y.barrows:=getD_mem_ hlt
     have HBL:=am (show (rd_T167 Y.barrows (j : Int)).f3.length ≤ 60 from (HWF.out.barrows _ hmem).par.len)
     obtain ⟨b,hb⟩ : ∃ b,b = rd_T167 Y.barrows (j : Int):=⟨_,rfl⟩
     rw [← hb] at hx0 hx1 hx2 hx3 hl3 hC3 HT9 HBL
     clear hb hmem
     have HG:=am (hC3)
     have HL3:=am hl3
     clear hC3 hl3
     have HPS:=am (part_some b pour (by have:=HBL.out;omega))
     obtain ⟨n,hn⟩ : ∃ n,n = partP b pour:=⟨_,rfl⟩
     rw [← hn] at HPS HT9
     clear hn
     have HN1:=am (below_alloc HN.out (.cells #[ii b.f0,ii b.f1,ii b.f2,.slice A3 b.f3.length c3] 167))
     have HV1:=am (Kd.R_alloc HV.out (.cells #[ii b.f0,ii b.f1,ii b.f2,.slice A3 b.f3.length c3] 167))
     have HG1:=am (Kd.C_alloc HG.out (.cells #[ii b.f0,ii b.f1,ii b.f2,.slice A3 b.f3.length c3] 167))
     have HX:=am (blk_new wr (.cells #[ii b.f0,ii b.f1,ii b.f2,.slice A3 b.f3.length c3] 167))
     go_wp2_with fail
     refine (pit_barrow_part.calls FU _ _ _ _ _ _ _ _ _ _ HG1.out HL3.out HPS.out).mono ?_
     rintro e w5 ⟨rfl,hb⟩
     have HN2:=am (below_then HN1.out (below_size HN1.out) hb)
     have HV2:=am (Kd.R_below HV1.out hb)
     have HX1:=am (blk_below HX.out hb)
     clear hb hx0 hx1 hx2 hx3
     have HN3:=am (below_alloc HN2.out (.cells #[ii n.f0,ii n.f1] 43))
     have HV3:=am (Kd.R_alloc HV2.out (.cells #[ii n.f0,ii n.f1] 43))
     have HX2:=am (blk_alloc HX1.out (.cells #[ii n.f0,ii n.f1] 43))
     by_cases hn0 : n.f0 > 0
     ·
      have g0:=bd HX2.out 0
      have HZ:=am (HN3.out.size)
      have HGT:=am hn0
      go_wp2_with (at_builtin;refine Kd.R_append k89 (w0:=w2) w2.heap.size rfl _ _ 55 89 (.agg #[ii 0,ii 0,ii 0]) 24 rfl Tryz.underlying55 info89 rfl (by decide) (by decide) (.slice Av qq.length cv) qq ⟨b.f0,n⟩ [ii b.f0,ii n.f0,ii n.f1] (fun _ => True) (fun _ => False) rfl (by rw [show (w5.alloc (.cells #[ii n.f0,ii n.f1] 43)).heap.size = w5.heap.size + 1 by simp];rfl) (k89_mkM _ _ _ ⟨b.f0,n⟩) (fun _ h => h.elim) (fun _ _ => trivial) HV3.out HN3.out HZ.out (by have:=HQL.out;omega) ?_;intro v3 w8 hr3 hb3 hg3 hat3;have HR3:=am hr3;have HB3:=am hb3;clear hr3 hb3 hg3 hat3 g0)
      go_roundw
      case rel => exact ⟨j + 1,by omega,by go_num,HB3,⟨by rw [HT9.out,if_pos HGT.out];exact HR3.out⟩⟩
      case measure => simp [intOf];omega
     ·
      have HGT:=am hn0
      go_wp2
      go_roundw
      case rel => exact ⟨j + 1,by omega,by go_num,HN3,⟨by rw [HT9.out,if_neg (by have:=HGT.out;omega),List.append_nil];exact HV3.out⟩⟩
      case measure => simp [intOf];omega
    ·
     have hje : j = Y.barrows.length:=by omega
     have HW9:=am (show qq = wentP Y.barrows pour by rw [HQQ.out,hje,List.take_length])
     have HR9:=am (blk_below HR3.out HN.out)
     have HT9:=am (blk_below HT2.out HN.out)
     have HB9:=am (below_then HB5.out (below_size HB5.out) HN.out)
     have HY9:=am (HY1.out.move HN.out)
     have HV9:=am HV.out
     clear HN HV hje
     have HPF:=am HWF.out.flat
     have HL0:=am (show (partsP Y.pits.flatten).length ≤ 10000000 from by have h1:=partsP_len HPF.out.2;have h2:=HPF.out.1;omega)
     obtain ⟨Ap,cp,hp,hlp,hCp⟩:=Kd.R_reads HY9.out.pits
     have g1 : wr.cell? ⟨L.g,1,none⟩ = some (.slice Ap Y.pits.length cp):=(blk_cell HY9.out.blk 1).trans (by rw [← hp];rfl)
     have HCP:=am hCp
     have HLP:=am hlp
     clear hp hlp hCp
     go_wp2_with fail
     refine (concat_calls Ap cp Y.pits wr L.Not HCP.out HLP.out (by have:=HPF.out.1;omega)).mono ?_
     rintro e w6 ⟨v,rfl,hb,hR⟩
     obtain ⟨fl,hfl⟩ : ∃ fl,fl = Y.pits.flatten:=⟨_,rfl⟩
     rw [← hfl] at hR HPF HL0
     have HFL:=am hfl
     clear hfl
     obtain ⟨A6,c6,rfl⟩:=Kd.R_slice hR
     have HC6:=am (C_of_ft (Kd.R_reads' hR).2.2 (fun k _ hlt => hb.block k hlt))
     have HL6:=am (Kd.R_reads' hR).2.1
     have HR91:=am (blk_below HR9.out hb)
     have HT91:=am (blk_below HT9.out hb)
     have HB91:=am (below_then HB9.out (below_size HB9.out) hb)
     have HY91:=am (HY9.out.move hb)
     have HV91:=am (Kd.R_below HV9.out hb)
     clear hb hR g1
     go_wp2_with fail
     refine (of_calls w6 A6 c6 fl pour HC6.out HL6.out HL0.out).mono ?_
     rintro e w7 ⟨hb,A7,c7,rfl,hl7,hC7⟩
     have HC7:=am hC7
     have HL7:=am hl7
     have HR92:=am (blk_below HR91.out hb)
     have HT92:=am (blk_below HT91.out hb)
     have HB92:=am (below_then HB91.out (below_size HB91.out) hb)
     have HY92:=am (HY91.out.move hb)
     have HV92:=am (Kd.R_below HV91.out hb)
     clear hb hC7 hl7
     go_wp2_with fail
     refine (total114_calls A7 c7 (ofL pour (partsP fl)) idR 117 #[] (fun _ => True) w7 HC7.out HL7.out ek117 trivial (fun _ _ _ _ => trivial) (fun r w _ _ => own_calls r w)).mono ?_
     rintro e w8 ⟨rfl,hb⟩
     rw [totalE_eq]
     have HR93:=am (blk_below HR92.out hb)
     have HT93:=am (blk_below HT92.out hb)
     have HB93:=am (below_then HB92.out (below_size HB92.out) hb)
     have HY93:=am (HY92.out.move hb)
     have HV93:=am (Kd.R_below HV92.out hb)
     clear hb
     have HSZ8:=am (show W.heap.size + 1 + 1 < w8.heap.size from blk_lt HT93.out)
     obtain ⟨n1,hn1⟩ : ∃ n1,n1 = (leftP Y pour).getD ⟨0,0⟩:=⟨_,rfl⟩
     obtain ⟨k1,hk1⟩ : ∃ k1,k1 = (leftP Y pour).isSome:=⟨_,rfl⟩
     rw [show (totalP idR (ofL pour (partsP fl))).getD ⟨0,0⟩ = n1 from by rw [HFL.out];exact hn1.symm,show (totalP idR (ofL pour (partsP fl))).isSome = k1 from by rw [HFL.out];exact hk1.symm]
     have HN1:=am hn1
     have HK1:=am hk1
     clear hn1 hk1
     have HR94:=am (blk_alloc HR93.out (.cells #[ii n1.f0,ii n1.f1] 43))
     have HT94:=am (blk_alloc HT93.out (.cells #[ii n1.f0,ii n1.f1] 43))
     have HB94:=am (below_alloc HB93.out (.cells #[ii n1.f0,ii n1.f1] 43))
     have HY94:=am (HY93.out.move (below_alloc (Below.refl _ _) (.cells #[ii n1.f0,ii n1.f1] 43)))
     have HV94:=am (Kd.R_alloc HV93.out (.cells #[ii n1.f0,ii n1.f1] 43))
     have HP:=am (blk_new w8 (.cells #[ii n1.f0,ii n1.f1] 43))
     obtain ⟨Aq,cq,hp,hlp,hCq⟩:=Kd.R_reads HY94.out.lost
     have g5 : (w8.alloc (.cells #[ii n1.f0,ii n1.f1] 43)).cell? ⟨L.g,5,none⟩ = some (.slice Aq Y.lost.length cq):=(blk_cell HY94.out.blk 5).trans (by rw [← hp];rfl)
     have HCQ:=am (show Kd.C k212 (w8.alloc (.cells #[ii n1.f0,ii n1.f1] 43)) Aq Y.lost.length Y.lost from hCq.imp_ (Below.refl _ _) fun _ _ hp => Foot.now hp)
     have HLQ:=am hlp
     clear hp hlp hCq
     have HLO:=am (show (partsP Y.lost).length ≤ 10000000 from by have h1:=partsP_len HWF.out.lost;have h2:=HWF.out.nlost;have h3:=HSL.out;omega)
     go_wp2_with fail
     refine (of_calls (w8.alloc (.cells #[ii n1.f0,ii n1.f1] 43)) Aq cq Y.lost pour HCQ.out HLQ.out HLO.out).mono ?_
     rintro e w9 ⟨hb,A8,c8,rfl,hl8,hC8⟩
     have HC8:=am hC8
     have HL8:=am hl8
     have HR95:=am (blk_below HR94.out hb)
     have HT95:=am (blk_below HT94.out hb)
     have HB95:=am (below_then HB94.out (below_size HB94.out) hb)
     have HV95:=am (Kd.R_below HV94.out hb)
     have HP1:=am (blk_below HP.out hb)
     clear hb hC8 hl8 g5
     go_wp2_with fail
     refine (total114_calls A8 c8 (ofL pour (partsP Y.lost)) idR 117 #[] (fun _ => True) w9 HC8.out HL8.out ek117 trivial (fun _ _ _ _ => trivial) (fun r w _ _ => own_calls r w)).mono ?_
     rintro e w10 ⟨rfl,hb⟩
     rw [totalE_eq]
     have HR96:=am (blk_below HR95.out hb)
     have HT96:=am (blk_below HT95.out hb)
     have HB96:=am (below_then HB95.out (below_size HB95.out) hb)
     have HV96:=am (Kd.R_below HV95.out hb)
     have HP2:=am (blk_below HP1.out hb)
     clear hb
     have HSZ9:=am (show w8.heap.size < w10.heap.size from blk_lt HP2.out)
     obtain ⟨n2,hn2⟩ : ∃ n2,n2 = (lostP Y pour).getD ⟨0,0⟩:=⟨_,rfl⟩
     obtain ⟨k2,hk2⟩ : ∃ k2,k2 = (lostP Y pour).isSome:=⟨_,rfl⟩
     rw [show (totalP idR (ofL pour (partsP Y.lost))).getD ⟨0,0⟩ = n2 from hn2.symm,show (totalP idR (ofL pour (partsP Y.lost))).isSome = k2 from hk2.symm]
     have HN2:=am hn2
     have HK2:=am hk2
     clear hn2 hk2
     have HR97:=am (blk_alloc HR96.out (.cells #[ii n2.f0,ii n2.f1] 43))
     have HT97:=am (blk_alloc HT96.out (.cells #[ii n2.f0,ii n2.f1] 43))
     have HB97:=am (below_alloc HB96.out (.cells #[ii n2.f0,ii n2.f1] 43))
     have HV97:=am (Kd.R_alloc HV96.out (.cells #[ii n2.f0,ii n2.f1] 43))
     have HP3:=am (blk_alloc HP2.out (.cells #[ii n2.f0,ii n2.f1] 43))
     have HH:=am (blk_new w10 (.cells #[ii n2.f0,ii n2.f1] 43))
     cases k1 with
    |false =>
      have HE:=am (show q = ([],⟨0,0⟩,⟨0,0⟩,3) by rw [HQ1.out];rw [if_neg (by rw [← HK1.out];simp)])
      have u0:=bd HR97.out 0
      have fu0:=blk_frozen HR97.out 0
      have u1:=bd HR97.out 1
      have fu1:=blk_frozen HR97.out 1
      have v0:=bd HT97.out 0
      have fv0:=blk_frozen HT97.out 0
      have v1:=bd HT97.out 1
      have fv1:=blk_frozen HT97.out 1
      go_wp2
      rw [HE.out]
      have by_:=blk_far (p:=⟨W.heap.size + 1 + 1,1,none⟩) (blk_far (p:=⟨W.heap.size + 1 + 1,0,none⟩) (blk_put (cs':=#[ii 0,ii 0]) (blk_put (cs':=#[ii 0,ii 0]) (HR97.out) 0 (ii 0) rfl) 1 (ii 0) rfl) (by simp) (ii 0)) (by simp) (ii 0)
      have bz:=blk_put (cs':=#[ii 0,ii 0]) (blk_put (cs':=#[ii 0,ii 0]) (blk_far (p:=⟨W.heap.size + 1,1,none⟩) (blk_far (p:=⟨W.heap.size + 1,0,none⟩) (HT97.out) (by simp) (ii 0)) (by simp) (ii 0)) 0 (ii 0) rfl) 1 (ii 0) rfl
      have y0:=bd by_ 0
      have y1:=bd by_ 1
      have z0:=bd bz 0
      have z1:=bd bz 1
      exact bodyPost_ret (v:=.tuple #[.slice none 0 0,.agg #[ii 0,ii 0],.agg #[ii 0,ii 0],ii 3]) (by simp [results,Tryz.results36,go_sem,y0,y1,z0,z1,hu43]) rfl ⟨((((HB97.out).setCell (p:=⟨W.heap.size + 1,0,none⟩) (by first|(simp;done)|(simp;omega)) (ii 0)).setCell (p:=⟨W.heap.size + 1,1,none⟩) (by first|(simp;done)|(simp;omega)) (ii 0)).setCell (p:=⟨W.heap.size + 1 + 1,0,none⟩) (by first|(simp;done)|(simp;omega)) (ii 0)).setCell (p:=⟨W.heap.size + 1 + 1,1,none⟩) (by first|(simp;done)|(simp;omega)) (ii 0),none,0,rfl,Nat.le_refl 0,Kd.F_nil k89 _ _⟩
    |true =>
      cases k2 with
     |false =>
       have HE:=am (show q = ([],⟨0,0⟩,⟨0,0⟩,3) by rw [HQ1.out];rw [if_pos HK1.out.symm,if_neg (by rw [← HK2.out];simp)])
       have u0:=bd HR97.out 0
       have fu0:=blk_frozen HR97.out 0
       have u1:=bd HR97.out 1
       have fu1:=blk_frozen HR97.out 1
       have v0:=bd HT97.out 0
       have fv0:=blk_frozen HT97.out 0
       have v1:=bd HT97.out 1
       have fv1:=blk_frozen HT97.out 1
       go_wp2
       rw [HE.out]
       have by_:=blk_far (p:=⟨W.heap.size + 1 + 1,1,none⟩) (blk_far (p:=⟨W.heap.size + 1 + 1,0,none⟩) (blk_put (cs':=#[ii 0,ii 0]) (blk_put (cs':=#[ii 0,ii 0]) (HR97.out) 0 (ii 0) rfl) 1 (ii 0) rfl) (by simp) (ii 0)) (by simp) (ii 0)
       have bz:=blk_put (cs':=#[ii 0,ii 0]) (blk_put (cs':=#[ii 0,ii 0]) (blk_far (p:=⟨W.heap.size + 1,1,none⟩) (blk_far (p:=⟨W.heap.size + 1,0,none⟩) (HT97.out) (by simp) (ii 0)) (by simp) (ii 0)) 0 (ii 0) rfl) 1 (ii 0) rfl
       have y0:=bd by_ 0
       have y1:=bd by_ 1
       have z0:=bd bz 0
       have z1:=bd bz 1
       exact bodyPost_ret (v:=.tuple #[.slice none 0 0,.agg #[ii 0,ii 0],.agg #[ii 0,ii 0],ii 3]) (by simp [results,Tryz.results36,go_sem,y0,y1,z0,z1,hu43]) rfl ⟨((((HB97.out).setCell (p:=⟨W.heap.size + 1,0,none⟩) (by first|(simp;done)|(simp;omega)) (ii 0)).setCell (p:=⟨W.heap.size + 1,1,none⟩) (by first|(simp;done)|(simp;omega)) (ii 0)).setCell (p:=⟨W.heap.size + 1 + 1,0,none⟩) (by first|(simp;done)|(simp;omega)) (ii 0)).setCell (p:=⟨W.heap.size + 1 + 1,1,none⟩) (by first|(simp;done)|(simp;omega)) (ii 0),none,0,rfl,Nat.le_refl 0,Kd.F_nil k89 _ _⟩
     |true =>
       have HE:=am (show q = (qq,n1,n2,0) by rw [HQ1.out,if_pos HK1.out.symm,if_pos HK2.out.symm,← HN1.out,← HN2.out,← HW9.out])
       have HS1:=am (show W.heap.size + 1 + 1 < w8.heap.size ∧ w8.heap.size < w10.heap.size from ⟨HSZ8.out,HSZ9.out⟩)
       have HR98:=am (blk_drew HR97.out)
       have HT98:=am (blk_drew HT97.out)
       have HB98:=am (below_drew HB97.out)
       have HV98:=am (Kd.R_drew HV97.out)
       have HP4:=am (blk_drew HP3.out)
       have HH1:=am (blk_drew HH.out)
       go_wp2
       refine start_ (n:=7) (S:=fun w' => w'.cell? ⟨w8.heap.size,0,none⟩ = some (ii n1.f0) ∧ w'.cell? ⟨w8.heap.size,1,none⟩ = some (ii n1.f1) ∧ w'.cell? ⟨w10.heap.size,0,none⟩ = some (ii n2.f0) ∧ w'.cell? ⟨w10.heap.size,1,none⟩ = some (ii n2.f1)) (ds:=[5]) (ab 7 0) kr rfl kr ⟨(blk_cell HP4.out 0).trans rfl,(blk_cell HP4.out 1).trans rfl,(blk_cell HH1.out 0).trans rfl,(blk_cell HH1.out 1).trans rfl⟩ (fun hHeld => ?_);refine with_tabW R36_18.tab R36_18.bits (fun HT_ HW_ => ?_)
       generalize ((w10.alloc (.cells #[ii n2.f0,ii n2.f1] 43))).drew = wd at HR98 HT98 HB98 HV98 HP4 HH1 hHeld ⊢
       refine qA 0 (some 86) ?_;refine qT 1 (some 87) ?_;refine qT 2 (some 88) ?_;refine qA 3 (some 4) ?_
       refine qE 4 (none) fun K hK => ?_
       have u0:=bd HR98.out 0
       have fu0:=blk_frozen HR98.out 0
       have u1:=bd HR98.out 1
       have fu1:=blk_frozen HR98.out 1
       refine skip_ (w1:=?_) (by rfl) rfl ?_ ?_
       rotate_left
       ·go_simp
        rfl
       have HT99:=am (blk_far (p:=⟨W.heap.size + 1,1,none⟩) (blk_far (p:=⟨W.heap.size + 1,0,none⟩) (HT98.out) (by have h1:=HS1.out;(try dsimp only);omega) (ii n1.f0)) (by have h1:=HS1.out;(try dsimp only);omega) (ii n1.f1))
       have HP5:=am (blk_far (p:=⟨W.heap.size + 1,1,none⟩) (blk_far (p:=⟨W.heap.size + 1,0,none⟩) (HP4.out) (by have h1:=HS1.out;(try dsimp only);omega) (ii n1.f0)) (by have h1:=HS1.out;(try dsimp only);omega) (ii n1.f1))
       have HH2:=am (blk_far (p:=⟨W.heap.size + 1,1,none⟩) (blk_far (p:=⟨W.heap.size + 1,0,none⟩) (HH1.out) (by have h1:=HS1.out;(try dsimp only);omega) (ii n1.f0)) (by have h1:=HS1.out;(try dsimp only);omega) (ii n1.f1))
       refine hK.out _ _ ⟨(blk_cell HP5.out 0).trans rfl,(blk_cell HP5.out 1).trans rfl,(blk_cell HH2.out 0).trans rfl,(blk_cell HH2.out 1).trans rfl⟩ (fun hHeld => ?_)
       clear hK K
       refine qL 5 (none) fun K hK => ?_
       have v0:=bd HT99.out 0
       have fv0:=blk_frozen HT99.out 0
       have v1:=bd HT99.out 1
       have fv1:=blk_frozen HT99.out 1
       refine skip_ (w1:=?_) (by rfl) rfl ?_ ?_
       rotate_left
       ·go_simp
        rfl
       refine hK.out _ _ ?_
       clear hK K
       refine qA 6 (some 7) ?_
       refine done_ (done_of HT_.out kr) ?_
       go_wp2
       rw [HE.out]
       have HVZ:=am (R89_far (R89_far (R89_far (R89_far (HV98.out) ⟨W.heap.size + 1,0,none⟩ (by have h1:=HLW.out;(try dsimp only);omega) (ii n1.f0)) ⟨W.heap.size + 1,1,none⟩ (by have h1:=HLW.out;(try dsimp only);omega) (ii n1.f1)) ⟨W.heap.size + 1 + 1,0,none⟩ (by have h1:=HLW.out;(try dsimp only);omega) (ii n2.f0)) ⟨W.heap.size + 1 + 1,1,none⟩ (by have h1:=HLW.out;(try dsimp only);omega) (ii n2.f1))
       have by_:=blk_far (p:=⟨W.heap.size + 1 + 1,1,none⟩) (blk_far (p:=⟨W.heap.size + 1 + 1,0,none⟩) (blk_put (cs':=#[ii n1.f0,ii n1.f1]) (blk_put (cs':=#[ii n1.f0,ii 0]) (HR98.out) 0 (ii n1.f0) rfl) 1 (ii n1.f1) rfl) (by simp) (ii n2.f0)) (by simp) (ii n2.f1)
       have bz:=blk_put (cs':=#[ii n2.f0,ii n2.f1]) (blk_put (cs':=#[ii n2.f0,ii 0]) (blk_far (p:=⟨W.heap.size + 1,1,none⟩) (blk_far (p:=⟨W.heap.size + 1,0,none⟩) (HT98.out) (by simp) (ii n1.f0)) (by simp) (ii n1.f1)) 0 (ii n2.f0) rfl) 1 (ii n2.f1) rfl
       have y0:=bd by_ 0
       have y1:=bd by_ 1
       have z0:=bd bz 0
       have z1:=bd bz 1
       exact bodyPost_ret (v:=.tuple #[.slice Av qq.length cv,.agg #[ii n1.f0,ii n1.f1],.agg #[ii n2.f0,ii n2.f1],ii 0]) (by simp [results,Tryz.results36,go_sem,y0,y1,z0,z1,hu43]) rfl ⟨((((HB98.out).setCell (p:=⟨W.heap.size + 1,0,none⟩) (by first|(simp;done)|(simp;omega)) (ii n1.f0)).setCell (p:=⟨W.heap.size + 1,1,none⟩) (by first|(simp;done)|(simp;omega)) (ii n1.f1)).setCell (p:=⟨W.heap.size + 1 + 1,0,none⟩) (by first|(simp;done)|(simp;omega)) (ii n2.f0)).setCell (p:=⟨W.heap.size + 1 + 1,1,none⟩) (by first|(simp;done)|(simp;omega)) (ii n2.f1),Av,cv,rfl,(Kd.R_reads' HVZ.out).2.1,Kd.R_F (Kd.R_reok rfl HVZ.out fun k hk => by have h1:=Kd.R_base HVZ.out k hk;have h2:=HLW.out;omega)⟩
end Go.Proofs.YtjjfpmapjjemcaaGreat.B
end
