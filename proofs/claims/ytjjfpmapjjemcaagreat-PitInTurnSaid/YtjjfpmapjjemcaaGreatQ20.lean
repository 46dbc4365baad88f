import Derived.Test.YtjjfpmapjjemcaaGreatQ10
import Derived.Test.YtjjfpmapjjemcaaGreatQ11
import Derived.Test.YtjjfpmapjjemcaaGreatQ15
import Derived.Test.YtjjfpmapjjemcaaGreatQ16
import Derived.Test.YtjjfpmapjjemcaaGreatQ17
import Derived.Test.YtjjfpmapjjemcaaGreatQ18
import Derived.Test.YtjjfpmapjjemcaaGreatQ19
import Derived.Test.YtjjfpmapjjemcaaGreatQ6
import Derived.Test.YtjjfpmapjjemcaaGreatQ9
set_option linter.unusedVariables false
set_option linter.unusedSimpArgs false
section
namespace Go.Proofs.YtjjfpmapjjemcaaGreat.B
open Go.RowKit Go.Proofs.YtjjfpmapjjemcaaGreatW.PrintWords Go.Proofs.YtjjfpmapjjemcaaGreatW.PrintLast Go.Proofs.YtjjfpmapjjemcaaGreatW.PrintMore
attribute [local go_sem] max2_int min2_int max_two min_two max_three min_three max_four min_four
theorem at_pitF {W0 w : World} {ok0 : Nat → Prop} {A : Option Addr} {n : Nat} {xs : List (List S212)} (h : Kd.C (ft (Kd.slice 212 k212) W0 ok0) w A n xs) (i : Int) (h0 : 0 ≤ i) (h1 : i < n) : ∃ ad A1 c1,A = some ad ∧ w.cell? (ad.add i.toNat) = some (.slice A1 (xs.getD i.toNat []).length c1) ∧ (xs.getD i.toNat []).length ≤ c1 ∧ Kd.F k212 W0 ok0 A1 (xs.getD i.toNat []).length (xs.getD i.toNat []):=by
 obtain ⟨ad,cs,e,_,hK,hcc⟩:=Kd.C_get h [] i h0 h1
 have hM : Kd.FK (Kd.slice 212 k212) W0 ok0 (xs.getD i.toNat []) cs:=hK
 obtain ⟨A1,c1,e1,hl,_⟩:=Foot.now hM
 subst e1
 have hc:=hcc 0 _ rfl
 have e2 : i.toNat * (ft (Kd.slice 212 k212) W0 ok0).sz + 0 = i.toNat:=by show i.toNat * 1 + 0 = _;omega
 rw [e2] at hc
 refine ⟨ad,A1,c1,e,hc,hl,fun W2 hW => ?_⟩
 obtain ⟨A',c',e',_,hC⟩:=hM W2 hW
 injection e' with e' _
 injection e' with ea _ _
 rw [ea]
 exact hC
theorem flat_take {l : List (List S212)} {j : Nat} (h : j < l.length) : (l.take (j + 1)).flatten = (l.take j).flatten ++ l.getD j []:=by
 rw [List.take_succ_eq_append_getElem h,List.flatten_append,List.getD_eq_getElem?_getD,List.getElem?_eq_getElem h]
 simp
theorem flat_le (l : List (List S212)) (j : Nat) : (l.take j).flatten.length ≤ l.flatten.length:=by
 have:=congrArg (fun x => x.flatten.length) (List.take_append_drop j l)
 simp only [List.flatten_append,List.length_append] at this
 omega
theorem under3 : Tryz.prog.underlying 3 = some (.int .i64):=by kernel_rfl
set_option maxRecDepth 100000 in
set_option maxHeartbeats 2000000 in
theorem grow_calls (n : Int) (h0 : 0 ≤ n) (h1 : n ≤ 1000000) (W W0 : World) (ok : Nat → Prop) :
  Calls Tryz.prog 171 #[.slice none 0 0,ii n] W fun e W' => ∃ v,e = .returned v ∧ Below W.heap.size W W' ∧ (ft k212 W0 ok).R 212 W' W.heap.size (fun _ => True) v []:=by
 have hu131:=Tryz.underlying131
 go_enter Tryz.func171,Tryz.ntmps171
 by_cases hn : 0 < n
 ·
  have HH:=am (Kd.R_nil (ft k212 W0 ok) 212 W W.heap.size (fun _ => True))
  have hw0 : IntKind.i64.wrap n = n:=IntWalk.i64_in _ (by omega)
  have hw1 : IntKind.i64.wrap (n - 0) = n:=by rw [IntWalk.i64_in _ (by omega)];omega
  skip
  go_wp2_with (at_builtin;refine Kd.R_append_zeros (ft k212 W0 ok) (w0:=W) W.heap.size rfl _ _ 131 3 212 (.agg #[ii 0,.slice none 0 0]) 32 rfl Tryz.underlying131 under3 info212_ rfl (by show 0 < (k212 : Kd _).sz;decide) (by decide) (.slice none 0 0) [] z212 n (fun _ => True) rfl rfl (k212_mkF W0 ok z212 (A1:=none) (c1:=0) (Nat.le_refl 0) (fun _ _ => Kd.C_nil k89 _)) (fun _ _ => trivial) HH.out h0 (Below.refl _ _) (Nat.le_refl _) (by simp;omega) ?_;intro v1 w1 hr1 hb1 hg1 hat1;obtain ⟨A1,c1,rfl⟩:=Kd.R_slice hr1;have HR1:=am hr1;have HB1:=am hb1;clear hr1 hb1 hg1 hat1)
  go_ret
  exact ⟨_,rfl,HB1.out,by have h:=Kd.R_take HR1.out (m:=0) (Nat.zero_le _);rw [List.take_zero] at h;exact h⟩
 ·
  have hz : n = 0:=by omega
  subst hz
  go_wp2
  go_ret
  exact ⟨_,rfl,Below.refl _ _,Kd.R_nil _ _ _ _ _⟩
set_option maxRecDepth 100000 in
set_option maxHeartbeats 2000000 in
theorem concat_calls (A : Option Addr) (c : Nat) (l : List (List S212)) (W : World) (ok : Nat → Prop) (hC : Kd.C (ft (Kd.slice 212 k212) W ok) W A l.length l) (hc : l.length ≤ c) (hlen : l.flatten.length ≤ 1000000) :
  Calls Tryz.prog 116 #[.slice A l.length c] W fun e W' => ∃ v,e = .returned v ∧ Below W.heap.size W W' ∧ (ft k212 W ok).R 212 W' W.heap.size (fun _ => True) v l.flatten:=by
 have hmx:=hC.2.1
 have HC:=am hC
 have HLN:=am hlen
 clear hC hlen
 go_enter Tryz.func116,Tryz.ntmps116
 go_wp2
 go_loopw [3,11] (fun v3 v11 wr => ∃ (j : Nat),j ≤ l.length ∧ v3 = ii ((l.take j).flatten.length : Int) ∧ v11 = ii (j : Int) ∧ Aside0 (Below W.heap.size W wr)) (fun _ v11 _ => l.length - (intOf v11).toNat)
 case atStart => exact ⟨0,Nat.zero_le _,rfl,rfl,⟨Below.refl _ _⟩⟩
 case round =>
  obtain ⟨j,hj,rfl,rfl,HN⟩:=hrel
  by_cases hlt : j < l.length
  ·
   obtain ⟨ae,A1,c1,e,hx0,hl1,hF1⟩:=at_pitF (Kd.C_below HC.out HN.out) (j : Int) (by omega) (by omega)
   cases e
   rw [Int.toNat_natCast] at hx0 hl1 hF1
   have hs:=congrArg List.length (flat_take hlt)
   rw [List.length_append] at hs
   have hfl:=flat_le l (j + 1)
   have hln:=HLN.out
   obtain ⟨p,hp⟩ : ∃ p,p = l.getD j []:=⟨_,rfl⟩
   rw [← hp] at hx0 hs
   obtain ⟨m,hm⟩ : ∃ m,m = (l.take j).flatten.length:=⟨_,rfl⟩
   obtain ⟨m2,hm2⟩ : ∃ m2,m2 = (l.take (j + 1)).flatten.length:=⟨_,rfl⟩
   rw [← hm,← hm2] at hs
   rw [← hm2] at hfl
   have hmb : m2 ≤ 1000000:=by omega
   have HM2:=am hm2
   have hww : IntKind.i64.wrap ((m : Int) + (p.length : Int)) = (m2 : Int):=by rw [IntWalk.i64_in _ (by omega)];omega
   rw [← hm]
   have hm20 : ¬ ((m2 : Int) < 0):=by omega
   clear hm hm2 hs hfl hl1 hF1 hp hln
   go_wp2
   go_roundw
   case rel => exact ⟨j + 1,by omega,by rw [HM2.out],by go_num,HN⟩
   case measure => simp [intOf];omega
  ·
   have hje : j = l.length:=by omega
   subst hje
   have htk : l.take l.length = l:=List.take_length
   rw [htk]
   obtain ⟨m,hm⟩ : ∃ m,m = l.flatten.length:=⟨_,rfl⟩
   rw [← hm]
   have hmb : m ≤ 1000000:=by have:=HLN.out;omega
   clear htk hm hj hlt
   go_wp2_with fail
   refine (grow_calls (m : Int) (by omega) (by omega) wr W ok).mono ?_
   rintro e w1 ⟨v,rfl,hb,hR⟩
   have HN1:=am (below_then HN.out (below_size HN.out) hb)
   have HV0:=am (Kd.R_lower hR (below_size HN.out))
   clear hb hR
   go_wp2
   go_loopw [6,27] (fun v6 v27 wr => ∃ (j : Nat),j ≤ l.length ∧ v27 = ii (j : Int) ∧ Aside0 (Below W.heap.size W wr) ∧ Aside0 ((ft k212 W ok).R 212 wr W.heap.size (fun _ => True) v6 (l.take j).flatten)) (fun _ v27 _ => l.length - (intOf v27).toNat)
   case atStart => exact ⟨0,Nat.zero_le _,rfl,HN1,HV0⟩
   case round =>
    clear HN HN1 HV0
    obtain ⟨j,hj,rfl,HN,HV⟩:=hrel
    obtain ⟨q,hq⟩ : ∃ q,q = (l.take j).flatten:=⟨_,rfl⟩
    rw [← hq] at HV
    have HQ:=am hq
    clear hq
    obtain ⟨Av,cv,rfl⟩:=Kd.R_slice HV.out
    by_cases hlt : j < l.length
    ·
     obtain ⟨ae,A1,c1,e,hx0,hl1,hF1⟩:=at_pitF (Kd.C_below HC.out HN.out) (j : Int) (by omega) (by omega)
     cases e
     rw [Int.toNat_natCast] at hx0 hl1 hF1
     have HT:=am (flat_take hlt)
     obtain ⟨p,hp⟩ : ∃ p,p = l.getD j []:=⟨_,rfl⟩
     rw [← hp] at hx0 hl1 hF1 HT
     rw [← HQ.out] at HT
     have HPL:=am (show q.length + p.length ≤ 1000000 from by
      have h1:=flat_le l (j + 1)
      rw [HT.out,List.length_append] at h1
      have:=HLN.out
      omega)
     have HX:=am (ReadsRow.imp_ (Kd.F_rows hF1) HN.out (fun _ _ h => h))
     clear hp hl1 hF1
     go_wp2_with (at_builtin;go_loud (refine Kd.R_append_rows (ft k212 W ok) (Rr:=fun x c => Kd.FK k212 W ok x c) (w0:=W) (W:=wr) W.heap.size rfl _ _ 131 212 (.agg #[ii 0,.slice none 0 0]) 32 rfl Tryz.underlying131 info212_ rfl (by show 0 < (k212 : Kd _).sz;decide) (by decide) (.slice Av q.length cv) q p A1 p.length c1 (fun _ => True) (fun _ => False) rfl rfl HV.out HX.out (fun _ _ h => h) (fun _ h => h.elim) (fun _ _ => trivial) HN.out (below_size HN.out) (by have:=HPL.out;omega) ?_;intro v1 w2 hs1 hb1 hg1 hat1;have HS1:=am hs1;have HB1:=am hb1;clear hs1 hb1 hg1 hat1))
     go_roundw
     case rel => exact ⟨j + 1,by omega,by go_num,HB1,⟨by rw [HT.out];exact HS1.out⟩⟩
     case measure => simp [intOf];omega
    ·
     have hq : q = l.flatten:=by rw [HQ.out,List.take_of_length_le (by omega)]
     have HQ2:=am hq
     clear hq
     go_wp2
     go_ret
     exact ⟨_,rfl,HN.out,by rw [← HQ2.out];exact HV.out⟩
def R36_18.T : Bool × List (List Nat × List Nat):=(true,[([],[]),([],[]),([],[]),([0,0],[0]),([1,3,0,1,3],[1]),([2,4,0,1,2,3,4],[2]),([5,0,1,2,3,4,5],[])])
def R36_18.B : List Nat:=[0,0,0,1,11,31,63]
theorem R36_18.tab : rtab .any (opsOf Tryz.f36 18) = R36_18.T:=by kernel_rfl
theorem R36_18.bits : waitsOk R36_18.T.2 R36_18.B = true:=by kernel_rfl
def wentP (bs : List S167) (pour : Int) : List S89:=(bs.filter fun b => decide ((partP b pour).f0 > 0)).map fun b => ⟨b.f0,partP b pour⟩
theorem wentP_snoc {bs : List S167} {pour : Int} {j : Nat} (h : j < bs.length) : wentP (bs.take (j + 1)) pour = wentP (bs.take j) pour ++ (if (partP (rd_T167 bs (j : Int)) pour).f0 > 0 then [⟨(rd_T167 bs (j : Int)).f0,partP (rd_T167 bs (j : Int)) pour⟩] else []):=by
 rw [List.take_succ_eq_append_getElem h]
 have hrd : rd_T167 bs (j : Int) = bs[j]:=by unfold rd_T167;rw [Int.toNat_natCast,List.getD_eq_getElem?_getD,List.getElem?_eq_getElem h];rfl
 rw [hrd]
 unfold wentP
 rw [List.filter_append,List.map_append,List.filter_cons,List.filter_nil]
 by_cases hp : (partP bs[j] pour).f0 > 0
 ·simp [hp]
 ·simp [hp]
theorem wentP_len (bs : List S167) (pour : Int) : (wentP bs pour).length ≤ bs.length:=by unfold wentP;rw [List.length_map];exact List.length_filter_le _ _
def idR (r : S43) : S43:=r
def leftP (Y : Yd) (pour : Int) : Option S43:=totalP idR (ofL pour (partsP Y.pits.flatten))
def lostP (Y : Yd) (pour : Int) : Option S43:=totalP idR (ofL pour (partsP Y.lost))
def fateE (r : Except (Int × Int) Yd) (pour : Int) : List S89 × S43 × S43 × Int:=match r with
|.error x => ([],⟨0,0⟩,⟨0,0⟩,x.1)
|.ok Y => if pour ∈ Y.pours then (if (leftP Y pour).isSome = true then (if (lostP Y pour).isSome = true then (wentP Y.barrows pour,(leftP Y pour).getD ⟨0,0⟩,(lostP Y pour).getD ⟨0,0⟩,0) else ([],⟨0,0⟩,⟨0,0⟩,3)) else ([],⟨0,0⟩,⟨0,0⟩,3)) else ([],⟨0,0⟩,⟨0,0⟩,5)
def FatePost (W : World) (q : List S89 × S43 × S43 × Int) (e : Ending) (W' : World) : Prop :=
 Below W.heap.size W W' ∧ ∃ (A3 : Option Addr) (c3 : Nat),e = .returned (.tuple #[.slice A3 q.1.length c3,.agg #[ii q.2.1.f0,ii q.2.1.f1],.agg #[ii q.2.2.1.f0,ii q.2.2.1.f1],ii q.2.2.2]) ∧ q.1.length ≤ c3 ∧ Kd.F k89 W' (fun k => W.heap.size ≤ k) A3 q.1.length q.1
theorem flat_len : ∀ (l : List (List S212)),(∀ p ∈ l,p.length ≤ 4096) → l.flatten.length ≤ 4096 * l.length
|[],_ => by simp
|p :: l,h => by
  have h1:=h p List.mem_cons_self
  have h2:=flat_len l fun q hq => h q (List.mem_cons_of_mem _ hq)
  simp only [List.flatten_cons,List.length_append,List.length_cons]
  omega
theorem Wf.flat {n : Nat} {Y : Yd} (hw : Wf n Y) : Y.pits.flatten.length ≤ 24576 ∧ ∀ p ∈ Y.pits.flatten,ParcelOk Y.pours p:=by
 have h1 : ∀ p ∈ Y.pits,p.length ≤ 4096:=by
  intro p hp
  obtain ⟨i,hi,rfl⟩:=List.getElem_of_mem hp
  have hr : i < Y.rooms.length:=by rw [← hw.plen];exact hi
  have h2:=hw.held i hr
  rw [List.getD_eq_getElem?_getD,List.getElem?_eq_getElem hi] at h2
  have h3:=heldP_nonneg (l:=Y.pits[i]) fun p hp => (hw.parcels _ (List.getElem_mem hi) p hp).lo
  have h4:=(hw.rooms (Y.rooms.getD i 0) (getD_mem_ hr)).2
  simp only [Option.getD_some] at h2
  omega
 have h5:=flat_len Y.pits h1
 have h6:=hw.plen
 have h7:=hw.r6
 refine ⟨by omega,fun p hp => ?_⟩
 obtain ⟨q,hq,hpq⟩:=List.mem_flatten.1 hp
 exact hw.parcels q hq p hpq
theorem own_calls (r : S43) (w : World) : Calls Tryz.prog 117 (#[.agg #[ii r.f0,ii r.f1]] ++ #[]) w fun e w' => e = .returned (.agg #[ii (idR r).f0,ii (idR r).f1]) ∧ Below w.heap.size w w':=pit_own.calls r.f0 r.f1 _ _ w rfl
theorem C_of_ft {α : Type} {d : Kd α} {W w : World} {ok : Nat → Prop} {A : Option Addr} {n : Nat} {xs : List α} (h : Kd.C (ft d W ok) w A n xs) (hm : ∀ k,ok k → k < W.heap.size → w.heap[k]? = W.heap[k]?) : Kd.C d w A n xs :=
 ReadsRow.imp_ h (Below.refl _ _) (fun _ _ (hp : Kd.FK d W ok _ _) => hp w hm)
theorem R89_far {w : World} {N : Nat} {ok : Nat → Prop} {v : Value} {l : List S89} (h : k89.R 89 w N ok v l) (p : Addr) (hp : p.block < N) (u : Value) : k89.R 89 (w.setCell p u) N ok v l :=
 R_own_move rfl h fun k hk => Below.heap_setCell w p u k (fun e => by have:=Kd.R_base h k hk;omega)
set_option maxRecDepth 100000 in
set_option maxHeartbeats 1000000 in
theorem fate_calls (A A2 : Option Addr) (c c2 : Nat) (rooms : List Int) (stirs : List S84) (W : World) (lo : Nat) (hlo : lo ≤ W.heap.size) (hC : Kd.F (Kd.int .i64) W (fun k => k < lo) A rooms.length rooms) (hc : rooms.length ≤ c) (hS : Kd.C k84 W A2 stirs.length stirs) (hc2 : stirs.length ≤ c2) (pour : Int) :
  Calls Tryz.prog 36 #[.agg #[.slice A rooms.length c,.slice A2 stirs.length c2],ii pour] W fun e W' => FatePost W (fateE (playedP rooms stirs stirs.length) pour) e W':=by
 have hu:=Tryz.underlying32
 have hu167:=Tryz.underlying167
 have hu43:=Tryz.underlying43
 have hu89:=Tryz.underlying89
 have ek117 : ∀ args w,(callFunc 117 args).run Tryz.prog w = .ok (.enter 117 args) w:=enters_of Tryz.func117 kr rfl
 have HC:=am (hC)
 have HS:=am (hS)
 have HB:=am (Below.refl W.heap.size W)
 have HC1:=am (Kd.F_alloc HC.out (.cells #[.slice A rooms.length c,.slice A2 stirs.length c2] 32))
 have HS1:=am (Kd.C_alloc HS.out (.cells #[.slice A rooms.length c,.slice A2 stirs.length c2] 32))
 have HB1:=am (below_alloc HB.out (.cells #[.slice A rooms.length c,.slice A2 stirs.length c2] 32))
 have HC2:=am (Kd.F_alloc HC1.out (.cells #[ii 0,ii 0] 43))
 have HS2:=am (Kd.C_alloc HS1.out (.cells #[ii 0,ii 0] 43))
 have HB2:=am (below_alloc HB1.out (.cells #[ii 0,ii 0] 43))
 have HR:=am (blk_new' (W.alloc (.cells #[.slice A rooms.length c,.slice A2 stirs.length c2] 32)) (.cells #[ii 0,ii 0] 43) (W.heap.size + 1) (by simp))
 have HC3:=am (Kd.F_alloc HC2.out (.cells #[ii 0,ii 0] 43))
 have HS3:=am (Kd.C_alloc HS2.out (.cells #[ii 0,ii 0] 43))
 have HB3:=am (below_alloc HB2.out (.cells #[ii 0,ii 0] 43))
 have HR1:=am (blk_alloc HR.out (.cells #[ii 0,ii 0] 43))
 have HT:=am (blk_new' ((W.alloc (.cells #[.slice A rooms.length c,.slice A2 stirs.length c2] 32)).alloc (.cells #[ii 0,ii 0] 43)) (.cells #[ii 0,ii 0] 43) (W.heap.size + 1 + 1) (by simp))
 clear hC hS
 obtain ⟨r,hr⟩ : ∃ r,r = playedP rooms stirs stirs.length:=⟨_,rfl⟩
 rw [← hr]
 have HQP:=am hr.symm
 clear hr
 obtain ⟨q,hq⟩ : ∃ q,q = fateE r pour:=⟨_,rfl⟩
 rw [← hq]
 have HQ:=am hq
 clear hq
 go_enter Tryz.func36,Tryz.ntmps36
 go_wp2_with fail
 refine (all_calls A A2 c c2 rooms stirs _ lo (Nat.le_trans hlo (by simp;omega)) HC3.out hc HS3.out hc2).mono ?_
 rintro e w1 ⟨hb,h⟩
 rw [HQP.out] at h
 have HB4:=am (below_then HB3.out (below_size HB3.out) hb)
 have HR2:=am (blk_below HR1.out hb)
 have HT1:=am (blk_below HT.out hb)
 clear hb
 cases r with
|error x =>
  subst h
  have hx : ¬ x.1 = 0:=playedP_code HQP.out
  have HE:=am (show q = ([],⟨0,0⟩,⟨0,0⟩,x.1) by rw [HQ.out];rfl)
  have u0:=bd HR2.out 0
  have fu0:=blk_frozen HR2.out 0
  have u1:=bd HR2.out 1
  have fu1:=blk_frozen HR2.out 1
  have v0:=bd HT1.out 0
  have fv0:=blk_frozen HT1.out 0
  have v1:=bd HT1.out 1
  have fv1:=blk_frozen HT1.out 1
  go_wp2
  rw [HE.out]
  have by_:=blk_far (p:=⟨W.heap.size + 1 + 1,1,none⟩) (blk_far (p:=⟨W.heap.size + 1 + 1,0,none⟩) (blk_put (cs':=#[ii 0,ii 0]) (blk_put (cs':=#[ii 0,ii 0]) (HR2.out) 0 (ii 0) rfl) 1 (ii 0) rfl) (by simp) (ii 0)) (by simp) (ii 0)
  have bz:=blk_put (cs':=#[ii 0,ii 0]) (blk_put (cs':=#[ii 0,ii 0]) (blk_far (p:=⟨W.heap.size + 1,1,none⟩) (blk_far (p:=⟨W.heap.size + 1,0,none⟩) (HT1.out) (by simp) (ii 0)) (by simp) (ii 0)) 0 (ii 0) rfl) 1 (ii 0) rfl
  have y0:=bd by_ 0
  have y1:=bd by_ 1
  have z0:=bd bz 0
  have z1:=bd bz 1
  exact bodyPost_ret (v:=.tuple #[.slice none 0 0,.agg #[ii 0,ii 0],.agg #[ii 0,ii 0],ii x.1]) (by simp [results,Tryz.results36,go_sem,y0,y1,z0,z1,hu43]) rfl ⟨((((HB4.out).setCell (p:=⟨W.heap.size + 1,0,none⟩) (by first|(simp;done)|(simp;omega)) (ii 0)).setCell (p:=⟨W.heap.size + 1,1,none⟩) (by first|(simp;done)|(simp;omega)) (ii 0)).setCell (p:=⟨W.heap.size + 1 + 1,0,none⟩) (by first|(simp;done)|(simp;omega)) (ii 0)).setCell (p:=⟨W.heap.size + 1 + 1,1,none⟩) (by first|(simp;done)|(simp;omega)) (ii 0),none,0,rfl,Nat.le_refl 0,Kd.F_nil k89 _ _⟩
|ok Y =>
  obtain ⟨L,base,hbase,hbad,rfl,hY⟩:=h
  have HWF:=am (played_wf HQP.out)
  have HSL:=am (played_ok HQP.out).2.1
  have HY:=am (hY)
  clear hbase hbad hY
  obtain ⟨k,hk⟩ : ∃ k,k = decide (pour ∈ Y.pours):=⟨_,rfl⟩
  have HK:=am hk
  clear hk
  go_wp2_with fail
  refine (known_calls HY.out HWF.out HSL.out pour).mono ?_
  rintro e w2 ⟨rfl,hb⟩
  rw [← HK.out]
  have HB5:=am (below_then HB4.out (below_size HB4.out) hb)
  have HR3:=am (blk_below HR2.out hb)
  have HT2:=am (blk_below HT1.out hb)
  have HY1:=am (HY.out.move hb)
  clear hb
  cases k with
 |false =>
   have HE:=am (show q = ([],⟨0,0⟩,⟨0,0⟩,5) by rw [HQ.out];unfold fateE;simp only [];rw [if_neg (of_decide_eq_false HK.out.symm)])
   have u0:=bd HR3.out 0
   have fu0:=blk_frozen HR3.out 0
   have u1:=bd HR3.out 1
   have fu1:=blk_frozen HR3.out 1
   have v0:=bd HT2.out 0
   have fv0:=blk_frozen HT2.out 0
   have v1:=bd HT2.out 1
   have fv1:=blk_frozen HT2.out 1
   go_wp2
   rw [HE.out]
   have by_:=blk_far (p:=⟨W.heap.size + 1 + 1,1,none⟩) (blk_far (p:=⟨W.heap.size + 1 + 1,0,none⟩) (blk_put (cs':=#[ii 0,ii 0]) (blk_put (cs':=#[ii 0,ii 0]) (HR3.out) 0 (ii 0) rfl) 1 (ii 0) rfl) (by simp) (ii 0)) (by simp) (ii 0)
   have bz:=blk_put (cs':=#[ii 0,ii 0]) (blk_put (cs':=#[ii 0,ii 0]) (blk_far (p:=⟨W.heap.size + 1,1,none⟩) (blk_far (p:=⟨W.heap.size + 1,0,none⟩) (HT2.out) (by simp) (ii 0)) (by simp) (ii 0)) 0 (ii 0) rfl) 1 (ii 0) rfl
   have y0:=bd by_ 0
   have y1:=bd by_ 1
   have z0:=bd bz 0
   have z1:=bd bz 1
   exact bodyPost_ret (v:=.tuple #[.slice none 0 0,.agg #[ii 0,ii 0],.agg #[ii 0,ii 0],ii 5]) (by simp [results,Tryz.results36,go_sem,y0,y1,z0,z1,hu43]) rfl ⟨((((HB5.out).setCell (p:=⟨W.heap.size + 1,0,none⟩) (by first|(simp;done)|(simp;omega)) (ii 0)).setCell (p:=⟨W.heap.size + 1,1,none⟩) (by first|(simp;done)|(simp;omega)) (ii 0)).setCell (p:=⟨W.heap.size + 1 + 1,0,none⟩) (by first|(simp;done)|(simp;omega)) (ii 0)).setCell (p:=⟨W.heap.size + 1 + 1,1,none⟩) (by first|(simp;done)|(simp;omega)) (ii 0),none,0,rfl,Nat.le_refl 0,Kd.F_nil k89 _ _⟩
 |true =>
   have HQ1:=am (show q = (if (leftP Y pour).isSome = true then (if (lostP Y pour).isSome = true then (wentP Y.barrows pour,(leftP Y pour).getD ⟨0,0⟩,(lostP Y pour).getD ⟨0,0⟩,0) else ([],⟨0,0⟩,⟨0,0⟩,3)) else ([],⟨0,0⟩,⟨0,0⟩,3)) by rw [HQ.out];unfold fateE;simp only [];rw [if_pos (of_decide_eq_true HK.out.symm)])
   obtain ⟨Ab,cb,hb,hlb,hCb⟩:=Kd.R_reads HY1.out.barrows
   have HCB:=am (show Kd.C k167 w2 Ab Y.barrows.length Y.barrows from hCb.imp_ (Below.refl _ _) fun _ _ hp => Foot.now hp)
   have hmb:=hCb.2.1
   have g4 : w2.cell? ⟨L.g,4,none⟩ = some (.slice Ab Y.barrows.length cb):=(blk_cell HY1.out.blk 4).trans (by rw [← hb];rfl)
   clear hb hlb hCb
   have HLW:=am (blk_lt HT2.out)
   have hnb:=HWF.out.nbarrows
   have hsl:=HSL.out
   go_wp2
   clear g4
   go_loopw [10,39] (fun v10 v39 wr => ∃ (j : Nat),j ≤ Y.barrows.length ∧ v39 = ii (j : Int) ∧ Aside0 (Below w2.heap.size w2 wr) ∧ Aside0 (k89.R 89 wr w2.heap.size (fun _ => True) v10 (wentP (Y.barrows.take j) pour))) (fun _ v39 _ => Y.barrows.length - (intOf v39).toNat)
   case atStart => exact ⟨0,Nat.zero_le _,rfl,⟨Below.refl _ _⟩,⟨Kd.R_nil _ _ _ _ _⟩⟩
   case round =>
    obtain ⟨j,hj,rfl,HN,HV⟩:=hrel
    obtain ⟨qq,hqq⟩ : ∃ qq,qq = wentP (Y.barrows.take j) pour:=⟨_,rfl⟩
    have hql : qq.length ≤ j:=by rw [hqq];exact Nat.le_trans (wentP_len _ _) (by rw [List.length_take];omega)
    rw [← hqq] at HV
    have HQQ:=am hqq
    clear hqq
    obtain ⟨Av,cv,rfl⟩:=Kd.R_slice HV.out
    have HQL:=am hql
    clear hql
    by_cases hlt : j < Y.barrows.length
    ·
     have HT9:=am (wentP_snoc (pour:=pour) hlt)
     rw [← HQQ.out] at HT9
     obtain ⟨ae,A3,c3,e,hx0,hx1,hx2,hx3,hl3,hC3⟩:=at_T167 (Kd.C_below HCB.out HN.out) (j : Int) (by omega) (by omega)
     cases e
     rw [Int.toNat_natCast] at hx0 hx1 hx2 hx3
     have hmem : rd_T167 Y.barrows (j : Int) ∈ Y.barrows:=getD_mem_ hlt
     have HBL:=am (show (rd_T167 Y.barrows (j : Int)).f3.length ≤ 60 from (HWF.out.barrows _ hmem).par.len)
     obtain ⟨b,hb⟩ : ∃ b,b = rd_T167 Y.barrows (j : Int):=⟨_,rfl⟩
     rw [← hb] at hx0 hx1 hx2 hx3 hl3 hC3 HT9 HBL
     clear hb hmem
     have HG:=am (hC3)
     have HL3:=am hl3
     clear hC3 hl3
     have HPS:=am (part_some b pour (by have:=HBL.out;omega))
     obtain ⟨n,hn⟩ : ∃ n,n = partP b pour:=⟨_,rfl⟩
     rw [← hn] at HPS HT9
     clear hn
     have HN1:=am (below_alloc HN.out (.cells #[ii b.f0,ii b.f1,ii b.f2,.slice A3 b.f3.length c3] 167))
     have HV1:=am (Kd.R_alloc HV.out (.cells #[ii b.f0,ii b.f1,ii b.f2,.slice A3 b.f3.length c3] 167))
     have HG1:=am (Kd.C_alloc HG.out (.cells #[ii b.f0,ii b.f1,ii b.f2,.slice A3 b.f3.length c3] 167))
     have HX:=am (blk_new wr (.cells #[ii b.f0,ii b.f1,ii b.f2,.slice A3 b.f3.length c3] 167))
     go_wp2_with fail
     refine (pit_barrow_part.calls FU _ _ _ _ _ _ _ _ _ _ HG1.out HL3.out HPS.out).mono ?_
     rintro e w5 ⟨rfl,hb⟩
     have HN2:=am (below_then HN1.out (below_size HN1.out) hb)
     have HV2:=am (Kd.R_below HV1.out hb)
     have HX1:=am (blk_below HX.out hb)
     clear hb hx0 hx1 hx2 hx3
     have HN3:=am (below_alloc HN2.out (.cells #[ii n.f0,ii n.f1] 43))
     have HV3:=am (Kd.R_alloc HV2.out (.cells #[ii n.f0,ii n.f1] 43))
     have HX2:=am (blk_alloc HX1.out (.cells #[ii n.f0,ii n.f1] 43))
     by_cases hn0 : n.f0 > 0
     ·
      have g0:=bd HX2.out 0
      have HZ:=am (HN3.out.size)
      have HGT:=am hn0
      go_wp2_with (at_builtin;refine Kd.R_append k89 (w0:=w2) w2.heap.size rfl _ _ 55 89 (.agg #[ii 0,ii 0,ii 0]) 24 rfl Tryz.underlying55 info89 rfl (by decide) (by decide) (.slice Av qq.length cv) qq ⟨b.f0,n⟩ [ii b.f0,ii n.f0,ii n.f1] (fun _ => True) (fun _ => False) rfl (by rw [show (w5.alloc (.cells #[ii n.f0,ii n.f1] 43)).heap.size = w5.heap.size + 1 by simp];rfl) (k89_mkM _ _ _ ⟨b.f0,n⟩) (fun _ h => h.elim) (fun _ _ => trivial) HV3.out HN3.out HZ.out (by have:=HQL.out;omega) ?_;intro v3 w8 hr3 hb3 hg3 hat3;have HR3:=am hr3;have HB3:=am hb3;clear hr3 hb3 hg3 hat3 g0)
      go_roundw
      case rel => exact ⟨j + 1,by omega,by go_num,HB3,⟨by rw [HT9.out,if_pos HGT.out];exact HR3.out⟩⟩
      case measure => simp [intOf];omega
     ·
      have HGT:=am hn0
      go_wp2
      go_roundw
      case rel => exact ⟨j + 1,by omega,by go_num,HN3,⟨by rw [HT9.out,if_neg (by have:=HGT.out;omega),List.append_nil];exact HV3.out⟩⟩
      case measure => simp [intOf];omega
    ·
     have hje : j = Y.barrows.length:=by omega
     have HW9:=am (show qq = wentP Y.barrows pour by rw [HQQ.out,hje,List.take_length])
     have HR9:=am (blk_below HR3.out HN.out)
     have HT9:=am (blk_below HT2.out HN.out)
     have HB9:=am (below_then HB5.out (below_size HB5.out) HN.out)
     have HY9:=am (HY1.out.move HN.out)
     have HV9:=am HV.out
     clear HN HV hje
     have HPF:=am HWF.out.flat
     have HL0:=am (show (partsP Y.pits.flatten).length ≤ 10000000 from by have h1:=partsP_len HPF.out.2;have h2:=HPF.out.1;omega)
     obtain ⟨Ap,cp,hp,hlp,hCp⟩:=Kd.R_reads HY9.out.pits
     have g1 : wr.cell? ⟨L.g,1,none⟩ = some (.slice Ap Y.pits.length cp):=(blk_cell HY9.out.blk 1).trans (by rw [← hp];rfl)
     have HCP:=am hCp
     have HLP:=am hlp
     clear hp hlp hCp
     go_wp2_with fail
     refine (concat_calls Ap cp Y.pits wr L.Not HCP.out HLP.out (by have:=HPF.out.1;omega)).mono ?_
     rintro e w6 ⟨v,rfl,hb,hR⟩
     obtain ⟨fl,hfl⟩ : ∃ fl,fl = Y.pits.flatten:=⟨_,rfl⟩
     rw [← hfl] at hR HPF HL0
     have HFL:=am hfl
     clear hfl
     obtain ⟨A6,c6,rfl⟩:=Kd.R_slice hR
     have HC6:=am (C_of_ft (Kd.R_reads' hR).2.2 (fun k _ hlt => hb.block k hlt))
     have HL6:=am (Kd.R_reads' hR).2.1
     have HR91:=am (blk_below HR9.out hb)
     have HT91:=am (blk_below HT9.out hb)
     have HB91:=am (below_then HB9.out (below_size HB9.out) hb)
     have HY91:=am (HY9.out.move hb)
     have HV91:=am (Kd.R_below HV9.out hb)
     clear hb hR g1
     go_wp2_with fail
     refine (of_calls w6 A6 c6 fl pour HC6.out HL6.out HL0.out).mono ?_
     rintro e w7 ⟨hb,A7,c7,rfl,hl7,hC7⟩
     have HC7:=am hC7
     have HL7:=am hl7
     have HR92:=am (blk_below HR91.out hb)
     have HT92:=am (blk_below HT91.out hb)
     have HB92:=am (below_then HB91.out (below_size HB91.out) hb)
     have HY92:=am (HY91.out.move hb)
     have HV92:=am (Kd.R_below HV91.out hb)
     clear hb hC7 hl7
     go_wp2_with fail
     refine (total114_calls A7 c7 (ofL pour (partsP fl)) idR 117 #[] (fun _ => True) w7 HC7.out HL7.out ek117 trivial (fun _ _ _ _ => trivial) (fun r w _ _ => own_calls r w)).mono ?_
     rintro e w8 ⟨rfl,hb⟩
     rw [totalE_eq]
     have HR93:=am (blk_below HR92.out hb)
     have HT93:=am (blk_below HT92.out hb)
     have HB93:=am (below_then HB92.out (below_size HB92.out) hb)
     have HY93:=am (HY92.out.move hb)
     have HV93:=am (Kd.R_below HV92.out hb)
     clear hb
     have HSZ8:=am (show W.heap.size + 1 + 1 < w8.heap.size from blk_lt HT93.out)
     obtain ⟨n1,hn1⟩ : ∃ n1,n1 = (leftP Y pour).getD ⟨0,0⟩:=⟨_,rfl⟩
     obtain ⟨k1,hk1⟩ : ∃ k1,k1 = (leftP Y pour).isSome:=⟨_,rfl⟩
     rw [show (totalP idR (ofL pour (partsP fl))).getD ⟨0,0⟩ = n1 from by rw [HFL.out];exact hn1.symm,show (totalP idR (ofL pour (partsP fl))).isSome = k1 from by rw [HFL.out];exact hk1.symm]
     have HN1:=am hn1
     have HK1:=am hk1
     clear hn1 hk1
     have HR94:=am (blk_alloc HR93.out (.cells #[ii n1.f0,ii n1.f1] 43))
     have HT94:=am (blk_alloc HT93.out (.cells #[ii n1.f0,ii n1.f1] 43))
     have HB94:=am (below_alloc HB93.out (.cells #[ii n1.f0,ii n1.f1] 43))
     have HY94:=am (HY93.out.move (below_alloc (Below.refl _ _) (.cells #[ii n1.f0,ii n1.f1] 43)))
     have HV94:=am (Kd.R_alloc HV93.out (.cells #[ii n1.f0,ii n1.f1] 43))
     have HP:=am (blk_new w8 (.cells #[ii n1.f0,ii n1.f1] 43))
     obtain ⟨Aq,cq,hp,hlp,hCq⟩:=Kd.R_reads HY94.out.lost
     have g5 : (w8.alloc (.cells #[ii n1.f0,ii n1.f1] 43)).cell? ⟨L.g,5,none⟩ = some (.slice Aq Y.lost.length cq):=(blk_cell HY94.out.blk 5).trans (by rw [← hp];rfl)
     have HCQ:=am (show Kd.C k212 (w8.alloc (.cells #[ii n1.f0,ii n1.f1] 43)) Aq Y.lost.length Y.lost from hCq.imp_ (Below.refl _ _) fun _ _ hp => Foot.now hp)
     have HLQ:=am hlp
     clear hp hlp hCq
     have HLO:=am (show (partsP Y.lost).length ≤ 10000000 from by have h1:=partsP_len HWF.out.lost;have h2:=HWF.out.nlost;have h3:=HSL.out;omega)
     go_wp2_with fail
     refine (of_calls (w8.alloc (.cells #[ii n1.f0,ii n1.f1] 43)) Aq cq Y.lost pour HCQ.out HLQ.out HLO.out).mono ?_
     rintro e w9 ⟨hb,A8,c8,rfl,hl8,hC8⟩
     have HC8:=am hC8
     have HL8:=am hl8
     have HR95:=am (blk_below HR94.out hb)
     have HT95:=am (blk_below HT94.out hb)
     have HB95:=am (below_then HB94.out (below_size HB94.out) hb)
     have HV95:=am (Kd.R_below HV94.out hb)
     have HP1:=am (blk_below HP.out hb)
     clear hb hC8 hl8 g5
     go_wp2_with fail
     refine (total114_calls A8 c8 (ofL pour (partsP Y.lost)) idR 117 #[] (fun _ => True) w9 HC8.out HL8.out ek117 trivial (fun _ _ _ _ => trivial) (fun r w _ _ => own_calls r w)).mono ?_
     rintro e w10 ⟨rfl,hb⟩
     rw [totalE_eq]
     have HR96:=am (blk_below HR95.out hb)
     have HT96:=am (blk_below HT95.out hb)
     have HB96:=am (below_then HB95.out (below_size HB95.out) hb)
     have HV96:=am (Kd.R_below HV95.out hb)
     have HP2:=am (blk_below HP1.out hb)
     clear hb
     have HSZ9:=am (show w8.heap.size < w10.heap.size from blk_lt HP2.out)
     obtain ⟨n2,hn2⟩ : ∃ n2,n2 = (lostP Y pour).getD ⟨0,0⟩:=⟨_,rfl⟩
     obtain ⟨k2,hk2⟩ : ∃ k2,k2 = (lostP Y pour).isSome:=⟨_,rfl⟩
     rw [show (totalP idR (ofL pour (partsP Y.lost))).getD ⟨0,0⟩ = n2 from hn2.symm,show (totalP idR (ofL pour (partsP Y.lost))).isSome = k2 from hk2.symm]
     have HN2:=am hn2
     have HK2:=am hk2
     clear hn2 hk2
     have HR97:=am (blk_alloc HR96.out (.cells #[ii n2.f0,ii n2.f1] 43))
     have HT97:=am (blk_alloc HT96.out (.cells #[ii n2.f0,ii n2.f1] 43))
     have HB97:=am (below_alloc HB96.out (.cells #[ii n2.f0,ii n2.f1] 43))
     have HV97:=am (Kd.R_alloc HV96.out (.cells #[ii n2.f0,ii n2.f1] 43))
     have HP3:=am (blk_alloc HP2.out (.cells #[ii n2.f0,ii n2.f1] 43))
     have HH:=am (blk_new w10 (.cells #[ii n2.f0,ii n2.f1] 43))
     cases k1 with
    |false =>
      have HE:=am (show q = ([],⟨0,0⟩,⟨0,0⟩,3) by rw [HQ1.out];rw [if_neg (by rw [← HK1.out];simp)])
      have u0:=bd HR97.out 0
      have fu0:=blk_frozen HR97.out 0
      have u1:=bd HR97.out 1
      have fu1:=blk_frozen HR97.out 1
      have v0:=bd HT97.out 0
      have fv0:=blk_frozen HT97.out 0
      have v1:=bd HT97.out 1
      have fv1:=blk_frozen HT97.out 1
      go_wp2
      rw [HE.out]
      have by_:=blk_far (p:=⟨W.heap.size + 1 + 1,1,none⟩) (blk_far (p:=⟨W.heap.size + 1 + 1,0,none⟩) (blk_put (cs':=#[ii 0,ii 0]) (blk_put (cs':=#[ii 0,ii 0]) (HR97.out) 0 (ii 0) rfl) 1 (ii 0) rfl) (by simp) (ii 0)) (by simp) (ii 0)
      have bz:=blk_put (cs':=#[ii 0,ii 0]) (blk_put (cs':=#[ii 0,ii 0]) (blk_far (p:=⟨W.heap.size + 1,1,none⟩) (blk_far (p:=⟨W.heap.size + 1,0,none⟩) (HT97.out) (by simp) (ii 0)) (by simp) (ii 0)) 0 (ii 0) rfl) 1 (ii 0) rfl
      have y0:=bd by_ 0
      have y1:=bd by_ 1
      have z0:=bd bz 0
      have z1:=bd bz 1
      exact bodyPost_ret (v:=.tuple #[.slice none 0 0,.agg #[ii 0,ii 0],.agg #[ii 0,ii 0],ii 3]) (by simp [results,Tryz.results36,go_sem,y0,y1,z0,z1,hu43]) rfl ⟨((((HB97.out).setCell (p:=⟨W.heap.size + 1,0,none⟩) (by first|(simp;done)|(simp;omega)) (ii 0)).setCell (p:=⟨W.heap.size + 1,1,none⟩) (by first|(simp;done)|(simp;omega)) (ii 0)).setCell (p:=⟨W.heap.size + 1 + 1,0,none⟩) (by first|(simp;done)|(simp;omega)) (ii 0)).setCell (p:=⟨W.heap.size + 1 + 1,1,none⟩) (by first|(simp;done)|(simp;omega)) (ii 0),none,0,rfl,Nat.le_refl 0,Kd.F_nil k89 _ _⟩
    |true =>
      cases k2 with
     |false =>
       have HE:=am (show q = ([],⟨0,0⟩,⟨0,0⟩,3) by rw [HQ1.out];rw [if_pos HK1.out.symm,if_neg (by rw [← HK2.out];simp)])
       have u0:=bd HR97.out 0
       have fu0:=blk_frozen HR97.out 0
       have u1:=bd HR97.out 1
       have fu1:=blk_frozen HR97.out 1
       have v0:=bd HT97.out 0
       have fv0:=blk_frozen HT97.out 0
       have v1:=bd HT97.out 1
       have fv1:=blk_frozen HT97.out 1
       go_wp2
       rw [HE.out]
       have by_:=blk_far (p:=⟨W.heap.size + 1 + 1,1,none⟩) (blk_far (p:=⟨W.heap.size + 1 + 1,0,none⟩) (blk_put (cs':=#[ii 0,ii 0]) (blk_put (cs':=#[ii 0,ii 0]) (HR97.out) 0 (ii 0) rfl) 1 (ii 0) rfl) (by simp) (ii 0)) (by simp) (ii 0)
       have bz:=blk_put (cs':=#[ii 0,ii 0]) (blk_put (cs':=#[ii 0,ii 0]) (blk_far (p:=⟨W.heap.size + 1,1,none⟩) (blk_far (p:=⟨W.heap.size + 1,0,none⟩) (HT97.out) (by simp) (ii 0)) (by simp) (ii 0)) 0 (ii 0) rfl) 1 (ii 0) rfl
       have y0:=bd by_ 0
       have y1:=bd by_ 1
       have z0:=bd bz 0
       have z1:=bd bz 1
       exact bodyPost_ret (v:=.tuple #[.slice none 0 0,.agg #[ii 0,ii 0],.agg #[ii 0,ii 0],ii 3]) (by simp [results,Tryz.results36,go_sem,y0,y1,z0,z1,hu43]) rfl ⟨((((HB97.out).setCell (p:=⟨W.heap.size + 1,0,none⟩) (by first|(simp;done)|(simp;omega)) (ii 0)).setCell (p:=⟨W.heap.size + 1,1,none⟩) (by first|(simp;done)|(simp;omega)) (ii 0)).setCell (p:=⟨W.heap.size + 1 + 1,0,none⟩) (by first|(simp;done)|(simp;omega)) (ii 0)).setCell (p:=⟨W.heap.size + 1 + 1,1,none⟩) (by first|(simp;done)|(simp;omega)) (ii 0),none,0,rfl,Nat.le_refl 0,Kd.F_nil k89 _ _⟩
     |true =>
       have HE:=am (show q = (qq,n1,n2,0) by rw [HQ1.out,if_pos HK1.out.symm,if_pos HK2.out.symm,← HN1.out,← HN2.out,← HW9.out])
       have HS1:=am (show W.heap.size + 1 + 1 < w8.heap.size ∧ w8.heap.size < w10.heap.size from ⟨HSZ8.out,HSZ9.out⟩)
       have HR98:=am (blk_drew HR97.out)
       have HT98:=am (blk_drew HT97.out)
       have HB98:=am (below_drew HB97.out)
       have HV98:=am (Kd.R_drew HV97.out)
       have HP4:=am (blk_drew HP3.out)
       have HH1:=am (blk_drew HH.out)
       go_wp2
       refine start_ (n:=7) (S:=fun w' => w'.cell? ⟨w8.heap.size,0,none⟩ = some (ii n1.f0) ∧ w'.cell? ⟨w8.heap.size,1,none⟩ = some (ii n1.f1) ∧ w'.cell? ⟨w10.heap.size,0,none⟩ = some (ii n2.f0) ∧ w'.cell? ⟨w10.heap.size,1,none⟩ = some (ii n2.f1)) (ds:=[5]) (ab 7 0) kr rfl kr ⟨(blk_cell HP4.out 0).trans rfl,(blk_cell HP4.out 1).trans rfl,(blk_cell HH1.out 0).trans rfl,(blk_cell HH1.out 1).trans rfl⟩ (fun hHeld => ?_);refine with_tabW R36_18.tab R36_18.bits (fun HT_ HW_ => ?_)
       generalize ((w10.alloc (.cells #[ii n2.f0,ii n2.f1] 43))).drew = wd at HR98 HT98 HB98 HV98 HP4 HH1 hHeld ⊢
       refine qA 0 (some 86) ?_;refine qT 1 (some 87) ?_;refine qT 2 (some 88) ?_;refine qA 3 (some 4) ?_
       refine qE 4 (none) fun K hK => ?_
       have u0:=bd HR98.out 0
       have fu0:=blk_frozen HR98.out 0
       have u1:=bd HR98.out 1
       have fu1:=blk_frozen HR98.out 1
       refine skip_ (w1:=?_) (by rfl) rfl ?_ ?_
       rotate_left
       ·go_simp
        rfl
       have HT99:=am (blk_far (p:=⟨W.heap.size + 1,1,none⟩) (blk_far (p:=⟨W.heap.size + 1,0,none⟩) (HT98.out) (by have h1:=HS1.out;(try dsimp only);omega) (ii n1.f0)) (by have h1:=HS1.out;(try dsimp only);omega) (ii n1.f1))
       have HP5:=am (blk_far (p:=⟨W.heap.size + 1,1,none⟩) (blk_far (p:=⟨W.heap.size + 1,0,none⟩) (HP4.out) (by have h1:=HS1.out;(try dsimp only);omega) (ii n1.f0)) (by have h1:=HS1.out;(try dsimp only);omega) (ii n1.f1))
       have HH2:=am (blk_far (p:=⟨W.heap.size + 1,1,none⟩) (blk_far (p:=⟨W.heap.size + 1,0,none⟩) (HH1.out) (by have h1:=HS1.out;(try dsimp only);omega) (ii n1.f0)) (by have h1:=HS1.out;(try dsimp only);omega) (ii n1.f1))
       refine hK.out _ _ ⟨(blk_cell HP5.out 0).trans rfl,(blk_cell HP5.out 1).trans rfl,(blk_cell HH2.out 0).trans rfl,(blk_cell HH2.out 1).trans rfl⟩ (fun hHeld => ?_)
       clear hK K
       refine qL 5 (none) fun K hK => ?_
       have v0:=bd HT99.out 0
       have fv0:=blk_frozen HT99.out 0
       have v1:=bd HT99.out 1
       have fv1:=blk_frozen HT99.out 1
       refine skip_ (w1:=?_) (by rfl) rfl ?_ ?_
       rotate_left
       ·go_simp
        rfl
       refine hK.out _ _ ?_
       clear hK K
       refine qA 6 (some 7) ?_
       refine done_ (done_of HT_.out kr) ?_
       go_wp2
       rw [HE.out]
       have HVZ:=am (R89_far (R89_far (R89_far (R89_far (HV98.out) ⟨W.heap.size + 1,0,none⟩ (by have h1:=HLW.out;(try dsimp only);omega) (ii n1.f0)) ⟨W.heap.size + 1,1,none⟩ (by have h1:=HLW.out;(try dsimp only);omega) (ii n1.f1)) ⟨W.heap.size + 1 + 1,0,none⟩ (by have h1:=HLW.out;(try dsimp only);omega) (ii n2.f0)) ⟨W.heap.size + 1 + 1,1,none⟩ (by have h1:=HLW.out;(try dsimp only);omega) (ii n2.f1))
       have by_:=blk_far (p:=⟨W.heap.size + 1 + 1,1,none⟩) (blk_far (p:=⟨W.heap.size + 1 + 1,0,none⟩) (blk_put (cs':=#[ii n1.f0,ii n1.f1]) (blk_put (cs':=#[ii n1.f0,ii 0]) (HR98.out) 0 (ii n1.f0) rfl) 1 (ii n1.f1) rfl) (by simp) (ii n2.f0)) (by simp) (ii n2.f1)
       have bz:=blk_put (cs':=#[ii n2.f0,ii n2.f1]) (blk_put (cs':=#[ii n2.f0,ii 0]) (blk_far (p:=⟨W.heap.size + 1,1,none⟩) (blk_far (p:=⟨W.heap.size + 1,0,none⟩) (HT98.out) (by simp) (ii n1.f0)) (by simp) (ii n1.f1)) 0 (ii n2.f0) rfl) 1 (ii n2.f1) rfl
       have y0:=bd by_ 0
       have y1:=bd by_ 1
       have z0:=bd bz 0
       have z1:=bd bz 1
       exact bodyPost_ret (v:=.tuple #[.slice Av qq.length cv,.agg #[ii n1.f0,ii n1.f1],.agg #[ii n2.f0,ii n2.f1],ii 0]) (by simp [results,Tryz.results36,go_sem,y0,y1,z0,z1,hu43]) rfl ⟨((((HB98.out).setCell (p:=⟨W.heap.size + 1,0,none⟩) (by first|(simp;done)|(simp;omega)) (ii n1.f0)).setCell (p:=⟨W.heap.size + 1,1,none⟩) (by first|(simp;done)|(simp;omega)) (ii n1.f1)).setCell (p:=⟨W.heap.size + 1 + 1,0,none⟩) (by first|(simp;done)|(simp;omega)) (ii n2.f0)).setCell (p:=⟨W.heap.size + 1 + 1,1,none⟩) (by first|(simp;done)|(simp;omega)) (ii n2.f1),Av,cv,rfl,(Kd.R_reads' HVZ.out).2.1,Kd.R_F (Kd.R_reok rfl HVZ.out fun k hk => by have h1:=Kd.R_base HVZ.out k hk;have h2:=HLW.out;omega)⟩
section
def cells84 (x : S84) : List Value:=[ii x.f0,ii x.f1,ii x.f2,ii x.f3,ii x.f4,ii x.f5]
theorem size84_ : (Tryz.prog.info? 84).map (·.size) = some 6:=by kernel_rfl
theorem exec_store {P : Program} {ρ : Operand → Value} {oi : Oper} {t : TypeId} {p q : Operand} {u v : Value} {w w1 : World} (ho : oi.op = .store t p q) (hp : ρ p = u) (hq : ρ q = v) (hrun : (Instr.storeAt t u v).run P w = .ok () w1) : (execOp ρ oi).run P w = .ok .skip w1:=by
 unfold execOp
 simp only [ho,hp,hq,Sem.run_bind,Sem.run_pure,Result.andThen_ok,hrun]
theorem below_grown {N : Nat} {w0 w w1 : World} {g : Nat} (h : Below N w0 w) (hN : N ≤ w.heap.size) (hg : w.grownBy w1 (some g)) (hb : N ≤ g) : Below N w0 w1 :=
 h.trans ⟨hg.os,hg.tape,hg.output,hg.size,fun k hk => hg.block k (Nat.lt_of_lt_of_le hk hN) (fun e => by injection e with e;omega)⟩
theorem R84_of_ft {W w : World} {okf ok : Nat → Prop} {N : Nat} {v : Value} {l : List S84} (h : (ft k84 W okf).R 84 w N ok v l) : k84.R 84 w N ok v l :=
 ⟨h.1,h.2.imp_ (fun x cs (hp : Kd.FK k84 W okf x cs) => by
  obtain rfl:=k84_open (Foot.now hp)
  exact k84_mkM _ _ _ x)⟩
theorem R3_of_ft {W w : World} {okf ok : Nat → Prop} {N : Nat} {v : Value} {l : List Int} (h : (ft (Kd.int .i64) W okf).R 3 w N ok v l) : (Kd.int .i64).R 3 w N ok v l :=
 ⟨h.1,h.2.imp_ (fun x cs (hp : Kd.FK (Kd.int .i64) W okf x cs) => Foot.now hp)⟩
section
variable {w : World} {N g n cap i : Nat} {ok : Nat → Prop} {ls : List S84}
set_option maxRecDepth 100000 in
theorem row84_set (HO : k84.R 84 w N ok (.slice (some ⟨g,0,none⟩) n cap) ls) (hi : i < n) (x : S84) :
  (Instr.storeAt 84 (.pointer (some ⟨g,i * 6,none⟩)) (.agg #[ii x.f0,ii x.f1,ii x.f2,ii x.f3,ii x.f4,ii x.f5])).run Tryz.prog w = .ok () (w.setCells g (i * 6) (cells84 x)) ∧ k84.R 84 (w.setCells g (i * 6) (cells84 x)) N ok (.slice (some ⟨g,0,none⟩) n cap) (ls.set i x) ∧ w.grownBy (w.setCells g (i * 6) (cells84 x)) (some g):=by
 obtain ⟨cc,hcl,hM,hcc,hfr⟩:=Kd.R_elem HO z84 (i : Int) (by omega) (by omega)
 have hseg:=Kd.R_seg HO (i : Int) (by omega) (by omega) (c:=cc) (seg:=cells84 x) (j:=0) hcl hcc (Nat.le_refl 6) (x':=x) (okp:=fun _ => False) (by
  rw [List.take_zero,List.nil_append,List.drop_eq_nil_of_le (by rw [hcl];exact Nat.le_refl 6),List.append_nil]
  exact k84_mkM w N _ x) (fun k hk => hk.elim)
 rw [Int.toNat_natCast] at hseg
 refine ⟨?_,hseg.1,hseg.2⟩
 have hnx : n = ls.length:=(Kd.R_reads' HO).1
 obtain ⟨_,inner,hown,hr⟩:=HO
 rcases hown.2 with ⟨hv,_⟩|⟨g',cap',cur,hv,hb,hh,hnc,hcm,hcs,_⟩
 ·cases hv
 injection hv with ha _ hc
 injection ha with ha
 injection ha with hg'
 subst hg'
 subst hc
 have hcs' : cur.size = cap * 6:=hcs
 refine run_store_run (e:=84) 84 _ (cells84 x) hh rfl size84_ ?_ ?_
 ·have h2 : i * 6 + 6 ≤ n * 6:=by omega
  have h3 : n * 6 ≤ cap * 6:=Nat.mul_le_mul_right _ (by omega)
  show i * 6 + 6 ≤ _
  omega
 ·intro q hq
  unfold cells84 at hq
  simp only [List.mem_cons,List.not_mem_nil,or_false] at hq
  rcases hq with rfl|rfl|rfl|rfl|rfl|rfl <;> rfl
theorem row84_day (HO : k84.R 84 w N ok (.slice (some ⟨g,0,none⟩) n cap) ls) (hi : i < n) (d : Int) :
  k84.R 84 (w.setCell ⟨g,i * 6 + 2,none⟩ (ii d)) N ok (.slice (some ⟨g,0,none⟩) n cap) (ls.set i { ls.getD i z84 with f2:=d }) ∧ w.grownBy (w.setCell ⟨g,i * 6 + 2,none⟩ (ii d)) (some g) ∧ w.cell? ⟨g,i * 6 + 2,none⟩ = some (ii (ls.getD i z84).f2) ∧ w.frozen? ⟨g,i * 6 + 2,none⟩ = false:=by
 obtain ⟨cc,hcl,hM,hcc,hfr⟩:=Kd.R_elem HO z84 (i : Int) (by omega) (by omega)
 rw [Int.toNat_natCast] at hM hcc hfr
 obtain ⟨x,hx⟩ : ∃ x,x = ls.getD i z84:=⟨_,rfl⟩
 rw [← hx] at hM ⊢
 obtain rfl:=k84_openM hM
 have hseg:=Kd.R_seg HO (i : Int) (by omega) (by omega) (seg:=[ii d]) (j:=2) hcl (by rw [Int.toNat_natCast];exact hcc) (show 2 + 1 ≤ 6 by omega) (x':={ x with f2:=d }) (okp:=fun _ => False) (k84_mkM w N _ { x with f2:=d }) (fun k hk => hk.elim)
 rw [Int.toNat_natCast] at hseg
 exact ⟨hseg.1,hseg.2,hcc 2 _ rfl,hfr 2⟩
end
def swapP (l : List S84) (k : Nat) : List S84:=(l.set k { rd_T84 l ((k + 1 : Nat) : Int) with f2:=(rd_T84 l (k : Int)).f2 }).set (k + 1) { rd_T84 l (k : Int) with f2:=(rd_T84 l ((k + 1 : Nat) : Int)).f2 }
theorem getD84_set {l : List S84} {i t : Nat} (x : S84) (hi : i < l.length) : (l.set i x).getD t z84 = if t = i then x else l.getD t z84:=getD_set_ l i t x z84 hi
theorem swap_steps {l : List S84} {k : Nat} (h : k + 1 < l.length) (s0 s1 : S84) (h0 : s0 = rd_T84 l (k : Int)) (h1 : s1 = rd_T84 l ((k + 1 : Nat) : Int)) :
  ((((l.set k s1).set (k + 1) s0).set k { ((l.set k s1).set (k + 1) s0).getD k z84 with f2:=s0.f2 }).set (k + 1) { (((l.set k s1).set (k + 1) s0).set k { ((l.set k s1).set (k + 1) s0).getD k z84 with f2:=s0.f2 }).getD (k + 1) z84 with f2:=s1.f2 }) = swapP l k:=by
 have e1 : ((l.set k s1).set (k + 1) s0).getD k z84 = s1:=by
  rw [getD84_set s0 (by rw [List.length_set];omega),if_neg (by omega),getD84_set s1 (by omega),if_pos rfl]
 rw [e1]
 have e2 : ∀ y,(((l.set k s1).set (k + 1) s0).set k y).getD (k + 1) z84 = s0:=by
  intro y
  rw [getD84_set y (by rw [List.length_set,List.length_set];omega),if_neg (by omega),getD84_set s0 (by rw [List.length_set];omega),if_pos rfl]
 rw [e2]
 unfold swapP
 rw [← h0,← h1]
 apply List.ext_getElem?
 intro t
 simp only [List.getElem?_set,List.length_set]
 by_cases ht1 : k + 1 = t
 ·subst ht1;simp
 ·by_cases ht0 : k = t
  ·subst ht0;simp
  ·simp [ht1,ht0]
theorem swapP_length (l : List S84) (k : Nat) : (swapP l k).length = l.length:=by unfold swapP;rw [List.length_set,List.length_set]
end
def R44_6.T : Bool × List (List Nat × List Nat):=(true,[([],[]),([0],[0]),([1],[1]),([],[]),([3],[3]),([4,2],[4]),([2,5],[2,5]),([],[]),([7,6,5,0,1,2,3,4,5,6,7],[6,7])])
def R44_6.B : List Nat:=[0,1,3,0,8,31,63,0,255]
theorem R44_6.tab : rtab .any (opsOf Tryz.f44 6) = R44_6.T:=by kernel_rfl
theorem R44_6.bits : waitsOk R44_6.T.2 R44_6.B = true:=by kernel_rfl
def R44_7.T : Bool × List (List Nat × List Nat):=(true,[([],[]),([0],[0]),([],[]),([2],[2]),([1,3],[1,3]),([],[]),([5],[5]),([],[]),([6,7],[6,7]),([4,0,1,2,3,4],[4]),([8,9,0,1,2,3,4,5,6,7,8,9],[8])])
def R44_7.B : List Nat:=[0,1,0,4,15,0,32,0,224,31,1023]
theorem R44_7.tab : rtab .any (opsOf Tryz.f44 7) = R44_7.T:=by kernel_rfl
theorem R44_7.bits : waitsOk R44_7.T.2 R44_7.B = true:=by kernel_rfl
def R44_8.T : Bool × List (List Nat × List Nat):=(true,[([],[]),([],[]),([],[]),([2],[2]),([3],[3]),([],[]),([5],[5]),([6],[6]),([0,0,2,3,4,7],[0]),([8,4,0,2,3,4,7],[4,8]),([1,0,1,2,3,4,5,6,7,8,9],[1]),([10,7,9,0,1,2,3,4,5,6,7,8,9],[7,10])])
def R44_8.B : List Nat:=[0,0,0,4,12,0,32,96,253,509,1023,2047]
theorem R44_8.tab : rtab .any (opsOf Tryz.f44 8) = R44_8.T:=by kernel_rfl
theorem R44_8.bits : waitsOk R44_8.T.2 R44_8.B = true:=by kernel_rfl
def R44_9.T : Bool × List (List Nat × List Nat):=(true,[([],[]),([],[]),([],[]),([2],[2]),([3],[3]),([4],[4]),([],[]),([6],[6]),([7],[7]),([8],[8]),([0,0,2,3,4,5,9],[0]),([10,0,2,3,4,5,9],[10]),([11,5,0,2,3,4,5,9],[5,11]),([1,0,1,2,3,4,5,6,7,8,9,10,11,12],[1]),([13,0,1,2,3,4,5,6,7,8,9,10,11,12],[13]),([14,9,12,0,1,2,3,4,5,6,7,8,9,10,11,12],[9,14])])
def R44_9.B : List Nat:=[0,0,0,4,12,28,0,64,192,448,1021,2045,4093,8191,16383,32767]
theorem R44_9.tab : rtab .any (opsOf Tryz.f44 9) = R44_9.T:=by kernel_rfl
theorem R44_9.bits : waitsOk R44_9.T.2 R44_9.B = true:=by kernel_rfl
def R44_13.T : Bool × List (List Nat × List Nat):=(true,[([],[]),([],[]),([],[]),([1,2],[1,2]),([0,3,0],[0]),([3,4,0,1,2,3,4],[3]),([5,0,1,2,3,4,5],[])])
def R44_13.B : List Nat:=[0,0,0,6,15,31,63]
theorem R44_13.tab : rtab .any (opsOf Tryz.f44 13) = R44_13.T:=by kernel_rfl
theorem R44_13.bits : waitsOk R44_13.T.2 R44_13.B = true:=by kernel_rfl
theorem heap84 : Kd.Heap k84:=Kd.heap_iso _ (Kd.heap_pair (Kd.heap_int _) (Kd.heap_pair (Kd.heap_int _) (Kd.heap_pair (Kd.heap_int _) (Kd.heap_pair (Kd.heap_int _) (Kd.heap_pair (Kd.heap_int _) (Kd.heap_int _))))))
def swapR (rooms : List Int) (stirs : List S84) (step : Int) : Except (Int × Int) Yd:=playedP rooms (swapP stirs (step.toNat - 1)) (swapP stirs (step.toNat - 1)).length
def SwapPost (W : World) (rooms : List Int) (stirs : List S84) (step : Int) (e : Ending) (W' : World) : Prop :=
 Below W.heap.size W W' ∧ (match playedP rooms stirs stirs.length with
 |.error x => e = .returned (.tuple #[.agg #[.slice none 0 0,.slice none 0 0],.bool false,ii x.1])
 |.ok Y => if inP step 1 ((stirs.length : Int) - 1) = true then (match swapR rooms stirs step with
   |.error x => e = .returned (.tuple #[.agg #[.slice none 0 0,.slice none 0 0],.bool false,ii x.1])
   |.ok Z => ∃ (A5 A6 : Option Addr) (c5 c6 : Nat),e = .returned (.tuple #[.agg #[.slice A5 rooms.length c5,.slice A6 stirs.length c6],.bool (alikeP Y Z),ii 0]) ∧ rooms.length ≤ c5 ∧ stirs.length ≤ c6 ∧ Kd.F (Kd.int .i64) W' (fun k => W.heap.size ≤ k) A5 rooms.length rooms ∧ Kd.F k84 W' (fun k => W.heap.size ≤ k) A6 stirs.length (swapP stirs (step.toNat - 1)))
   else e = .returned (.tuple #[.agg #[.slice none 0 0,.slice none 0 0],.bool false,ii 1]))
set_option maxRecDepth 100000 in
set_option maxHeartbeats 800000 in
theorem swap_calls (A A2 : Option Addr) (c c2 : Nat) (rooms : List Int) (stirs : List S84) (W : World) (lo : Nat) (hlo : lo ≤ W.heap.size) (hC : Kd.F (Kd.int .i64) W (fun k => k < lo) A rooms.length rooms) (hc : rooms.length ≤ c) (hS : Kd.C k84 W A2 stirs.length stirs) (hc2 : stirs.length ≤ c2) (step : Int) :
  Calls Tryz.prog 44 #[.agg #[.slice A rooms.length c,.slice A2 stirs.length c2],ii step] W fun e W' => SwapPost W rooms stirs step e W':=by
 have hu:=Tryz.underlying32
 have hu84:=Tryz.underlying84
 have hsm:=hS.2.1
 have hrm:=(Kd.F_now hC).2.1
 have HC:=am (hC)
 have HS:=am (hS)
 have HB:=am (Below.refl W.heap.size W)
 have HC1:=am (Kd.F_alloc HC.out (.cells #[.slice A rooms.length c,.slice A2 stirs.length c2] 32))
 have HS1:=am (Kd.C_alloc HS.out (.cells #[.slice A rooms.length c,.slice A2 stirs.length c2] 32))
 have HB1:=am (below_alloc HB.out (.cells #[.slice A rooms.length c,.slice A2 stirs.length c2] 32))
 have HP:=am (blk_new W (.cells #[.slice A rooms.length c,.slice A2 stirs.length c2] 32))
 have HC2:=am (Kd.F_alloc HC1.out (.cells #[.slice none 0 0,.slice none 0 0] 32))
 have HS2:=am (Kd.C_alloc HS1.out (.cells #[.slice none 0 0,.slice none 0 0] 32))
 have HB2:=am (below_alloc HB1.out (.cells #[.slice none 0 0,.slice none 0 0] 32))
 have HP1:=am (blk_alloc HP.out (.cells #[.slice none 0 0,.slice none 0 0] 32))
 have HR:=am (blk_new' (W.alloc (.cells #[.slice A rooms.length c,.slice A2 stirs.length c2] 32)) (.cells #[.slice none 0 0,.slice none 0 0] 32) (W.heap.size + 1) (by simp))
 clear hC hS
 obtain ⟨r,hr⟩ : ∃ r,r = playedP rooms stirs stirs.length:=⟨_,rfl⟩
 have HQP:=am hr.symm
 clear hr
 go_enter Tryz.func44,Tryz.ntmps44
 go_wp2_with fail
 refine (all_calls A A2 c c2 rooms stirs _ lo (Nat.le_trans hlo (by simp;omega)) HC2.out hc HS2.out hc2).mono ?_
 rintro e w1 ⟨hb,h⟩
 rw [HQP.out] at h
 have HC3:=am (Kd.F_below HC2.out hb)
 have HS3:=am (Kd.C_below HS2.out hb)
 have HB3:=am (below_then HB2.out (below_size HB2.out) hb)
 have HP2:=am (blk_below HP1.out hb)
 have HR1:=am (blk_below HR.out hb)
 clear hb
 cases r with
|error x =>
  subst h
  have hx : ¬ x.1 = 0:=playedP_code HQP.out
  have u0:=bd HR1.out 0
  have fu0:=blk_frozen HR1.out 0
  have u1:=bd HR1.out 1
  have fu1:=blk_frozen HR1.out 1
  go_wp2
  have bz:=blk_put (cs':=#[.slice none 0 0,.slice none 0 0]) (blk_put (cs':=#[.slice none 0 0,.slice none 0 0]) (HR1.out) 0 (.slice none 0 0) rfl) 1 (.slice none 0 0) rfl
  have z0:=bd bz 0
  have z1:=bd bz 1
  exact bodyPost_ret (v:=.tuple #[.agg #[.slice none 0 0,.slice none 0 0],.bool false,ii x.1]) (by simp [results,Tryz.results44,go_sem,z0,z1,hu]) rfl ⟨((HB3.out).setCell (p:=⟨W.heap.size + 1,0,none⟩) (by first|(simp;done)|(simp;omega)) (.slice none 0 0)).setCell (p:=⟨W.heap.size + 1,1,none⟩) (by first|(simp;done)|(simp;omega)) (.slice none 0 0),by rw [HQP.out]⟩
|ok Y =>
  obtain ⟨L,base,hbase,hbad,rfl,hY⟩:=h
  have HY:=am (hY)
  clear hbase hbad hY
  obtain ⟨k1,hk1⟩ : ∃ k1,k1 = inP step 1 ((stirs.length : Int) - 1):=⟨_,rfl⟩
  have HK:=am hk1
  have HWI:=am (show pit_within.f step 1 ((stirs.length : Int) - 1) = some k1 by rw [within_some,hk1];rfl)
  clear hk1
  have hwl : IntKind.i64.wrap ((stirs.length : Int) - 1) = (stirs.length : Int) - 1:=IntWalk.i64_in _ (by omega)
  have g1:=bd HP2.out 1
  go_wp2_with fail
  refine (pit_within.calls _ _ _ _ _ HWI.out).mono ?_
  rintro e w2 ⟨rfl,m,rfl⟩
  have HC4:=am (Kd.F_drewN HC3.out m)
  have HS4:=am (Kd.C_drewN HS3.out m)
  have HB4:=am (pw_below_drewN HB3.out m)
  have HP3:=am (blk_drewN HP2.out m)
  have HR2:=am (blk_drewN HR1.out m)
  have HY1:=am (HY.out.move (pw_below_drewN (Below.refl _ _) m))
  clear g1 hwl
  generalize w1.drewN m = w2 at HC4 HS4 HB4 HP3 HR2 HY1 ⊢
  cases k1 with
 |false =>
   have u0:=bd HR2.out 0
   have fu0:=blk_frozen HR2.out 0
   have u1:=bd HR2.out 1
   have fu1:=blk_frozen HR2.out 1
   go_wp2
   have bz:=blk_put (cs':=#[.slice none 0 0,.slice none 0 0]) (blk_put (cs':=#[.slice none 0 0,.slice none 0 0]) (HR2.out) 0 (.slice none 0 0) rfl) 1 (.slice none 0 0) rfl
   have z0:=bd bz 0
   have z1:=bd bz 1
   exact bodyPost_ret (v:=.tuple #[.agg #[.slice none 0 0,.slice none 0 0],.bool false,ii 1]) (by simp [results,Tryz.results44,go_sem,z0,z1,hu]) rfl ⟨((HB4.out).setCell (p:=⟨W.heap.size + 1,0,none⟩) (by first|(simp;done)|(simp;omega)) (.slice none 0 0)).setCell (p:=⟨W.heap.size + 1,1,none⟩) (by first|(simp;done)|(simp;omega)) (.slice none 0 0),by rw [HQP.out];dsimp only;rw [if_neg (by rw [← HK.out];simp)]⟩
 |true =>
   obtain ⟨k,hk,hkl⟩ : ∃ k : Nat,step = ((k + 1 : Nat) : Int) ∧ k + 1 < stirs.length:=by
    have h:=HK.out
    unfold inP at h
    have h:=of_decide_eq_true h.symm
    exact ⟨step.toNat - 1,by omega,by omega⟩
   subst hk
   have HC5:=am (Kd.F_drew HC4.out)
   have HS5:=am (Kd.C_drew HS4.out)
   have HB5:=am (below_drew HB4.out)
   have HP4:=am (blk_drew HP3.out)
   have HR3:=am (blk_drew HR2.out)
   have HY2:=am (HY1.out.move (below_drew (Below.refl _ _)))
   have HR6:=am (show rooms.length ≤ 100000000 by have h:=(played_ok HQP.out).2.2;have:=h.1.r6;rw [h.2] at this;omega)
   have HS6:=am (show stirs.length ≤ 100000000 by have:=(played_ok HQP.out).2.1;omega)
   go_wp2
   refine start_ (n:=9) (S:=fun w' => w'.cell? ⟨W.heap.size,0,none⟩ = some (.slice A rooms.length c) ∧ w'.cell? ⟨W.heap.size,1,none⟩ = some (.slice A2 stirs.length c2)) (ds:=[8]) (ab 9 0) kr rfl kr ⟨(blk_cell HP4.out 0).trans rfl,(blk_cell HP4.out 1).trans rfl⟩ (fun hHeld => ?_);refine with_tabW R44_6.tab R44_6.bits (fun HT_ HW_ => ?_)
   generalize (w2).drew = wd at HC5 HS5 HB5 HP4 HR3 HY2 hHeld ⊢
   refine pure_ (i:=0) (N:=(some 30)) (v:=?_) (a':=?_) (ab 9 1) rfl rfl (any_of HT_.out kr) (fun _ _ _ h => h) (Or.inl ⟨by rfl,?_⟩) ?_ ?_
   rotate_left
   ·intro w'
    go_simp
    with_reducible rfl
   rotate_left
   ·exact vs
   refine take_ (i:=1) (N:=(some 31)) (v:=?_) (a':=?_) (ab 9 3) rfl rfl (take_ofW HT_.out HW_.out kr) (fun _ _ _ h => h) (Or.inl ⟨by rfl,?_⟩) hHeld ?_ ?_
   rotate_left
   ·rintro w' ⟨s0,s1⟩
    go_simp
    with_reducible rfl
   rotate_left
   ·exact vs
   refine pure_ (i:=3) (N:=(some 33)) (v:=?_) (a':=?_) (ab 9 11) rfl rfl (any_of HT_.out kr) (fun _ _ _ h => h) (Or.inl ⟨by rfl,?_⟩) ?_ ?_
   rotate_left
   ·intro w'
    go_simp
    with_reducible rfl
   rotate_left
   ·exact vs
   refine take_ (i:=4) (N:=(some 34)) (v:=?_) (a':=?_) (ab 9 27) rfl rfl (take_ofW HT_.out HW_.out kr) (fun _ _ _ h => h) (Or.inl ⟨by rfl,?_⟩) hHeld ?_ ?_
   rotate_left
   ·rintro w' ⟨s0,s1⟩
    go_simp
    with_reducible rfl
   rotate_left
   ·exact vs
   refine join_ (σ:=Value × Value × Nat) 1 (ab 9 255) (fun x => [(32,x.1),(35,x.2.1),(36,.agg #[x.1,x.2.1]),(9,.pointer (some ⟨x.2.2,0,none⟩))]) (fun x w' => Below wd.heap.size wd w' ∧ (Kd.int .i64).R 3 w' wd.heap.size (fun _ => True) x.1 rooms ∧ k84.R 84 w' wd.heap.size (fun _ => True) x.2.1 stirs ∧ w'.heap[x.2.2]? = some (.cells #[.slice none 0 0,.slice none 0 0] 32 (0,0)) ∧ wd.heap.size ≤ x.2.2) ?_ ?_
   rotate_left
   ·intro hCont
    refine two_ (i:=2) (j:=7) (Ni:=some 32) (Nj:=some 9) (ab 9 31) (ab 9 155) rfl rfl rfl rfl  (two_of HT_.out kr) (by decide) (by decide) (fun K hK => ?_) (fun K hK => ?_)
    ·skip
     refine gC Tryz.func78 #[.slice A rooms.length c] ?_
     refine (clone78_calls A c rooms _ _ (Kd.F_below HC5.out (Below.refl wd.heap.size wd)) hc HR6.out).mono ?_
     rintro e wf1 ⟨v1,rfl,hb,hR⟩
     have hB_wf1 : Below wd.heap.size wd wf1:=below_then (Below.refl wd.heap.size wd) (below_size (Below.refl wd.heap.size wd)) hb
     have hR_wf1:=R3_of_ft hR
     have hRb_wf1:=Kd.R_lower (base':=wd.heap.size) hR_wf1 (by have h:=(Below.refl wd.heap.size wd).size;first|exact h|first|(simp;done)|simpa using h)
     obtain ⟨B_wf1,b_wf1,rfl⟩:=Kd.R_slice hRb_wf1
     refine ⟨_,rfl,?_⟩
     refine hK.out _ _ ⟨(blk_cell (blk_below HP4.out hB_wf1) 0).trans rfl,(blk_cell (blk_below HP4.out hB_wf1) 1).trans rfl⟩ (fun hHeld => ?_)
     clear hK K
     refine qN (some 32) ?_
     refine two_ (i:=5) (j:=7) (Ni:=some 35) (Nj:=some 9) (ab 9 63) (ab 9 159) rfl rfl rfl rfl  (two_of HT_.out kr) (by decide) (by decide) (fun K hK => ?_) (fun K hK => ?_)
     ·skip
      refine gC Tryz.func124 #[.slice A2 stirs.length c2] ?_
      refine (clone124_calls A2 c2 stirs _ (fun k => k < wf1.heap.size) (Kd.C_F heap84 (Kd.C_below HS5.out (hB_wf1))) hc2 HS6.out).mono ?_
      rintro e wf2 ⟨v2,rfl,hb,hR⟩
      have hB_wf2 : Below wd.heap.size wd wf2:=below_then (hB_wf1) (below_size (hB_wf1)) hb
      have hR_wf2:=R84_of_ft hR
      have hRb_wf2:=Kd.R_lower (base':=wd.heap.size) hR_wf2 (by have h:=(hB_wf1).size;first|exact h|first|(simp;done)|simpa using h)
      obtain ⟨B_wf2,b_wf2,rfl⟩:=Kd.R_slice hRb_wf2
      have hr2_wf2:=Kd.R_below (hRb_wf1) hb
      refine ⟨_,rfl,?_⟩
      refine hK.out _ _ ⟨(blk_cell (blk_below HP4.out hB_wf2) 0).trans rfl,(blk_cell (blk_below HP4.out hB_wf2) 1).trans rfl⟩ (fun hHeld => ?_)
      clear hK K
      refine qN (some 35) ?_
      refine pure_ (i:=6) (N:=(some 36)) (v:=?_) (a':=?_) (ab 9 127) rfl rfl (any_of HT_.out kr) (fun _ _ _ h => h) (Or.inl ⟨by rfl,?_⟩) ?_ ?_
      rotate_left
      ·intro w'
       go_simp
       with_reducible rfl
      rotate_left
      ·exact vs
      refine one_ (i:=7) (N:=some 9) (ab 9 255) rfl rfl  (one_of HT_.out kr) (by decide) (fun K hK => ?_)
      refine value_ (w1:=?_) (v:=?_) (by rfl) rfl ?_ ?_
      rotate_left 2
      ·go_simp
       constructor
       ·rfl
       ·rfl
      refine hK.out _ _ ⟨(blk_cell (blk_below HP4.out (below_alloc (hB_wf2) (.cells #[.slice none 0 0,.slice none 0 0] 32))) 0).trans rfl,(blk_cell (blk_below HP4.out (below_alloc (hB_wf2) (.cells #[.slice none 0 0,.slice none 0 0] 32))) 1).trans rfl⟩ (fun hHeld => ?_)
      clear hK K
      refine qN (some 9) ?_
      exact nI (hCont ⟨(.slice B_wf1 rooms.length b_wf1),(.slice B_wf2 stirs.length b_wf2),wf2.heap.size⟩ _ ⟨(below_alloc (hB_wf2) (.cells #[.slice none 0 0,.slice none 0 0] 32)),(Kd.R_alloc (hr2_wf2) (.cells #[.slice none 0 0,.slice none 0 0] 32)),(Kd.R_alloc (hRb_wf2) (.cells #[.slice none 0 0,.slice none 0 0] 32)),(blk_new' wf2 (.cells #[.slice none 0 0,.slice none 0 0] 32) (wf2.heap.size) (by simp)),(by have h:=(hB_wf2).size;first|(simp;done)|simpa using h)⟩)
     ·skip
      refine value_ (w1:=?_) (v:=?_) (by rfl) rfl ?_ ?_
      rotate_left 2
      ·go_simp
       constructor
       ·rfl
       ·rfl
      refine hK.out _ _ ⟨(blk_cell (blk_below HP4.out (below_alloc (hB_wf1) (.cells #[.slice none 0 0,.slice none 0 0] 32))) 0).trans rfl,(blk_cell (blk_below HP4.out (below_alloc (hB_wf1) (.cells #[.slice none 0 0,.slice none 0 0] 32))) 1).trans rfl⟩ (fun hHeld => ?_)
      clear hK K
      refine qN (some 9) ?_
      refine one_ (i:=5) (N:=some 35) (ab 9 191) rfl rfl  (one_of HT_.out kr) (by decide) (fun K hK => ?_)
      refine gC Tryz.func124 #[.slice A2 stirs.length c2] ?_
      refine (clone124_calls A2 c2 stirs _ (fun k => k < (wf1.alloc (.cells #[.slice none 0 0,.slice none 0 0] 32)).heap.size) (Kd.C_F heap84 (Kd.C_below HS5.out ((below_alloc (hB_wf1) (.cells #[.slice none 0 0,.slice none 0 0] 32))))) hc2 HS6.out).mono ?_
      rintro e wf3 ⟨v3,rfl,hb,hR⟩
      have hB_wf3 : Below wd.heap.size wd wf3:=below_then ((below_alloc (hB_wf1) (.cells #[.slice none 0 0,.slice none 0 0] 32))) (below_size ((below_alloc (hB_wf1) (.cells #[.slice none 0 0,.slice none 0 0] 32)))) hb
      have hR_wf3:=R84_of_ft hR
      have hRb_wf3:=Kd.R_lower (base':=wd.heap.size) hR_wf3 (by have h:=((below_alloc (hB_wf1) (.cells #[.slice none 0 0,.slice none 0 0] 32))).size;first|exact h|first|(simp;done)|simpa using h)
      obtain ⟨B_wf3,b_wf3,rfl⟩:=Kd.R_slice hRb_wf3
      have hr2_wf3:=Kd.R_below ((Kd.R_alloc (hRb_wf1) (.cells #[.slice none 0 0,.slice none 0 0] 32))) hb
      have hp_wf3:=blk_below ((blk_new' wf1 (.cells #[.slice none 0 0,.slice none 0 0] 32) (wf1.heap.size) (by simp))) hb
      refine ⟨_,rfl,?_⟩
      refine hK.out _ _ ⟨(blk_cell (blk_below HP4.out hB_wf3) 0).trans rfl,(blk_cell (blk_below HP4.out hB_wf3) 1).trans rfl⟩ (fun hHeld => ?_)
      clear hK K
      refine qN (some 35) ?_
      refine pure_ (i:=6) (N:=(some 36)) (v:=?_) (a':=?_) (ab 9 255) rfl rfl (any_of HT_.out kr) (fun _ _ _ h => h) (Or.inl ⟨by rfl,?_⟩) ?_ ?_
      rotate_left
      ·intro w'
       go_simp
       with_reducible rfl
      rotate_left
      ·exact vs
      exact nI (hCont ⟨(.slice B_wf1 rooms.length b_wf1),(.slice B_wf3 stirs.length b_wf3),wf1.heap.size⟩ _ ⟨hB_wf3,hr2_wf3,hRb_wf3,hp_wf3,(by have h:=(hB_wf1).size;first|(simp;done)|simpa using h)⟩)
    ·skip
     refine value_ (w1:=?_) (v:=?_) (by rfl) rfl ?_ ?_
     rotate_left 2
     ·go_simp
      constructor
      ·rfl
      ·rfl
     refine hK.out _ _ ⟨(blk_cell (blk_below HP4.out (below_alloc (Below.refl wd.heap.size wd) (.cells #[.slice none 0 0,.slice none 0 0] 32))) 0).trans rfl,(blk_cell (blk_below HP4.out (below_alloc (Below.refl wd.heap.size wd) (.cells #[.slice none 0 0,.slice none 0 0] 32))) 1).trans rfl⟩ (fun hHeld => ?_)
     clear hK K
     refine qN (some 9) ?_
     refine one_ (i:=2) (N:=some 32) (ab 9 159) rfl rfl  (one_of HT_.out kr) (by decide) (fun K hK => ?_)
     refine gC Tryz.func78 #[.slice A rooms.length c] ?_
     refine (clone78_calls A c rooms _ _ (Kd.F_below HC5.out ((below_alloc (Below.refl wd.heap.size wd) (.cells #[.slice none 0 0,.slice none 0 0] 32)))) hc HR6.out).mono ?_
     rintro e wf4 ⟨v4,rfl,hb,hR⟩
     have hB_wf4 : Below wd.heap.size wd wf4:=below_then ((below_alloc (Below.refl wd.heap.size wd) (.cells #[.slice none 0 0,.slice none 0 0] 32))) (below_size ((below_alloc (Below.refl wd.heap.size wd) (.cells #[.slice none 0 0,.slice none 0 0] 32)))) hb
     have hR_wf4:=R3_of_ft hR
     have hRb_wf4:=Kd.R_lower (base':=wd.heap.size) hR_wf4 (by have h:=((below_alloc (Below.refl wd.heap.size wd) (.cells #[.slice none 0 0,.slice none 0 0] 32))).size;first|exact h|first|(simp;done)|simpa using h)
     obtain ⟨B_wf4,b_wf4,rfl⟩:=Kd.R_slice hRb_wf4
     have hp_wf4:=blk_below ((blk_new' wd (.cells #[.slice none 0 0,.slice none 0 0] 32) (wd.heap.size) (by simp))) hb
     refine ⟨_,rfl,?_⟩
     refine hK.out _ _ ⟨(blk_cell (blk_below HP4.out hB_wf4) 0).trans rfl,(blk_cell (blk_below HP4.out hB_wf4) 1).trans rfl⟩ (fun hHeld => ?_)
     clear hK K
     refine qN (some 32) ?_
     refine one_ (i:=5) (N:=some 35) (ab 9 191) rfl rfl  (one_of HT_.out kr) (by decide) (fun K hK => ?_)
     refine gC Tryz.func124 #[.slice A2 stirs.length c2] ?_
     refine (clone124_calls A2 c2 stirs _ (fun k => k < wf4.heap.size) (Kd.C_F heap84 (Kd.C_below HS5.out (hB_wf4))) hc2 HS6.out).mono ?_
     rintro e wf5 ⟨v5,rfl,hb,hR⟩
     have hB_wf5 : Below wd.heap.size wd wf5:=below_then (hB_wf4) (below_size (hB_wf4)) hb
     have hR_wf5:=R84_of_ft hR
     have hRb_wf5:=Kd.R_lower (base':=wd.heap.size) hR_wf5 (by have h:=(hB_wf4).size;first|exact h|first|(simp;done)|simpa using h)
     obtain ⟨B_wf5,b_wf5,rfl⟩:=Kd.R_slice hRb_wf5
     have hr2_wf5:=Kd.R_below (hRb_wf4) hb
     have hp_wf5:=blk_below (hp_wf4) hb
     refine ⟨_,rfl,?_⟩
     refine hK.out _ _ ⟨(blk_cell (blk_below HP4.out hB_wf5) 0).trans rfl,(blk_cell (blk_below HP4.out hB_wf5) 1).trans rfl⟩ (fun hHeld => ?_)
     clear hK K
     refine qN (some 35) ?_
     refine pure_ (i:=6) (N:=(some 36)) (v:=?_) (a':=?_) (ab 9 255) rfl rfl (any_of HT_.out kr) (fun _ _ _ h => h) (Or.inl ⟨by rfl,?_⟩) ?_ ?_
     rotate_left
     ·intro w'
      go_simp
      with_reducible rfl
     rotate_left
     ·exact vs
     exact nI (hCont ⟨(.slice B_wf4 rooms.length b_wf4),(.slice B_wf5 stirs.length b_wf5),wd.heap.size⟩ _ ⟨hB_wf5,hr2_wf5,hRb_wf5,hp_wf5,(by have h:=(Below.refl wd.heap.size wd).size;first|(simp;done)|simpa using h)⟩)
   rintro ⟨v5,v6,p9⟩ w7 ⟨hb,hr5,hr6,hp9,hl9⟩
   obtain ⟨A5,c5,rfl⟩:=Kd.R_slice hr5
   obtain ⟨A6,c6,rfl⟩:=Kd.R_slice hr6
   obtain ⟨g,hg⟩ : ∃ g,A6 = some ⟨g,0,none⟩:=by
    obtain ⟨_,inner,hown,hr⟩:=hr6
    rcases hown.2 with ⟨hv,hnil⟩|⟨g',cap',cur,hv,_⟩
    ·injection hv with _ hl0 _
     omega
    ·injection hv with ha _ _
     exact ⟨g',ha⟩
   subst hg
   have HGN:=am (Kd.R_base hr6 g rfl)
   have HL9:=am hl9
   have HN:=am hb
   have HH5:=am hr5
   have HH6:=am hr6
   have H9:=am hp9
   have HNE:=am (show p9 ≠ g from fun e => R_offg hr6 hp9 (by decide) (by rw [e];rfl))
   clear hb hr5 hr6 hp9 hl9
   refine norm_ (a':=?_) ?_ ?_
   rotate_left
   ·simp only [putAll,Act.put,List.setIfInBounds_toArray,List.set_cons_zero,List.set_cons_succ]
    rfl
   refine last_ (i:=8) (N:=none) (ab 9 511) rfl rfl (one_of HT_.out kr) (by decide) (fun K hK => ?_)
   have u0:=bd H9.out 0
   have fu0:=blk_frozen H9.out 0
   have u1:=bd H9.out 1
   have fu1:=blk_frozen H9.out 1
   refine skip_ (w1:=?_) (by rfl) rfl ?_ ?_
   rotate_left
   ·go_simp
    rfl
   refine hK.out _ _ ?_
   clear hK K
   refine done_ (done_of HT_.out kr) ?_
   clear u0 u1 fu0 fu1
   have HN1:=am ((HN.out.setCell (p:=⟨p9,0,none⟩) HL9.out (.slice A5 rooms.length c5)).setCell (p:=⟨p9,1,none⟩) HL9.out (.slice (some ⟨g,0,none⟩) stirs.length c6))
   have H91:=am (blk_put (cs':=#[.slice A5 rooms.length c5,.slice (some ⟨g,0,none⟩) stirs.length c6]) (blk_put (cs':=#[.slice A5 rooms.length c5,.slice none 0 0]) H9.out 0 (.slice A5 rooms.length c5) rfl) 1 (.slice (some ⟨g,0,none⟩) stirs.length c6) rfl)
   have HH51:=am (Kd.R_set (Kd.R_set HH5.out H9.out (by decide) 0 (.slice A5 rooms.length c5)) (blk_put (cs':=#[.slice A5 rooms.length c5,.slice none 0 0]) H9.out 0 (.slice A5 rooms.length c5) rfl) (by decide) 1 (.slice (some ⟨g,0,none⟩) stirs.length c6))
   have HH61:=am (Kd.R_set (Kd.R_set HH6.out H9.out (by decide) 0 (.slice A5 rooms.length c5)) (blk_put (cs':=#[.slice A5 rooms.length c5,.slice none 0 0]) H9.out 0 (.slice A5 rooms.length c5) rfl) (by decide) 1 (.slice (some ⟨g,0,none⟩) stirs.length c6))
   generalize ((w7.setCell ⟨p9,0,none⟩ (.slice A5 rooms.length c5)).setCell ⟨p9,1,none⟩ (.slice (some ⟨g,0,none⟩) stirs.length c6)) = w8 at HN1 H91 HH51 HH61 ⊢
   obtain ⟨ad,had⟩ : ∃ ad : Addr,ad = ⟨g,0,none⟩:=⟨_,rfl⟩
   have HAD:=am had
   rw [← had] at H91
   have hw0 : wrap64 (k : Int) = (k : Int):=wrap_in (by omega) (by omega)
   have hkt : ((k : Int) + 1).toNat = k + 1:=by omega
   have hk0 : (0 : Int) ≤ (k : Int) + 1:=by omega
   have hk00 : (0 : Int) ≤ (k : Int):=by omega
   clear had HN H9 HH5 HH6
   have hkn : (k : Int) < (stirs.length : Int):=by omega
   have hkn1 : (k : Int) + 1 < (stirs.length : Int):=by omega
   have HN2:=am (below_drew HN1.out)
   have H92:=am (blk_drew H91.out)
   have HH52:=am (Kd.R_drew HH51.out)
   have HH62:=am (Kd.R_drew HH61.out)
   go_wp2
   refine start_ (n:=11) (S:=fun w' => w'.cell? ⟨p9,1,none⟩ = some (.slice (some ad) stirs.length c6)) (ds:=[]) (ab 11 0) kr rfl kr ((blk_cell H92.out 1).trans rfl) (fun hHeld => ?_);refine with_tabW R44_7.tab R44_7.bits (fun HT_ HW_ => ?_)
   generalize (w8).drew = w9 at HN2 H92 HH52 HH62 hHeld ⊢
   refine pure_ (i:=0) (N:=(some 37)) (v:=?_) (a':=?_) (ab 11 1) rfl rfl (any_of HT_.out kr) (fun _ _ _ h => h) (Or.inl ⟨by rfl,?_⟩) ?_ ?_
   rotate_left
   ·intro w'
    go_simp
    with_reducible rfl
   rotate_left
   ·exact vs
   refine take_ (i:=1) (N:=(some 38)) (v:=?_) (a':=?_) (ab 11 3) rfl rfl (take_ofW HT_.out HW_.out kr) (fun _ _ _ h => h) (Or.inl ⟨by rfl,?_⟩) hHeld ?_ ?_
   rotate_left
   ·rintro w' s0
    go_simp
    with_reducible rfl
   rotate_left
   ·exact vs
   refine pure_ (i:=2) (N:=(some 39)) (v:=?_) (a':=?_) (ab 11 7) rfl rfl (any_of HT_.out kr) (fun _ _ _ h => h) (Or.inl ⟨by rfl,?_⟩) ?_ ?_
   rotate_left
   ·intro w'
    go_simp
    with_reducible rfl
   rotate_left
   ·exact vs
   refine pure_ (i:=3) (N:=(some 40)) (v:=?_) (a':=?_) (ab 11 15) rfl rfl (any_of HT_.out kr) (fun _ _ _ h => h) (Or.inl ⟨by rfl,?_⟩) ?_ ?_
   rotate_left
   ·intro w'
    go_simp
    with_reducible rfl
   rotate_left
   ·exact vs
   refine pure_ (i:=4) (N:=(some 41)) (v:=?_) (a':=?_) (ab 11 31) rfl rfl (any_of HT_.out kr) (fun _ _ _ h => h) (Or.inl ⟨by rfl,?_⟩) ?_ ?_
   rotate_left
   ·intro w'
    go_simp
    with_reducible rfl
   rotate_left
   ·exact vs
   refine pure_ (i:=5) (N:=(some 42)) (v:=?_) (a':=?_) (ab 11 63) rfl rfl (any_of HT_.out kr) (fun _ _ _ h => h) (Or.inl ⟨by rfl,?_⟩) ?_ ?_
   rotate_left
   ·intro w'
    go_simp
    with_reducible rfl
   rotate_left
   ·exact vs
   refine take_ (i:=6) (N:=(some 43)) (v:=?_) (a':=?_) (ab 11 127) rfl rfl (take_ofW HT_.out HW_.out kr) (fun _ _ _ h => h) (Or.inl ⟨by rfl,?_⟩) hHeld ?_ ?_
   rotate_left
   ·rintro w' s0
    go_simp
    with_reducible rfl
   rotate_left
   ·exact vs
   refine pure_ (i:=7) (N:=(some 44)) (v:=?_) (a':=?_) (ab 11 255) rfl rfl (any_of HT_.out kr) (fun _ _ _ h => h) (Or.inl ⟨by rfl,?_⟩) ?_ ?_
   rotate_left
   ·intro w'
    go_simp
    with_reducible rfl
   rotate_left
   ·exact vs
   refine pure_ (i:=8) (N:=(some 45)) (v:=?_) (a':=?_) (ab 11 511) rfl rfl (any_of HT_.out kr) (fun _ _ _ h => h) (Or.inl ⟨by rfl,?_⟩) ?_ ?_
   rotate_left
   ·intro w'
    go_simp
    with_reducible rfl
   rotate_left
   ·exact vs
   refine pure_ (i:=9) (N:=(some 10)) (v:=?_) (a':=?_) (ab 11 1023) rfl rfl (any_of HT_.out kr) (fun _ _ _ h => h) (Or.inl ⟨by rfl,?_⟩) ?_ ?_
   rotate_left
   ·intro w'
    go_simp
    with_reducible rfl
   rotate_left
   ·exact vs
   refine pure_ (i:=10) (N:=(some 11)) (v:=?_) (a':=?_) (ab 11 2047) rfl rfl (any_of HT_.out kr) (fun _ _ _ h => h) (Or.inl ⟨by rfl,?_⟩) ?_ ?_
   rotate_left
   ·intro w'
    go_simp
    with_reducible rfl
   rotate_left
   ·exact vs
   refine done_ (done_of HT_.out kr) ?_
   clear HN1 H91 HH51 HH61
   obtain ⟨s0,hs0⟩ : ∃ s0,s0 = rd_T84 stirs (k : Int):=⟨_,rfl⟩
   obtain ⟨s1,hs1⟩ : ∃ s1,s1 = rd_T84 stirs ((k + 1 : Nat) : Int):=⟨_,rfl⟩
   have HS0:=am hs0
   have HS1:=am hs1
   have HN3:=am (below_drew HN2.out)
   have H93:=am (blk_drew H92.out)
   have HH53:=am (Kd.R_drew HH52.out)
   have HH63:=am (Kd.R_drew HH62.out)
   have HCE:=am (show (w9.drew.cell? (ad.add (k * 6)) = some (ii s0.f0) ∧ w9.drew.cell? ⟨(ad.add (k * 6)).block,(ad.add (k * 6)).off + 1,none⟩ = some (ii s0.f1) ∧ w9.drew.cell? ⟨(ad.add (k * 6)).block,(ad.add (k * 6)).off + 2,none⟩ = some (ii s0.f2) ∧ w9.drew.cell? ⟨(ad.add (k * 6)).block,(ad.add (k * 6)).off + 3,none⟩ = some (ii s0.f3) ∧ w9.drew.cell? ⟨(ad.add (k * 6)).block,(ad.add (k * 6)).off + 4,none⟩ = some (ii s0.f4) ∧ w9.drew.cell? ⟨(ad.add (k * 6)).block,(ad.add (k * 6)).off + 5,none⟩ = some (ii s0.f5)) ∧ w9.drew.cell? (ad.add ((k + 1) * 6)) = some (ii s1.f0) ∧ w9.drew.cell? ⟨(ad.add ((k + 1) * 6)).block,(ad.add ((k + 1) * 6)).off + 1,none⟩ = some (ii s1.f1) ∧ w9.drew.cell? ⟨(ad.add ((k + 1) * 6)).block,(ad.add ((k + 1) * 6)).off + 2,none⟩ = some (ii s1.f2) ∧ w9.drew.cell? ⟨(ad.add ((k + 1) * 6)).block,(ad.add ((k + 1) * 6)).off + 3,none⟩ = some (ii s1.f3) ∧ w9.drew.cell? ⟨(ad.add ((k + 1) * 6)).block,(ad.add ((k + 1) * 6)).off + 4,none⟩ = some (ii s1.f4) ∧ w9.drew.cell? ⟨(ad.add ((k + 1) * 6)).block,(ad.add ((k + 1) * 6)).off + 5,none⟩ = some (ii s1.f5) from by
    have hC:=(Kd.R_reads' HH63.out).2.2
    rw [← HAD.out] at hC
    obtain ⟨a1,e1,q0,q1,q2,q3,q4,q5⟩:=at_T84 hC (k : Int) (by omega) (by omega)
    obtain ⟨a2,e2,r0,r1,r2,r3,r4,r5⟩:=at_T84 hC ((k + 1 : Nat) : Int) (by omega) (by omega)
    cases e1
    cases e2
    rw [Int.toNat_natCast,← hs0] at q0 q1 q2 q3 q4 q5
    rw [Int.toNat_natCast,← hs1] at r0 r1 r2 r3 r4 r5
    exact ⟨⟨q0,q1,q2,q3,q4,q5⟩,r0,r1,r2,r3,r4,r5⟩)
   clear hs0 hs1
   go_wp2
   refine start_ (n:=12) (S:=fun w' => (w'.cell? (ad.add (k * 6)) = some (ii s0.f0) ∧ w'.cell? ⟨(ad.add (k * 6)).block,(ad.add (k * 6)).off + 1,none⟩ = some (ii s0.f1) ∧ w'.cell? ⟨(ad.add (k * 6)).block,(ad.add (k * 6)).off + 2,none⟩ = some (ii s0.f2) ∧ w'.cell? ⟨(ad.add (k * 6)).block,(ad.add (k * 6)).off + 3,none⟩ = some (ii s0.f3) ∧ w'.cell? ⟨(ad.add (k * 6)).block,(ad.add (k * 6)).off + 4,none⟩ = some (ii s0.f4) ∧ w'.cell? ⟨(ad.add (k * 6)).block,(ad.add (k * 6)).off + 5,none⟩ = some (ii s0.f5)) ∧ w'.cell? (ad.add ((k + 1) * 6)) = some (ii s1.f0) ∧ w'.cell? ⟨(ad.add ((k + 1) * 6)).block,(ad.add ((k + 1) * 6)).off + 1,none⟩ = some (ii s1.f1) ∧ w'.cell? ⟨(ad.add ((k + 1) * 6)).block,(ad.add ((k + 1) * 6)).off + 2,none⟩ = some (ii s1.f2) ∧ w'.cell? ⟨(ad.add ((k + 1) * 6)).block,(ad.add ((k + 1) * 6)).off + 3,none⟩ = some (ii s1.f3) ∧ w'.cell? ⟨(ad.add ((k + 1) * 6)).block,(ad.add ((k + 1) * 6)).off + 4,none⟩ = some (ii s1.f4) ∧ w'.cell? ⟨(ad.add ((k + 1) * 6)).block,(ad.add ((k + 1) * 6)).off + 5,none⟩ = some (ii s1.f5)) (ds:=[9,11]) (ab 12 0) kr rfl kr HCE.out (fun hHeld => ?_);refine with_tabW R44_8.tab R44_8.bits (fun HT_ HW_ => ?_)
   generalize (w9).drew = wx at HN3 H93 HH53 HH63 HCE hHeld ⊢
   refine pure_ (i:=0) (N:=(some 46)) (v:=?_) (a':=?_) (ab 12 1) rfl rfl (any_of HT_.out kr) (fun _ _ _ h => h) (Or.inl ⟨by rfl,?_⟩) ?_ ?_
   rotate_left
   ·intro w'
    go_simp
    with_reducible rfl
   rotate_left
   ·exact vs
   refine pure_ (i:=1) (N:=(some 47)) (v:=?_) (a':=?_) (ab 12 3) rfl rfl (any_of HT_.out kr) (fun _ _ _ h => h) (Or.inl ⟨by rfl,?_⟩) ?_ ?_
   rotate_left
   ·intro w'
    go_simp
    with_reducible rfl
   rotate_left
   ·exact vs
   refine pure_ (i:=2) (N:=(some 48)) (v:=?_) (a':=?_) (ab 12 7) rfl rfl (any_of HT_.out kr) (fun _ _ _ h => h) (Or.inl ⟨by rfl,?_⟩) ?_ ?_
   rotate_left
   ·intro w'
    go_simp
    with_reducible rfl
   rotate_left
   ·exact vs
   refine pure_ (i:=3) (N:=(some 49)) (v:=?_) (a':=?_) (ab 12 15) rfl rfl (any_of HT_.out kr) (fun _ _ _ h => h) (Or.inl ⟨by rfl,?_⟩) ?_ ?_
   rotate_left
   ·intro w'
    go_simp
    with_reducible rfl
   rotate_left
   ·exact vs
   refine take_ (i:=4) (N:=(some 50)) (v:=?_) (a':=?_) (ab 12 31) rfl rfl (take_ofW HT_.out HW_.out kr) (fun _ _ _ h => h) (Or.inl ⟨by rfl,?_⟩) hHeld ?_ ?_
   rotate_left
   ·rintro w' ⟨⟨q0,q1,q2,q3,q4,q5⟩,r0,r1,r2,r3,r4,r5⟩
    go_simp
    with_reducible rfl
   rotate_left
   ·exact vs
   refine pure_ (i:=5) (N:=(some 51)) (v:=?_) (a':=?_) (ab 12 63) rfl rfl (any_of HT_.out kr) (fun _ _ _ h => h) (Or.inl ⟨by rfl,?_⟩) ?_ ?_
   rotate_left
   ·intro w'
    go_simp
    with_reducible rfl
   rotate_left
   ·exact vs
   refine pure_ (i:=6) (N:=(some 52)) (v:=?_) (a':=?_) (ab 12 127) rfl rfl (any_of HT_.out kr) (fun _ _ _ h => h) (Or.inl ⟨by rfl,?_⟩) ?_ ?_
   rotate_left
   ·intro w'
    go_simp
    with_reducible rfl
   rotate_left
   ·exact vs
   refine take_ (i:=7) (N:=(some 53)) (v:=?_) (a':=?_) (ab 12 255) rfl rfl (take_ofW HT_.out HW_.out kr) (fun _ _ _ h => h) (Or.inl ⟨by rfl,?_⟩) hHeld ?_ ?_
   rotate_left
   ·rintro w' ⟨⟨q0,q1,q2,q3,q4,q5⟩,r0,r1,r2,r3,r4,r5⟩
    go_simp
    with_reducible rfl
   rotate_left
   ·exact vs
   refine pure_ (i:=8) (N:=(some 54)) (v:=?_) (a':=?_) (ab 12 511) rfl rfl (any_of HT_.out kr) (fun _ _ _ h => h) (Or.inl ⟨by rfl,?_⟩) ?_ ?_
   rotate_left
   ·intro w'
    go_simp
    with_reducible rfl
   rotate_left
   ·exact vs
   refine last_ (i:=9) (N:=none) (ab 12 1023) rfl rfl (one_of HT_.out kr) (by decide) (fun K hK => ?_)
   have hx:=row84_set HH63.out (i:=k) (Nat.lt_of_succ_lt hkl) s1
   obtain ⟨wa,hwa⟩ : ∃ wa,wa = wx.setCells g (k * 6) (cells84 s1):=⟨_,rfl⟩
   rw [← hwa] at hx
   have hr : (Instr.storeAt 84 (.pointer (some (ad.add (k * 6)))) (.agg #[ii s1.f0,ii s1.f1,ii s1.f2,ii s1.f3,ii s1.f4,ii s1.f5])).run Tryz.prog wx = .ok () wa:=by
    rw [HAD.out,add_plain]
    exact hx.1
   have x2:=hx.2.1
   have x3:=hx.2.2
   clear hx hwa
   refine skip_ (w1:=wa) ?ha ?hb ?hrun ?hrest
   case ha => rfl
   case hb => rfl
   case hrun => exact exec_store (t:=84) (p:=.tmp 54) (q:=.tmp 50) rfl rfl rfl hr
   clear hr
   have HN4:=am (below_grown HN3.out HN3.out.size x3 HGN.out)
   have H94:=am (blk_grown H93.out x3 (by intro e;injection e with e;exact HNE.out e))
   have HH54:=am (R_own_move rfl HH53.out (fun k hk => x3.block k (Kd.R_lt HH53.out k hk) (fun e => by rw [e] at hk;exact R_off HH53.out HH63.out (by decide) g hk rfl)))
   have HH64:=am (x2)
   clear x2 x3
   refine hK.out _ _ ?_
   clear hK K
   refine pure_ (i:=10) (N:=(some 55)) (v:=?_) (a':=?_) (ab 12 2047) rfl rfl (any_of HT_.out kr) (fun _ _ _ h => h) (Or.inl ⟨by rfl,?_⟩) ?_ ?_
   rotate_left
   ·intro w'
    go_simp
    with_reducible rfl
   rotate_left
   ·exact vs
   refine last_ (i:=11) (N:=none) (ab 12 4095) rfl rfl (one_of HT_.out kr) (by decide) (fun K hK => ?_)
   have hx:=row84_set HH64.out (i:=k + 1) hkl s0
   obtain ⟨wb,hwb⟩ : ∃ wb,wb = wa.setCells g ((k + 1) * 6) (cells84 s0):=⟨_,rfl⟩
   rw [← hwb] at hx
   have hr : (Instr.storeAt 84 (.pointer (some (ad.add ((k + 1) * 6)))) (.agg #[ii s0.f0,ii s0.f1,ii s0.f2,ii s0.f3,ii s0.f4,ii s0.f5])).run Tryz.prog wa = .ok () wb:=by
    rw [HAD.out,add_plain]
    exact hx.1
   have x2:=hx.2.1
   have x3:=hx.2.2
   clear hx hwb
   refine skip_ (w1:=wb) ?ha2 ?hb2 ?hrun2 ?hrest2
   case ha2 => rfl
   case hb2 => rfl
   case hrun2 => exact exec_store (t:=84) (p:=.tmp 55) (q:=.tmp 53) rfl rfl rfl hr
   clear hr
   refine hK.out _ _ ?_
   clear hK K
   refine done_ (done_of HT_.out kr) ?_
   have HN5:=am (below_grown HN4.out HN4.out.size x3 HGN.out)
   have H95:=am (blk_grown H94.out x3 (by intro e;injection e with e;exact HNE.out e))
   have HH55:=am (R_own_move rfl HH54.out (fun k hk => x3.block k (Kd.R_lt HH54.out k hk) (fun e => by rw [e] at hk;exact R_off HH54.out HH64.out (by decide) g hk rfl)))
   have HH65:=am (x2)
   clear x2 x3 HN2 H92 HH52 HH62 HN3 H93 HH53 HH63 HN4 H94 HH54 HH64 HCE
   have HN6:=am (below_drew HN5.out)
   have H96:=am (blk_drew H95.out)
   have HH56:=am (Kd.R_drew HH55.out)
   have HH66:=am (Kd.R_drew HH65.out)
   obtain ⟨ls,hls⟩ : ∃ ls,ls = (stirs.set k s1).set (k + 1) s0:=⟨_,rfl⟩
   rw [← hls] at HH66
   have HLS:=am hls
   have HE0:=am (show (ls.getD k z84).f2 = s1.f2 by rw [hls,getD84_set s0 (by rw [List.length_set];omega),if_neg (by omega),getD84_set s1 (by omega),if_pos rfl])
   have HE1:=am (show (ls.getD (k + 1) z84).f2 = s0.f2 by rw [hls,getD84_set s0 (by rw [List.length_set];omega),if_pos rfl])
   clear hls HN5 H95 HH55 HH65
   have HCE:=am (show wb.drew.cell? ⟨(ad.add (k * 6)).block,(ad.add (k * 6)).off + 2,none⟩ = some (ii s1.f2) ∧ wb.drew.cell? ⟨(ad.add ((k + 1) * 6)).block,(ad.add ((k + 1) * 6)).off + 2,none⟩ = some (ii s0.f2) from by
    rw [HAD.out,add_plain,add_plain]
    exact ⟨by rw [← HE0.out];exact (row84_day HH66.out (i:=k) (Nat.lt_of_succ_lt hkl) 0).2.2.1,by rw [← HE1.out];exact (row84_day HH66.out (i:=k + 1) hkl 0).2.2.1⟩)
   go_wp2
   refine start_ (n:=16) (S:=fun w' => w'.cell? ⟨(ad.add (k * 6)).block,(ad.add (k * 6)).off + 2,none⟩ = some (ii s1.f2) ∧ w'.cell? ⟨(ad.add ((k + 1) * 6)).block,(ad.add ((k + 1) * 6)).off + 2,none⟩ = some (ii s0.f2)) (ds:=[12,15]) (ab 16 0) kr rfl kr HCE.out (fun hHeld => ?_);refine with_tabW R44_9.tab R44_9.bits (fun HT_ HW_ => ?_)
   generalize (wb).drew = wx at HN6 H96 HH56 HH66 HCE hHeld ⊢
   refine pure_ (i:=0) (N:=(some 56)) (v:=?_) (a':=?_) (ab 16 1) rfl rfl (any_of HT_.out kr) (fun _ _ _ h => h) (Or.inl ⟨by rfl,?_⟩) ?_ ?_
   rotate_left
   ·intro w'
    go_simp
    with_reducible rfl
   rotate_left
   ·exact vs
   refine pure_ (i:=1) (N:=(some 57)) (v:=?_) (a':=?_) (ab 16 3) rfl rfl (any_of HT_.out kr) (fun _ _ _ h => h) (Or.inl ⟨by rfl,?_⟩) ?_ ?_
   rotate_left
   ·intro w'
    go_simp
    with_reducible rfl
   rotate_left
   ·exact vs
   refine pure_ (i:=2) (N:=(some 58)) (v:=?_) (a':=?_) (ab 16 7) rfl rfl (any_of HT_.out kr) (fun _ _ _ h => h) (Or.inl ⟨by rfl,?_⟩) ?_ ?_
   rotate_left
   ·intro w'
    go_simp
    with_reducible rfl
   rotate_left
   ·exact vs
   refine pure_ (i:=3) (N:=(some 59)) (v:=?_) (a':=?_) (ab 16 15) rfl rfl (any_of HT_.out kr) (fun _ _ _ h => h) (Or.inl ⟨by rfl,?_⟩) ?_ ?_
   rotate_left
   ·intro w'
    go_simp
    with_reducible rfl
   rotate_left
   ·exact vs
   refine pure_ (i:=4) (N:=(some 60)) (v:=?_) (a':=?_) (ab 16 31) rfl rfl (any_of HT_.out kr) (fun _ _ _ h => h) (Or.inl ⟨by rfl,?_⟩) ?_ ?_
   rotate_left
   ·intro w'
    go_simp
    with_reducible rfl
   rotate_left
   ·exact vs
   refine take_ (i:=5) (N:=(some 61)) (v:=?_) (a':=?_) (ab 16 63) rfl rfl (take_ofW HT_.out HW_.out kr) (fun _ _ _ h => h) (Or.inl ⟨by rfl,?_⟩) hHeld ?_ ?_
   rotate_left
   ·rintro w' ⟨q0,q1⟩
    go_simp
    with_reducible rfl
   rotate_left
   ·exact vs
   refine pure_ (i:=6) (N:=(some 62)) (v:=?_) (a':=?_) (ab 16 127) rfl rfl (any_of HT_.out kr) (fun _ _ _ h => h) (Or.inl ⟨by rfl,?_⟩) ?_ ?_
   rotate_left
   ·intro w'
    go_simp
    with_reducible rfl
   rotate_left
   ·exact vs
   refine pure_ (i:=7) (N:=(some 63)) (v:=?_) (a':=?_) (ab 16 255) rfl rfl (any_of HT_.out kr) (fun _ _ _ h => h) (Or.inl ⟨by rfl,?_⟩) ?_ ?_
   rotate_left
   ·intro w'
    go_simp
    with_reducible rfl
   rotate_left
   ·exact vs
   refine pure_ (i:=8) (N:=(some 64)) (v:=?_) (a':=?_) (ab 16 511) rfl rfl (any_of HT_.out kr) (fun _ _ _ h => h) (Or.inl ⟨by rfl,?_⟩) ?_ ?_
   rotate_left
   ·intro w'
    go_simp
    with_reducible rfl
   rotate_left
   ·exact vs
   refine take_ (i:=9) (N:=(some 65)) (v:=?_) (a':=?_) (ab 16 1023) rfl rfl (take_ofW HT_.out HW_.out kr) (fun _ _ _ h => h) (Or.inl ⟨by rfl,?_⟩) hHeld ?_ ?_
   rotate_left
   ·rintro w' ⟨q0,q1⟩
    go_simp
    with_reducible rfl
   rotate_left
   ·exact vs
   refine pure_ (i:=10) (N:=(some 66)) (v:=?_) (a':=?_) (ab 16 2047) rfl rfl (any_of HT_.out kr) (fun _ _ _ h => h) (Or.inl ⟨by rfl,?_⟩) ?_ ?_
   rotate_left
   ·intro w'
    go_simp
    with_reducible rfl
   rotate_left
   ·exact vs
   refine pure_ (i:=11) (N:=(some 67)) (v:=?_) (a':=?_) (ab 16 4095) rfl rfl (any_of HT_.out kr) (fun _ _ _ h => h) (Or.inl ⟨by rfl,?_⟩) ?_ ?_
   rotate_left
   ·intro w'
    go_simp
    with_reducible rfl
   rotate_left
   ·exact vs
   refine last_ (i:=12) (N:=none) (ab 16 8191) rfl rfl (one_of HT_.out kr) (by decide) (fun K hK => ?_)
   have hx:=row84_day HH66.out (i:=k) (Nat.lt_of_succ_lt hkl) s0.f2
   have x2:=hx.1
   have x3:=hx.2.1
   have x4:=hx.2.2.1
   have x5:=hx.2.2.2
   clear hx
   have u0 : wx.cell? ⟨(ad.add (k * 6)).block,(ad.add (k * 6)).off + 2,none⟩ = some (ii (ls.getD k z84).f2):=by rw [HAD.out,add_plain];exact x4
   have f0 : wx.frozen? ⟨(ad.add (k * 6)).block,(ad.add (k * 6)).off + 2,none⟩ = false:=by rw [HAD.out,add_plain];exact x5
   refine skip_ (w1:=?_) (by rfl) rfl ?_ ?_
   rotate_left
   ·go_simp
    rfl
   rw [show wx.setCell ⟨(ad.add (k * 6)).block,(ad.add (k * 6)).off + 2,none⟩ (ii s0.f2) = wx.setCell ⟨g,k * 6 + 2,none⟩ (ii s0.f2) by rw [HAD.out,add_plain]]
   have HN7:=am (below_grown HN6.out HN6.out.size x3 HGN.out)
   have H97:=am (blk_grown H96.out x3 (by intro e;injection e with e;exact HNE.out e))
   have HH57:=am (R_own_move rfl HH56.out (fun k hk => x3.block k (Kd.R_lt HH56.out k hk) (fun e => by rw [e] at hk;exact R_off HH56.out HH66.out (by decide) g hk rfl)))
   have HH67:=am (x2)
   clear x2 x3 x4 x5 u0 f0
   refine hK.out _ _ ?_
   clear hK K
   refine pure_ (i:=13) (N:=(some 68)) (v:=?_) (a':=?_) (ab 16 16383) rfl rfl (any_of HT_.out kr) (fun _ _ _ h => h) (Or.inl ⟨by rfl,?_⟩) ?_ ?_
   rotate_left
   ·intro w'
    go_simp
    with_reducible rfl
   rotate_left
   ·exact vs
   refine pure_ (i:=14) (N:=(some 69)) (v:=?_) (a':=?_) (ab 16 32767) rfl rfl (any_of HT_.out kr) (fun _ _ _ h => h) (Or.inl ⟨by rfl,?_⟩) ?_ ?_
   rotate_left
   ·intro w'
    go_simp
    with_reducible rfl
   rotate_left
   ·exact vs
   refine last_ (i:=15) (N:=none) (ab 16 65535) rfl rfl (one_of HT_.out kr) (by decide) (fun K hK => ?_)
   have hx:=row84_day HH67.out (i:=k + 1) hkl s1.f2
   have x2:=hx.1
   have x3:=hx.2.1
   have x4:=hx.2.2.1
   have x5:=hx.2.2.2
   clear hx
   have u0 : (wx.setCell ⟨g,k * 6 + 2,none⟩ (ii s0.f2)).cell? ⟨(ad.add ((k + 1) * 6)).block,(ad.add ((k + 1) * 6)).off + 2,none⟩ = some (ii ((ls.set k { ls.getD k z84 with f2:=s0.f2 }).getD (k + 1) z84).f2):=by rw [HAD.out,add_plain];exact x4
   have f0 : (wx.setCell ⟨g,k * 6 + 2,none⟩ (ii s0.f2)).frozen? ⟨(ad.add ((k + 1) * 6)).block,(ad.add ((k + 1) * 6)).off + 2,none⟩ = false:=by rw [HAD.out,add_plain];exact x5
   refine skip_ (w1:=?_) (by rfl) rfl ?_ ?_
   rotate_left
   ·go_simp
    rfl
   rw [show (wx.setCell ⟨g,k * 6 + 2,none⟩ (ii s0.f2)).setCell ⟨(ad.add ((k + 1) * 6)).block,(ad.add ((k + 1) * 6)).off + 2,none⟩ (ii s1.f2) = (wx.setCell ⟨g,k * 6 + 2,none⟩ (ii s0.f2)).setCell ⟨g,(k + 1) * 6 + 2,none⟩ (ii s1.f2) by rw [HAD.out,add_plain]]
   refine hK.out _ _ ?_
   clear hK K
   refine done_ (done_of HT_.out kr) ?_
   have HN8:=am (below_grown HN7.out HN7.out.size x3 HGN.out)
   have H98:=am (blk_grown H97.out x3 (by intro e;injection e with e;exact HNE.out e))
   have HH58:=am (R_own_move rfl HH57.out (fun k hk => x3.block k (Kd.R_lt HH57.out k hk) (fun e => by rw [e] at hk;exact R_off HH57.out HH67.out (by decide) g hk rfl)))
   have HH68:=am (x2)
   clear x2 x3 x4 x5 u0 f0 HN6 H96 HH56 HH66 HN7 H97 HH57 HH67 HCE
   generalize (wx.setCell ⟨g,k * 6 + 2,none⟩ (ii s0.f2)).setCell ⟨g,(k + 1) * 6 + 2,none⟩ (ii s1.f2) = w11 at HN8 H98 HH58 HH68 ⊢
   obtain ⟨ns,hns⟩ : ∃ ns,ns = swapP stirs k:=⟨_,rfl⟩
   have HNS:=am hns
   have HH69:=am (show k84.R 84 w11 wd.heap.size (fun _ => True) (.slice (some ⟨g,0,none⟩) stirs.length c6) ns from by
    have h:=HH68.out
    rw [HLS.out,swap_steps hkl s0 s1 HS0.out HS1.out,← hns] at h
    exact h)
   have hnl : ns.length = stirs.length:=by rw [hns,swapP_length]
   clear hns HH68 HLS HE0 HE1 HS0 HS1
   have HF5:=am (show Kd.F (Kd.int .i64) w11 (fun k => k < w11.heap.size) A5 rooms.length rooms from Kd.F_mono (Kd.R_F (Kd.R_bound HH58.out)) (fun k hk => hk.2.2.1))
   have HF9:=am (show Kd.F (Kd.int .i64) w11 (fun k => wd.heap.size ≤ k) A5 rooms.length rooms from Kd.F_mono (Kd.R_F (Kd.R_bound HH58.out)) (fun k hk => hk.2.1))
   have HFS0:=am (show Kd.F k84 w11 (fun k => wd.heap.size ≤ k) (some ad) stirs.length ns from by have h:=Kd.F_mono (Kd.R_F (Kd.R_bound HH69.out)) (fun k hk => hk.2.1);rw [HAD.out];exact h)
   have HC6:=am (show Kd.C k84 w11 (some ⟨g,0,none⟩) ns.length ns from (Kd.R_reads' HH69.out).2.2)
   have HL5:=am (Kd.R_reads' HH58.out).2.1
   have HL6:=am (Kd.R_reads' HH69.out).2.1
   have HNL:=am hnl
   clear HH58 HH69 hnl
   obtain ⟨r2,hr2⟩ : ∃ r2,r2 = playedP rooms ns ns.length:=⟨_,rfl⟩
   have HQ2:=am hr2.symm
   clear hr2
   rw [← HAD.out] at HC6
   have hall:=all_calls A5 (some ad) c5 c6 rooms ns w11 w11.heap.size (Nat.le_refl _) HF5.out HL5.out HC6.out (by rw [HNL.out];exact HL6.out)
   rw [HNL.out] at hall
   have HALL:=am hall
   clear hall
   have g0:=bd H98.out 0
   have g1:=bd H98.out 1
   go_wp2_with fail
   refine HALL.out.mono ?_
   rintro e w12 ⟨hb,h⟩
   rw [← HNL.out,HQ2.out] at h
   have HN9:=am (below_then HN8.out HN8.out.size hb)
   have H99:=am (blk_below H98.out hb)
   have HF6:=am (Kd.F_below HF9.out hb)
   have HFS:=am (Kd.F_below HFS0.out hb)
   clear hb g0 g1 HALL
   have HRZ:=am (blk_below HR3.out HN9.out)
   have HBZ:=am (below_then HB5.out (below_size HB5.out) HN9.out)
   have HYZ:=am (HY2.out.move HN9.out)
   have hsw : swapR rooms stirs ((k + 1 : Nat) : Int) = r2:=by unfold swapR;rw [Int.toNat_natCast,show k + 1 - 1 = k by omega,← HNS.out];exact HQ2.out
   have HSW:=am hsw
   clear hsw
   cases r2 with
  |error x =>
    subst h
    have hx : ¬ x.1 = 0:=playedP_code HQ2.out
    have u0:=bd HRZ.out 0
    have fu0:=blk_frozen HRZ.out 0
    have u1:=bd HRZ.out 1
    have fu1:=blk_frozen HRZ.out 1
    go_wp2
    have bz:=blk_put (cs':=#[.slice none 0 0,.slice none 0 0]) (blk_put (cs':=#[.slice none 0 0,.slice none 0 0]) (HRZ.out) 0 (.slice none 0 0) rfl) 1 (.slice none 0 0) rfl
    have z0:=bd bz 0
    have z1:=bd bz 1
    exact bodyPost_ret (v:=.tuple #[.agg #[.slice none 0 0,.slice none 0 0],.bool false,ii x.1]) (by simp [results,Tryz.results44,go_sem,z0,z1,hu]) rfl ⟨((HBZ.out).setCell (p:=⟨W.heap.size + 1,0,none⟩) (by first|(simp;done)|(simp;omega)) (.slice none 0 0)).setCell (p:=⟨W.heap.size + 1,1,none⟩) (by first|(simp;done)|(simp;omega)) (.slice none 0 0),by rw [HQP.out];dsimp only;rw [if_pos HK.out.symm,HSW.out]⟩
  |ok Z =>
    obtain ⟨M,base2,hbase2,hbad2,rfl,hZ⟩:=h
    have HZZ:=am (hZ)
    have HWZ:=am (played_ok HQ2.out).2.2.1
    clear hbase2 hbad2 hZ
    have HSZ:=am (show W.heap.size ≤ wd.heap.size from HB5.out.size)
    have HLTW:=am (show W.heap.size + 1 < wd.heap.size from blk_lt HR3.out)
    have HRZ1:=am (blk_drew HRZ.out)
    have HBZ1:=am (below_drew HBZ.out)
    have HYZ1:=am (HYZ.out.move (below_drew (Below.refl _ _)))
    have H991:=am (blk_drew H99.out)
    have HF61:=am (Kd.F_drew HF6.out)
    have HFS1:=am (Kd.F_drew HFS.out)
    have HZZ1:=am (HZZ.out.move (below_drew (Below.refl _ _)))
    go_wp2
    refine start_ (n:=7) (S:=fun w' => w'.cell? ⟨p9,0,none⟩ = some (.slice A5 rooms.length c5) ∧ w'.cell? ⟨p9,1,none⟩ = some (.slice (some ad) stirs.length c6)) (ds:=[4]) (ab 7 0) kr rfl kr ⟨(blk_cell H991.out 0).trans rfl,(blk_cell H991.out 1).trans rfl⟩ (fun hHeld => ?_);refine with_tabW R44_13.tab R44_13.bits (fun HT_ HW_ => ?_)
    generalize (w12).drew = wx at HRZ1 HBZ1 HYZ1 H991 HF61 HFS1 HZZ1 hHeld ⊢
    refine take_ (i:=0) (N:=(some 79)) (v:=?_) (a':=?_) (ab 7 1) rfl rfl (take_ofW HT_.out HW_.out kr) (fun _ _ _ h => h) (Or.inl ⟨by rfl,?_⟩) hHeld ?_ ?_
    rotate_left
    ·rintro w' ⟨q0,q1⟩
     go_simp
     with_reducible rfl
    rotate_left
    ·exact vs
    refine pure_ (i:=1) (N:=(some 80)) (v:=?_) (a':=?_) (ab 7 3) rfl rfl (any_of HT_.out kr) (fun _ _ _ h => h) (Or.inl ⟨by rfl,?_⟩) ?_ ?_
    rotate_left
    ·intro w'
     go_simp
     with_reducible rfl
    rotate_left
    ·exact vs
    refine pure_ (i:=2) (N:=(some 81)) (v:=?_) (a':=?_) (ab 7 7) rfl rfl (any_of HT_.out kr) (fun _ _ _ h => h) (Or.inl ⟨by rfl,?_⟩) ?_ ?_
    rotate_left
    ·intro w'
     go_simp
     with_reducible rfl
    rotate_left
    ·exact vs
    refine one_ (i:=3) (N:=(some 82)) (ab 7 15) rfl rfl (one_of HT_.out kr) (by decide) (fun K hK => ?_)
    refine gC Tryz.func125 #[.pointer (some ⟨L.g,0,none⟩),.pointer (some ⟨M.g,0,none⟩)] ?_
    refine (alike_calls HYZ1.out HZZ1.out HWZ.out (Nat.le_refl _)).mono ?_
    rintro e w13 ⟨rfl,hb⟩
    have HRZ2:=am (blk_below HRZ1.out hb)
    have HBZ2:=am (below_then HBZ1.out (below_size HBZ1.out) hb)
    have H992:=am (blk_below H991.out hb)
    have HF62:=am (Kd.F_below HF61.out hb)
    have HFS2:=am (Kd.F_below HFS1.out hb)
    clear hb
    refine ⟨_,rfl,?_⟩
    refine hK.out _ _ ⟨(blk_cell H992.out 0).trans rfl,(blk_cell H992.out 1).trans rfl⟩ (fun hHeld => ?_)
    clear hK K
    refine qN (some 82) ?_
    refine last_ (i:=4) (N:=none) (ab 7 31) rfl rfl (one_of HT_.out kr) (by decide) (fun K hK => ?_)
    have u0:=bd HRZ2.out 0
    have fu0:=blk_frozen HRZ2.out 0
    have u1:=bd HRZ2.out 1
    have fu1:=blk_frozen HRZ2.out 1
    refine skip_ (w1:=?_) (by rfl) rfl ?_ ?_
    rotate_left
    ·go_simp
     rfl
    refine hK.out _ _ ?_
    clear hK K
    refine pure_ (i:=5) (N:=(some 5)) (v:=?_) (a':=?_) (ab 7 63) rfl rfl (any_of HT_.out kr) (fun _ _ _ h => h) (Or.inl ⟨by rfl,?_⟩) ?_ ?_
    rotate_left
    ·intro w'
     go_simp
     with_reducible rfl
    rotate_left
    ·exact vs
    refine pure_ (i:=6) (N:=(some 6)) (v:=?_) (a':=?_) (ab 7 127) rfl rfl (any_of HT_.out kr) (fun _ _ _ h => h) (Or.inl ⟨by rfl,?_⟩) ?_ ?_
    rotate_left
    ·intro w'
     go_simp
     with_reducible rfl
    rotate_left
    ·exact vs
    refine done_ (done_of HT_.out kr) ?_
    go_wp2
    have HF7:=am (Kd.F_far (Kd.F_far HF62.out (p:=⟨W.heap.size + 1,0,none⟩) (fun k hk => by have h:=HLTW.out;(try dsimp only);omega) (.slice A5 rooms.length c5)) (p:=⟨W.heap.size + 1,1,none⟩) (fun k hk => by have h:=HLTW.out;(try dsimp only);omega) (.slice (some ad) stirs.length c6))
    have HC8:=am ((Kd.F_far (Kd.F_far HFS2.out (p:=⟨W.heap.size + 1,0,none⟩) (fun k hk => by have h:=HLTW.out;(try dsimp only);omega) (.slice A5 rooms.length c5)) (p:=⟨W.heap.size + 1,1,none⟩) (fun k hk => by have h:=HLTW.out;(try dsimp only);omega) (.slice (some ad) stirs.length c6)))
    have bz:=blk_put (cs':=#[.slice A5 rooms.length c5,.slice (some ad) stirs.length c6]) (blk_put (cs':=#[.slice A5 rooms.length c5,.slice none 0 0]) (HRZ2.out) 0 (.slice A5 rooms.length c5) rfl) 1 (.slice (some ad) stirs.length c6) rfl
    have z0:=bd bz 0
    have z1:=bd bz 1
    exact bodyPost_ret (v:=.tuple #[.agg #[.slice A5 rooms.length c5,.slice (some ad) stirs.length c6],.bool (alikeP Y Z),ii 0]) (by simp [results,Tryz.results44,go_sem,z0,z1,hu]) rfl ⟨((HBZ2.out).setCell (p:=⟨W.heap.size + 1,0,none⟩) (by first|(simp;done)|(simp;omega)) (.slice A5 rooms.length c5)).setCell (p:=⟨W.heap.size + 1,1,none⟩) (by first|(simp;done)|(simp;omega)) (.slice (some ad) stirs.length c6),by
     rw [HQP.out]
     dsimp only
     rw [if_pos HK.out.symm,HSW.out]
     exact ⟨A5,some ad,c5,c6,rfl,HL5.out,HL6.out,Kd.F_mono HF7.out (fun k hk => Nat.le_trans HSZ.out hk),by rw [Int.toNat_natCast,show k + 1 - 1 = k by omega,← HNS.out];exact Kd.F_mono HC8.out (fun k hk => Nat.le_trans HSZ.out hk)⟩⟩
def exR : List Int:=[100,50]
def exS : List S84:=[⟨1,1,0,0,0,30⟩,⟨2,1,2,0,0,20⟩,⟨11,2,3,0,0,10⟩,⟨0,3,4,0,0,0⟩,⟨12,2,9,0,0,10⟩,⟨0,4,9,0,1,15⟩,⟨3,1,10,1,0,5⟩,⟨13,2,12,1,0,18⟩]
def exY : Yd:=match playedP exR exS exS.length with
|.ok Y => Y
|.error _ => emptyP []
def exB : S167:=⟨13,7,18,[⟨1,⟨15,2⟩⟩,⟨2,⟨15,2⟩⟩,⟨3,⟨3,1⟩⟩]⟩
def exG : List S113:=[⟨1,⟨0,100⟩⟩,⟨2,⟨60,60⟩⟩]
def exP : List S137:=[⟨12,⟨100,120⟩⟩,⟨13,⟨50,90⟩⟩]
theorem ex_ok : playedP exR exS exS.length = .ok exY:=by kernel_rfl
theorem ex_barrow : exY.barrows.find? (isId 13) = some exB:=by kernel_rfl
theorem ex_share : shareE (playedP exR exS exS.length) 13 3 = (⟨1,6⟩,0):=by kernel_rfl
theorem ex_ages : agesE exS (playedP exR exS exS.length) 13 = ((2,12),0):=by kernel_rfl
theorem ex_ripe : ripeE exS (playedP exR exS exS.length) 12 8 = (⟨1,2⟩,0):=by kernel_rfl
theorem ex_fate : fateE (playedP exR exS exS.length) 2 = ([⟨12,⟨5,1⟩⟩,⟨13,⟨15,2⟩⟩],⟨15,2⟩,⟨0,1⟩,0):=by kernel_rfl
theorem ex_worth : worthE (playedP exR exS exS.length) 13 exG = (⟨25,1⟩,⟨700,3⟩,0):=by kernel_rfl
theorem ex_probes : probesE exY exP = 0:=by kernel_rfl
theorem ex_culp : culpP exY exP exY.pours = [⟨1,⟨200,1⟩,⟨216,1⟩⟩,⟨2,⟨200,1⟩,⟨216,1⟩⟩]:=by kernel_rfl
def exZ (step : Int) : Yd:=match swapR exR exS step with
|.ok Y => Y
|.error _ => emptyP []
theorem ex_in5 : inP 5 1 ((exS.length : Int) - 1) = true:=by kernel_rfl
theorem ex_in1 : inP 1 1 ((exS.length : Int) - 1) = true:=by kernel_rfl
theorem ex_swap5 : swapR exR exS 5 = .ok (exZ 5):=by kernel_rfl
theorem ex_swap1 : swapR exR exS 1 = .ok (exZ 1):=by kernel_rfl
theorem ex_alike5 : alikeP exY (exZ 5) = true:=by kernel_rfl
theorem ex_alike1 : alikeP exY (exZ 1) = false:=by kernel_rfl
theorem ex_frac (n d : Int) (w : World) : Calls Tryz.prog 52 #[ii n,ii d] w fun e w' => e = .returned (.agg #[ii n,ii d]) ∧ Below w.heap.size w w':=calxlaw04_frac.calls n d n d w rfl
end Go.Proofs.YtjjfpmapjjemcaaGreat.B
end
