import Derived.Test.YtjjfpmapjjemcaaGreatQ20
import Derived.Test.YtjjfpmapjjemcaaGreatQ32
import Derived.Test.YtjjfpmapjjemcaaGreatQ33
import Derived.Test.YtjjfpmapjjemcaaGreatQ37
import Derived.Test.YtjjfpmapjjemcaaGreatQ41
import Derived.Test.YtjjfpmapjjemcaaGreatQ7
import Derived.Test.YtjjfpmapjjemcaaGreatQ9
set_option linter.unusedVariables false
set_option linter.unusedSimpArgs false
section
namespace Go.Proofs.YtjjfpmapjjemcaaGreat.B
open Go.RowKit Go.Proofs.YtjjfpmapjjemcaaGreatW.PrintWords Go.Proofs.YtjjfpmapjjemcaaGreatW.PrintLast Go.Proofs.YtjjfpmapjjemcaaGreatW.PrintMore
attribute [local go_sem] max2_int min2_int max_two min_two max_three min_three max_four min_four
def R125_8.T : Bool × List (List Nat × List Nat):=(true,[([],[]),([0],[0]),([1],[1]),([2],[2]),([],[]),([4],[4]),([5],[5]),([6],[6]),([3,7],[3,7]),([8,8,0,1,2,3,4,5,6,7,8],[8])])
def R125_8.B : List Nat:=[0,1,3,7,0,16,48,112,255,511]
theorem R125_8.tab : rtab .any (opsOf Tryz.f125 8) = R125_8.T:=by kernel_rfl
theorem R125_8.bits : waitsOk R125_8.T.2 R125_8.B = true:=by kernel_rfl
theorem at_pit {w : World} {A : Option Addr} {n : Nat} {xs : List (List S212)} (h : Kd.C (Kd.slice 212 k212) w A n xs) (i : Int) (h0 : 0 ≤ i) (h1 : i < n) : ∃ ad A1 c1,A = some ad ∧ w.cell? (ad.add i.toNat) = some (.slice A1 (xs.getD i.toNat []).length c1) ∧ (xs.getD i.toNat []).length ≤ c1 ∧ Kd.C k212 w A1 (xs.getD i.toNat []).length (xs.getD i.toNat []):=by
 obtain ⟨ad,cs,e,_,hK,hcc⟩:=Kd.C_get h [] i h0 h1
 obtain ⟨A1,c1,rfl,hl,hC⟩:=hK
 have hc:=hcc 0 _ rfl
 have e1 : i.toNat * (Kd.slice 212 k212).sz + 0 = i.toNat:=by show i.toNat * 1 + 0 = _;omega
 rw [e1] at hc
 exact ⟨ad,A1,c1,e,hc,hl,hC⟩
theorem drop_pit {l : List (List S212)} {j : Nat} (h : j < l.length) : l.drop j = l.getD j [] :: l.drop (j + 1):=by
 rw [List.drop_eq_getElem_cons h,List.getD_eq_getElem?_getD,List.getElem?_eq_getElem h];rfl
def alikeOne (b : Yd) (x : S167) : Bool:=match b.barrows.find? (isId x.f0) with
|none => false
|some y => sameP x.f3 y.f3
def alikeP (a b : Yd) : Bool:=a.barrows.all (alikeOne b) && eqAll (eqAll eqPar) a.pits b.pits
theorem drop_rd167 {l : List S167} {j : Nat} (h : j < l.length) : l.drop j = rd_T167 l (j : Int) :: l.drop (j + 1):=by
 rw [List.drop_eq_getElem_cons h];unfold rd_T167;rw [Int.toNat_natCast,List.getD_eq_getElem?_getD,List.getElem?_eq_getElem h];rfl
theorem YardAt.pits_C {W : World} {base : Nat} {L : Loc} {Y : Yd} (h : YardAt W base L Y) : Kd.C (Kd.slice 212 k212) W (some ⟨L.gp,0,none⟩) Y.pits.length Y.pits:=by
 obtain ⟨A,c,e,hl,hC⟩:=Kd.R_reads h.pits
 injection e with e1 e2 e3
 rw [e1]
 exact hC.imp_ (Below.refl _ _) fun _ _ hp => Foot.now hp
set_option maxRecDepth 100000 in
set_option maxHeartbeats 2000000 in
theorem eq179_calls (A B : Option Addr) (c d : Nat) (l m : List (List S212)) (W : World) (hr : Kd.C (Kd.slice 212 k212) W A l.length l) (hc : l.length ≤ c) (hs : Kd.C (Kd.slice 212 k212) W B m.length m) (hd : m.length ≤ d) :
  Calls Tryz.prog 179 #[.slice A l.length c,.slice B m.length d,.func (.func 180) #[] #[]] W fun e W' => e = .returned (.bool (eqAll (eqAll eqPar) l m)) ∧ Below W.heap.size W W':=by
 have hmx:=hr.2.1
 have HC:=am hr
 have HD:=am hs
 clear hr hs
 have ek180 : ∀ args w,(callFunc 180 args).run Tryz.prog w = .ok (.enter 180 args) w:=enters_of Tryz.func180 kr rfl
 go_enter Tryz.func179,Tryz.ntmps179
 by_cases hlen : l.length = m.length
 ·
  have hq : ((l.length : Int) == (m.length : Int)) = true:=by simp [hlen]
  have hq2 : ((l.length : Int) != (m.length : Int)) = false:=by simp [hlen]
  have HLN:=am hlen
  have hmc : l.length ≤ d:=by omega
  clear hlen
  obtain ⟨q,hqq⟩ : ∃ q,q = eqAll (eqAll eqPar) l m:=⟨_,rfl⟩
  rw [← hqq]
  have HQ:=am hqq
  clear hqq
  go_wp2
  clear hq hq2
  go_loopw [17] (fun v17 wr => ∃ j : Nat,j ≤ l.length ∧ v17 = ii (j : Int) ∧ Aside0 (q = eqAll (eqAll eqPar) (l.drop j) (m.drop j)) ∧ Aside0 (Below W.heap.size W wr)) (fun v17 _ => l.length - (intOf v17).toNat)
  case atStart => exact ⟨0,Nat.zero_le _,rfl,⟨HQ.out⟩,⟨Below.refl _ _⟩⟩
  case round =>
   obtain ⟨j,hj,rfl,HA,HN⟩:=hrel
   by_cases hlt : j < l.length
   ·
    have hltm : j < m.length:=by have:=HLN.out;omega
    obtain ⟨ae,A1,c1,e,hx0,hl1,hC1⟩:=at_pit (Kd.C_below HC.out HN.out) (j : Int) (by omega) (by omega)
    cases e
    obtain ⟨be,B1,d1,e,hy0,hl2,hC2⟩:=at_pit (Kd.C_below HD.out HN.out) (j : Int) (by omega) (by omega)
    cases e
    rw [Int.toNat_natCast] at hx0 hl1 hC1 hy0 hl2 hC2
    rw [drop_pit hlt,drop_pit hltm] at HA
    obtain ⟨x,hx⟩ : ∃ x,x = l.getD j []:=⟨_,rfl⟩
    obtain ⟨y,hy⟩ : ∃ y,y = m.getD j []:=⟨_,rfl⟩
    rw [← hx] at hx0 hl1 hC1 HA
    rw [← hy] at hy0 hl2 hC2 HA
    clear hx hy
    have hjm : (j : Int) < (m.length : Int):=by omega
    have H1:=am (hC1)
    have H2:=am (hC2)
    have HL1:=am hl1
    have HL2:=am hl2
    clear hC1 hC2 hl1 hl2
    obtain ⟨k,hk⟩ : ∃ k,k = eqAll eqPar x y:=⟨_,rfl⟩
    have HK:=am hk
    clear hk
    go_wp2_with fail
    refine (cl180_calls A1 B1 c1 d1 x y _ H1.out HL1.out H2.out HL2.out).mono ?_
    rintro e w5 ⟨rfl,hb⟩
    rw [← HK.out]
    have HN1:=am (below_then HN.out (below_size HN.out) hb)
    clear hb hx0 hy0
    cases k with
   |false =>
     go_wp2
     go_ret
     exact ⟨by rw [HA.out];simp only [eqAll];rw [← HK.out];rfl,HN1.out⟩
   |true =>
     go_wp2
     go_roundw
     case rel => exact ⟨j + 1,by omega,by go_num,⟨by rw [HA.out];simp only [eqAll];rw [← HK.out,Bool.true_and]⟩,HN1⟩
     case measure => simp [intOf];omega
   ·
    have HE:=am (show q = true by rw [HA.out,List.drop_eq_nil_of_le (by omega),List.drop_eq_nil_of_le (by have:=HLN.out;omega)];rfl)
    go_wp2
    go_ret
    exact ⟨by rw [HE.out];rfl,HN.out⟩
 ·
  have hq2 : ((l.length : Int) != (m.length : Int)) = true:=by simp;omega
  have HE:=am (eqAll_len (p:=eqAll eqPar) hlen)
  clear hlen
  go_wp2
  go_ret
  exact ⟨by rw [HE.out];rfl,Below.refl _ _⟩
set_option maxRecDepth 100000 in
set_option maxHeartbeats 2000000 in
theorem alike_calls {W : World} {base base2 n : Nat} {L M : Loc} {Y Z : Yd} (ha : YardAt W base L Y) (hz : YardAt W base2 M Z) (hw2 : Wf n Z) (hn : n ≤ 60) :
  Calls Tryz.prog 125 #[.pointer (some ⟨L.g,0,none⟩),.pointer (some ⟨M.g,0,none⟩)] W fun e W' => e = .returned (.bool (alikeP Y Z)) ∧ Below W.heap.size W W':=by
 have hu167:=Tryz.underlying167
 obtain ⟨Ab,cb,hb,hlb,hCb⟩:=Kd.R_reads ha.barrows
 have hCb' : Kd.C k167 W Ab Y.barrows.length Y.barrows:=hCb.imp_ (Below.refl _ _) fun _ _ hp => Foot.now hp
 have hB:=ha.blk
 rw [hb] at hB
 have hmx:=hCb.2.1
 have hpl:=ha.plen
 have hpz:=hz.plen
 have g4:=bd hB 4
 have HW2:=am hw2
 have HC:=am (hCb')
 have HA:=am (ha)
 have HZ:=am (hz)
 clear ha hz hb hCb hCb' hB hw2
 obtain ⟨q,hqq⟩ : ∃ q,q = alikeP Y Z:=⟨_,rfl⟩
 rw [← hqq]
 have HQ:=am (show q = (Y.barrows.all (alikeOne Z) && eqAll (eqAll eqPar) Y.pits Z.pits) from hqq)
 clear hqq
 go_enter Tryz.func125,Tryz.ntmps125
 go_wp2
 clear g4
 go_loopw [14] (fun v14 wr => ∃ j : Nat,j ≤ Y.barrows.length ∧ v14 = ii (j : Int) ∧ Aside0 (q = ((Y.barrows.drop j).all (alikeOne Z) && eqAll (eqAll eqPar) Y.pits Z.pits)) ∧ Aside0 (Below W.heap.size W wr)) (fun v14 _ => Y.barrows.length - (intOf v14).toNat)
 case atStart => exact ⟨0,Nat.zero_le _,rfl,⟨HQ.out⟩,⟨Below.refl _ _⟩⟩
 case round =>
  obtain ⟨j,hj,rfl,HT,HN⟩:=hrel
  by_cases hlt : j < Y.barrows.length
  ·
   obtain ⟨ae,A3,c3,e,hx0,hx1,hx2,hx3,hl3,hC3⟩:=at_T167 (Kd.C_below HC.out HN.out) (j : Int) (by omega) (by omega)
   cases e
   rw [Int.toNat_natCast] at hx0 hx1 hx2 hx3
   rw [drop_rd167 hlt,List.all_cons] at HT
   obtain ⟨b,hb⟩ : ∃ b,b = rd_T167 Y.barrows (j : Int):=⟨_,rfl⟩
   rw [← hb] at hx0 hx1 hx2 hx3 hl3 hC3 HT
   clear hb
   have H3:=am (hC3)
   have HL3:=am hl3
   clear hC3 hl3
   have HN1:=am (below_alloc HN.out (.cells #[ii b.f0,ii b.f1,ii b.f2,.slice A3 b.f3.length c3] 167))
   have H31:=am (Kd.C_alloc H3.out (.cells #[ii b.f0,ii b.f1,ii b.f2,.slice A3 b.f3.length c3] 167))
   have HX:=am (blk_new wr (.cells #[ii b.f0,ii b.f1,ii b.f2,.slice A3 b.f3.length c3] 167))
   go_wp2_with fail
   refine (find_calls (HZ.out.move HN1.out) HW2.out hn b.f0).mono ?_
   rintro e w5 ⟨hb,h⟩
   have HN2:=am (below_then HN1.out (below_size HN1.out) hb)
   have H32:=am (Kd.C_below H31.out hb)
   have HX1:=am (blk_below HX.out hb)
   clear hb hx0 hx1 hx2 hx3
   rcases h with ⟨hno,rfl⟩|⟨z,A4,c4,hfd,rfl,hl4,hF4⟩
   ·
    have HE:=am (show q = false by rw [HT.out];unfold alikeOne;rw [find_none_of hno];rfl)
    clear hno
    have HN3:=am (below_alloc HN2.out (.cells #[ii 0,ii 0,ii 0,.slice none 0 0] 167))
    have H33:=am (Kd.C_alloc H32.out (.cells #[ii 0,ii 0,ii 0,.slice none 0 0] 167))
    have HX2:=am (blk_alloc HX1.out (.cells #[ii 0,ii 0,ii 0,.slice none 0 0] 167))
    go_wp2
    go_ret
    exact ⟨by rw [HE.out];rfl,HN3.out⟩
   ·
    have HAO:=am (show alikeOne Z b = sameP b.f3 z.f3 by unfold alikeOne;rw [hfd])
    have HL4:=am hl4
    have H4:=am (Kd.F_now hF4)
    clear hfd hl4 hF4
    have HN3:=am (below_alloc HN2.out (.cells #[ii z.f0,ii z.f1,ii z.f2,.slice A4 z.f3.length c4] 167))
    have H33:=am (Kd.C_alloc H32.out (.cells #[ii z.f0,ii z.f1,ii z.f2,.slice A4 z.f3.length c4] 167))
    have HX2:=am (blk_alloc HX1.out (.cells #[ii z.f0,ii z.f1,ii z.f2,.slice A4 z.f3.length c4] 167))
    have H41:=am (Kd.C_alloc H4.out (.cells #[ii z.f0,ii z.f1,ii z.f2,.slice A4 z.f3.length c4] 167))
    have g3:=bd HX2.out 3
    obtain ⟨k,hk⟩ : ∃ k,k = sameP b.f3 z.f3:=⟨_,rfl⟩
    rw [← hk] at HAO
    have HK:=am hk
    clear hk
    go_wp2_with fail
    refine (same_calls A3 A4 c3 c4 b.f3 z.f3 _ H33.out HL3.out H41.out HL4.out).mono ?_
    rintro e w6 ⟨rfl,hb⟩
    rw [← HK.out]
    have HN4:=am (below_then HN3.out (below_size HN3.out) hb)
    clear hb g3
    cases k with
   |false =>
     go_wp2
     go_ret
     exact ⟨by rw [HT.out,HAO.out];rfl,HN4.out⟩
   |true =>
     go_wp2
     go_roundw
     case rel => exact ⟨j + 1,by omega,by go_num,⟨by rw [HT.out,HAO.out,Bool.true_and]⟩,HN4⟩
     case measure => simp [intOf];omega
  ·
   have HE:=am (show q = eqAll (eqAll eqPar) Y.pits Z.pits by rw [HT.out,List.drop_eq_nil_of_le (by omega)];rfl)
   have HBD:=am (below_drew HN.out)
   have HA9:=am (HA.out.move (below_drew HN.out))
   have HZ9:=am (HZ.out.move (below_drew HN.out))
   go_wp2
   refine start_ (n:=10) (S:=fun w' => w'.cell? ⟨L.g,1,none⟩ = some (.slice (some ⟨L.gp,0,none⟩) Y.rooms.length Y.rooms.length) ∧ w'.cell? ⟨M.g,1,none⟩ = some (.slice (some ⟨M.gp,0,none⟩) Z.rooms.length Z.rooms.length)) (ds:=[]) (ab 10 0) kr rfl kr ⟨(blk_cell HA9.out.blk 1).trans rfl,(blk_cell HZ9.out.blk 1).trans rfl⟩ (fun hHeld => ?_);refine with_tabW R125_8.tab R125_8.bits (fun HT_ HW_ => ?_)
   generalize (wr).drew = wd at HBD HA9 HZ9 hHeld ⊢
   refine qA 0 (some 36) ?_;refine qA 1 (some 37) ?_;refine qA 2 (some 38) ?_;refine qT 3 (some 39) ?_;refine qA 4 (some 40) ?_;refine qA 5 (some 41) ?_;refine qA 6 (some 42) ?_;refine qT 7 (some 43) ?_
   refine qE 8 (some 44) fun K hK => ?_
   refine gC Tryz.func179 #[.slice (some ⟨L.gp,0,none⟩) Y.rooms.length Y.rooms.length,.slice (some ⟨M.gp,0,none⟩) Z.rooms.length Z.rooms.length,.func (.func 180) #[] #[]] ?_
   have hh:=eq179_calls (some ⟨L.gp,0,none⟩) (some ⟨M.gp,0,none⟩) Y.rooms.length Z.rooms.length Y.pits Z.pits wd HA9.out.pits_C (by omega) HZ9.out.pits_C (by omega)
   rw [hpl,hpz] at hh
   refine hh.mono ?_
   rintro e w6 ⟨rfl,hb⟩
   have HB6:=am (below_then HBD.out (below_size HBD.out) hb)
   have HA6:=am (HA9.out.move hb)
   have HZ6:=am (HZ9.out.move hb)
   clear hb
   rw [← HE.out]
   refine ⟨_,rfl,?_⟩
   refine hK.out _ _ ⟨(blk_cell HA6.out.blk 1).trans rfl,(blk_cell HZ6.out.blk 1).trans rfl⟩ (fun hHeld => ?_)
   clear hK K
   refine qN (some 44) ?_
   refine qA 9 (some 4) ?_
   refine done_ (done_of HT_.out kr) ?_
   go_wp2
   go_ret
   exact ⟨rfl,HB6.out⟩
theorem at_pitF {W0 w : World} {ok0 : Nat → Prop} {A : Option Addr} {n : Nat} {xs : List (List S212)} (h : Kd.C (ft (Kd.slice 212 k212) W0 ok0) w A n xs) (i : Int) (h0 : 0 ≤ i) (h1 : i < n) : ∃ ad A1 c1,A = some ad ∧ w.cell? (ad.add i.toNat) = some (.slice A1 (xs.getD i.toNat []).length c1) ∧ (xs.getD i.toNat []).length ≤ c1 ∧ Kd.F k212 W0 ok0 A1 (xs.getD i.toNat []).length (xs.getD i.toNat []):=by
 obtain ⟨ad,cs,e,_,hK,hcc⟩:=Kd.C_get h [] i h0 h1
 have hM : Kd.FK (Kd.slice 212 k212) W0 ok0 (xs.getD i.toNat []) cs:=hK
 obtain ⟨A1,c1,e1,hl,_⟩:=Foot.now hM
 subst e1
 have hc:=hcc 0 _ rfl
 have e2 : i.toNat * (ft (Kd.slice 212 k212) W0 ok0).sz + 0 = i.toNat:=by show i.toNat * 1 + 0 = _;omega
 rw [e2] at hc
 refine ⟨ad,A1,c1,e,hc,hl,fun W2 hW => ?_⟩
 obtain ⟨A',c',e',_,hC⟩:=hM W2 hW
 injection e' with e' _
 injection e' with ea _ _
 rw [ea]
 exact hC
theorem flat_take {l : List (List S212)} {j : Nat} (h : j < l.length) : (l.take (j + 1)).flatten = (l.take j).flatten ++ l.getD j []:=by
 rw [List.take_succ_eq_append_getElem h,List.flatten_append,List.getD_eq_getElem?_getD,List.getElem?_eq_getElem h]
 simp
theorem flat_le (l : List (List S212)) (j : Nat) : (l.take j).flatten.length ≤ l.flatten.length:=by
 have:=congrArg (fun x => x.flatten.length) (List.take_append_drop j l)
 simp only [List.flatten_append,List.length_append] at this
 omega
theorem under3 : Tryz.prog.underlying 3 = some (.int .i64):=by kernel_rfl
set_option maxRecDepth 100000 in
set_option maxHeartbeats 2000000 in
theorem grow_calls (n : Int) (h0 : 0 ≤ n) (h1 : n ≤ 1000000) (W W0 : World) (ok : Nat → Prop) :
  Calls Tryz.prog 171 #[.slice none 0 0,ii n] W fun e W' => ∃ v,e = .returned v ∧ Below W.heap.size W W' ∧ (ft k212 W0 ok).R 212 W' W.heap.size (fun _ => True) v []:=by
 have hu131:=Tryz.underlying131
 go_enter Tryz.func171,Tryz.ntmps171
 by_cases hn : 0 < n
 ·
  have HH:=am (Kd.R_nil (ft k212 W0 ok) 212 W W.heap.size (fun _ => True))
  have hw0 : IntKind.i64.wrap n = n:=IntWalk.i64_in _ (by omega)
  have hw1 : IntKind.i64.wrap (n - 0) = n:=by rw [IntWalk.i64_in _ (by omega)];omega
  skip
  go_wp2_with (at_builtin;refine Kd.R_append_zeros (ft k212 W0 ok) (w0:=W) W.heap.size rfl _ _ 131 3 212 (.agg #[ii 0,.slice none 0 0]) 32 rfl Tryz.underlying131 under3 info212_ rfl (by show 0 < (k212 : Kd _).sz;decide) (by decide) (.slice none 0 0) [] z212 n (fun _ => True) rfl rfl (k212_mkF W0 ok z212 (A1:=none) (c1:=0) (Nat.le_refl 0) (fun _ _ => Kd.C_nil k89 _)) (fun _ _ => trivial) HH.out h0 (Below.refl _ _) (Nat.le_refl _) (by simp;omega) ?_;intro v1 w1 hr1 hb1 hg1 hat1;obtain ⟨A1,c1,rfl⟩:=Kd.R_slice hr1;have HR1:=am hr1;have HB1:=am hb1;clear hr1 hb1 hg1 hat1)
  go_ret
  exact ⟨_,rfl,HB1.out,by have h:=Kd.R_take HR1.out (m:=0) (Nat.zero_le _);rw [List.take_zero] at h;exact h⟩
 ·
  have hz : n = 0:=by omega
  subst hz
  go_wp2
  go_ret
  exact ⟨_,rfl,Below.refl _ _,Kd.R_nil _ _ _ _ _⟩
set_option maxRecDepth 100000 in
set_option maxHeartbeats 2000000 in
theorem concat_calls (A : Option Addr) (c : Nat) (l : List (List S212)) (W : World) (ok : Nat → Prop) (hC : Kd.C (ft (Kd.slice 212 k212) W ok) W A l.length l) (hc : l.length ≤ c) (hlen : l.flatten.length ≤ 1000000) :
  Calls Tryz.prog 116 #[.slice A l.length c] W fun e W' => ∃ v,e = .returned v ∧ Below W.heap.size W W' ∧ (ft k212 W ok).R 212 W' W.heap.size (fun _ => True) v l.flatten:=by
 have hmx:=hC.2.1
 have HC:=am hC
 have HLN:=am hlen
 clear hC hlen
 go_enter Tryz.func116,Tryz.ntmps116
 go_wp2
 go_loopw [3,11] (fun v3 v11 wr => ∃ (j : Nat),j ≤ l.length ∧ v3 = ii ((l.take j).flatten.length : Int) ∧ v11 = ii (j : Int) ∧ Aside0 (Below W.heap.size W wr)) (fun _ v11 _ => l.length - (intOf v11).toNat)
 case atStart => exact ⟨0,Nat.zero_le _,rfl,rfl,⟨Below.refl _ _⟩⟩
 case round =>
  obtain ⟨j,hj,rfl,rfl,HN⟩:=hrel
  by_cases hlt : j < l.length
  ·
   obtain ⟨ae,A1,c1,e,hx0,hl1,hF1⟩:=at_pitF (Kd.C_below HC.out HN.out) (j : Int) (by omega) (by omega)
   cases e
   rw [Int.toNat_natCast] at hx0 hl1 hF1
   have hs:=congrArg List.length (flat_take hlt)
   rw [List.length_append] at hs
   have hfl:=flat_le l (j + 1)
   have hln:=HLN.out
   obtain ⟨p,hp⟩ : ∃ p,p = l.getD j []:=⟨_,rfl⟩
   rw [← hp] at hx0 hs
   obtain ⟨m,hm⟩ : ∃ m,m = (l.take j).flatten.length:=⟨_,rfl⟩
   obtain ⟨m2,hm2⟩ : ∃ m2,m2 = (l.take (j + 1)).flatten.length:=⟨_,rfl⟩
   rw [← hm,← hm2] at hs
   rw [← hm2] at hfl
   have hmb : m2 ≤ 1000000:=by omega
   have HM2:=am hm2
   have hww : IntKind.i64.wrap ((m : Int) + (p.length : Int)) = (m2 : Int):=by rw [IntWalk.i64_in _ (by omega)];omega
   rw [← hm]
   have hm20 : ¬ ((m2 : Int) < 0):=by omega
   clear hm hm2 hs hfl hl1 hF1 hp hln
   go_wp2
   go_roundw
   case rel => exact ⟨j + 1,by omega,by rw [HM2.out],by go_num,HN⟩
   case measure => simp [intOf];omega
  ·
   have hje : j = l.length:=by omega
   subst hje
   have htk : l.take l.length = l:=List.take_length
   rw [htk]
   obtain ⟨m,hm⟩ : ∃ m,m = l.flatten.length:=⟨_,rfl⟩
   rw [← hm]
   have hmb : m ≤ 1000000:=by have:=HLN.out;omega
   clear htk hm hj hlt
   go_wp2_with fail
   refine (grow_calls (m : Int) (by omega) (by omega) wr W ok).mono ?_
   rintro e w1 ⟨v,rfl,hb,hR⟩
   have HN1:=am (below_then HN.out (below_size HN.out) hb)
   have HV0:=am (Kd.R_lower hR (below_size HN.out))
   clear hb hR
   go_wp2
   go_loopw [6,27] (fun v6 v27 wr => ∃ (j : Nat),j ≤ l.length ∧ v27 = ii (j : Int) ∧ Aside0 (Below W.heap.size W wr) ∧ Aside0 ((ft k212 W ok).R 212 wr W.heap.size (fun _ => True) v6 (l.take j).flatten)) (fun _ v27 _ => l.length - (intOf v27).toNat)
   case atStart => exact ⟨0,Nat.zero_le _,rfl,HN1,HV0⟩
   case round =>
    clear HN HN1 HV0
    obtain ⟨j,hj,rfl,HN,HV⟩:=hrel
    obtain ⟨q,hq⟩ : ∃ q,q = (l.take j).flatten:=⟨_,rfl⟩
    rw [← hq] at HV
    have HQ:=am hq
    clear hq
    obtain ⟨Av,cv,rfl⟩:=Kd.R_slice HV.out
    by_cases hlt : j < l.length
    ·
     obtain ⟨ae,A1,c1,e,hx0,hl1,hF1⟩:=at_pitF (Kd.C_below HC.out HN.out) (j : Int) (by omega) (by omega)
     cases e
     rw [Int.toNat_natCast] at hx0 hl1 hF1
     have HT:=am (flat_take hlt)
     obtain ⟨p,hp⟩ : ∃ p,p = l.getD j []:=⟨_,rfl⟩
     rw [← hp] at hx0 hl1 hF1 HT
     rw [← HQ.out] at HT
     have HPL:=am (show q.length + p.length ≤ 1000000 from by
      have h1:=flat_le l (j + 1)
      rw [HT.out,List.length_append] at h1
      have:=HLN.out
      omega)
     have HX:=am (ReadsRow.imp_ (Kd.F_rows hF1) HN.out (fun _ _ h => h))
     clear hp hl1 hF1
     go_wp2_with (at_builtin;go_loud (refine Kd.R_append_rows (ft k212 W ok) (Rr:=fun x c => Kd.FK k212 W ok x c) (w0:=W) (W:=wr) W.heap.size rfl _ _ 131 212 (.agg #[ii 0,.slice none 0 0]) 32 rfl Tryz.underlying131 info212_ rfl (by show 0 < (k212 : Kd _).sz;decide) (by decide) (.slice Av q.length cv) q p A1 p.length c1 (fun _ => True) (fun _ => False) rfl rfl HV.out HX.out (fun _ _ h => h) (fun _ h => h.elim) (fun _ _ => trivial) HN.out (below_size HN.out) (by have:=HPL.out;omega) ?_;intro v1 w2 hs1 hb1 hg1 hat1;have HS1:=am hs1;have HB1:=am hb1;clear hs1 hb1 hg1 hat1))
     go_roundw
     case rel => exact ⟨j + 1,by omega,by go_num,HB1,⟨by rw [HT.out];exact HS1.out⟩⟩
     case measure => simp [intOf];omega
    ·
     have hq : q = l.flatten:=by rw [HQ.out,List.take_of_length_le (by omega)]
     have HQ2:=am hq
     clear hq
     go_wp2
     go_ret
     exact ⟨_,rfl,HN.out,by rw [← HQ2.out];exact HV.out⟩
def R36_18.T : Bool × List (List Nat × List Nat):=(true,[([],[]),([],[]),([],[]),([0,0],[0]),([1,3,0,1,3],[1]),([2,4,0,1,2,3,4],[2]),([5,0,1,2,3,4,5],[])])
def R36_18.B : List Nat:=[0,0,0,1,11,31,63]
theorem R36_18.tab : rtab .any (opsOf Tryz.f36 18) = R36_18.T:=by kernel_rfl
theorem R36_18.bits : waitsOk R36_18.T.2 R36_18.B = true:=by kernel_rfl
def wentP (bs : List S167) (pour : Int) : List S89:=(bs.filter fun b => decide ((partP b pour).f0 > 0)).map fun b => ⟨b.f0,partP b pour⟩
theorem wentP_snoc {bs : List S167} {pour : Int} {j : Nat} (h : j < bs.length) : wentP (bs.take (j + 1)) pour = wentP (bs.take j) pour ++ (if (partP (rd_T167 bs (j : Int)) pour).f0 > 0 then [⟨(rd_T167 bs (j : Int)).f0,partP (rd_T167 bs (j : Int)) pour⟩] else []):=by
 rw [List.take_succ_eq_append_getElem h]
 have hrd : rd_T167 bs (j : Int) = bs[j]:=by unfold rd_T167;rw [Int.toNat_natCast,List.getD_eq_getElem?_getD,List.getElem?_eq_getElem h];rfl
 rw [hrd]
 unfold wentP
 rw [List.filter_append,List.map_append,List.filter_cons,List.filter_nil]
 by_cases hp : (partP bs[j] pour).f0 > 0
 ·simp [hp]
 ·simp [hp]
theorem wentP_len (bs : List S167) (pour : Int) : (wentP bs pour).length ≤ bs.length:=by unfold wentP;rw [List.length_map];exact List.length_filter_le _ _
def idR (r : S43) : S43:=r
def leftP (Y : Yd) (pour : Int) : Option S43:=totalP idR (ofL pour (partsP Y.pits.flatten))
def lostP (Y : Yd) (pour : Int) : Option S43:=totalP idR (ofL pour (partsP Y.lost))
def fateE (r : Except (Int × Int) Yd) (pour : Int) : List S89 × S43 × S43 × Int:=match r with
|.error x => ([],⟨0,0⟩,⟨0,0⟩,x.1)
|.ok Y => if pour ∈ Y.pours then (if (leftP Y pour).isSome = true then (if (lostP Y pour).isSome = true then (wentP Y.barrows pour,(leftP Y pour).getD ⟨0,0⟩,(lostP Y pour).getD ⟨0,0⟩,0) else ([],⟨0,0⟩,⟨0,0⟩,3)) else ([],⟨0,0⟩,⟨0,0⟩,3)) else ([],⟨0,0⟩,⟨0,0⟩,5)
def FatePost (W : World) (q : List S89 × S43 × S43 × Int) (e : Ending) (W' : World) : Prop :=
 Below W.heap.size W W' ∧ ∃ (A3 : Option Addr) (c3 : Nat),e = .returned (.tuple #[.slice A3 q.1.length c3,.agg #[ii q.2.1.f0,ii q.2.1.f1],.agg #[ii q.2.2.1.f0,ii q.2.2.1.f1],ii q.2.2.2]) ∧ q.1.length ≤ c3 ∧ Kd.F k89 W' (fun k => W.heap.size ≤ k) A3 q.1.length q.1
theorem flat_len : ∀ (l : List (List S212)),(∀ p ∈ l,p.length ≤ 4096) → l.flatten.length ≤ 4096 * l.length
|[],_ => by simp
|p :: l,h => by
  have h1:=h p List.mem_cons_self
  have h2:=flat_len l fun q hq => h q (List.mem_cons_of_mem _ hq)
  simp only [List.flatten_cons,List.length_append,List.length_cons]
  omega
theorem Wf.flat {n : Nat} {Y : Yd} (hw : Wf n Y) : Y.pits.flatten.length ≤ 24576 ∧ ∀ p ∈ Y.pits.flatten,ParcelOk Y.pours p:=by
 have h1 : ∀ p ∈ Y.pits,p.length ≤ 4096:=by
  intro p hp
  obtain ⟨i,hi,rfl⟩:=List.getElem_of_mem hp
  have hr : i < Y.rooms.length:=by rw [← hw.plen];exact hi
  have h2:=hw.held i hr
  rw [List.getD_eq_getElem?_getD,List.getElem?_eq_getElem hi] at h2
  have h3:=heldP_nonneg (l:=Y.pits[i]) fun p hp => (hw.parcels _ (List.getElem_mem hi) p hp).lo
  have h4:=(hw.rooms (Y.rooms.getD i 0) (getD_mem_ hr)).2
  simp only [Option.getD_some] at h2
  omega
 have h5:=flat_len Y.pits h1
 have h6:=hw.plen
 have h7:=hw.r6
 refine ⟨by omega,fun p hp => ?_⟩
 obtain ⟨q,hq,hpq⟩:=List.mem_flatten.1 hp
 exact hw.parcels q hq p hpq
theorem own_calls (r : S43) (w : World) : Calls Tryz.prog 117 (#[.agg #[ii r.f0,ii r.f1]] ++ #[]) w fun e w' => e = .returned (.agg #[ii (idR r).f0,ii (idR r).f1]) ∧ Below w.heap.size w w':=pit_own.calls r.f0 r.f1 _ _ w rfl
theorem C_of_ft {α : Type} {d : Kd α} {W w : World} {ok : Nat → Prop} {A : Option Addr} {n : Nat} {xs : List α} (h : Kd.C (ft d W ok) w A n xs) (hm : ∀ k,ok k → k < W.heap.size → w.heap[k]? = W.heap[k]?) : Kd.C d w A n xs :=
 ReadsRow.imp_ h (Below.refl _ _) (fun _ _ (hp : Kd.FK d W ok _ _) => hp w hm)
theorem R89_far {w : World} {N : Nat} {ok : Nat → Prop} {v : Value} {l : List S89} (h : k89.R 89 w N ok v l) (p : Addr) (hp : p.block < N) (u : Value) : k89.R 89 (w.setCell p u) N ok v l :=
 R_own_move rfl h fun k hk => Below.heap_setCell w p u k (fun e => by have:=Kd.R_base h k hk;omega)
set_option maxRecDepth 100000 in
set_option maxHeartbeats 1000000 in
theorem fate_calls (A A2 : Option Addr) (c c2 : Nat) (rooms : List Int) (stirs : List S84) (W : World) (lo : Nat) (hlo : lo ≤ W.heap.size) (hC : Kd.F (Kd.int .i64) W (fun k => k < lo) A rooms.length rooms) (hc : rooms.length ≤ c) (hS : Kd.C k84 W A2 stirs.length stirs) (hc2 : stirs.length ≤ c2) (pour : Int) :
  Calls Tryz.prog 36 #[.agg #[.slice A rooms.length c,.slice A2 stirs.length c2],ii pour] W fun e W' => FatePost W (fateE (playedP rooms stirs stirs.length) pour) e W':=by
 have hu:=Tryz.underlying32
 have hu167:=Tryz.underlying167
 have hu43:=Tryz.underlying43
 have hu89:=Tryz.underlying89
 have ek117 : ∀ args w,(callFunc 117 args).run Tryz.prog w = .ok (.enter 117 args) w:=enters_of Tryz.func117 kr rfl
 have HC:=am (hC)
 have HS:=am (hS)
 have HB:=am (Below.refl W.heap.size W)
 have HC1:=am (Kd.F_alloc HC.out (.cells #[.slice A rooms.length c,.slice A2 stirs.length c2] 32))
 have HS1:=am (Kd.C_alloc HS.out (.cells #[.slice A rooms.length c,.slice A2 stirs.length c2] 32))
 have HB1:=am (below_alloc HB.out (.cells #[.slice A rooms.length c,.slice A2 stirs.length c2] 32))
 have HC2:=am (Kd.F_alloc HC1.out (.cells #[ii 0,ii 0] 43))
 have HS2:=am (Kd.C_alloc HS1.out (.cells #[ii 0,ii 0] 43))
 have HB2:=am (below_alloc HB1.out (.cells #[ii 0,ii 0] 43))
 have HR:=am (blk_new' (W.alloc (.cells #[.slice A rooms.length c,.slice A2 stirs.length c2] 32)) (.cells #[ii 0,ii 0] 43) (W.heap.size + 1) (by simp))
 have HC3:=am (Kd.F_alloc HC2.out (.cells #[ii 0,ii 0] 43))
 have HS3:=am (Kd.C_alloc HS2.out (.cells #[ii 0,ii 0] 43))
 have HB3:=am (below_alloc HB2.out (.cells #[ii 0,ii 0] 43))
 have HR1:=am (blk_alloc HR.out (.cells #[ii 0,ii 0] 43))
 have HT:=am (blk_new' ((W.alloc (.cells #[.slice A rooms.length c,.slice A2 stirs.length c2] 32)).alloc (.cells #[ii 0,ii 0] 43)) (.cells #[ii 0,ii 0] 43) (W.heap.size + 1 + 1) (by simp))
 clear hC hS
 obtain ⟨r,hr⟩ : ∃ r,r = playedP rooms stirs stirs.length:=⟨_,rfl⟩
 rw [← hr]
 have HQP:=am hr.symm
 clear hr
 obtain ⟨q,hq⟩ : ∃ q,q = fateE r pour:=⟨_,rfl⟩
 rw [← hq]
 have HQ:=am hq
 clear hq
 go_enter Tryz.func36,Tryz.ntmps36
 go_wp2_with fail
 refine (all_calls A A2 c c2 rooms stirs _ lo (Nat.le_trans hlo (by simp;omega)) HC3.out hc HS3.out hc2).mono ?_
 rintro e w1 ⟨hb,h⟩
 rw [HQP.out] at h
 have HB4:=am (below_then HB3.out (below_size HB3.out) hb)
 have HR2:=am (blk_below HR1.out hb)
 have HT1:=am (blk_below HT.out hb)
 clear hb
 cases r with
|error x =>
  subst h
  have hx : ¬ x.1 = 0:=playedP_code HQP.out
  have HE:=am (show q = ([],⟨0,0⟩,⟨0,0⟩,x.1) by rw [HQ.out];rfl)
  have u0:=bd HR2.out 0
  have fu0:=blk_frozen HR2.out 0
  have u1:=bd HR2.out 1
  have fu1:=blk_frozen HR2.out 1
  have v0:=bd HT1.out 0
  have fv0:=blk_frozen HT1.out 0
  have v1:=bd HT1.out 1
  have fv1:=blk_frozen HT1.out 1
  go_wp2
  rw [HE.out]
  have by_:=blk_far (p:=⟨W.heap.size + 1 + 1,1,none⟩) (blk_far (p:=⟨W.heap.size + 1 + 1,0,none⟩) (blk_put (cs':=#[ii 0,ii 0]) (blk_put (cs':=#[ii 0,ii 0]) (HR2.out) 0 (ii 0) rfl) 1 (ii 0) rfl) (by simp) (ii 0)) (by simp) (ii 0)
  have bz:=blk_put (cs':=#[ii 0,ii 0]) (blk_put (cs':=#[ii 0,ii 0]) (blk_far (p:=⟨W.heap.size + 1,1,none⟩) (blk_far (p:=⟨W.heap.size + 1,0,none⟩) (HT1.out) (by simp) (ii 0)) (by simp) (ii 0)) 0 (ii 0) rfl) 1 (ii 0) rfl
  have y0:=bd by_ 0
  have y1:=bd by_ 1
  have z0:=bd bz 0
  have z1:=bd bz 1
  exact bodyPost_ret (v:=.tuple #[.slice none 0 0,.agg #[ii 0,ii 0],.agg #[ii 0,ii 0],ii x.1]) (by simp [results,Tryz.results36,go_sem,y0,y1,z0,z1,hu43]) rfl ⟨((((HB4.out).setCell (p:=⟨W.heap.size + 1,0,none⟩) (by first|(simp;done)|(simp;omega)) (ii 0)).setCell (p:=⟨W.heap.size + 1,1,none⟩) (by first|(simp;done)|(simp;omega)) (ii 0)).setCell (p:=⟨W.heap.size + 1 + 1,0,none⟩) (by first|(simp;done)|(simp;omega)) (ii 0)).setCell (p:=⟨W.heap.size + 1 + 1,1,none⟩) (by first|(simp;done)|(simp;omega)) (ii 0),none,0,rfl,Nat.le_refl 0,Kd.F_nil k89 _ _⟩
|ok Y =>
  obtain ⟨L,base,hbase,hbad,rfl,hY⟩:=h
  have HWF:=am (played_wf HQP.out)
  have HSL:=am (played_ok HQP.out).2.1
  have HY:=am (hY)
  clear hbase hbad hY
  obtain ⟨k,hk⟩ : ∃ k,k = decide (pour ∈ Y.pours):=⟨_,rfl⟩
  have HK:=am hk
  clear hk
  go_wp2_with fail
  refine (known_calls HY.out HWF.out HSL.out pour).mono ?_
  rintro e w2 ⟨rfl,hb⟩
  rw [← HK.out]
  have HB5:=am (below_then HB4.out (below_size HB4.out) hb)
  have HR3:=am (blk_below HR2.out hb)
  have HT2:=am (blk_below HT1.out hb)
  have HY1:=am (HY.out.move hb)
  clear hb
  cases k with
 |false =>
   have HE:=am (show q = ([],⟨0,0⟩,⟨0,0⟩,5) by rw [HQ.out];unfold fateE;simp only [];rw [if_neg (of_decide_eq_false HK.out.symm)])
   have u0:=bd HR3.out 0
   have fu0:=blk_frozen HR3.out 0
   have u1:=bd HR3.out 1
   have fu1:=blk_frozen HR3.out 1
   have v0:=bd HT2.out 0
   have fv0:=blk_frozen HT2.out 0
   have v1:=bd HT2.out 1
   have fv1:=blk_frozen HT2.out 1
   go_wp2
   rw [HE.out]
   have by_:=blk_far (p:=⟨W.heap.size + 1 + 1,1,none⟩) (blk_far (p:=⟨W.heap.size + 1 + 1,0,none⟩) (blk_put (cs':=#[ii 0,ii 0]) (blk_put (cs':=#[ii 0,ii 0]) (HR3.out) 0 (ii 0) rfl) 1 (ii 0) rfl) (by simp) (ii 0)) (by simp) (ii 0)
   have bz:=blk_put (cs':=#[ii 0,ii 0]) (blk_put (cs':=#[ii 0,ii 0]) (blk_far (p:=⟨W.heap.size + 1,1,none⟩) (blk_far (p:=⟨W.heap.size + 1,0,none⟩) (HT2.out) (by simp) (ii 0)) (by simp) (ii 0)) 0 (ii 0) rfl) 1 (ii 0) rfl
   have y0:=bd by_ 0
   have y1:=bd by_ 1
   have z0:=bd bz 0
   have z1:=bd bz 1
   exact bodyPost_ret (v:=.tuple #[.slice none 0 0,.agg #[ii 0,ii 0],.agg #[ii 0,ii 0],ii 5]) (by simp [results,Tryz.results36,go_sem,y0,y1,z0,z1,hu43]) rfl ⟨((((HB5.out).setCell (p:=⟨W.heap.size + 1,0,none⟩) (by first|(simp;done)|(simp;omega)) (ii 0)).setCell (p:=⟨W.heap.size + 1,1,none⟩) (by first|(simp;done)|(simp;omega)) (ii 0)).setCell (p:=⟨W.heap.size + 1 + 1,0,none⟩) (by first|(simp;done)|(simp;omega)) (ii 0)).setCell (p:=⟨W.heap.size + 1 + 1,1,none⟩) (by first|(simp;done)|(simp;omega)) (ii 0),none,0,rfl,Nat.le_refl 0,Kd.F_nil k89 _ _⟩
 |true =>
   have HQ1:=am (show q = (if (leftP Y pour).isSome = true then (if (lostP Y pour).isSome = true then (wentP Y.barrows pour,(leftP Y pour).getD ⟨0,0⟩,(lostP Y pour).getD ⟨0,0⟩,0) else ([],⟨0,0⟩,⟨0,0⟩,3)) else ([],⟨0,0⟩,⟨0,0⟩,3)) by rw [HQ.out];unfold fateE;simp only [];rw [if_pos (of_decide_eq_true HK.out.symm)])
   obtain ⟨Ab,cb,hb,hlb,hCb⟩:=Kd.R_reads HY1.out.barrows
   have HCB:=am (show Kd.C k167 w2 Ab Y.barrows.length Y.barrows from hCb.imp_ (Below.refl _ _) fun _ _ hp => Foot.now hp)
   have hmb:=hCb.2.1
   have g4 : w2.cell? ⟨L.g,4,none⟩ = some (.slice Ab Y.barrows.length cb):=(blk_cell HY1.out.blk 4).trans (by rw [← hb];rfl)
   clear hb hlb hCb
   have HLW:=am (blk_lt HT2.out)
   have hnb:=HWF.out.nbarrows
   have hsl:=HSL.out
   go_wp2
   clear g4
   go_loopw [10,39] (fun v10 v39 wr => ∃ (j : Nat),j ≤ Y.barrows.length ∧ v39 = ii (j : Int) ∧ Aside0 (Below w2.heap.size w2 wr) ∧ Aside0 (k89.R 89 wr w2.heap.size (fun _ => True) v10 (wentP (Y.barrows.take j) pour))) (fun _ v39 _ => Y.barrows.length - (intOf v39).toNat)
   case atStart => exact ⟨0,Nat.zero_le _,rfl,⟨Below.refl _ _⟩,⟨Kd.R_nil _ _ _ _ _⟩⟩
   case round =>
    obtain ⟨j,hj,rfl,HN,HV⟩:=hrel
    obtain ⟨qq,hqq⟩ : ∃ qq,qq = wentP (Y.barrows.take j) pour:=⟨_,rfl⟩
    have hql : qq.length ≤ j:=by rw [hqq];exact Nat.le_trans (wentP_len _ _) (by rw [List.length_take];omega)
    rw [← hqq] at HV
    have HQQ:=am hqq
    clear hqq
    obtain ⟨Av,cv,rfl⟩:=Kd.R_slice HV.out
    have HQL:=am hql
    clear hql
    by_cases hlt : j < Y.barrows.length
    ·
     have HT9:=am (wentP_snoc (pour:=pour) hlt)
     rw [← HQQ.out] at HT9
     obtain ⟨ae,A3,c3,e,hx0,hx1,hx2,hx3,hl3,hC3⟩:=at_T167 (Kd.C_below HCB.out HN.out) (j : Int) (by omega) (by omega)
     cases e
     rw [Int.toNat_natCast] at hx0 hx1 hx2 hx3
     have hmem : rd_T167 Y.barrows (j : Int) ∈ Y.barrows:=getD_mem_ hlt
     have HBL:=am (show (rd_T167 Y.barrows (j : Int)).f3.length ≤ 60 from (HWF.out.barrows _ hmem).par.len)
     obtain ⟨b,hb⟩ : ∃ b,b = rd_T167 Y.barrows (j : Int):=⟨_,rfl⟩
     rw [← hb] at hx0 hx1 hx2 hx3 hl3 hC3 HT9 HBL
     clear hb hmem
     have HG:=am (hC3)
     have HL3:=am hl3
     clear hC3 hl3
     have HPS:=am (part_some b pour (by have:=HBL.out;omega))
     obtain ⟨n,hn⟩ : ∃ n,n = partP b pour:=⟨_,rfl⟩
     rw [← hn] at HPS HT9
     clear hn
     have HN1:=am (below_alloc HN.out (.cells #[ii b.f0,ii b.f1,ii b.f2,.slice A3 b.f3.length c3] 167))
     have HV1:=am (Kd.R_alloc HV.out (.cells #[ii b.f0,ii b.f1,ii b.f2,.slice A3 b.f3.length c3] 167))
     have HG1:=am (Kd.C_alloc HG.out (.cells #[ii b.f0,ii b.f1,ii b.f2,.slice A3 b.f3.length c3] 167))
     have HX:=am (blk_new wr (.cells #[ii b.f0,ii b.f1,ii b.f2,.slice A3 b.f3.length c3] 167))
     go_wp2_with fail
     refine (pit_barrow_part.calls FU _ _ _ _ _ _ _ _ _ _ HG1.out HL3.out HPS.out).mono ?_
     rintro e w5 ⟨rfl,hb⟩
     have HN2:=am (below_then HN1.out (below_size HN1.out) hb)
     have HV2:=am (Kd.R_below HV1.out hb)
     have HX1:=am (blk_below HX.out hb)
     clear hb hx0 hx1 hx2 hx3
     have HN3:=am (below_alloc HN2.out (.cells #[ii n.f0,ii n.f1] 43))
     have HV3:=am (Kd.R_alloc HV2.out (.cells #[ii n.f0,ii n.f1] 43))
     have HX2:=am (blk_alloc HX1.out (.cells #[ii n.f0,ii n.f1] 43))
     by_cases hn0 : n.f0 > 0
     ·
      have g0:=bd HX2.out 0
      have HZ:=am (HN3.out.size)
      have HGT:=am hn0
      go_wp2_with (at_builtin;refine Kd.R_append k89 (w0:=w2) w2.heap.size rfl _ _ 55 89 (.agg #[ii 0,ii 0,ii 0]) 24 rfl Tryz.underlying55 info89 rfl (by decide) (by decide) (.slice Av qq.length cv) qq ⟨b.f0,n⟩ [ii b.f0,ii n.f0,ii n.f1] (fun _ => True) (fun _ => False) rfl (by rw [show (w5.alloc (.cells #[ii n.f0,ii n.f1] 43)).heap.size = w5.heap.size + 1 by simp];rfl) (k89_mkM _ _ _ ⟨b.f0,n⟩) (fun _ h => h.elim) (fun _ _ => trivial) HV3.out HN3.out HZ.out (by have:=HQL.out;omega) ?_;intro v3 w8 hr3 hb3 hg3 hat3;have HR3:=am hr3;have HB3:=am hb3;clear hr3 hb3 hg3 hat3 g0)
      go_roundw
      case rel => exact ⟨j + 1,by omega,by go_num,HB3,⟨by rw [HT9.out,if_pos HGT.out];exact HR3.out⟩⟩
      case measure => simp [intOf];omega
     ·
      have HGT:=am hn0
      go_wp2
      go_roundw
      case rel => exact ⟨j + 1,by omega,by go_num,HN3,⟨by rw [HT9.out,if_neg (by have:=HGT.out;omega),List.append_nil];exact HV3.out⟩⟩
      case measure => simp [intOf];omega
    ·
     have hje : j = Y.barrows.length:=by omega
     have HW9:=am (show qq = wentP Y.barrows pour by rw [HQQ.out,hje,List.take_length])
     have HR9:=am (blk_below HR3.out HN.out)
     have HT9:=am (blk_below HT2.out HN.out)
     have HB9:=am (below_then HB5.out (below_size HB5.out) HN.out)
     have HY9:=am (HY1.out.move HN.out)
     have HV9:=am HV.out
     clear HN HV hje
     have HPF:=am HWF.out.flat
     have HL0:=am (show (partsP Y.pits.flatten).length ≤ 10000000 from by have h1:=partsP_len HPF.out.2;have h2:=HPF.out.1;omega)
     obtain ⟨Ap,cp,hp,hlp,hCp⟩:=Kd.R_reads HY9.out.pits
     have g1 : wr.cell? ⟨L.g,1,none⟩ = some (.slice Ap Y.pits.length cp):=(blk_cell HY9.out.blk 1).trans (by rw [← hp];rfl)
     have HCP:=am hCp
     have HLP:=am hlp
     clear hp hlp hCp
     go_wp2_with fail
     refine (concat_calls Ap cp Y.pits wr L.Not HCP.out HLP.out (by have:=HPF.out.1;omega)).mono ?_
     rintro e w6 ⟨v,rfl,hb,hR⟩
     obtain ⟨fl,hfl⟩ : ∃ fl,fl = Y.pits.flatten:=⟨_,rfl⟩
     rw [← hfl] at hR HPF HL0
     have HFL:=am hfl
     clear hfl
     obtain ⟨A6,c6,rfl⟩:=Kd.R_slice hR
     have HC6:=am (C_of_ft (Kd.R_reads' hR).2.2 (fun k _ hlt => hb.block k hlt))
     have HL6:=am (Kd.R_reads' hR).2.1
     have HR91:=am (blk_below HR9.out hb)
     have HT91:=am (blk_below HT9.out hb)
     have HB91:=am (below_then HB9.out (below_size HB9.out) hb)
     have HY91:=am (HY9.out.move hb)
     have HV91:=am (Kd.R_below HV9.out hb)
     clear hb hR g1
     go_wp2_with fail
     refine (of_calls w6 A6 c6 fl pour HC6.out HL6.out HL0.out).mono ?_
     rintro e w7 ⟨hb,A7,c7,rfl,hl7,hC7⟩
     have HC7:=am hC7
     have HL7:=am hl7
     have HR92:=am (blk_below HR91.out hb)
     have HT92:=am (blk_below HT91.out hb)
     have HB92:=am (below_then HB91.out (below_size HB91.out) hb)
     have HY92:=am (HY91.out.move hb)
     have HV92:=am (Kd.R_below HV91.out hb)
     clear hb hC7 hl7
     go_wp2_with fail
     refine (total114_calls A7 c7 (ofL pour (partsP fl)) idR 117 #[] (fun _ => True) w7 HC7.out HL7.out ek117 trivial (fun _ _ _ _ => trivial) (fun r w _ _ => own_calls r w)).mono ?_
     rintro e w8 ⟨rfl,hb⟩
     rw [totalE_eq]
     have HR93:=am (blk_below HR92.out hb)
     have HT93:=am (blk_below HT92.out hb)
     have HB93:=am (below_then HB92.out (below_size HB92.out) hb)
     have HY93:=am (HY92.out.move hb)
     have HV93:=am (Kd.R_below HV92.out hb)
     clear hb
     have HSZ8:=am (show W.heap.size + 1 + 1 < w8.heap.size from blk_lt HT93.out)
     obtain ⟨n1,hn1⟩ : ∃ n1,n1 = (leftP Y pour).getD ⟨0,0⟩:=⟨_,rfl⟩
     obtain ⟨k1,hk1⟩ : ∃ k1,k1 = (leftP Y pour).isSome:=⟨_,rfl⟩
     rw [show (totalP idR (ofL pour (partsP fl))).getD ⟨0,0⟩ = n1 from by rw [HFL.out];exact hn1.symm,show (totalP idR (ofL pour (partsP fl))).isSome = k1 from by rw [HFL.out];exact hk1.symm]
     have HN1:=am hn1
     have HK1:=am hk1
     clear hn1 hk1
     have HR94:=am (blk_alloc HR93.out (.cells #[ii n1.f0,ii n1.f1] 43))
     have HT94:=am (blk_alloc HT93.out (.cells #[ii n1.f0,ii n1.f1] 43))
     have HB94:=am (below_alloc HB93.out (.cells #[ii n1.f0,ii n1.f1] 43))
     have HY94:=am (HY93.out.move (below_alloc (Below.refl _ _) (.cells #[ii n1.f0,ii n1.f1] 43)))
     have HV94:=am (Kd.R_alloc HV93.out (.cells #[ii n1.f0,ii n1.f1] 43))
     have HP:=am (blk_new w8 (.cells #[ii n1.f0,ii n1.f1] 43))
     obtain ⟨Aq,cq,hp,hlp,hCq⟩:=Kd.R_reads HY94.out.lost
     have g5 : (w8.alloc (.cells #[ii n1.f0,ii n1.f1] 43)).cell? ⟨L.g,5,none⟩ = some (.slice Aq Y.lost.length cq):=(blk_cell HY94.out.blk 5).trans (by rw [← hp];rfl)
     have HCQ:=am (show Kd.C k212 (w8.alloc (.cells #[ii n1.f0,ii n1.f1] 43)) Aq Y.lost.length Y.lost from hCq.imp_ (Below.refl _ _) fun _ _ hp => Foot.now hp)
     have HLQ:=am hlp
     clear hp hlp hCq
     have HLO:=am (show (partsP Y.lost).length ≤ 10000000 from by have h1:=partsP_len HWF.out.lost;have h2:=HWF.out.nlost;have h3:=HSL.out;omega)
     go_wp2_with fail
     refine (of_calls (w8.alloc (.cells #[ii n1.f0,ii n1.f1] 43)) Aq cq Y.lost pour HCQ.out HLQ.out HLO.out).mono ?_
     rintro e w9 ⟨hb,A8,c8,rfl,hl8,hC8⟩
     have HC8:=am hC8
     have HL8:=am hl8
     have HR95:=am (blk_below HR94.out hb)
     have HT95:=am (blk_below HT94.out hb)
     have HB95:=am (below_then HB94.out (below_size HB94.out) hb)
     have HV95:=am (Kd.R_below HV94.out hb)
     have HP1:=am (blk_below HP.out hb)
     clear hb hC8 hl8 g5
     go_wp2_with fail
     refine (total114_calls A8 c8 (ofL pour (partsP Y.lost)) idR 117 #[] (fun _ => True) w9 HC8.out HL8.out ek117 trivial (fun _ _ _ _ => trivial) (fun r w _ _ => own_calls r w)).mono ?_
     rintro e w10 ⟨rfl,hb⟩
     rw [totalE_eq]
     have HR96:=am (blk_below HR95.out hb)
     have HT96:=am (blk_below HT95.out hb)
     have HB96:=am (below_then HB95.out (below_size HB95.out) hb)
     have HV96:=am (Kd.R_below HV95.out hb)
     have HP2:=am (blk_below HP1.out hb)
     clear hb
     have HSZ9:=am (show w8.heap.size < w10.heap.size from blk_lt HP2.out)
     obtain ⟨n2,hn2⟩ : ∃ n2,n2 = (lostP Y pour).getD ⟨0,0⟩:=⟨_,rfl⟩
     obtain ⟨k2,hk2⟩ : ∃ k2,k2 = (lostP Y pour).isSome:=⟨_,rfl⟩
     rw [show (totalP idR (ofL pour (partsP Y.lost))).getD ⟨0,0⟩ = n2 from hn2.symm,show (totalP idR (ofL pour (partsP Y.lost))).isSome = k2 from hk2.symm]
     have HN2:=am hn2
     have HK2:=am hk2
     clear hn2 hk2
     have HR97:=am (blk_alloc HR96.out (.cells #[ii n2.f0,ii n2.f1] 43))
     have HT97:=am (blk_alloc HT96.out (.cells #[ii n2.f0,ii n2.f1] 43))
     have HB97:=am (below_alloc HB96.out (.cells #[ii n2.f0,ii n2.f1] 43))
     have HV97:=am (Kd.R_alloc HV96.out (.cells #[ii n2.f0,ii n2.f1] 43))
     have HP3:=am (blk_alloc HP2.out (.cells #[ii n2.f0,ii n2.f1] 43))
     have HH:=am (blk_new w10 (.cells #[ii n2.f0,ii n2.f1] 43))
     cases k1 with
    |false =>
      have HE:=am (show q = ([],⟨0,0⟩,⟨0,0⟩,3) by rw [HQ1.out];rw [if_neg (by rw [← HK1.out];simp)])
      have u0:=bd HR97.out 0
      have fu0:=blk_frozen HR97.out 0
      have u1:=bd HR97.out 1
      have fu1:=blk_frozen HR97.out 1
      have v0:=bd HT97.out 0
      have fv0:=blk_frozen HT97.out 0
      have v1:=bd HT97.out 1
      have fv1:=blk_frozen HT97.out 1
      go_wp2
      rw [HE.out]
      have by_:=blk_far (p:=⟨W.heap.size + 1 + 1,1,none⟩) (blk_far (p:=⟨W.heap.size + 1 + 1,0,none⟩) (blk_put (cs':=#[ii 0,ii 0]) (blk_put (cs':=#[ii 0,ii 0]) (HR97.out) 0 (ii 0) rfl) 1 (ii 0) rfl) (by simp) (ii 0)) (by simp) (ii 0)
      have bz:=blk_put (cs':=#[ii 0,ii 0]) (blk_put (cs':=#[ii 0,ii 0]) (blk_far (p:=⟨W.heap.size + 1,1,none⟩) (blk_far (p:=⟨W.heap.size + 1,0,none⟩) (HT97.out) (by simp) (ii 0)) (by simp) (ii 0)) 0 (ii 0) rfl) 1 (ii 0) rfl
      have y0:=bd by_ 0
      have y1:=bd by_ 1
      have z0:=bd bz 0
      have z1:=bd bz 1
      exact bodyPost_ret (v:=.tuple #[.slice none 0 0,.agg #[ii 0,ii 0],.agg #[ii 0,ii 0],ii 3]) (by simp [results,Tryz.results36,go_sem,y0,y1,z0,z1,hu43]) rfl ⟨((((HB97.out).setCell (p:=⟨W.heap.size + 1,0,none⟩) (by first|(simp;done)|(simp;omega)) (ii 0)).setCell (p:=⟨W.heap.size + 1,1,none⟩) (by first|(simp;done)|(simp;omega)) (ii 0)).setCell (p:=⟨W.heap.size + 1 + 1,0,none⟩) (by first|(simp;done)|(simp;omega)) (ii 0)).setCell (p:=⟨W.heap.size + 1 + 1,1,none⟩) (by first|(simp;done)|(simp;omega)) (ii 0),none,0,rfl,Nat.le_refl 0,Kd.F_nil k89 _ _⟩
    |true =>
      cases k2 with
     |false =>
       have HE:=am (show q = ([],⟨0,0⟩,⟨0,0⟩,3) by rw [HQ1.out];rw [if_pos HK1.out.symm,if_neg (by rw [← HK2.out];simp)])
       have u0:=bd HR97.out 0
       have fu0:=blk_frozen HR97.out 0
       have u1:=bd HR97.out 1
       have fu1:=blk_frozen HR97.out 1
       have v0:=bd HT97.out 0
       have fv0:=blk_frozen HT97.out 0
       have v1:=bd HT97.out 1
       have fv1:=blk_frozen HT97.out 1
       go_wp2
       rw [HE.out]
       have by_:=blk_far (p:=⟨W.heap.size + 1 + 1,1,none⟩) (blk_far (p:=⟨W.heap.size + 1 + 1,0,none⟩) (blk_put (cs':=#[ii 0,ii 0]) (blk_put (cs':=#[ii 0,ii 0]) (HR97.out) 0 (ii 0) rfl) 1 (ii 0) rfl) (by simp) (ii 0)) (by simp) (ii 0)
       have bz:=blk_put (cs':=#[ii 0,ii 0]) (blk_put (cs':=#[ii 0,ii 0]) (blk_far (p:=⟨W.heap.size + 1,1,none⟩) (blk_far (p:=⟨W.heap.size + 1,0,none⟩) (HT97.out) (by simp) (ii 0)) (by simp) (ii 0)) 0 (ii 0) rfl) 1 (ii 0) rfl
       have y0:=bd by_ 0
       have y1:=bd by_ 1
       have z0:=bd bz 0
       have z1:=bd bz 1
       exact bodyPost_ret (v:=.tuple #[.slice none 0 0,.agg #[ii 0,ii 0],.agg #[ii 0,ii 0],ii 3]) (by simp [results,Tryz.results36,go_sem,y0,y1,z0,z1,hu43]) rfl ⟨((((HB97.out).setCell (p:=⟨W.heap.size + 1,0,none⟩) (by first|(simp;done)|(simp;omega)) (ii 0)).setCell (p:=⟨W.heap.size + 1,1,none⟩) (by first|(simp;done)|(simp;omega)) (ii 0)).setCell (p:=⟨W.heap.size + 1 + 1,0,none⟩) (by first|(simp;done)|(simp;omega)) (ii 0)).setCell (p:=⟨W.heap.size + 1 + 1,1,none⟩) (by first|(simp;done)|(simp;omega)) (ii 0),none,0,rfl,Nat.le_refl 0,Kd.F_nil k89 _ _⟩
     |true =>
       have HE:=am (show q = (qq,n1,n2,0) by rw [HQ1.out,if_pos HK1.out.symm,if_pos HK2.out.symm,← HN1.out,← HN2.out,← HW9.out])
       have HS1:=am (show W.heap.size + 1 + 1 < w8.heap.size ∧ w8.heap.size < w10.heap.size from ⟨HSZ8.out,HSZ9.out⟩)
       have HR98:=am (blk_drew HR97.out)
       have HT98:=am (blk_drew HT97.out)
       have HB98:=am (below_drew HB97.out)
       have HV98:=am (Kd.R_drew HV97.out)
       have HP4:=am (blk_drew HP3.out)
       have HH1:=am (blk_drew HH.out)
       go_wp2
       refine start_ (n:=7) (S:=fun w' => w'.cell? ⟨w8.heap.size,0,none⟩ = some (ii n1.f0) ∧ w'.cell? ⟨w8.heap.size,1,none⟩ = some (ii n1.f1) ∧ w'.cell? ⟨w10.heap.size,0,none⟩ = some (ii n2.f0) ∧ w'.cell? ⟨w10.heap.size,1,none⟩ = some (ii n2.f1)) (ds:=[5]) (ab 7 0) kr rfl kr ⟨(blk_cell HP4.out 0).trans rfl,(blk_cell HP4.out 1).trans rfl,(blk_cell HH1.out 0).trans rfl,(blk_cell HH1.out 1).trans rfl⟩ (fun hHeld => ?_);refine with_tabW R36_18.tab R36_18.bits (fun HT_ HW_ => ?_)
       generalize ((w10.alloc (.cells #[ii n2.f0,ii n2.f1] 43))).drew = wd at HR98 HT98 HB98 HV98 HP4 HH1 hHeld ⊢
       refine qA 0 (some 86) ?_;refine qT 1 (some 87) ?_;refine qT 2 (some 88) ?_;refine qA 3 (some 4) ?_
       refine qE 4 (none) fun K hK => ?_
       have u0:=bd HR98.out 0
       have fu0:=blk_frozen HR98.out 0
       have u1:=bd HR98.out 1
       have fu1:=blk_frozen HR98.out 1
       refine skip_ (w1:=?_) (by rfl) rfl ?_ ?_
       rotate_left
       ·go_simp
        rfl
       have HT99:=am (blk_far (p:=⟨W.heap.size + 1,1,none⟩) (blk_far (p:=⟨W.heap.size + 1,0,none⟩) (HT98.out) (by have h1:=HS1.out;(try dsimp only);omega) (ii n1.f0)) (by have h1:=HS1.out;(try dsimp only);omega) (ii n1.f1))
       have HP5:=am (blk_far (p:=⟨W.heap.size + 1,1,none⟩) (blk_far (p:=⟨W.heap.size + 1,0,none⟩) (HP4.out) (by have h1:=HS1.out;(try dsimp only);omega) (ii n1.f0)) (by have h1:=HS1.out;(try dsimp only);omega) (ii n1.f1))
       have HH2:=am (blk_far (p:=⟨W.heap.size + 1,1,none⟩) (blk_far (p:=⟨W.heap.size + 1,0,none⟩) (HH1.out) (by have h1:=HS1.out;(try dsimp only);omega) (ii n1.f0)) (by have h1:=HS1.out;(try dsimp only);omega) (ii n1.f1))
       refine hK.out _ _ ⟨(blk_cell HP5.out 0).trans rfl,(blk_cell HP5.out 1).trans rfl,(blk_cell HH2.out 0).trans rfl,(blk_cell HH2.out 1).trans rfl⟩ (fun hHeld => ?_)
       clear hK K
       refine qL 5 (none) fun K hK => ?_
       have v0:=bd HT99.out 0
       have fv0:=blk_frozen HT99.out 0
       have v1:=bd HT99.out 1
       have fv1:=blk_frozen HT99.out 1
       refine skip_ (w1:=?_) (by rfl) rfl ?_ ?_
       rotate_left
       ·go_simp
        rfl
       refine hK.out _ _ ?_
       clear hK K
       refine qA 6 (some 7) ?_
       refine done_ (done_of HT_.out kr) ?_
       go_wp2
       rw [HE.out]
       have HVZ:=am (R89_far (R89_far (R89_far (R89_far (HV98.out) ⟨W.heap.size + 1,0,none⟩ (by have h1:=HLW.out;(try dsimp only);omega) (ii n1.f0)) ⟨W.heap.size + 1,1,none⟩ (by have h1:=HLW.out;(try dsimp only);omega) (ii n1.f1)) ⟨W.heap.size + 1 + 1,0,none⟩ (by have h1:=HLW.out;(try dsimp only);omega) (ii n2.f0)) ⟨W.heap.size + 1 + 1,1,none⟩ (by have h1:=HLW.out;(try dsimp only);omega) (ii n2.f1))
       have by_:=blk_far (p:=⟨W.heap.size + 1 + 1,1,none⟩) (blk_far (p:=⟨W.heap.size + 1 + 1,0,none⟩) (blk_put (cs':=#[ii n1.f0,ii n1.f1]) (blk_put (cs':=#[ii n1.f0,ii 0]) (HR98.out) 0 (ii n1.f0) rfl) 1 (ii n1.f1) rfl) (by simp) (ii n2.f0)) (by simp) (ii n2.f1)
       have bz:=blk_put (cs':=#[ii n2.f0,ii n2.f1]) (blk_put (cs':=#[ii n2.f0,ii 0]) (blk_far (p:=⟨W.heap.size + 1,1,none⟩) (blk_far (p:=⟨W.heap.size + 1,0,none⟩) (HT98.out) (by simp) (ii n1.f0)) (by simp) (ii n1.f1)) 0 (ii n2.f0) rfl) 1 (ii n2.f1) rfl
       have y0:=bd by_ 0
       have y1:=bd by_ 1
       have z0:=bd bz 0
       have z1:=bd bz 1
       exact bodyPost_ret (v:=.tuple #[.slice Av qq.length cv,.agg #[ii n1.f0,ii n1.f1],.agg #[ii n2.f0,ii n2.f1],ii 0]) (by simp [results,Tryz.results36,go_sem,y0,y1,z0,z1,hu43]) rfl ⟨((((HB98.out).setCell (p:=⟨W.heap.size + 1,0,none⟩) (by first|(simp;done)|(simp;omega)) (ii n1.f0)).setCell (p:=⟨W.heap.size + 1,1,none⟩) (by first|(simp;done)|(simp;omega)) (ii n1.f1)).setCell (p:=⟨W.heap.size + 1 + 1,0,none⟩) (by first|(simp;done)|(simp;omega)) (ii n2.f0)).setCell (p:=⟨W.heap.size + 1 + 1,1,none⟩) (by first|(simp;done)|(simp;omega)) (ii n2.f1),Av,cv,rfl,(Kd.R_reads' HVZ.out).2.1,Kd.R_F (Kd.R_reok rfl HVZ.out fun k hk => by have h1:=Kd.R_base HVZ.out k hk;have h2:=HLW.out;omega)⟩
section
def cells84 (x : S84) : List Value:=[ii x.f0,ii x.f1,ii x.f2,ii x.f3,ii x.f4,ii x.f5]
theorem size84_ : (Tryz.prog.info? 84).map (·.size) = some 6:=by kernel_rfl
theorem exec_store {P : Program} {ρ : Operand → Value} {oi : Oper} {t : TypeId} {p q : Operand} {u v : Value} {w w1 : World} (ho : oi.op = .store t p q) (hp : ρ p = u) (hq : ρ q = v) (hrun : (Instr.storeAt t u v).run P w = .ok () w1) : (execOp ρ oi).run P w = .ok .skip w1:=by
 unfold execOp
 simp only [ho,hp,hq,Sem.run_bind,Sem.run_pure,Result.andThen_ok,hrun]
theorem below_grown {N : Nat} {w0 w w1 : World} {g : Nat} (h : Below N w0 w) (hN : N ≤ w.heap.size) (hg : w.grownBy w1 (some g)) (hb : N ≤ g) : Below N w0 w1 :=
 h.trans ⟨hg.os,hg.tape,hg.output,hg.size,fun k hk => hg.block k (Nat.lt_of_lt_of_le hk hN) (fun e => by injection e with e;omega)⟩
theorem R84_of_ft {W w : World} {okf ok : Nat → Prop} {N : Nat} {v : Value} {l : List S84} (h : (ft k84 W okf).R 84 w N ok v l) : k84.R 84 w N ok v l :=
 ⟨h.1,h.2.imp_ (fun x cs (hp : Kd.FK k84 W okf x cs) => by
  obtain rfl:=k84_open (Foot.now hp)
  exact k84_mkM _ _ _ x)⟩
theorem R3_of_ft {W w : World} {okf ok : Nat → Prop} {N : Nat} {v : Value} {l : List Int} (h : (ft (Kd.int .i64) W okf).R 3 w N ok v l) : (Kd.int .i64).R 3 w N ok v l :=
 ⟨h.1,h.2.imp_ (fun x cs (hp : Kd.FK (Kd.int .i64) W okf x cs) => Foot.now hp)⟩
section
variable {w : World} {N g n cap i : Nat} {ok : Nat → Prop} {ls : List S84}
set_option maxRecDepth 100000 in
theorem row84_set (HO : k84.R 84 w N ok (.slice (some ⟨g,0,none⟩) n cap) ls) (hi : i < n) (x : S84) :
  (Instr.storeAt 84 (.pointer (some ⟨g,i * 6,none⟩)) (.agg #[ii x.f0,ii x.f1,ii x.f2,ii x.f3,ii x.f4,ii x.f5])).run Tryz.prog w = .ok () (w.setCells g (i * 6) (cells84 x)) ∧ k84.R 84 (w.setCells g (i * 6) (cells84 x)) N ok (.slice (some ⟨g,0,none⟩) n cap) (ls.set i x) ∧ w.grownBy (w.setCells g (i * 6) (cells84 x)) (some g):=by
 obtain ⟨cc,hcl,hM,hcc,hfr⟩:=Kd.R_elem HO z84 (i : Int) (by omega) (by omega)
 have hseg:=Kd.R_seg HO (i : Int) (by omega) (by omega) (c:=cc) (seg:=cells84 x) (j:=0) hcl hcc (Nat.le_refl 6) (x':=x) (okp:=fun _ => False) (by
  rw [List.take_zero,List.nil_append,List.drop_eq_nil_of_le (by rw [hcl];exact Nat.le_refl 6),List.append_nil]
  exact k84_mkM w N _ x) (fun k hk => hk.elim)
 rw [Int.toNat_natCast] at hseg
 refine ⟨?_,hseg.1,hseg.2⟩
 have hnx : n = ls.length:=(Kd.R_reads' HO).1
 obtain ⟨_,inner,hown,hr⟩:=HO
 rcases hown.2 with ⟨hv,_⟩|⟨g',cap',cur,hv,hb,hh,hnc,hcm,hcs,_⟩
 ·cases hv
 injection hv with ha _ hc
 injection ha with ha
 injection ha with hg'
 subst hg'
 subst hc
 have hcs' : cur.size = cap * 6:=hcs
 refine run_store_run (e:=84) 84 _ (cells84 x) hh rfl size84_ ?_ ?_
 ·have h2 : i * 6 + 6 ≤ n * 6:=by omega
  have h3 : n * 6 ≤ cap * 6:=Nat.mul_le_mul_right _ (by omega)
  show i * 6 + 6 ≤ _
  omega
 ·intro q hq
  unfold cells84 at hq
  simp only [List.mem_cons,List.not_mem_nil,or_false] at hq
  rcases hq with rfl|rfl|rfl|rfl|rfl|rfl <;> rfl
theorem row84_day (HO : k84.R 84 w N ok (.slice (some ⟨g,0,none⟩) n cap) ls) (hi : i < n) (d : Int) :
  k84.R 84 (w.setCell ⟨g,i * 6 + 2,none⟩ (ii d)) N ok (.slice (some ⟨g,0,none⟩) n cap) (ls.set i { ls.getD i z84 with f2:=d }) ∧ w.grownBy (w.setCell ⟨g,i * 6 + 2,none⟩ (ii d)) (some g) ∧ w.cell? ⟨g,i * 6 + 2,none⟩ = some (ii (ls.getD i z84).f2) ∧ w.frozen? ⟨g,i * 6 + 2,none⟩ = false:=by
 obtain ⟨cc,hcl,hM,hcc,hfr⟩:=Kd.R_elem HO z84 (i : Int) (by omega) (by omega)
 rw [Int.toNat_natCast] at hM hcc hfr
 obtain ⟨x,hx⟩ : ∃ x,x = ls.getD i z84:=⟨_,rfl⟩
 rw [← hx] at hM ⊢
 obtain rfl:=k84_openM hM
 have hseg:=Kd.R_seg HO (i : Int) (by omega) (by omega) (seg:=[ii d]) (j:=2) hcl (by rw [Int.toNat_natCast];exact hcc) (show 2 + 1 ≤ 6 by omega) (x':={ x with f2:=d }) (okp:=fun _ => False) (k84_mkM w N _ { x with f2:=d }) (fun k hk => hk.elim)
 rw [Int.toNat_natCast] at hseg
 exact ⟨hseg.1,hseg.2,hcc 2 _ rfl,hfr 2⟩
end
def swapP (l : List S84) (k : Nat) : List S84:=(l.set k { rd_T84 l ((k + 1 : Nat) : Int) with f2:=(rd_T84 l (k : Int)).f2 }).set (k + 1) { rd_T84 l (k : Int) with f2:=(rd_T84 l ((k + 1 : Nat) : Int)).f2 }
theorem getD84_set {l : List S84} {i t : Nat} (x : S84) (hi : i < l.length) : (l.set i x).getD t z84 = if t = i then x else l.getD t z84:=getD_set_ l i t x z84 hi
theorem swap_steps {l : List S84} {k : Nat} (h : k + 1 < l.length) (s0 s1 : S84) (h0 : s0 = rd_T84 l (k : Int)) (h1 : s1 = rd_T84 l ((k + 1 : Nat) : Int)) :
  ((((l.set k s1).set (k + 1) s0).set k { ((l.set k s1).set (k + 1) s0).getD k z84 with f2:=s0.f2 }).set (k + 1) { (((l.set k s1).set (k + 1) s0).set k { ((l.set k s1).set (k + 1) s0).getD k z84 with f2:=s0.f2 }).getD (k + 1) z84 with f2:=s1.f2 }) = swapP l k:=by
 have e1 : ((l.set k s1).set (k + 1) s0).getD k z84 = s1:=by
  rw [getD84_set s0 (by rw [List.length_set];omega),if_neg (by omega),getD84_set s1 (by omega),if_pos rfl]
 rw [e1]
 have e2 : ∀ y,(((l.set k s1).set (k + 1) s0).set k y).getD (k + 1) z84 = s0:=by
  intro y
  rw [getD84_set y (by rw [List.length_set,List.length_set];omega),if_neg (by omega),getD84_set s0 (by rw [List.length_set];omega),if_pos rfl]
 rw [e2]
 unfold swapP
 rw [← h0,← h1]
 apply List.ext_getElem?
 intro t
 simp only [List.getElem?_set,List.length_set]
 by_cases ht1 : k + 1 = t
 ·subst ht1;simp
 ·by_cases ht0 : k = t
  ·subst ht0;simp
  ·simp [ht1,ht0]
theorem swapP_length (l : List S84) (k : Nat) : (swapP l k).length = l.length:=by unfold swapP;rw [List.length_set,List.length_set]
end
end Go.Proofs.YtjjfpmapjjemcaaGreat.B
end
