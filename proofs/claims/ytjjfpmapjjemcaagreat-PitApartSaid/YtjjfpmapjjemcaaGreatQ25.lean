import Derived.Outline
import Derived.IntWalk
import Derived.WalkLawsBesides
import Derived.Test.YtjjfpmapjjemcaaGreatQ15
import Derived.Test.YtjjfpmapjjemcaaGreatQ24
import Derived.Test.YtjjfpmapjjemcaaGreatQ7
set_option linter.unusedVariables false
set_option linter.unusedSimpArgs false
section
namespace Go.Proofs.YtjjfpmapjjemcaaGreat.B
open Go.RowKit Go.Proofs.YtjjfpmapjjemcaaGreatW.PrintWords Go.Proofs.YtjjfpmapjjemcaaGreatW.PrintLast Go.Proofs.YtjjfpmapjjemcaaGreatW.PrintMore
attribute [local go_sem] max2_int min2_int max_two min_two max_three min_three max_four min_four
set_option maxRecDepth 100000 in
set_option maxHeartbeats 1000000 in
theorem idx207_calls (A : Option Addr) (c : Nat) (l : List S167) (p : S167 → Bool) (K : Nat) (caps : Array Value) (Inv : World → Prop) (W : World) (hr : Kd.C k167 W A l.length l) (hc : l.length ≤ c)
  (ek : ∀ args w,(callFunc K args).run Tryz.prog w = .ok (.enter K args) w) (hi0 : Inv W) (hi1 : ∀ w w',Inv w → Below w.heap.size w w' → Inv w')
  (hcl : ∀ (x : S167) (A3 : Option Addr) (c3 : Nat) (w : World),x ∈ l → Inv w → Calls Tryz.prog K (#[.agg #[ii x.f0,ii x.f1,ii x.f2,.slice A3 x.f3.length c3]] ++ caps) w fun e w' => e = .returned (.bool (p x)) ∧ Below w.heap.size w w') :
  Calls Tryz.prog 207 #[.slice A l.length c,.func (.func K) #[] caps] W fun e W' => e = .returned (ii (idxP p l)) ∧ Below W.heap.size W W':=by
 have HR:=am hr
 have hm:=hr.2.1
 have HI:=am hi0
 have HJ:=am hi1
 have HCL:=am hcl
 clear hr hc hi0 hi1 hcl
 have hu:=Tryz.underlying167
 go_enter Tryz.func207,Tryz.ntmps207
 go_wp2
 go_loopw [8] (fun v8 wr => ∃ j : Nat,j ≤ l.length ∧ v8 = ii (j : Int) ∧ Aside0 (∀ i (hi : i < l.length),i < j → p l[i] = false) ∧ Aside0 (Below W.heap.size W wr)) (fun v8 _ => l.length - (intOf v8).toNat)
 case atStart => exact ⟨0,Nat.zero_le _,rfl,⟨fun i _ hi => absurd hi (Nat.not_lt_zero _)⟩,⟨Below.refl _ _⟩⟩
 case round =>
  obtain ⟨j,hj,rfl,HP,HBw⟩:=hrel
  by_cases hlt : j < l.length
  ·obtain ⟨ad,A3,c3,e,hx0,hx1,hx2,hx3,_,_⟩:=at_T167 (Kd.C_below HR.out HBw.out) (j : Int) (by omega) (by omega)
   cases e
   rw [Int.toNat_natCast] at hx0 hx1 hx2 hx3
   have hx : rd_T167 l (j : Int) = l[j]:=by unfold rd_T167;rw [Int.toNat_natCast,List.getD_eq_getElem?_getD,List.getElem?_eq_getElem hlt];rfl
   have HC:=am (HCL.out (rd_T167 l (j : Int)) A3 c3 wr (by rw [hx];exact List.getElem_mem hlt) (HJ.out _ _ HI.out HBw.out))
   have HX:=am hx
   clear hx
   cases hp : p (rd_T167 l (j : Int)) with
  |true =>
    have HPx:=am hp
    rw [hp] at HC
    clear hp
    go_wp2_with fail
    refine HC.out.mono ?_
    rintro e w' ⟨rfl,hd⟩
    have HD:=am hd
    clear hd
    go_wp2
    go_ret
    exact ⟨by rw [idxP_found hlt (by rw [← HX.out];exact HPx.out) HP.out];rfl,below_then HBw.out (below_size HBw.out) HD.out⟩
  |false =>
    have HPx:=am hp
    rw [hp] at HC
    clear hp
    go_wp2_with fail
    refine HC.out.mono ?_
    rintro e w' ⟨rfl,hd⟩
    have HD:=am hd
    clear hd
    go_wp2
    go_roundw
    case rel =>
     refine ⟨j + 1,by omega,by go_num,⟨fun i hi hij => ?_⟩,⟨below_then HBw.out (below_size HBw.out) HD.out⟩⟩
     by_cases e : i = j
     ·subst e;rw [← HX.out];exact HPx.out
     ·exact HP.out i hi (by omega)
    case measure => simp [intOf];omega
  ·go_wp2
   go_ret
   exact ⟨by rw [idxP_none (fun i hi => HP.out i hi (by omega))];rfl,HBw.out⟩
set_option maxRecDepth 100000 in
theorem has251_calls (A : Option Addr) (c : Nat) (l : List S167) (p : S167 → Bool) (K : Nat) (caps : Array Value) (Inv : World → Prop) (W : World) (hr : Kd.C k167 W A l.length l) (hc : l.length ≤ c)
  (ek : ∀ args w,(callFunc K args).run Tryz.prog w = .ok (.enter K args) w) (hi0 : Inv W) (hi1 : ∀ w w',Inv w → Below w.heap.size w w' → Inv w')
  (hcl : ∀ (x : S167) (A3 : Option Addr) (c3 : Nat) (w : World),x ∈ l → Inv w → Calls Tryz.prog K (#[.agg #[ii x.f0,ii x.f1,ii x.f2,.slice A3 x.f3.length c3]] ++ caps) w fun e w' => e = .returned (.bool (p x)) ∧ Below w.heap.size w w') :
  Calls Tryz.prog 251 #[.slice A l.length c,.func (.func K) #[] caps] W fun e W' => e = .returned (.bool (l.any p)) ∧ Below W.heap.size W W':=by
 have HC:=am (idx207_calls A c l p K caps Inv W hr hc ek hi0 hi1 hcl)
 clear hr hc hi0 hi1 hcl
 go_enter Tryz.func251,Tryz.ntmps251
 go_wp2_with fail
 refine HC.out.mono ?_
 rintro e w' ⟨rfl,hd⟩
 have HD:=am hd
 clear hd
 go_wp2
 go_ret
 exact ⟨by rw [← idxP_nn];rfl,HD.out⟩
def R240_1.T : Bool × List (List Nat × List Nat):=(true,[([],[]),([0],[0]),([1],[1]),([2],[2]),([],[]),([3,4],[3,4]),([5,5],[5]),([6],[6]),([7,6],[6,7]),([8,6],[6,8]),([9,6],[6,9]),([6],[6]),([10,11,6,6],[6,10,11]),([6,12],[6,12])])
def R240_1.B : List Nat:=[0,1,3,7,0,31,63,127,255,511,1023,127,4095,8191]
theorem R240_1.tab : rtab .any (opsOf Tryz.f240 1) = R240_1.T:=by kernel_rfl
theorem R240_1.bits : waitsOk R240_1.T.2 R240_1.B = true:=by kernel_rfl
theorem beqd (a b : Int) : (a == b) = decide (a = b):=by rw [Bool.eq_iff_iff];simp
def Pan (c : Int) : Ending:=.panicked [{ v:=.iface 325 (.agg #[ii c]),recovered:=false }]
theorem index_some : ∀ (d : Nat) (k : Nat) (l : List Int) (a : Int) (i : Nat),i + d = l.length → d < k → l.length < 9223372036854775807 → slices_Index_int_int.l0 k l a (l.length : Int) (i : Int) = some (if a ∈ l.drop i then ((i + (l.drop i).idxOf a : Nat) : Int) else -1)
|d,0,l,a,i,_,hk,_ => by omega
|0,k + 1,l,a,i,hd,hk,hl => by
  simp only [slices_Index_int_int.l0]
  rw [if_neg (by omega),List.drop_eq_nil_of_le (by omega)]
  simp
|d + 1,k + 1,l,a,i,hd,hk,hl => by
  have hi : i < l.length:=by omega
  simp only [slices_Index_int_int.l0]
  rw [if_pos (by omega),if_pos (by omega),if_pos (by omega)]
  have hrd : rd l (i : Int) = l[i]:=by unfold rd;rw [Int.toNat_natCast,List.getD_eq_getElem?_getD,List.getElem?_eq_getElem hi];rfl
  have hdr : l.drop i = l[i] :: l.drop (i + 1):=List.drop_eq_getElem_cons hi
  rw [hrd]
  by_cases h : a = l[i]
  ·rw [if_pos h,hdr,if_pos (by rw [h];exact List.mem_cons_self)]
   congr 1
   rw [← h]
   simp
  ·rw [if_neg h,wrap_in (by omega) (by omega),show ((i : Int) + 1) = ((i + 1 : Nat) : Int) by omega,index_some d k l a (i + 1) (by omega) (by omega) hl]
   congr 1
   rw [hdr]
   have hm : a ∈ l[i] :: l.drop (i + 1) ↔ a ∈ l.drop (i + 1):=by rw [List.mem_cons];exact ⟨fun e => e.resolve_left h,.inr⟩
   by_cases hm2 : a ∈ l.drop (i + 1)
   ·rw [if_pos hm2,if_pos (hm.2 hm2),List.idxOf_cons,show (l[i] == a) = false by simpa using Ne.symm h]
    simp only [cond_false]
    omega
   ·rw [if_neg hm2,if_neg (fun e => hm2 (hm.1 e))]
theorem indexOf_some {l : List Int} (a : Int) (hl : l.length < 9223372036854775807) : slices_Index_int_int.f FU l a = some (if a ∈ l then (l.idxOf a : Int) else -1):=by
 unfold slices_Index_int_int.f
 have:=index_some l.length FU l a 0 (by omega) (FU_lt (by omega)) hl
 simpa using this
theorem contains_some {l : List Int} (a : Int) (hl : l.length < 9223372036854775807) : slices_Contains_int_int.f FU l a = some (decide (a ∈ l)):=by
 unfold slices_Contains_int_int.f
 rw [indexOf_some a hl]
 simp only [Option.bind_some]
 congr 1
 by_cases h : a ∈ l
 ·rw [if_pos h];simp [h]
 ·rw [if_neg h];simp [h]
theorem cl252_calls (gx : Nat) (id : Int) (x : S167) (A3 : Option Addr) (c3 : Nat) (w : World) (BK : w.heap[gx]? = some (.cells #[ii id] 3 (0,0))) :
  Calls Tryz.prog 252 (#[.agg #[ii x.f0,ii x.f1,ii x.f2,.slice A3 x.f3.length c3]] ++ #[.pointer (some ⟨gx,0,none⟩)]) w fun e w' => e = .returned (.bool (decide (x.f0 = id))) ∧ Below w.heap.size w w':=by
 have hu:=Tryz.underlying167
 have hc : ∀ o,(w.alloc o).cell? ⟨gx,0,none⟩ = some (ii id):=fun o => (blk_cell (blk_alloc BK o) 0).trans rfl
 clear BK
 go_enter Tryz.func252,Tryz.ntmps252
 go_wp2
 go_ret
 exact ⟨by simp [beqd],below_alloc (Below.refl _ _) _⟩
theorem cl208_calls (gx : Nat) (id : Int) (x : S167) (A3 : Option Addr) (c3 : Nat) (w : World) (BK : w.heap[gx]? = some (.cells #[ii id] 3 (0,0))) :
  Calls Tryz.prog 208 (#[.agg #[ii x.f0,ii x.f1,ii x.f2,.slice A3 x.f3.length c3]] ++ #[.pointer (some ⟨gx,0,none⟩)]) w fun e w' => e = .returned (.bool (decide (x.f0 = id))) ∧ Below w.heap.size w w':=by
 have hu:=Tryz.underlying167
 have hc : ∀ o,(w.alloc o).cell? ⟨gx,0,none⟩ = some (ii id):=fun o => (blk_cell (blk_alloc BK o) 0).trans rfl
 clear BK
 go_enter Tryz.func208,Tryz.ntmps208
 go_wp2
 go_ret
 exact ⟨by simp [beqd],below_alloc (Below.refl _ _) _⟩
set_option maxRecDepth 100000 in
set_option maxHeartbeats 1000000 in
theorem known_calls {W : World} {base n : Nat} {L : Loc} {Y : Yd} (hY : YardAt W base L Y) (hw : Wf n Y) (hn : n ≤ 60) (id : Int) :
  Calls Tryz.prog 99 #[.pointer (some ⟨L.g,0,none⟩),ii id] W fun e W' => e = .returned (.bool (decide (id ∈ Y.pours))) ∧ Below W.heap.size W W':=by
 obtain ⟨A,c,ho,hl,hC⟩:=Kd.R_reads hY.pours
 have hcg : W.cell? ⟨L.g,2,none⟩ = some (.slice A Y.pours.length c):=(blk_cell hY.blk 2).trans (by rw [← ho];rfl)
 have hf:=contains_some (l:=Y.pours) id (by have:=hw.npours;omega)
 have HC:=am hC
 have HF:=am hf
 have HL:=am hl
 clear hY hw ho hC hf hl
 go_enter Tryz.func99,Tryz.ntmps99
 go_wp2_with (go_at_call 165;refine (slices_Contains_int_int.calls FU _ _ _ _ _ _ HC.out HL.out HF.out).mono ?_;rintro e w' ⟨rfl,m,rfl⟩)
 go_ret
 exact ⟨rfl,pw_below_drewN (Below.refl _ _) _⟩
def freshE (Y : Yd) (id : Int) : Ending:=if isNew Y id = true then .returned (.tuple #[]) else Pan 6
theorem freshE_ok {Y : Yd} {id : Int} (h : isNew Y id = true) : freshE Y id = .returned (.tuple #[]):=if_pos h
theorem freshE_no {Y : Yd} {id : Int} (h : isNew Y id = false) : freshE Y id = Pan 6:=if_neg (by rw [h];simp)
theorem isNew_known {Y : Yd} {id : Int} (h : id ∈ Y.pours) : isNew Y id = false:=by unfold isNew;simp [h]
theorem isNew_any {Y : Yd} {id : Int} (h : id ∉ Y.pours) : isNew Y id = !(Y.barrows.any fun b => decide (b.f0 = id)):=by unfold isNew;simp [h]
set_option maxRecDepth 100000 in
set_option maxHeartbeats 2000000 in
theorem fresh_calls {W : World} {base n : Nat} {L : Loc} {Y : Yd} (hY : YardAt W base L Y) (hw : Wf n Y) (hn : n ≤ 60) (id : Int) :
  Calls Tryz.prog 240 #[.pointer (some ⟨L.g,0,none⟩),ii id] W fun e W' => e = freshE Y id ∧ Below W.heap.size W W':=by
 obtain ⟨Ao,co,ho,hlo,hCo⟩:=Kd.R_reads hY.pours
 obtain ⟨Ab,cb,hb,hlb,hCb⟩:=Kd.R_reads hY.barrows
 have hCb' : Kd.C k167 W Ab Y.barrows.length Y.barrows:=hCb.imp_ (Below.refl _ _) fun _ _ hp => Foot.now hp
 have hB:=hY.blk
 rw [ho,hb] at hB
 have BG:=am (blk_drew (blk_alloc hB (.cells #[ii id] 3)))
 have BK:=am (blk_drew (blk_new W (.cells #[ii id] 3)))
 have HF:=am (contains_some (l:=Y.pours) id (by have:=hw.npours;omega))
 have HCo:=am (Kd.C_drew (Kd.C_alloc hCo (.cells #[ii id] 3)))
 have HCb:=am (Kd.C_drew (Kd.C_alloc hCb' (.cells #[ii id] 3)))
 have HLo:=am hlo
 have HLb:=am hlb
 have HB:=am (below_drew (below_alloc (Below.refl W.heap.size W) (.cells #[ii id] 3)))
 have hmf : ∀ (fn : Fn) (first cap : Array Value) (w : World),(Instr.makeFunc fn first cap).run Tryz.prog w = .ok (.func fn first cap) w:=fun _ _ _ _ => rfl
 clear hY hw ho hb hlo hlb hCo hCb hCb' hB
 by_cases hk : id ∈ Y.pours
 ·have HE:=am (isNew_known hk)
  rw [decide_eq_true hk] at HF
  clear hk
  go_enter Tryz.func240,Tryz.ntmps240
  go_wp2
  refine start_ (n:=14) (S:=fun w' => w'.cell? ⟨L.g,2,none⟩ = some (.slice Ao Y.pours.length co) ∧ w'.cell? ⟨W.heap.size,0,none⟩ = some (ii id)) (ds:=[]) (ab 14 0) kr rfl kr ⟨(blk_cell BG.out 2).trans rfl,(blk_cell BK.out 0).trans rfl⟩ (fun hHeld => ?_);refine with_tabW R240_1.tab R240_1.bits (fun HT_ HW_ => ?_)
  generalize ((W.alloc (.cells #[ii id] 3))).drew = wd at BG BK HCo HCb HB hHeld ⊢
  refine qA 0 (some 4) ?_;refine qA 1 (some 5) ?_;refine qA 2 (some 6) ?_;refine qT 3 (some 7) ?_;refine qT 4 (some 8) ?_
  refine qE 5 (some 9) fun K hK => ?_
  refine gC Tryz.func165 #[.slice Ao Y.pours.length co,ii id] ?_
  refine (slices_Contains_int_int.calls FU _ _ _ _ _ _ HCo.out HLo.out HF.out).mono ?_
  rintro e w1 ⟨rfl,m,rfl⟩
  have BG1:=am (blk_drewN BG.out m)
  have BK1:=am (blk_drewN BK.out m)
  have HB1:=am (pw_below_drewN HB.out m)
  refine ⟨_,rfl,?_⟩
  refine hK.out _ _ ⟨(blk_cell BG1.out 2).trans rfl,(blk_cell BK1.out 0).trans rfl⟩ (fun hHeld => ?_)
  clear hK K
  refine qN (some 9) ?_
  refine qA 6 (some 10) ?_;refine qO 7 (some 11) ?_;refine qO 8 (some 12) ?_;refine qO 9 (some 13) ?_;refine qO 10 (some 14) ?_;refine qO 11 (some 15) ?_;refine qO 12 (some 16) ?_;refine qA 13 (some 17) ?_
  refine done_ (done_of HT_.out kr) ?_
  go_wp2
  exact ⟨rfl,by rw [freshE_no HE.out];rfl,HB1.out⟩
 ·have HE:=am (isNew_any hk)
  rw [decide_eq_false hk] at HF
  clear hk
  obtain ⟨b,hb⟩ : ∃ b,b = (Y.barrows.any fun b => decide (b.f0 = id)):=⟨_,rfl⟩
  rw [← hb] at HE
  cases b with
 |true =>
   have HH:=am hb
   clear hb
   go_enter Tryz.func240,Tryz.ntmps240
   go_wp2
   refine start_ (n:=14) (S:=fun w' => w'.cell? ⟨L.g,2,none⟩ = some (.slice Ao Y.pours.length co) ∧ w'.cell? ⟨L.g,4,none⟩ = some (.slice Ab Y.barrows.length cb) ∧ w'.cell? ⟨W.heap.size,0,none⟩ = some (ii id)) (ds:=[]) (ab 14 0) kr rfl kr ⟨(blk_cell BG.out 2).trans rfl,(blk_cell BG.out 4).trans rfl,(blk_cell BK.out 0).trans rfl⟩ (fun hHeld => ?_);refine with_tabW R240_1.tab R240_1.bits (fun HT_ HW_ => ?_)
   generalize ((W.alloc (.cells #[ii id] 3))).drew = wd at BG BK HCo HCb HB hHeld ⊢
   refine qA 0 (some 4) ?_;refine qA 1 (some 5) ?_;refine qA 2 (some 6) ?_;refine qT 3 (some 7) ?_;refine qT 4 (some 8) ?_
   refine qE 5 (some 9) fun K hK => ?_
   refine gC Tryz.func165 #[.slice Ao Y.pours.length co,ii id] ?_
   refine (slices_Contains_int_int.calls FU _ _ _ _ _ _ HCo.out HLo.out HF.out).mono ?_
   rintro e w1 ⟨rfl,m,rfl⟩
   have BG1:=am (blk_drewN BG.out m)
   have BK1:=am (blk_drewN BK.out m)
   have HCb1:=am (Kd.C_drewN HCb.out m)
   have HB1:=am (pw_below_drewN HB.out m)
   refine ⟨_,rfl,?_⟩
   refine hK.out _ _ ⟨(blk_cell BG1.out 2).trans rfl,(blk_cell BG1.out 4).trans rfl,(blk_cell BK1.out 0).trans rfl⟩ (fun hHeld => ?_)
   clear hK K
   refine qN (some 9) ?_
   refine qA 6 (some 10) ?_;refine qA 7 (some 11) ?_;refine qA 8 (some 12) ?_;refine qA 9 (some 13) ?_;refine qT 10 (some 14) ?_;refine qA 11 (some 15) ?_
   refine qE 12 (some 16) fun K hK => ?_
   refine gC Tryz.func251 #[.slice Ab Y.barrows.length cb,.func (.func 252) #[] #[.pointer (some ⟨W.heap.size,0,none⟩)]] ?_
   refine (has251_calls Ab cb Y.barrows (fun b => decide (b.f0 = id)) 252 _ (fun w => w.heap[W.heap.size]? = some (.cells #[ii id] 3 (0,0))) _ HCb1.out HLb.out (fun args w => by kernel_rfl) BK1.out (fun w w' h hb => blk_below h hb) (fun x A3 c3 w _ h => cl252_calls _ id x A3 c3 w h)).mono ?_
   rintro e w2 ⟨rfl,hd⟩
   rw [← HH.out]
   have BG2:=am (blk_below BG1.out hd)
   have BK2:=am (blk_below BK1.out hd)
   have HB2:=am (below_then HB1.out (below_size HB1.out) hd)
   clear hd
   refine ⟨_,rfl,?_⟩
   refine hK.out _ _ ⟨(blk_cell BG2.out 2).trans rfl,(blk_cell BG2.out 4).trans rfl,(blk_cell BK2.out 0).trans rfl⟩ (fun hHeld => ?_)
   clear hK K
   refine qN (some 16) ?_
   refine qA 13 (some 17) ?_
   refine done_ (done_of HT_.out kr) ?_
   go_wp2
   exact ⟨rfl,by rw [freshE_no HE.out];rfl,HB2.out⟩
 |false =>
   have HH:=am hb
   clear hb
   go_enter Tryz.func240,Tryz.ntmps240
   go_wp2
   refine start_ (n:=14) (S:=fun w' => w'.cell? ⟨L.g,2,none⟩ = some (.slice Ao Y.pours.length co) ∧ w'.cell? ⟨L.g,4,none⟩ = some (.slice Ab Y.barrows.length cb) ∧ w'.cell? ⟨W.heap.size,0,none⟩ = some (ii id)) (ds:=[]) (ab 14 0) kr rfl kr ⟨(blk_cell BG.out 2).trans rfl,(blk_cell BG.out 4).trans rfl,(blk_cell BK.out 0).trans rfl⟩ (fun hHeld => ?_);refine with_tabW R240_1.tab R240_1.bits (fun HT_ HW_ => ?_)
   generalize ((W.alloc (.cells #[ii id] 3))).drew = wd at BG BK HCo HCb HB hHeld ⊢
   refine qA 0 (some 4) ?_;refine qA 1 (some 5) ?_;refine qA 2 (some 6) ?_;refine qT 3 (some 7) ?_;refine qT 4 (some 8) ?_
   refine qE 5 (some 9) fun K hK => ?_
   refine gC Tryz.func165 #[.slice Ao Y.pours.length co,ii id] ?_
   refine (slices_Contains_int_int.calls FU _ _ _ _ _ _ HCo.out HLo.out HF.out).mono ?_
   rintro e w1 ⟨rfl,m,rfl⟩
   have BG1:=am (blk_drewN BG.out m)
   have BK1:=am (blk_drewN BK.out m)
   have HCb1:=am (Kd.C_drewN HCb.out m)
   have HB1:=am (pw_below_drewN HB.out m)
   refine ⟨_,rfl,?_⟩
   refine hK.out _ _ ⟨(blk_cell BG1.out 2).trans rfl,(blk_cell BG1.out 4).trans rfl,(blk_cell BK1.out 0).trans rfl⟩ (fun hHeld => ?_)
   clear hK K
   refine qN (some 9) ?_
   refine qA 6 (some 10) ?_;refine qA 7 (some 11) ?_;refine qA 8 (some 12) ?_;refine qA 9 (some 13) ?_;refine qT 10 (some 14) ?_;refine qA 11 (some 15) ?_
   refine qE 12 (some 16) fun K hK => ?_
   refine gC Tryz.func251 #[.slice Ab Y.barrows.length cb,.func (.func 252) #[] #[.pointer (some ⟨W.heap.size,0,none⟩)]] ?_
   refine (has251_calls Ab cb Y.barrows (fun b => decide (b.f0 = id)) 252 _ (fun w => w.heap[W.heap.size]? = some (.cells #[ii id] 3 (0,0))) _ HCb1.out HLb.out (fun args w => by kernel_rfl) BK1.out (fun w w' h hb => blk_below h hb) (fun x A3 c3 w _ h => cl252_calls _ id x A3 c3 w h)).mono ?_
   rintro e w2 ⟨rfl,hd⟩
   rw [← HH.out]
   have BG2:=am (blk_below BG1.out hd)
   have BK2:=am (blk_below BK1.out hd)
   have HB2:=am (below_then HB1.out (below_size HB1.out) hd)
   clear hd
   refine ⟨_,rfl,?_⟩
   refine hK.out _ _ ⟨(blk_cell BG2.out 2).trans rfl,(blk_cell BG2.out 4).trans rfl,(blk_cell BK2.out 0).trans rfl⟩ (fun hHeld => ?_)
   clear hK K
   refine qN (some 16) ?_
   refine qA 13 (some 17) ?_
   refine done_ (done_of HT_.out kr) ?_
   go_wp2
   go_end0
   exact ⟨by rw [freshE_ok HE.out],HB2.out⟩
theorem fine_calls (r : S43) (w : World) : Calls Tryz.prog 254 #[.agg #[ii r.f0,ii r.f1]] w fun e w' => e = .returned (.bool (fineP r)) ∧ Below w.heap.size w w':=by
 have hu:=Tryz.underlying43
 have HV:=am (valid_some r)
 have B0:=am (below_alloc (Below.refl w.heap.size w) (.cells #[ii r.f0,ii r.f1] 43))
 have BK:=am (blk_new w (.cells #[ii r.f0,ii r.f1] 43))
 have HF : Aside0 (∀ b,validP r = b → fineP r = (b && decide (r.f1 ≤ 16384))):=⟨fun b hb => by unfold fineP;rw [hb]⟩
 cases hv : validP r with
|true =>
  rw [hv] at HV
  have HFb:=am (HF.out true hv)
  clear hv HF
  go_enter Tryz.func254,Tryz.ntmps254
  go_wp2_with fail
  refine (pit_valid.calls FU _ _ _ _ HV.out).mono ?_
  rintro e w1 ⟨rfl,hd⟩
  have q : w1.cell? ⟨w.heap.size,1,none⟩ = some (ii r.f1):=(blk_cell (blk_below BK.out hd) 1).trans rfl
  have B1:=am (below_then B0.out (below_size B0.out) hd)
  clear hd
  go_wp2
  go_ret
  exact ⟨by rw [HFb.out];simp,B1.out⟩
|false =>
  rw [hv] at HV
  have HFb:=am (HF.out false hv)
  clear hv HF
  go_enter Tryz.func254,Tryz.ntmps254
  go_wp2_with fail
  refine (pit_valid.calls FU _ _ _ _ HV.out).mono ?_
  rintro e w1 ⟨rfl,hd⟩
  have B1:=am (below_then B0.out (below_size B0.out) hd)
  clear hd
  go_wp2
  go_ret
  exact ⟨by rw [HFb.out];simp,B1.out⟩
def R241_0.T : Bool × List (List Nat × List Nat):=(true,[([],[]),([],[]),([0,1],[0,1]),([],[]),([2,3],[2,3]),([],[]),([5],[5]),([6],[6]),([7],[7]),([],[]),([8,9],[8,9]),([10],[10]),([4,11],[4,11])])
def R241_0.B : List Nat:=[0,0,3,0,15,0,32,96,224,0,992,2016,4095]
theorem R241_0.tab : rtab .any (opsOf Tryz.f241 0) = R241_0.T:=by kernel_rfl
theorem R241_0.bits : waitsOk R241_0.T.2 R241_0.B = true:=by kernel_rfl
def R243_1.T : Bool × List (List Nat × List Nat):=(true,[([],[]),([],[]),([1],[1]),([0,2],[0,2]),([],[]),([4],[4]),([3,5],[3,5])])
def R243_1.B : List Nat:=[0,0,2,7,0,16,63]
theorem R243_1.tab : rtab .any (opsOf Tryz.f243 1) = R243_1.T:=by kernel_rfl
theorem R243_1.bits : waitsOk R243_1.T.2 R243_1.B = true:=by kernel_rfl
def roomE (Y : Yd) (i a : Int) : Ending:=if heldP (pitP Y i) + a ≤ roomP Y i then .returned (.tuple #[]) else Pan 2
def enoughE (Y : Yd) (i a : Int) : Ending:=if a ≤ heldP (pitP Y i) then .returned (.tuple #[]) else Pan 4
set_option maxRecDepth 100000 in
set_option maxHeartbeats 2000000 in
theorem room_calls {W : World} {base n : Nat} {L : Loc} {Y : Yd} (hY : YardAt W base L Y) (hw : Wf n Y) (i a : Int) (h0 : 0 ≤ i) (h1 : i < Y.rooms.length) (ha0 : 0 ≤ a) (ha1 : a ≤ 1000) :
  Calls Tryz.prog 241 #[.pointer (some ⟨L.g,0,none⟩),ii i,ii a] W fun e W' => e = roomE Y i a ∧ Below W.heap.size W W':=by
 obtain ⟨p1,p2,p3,p4⟩:=hw.pitOk h0 h1
 have hlo:=heldP_nonneg (l:=pitP Y i) fun p hp => (p1 p hp).lo
 obtain ⟨Ar,cr,hr,hlr,hCr⟩:=hY.rooms_C
 obtain ⟨ad,e,hx⟩:=Kd.at_int hCr i h0 h1
 subst e
 have hB:=hY.blk
 rw [hr] at hB
 have HY:=am (hY.move (below_drew (Below.refl _ _)))
 have HW:=am hw
 have BG:=am (blk_drew hB)
 have HX:=am (show W.drew.cell? (ad.add i.toNat) = some (ii (roomP Y i)) from hx)
 have HB:=am (below_drew (Below.refl W.heap.size W))
 have hwr : IntKind.i64.wrap (heldP (pitP Y i) + a) = heldP (pitP Y i) + a:=IntWalk.i64_in _ (by omega)
 have HE : Aside0 (∀ b,b = decide (heldP (pitP Y i) + a > roomP Y i) → roomE Y i a = (if b = true then Pan 2 else .returned (.tuple #[]))):=⟨fun b hb => by
  unfold roomE
  by_cases h : heldP (pitP Y i) + a ≤ roomP Y i
  ·rw [if_pos h,hb,if_neg (by simp;omega)]
  ·rw [if_neg h,hb,if_pos (by simp;omega)]⟩
 clear hY hw p1 p2 p3 p4 hlo hr hlr hCr hx hB
 cases hb : decide (heldP (pitP Y i) + a > roomP Y i) with
|true =>
  have HEb:=am (HE.out true hb.symm)
  go_enter Tryz.func241,Tryz.ntmps241
  go_wp2
  refine start_ (n:=13) (S:=fun w' => w'.cell? ⟨L.g,0,none⟩ = some (.slice (some ad) Y.rooms.length cr) ∧ w'.cell? (ad.add i.toNat) = some (ii (roomP Y i))) (ds:=[]) (ab 13 0) kr rfl kr ⟨(blk_cell BG.out 0).trans rfl,HX.out⟩ (fun hHeld => ?_);refine with_tabW R241_0.tab R241_0.bits (fun HT_ HW_ => ?_)
  generalize (W).drew = wd at HY BG HX HB hHeld ⊢
  refine qA 0 (some 6) ?_;refine qA 1 (some 7) ?_;refine qA 3 (some 9) ?_;refine qA 5 (some 11) ?_;refine qA 6 (some 12) ?_;refine qA 7 (some 13) ?_;refine qT 8 (some 14) ?_;refine qA 9 (some 15) ?_;refine qA 10 (some 16) ?_;refine qT 11 (some 17) ?_
  refine qE 2 (some 8) fun K hK => ?_
  refine gC Tryz.func130 #[.pointer (some ⟨L.g,0,none⟩),ii i] ?_
  refine (held_calls HY.out HW.out i h0 h1).mono ?_
  rintro e w1 ⟨rfl,hd⟩
  have BG1:=am (blk_below BG.out hd)
  have HX1:=am (pw_cell_below hd HX.out)
  have HB1:=am (below_then HB.out (below_size HB.out) hd)
  clear hd
  refine ⟨_,rfl,?_⟩
  refine hK.out _ _ ⟨(blk_cell BG1.out 0).trans rfl,HX1.out⟩ (fun hHeld => ?_)
  clear hK K
  refine qN (some 8) ?_
  refine qA 4 (some 10) ?_;refine qA 12 (some 18) ?_
  refine done_ (done_of HT_.out kr) ?_
  go_wp2
  exact ⟨rfl,by rw [HEb.out];rfl,HB1.out⟩
|false =>
  have HEb:=am (HE.out false hb.symm)
  go_enter Tryz.func241,Tryz.ntmps241
  go_wp2
  refine start_ (n:=13) (S:=fun w' => w'.cell? ⟨L.g,0,none⟩ = some (.slice (some ad) Y.rooms.length cr) ∧ w'.cell? (ad.add i.toNat) = some (ii (roomP Y i))) (ds:=[]) (ab 13 0) kr rfl kr ⟨(blk_cell BG.out 0).trans rfl,HX.out⟩ (fun hHeld => ?_);refine with_tabW R241_0.tab R241_0.bits (fun HT_ HW_ => ?_)
  generalize (W).drew = wd at HY BG HX HB hHeld ⊢
  refine qA 0 (some 6) ?_;refine qA 1 (some 7) ?_;refine qA 3 (some 9) ?_;refine qA 5 (some 11) ?_;refine qA 6 (some 12) ?_;refine qA 7 (some 13) ?_;refine qT 8 (some 14) ?_;refine qA 9 (some 15) ?_;refine qA 10 (some 16) ?_;refine qT 11 (some 17) ?_
  refine qE 2 (some 8) fun K hK => ?_
  refine gC Tryz.func130 #[.pointer (some ⟨L.g,0,none⟩),ii i] ?_
  refine (held_calls HY.out HW.out i h0 h1).mono ?_
  rintro e w1 ⟨rfl,hd⟩
  have BG1:=am (blk_below BG.out hd)
  have HX1:=am (pw_cell_below hd HX.out)
  have HB1:=am (below_then HB.out (below_size HB.out) hd)
  clear hd
  refine ⟨_,rfl,?_⟩
  refine hK.out _ _ ⟨(blk_cell BG1.out 0).trans rfl,HX1.out⟩ (fun hHeld => ?_)
  clear hK K
  refine qN (some 8) ?_
  refine qA 4 (some 10) ?_;refine qA 12 (some 18) ?_
  refine done_ (done_of HT_.out kr) ?_
  go_wp2
  go_end0
  exact ⟨by rw [HEb.out];rfl,HB1.out⟩
set_option maxRecDepth 100000 in
set_option maxHeartbeats 2000000 in
theorem enough_calls {W : World} {base n : Nat} {L : Loc} {Y : Yd} (hY : YardAt W base L Y) (hw : Wf n Y) (s : S84) (h0 : 0 ≤ s.f3) (h1 : s.f3 < Y.rooms.length) :
  Calls Tryz.prog 243 #[.pointer (some ⟨L.g,0,none⟩),.agg #[ii s.f0,ii s.f1,ii s.f2,ii s.f3,ii s.f4,ii s.f5]] W fun e W' => e = enoughE Y s.f3 s.f5 ∧ Below W.heap.size W W':=by
 have hu:=Tryz.underlying84
 have BK:=am (blk_drew (blk_new W (.cells #[ii s.f0,ii s.f1,ii s.f2,ii s.f3,ii s.f4,ii s.f5] 84)))
 have HB:=am (below_drew (below_alloc (Below.refl W.heap.size W) (.cells #[ii s.f0,ii s.f1,ii s.f2,ii s.f3,ii s.f4,ii s.f5] 84)))
 have HY:=am (hY.move HB.out)
 have HW:=am hw
 have HE : Aside0 (∀ b,b = decide (heldP (pitP Y s.f3) < s.f5) → enoughE Y s.f3 s.f5 = (if b = true then Pan 4 else .returned (.tuple #[]))):=⟨fun b hb => by
  unfold enoughE
  by_cases h : s.f5 ≤ heldP (pitP Y s.f3)
  ·rw [if_pos h,hb,if_neg (by simp;omega)]
  ·rw [if_neg h,hb,if_pos (by simp;omega)]⟩
 clear hY hw
 cases hb : decide (heldP (pitP Y s.f3) < s.f5) with
|true =>
  have HEb:=am (HE.out true hb.symm)
  go_enter Tryz.func243,Tryz.ntmps243
  go_wp2
  refine start_ (n:=7) (S:=fun w' => w'.cell? ⟨W.heap.size,3,none⟩ = some (ii s.f3) ∧ w'.cell? ⟨W.heap.size,5,none⟩ = some (ii s.f5)) (ds:=[]) (ab 7 0) kr rfl kr ⟨(blk_cell BK.out 3).trans rfl,(blk_cell BK.out 5).trans rfl⟩ (fun hHeld => ?_);refine with_tabW R243_1.tab R243_1.bits (fun HT_ HW_ => ?_)
  generalize ((W.alloc (.cells #[ii s.f0,ii s.f1,ii s.f2,ii s.f3,ii s.f4,ii s.f5] 84))).drew = wd at HY BK HB hHeld ⊢
  refine qA 0 (some 4) ?_;refine qA 1 (some 5) ?_;refine qT 2 (some 6) ?_;refine qA 4 (some 8) ?_;refine qT 5 (some 9) ?_
  refine qE 3 (some 7) fun K hK => ?_
  refine gC Tryz.func130 #[.pointer (some ⟨L.g,0,none⟩),ii s.f3] ?_
  refine (held_calls HY.out HW.out s.f3 h0 h1).mono ?_
  rintro e w1 ⟨rfl,hd⟩
  have BK1:=am (blk_below BK.out hd)
  have HB1:=am (below_then HB.out (below_size HB.out) hd)
  clear hd
  refine ⟨_,rfl,?_⟩
  refine hK.out _ _ ⟨(blk_cell BK1.out 3).trans rfl,(blk_cell BK1.out 5).trans rfl⟩ (fun hHeld => ?_)
  clear hK K
  refine qN (some 7) ?_
  refine qA 6 (some 10) ?_
  refine done_ (done_of HT_.out kr) ?_
  go_wp2
  exact ⟨rfl,by rw [HEb.out];rfl,HB1.out⟩
|false =>
  have HEb:=am (HE.out false hb.symm)
  go_enter Tryz.func243,Tryz.ntmps243
  go_wp2
  refine start_ (n:=7) (S:=fun w' => w'.cell? ⟨W.heap.size,3,none⟩ = some (ii s.f3) ∧ w'.cell? ⟨W.heap.size,5,none⟩ = some (ii s.f5)) (ds:=[]) (ab 7 0) kr rfl kr ⟨(blk_cell BK.out 3).trans rfl,(blk_cell BK.out 5).trans rfl⟩ (fun hHeld => ?_);refine with_tabW R243_1.tab R243_1.bits (fun HT_ HW_ => ?_)
  generalize ((W.alloc (.cells #[ii s.f0,ii s.f1,ii s.f2,ii s.f3,ii s.f4,ii s.f5] 84))).drew = wd at HY BK HB hHeld ⊢
  refine qA 0 (some 4) ?_;refine qA 1 (some 5) ?_;refine qT 2 (some 6) ?_;refine qA 4 (some 8) ?_;refine qT 5 (some 9) ?_
  refine qE 3 (some 7) fun K hK => ?_
  refine gC Tryz.func130 #[.pointer (some ⟨L.g,0,none⟩),ii s.f3] ?_
  refine (held_calls HY.out HW.out s.f3 h0 h1).mono ?_
  rintro e w1 ⟨rfl,hd⟩
  have BK1:=am (blk_below BK.out hd)
  have HB1:=am (below_then HB.out (below_size HB.out) hd)
  clear hd
  refine ⟨_,rfl,?_⟩
  refine hK.out _ _ ⟨(blk_cell BK1.out 3).trans rfl,(blk_cell BK1.out 5).trans rfl⟩ (fun hHeld => ?_)
  clear hK K
  refine qN (some 7) ?_
  refine qA 6 (some 10) ?_
  refine done_ (done_of HT_.out kr) ?_
  go_wp2
  go_end0
  exact ⟨by rw [HEb.out];rfl,HB1.out⟩
def isId (id : Int) (b : S167) : Bool:=decide (b.f0 = id)
def FindPost (W : World) (L : Loc) (Y : Yd) (id : Int) (e : Ending) (W' : World) : Prop :=
 Below W.heap.size W W' ∧ ((Y.barrows.any (isId id) = false ∧ e = .returned (.tuple #[.agg #[ii 0,ii 0,ii 0,.slice none 0 0],.bool false])) ∨
  ∃ (b : S167) (A3 : Option Addr) (c3 : Nat),Y.barrows.find? (isId id) = some b ∧ e = .returned (.tuple #[.agg #[ii b.f0,ii b.f1,ii b.f2,.slice A3 b.f3.length c3],.bool true]) ∧ b.f3.length ≤ c3 ∧ Kd.F k89 W' L.Not A3 b.f3.length b.f3)
theorem find_at {α : Type} {p : α → Bool} {l : List α} (z : α) (h : l.any p = true) : l.find? p = some (l.getD (idxP p l).toNat z):=by
 unfold idxP
 rw [if_pos h,Int.toNat_natCast,List.getD_eq_getElem?_getD]
 induction l with
|nil => simp at h
|cons x r ih =>
  rw [List.find?_cons,List.findIdx_cons]
  cases hx : p x with
 |true => simp
 |false =>
   rw [List.any_cons,hx,Bool.false_or] at h
   simp [ih h]
set_option maxRecDepth 100000 in
set_option maxHeartbeats 2000000 in
theorem find_calls {W : World} {base n : Nat} {L : Loc} {Y : Yd} (hY : YardAt W base L Y) (hw : Wf n Y) (hn : n ≤ 60) (id : Int) :
  Calls Tryz.prog 152 #[.pointer (some ⟨L.g,0,none⟩),ii id] W fun e W' => FindPost W L Y id e W':=by
 have hmf : ∀ (fn : Fn) (first cap : Array Value) (w : World),(Instr.makeFunc fn first cap).run Tryz.prog w = .ok (.func fn first cap) w:=fun _ _ _ _ => rfl
 have hu:=Tryz.underlying167
 obtain ⟨Ab,cb,hb,hlb,hCb⟩:=Kd.R_reads hY.barrows
 have hCb' : Kd.C k167 W Ab Y.barrows.length Y.barrows:=hCb.imp_ (Below.refl _ _) fun _ _ hp => Foot.now hp
 have hB:=hY.blk
 rw [hb] at hB
 have hm:=hCb.2.1
 have hb1 : Below W.heap.size W ((W.alloc (.cells #[ii id] 3)).alloc (.cells #[ii 0,ii 0,ii 0,.slice none 0 0] 167)):=below_alloc (below_alloc (Below.refl _ _) _) _
 have BG:=am (blk_below hB hb1)
 have BK:=am (blk_alloc (blk_new W (.cells #[ii id] 3)) (.cells #[ii 0,ii 0,ii 0,.slice none 0 0] 167))
 have BR:=am (blk_new' (W.alloc (.cells #[ii id] 3)) (.cells #[ii 0,ii 0,ii 0,.slice none 0 0] 167) (W.heap.size + 1) (by simp))
 have HC1:=am (Kd.C_below hCb' hb1)
 have HCF:=am hCb
 have HLb:=am hlb
 have HB1:=am hb1
 have g4:=bd BG.out 4
 clear hb hlb hCb hCb' hB hb1 hY hw
 go_enter Tryz.func152,Tryz.ntmps152
 go_wp2_with fail
 refine (idx207_calls Ab cb Y.barrows (isId id) 208 _ (fun w => w.heap[W.heap.size]? = some (.cells #[ii id] 3 (0,0))) _ HC1.out HLb.out (fun args w => by kernel_rfl) BK.out (fun w w' h hb => blk_below h hb) (fun x A3 c3 w _ h => cl208_calls _ id x A3 c3 w h)).mono ?_
 rintro e w1 ⟨rfl,hd⟩
 have HD:=am (below_then HB1.out (below_size HB1.out) hd)
 have BG1:=am (blk_below BG.out hd)
 have BR1:=am (blk_below BR.out hd)
 clear hd g4
 have u0:=bd BR1.out 0
 have u1:=bd BR1.out 1
 have u2:=bd BR1.out 2
 have u3:=bd BR1.out 3
 have f0:=blk_frozen BR1.out 0
 have f1:=blk_frozen BR1.out 1
 have f2:=blk_frozen BR1.out 2
 have f3:=blk_frozen BR1.out 3
 cases ha : Y.barrows.any (isId id) with
|false =>
  have HA:=am ha
  clear ha
  rw [show idxP (isId id) Y.barrows = -1 by unfold idxP;rw [if_neg (by rw [HA.out];simp)]]
  go_wp2
  have bz:=blk_put (cs':=#[ii 0,ii 0,ii 0,.slice none 0 0]) (blk_put (cs':=#[ii 0,ii 0,ii 0,.slice none 0 0]) (blk_put (cs':=#[ii 0,ii 0,ii 0,.slice none 0 0]) (blk_put (cs':=#[ii 0,ii 0,ii 0,.slice none 0 0]) BR1.out 0 (ii 0) rfl) 1 (ii 0) rfl) 2 (ii 0) rfl) 3 (.slice none 0 0) rfl
  have hbb:=(((HD.out.setCell (p:=⟨W.heap.size + 1,0,none⟩) (Nat.le_succ _) (ii 0)).setCell (p:=⟨W.heap.size + 1,1,none⟩) (Nat.le_succ _) (ii 0)).setCell (p:=⟨W.heap.size + 1,2,none⟩) (Nat.le_succ _) (ii 0)).setCell (p:=⟨W.heap.size + 1,3,none⟩) (Nat.le_succ _) (.slice none 0 0)
  have z0:=bd bz 0
  have z1:=bd bz 1
  have z2:=bd bz 2
  have z3:=bd bz 3
  exact bodyPost_ret (v:=.tuple #[.agg #[ii 0,ii 0,ii 0,.slice none 0 0],.bool false]) (by simp [results,Tryz.results152,go_sem,z0,z1,z2,z3,hu]) rfl ⟨hbb,.inl ⟨HA.out,rfl⟩⟩
|true =>
  have HA:=am ha
  obtain ⟨hi0,hi1,_⟩:=idxP_lt ha
  clear ha
  have HF:=am (find_at z167 HA.out)
  obtain ⟨j,hj⟩ : ∃ j,j = idxP (isId id) Y.barrows:=⟨_,rfl⟩
  rw [← hj] at hi0 hi1 HF ⊢
  obtain ⟨ad,cs,e,_,hK,hcc⟩:=Kd.C_get HCF.out z167 j hi0 hi1
  cases e
  obtain ⟨b,hb⟩ : ∃ b,b = Y.barrows.getD j.toNat z167:=⟨_,rfl⟩
  rw [← hb] at hK HF
  obtain ⟨A3,c3,rfl,hl3,hF3⟩:=k167_openF hK
  have hx0 : w1.cell? (ad.add (j.toNat * 4)) = some (ii b.f0):=pw_cell_below HD.out (hcc 0 _ rfl)
  have hx1 : w1.cell? ⟨(ad.add (j.toNat * 4)).block,(ad.add (j.toNat * 4)).off + 1,none⟩ = some (ii b.f1):=by rw [← add_field _ _ 1 (by omega)];exact pw_cell_below HD.out (hcc 1 _ rfl)
  have hx2 : w1.cell? ⟨(ad.add (j.toNat * 4)).block,(ad.add (j.toNat * 4)).off + 2,none⟩ = some (ii b.f2):=by rw [← add_field _ _ 2 (by omega)];exact pw_cell_below HD.out (hcc 2 _ rfl)
  have hx3 : w1.cell? ⟨(ad.add (j.toNat * 4)).block,(ad.add (j.toNat * 4)).off + 3,none⟩ = some (.slice A3 b.f3.length c3):=by rw [← add_field _ _ 3 (by omega)];exact pw_cell_below HD.out (hcc 3 _ rfl)
  have HF3:=am hF3
  have HL3:=am hl3
  have HJ:=am hj
  clear hj hb hK hcc hF3 hl3
  have g4:=bd BG1.out 4
  go_wp2
  have bz:=blk_put (cs':=#[ii b.f0,ii b.f1,ii b.f2,.slice A3 b.f3.length c3]) (blk_put (cs':=#[ii b.f0,ii b.f1,ii b.f2,.slice none 0 0]) (blk_put (cs':=#[ii b.f0,ii b.f1,ii 0,.slice none 0 0]) (blk_put (cs':=#[ii b.f0,ii 0,ii 0,.slice none 0 0]) BR1.out 0 (ii b.f0) rfl) 1 (ii b.f1) rfl) 2 (ii b.f2) rfl) 3 (.slice A3 b.f3.length c3) rfl
  have hbb:=(((HD.out.setCell (p:=⟨W.heap.size + 1,0,none⟩) (Nat.le_succ _) (ii b.f0)).setCell (p:=⟨W.heap.size + 1,1,none⟩) (Nat.le_succ _) (ii b.f1)).setCell (p:=⟨W.heap.size + 1,2,none⟩) (Nat.le_succ _) (ii b.f2)).setCell (p:=⟨W.heap.size + 1,3,none⟩) (Nat.le_succ _) (.slice A3 b.f3.length c3)
  have z0:=bd bz 0
  have z1:=bd bz 1
  have z2:=bd bz 2
  have z3:=bd bz 3
  exact bodyPost_ret (v:=.tuple #[.agg #[ii b.f0,ii b.f1,ii b.f2,.slice A3 b.f3.length c3],.bool true]) (by simp [results,Tryz.results152,go_sem,z0,z1,z2,z3,hu]) rfl ⟨hbb,.inr ⟨b,A3,c3,HF.out,rfl,HL3.out,Foot_fr HF3.out (Fr.of_below L hbb)⟩⟩
end Go.Proofs.YtjjfpmapjjemcaaGreat.B
end
