import Derived.Test.YtjjfpmapjjemcaaGreatQ24
import Derived.Test.YtjjfpmapjjemcaaGreatQ28
import Derived.Test.YtjjfpmapjjemcaaGreatQ35
import Derived.Test.YtjjfpmapjjemcaaGreatQ7
set_option linter.unusedVariables false
set_option linter.unusedSimpArgs false
section
namespace Go.Proofs.YtjjfpmapjjemcaaGreat.B
open Go.RowKit Go.Proofs.YtjjfpmapjjemcaaGreatW.PrintWords Go.Proofs.YtjjfpmapjjemcaaGreatW.PrintLast Go.Proofs.YtjjfpmapjjemcaaGreatW.PrintMore
attribute [local go_sem] max2_int min2_int max_two min_two max_three min_three max_four min_four
def zcells : Nat → List Value
|0 => []
|m + 1 => ii 0 :: ii 0 :: ii 0 :: zcells m
theorem zcells_length : ∀ m,(zcells m).length = m * 3
|0 => rfl
|m + 1 => by simp only [zcells,List.length_cons,zcells_length m];omega
theorem zcells_eq (m : Nat) : (Builtin.zeroCells #[ii 0,ii 0,ii 0] m).toList = zcells m:=by
 have h : ∀ i,i < 3 → (#[(ii 0 : Value),ii 0,ii 0])[i]! = ii 0:=by
  intro i hi
  match i,hi with
 |0,_ => rfl
 |1,_ => rfl
 |2,_ => rfl
 have h2 : ∀ m i,i < m * 3 → (zcells m)[i]? = some (ii 0):=by
  intro m
  induction m with
 |zero => intro i hi;omega
 |succ m ih =>
   intro i hi
   match i with
  |0 => rfl
  |1 => rfl
  |2 => rfl
  |i + 3 => exact ih i (by omega)
 apply List.ext_getElem?
 intro i
 by_cases hi : i < m * 3
 ·rw [h2 m i hi]
  unfold Builtin.zeroCells
  rw [Array.toList_map,List.getElem?_map,Array.toList_range,List.getElem?_range (by simpa using hi)]
  simp only [Option.map_some]
  congr 1
  exact h _ (Nat.mod_lt _ (by decide))
 ·have h3 : (zcells m)[i]? = none:=List.getElem?_eq_none (by rw [zcells_length];omega)
  rw [h3]
  refine List.getElem?_eq_none ?_
  unfold Builtin.zeroCells
  simp
  omega
theorem zero89 (w : World) : (zeroValue 89).run Tryz.prog w = .ok (.agg #[ii 0,ii 0,ii 0]) w:=by kernel_rfl
set_option maxRecDepth 100000 in
theorem clear89 {w : World} {g i n cap N : Nat} {ok : Nat → Prop} {ls : List S89} (h : k89.R 89 w N ok (.slice (some ⟨g,0,none⟩) n cap) ls) (hi : i < n) (c : Nat) (ty : TypeId) :
  (Builtin.clear_ #[55] ty #[.slice (some ⟨g,i * 3,none⟩) (n - i) c]).run Tryz.prog w = .ok (.tuple #[]) (w.setCells g (i * 3) (zcells (n - i))):=by
 have hn:=(Kd.R_reads' h).1
 obtain ⟨_,inner,hown,hr⟩:=h
 rcases hown.2 with ⟨hv,_⟩|⟨g',cap',cur,hv,hb,hh,hnc,hcm,hcs,_⟩
 ·cases hv
 injection hv with ha _ hc
 injection ha with ha
 injection ha with hg'
 subst hg'
 subst hc
 have hcs' : cur.size = cap * 3:=hcs
 obtain ⟨m,hm⟩ : ∃ m,n - i = m + 1:=⟨n - i - 1,by omega⟩
 have hle : i * 3 + (n - i) * 3 ≤ cur.size:=by rw [hcs',← Nat.add_mul];exact Nat.mul_le_mul_right _ (by omega)
 have hst:=run_storeCells_cells (P:=Tryz.prog) g (i * 3) (zcells (n - i)) 0 w (fun j hj => by rw [zcells_length] at hj;rw [cell_of_row w g _ cur 89 (0,0) hh];simp;omega) (fun j _ => blk_frozen hh _) (fun v hv => by
  have : ∀ m,∀ v ∈ zcells m,v = ii 0:=by
   intro m
   induction m with
  |zero => intro v hv;simp [zcells] at hv
  |succ m ih =>
    intro v hv
    simp only [zcells,List.mem_cons] at hv
    rcases hv with e|e|e|e
    ·exact e
    ·exact e
    ·exact e
    ·exact ih v e
  rw [this _ v hv]
  rfl)
 simp only [Nat.add_zero] at hst
 rw [← zcells_eq,hm] at hst
 have hu:=Tryz.underlying55
 simp [Builtin.clear_,run_underlying hu,hm,zero89,Result.andThen,Value.cells,hst]
 rw [← zcells_eq]
theorem R_zero {N g cap n : Nat} {ok : Nat → Prop} : ∀ (m i : Nat) (w : World) (ls : List S89),k89.R 89 w N ok (.slice (some ⟨g,0,none⟩) n cap) ls → i + m ≤ n →
  ∃ ls',k89.R 89 (w.setCells g (i * 3) (zcells m)) N ok (.slice (some ⟨g,0,none⟩) n cap) ls' ∧ ls'.take i = ls.take i ∧ w.grownBy (w.setCells g (i * 3) (zcells m)) (some g)
|0,i,w,ls,h,_ => ⟨ls,h,rfl,⟨rfl,rfl,rfl,Nat.le_refl _,fun _ _ _ => rfl⟩⟩
|m + 1,i,w,ls,h,hi => by
  have hn:=(Kd.R_reads' h).1
  obtain ⟨c,hcl,hM,hcc,hfr⟩:=Kd.R_elem h z89 (i : Int) (by omega) (by omega)
  rw [Int.toNat_natCast] at hcc
  have hseg:=Kd.R_seg h (i : Int) (by omega) (by omega) (c:=c) (seg:=[ii 0,ii 0,ii 0]) (j:=0) hcl (by rw [Int.toNat_natCast];exact hcc) (by decide) (x':=z89) (okp:=fun _ => False) (by
   rw [List.take_zero,List.nil_append,List.drop_eq_nil_of_le (by rw [hcl];decide),List.append_nil]
   exact k89_mkM w N _ z89) (fun k hk => hk.elim)
  rw [Int.toNat_natCast] at hseg
  have e1 : i * k89.sz + 0 = i * 3:=rfl
  rw [e1] at hseg
  obtain ⟨ls',h1,h2,h3⟩:=R_zero m (i + 1) (w.setCells g (i * 3) [ii 0,ii 0,ii 0]) (ls.set i z89) hseg.1 (by omega)
  have e2 : (i + 1) * 3 = i * 3 + 3:=by omega
  rw [e2] at h1 h3
  refine ⟨ls',h1,?_,hseg.2.trans h3⟩
  have h4:=congrArg (List.take i) h2
  rw [List.take_take,List.take_take,Nat.min_eq_left (by omega)] at h4
  rw [h4,List.take_set_of_le (by omega)]
theorem drop_rd89_ {l : List S89} {j : Nat} (h : j < l.length) : l.drop j = rd_T89 l (j : Int) :: l.drop (j + 1):=by
 rw [List.drop_eq_getElem_cons h];unfold rd_T89;rw [Int.toNat_natCast,List.getD_eq_getElem?_getD,List.getElem?_eq_getElem h];rfl
theorem rd_of_drop {l ls : List S89} {j : Nat} (h : ls.drop j = l.drop j) (hj : j < l.length) (hl : ls.length = l.length) : rd_T89 ls (j : Int) = rd_T89 l (j : Int):=by
 rw [drop_rd89_ hj,drop_rd89_ (by omega)] at h
 injection h
theorem filter_take_snoc {l : List S89} {j : Nat} (p : S89 → Bool) (h : j < l.length) : (l.take (j + 1)).filter p = (l.take j).filter p ++ (if p (rd_T89 l (j : Int)) = true then [rd_T89 l (j : Int)] else []):=by
 rw [List.take_succ_eq_append_getElem h,List.filter_append]
 unfold rd_T89
 rw [Int.toNat_natCast,List.getD_eq_getElem?_getD,List.getElem?_eq_getElem h]
 simp only [Option.getD_some,List.filter_cons,List.filter_nil]
theorem store89_info : (Tryz.prog.info? 89).map (·.size) = some 3:=by kernel_rfl
theorem store89_at {ops : Array Oper} {rest : List Oper} {o : Oper} {a : Act} {Q : Exit → Act → World → Prop} {W : World} {N g n cap i : Nat} {ad : Addr} {ls : List S89} {x : S89} {ok : Nat → Prop} (p q : Operand) (ho : o.op = .store 89 p q) (hN : o.dst = none) (hgd : o.guard = none)
  (haddr : a.eval p = .pointer (some (ad.add (i * 3)))) (hx : a.eval q = .agg #[ii x.f0,ii x.f1.f0,ii x.f1.f1]) (had : ad = ⟨g,0,none⟩) (HO : k89.R 89 W N ok (.slice (some ⟨g,0,none⟩) n cap) ls) (hi : i < n)
  (h : ∀ w1,k89.R 89 w1 N ok (.slice (some ⟨g,0,none⟩) n cap) (ls.set i x) → Below N W w1 → wpList Tryz.prog ops Q rest a w1) : wpList Tryz.prog ops Q (o :: rest) a W:=by
 subst had
 rw [add_plain] at haddr
 obtain ⟨cc,hcl,hM,hcc,hfr⟩:=Kd.R_elem HO z89 (i : Int) (by omega) (by omega)
 refine Kd.R_store k89 (w0:=W) N hN hgd 89 p q ho 89 (g:=g) (n:=n) (cap:=cap) (o':=i * 3) (i : Int) 0 ls x _ [ii x.f0,ii x.f1.f0,ii x.f1.f1] cc ok (fun _ => False) haddr (by rw [Int.toNat_natCast];rfl) hx rfl store89_info (by intro q hq;simp only [List.mem_cons,List.not_mem_nil,or_false] at hq;rcases hq with rfl|rfl|rfl <;> rfl) HO (by omega) (by omega) hcl hcc (Nat.le_refl 3) (by rw [List.take_zero,List.nil_append,List.drop_eq_nil_of_le (by rw [hcl];exact Nat.le_refl 3),List.append_nil];exact k89_mkM W N _ x) (fun k hk => hk.elim) (Below.refl _ _) fun w1 hr hb _ => ?_
 rw [Int.toNat_natCast] at hr
 exact h w1 hr hb
def DelPost (W : World) (N : Nat) (l : List S89) (e : Ending) (W' : World) : Prop:=Below N W W' ∧ ∃ (A : Option Addr) (c : Nat),e = .returned (.slice A l.length c) ∧ l.length ≤ c ∧ Kd.C k89 W' A l.length l
set_option maxRecDepth 100000 in
set_option maxHeartbeats 2000000 in
theorem del107_calls (v : Value) (l : List S89) (p : S89 → Bool) (K : Nat) (caps : Array Value) (Inv : World → Prop) (W : World) (N : Nat) (ok : Nat → Prop) (hR : k89.R 89 W N ok v l) (hN : N ≤ W.heap.size)
  (ek : ∀ args w,(callFunc K args).run Tryz.prog w = .ok (.enter K args) w) (hi0 : Inv W) (hi1 : ∀ w w',Inv w → Below N w w' → Inv w')
  (hcl : ∀ (x : S89) (w : World),x ∈ l → Inv w → Calls Tryz.prog K (#[.agg #[ii x.f0,ii x.f1.f0,ii x.f1.f1]] ++ caps) w fun e w' => e = .returned (.bool (p x)) ∧ Below w.heap.size w w') :
  Calls Tryz.prog 107 #[v,.func (.func K) #[] caps] W fun e W' => DelPost W N (l.filter (fun x => !p x)) e W':=by
 obtain ⟨A,c,rfl⟩:=Kd.R_slice hR
 obtain ⟨_,hlc,hC⟩:=Kd.R_reads' hR
 have hm:=hC.2.1
 have hu:=Tryz.underlying89
 have hv:=Tryz.underlying43
 have hu55:=Tryz.underlying55
 have HCL:=am hcl
 have HJ:=am hi1
 have HI:=am hi0
 have HR:=am hR
 have HN:=am hN
 have HIX:=am (idx167_calls A c l p K caps (fun w => Inv w ∧ N ≤ w.heap.size) W hC hlc ek ⟨hi0,hN⟩ (fun w w' h hb => ⟨HJ.out _ _ h.1 (hb.mono h.2),Nat.le_trans h.2 hb.size⟩) (fun x w hx h => HCL.out x w hx h.1))
 have HLC:=am hlc
 clear hcl hi1 hi0 hR hN hlc hC
 go_enter Tryz.func107,Tryz.ntmps107
 go_wp2_with fail
 refine HIX.out.mono ?_
 rintro e w1 ⟨rfl,hb⟩
 have HB1:=am (hb.mono HN.out)
 have HR1:=am (Kd.R_below HR.out hb)
 have HI1:=am (HJ.out _ _ HI.out HB1.out)
 clear hb
 cases ha : l.any p with
|false =>
  have HA:=am ha
  clear ha
  rw [show idxP p l = -1 by unfold idxP;rw [if_neg (by rw [HA.out];simp)]]
  go_wp2
  go_ret
  have hfl : l.filter (fun x => !p x) = l:=by
   rw [List.filter_eq_self]
   intro x hx
   have:=HA.out
   rw [List.any_eq_false] at this
   simpa using this x hx
  rw [hfl]
  exact ⟨HB1.out,A,c,rfl,HLC.out,(Kd.R_reads' HR1.out).2.2⟩
|true =>
  have h2' : l.findIdx p < l.length:=List.findIdx_lt_length_of_exists (List.any_eq_true.1 ha)
  have hpi' : p l[l.findIdx p] = true:=List.findIdx_getElem (w:=h2')
  have hix : idxP p l = (l.findIdx p : Int):=by unfold idxP;rw [if_pos ha]
  obtain ⟨i0,hi0⟩ : ∃ i0 : Nat,i0 = l.findIdx p:=⟨_,rfl⟩
  rw [hix]
  have h2 : i0 < l.length:=by rw [hi0];exact h2'
  have hpi : p l[i0] = true:=by simp only [hi0];exact hpi'
  rw [← hi0]
  clear h2' hpi'
  have HF0:=am (show l.take i0 = (l.take (i0 + 1)).filter (fun x => !p x) by
   rw [filter_take_snoc (fun x => !p x) h2,List.filter_eq_self.2 (fun x hx => by
    have hlt : ∀ x ∈ l.take (l.findIdx p),p x = false:=fun x hx => by
     obtain ⟨k,hk,rfl⟩:=List.getElem_of_mem hx
     rw [List.length_take] at hk
     rw [List.getElem_take]
     have:=List.not_of_lt_findIdx (p:=p) (xs:=l) (i:=k) (by omega)
     simpa using this
    rw [hi0] at hx
    rw [hlt x hx];rfl)]
   have hrd : rd_T89 l (i0 : Int) = l[i0]:=by unfold rd_T89;rw [Int.toNat_natCast,List.getD_eq_getElem?_getD,List.getElem?_eq_getElem h2];rfl
   rw [hrd,hpi]
   simp)
  obtain ⟨g,hg⟩ : ∃ g,A = some ⟨g,0,none⟩:=by
   obtain ⟨_,inner,hown,hr⟩:=HR.out
   rcases hown.2 with ⟨hv,hnil⟩|⟨g',cap',cur,hv,_⟩
   ·injection hv with _ hl0 _
    omega
   ·injection hv with ha _ _
    exact ⟨g',ha⟩
  obtain ⟨ad,had⟩ : ∃ ad : Addr,ad = ⟨g,0,none⟩:=⟨_,rfl⟩
  rw [← had] at hg
  subst hg
  have HAD:=am had
  clear had hpi hi0 hix ha HIX
  have hne : ((i0 : Int) == -1) = false:=by simp
  go_wp2
  clear hne
  go_loopw [5,6] (fun v5 v6 wr => ∃ (i j : Nat) (ls : List S89),i < j ∧ j ≤ l.length ∧ v5 = ii (i : Int) ∧ v6 = ii (j : Int) ∧ Aside0 (Below N W wr) ∧ Aside0 (k89.R 89 wr N ok (.slice (some ad) l.length c) ls) ∧ Aside0 (ls.length = l.length) ∧ Aside0 (ls.take i = (l.take j).filter (fun x => !p x)) ∧ Aside0 (ls.drop j = l.drop j) ∧ Aside0 (Inv wr)) (fun _ v6 _ => l.length - (intOf v6).toNat)
  case atStart => exact ⟨i0,i0 + 1,l,by omega,by omega,rfl,by go_num,HB1,HR1,⟨rfl⟩,HF0,⟨rfl⟩,HI1⟩
  case round =>
   obtain ⟨i,j,ls,hij,hj,rfl,rfl,HBr,HRr,HLr,HFr,HDr,HIr⟩:=hrel
   by_cases hlt : j < l.length
   ·have hCr:=(Kd.R_reads' HRr.out).2.2
    have hll:=HLr.out
    obtain ⟨ae,e,hx0,hx1,hx2⟩:=at_T89 hCr (j : Int) (by omega) (by omega)
    cases e
    rw [Int.toNat_natCast] at hx0 hx1 hx2
    obtain ⟨ae,e,hy0,hy1,hy2⟩:=at_T89 hCr (i : Int) (by omega) (by omega)
    cases e
    rw [Int.toNat_natCast] at hy0 hy1 hy2
    have HS:=am (filter_take_snoc (fun x => !p x) hlt)
    have hmem : rd_T89 l (j : Int) ∈ l:=getD_mem_ hlt
    rw [rd_of_drop HDr.out hlt HLr.out] at hx0 hx1 hx2
    obtain ⟨x,hx⟩ : ∃ x,x = rd_T89 l (j : Int):=⟨_,rfl⟩
    rw [← hx] at hx0 hx1 hx2 hmem HS
    have HX:=am hx
    clear hCr hx hy0 hy1 hy2 hll
    have HBX:=am ((below_alloc (Below.refl wr.heap.size wr) (.cells #[ii x.f0,ii x.f1.f0,ii x.f1.f1] 89)).mono (Nat.le_trans HN.out HBr.out.size))
    have HCX:=am (HCL.out x _ hmem (HJ.out _ _ HIr.out HBX.out))
    have HXK:=am (blk_new wr (.cells #[ii x.f0,ii x.f1.f0,ii x.f1.f1] 89))
    have HR2:=am (Kd.R_alloc HRr.out (.cells #[ii x.f0,ii x.f1.f0,ii x.f1.f1] 89))
    have HB2:=am (HBr.out.trans HBX.out)
    have HNw:=am (Nat.le_trans HN.out HB2.out.size)
    clear hmem
    cases hp : p x with
   |true =>
     have HP:=am hp
     rw [hp] at HCX HS
     clear hp
     go_wp2_with fail
     refine HCX.out.mono ?_
     rintro e w5 ⟨rfl,hb⟩
     have HR3:=am (Kd.R_below HR2.out hb)
     have HB3:=am (below_then HB2.out HNw.out hb)
     have HI3:=am (HJ.out _ _ HIr.out (below_then HBX.out (Nat.le_trans HN.out HB2.out.size) hb))
     clear hb hx0 hx1 hx2
     go_wp2
     go_roundw
     case rel =>
      refine ⟨i,j + 1,ls,by omega,by omega,rfl,by go_num,HB3,HR3,HLr,⟨?_⟩,⟨?_⟩,HI3⟩
      ·rw [HS.out,HFr.out];simp
      ·have h:=HDr.out
       have h2:=congrArg (List.drop 1) h
       simpa using h2
     case measure => simp [intOf];omega
   |false =>
     have HP:=am hp
     rw [hp] at HCX HS
     clear hp
     go_wp2_with fail
     refine HCX.out.mono ?_
     rintro e w5 ⟨rfl,hb⟩
     have HX5:=am (blk_below HXK.out hb)
     have HR3:=am (Kd.R_below HR2.out hb)
     have HB3:=am (below_then HB2.out HNw.out hb)
     have HI3:=am (HJ.out _ _ HIr.out (below_then HBX.out (Nat.le_trans HN.out HB2.out.size) hb))
     clear hb hx0 hx1 hx2
     have hR3:=HR3.out
     rw [HAD.out] at hR3
     have HR4:=am hR3
     have k0:=bd HX5.out 0
     have k1:=bd HX5.out 1
     have k2:=bd HX5.out 2
     clear hR3
     go_wp2_with (with_reducible refine gate_store (t:=89) (p:=33) rfl ?_;refine store89_at (ad:=ad) (g:=g) (x:=x) (i:=i) (.tmp 33) (.tmp 32) rfl rfl rfl rfl rfl HAD.out HR4.out (by omega) ?_;intro w6 hr6 hb6;have HR6:=am hr6;have HB6:=am hb6;clear hr6 hb6 k0 k1 k2)
     go_roundw
     case rel =>
      refine ⟨i + 1,j + 1,ls.set i x,by omega,by omega,by go_num,by go_num,⟨HB3.out.trans HB6.out⟩,⟨by rw [HAD.out];exact HR6.out⟩,⟨by rw [List.length_set];exact HLr.out⟩,⟨?_⟩,⟨?_⟩,⟨HJ.out _ _ HI3.out HB6.out⟩⟩
      ·rw [HS.out,← HFr.out,List.take_succ_eq_append_getElem (by rw [List.length_set,HLr.out];omega),List.take_set_of_le (by omega)]
       simp
      ·rw [List.drop_set_of_lt (by omega)]
       have h2:=congrArg (List.drop 1) HDr.out
       simpa using h2
     case measure => simp [intOf];omega
   ·have hje : j = l.length:=by omega
    subst hje
    have hR3:=HRr.out
    rw [HAD.out] at hR3
    have hcl : ∀ ty,(Builtin.clear_ #[55] ty #[.slice (some (ad.add (i * 3))) (l.length - i) (c - i)]).run Tryz.prog wr = .ok (.tuple #[]) (wr.setCells g (i * 3) (zcells (l.length - i))):=fun ty => by
     rw [HAD.out,add_plain]
     exact clear89 hR3 (by omega) _ ty
    obtain ⟨ls',hz1,hz2,hz3⟩:=R_zero (l.length - i) i wr ls hR3 (by omega)
    have HZ1:=am hz1
    have HZ2:=am hz2
    have HZ3:=am hz3
    have HGN:=am (Kd.R_base hR3 g rfl)
    clear hR3 hz1 hz2 hz3
    have hlc:=HLC.out
    go_wp2
    go_ret
    obtain ⟨hn1,_,hC9⟩:=Kd.R_reads' HZ1.out
    have hln : ls'.length = l.length:=hn1.symm
    have hfl : l.filter (fun x => !p x) = ls'.take i:=by rw [HZ2.out,HFr.out,List.take_length]
    have hli : (ls'.take i).length = i:=by rw [List.length_take];omega
    have hC8 : Kd.C k89 (wr.setCells g (i * 3) (zcells (l.length - i))) (some ⟨g,0,none⟩) ls'.length ls':=hC9
    have hC10:=Kd.C_take hC8 (m:=i) (by omega)
    rw [hfl]
    refine ⟨HBr.out.trans ⟨HZ3.out.os,HZ3.out.tape,HZ3.out.output,HZ3.out.size,fun k hk => ?_⟩,some ⟨g,0,none⟩,c,by rw [hli,HAD.out];rfl,by rw [hli];omega,hC10⟩
    have hgn:=HGN.out
    exact setCells_far _ _ k (by omega)
end Go.Proofs.YtjjfpmapjjemcaaGreat.B
end
