import Derived.Outline
import Derived.WalkSpells
import Derived.Test.YtjjfpmapjjemcaaGreatQ24
import Derived.Test.YtjjfpmapjjemcaaGreatQ7
set_option linter.unusedVariables false
set_option linter.unusedSimpArgs false
section
namespace Go.Proofs.YtjjfpmapjjemcaaGreat.B
open Go.RowKit Go.Proofs.YtjjfpmapjjemcaaGreatW.PrintWords Go.Proofs.YtjjfpmapjjemcaaGreatW.PrintLast Go.Proofs.YtjjfpmapjjemcaaGreatW.PrintMore
attribute [local go_sem] max2_int min2_int max_two min_two max_three min_three max_four min_four
set_option maxRecDepth 100000 in
set_option maxHeartbeats 1000000 in
theorem idx209_calls (A : Option Addr) (c : Nat) (l : List S113) (p : S113 → Bool) (K : Nat) (caps : Array Value) (Inv : World → Prop) (W : World) (hr : Kd.C k113 W A l.length l) (hc : l.length ≤ c)
  (ek : ∀ args w,(callFunc K args).run Tryz.prog w = .ok (.enter K args) w) (hi0 : Inv W) (hi1 : ∀ w w',Inv w → Below w.heap.size w w' → Inv w')
  (hcl : ∀ (x : S113) (w : World),x ∈ l → Inv w → Calls Tryz.prog K (#[.agg #[ii x.f0,ii x.f1.f0,ii x.f1.f1]] ++ caps) w fun e w' => e = .returned (.bool (p x)) ∧ Below w.heap.size w w') :
  Calls Tryz.prog 209 #[.slice A l.length c,.func (.func K) #[] caps] W fun e W' => e = .returned (ii (idxP p l)) ∧ Below W.heap.size W W':=by
 have HR:=am hr
 have hm:=hr.2.1
 have HI:=am hi0
 have HJ:=am hi1
 have HCL:=am hcl
 clear hr hc hi0 hi1 hcl
 have hu:=Tryz.underlying113
 have hv:=Tryz.underlying66
 go_enter Tryz.func209,Tryz.ntmps209
 go_wp2
 go_loopw [8] (fun v8 wr => ∃ j : Nat,j ≤ l.length ∧ v8 = ii (j : Int) ∧ Aside0 (∀ i (hi : i < l.length),i < j → p l[i] = false) ∧ Aside0 (Below W.heap.size W wr)) (fun v8 _ => l.length - (intOf v8).toNat)
 case atStart => exact ⟨0,Nat.zero_le _,rfl,⟨fun i _ hi => absurd hi (Nat.not_lt_zero _)⟩,⟨Below.refl _ _⟩⟩
 case round =>
  obtain ⟨j,hj,rfl,HP,HBw⟩:=hrel
  by_cases hlt : j < l.length
  ·obtain ⟨ad,e,hx0,hx1,hx2⟩:=at_T113 (Kd.C_below HR.out HBw.out) (j : Int) (by omega) (by omega)
   cases e
   rw [Int.toNat_natCast] at hx0 hx1 hx2
   have hx : rd_T113 l (j : Int) = l[j]:=by unfold rd_T113;rw [Int.toNat_natCast,List.getD_eq_getElem?_getD,List.getElem?_eq_getElem hlt];rfl
   have HC:=am (HCL.out (rd_T113 l (j : Int)) wr (by rw [hx];exact List.getElem_mem hlt) (HJ.out _ _ HI.out HBw.out))
   have HX:=am hx
   clear hx
   cases hp : p (rd_T113 l (j : Int)) with
  |true =>
    have HPx:=am hp
    rw [hp] at HC
    clear hp
    go_wp2_with fail
    refine HC.out.mono ?_
    rintro e w' ⟨rfl,hd⟩
    have HD:=am hd
    clear hd
    go_wp2
    go_ret
    exact ⟨by rw [idxP_found hlt (by rw [← HX.out];exact HPx.out) HP.out];rfl,below_then HBw.out (below_size HBw.out) HD.out⟩
  |false =>
    have HPx:=am hp
    rw [hp] at HC
    clear hp
    go_wp2_with fail
    refine HC.out.mono ?_
    rintro e w' ⟨rfl,hd⟩
    have HD:=am hd
    clear hd
    go_wp2
    go_roundw
    case rel =>
     refine ⟨j + 1,by omega,by go_num,⟨fun i hi hij => ?_⟩,⟨below_then HBw.out (below_size HBw.out) HD.out⟩⟩
     by_cases e : i = j
     ·subst e;rw [← HX.out];exact HPx.out
     ·exact HP.out i hi (by omega)
    case measure => simp [intOf];omega
  ·go_wp2
   go_ret
   exact ⟨by rw [idxP_none (fun i hi => HP.out i hi (by omega))];rfl,HBw.out⟩
set_option maxRecDepth 100000 in
theorem has154_calls (A : Option Addr) (c : Nat) (l : List S113) (p : S113 → Bool) (K : Nat) (caps : Array Value) (Inv : World → Prop) (W : World) (hr : Kd.C k113 W A l.length l) (hc : l.length ≤ c)
  (ek : ∀ args w,(callFunc K args).run Tryz.prog w = .ok (.enter K args) w) (hi0 : Inv W) (hi1 : ∀ w w',Inv w → Below w.heap.size w w' → Inv w')
  (hcl : ∀ (x : S113) (w : World),x ∈ l → Inv w → Calls Tryz.prog K (#[.agg #[ii x.f0,ii x.f1.f0,ii x.f1.f1]] ++ caps) w fun e w' => e = .returned (.bool (p x)) ∧ Below w.heap.size w w') :
  Calls Tryz.prog 154 #[.slice A l.length c,.func (.func K) #[] caps] W fun e W' => e = .returned (.bool (l.any p)) ∧ Below W.heap.size W W':=by
 have HC:=am (idx209_calls A c l p K caps Inv W hr hc ek hi0 hi1 hcl)
 clear hr hc hi0 hi1 hcl
 go_enter Tryz.func154,Tryz.ntmps154
 go_wp2_with fail
 refine HC.out.mono ?_
 rintro e w' ⟨rfl,hd⟩
 have HD:=am hd
 clear hd
 go_wp2
 go_ret
 exact ⟨by rw [← idxP_nn];rfl,HD.out⟩
theorem info3_ : (Tryz.prog.info? 3).map (fun i => (i.zero,i.size,i.bytes)) = some (some (ii 0),(Kd.int .i64).sz,8):=by kernel_rfl
set_option maxRecDepth 100000 in
set_option maxHeartbeats 1000000 in
theorem clone78_calls (A : Option Addr) (c : Nat) (l : List Int) (W : World) (ok : Nat → Prop) (hF : Kd.F (Kd.int .i64) W ok A l.length l) (hc : l.length ≤ c) (hm : l.length ≤ 100000000) :
  Calls Tryz.prog 78 #[.slice A l.length c] W fun e W' => ∃ v,e = .returned v ∧ Below W.heap.size W W' ∧ (ft (Kd.int .i64) W ok).R 3 W' W.heap.size (fun _ => True) v l:=by
 have q : ∀ (w : World) (a : Option Addr) (n c n' c' : Nat),(binOp .eql 27 (.slice a n c) (.slice none n' c')).run Tryz.prog w = .ok (.bool a.isNone) w:=fun w a n c n' c' => Lib.run_eql_slice_nil w _ _ a n c n' c' Tryz.underlying27
 have HF:=am hF
 have HC:=(Kd.F_now hF).2.2
 clear hF
 rcases A with _|ad
 ·have hl : l = []:=by
   rcases Nat.eq_zero_or_pos l.length with h|h
   ·exact List.eq_nil_of_length_eq_zero h
   ·obtain ⟨ad,h,_⟩:=HC h;cases h
  subst hl
  clear HC
  go_enter Tryz.func78,Tryz.ntmps78
  go_wp2
  go_ret
  exact ⟨_,rfl,Below.refl _ _,Kd.R_nil _ _ _ _ _⟩
 ·clear HC
  have HO:=am (show (ft (Kd.int .i64) W ok).R 3 (W.alloc (.cells #[] 3)) W.heap.size (fun _ => True) (.slice (some ⟨W.heap.size,0,none⟩) 0 0) [] from ⟨fun _ _ => trivial,OwnRow.lit (ps:=[]) W W.heap.size (inner:=[]) (Reps.none _ _) (Nat.le_refl _) (by simp)⟩)
  have HB:=am (below_alloc (Below.refl W.heap.size W) (.cells #[] 3))
  have HX:=am (ReadsRow.imp_ (Kd.F_rows HF.out) (below_alloc (Below.refl _ _) (.cells #[] 3)) (fun _ _ h => h))
  go_enter Tryz.func78,Tryz.ntmps78
  go_wp2_with (at_builtin;go_loud (refine Kd.R_append_rows (ft (Kd.int .i64) W ok) (Rr:=fun x c => Kd.FK (Kd.int .i64) W ok x c) (w0:=W) (W:=W.alloc (.cells #[] 3)) W.heap.size rfl _ _ 27 3 (ii 0) 8 rfl Tryz.underlying27 info3_ rfl (by show 0 < ((Kd.int .i64) : Kd _).sz;decide) (by decide) (.slice (some ⟨W.heap.size,0,none⟩) 0 0) [] l (some ad) l.length c (fun _ => True) (fun _ => False) rfl rfl HO.out HX.out (fun _ _ h => h) (fun _ h => h.elim) (fun _ _ => trivial) HB.out (below_size HB.out) (by simp;omega) ?_;intro v1 w1 hs1 hb1 hg1 hat1;have HS1:=am hs1;have HB1:=am hb1;clear hs1 hb1 hg1 hat1))
  go_ret
  exact ⟨_,rfl,HB1.out,HS1.out⟩
end Go.Proofs.YtjjfpmapjjemcaaGreat.B
end
