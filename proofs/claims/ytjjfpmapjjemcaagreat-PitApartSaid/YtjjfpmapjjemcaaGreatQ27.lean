import Derived.Outline
import Derived.Test.YtjjfpmapjjemcaaGreatQ24
import Derived.Test.YtjjfpmapjjemcaaGreatQ7
set_option linter.unusedVariables false
set_option linter.unusedSimpArgs false
section
namespace Go.Proofs.YtjjfpmapjjemcaaGreat.B
open Go.RowKit Go.Proofs.YtjjfpmapjjemcaaGreatW.PrintWords Go.Proofs.YtjjfpmapjjemcaaGreatW.PrintLast Go.Proofs.YtjjfpmapjjemcaaGreatW.PrintMore
attribute [local go_sem] max2_int min2_int max_two min_two max_three min_three max_four min_four
set_option maxRecDepth 100000 in
set_option maxHeartbeats 1000000 in
theorem idx247_calls (A : Option Addr) (c : Nat) (l : List S137) (p : S137 → Bool) (K : Nat) (caps : Array Value) (Inv : World → Prop) (W : World) (hr : Kd.C k137 W A l.length l) (hc : l.length ≤ c)
  (ek : ∀ args w,(callFunc K args).run Tryz.prog w = .ok (.enter K args) w) (hi0 : Inv W) (hi1 : ∀ w w',Inv w → Below w.heap.size w w' → Inv w')
  (hcl : ∀ (x : S137) (w : World),x ∈ l → Inv w → Calls Tryz.prog K (#[.agg #[ii x.f0,ii x.f1.f0,ii x.f1.f1]] ++ caps) w fun e w' => e = .returned (.bool (p x)) ∧ Below w.heap.size w w') :
  Calls Tryz.prog 247 #[.slice A l.length c,.func (.func K) #[] caps] W fun e W' => e = .returned (ii (idxP p l)) ∧ Below W.heap.size W W':=by
 have HR:=am hr
 have hm:=hr.2.1
 have HI:=am hi0
 have HJ:=am hi1
 have HCL:=am hcl
 clear hr hc hi0 hi1 hcl
 have hu:=Tryz.underlying137
 have hv:=Tryz.underlying66
 go_enter Tryz.func247,Tryz.ntmps247
 go_wp2
 go_loopw [8] (fun v8 wr => ∃ j : Nat,j ≤ l.length ∧ v8 = ii (j : Int) ∧ Aside0 (∀ i (hi : i < l.length),i < j → p l[i] = false) ∧ Aside0 (Below W.heap.size W wr)) (fun v8 _ => l.length - (intOf v8).toNat)
 case atStart => exact ⟨0,Nat.zero_le _,rfl,⟨fun i _ hi => absurd hi (Nat.not_lt_zero _)⟩,⟨Below.refl _ _⟩⟩
 case round =>
  obtain ⟨j,hj,rfl,HP,HBw⟩:=hrel
  by_cases hlt : j < l.length
  ·obtain ⟨ad,e,hx0,hx1,hx2⟩:=at_T137 (Kd.C_below HR.out HBw.out) (j : Int) (by omega) (by omega)
   cases e
   rw [Int.toNat_natCast] at hx0 hx1 hx2
   have hx : rd_T137 l (j : Int) = l[j]:=by unfold rd_T137;rw [Int.toNat_natCast,List.getD_eq_getElem?_getD,List.getElem?_eq_getElem hlt];rfl
   have HC:=am (HCL.out (rd_T137 l (j : Int)) wr (by rw [hx];exact List.getElem_mem hlt) (HJ.out _ _ HI.out HBw.out))
   have HX:=am hx
   clear hx
   cases hp : p (rd_T137 l (j : Int)) with
  |true =>
    have HPx:=am hp
    rw [hp] at HC
    clear hp
    go_wp2_with fail
    refine HC.out.mono ?_
    rintro e w' ⟨rfl,hd⟩
    have HD:=am hd
    clear hd
    go_wp2
    go_ret
    exact ⟨by rw [idxP_found hlt (by rw [← HX.out];exact HPx.out) HP.out];rfl,below_then HBw.out (below_size HBw.out) HD.out⟩
  |false =>
    have HPx:=am hp
    rw [hp] at HC
    clear hp
    go_wp2_with fail
    refine HC.out.mono ?_
    rintro e w' ⟨rfl,hd⟩
    have HD:=am hd
    clear hd
    go_wp2
    go_roundw
    case rel =>
     refine ⟨j + 1,by omega,by go_num,⟨fun i hi hij => ?_⟩,⟨below_then HBw.out (below_size HBw.out) HD.out⟩⟩
     by_cases e : i = j
     ·subst e;rw [← HX.out];exact HPx.out
     ·exact HP.out i hi (by omega)
    case measure => simp [intOf];omega
  ·go_wp2
   go_ret
   exact ⟨by rw [idxP_none (fun i hi => HP.out i hi (by omega))];rfl,HBw.out⟩
set_option maxRecDepth 100000 in
theorem has229_calls (A : Option Addr) (c : Nat) (l : List S137) (p : S137 → Bool) (K : Nat) (caps : Array Value) (Inv : World → Prop) (W : World) (hr : Kd.C k137 W A l.length l) (hc : l.length ≤ c)
  (ek : ∀ args w,(callFunc K args).run Tryz.prog w = .ok (.enter K args) w) (hi0 : Inv W) (hi1 : ∀ w w',Inv w → Below w.heap.size w w' → Inv w')
  (hcl : ∀ (x : S137) (w : World),x ∈ l → Inv w → Calls Tryz.prog K (#[.agg #[ii x.f0,ii x.f1.f0,ii x.f1.f1]] ++ caps) w fun e w' => e = .returned (.bool (p x)) ∧ Below w.heap.size w w') :
  Calls Tryz.prog 229 #[.slice A l.length c,.func (.func K) #[] caps] W fun e W' => e = .returned (.bool (l.any p)) ∧ Below W.heap.size W W':=by
 have HC:=am (idx247_calls A c l p K caps Inv W hr hc ek hi0 hi1 hcl)
 clear hr hc hi0 hi1 hcl
 go_enter Tryz.func229,Tryz.ntmps229
 go_wp2_with fail
 refine HC.out.mono ?_
 rintro e w' ⟨rfl,hd⟩
 have HD:=am hd
 clear hd
 go_wp2
 go_ret
 exact ⟨by rw [← idxP_nn];rfl,HD.out⟩
end Go.Proofs.YtjjfpmapjjemcaaGreat.B
end
