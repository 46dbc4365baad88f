import Derived.Lib.SliceRun
import Derived.Maps.Views
import Derived.Maps.RangeWalk
import Derived.WideKeyEntry
import Derived.DeepKeys4
import Derived.Test.YtmfphlfakmnbmaaQ1
import Derived.Test.YtmfphlfakmnbmaaQ2
import Derived.Test.YtmfphlfakmnbmaaQ3
set_option linter.unusedVariables false
set_option linter.unusedSimpArgs false
section
namespace Go.Proofs.Ytmfphlfakmnbmaa.B
open Go.RowKit Go.Proofs.YtmfphlfakmnbmaaW.PrintWords Go.Proofs.YtmfphlfakmnbmaaW.PrintLast Go.Proofs.YtmfphlfakmnbmaaW.PrintMore
attribute [local go_sem] max2_int min2_int max_two min_two max_three min_three max_four min_four
section
attribute [local go_sem high] eqA29
def ne29 (x y : S29) : Bool:=!(x.f0 == y.f0) || (!(x.f1 == y.f1) || (!(x.f2 == y.f2) || !(x.f3 == y.f3)))
abbrev kL (w0 : World) : Kd (List S29):=Kd.fixed (Kd.slice 29 k29) w0
theorem kL_mk {w0 : World} {x : List S29} {A : Option Addr} {c : Nat} (hl : x.length ≤ c) (hC : k29.C w0 A x.length x) (w : World) (base : Nat) (ok : Nat → Prop) : (kL w0).M w base ok x [.slice A x.length c]:=⟨A,c,rfl,hl,hC⟩
theorem kL_open {w0 w : World} {base : Nat} {ok : Nat → Prop} {x : List S29} {cs : List Value} (h : (kL w0).M w base ok x cs) : ∃ A c,cs = [.slice A x.length c] ∧ x.length ≤ c ∧ k29.C w0 A x.length x:=h
theorem R_tail {w0 W : World} {base g cap : Nat} {ok : Nat → Prop} {xs : List (List S29)} (h : (kL w0).R 32 W base ok (.slice (some ⟨g,0,none⟩) xs.length cap) xs) (vs : List Value) (o : Nat) (ho : xs.length ≤ o) (hc : o + vs.length ≤ cap) :
  (kL w0).R 32 (W.setCells g o vs) base ok (.slice (some ⟨g,0,none⟩) xs.length cap) xs ∧ W.grownBy (W.setCells g o vs) (some g):=by
 obtain ⟨hok,inner,ho1,hr⟩:=h
 obtain ⟨hl,ho2⟩:=ho1
 rcases ho2 with ⟨hv,_⟩|⟨g',cap',cur,hv,hb,hh,hnc',hcm,hcs,ht⟩
 ·cases hv
 injection hv with ha _ hc'
 injection ha with ha
 injection ha with hg
 subst hg;subst hc'
 replace hcs : cur.size = cap:=by rw [hcs];exact Nat.mul_one _
 obtain ⟨cur',h3,h4,h5⟩:=setCells_row vs o W cur hh (by omega)
 obtain ⟨s1,s2,s3,s4⟩:=setCells_same g vs o W
 have hfar : ∀ k,k ≠ g → (W.setCells g o vs).heap[k]? = W.heap[k]?:=fun k hk => setCells_far vs _ k hk
 refine ⟨⟨hok,inner,⟨hl,.inr ⟨g,cap,cur',rfl,hb,h3,hnc',hcm,by rw [h4,hcs];exact (Nat.mul_one _).symm,?_⟩⟩,hr⟩,⟨s1,s2,s3,by rw [s4];exact Nat.le_refl _,fun k _ hk => hfar k (fun he => hk (by rw [he]))⟩⟩
 rw [← ht]
 apply List.ext_getElem?
 intro q
 rw [List.getElem?_take,List.getElem?_take]
 by_cases hq : q < xs.length * (kL w0).sz
 ·rw [if_pos hq,if_pos hq,h5]
  have hq' : q < o:=by have : (kL w0).sz = 1:=rfl;rw [this] at hq;omega
  rw [List.append_assoc,List.getElem?_append_left (by rw [List.length_take,Array.length_toList];omega),List.getElem?_take,if_pos hq']
 ·rw [if_neg hq,if_neg hq]
theorem ne29_iff {x y : S29} : ne29 x y = false ↔ x = y:=by
 cases x;cases y
 simp [ne29]
theorem atE_at {x : S29} {i : Nat} {y : List S29} (h : i < y.length) : atE x i y = !ne29 (rd_T29 y (i : Int)) x:=by
 have e : y[i]? = some (rd_T29 y (i : Int)):=by unfold rd_T29;simp [List.getD_eq_getElem?_getD,List.getElem?_eq_getElem h]
 unfold atE
 rw [e]
 cases hn : ne29 (rd_T29 y (i : Int)) x with
|false => rw [ne29_iff.1 hn];simp
|true =>
  have : rd_T29 y (i : Int) ≠ x:=fun e2 => by rw [ne29_iff.2 e2] at hn;cases hn
  simp [this]
theorem atE_out {x : S29} {i : Nat} {y : List S29} (h : y.length ≤ i) : atE x i y = false:=by
 unfold atE
 rw [List.getElem?_eq_none h]
 simp
set_option maxRecDepth 100000 in
set_option maxHeartbeats 1000000 in
theorem vote90_calls (y : List S29) (A : Option Addr) (c : Nat) (i : Nat) (x : S29) (ga gm : Nat) (w : World) (hC : k29.C w A y.length y) (BA : w.heap[ga]? = some (.cells #[.int .i64 i] 3 (0,0))) (BM : w.heap[gm]? = some (.cells #[.int .i64 x.f0,.int .i64 x.f1,.int .i64 x.f2,.int .i64 x.f3] 29 (0,0))) :
  Calls Try.prog 90 #[.slice A y.length c,.pointer (some ⟨ga,0,none⟩),.pointer (some ⟨gm,0,none⟩)] w fun e w' => e = .returned (.bool (!atE x i y)) ∧ Drawn0 w w':=by
 have hu29:=Try.underlying29
 have ha : w.cell? ⟨ga,0,none⟩ = some (.int .i64 i):=(blk_cell BA 0).trans rfl
 have hm0 : w.cell? ⟨gm,0,none⟩ = some (.int .i64 x.f0):=(blk_cell BM 0).trans rfl
 have hm1 : w.cell? ⟨gm,1,none⟩ = some (.int .i64 x.f1):=(blk_cell BM 1).trans rfl
 have hm2 : w.cell? ⟨gm,2,none⟩ = some (.int .i64 x.f2):=(blk_cell BM 2).trans rfl
 have hm3 : w.cell? ⟨gm,3,none⟩ = some (.int .i64 x.f3):=(blk_cell BM 3).trans rfl
 have HC:=am hC
 clear hC BA BM
 by_cases hlt : i < y.length
 ·rw [atE_at hlt]
  obtain ⟨ad,e,hx0,hx1,hx2,hx3⟩:=at_T29 HC.out (i : Int) (by omega) (by omega)
  cases e
  rw [Int.toNat_natCast] at hx0 hx1 hx2 hx3
  have z0 : (i : Int) < (y.length : Int):=by omega
  have zz : decide ((y.length : Int) ≤ (i : Int)) = false:=by simp;omega
  have zn : decide (y.length ≤ i) = false:=by simp;omega
  cases hne : ne29 (rd_T29 y (i : Int)) x with
 |true =>
   unfold ne29 at hne
   go_enter Try.func90,Try.ntmps90
   go_wp2
   go_quiet (fail)
   go_wp2
   go_ret
   exact ⟨rfl,by first|exact Drawn0.refl _|exact ⟨⟨_,rfl⟩⟩⟩
 |false =>
   unfold ne29 at hne
   go_enter Try.func90,Try.ntmps90
   go_wp2
   go_quiet (fail)
   go_wp2
   go_ret
   exact ⟨rfl,by first|exact Drawn0.refl _|exact ⟨⟨_,rfl⟩⟩⟩
 ·rw [atE_out (by omega)]
  have zz : decide ((y.length : Int) ≤ (i : Int)) = true:=by simp;omega
  have zn : decide (y.length ≤ i) = true:=by simp;omega
  clear hlt
  go_enter Try.func90,Try.ntmps90
  go_wp2
  go_quiet (fail)
  go_wp2
  go_ret
  exact ⟨rfl,by first|exact Drawn0.refl _|exact ⟨⟨_,rfl⟩⟩⟩
def goneAt (ls : List (List S29)) (i : Nat) (x : S29) : Int:=match ls.findIdx? (fun l => !atE x i l) with|some j => (j : Int)|none => -1
theorem goneAt_hit {ls : List (List S29)} {i : Nat} {x : S29} (j : Nat) (h : j < ls.length) (hb : atE x i (ls.getD j []) = false) (hall : ∀ k,k < j → atE x i (ls.getD k []) = true) : goneAt ls i x = (j : Int):=by
 unfold goneAt
 have : ls.findIdx? (fun l => !atE x i l) = some j:=by
  rw [List.findIdx?_eq_some_iff_getElem]
  refine ⟨h,by simpa [List.getD_eq_getElem?_getD,List.getElem?_eq_getElem h] using hb,fun k hk => ?_⟩
  have:=hall k hk
  simpa [List.getD_eq_getElem?_getD,List.getElem?_eq_getElem (Nat.lt_trans hk h)] using this
 rw [this]
theorem goneAt_none {ls : List (List S29)} {i : Nat} {x : S29} (hall : ∀ k,k < ls.length → atE x i (ls.getD k []) = true) : goneAt ls i x = -1:=by
 unfold goneAt
 have : ls.findIdx? (fun l => !atE x i l) = none:=by
  rw [List.findIdx?_eq_none_iff]
  intro y hy
  obtain ⟨k,hk,rfl⟩:=List.mem_iff_getElem.1 hy
  have:=hall k hk
  simpa [List.getD_eq_getElem?_getD,List.getElem?_eq_getElem hk] using this
 rw [this]
theorem left_at {w0 w : World} {base g cap : Nat} {ok : Nat → Prop} {ls : List (List S29)} (h : (kL w0).R 32 w base ok (.slice (some ⟨g,0,none⟩) ls.length cap) ls) (hB : Below w0.heap.size w0 w) (j : Nat) (hj : j < ls.length) :
  ∃ A c,w.cell? ⟨g,j,none⟩ = some (.slice A (ls.getD j []).length c) ∧ (ls.getD j []).length ≤ c ∧ k29.C w A (ls.getD j []).length (ls.getD j []) ∧ k29.C w0 A (ls.getD j []).length (ls.getD j []) ∧ w.frozen? ⟨g,j,none⟩ = false:=by
 obtain ⟨c,hcl,hM,hcc,hfr⟩:=Kd.R_elem h [] (j : Int) (by omega) (by omega)
 rw [Int.toNat_natCast] at hM hcc hfr
 obtain ⟨A,c1,rfl,hl,hC⟩:=kL_open hM
 have h1:=hcc 0 _ rfl
 have h2:=hfr 0
 have e : j * (kL w0).sz + 0 = j:=Nat.mul_one j
 rw [e] at h1 h2
 exact ⟨A,c1,h1,hl,Kd.C_below hC hB,hC,h2⟩
set_option maxRecDepth 100000 in
set_option maxHeartbeats 1000000 in
theorem index90_calls (w0 : World) (ls : List (List S29)) (g cap base : Nat) (ok : Nat → Prop) (i : Nat) (x : S29) (ga gm : Nat) (w : World) (hR : (kL w0).R 32 w base ok (.slice (some ⟨g,0,none⟩) ls.length cap) ls) (hB : Below w0.heap.size w0 w) (hm : ls.length ≤ 100)
  (BA : w.heap[ga]? = some (.cells #[.int .i64 i] 3 (0,0))) (BM : w.heap[gm]? = some (.cells #[.int .i64 x.f0,.int .i64 x.f1,.int .i64 x.f2,.int .i64 x.f3] 29 (0,0))) :
  Calls Try.prog 145 #[.slice (some ⟨g,0,none⟩) ls.length cap,.func (.func 90) #[] #[.pointer (some ⟨ga,0,none⟩),.pointer (some ⟨gm,0,none⟩)]] w fun e w' => e = .returned (.int .i64 (goneAt ls i x)) ∧ Drawn0 w w':=by
 have HR:=am hR
 have HB:=am hB
 have HBA:=am BA
 have HBM:=am BM
 clear hR hB BA BM
 go_enter Try.func145,Try.ntmps145
 go_wp2
 go_loopw [8] (fun v8 wr => ∃ j : Nat,j ≤ ls.length ∧ v8 = .int .i64 (j : Int) ∧ Aside0 (∀ k,k < j → atE x i (ls.getD k []) = true) ∧ Drawn0 w wr) (fun v8 _ => ls.length - (intOf v8).toNat)
 case atStart => exact ⟨0,Nat.zero_le _,rfl,⟨fun i hi => absurd hi (by omega)⟩,Drawn0.refl _⟩
 case round =>
  obtain ⟨j,hj,rfl,HA,⟨mq,rfl⟩⟩:=hrel
  by_cases hlt : j < ls.length
  ·obtain ⟨A,c,hx0,hle,hC,_,_⟩:=left_at HR.out HB.out j hlt
   obtain ⟨y,hy⟩ : ∃ y,y = ls.getD j []:=⟨_,rfl⟩
   rw [← hy] at hx0 hle hC
   have HC:=am hC
   have hx : ∀ q,(w.drewN q).cell? ⟨g,j,none⟩ = some (.slice A y.length c):=fun q => hx0
   have HY:=am hy
   have z0 : (j : Int) < (ls.length : Int):=by omega
   clear hx0 hle hC hy
   cases hb : atE x i y with
  |false =>
    have HBb:=am hb
    clear hb
    go_wp2_with (go_at_call 90;refine (vote90_calls y A c i x ga gm _ (Kd.C_drewN HC.out _) HBA.out HBM.out).mono ?_;rintro e w' ⟨rfl,nq,rfl⟩;rw [HBb.out])
    go_ret
    exact ⟨by rw [goneAt_hit j hlt (by rw [← HY.out];exact HBb.out) HA.out];rfl,by repeat (first|exact Drawn0.refl _|apply Drawn0.step)⟩
  |true =>
    have HBb:=am hb
    clear hb
    go_wp2_with (go_at_call 90;refine (vote90_calls y A c i x ga gm _ (Kd.C_drewN HC.out _) HBA.out HBM.out).mono ?_;rintro e w' ⟨rfl,nq,rfl⟩;rw [HBb.out])
    go_roundw
    case rel => exact ⟨j + 1,by omega,by go_num,⟨fun k hk => if h : k = j then by subst h;rw [← HY.out];exact HBb.out else HA.out k (by omega)⟩,by repeat (first|exact Drawn0.refl _|apply Drawn0.step)⟩
    case measure => simp [intOf];omega
  ·go_wp2
   go_ret
   exact ⟨by rw [goneAt_none (fun k hk => HA.out k (by omega))];rfl,by repeat (first|exact Drawn0.refl _|apply Drawn0.step)⟩
def Kept29 (ls cur : List (List S29)) (i : Nat) (x : S29) (k j : Nat) : Prop:=cur.length = ls.length ∧ k < j ∧ j ≤ ls.length ∧ cur.take k = (ls.take j).filter (atE x i) ∧ cur.drop j = ls.drop j
theorem take_snoc (ls : List (List S29)) (j : Nat) (h : j < ls.length) : ls.take (j + 1) = ls.take j ++ [ls.getD j []]:=by
 rw [List.take_succ_eq_append_getElem h]
 simp [List.getD_eq_getElem?_getD,List.getElem?_eq_getElem h]
theorem Kept29.start {ls : List (List S29)} {i : Nat} {x : S29} (j : Nat) (h : j < ls.length) (hb : atE x i (ls.getD j []) = false) (hall : ∀ k,k < j → atE x i (ls.getD k []) = true) : Kept29 ls ls i x j (j + 1):=by
 refine ⟨rfl,by omega,by omega,?_,rfl⟩
 rw [take_snoc ls j h,List.filter_append]
 have h1 : (ls.take j).filter (atE x i) = ls.take j:=by
  rw [List.filter_eq_self]
  intro y hy
  obtain ⟨k,hk,rfl⟩:=List.mem_iff_getElem.1 hy
  have hk' : k < j:=by rw [List.length_take] at hk;omega
  have:=hall k hk'
  rw [List.getElem_take]
  simpa [List.getD_eq_getElem?_getD,List.getElem?_eq_getElem (Nat.lt_trans hk' h)] using this
 rw [h1,List.filter_cons,if_neg (by rw [hb];simp)]
 simp
theorem Kept29.at_ {ls cur : List (List S29)} {i : Nat} {x : S29} {k j : Nat} (h : Kept29 ls cur i x k j) : cur.getD j [] = ls.getD j []:=by
 have:=congrArg (fun l => l[0]?) h.2.2.2.2
 simp only [List.getElem?_drop,Nat.add_zero] at this
 rw [List.getD_eq_getElem?_getD,List.getD_eq_getElem?_getD,this]
theorem drop_next {cur ls : List (List S29)} {j : Nat} (h : cur.drop j = ls.drop j) : cur.drop (j + 1) = ls.drop (j + 1):=by
 have:=congrArg (List.drop 1) h
 rw [List.drop_drop,List.drop_drop] at this
 exact this
theorem Kept29.miss {ls cur : List (List S29)} {i : Nat} {x : S29} {k j : Nat} (h : Kept29 ls cur i x k j) (hj : j < ls.length) (hb : atE x i (ls.getD j []) = false) : Kept29 ls cur i x k (j + 1):=by
 obtain ⟨h1,h2,h3,h4,h5⟩:=h
 refine ⟨h1,by omega,by omega,?_,drop_next h5⟩
 rw [take_snoc ls j hj,List.filter_append,List.filter_cons,if_neg (by rw [hb];simp),h4]
 simp
theorem Kept29.hit {ls cur : List (List S29)} {i : Nat} {x : S29} {k j : Nat} (h : Kept29 ls cur i x k j) (hj : j < ls.length) (hb : atE x i (ls.getD j []) = true) : Kept29 ls (cur.set k (ls.getD j [])) i x (k + 1) (j + 1):=by
 obtain ⟨h1,h2,h3,h4,h5⟩:=h
 refine ⟨by rw [List.length_set,h1],by omega,by omega,?_,?_⟩
 ·rw [take_snoc ls j hj,List.filter_append,List.filter_cons,if_pos hb,← h4]
  have hk : k < (cur.set k (ls.getD j [])).length:=by rw [List.length_set];omega
  rw [take_snoc _ k hk,List.take_set_of_le (Nat.le_refl k)]
  simp [List.getD_eq_getElem?_getD,show k < cur.length by omega]
 ·rw [List.drop_set_of_lt (by omega)]
  exact drop_next h5
theorem Kept29.done {ls cur : List (List S29)} {i : Nat} {x : S29} {k : Nat} (h : Kept29 ls cur i x k ls.length) : cur.take k = ls.filter (atE x i):=by
 rw [h.2.2.2.1,List.take_length]
theorem goneAt_cases (ls : List (List S29)) (i : Nat) (x : S29) : (goneAt ls i x = -1 ∧ ls.filter (atE x i) = ls) ∨ ∃ j,j < ls.length ∧ goneAt ls i x = (j : Int) ∧ Kept29 ls ls i x j (j + 1):=by
 cases h : ls.findIdx? (fun l => !atE x i l) with
|none =>
  refine Or.inl ⟨by unfold goneAt;rw [h],?_⟩
  rw [List.findIdx?_eq_none_iff] at h
  rw [List.filter_eq_self]
  intro y hy
  have:=h y hy
  simpa using this
|some j =>
  have hh:=h
  rw [List.findIdx?_eq_some_iff_getElem] at h
  obtain ⟨h1,h2,h3⟩:=h
  refine Or.inr ⟨j,h1,by unfold goneAt;rw [hh],Kept29.start j h1 ?_ ?_⟩
  ·simpa [List.getD_eq_getElem?_getD,List.getElem?_eq_getElem h1] using h2
  ·intro k hk
   have:=h3 k hk
   simpa [List.getD_eq_getElem?_getD,List.getElem?_eq_getElem (Nat.lt_trans hk h1)] using this
theorem run_not' (b : Bool) (w : World) : (Op.unary .not (.bool b)).run Try.prog w = .ok (.bool (!b)) w:=rfl
theorem zero32 (w : World) : (zeroValue 32).run Try.prog w = .ok (.slice none 0 0) w:=by kernel_rfl
theorem left_store {w0 w : World} {base g cap : Nat} {ok : Nat → Prop} {ls : List (List S29)} (h : (kL w0).R 32 w base ok (.slice (some ⟨g,0,none⟩) ls.length cap) ls) (k : Nat) (hk : k < ls.length) {y : List S29} {A : Option Addr} {c : Nat} (hl : y.length ≤ c) (hC : k29.C w0 A y.length y) :
  (kL w0).R 32 (w.setCell ⟨g,k,none⟩ (.slice A y.length c)) base ok (.slice (some ⟨g,0,none⟩) (ls.set k y).length cap) (ls.set k y):=by
 obtain ⟨cc,hcl,hM,hcc,hfr⟩:=Kd.R_elem h [] (k : Int) (by omega) (by omega)
 have hP:=Kd.R_seg h (k : Int) (by omega) (by omega) (seg:=[.slice A y.length c]) (j:=0) hcl hcc (by rw [show (kL w0).sz = 1 from rfl];simp) (x':=y) (okp:=fun _ => False)
  (by
   have : cc.take 0 ++ [Value.slice A y.length c] ++ cc.drop (0 + [Value.slice A y.length c].length) = [.slice A y.length c]:=by
    have h1 : cc.length = 1:=hcl
    simp [List.drop_eq_nil_of_le (show cc.length ≤ 1 by omega)]
   rw [this]
   exact kL_mk hl hC _ _ _) (fun _ hk => hk.elim)
 have e : (k : Int).toNat * (kL w0).sz + 0 = k:=Nat.mul_one k
 rw [e] at hP
 have hP1:=hP.1
 rw [List.length_set]
 exact hP1
end
def hit (p : S34) (q : Int) : Option S29:=if p.f0 ≤ q then p.f1[(q - p.f0).toNat]? else none
theorem digStep_range {d n : Int} (hd : 0 ≤ d ∧ d ≤ 2147483646) (hn : 0 ≤ n ∧ n ≤ 2147483646) : 0 ≤ digStep d n ∧ digStep d n ≤ 2147483646:=by
 unfold digStep
 have h1 : wrap64 (d * 1000003) = d * 1000003:=by unfold wrap64;omega
 have h2 : wrap64 (d * 1000003 + n) = d * 1000003 + n:=by unfold wrap64;omega
 have h3 : wrap64 (d * 1000003 + n + 1) = d * 1000003 + n + 1:=by unfold wrap64;omega
 rw [h1,h2,h3,Int.tmod_eq_emod_of_nonneg (by omega)]
 omega
theorem dig_range : ∀ (l : List Int) (d : Int),0 ≤ d ∧ d ≤ 2147483646 → (∀ n ∈ l,0 ≤ n ∧ n ≤ 2147483646) → 0 ≤ l.foldl digStep d ∧ l.foldl digStep d ≤ 2147483646
|[],d,hd,_ => hd
|n :: r,d,hd,hl => dig_range r _ (digStep_range hd (hl n (by simp))) (fun m hm => hl m (by simp [hm]))
theorem right_range {x : S29} (h : rightP x = true) : (0 ≤ x.f0 ∧ x.f0 ≤ 682) ∧ (0 ≤ x.f1 ∧ x.f1 ≤ 9) ∧ (0 ≤ x.f2 ∧ x.f2 ≤ 1048576) ∧ (0 ≤ x.f3 ∧ x.f3 ≤ 1073741824):=by
 unfold rightP at h
 simpa only [Bool.and_eq_true,decide_eq_true_eq] using h
theorem leaf_range {x : S29} (h : rightP x = true) : 0 ≤ leafP x ∧ leafP x ≤ 2147483646:=by
 have hr:=right_range h
 unfold leafP dig
 refine dig_range _ _ (by omega) (fun n hn => ?_)
 unfold nums5 at hn
 simp at hn
 omega
theorem dig2_range : 0 ≤ dig [2] ∧ dig [2] ≤ 2147483646:=by
 have : dig [2] = 1000006:=by kernel_rfl
 omega
theorem root_range : ∀ (f : Nat) (l : List S29),l.length ≤ 64 → (∀ x ∈ l,rightP x = true) → 0 ≤ rootF f l ∧ rootF f l ≤ 2147483646
|0,l,_,_ => by
  exact dig2_range
|f + 1,l,hl,hr => by
  unfold rootF
  split
  ·exact dig2_range
  ·split
   ·rename_i h1
    exact leaf_range (hr _ (by rw [List.getD_eq_getElem?_getD,List.getElem?_eq_getElem (show 0 < l.length by omega)];exact List.getElem_mem _))
   ·have h1:=root_range f (l.take (halfP l.length)) (by rw [List.length_take];omega) (fun x hx => hr x (List.mem_of_mem_take hx))
    have h2:=root_range f (l.drop (halfP l.length)) (by rw [List.length_drop];omega) (fun x hx => hr x (List.mem_of_mem_drop hx))
    unfold dig
    refine dig_range _ _ (by omega) (fun n hn => ?_)
    simp at hn
    omega
theorem check_rights {l : List S29} (h : checkP l = 0) : ∀ x ∈ l,rightP x = true:=by
 intro x hx
 obtain ⟨i,hi,rfl⟩:=List.mem_iff_getElem.1 hx
 have:=(check_right h hi).1
 simpa [List.getD_eq_getElem?_getD,List.getElem?_eq_getElem hi] using this
theorem root_isDig {l : List S29} (h : checkP l = 0) : isDigP (rootP l) = true:=by
 have:=root_range l.length l (check_len h) (check_rights h)
 unfold isDigP rootP
 rw [decide_eq_true_eq]
 omega
section
open Go.Maps (Keyed)
theorem laidOut_ : laidOutB Try.prog = true:=by kernel_rfl
theorem row29 : (29 : TypeId) < Try.prog.types.size:=of_decide_eq_true kr
theorem wide29 : (match Try.prog.underlying 29 with|some (.array _ _)|some (.struct _) => true|_ => false) = true:=by rw [Try.underlying29]
set_option maxRecDepth 100000 in
theorem law29 : WideMaps.KeyLaw Try.prog 29:=deep_law_laid laidOut_ (m:=3) (by omega) row29 kr wide29
theorem K29 : Keyed Try.prog 29:=Keyed.of_law law29
theorem keyT29 : Try.prog.keyType 29 = true:=by kernel_rfl
theorem cells29 : Try.prog.cellsOf 29 = 4:=by kernel_rfl
theorem cells3 : Try.prog.cellsOf 3 = 1:=by kernel_rfl
def Wf29 (x : S29) : Prop:=(Lit.int .i64 x.f0).wf = true ∧ (Lit.int .i64 x.f1).wf = true ∧ (Lit.int .i64 x.f2).wf = true ∧ (Lit.int .i64 x.f3).wf = true
theorem keyOf29 {x : S29} (h : Wf29 x) : ∃ l,keyOf Try.prog 29 (ev29 x) = some l:=by
 obtain ⟨h0,h1,h2,h3⟩:=h
 obtain ⟨m,hm⟩ : ∃ m,Try.prog.types.size + 1 = m + 2:=⟨Try.prog.types.size - 1,by have h : (29 : Nat) < Try.prog.types.size:=row29;omega⟩
 unfold keyOf
 rw [Try.underlying29]
 have hf : (ev29 x).formed Try.prog 29 = true:=by simp [ev29,Value.formed,Try.underlying29,cells29]
 simp only [keyT29,hf,Bool.and_self,if_true,hm]
 simp [ev29,Value.cells,Program.keyLits,Try.underlying29,Try.underlying3,cells29,cells3,h0,h1,h2,h3]
noncomputable def kl29 (x : S29) : Lit:=(keyOf Try.prog 29 (ev29 x)).getD (.bool true)
theorem kl29_eq {x : S29} (h : Wf29 x) : keyOf Try.prog 29 (ev29 x) = some (kl29 x):=by
 obtain ⟨l,hl⟩:=keyOf29 h
 unfold kl29
 rw [hl];rfl
theorem ev29_inj {x y : S29} (h : ev29 x = ev29 y) : x = y:=by
 cases x;cases y
 simp [ev29] at h
 simp [h]
def evI (n : Int) : Value:=.int .i64 n
theorem ev29_inj' (c c' : S29) (h : ev29 c' = ev29 c) : c' = c:=ev29_inj h
theorem run88 {W : World} {g : Nat} {x : S29} {a : Act} {b : Bool} (hK : W.heap[g]? = some (.cells #[.int .i64 x.f0,.int .i64 x.f1,.int .i64 x.f2,.int .i64 x.f3] 29 (0,0))) (h4 : a.eval (.tmp 4) = .pointer (some ⟨g,0,none⟩)) (h5 : a.eval (.tmp 5) = .bool b) :
  (results Try.f88 a.tmps).run Try.prog W = .ok (.tuple #[ev29 x,.bool b]) W:=by
 have hu29:=Try.underlying29
 have hc0 : W.cell? ⟨g,0,none⟩ = some (.int .i64 x.f0):=(blk_cell hK 0).trans rfl
 have hc1 : W.cell? ⟨g,1,none⟩ = some (.int .i64 x.f1):=(blk_cell hK 1).trans rfl
 have hc2 : W.cell? ⟨g,2,none⟩ = some (.int .i64 x.f2):=(blk_cell hK 2).trans rfl
 have hc3 : W.cell? ⟨g,3,none⟩ = some (.int .i64 x.f3):=(blk_cell hK 3).trans rfl
 simp only [Act.eval,Array.getD_eq_getD_getElem?] at h4 h5
 simp [results,Try.results88,go_sem,ev29, *]
set_option maxRecDepth 100000 in
set_option maxHeartbeats 1000000 in
theorem frequent_calls (b n : Nat) (M : S29 → Option Int) (than : Int) (w : World) (h : MapIs Try.prog 29 ev29 evI w b n M) :
  Calls Try.prog 88 #[.map (some b),.int .i64 than] w fun e w' => ((∃ x y,M x = some y ∧ than < y ∧ e = .returned (.tuple #[ev29 x,.bool true])) ∨ ((∀ x y,M x = some y → y ≤ than) ∧ e = .returned (.tuple #[ev29 z29,.bool false]))) ∧ Below w.heap.size w w':=by
 have HM:=am h
 have hu29:=Try.underlying29
 clear h
 go_enter Try.func88,Try.ntmps88
 go_wp2_with (at_range;refine wpList_range_walk _ rfl _ 136 rfl 29 3 K29 Try.underlying136 ev29 evI b n M (fun _ y => y ≤ than) rfl (HM.out.alloc _) ?_;intro w1 cnt1 hw1 hg1 hs1)
 go_frame
 obtain ⟨r,hr⟩ : ∃ r,r = (w.alloc (.cells #[.int .i64 0,.int .i64 0,.int .i64 0,.int .i64 0] 29)).heap.size:=⟨_,rfl⟩
 rw [← hr] at hw1 hs1 ⊢
 have HRR:=am (show r = w.heap.size + 1 by rw [hr];simp)
 clear hr
 have HW1:=am hw1
 have HG1:=am hg1
 clear hw1 hg1
 go_loopw [11] (fun v11 wr => ∃ cnt : Nat,Aside0 (Walks Try.prog 29 ev29 evI wr b r n M (fun _ y => y ≤ than) cnt) ∧ Aside0 (Below w.heap.size w wr) ∧ Aside0 (wr.heap[w.heap.size]? = some (.cells #[.int .i64 0,.int .i64 0,.int .i64 0,.int .i64 0] 29 (0,0))) ∧ Aside0 (r < wr.heap.size)) (fun _ wr => wr.rangeLeft b r)
 case atStart =>
  have hb0 : Below w.heap.size w (w.alloc (.cells #[.int .i64 0,.int .i64 0,.int .i64 0,.int .i64 0] 29)):=below_alloc (Below.refl _ _) _
  refine ⟨cnt1,HW1,⟨pw_below_grown hb0 none (by simp) HG1.out (fun k hk => by cases hk)⟩,⟨blk_grown (blk_new' w _ _ rfl) HG1.out (by simp)⟩,⟨by rw [hs1];omega⟩⟩
 case round =>
  obtain ⟨cnt,HW,HB,HK,HS⟩:=hrel
  go_wp2_with (at_next;refine wpList_next_walk _ rfl _ rfl 29 K29 ev29 evI ev29_inj' b r n M (fun _ y => y ≤ than) cnt rfl HW.out ?_ ?_)
  ·intro hd
   have HD:=am hd
   clear hd
   have hc0 : ∀ o,(wr.alloc o).cell? ⟨w.heap.size,0,none⟩ = some (.int .i64 0):=fun o => (blk_cell (blk_alloc HK.out o) 0).trans rfl
   have hf0 : ∀ o,(wr.alloc o).frozen? ⟨w.heap.size,0,none⟩ = false:=fun o => blk_frozen (blk_alloc HK.out o) 0
   have hc1 : ∀ o,(wr.alloc o).cell? ⟨w.heap.size,1,none⟩ = some (.int .i64 0):=fun o => (blk_cell (blk_alloc HK.out o) 1).trans rfl
   have hf1 : ∀ o,(wr.alloc o).frozen? ⟨w.heap.size,1,none⟩ = false:=fun o => blk_frozen (blk_alloc HK.out o) 1
   have hc2 : ∀ o,(wr.alloc o).cell? ⟨w.heap.size,2,none⟩ = some (.int .i64 0):=fun o => (blk_cell (blk_alloc HK.out o) 2).trans rfl
   have hf2 : ∀ o,(wr.alloc o).frozen? ⟨w.heap.size,2,none⟩ = false:=fun o => blk_frozen (blk_alloc HK.out o) 2
   have hc3 : ∀ o,(wr.alloc o).cell? ⟨w.heap.size,3,none⟩ = some (.int .i64 0):=fun o => (blk_cell (blk_alloc HK.out o) 3).trans rfl
   have hf3 : ∀ o,(wr.alloc o).frozen? ⟨w.heap.size,3,none⟩ = false:=fun o => blk_frozen (blk_alloc HK.out o) 3
   go_wp2
   have hK5:=blk_set (blk_set (blk_set (blk_set (blk_alloc HK.out (.cells #[.int .i64 0,.int .i64 0,.int .i64 0,.int .i64 0] 29)) 0 (.int .i64 0)) 1 (.int .i64 0)) 2 (.int .i64 0)) 3 (.int .i64 0)
   have hB5:=below_set (below_set (below_set (below_set (below_alloc HB.out (.cells #[.int .i64 0,.int .i64 0,.int .i64 0,.int .i64 0] 29)) (g:=w.heap.size) (j:=0) (v:=.int .i64 0) (Nat.le_refl _)) (g:=w.heap.size) (j:=1) (v:=.int .i64 0) (Nat.le_refl _)) (g:=w.heap.size) (j:=2) (v:=.int .i64 0) (Nat.le_refl _)) (g:=w.heap.size) (j:=3) (v:=.int .i64 0) (Nat.le_refl _)
   exact bodyPost_ret (run88 (x:=z29) hK5 rfl rfl) rfl ⟨Or.inr ⟨HD.out,rfl⟩,hB5⟩
  ·intro c y w2 cnt2 hc hw2 hlt hg2 hs2 hen
   unfold ev29 evI at hen ⊢
   have HC:=am hc
   have HW2:=am hw2
   have HLT:=am hlt
   have hne : r ≠ w.heap.size:=by have:=HRR.out;omega
   have HB2:=am (pw_below_grown HB.out (some r) (below_size HB.out) hg2 (fun k hk => by injection hk with hk;have:=HRR.out;omega))
   have HK2:=am (blk_grown HK.out hg2 (fun e_ => hne (by injection e_ with e_;exact e_.symm)))
   have HS2:=am (show r < w2.heap.size by rw [hs2];exact HS.out)
   clear hc hw2 hlt hg2 hs2 hne
   have hc0 : ∀ o,(w2.alloc o).cell? ⟨w.heap.size,0,none⟩ = some (.int .i64 0):=fun o => (blk_cell (blk_alloc HK2.out o) 0).trans rfl
   have hf0 : ∀ o,(w2.alloc o).frozen? ⟨w.heap.size,0,none⟩ = false:=fun o => blk_frozen (blk_alloc HK2.out o) 0
   have hc1 : ∀ o,(w2.alloc o).cell? ⟨w.heap.size,1,none⟩ = some (.int .i64 0):=fun o => (blk_cell (blk_alloc HK2.out o) 1).trans rfl
   have hf1 : ∀ o,(w2.alloc o).frozen? ⟨w.heap.size,1,none⟩ = false:=fun o => blk_frozen (blk_alloc HK2.out o) 1
   have hc2 : ∀ o,(w2.alloc o).cell? ⟨w.heap.size,2,none⟩ = some (.int .i64 0):=fun o => (blk_cell (blk_alloc HK2.out o) 2).trans rfl
   have hf2 : ∀ o,(w2.alloc o).frozen? ⟨w.heap.size,2,none⟩ = false:=fun o => blk_frozen (blk_alloc HK2.out o) 2
   have hc3 : ∀ o,(w2.alloc o).cell? ⟨w.heap.size,3,none⟩ = some (.int .i64 0):=fun o => (blk_cell (blk_alloc HK2.out o) 3).trans rfl
   have hf3 : ∀ o,(w2.alloc o).frozen? ⟨w.heap.size,3,none⟩ = false:=fun o => blk_frozen (blk_alloc HK2.out o) 3
   by_cases hy : than < y
   ·have hyb : decide (than < y) = true:=decide_eq_true hy
    go_wp2
    have hK5:=blk_set (blk_set (blk_set (blk_set (blk_alloc HK2.out (.cells #[.int .i64 c.f0,.int .i64 c.f1,.int .i64 c.f2,.int .i64 c.f3] 29)) 0 (.int .i64 c.f0)) 1 (.int .i64 c.f1)) 2 (.int .i64 c.f2)) 3 (.int .i64 c.f3)
    have hB5:=below_set (below_set (below_set (below_set (below_alloc HB2.out (.cells #[.int .i64 c.f0,.int .i64 c.f1,.int .i64 c.f2,.int .i64 c.f3] 29)) (g:=w.heap.size) (j:=0) (v:=.int .i64 c.f0) (Nat.le_refl _)) (g:=w.heap.size) (j:=1) (v:=.int .i64 c.f1) (Nat.le_refl _)) (g:=w.heap.size) (j:=2) (v:=.int .i64 c.f2) (Nat.le_refl _)) (g:=w.heap.size) (j:=3) (v:=.int .i64 c.f3) (Nat.le_refl _)
    exact bodyPost_ret (run88 (x:=c) hK5 rfl rfl) rfl ⟨Or.inl ⟨c,y,HC.out,hy,rfl⟩,hB5⟩
   ·have hyb : decide (than < y) = false:=decide_eq_false hy
    go_wp2
    go_roundw
    case rel => exact ⟨cnt2,⟨Walks.kept (HW2.out (by omega)) (World.grownBy_alloc w2 _ none) (by simp) (by simp)⟩,⟨below_alloc HB2.out _⟩,⟨blk_alloc HK2.out _⟩,⟨by have:=HS2.out;simp;omega⟩⟩
    case measure =>
     rw [Walks.left_eq HW.out,Walks.left_eq (Walks.kept (HW2.out (by omega)) (World.grownBy_alloc w2 _ none) (by simp) (by simp))]
     exact HLT.out
end
theorem wrap_succ {n : Nat} (h : n ≤ 1000) : wrap64 ((n : Int) + 1) = ((n + 1 : Nat) : Int):=by unfold wrap64;omega
set_option maxRecDepth 100000 in
set_option maxHeartbeats 2000000 in
theorem delete90_calls (w0 : World) (ls : List (List S29)) (g cap base : Nat) (ok : Nat → Prop) (i : Nat) (x : S29) (ga gm : Nat) (w : World) (hR : (kL w0).R 32 w base ok (.slice (some ⟨g,0,none⟩) ls.length cap) ls) (hB : Below w0.heap.size w0 w) (hm : ls.length ≤ 100) (hcap : ls.length ≤ cap) (hg : w0.heap.size ≤ g)
  (BA : w.heap[ga]? = some (.cells #[.int .i64 i] 3 (0,0))) (BM : w.heap[gm]? = some (.cells #[.int .i64 x.f0,.int .i64 x.f1,.int .i64 x.f2,.int .i64 x.f3] 29 (0,0))) (hga : ga ≠ g) (hgm : gm ≠ g) :
  Calls Try.prog 89 #[.slice (some ⟨g,0,none⟩) ls.length cap,.func (.func 90) #[] #[.pointer (some ⟨ga,0,none⟩),.pointer (some ⟨gm,0,none⟩)]] w fun e w' =>
   e = .returned (.slice (some ⟨g,0,none⟩) (ls.filter (atE x i)).length cap) ∧ (kL w0).R 32 w' base ok (.slice (some ⟨g,0,none⟩) (ls.filter (atE x i)).length cap) (ls.filter (atE x i)) ∧ KeepBut w w' g none ∧ Below w0.heap.size w0 w':=by
 have HR:=am hR
 have HB:=am hB
 have HBA:=am BA
 have HBM:=am BM
 have HG:=am hg
 have HGA:=am hga
 have HGM:=am hgm
 clear hR hB BA BM hg hga hgm
 have hn:=run_not'
 rcases goneAt_cases ls i x with ⟨hgo,hfl⟩|⟨j0,hj0,hgo,hk0⟩
 ·rw [hfl]
  have HGO:=am hgo
  clear hgo hfl
  go_enter Try.func89,Try.ntmps89
  go_wp2_with (go_at_call 145;refine (index90_calls w0 ls g cap base ok i x ga gm _ HR.out HB.out hm HBA.out HBM.out).mono ?_;rintro e w' ⟨rfl,nq,rfl⟩;rw [HGO.out])
  go_ret
  exact ⟨rfl,Kd.R_drewN HR.out nq,keep_drewN (KeepBut.refl _ _ _) nq,pw_below_drewN HB.out nq⟩
 ·have HGO:=am hgo
  have HK0:=am hk0
  have HW1:=am (wrap_succ (n:=j0) (by omega))
  have hne : ((j0 : Int) == -1) = false:=by simp
  clear hgo hk0
  go_enter Try.func89,Try.ntmps89
  go_wp2_with (go_at_call 145;refine (index90_calls w0 ls g cap base ok i x ga gm _ HR.out HB.out hm HBA.out HBM.out).mono ?_;rintro e w' ⟨rfl,nq,rfl⟩;rw [HGO.out])
  go_loopw [5,6] (fun v5 v6 wr => ∃ (k j : Nat) (cur : List (List S29)),k < j ∧ j ≤ ls.length ∧ v5 = .int .i64 (k : Int) ∧ v6 = .int .i64 (j : Int) ∧ Aside0 (Kept29 ls cur i x k j) ∧ Aside0 ((kL w0).R 32 wr base ok (.slice (some ⟨g,0,none⟩) cur.length cap) cur) ∧ Aside0 (KeepBut w wr g none) ∧ Aside0 (Below w0.heap.size w0 wr)) (fun _ v6 _ => ls.length - (intOf v6).toNat)
  case atStart => exact ⟨j0,j0 + 1,ls,by omega,by omega,rfl,by push_cast;rfl,HK0,⟨Kd.R_drewN HR.out nq⟩,⟨keep_drewN (KeepBut.refl _ _ _) nq⟩,⟨pw_below_drewN HB.out nq⟩⟩
  case round =>
   obtain ⟨k,j,cur,hkj,hjl,rfl,rfl,HK,HRr,HKr,HBr⟩:=hrel
   have hcl : cur.length = ls.length:=HK.out.1
   by_cases hlt : j < ls.length
   ·obtain ⟨A,c,hx0,hle,hC,hC0,_⟩:=left_at HRr.out HBr.out j (by omega)
    obtain ⟨_,_,hs0,_,_,_,hf0⟩:=left_at HRr.out HBr.out k (by omega)
    have hky:=Kept29.at_ HK.out
    obtain ⟨y,hy⟩ : ∃ y,y = cur.getD j []:=⟨_,rfl⟩
    rw [← hy] at hx0 hle hC hC0 hky
    have HC:=am hC
    have HC0:=am hC0
    have HLE:=am hle
    have hx : ∀ q,(wr.drewN q).cell? ⟨g,j,none⟩ = some (.slice A y.length c):=fun q => hx0
    have hxx : wr.cell? ⟨g,j,none⟩ = some (.slice A y.length c):=hx0
    have hs : ∀ q,(wr.drewN q).cell? ⟨g,k,none⟩ = some _:=fun q => hs0
    have hf : ∀ q,(wr.drewN q).frozen? ⟨g,k,none⟩ = false:=fun q => hf0
    have HBAr:=am (KeepBut.blk HKr.out HBA.out HGA.out (by simp))
    have HBMr:=am (KeepBut.blk HKr.out HBM.out HGM.out (by simp))
    have HKY:=am hky
    have z0 : (j : Int) < (ls.length : Int):=by omega
    have z1 : (k : Int) < (ls.length : Int):=by omega
    have HWJ:=am (wrap_succ (n:=j) (by omega))
    have HWK:=am (wrap_succ (n:=k) (by omega))
    clear hx0 hle hC hC0 hs0 hf0 hky hy
    cases hb : atE x i y with
   |false =>
     have HBb:=am hb
     clear hb
     go_wp2_with (go_at_call 90;refine (vote90_calls y A c i x ga gm _ HC.out HBAr.out HBMr.out).mono ?_;rintro e w' ⟨rfl,nq2,rfl⟩;rw [HBb.out])
     go_roundw
     case rel => exact ⟨k,j + 1,cur,by omega,by omega,rfl,by push_cast;rfl,⟨Kept29.miss HK.out hlt (by rw [← HKY.out];exact HBb.out)⟩,⟨Kd.R_drewN HRr.out _⟩,⟨keep_drewN HKr.out _⟩,⟨pw_below_drewN HBr.out _⟩⟩
     case measure =>
      show ls.length - ((j : Int) + 1).toNat < ls.length - (j : Int).toNat
      omega
   |true =>
     have HBb:=am hb
     clear hb
     go_wp2_with (go_at_call 90;refine (vote90_calls y A c i x ga gm _ HC.out HBAr.out HBMr.out).mono ?_;rintro e w' ⟨rfl,nq2,rfl⟩;rw [HBb.out])
     go_roundw
     case rel =>
      refine ⟨k + 1,j + 1,cur.set k y,by omega,by omega,by push_cast;rfl,by push_cast;rfl,⟨?_⟩,⟨left_store (Kd.R_drewN HRr.out _) k (by omega) HLE.out HC0.out⟩,⟨KeepBut.set_ (keep_drewN HKr.out _) k _⟩,⟨below_set (pw_below_drewN HBr.out _) HG.out⟩⟩
      rw [HKY.out]
      exact Kept29.hit HK.out hlt (by rw [← HKY.out];exact HBb.out)
     case measure =>
      show ls.length - ((j : Int) + 1).toNat < ls.length - (j : Int).toNat
      omega
   ·obtain rfl : j = ls.length:=by omega
    have hdone:=Kept29.done HK.out
    have hkl : k < ls.length:=hkj
    obtain ⟨i0,hi,_,hsz,_⟩:=info_parts info32
    have hcut1:=cut_from (P:=Try.prog) 42 32 .i64 Try.underlying42 hi 1 hsz (some ⟨g,0,none⟩) ls.length cap (k : Int) (by omega) (by omega)
    have hcut2:=cut_to (P:=Try.prog) 42 32 .i64 Try.underlying42 hi (some ⟨g,0,none⟩) ls.length cap (k : Int) (by omega) (by omega) hcap
    have hcap' : k < cap:=by omega
    have hk1 : (if cap = (k : Int).toNat then (some ⟨g,0,none⟩ : Option Addr) else (some ⟨g,0,none⟩ : Option Addr).map (·.add ((k : Int).toNat * 1))) = some ⟨g,k,none⟩:=by
     rw [if_neg (by simp;omega)]
     simp [add_plain]
    rw [hk1,Int.toNat_natCast] at hcut1
    rw [Int.toNat_natCast] at hcut2
    have hcells : ∀ q,q < ls.length - k → (wr.cell? ⟨g,k + q,none⟩).isSome = true ∧ wr.frozen? ⟨g,k + q,none⟩ = false:=by
     intro q hq
     obtain ⟨_,_,hs0,_,_,_,hf0⟩:=left_at HRr.out HBr.out (k + q) (by omega)
     exact ⟨by rw [hs0];rfl,hf0⟩
    have hclr : ∀ ty,(Builtin.clear_ #[42] ty #[.slice (some ⟨g,k,none⟩) (ls.length - k) (cap - k)]).run Try.prog wr = .ok (.tuple #[]) (wr.setCells g k (List.replicate (ls.length - k) (.slice none 0 0))) :=
     fun ty => Lib.run_clear_slice wr 42 32 ty (.slice none 0 0) Try.underlying42 zero32 rfl rfl g k (ls.length - k) (cap - k) (by omega) (fun q hq => (hcells q hq).1) (fun q hq => (hcells q hq).2)
    have hlen : (ls.filter (atE x i)).length = k:=by rw [← hdone,List.length_take];omega
    have hT:=R_tail (xs:=cur.take k) (by rw [List.length_take,show min k cur.length = k by omega];exact Kd.R_take HRr.out (by omega)) (List.replicate (ls.length - k) (.slice none 0 0)) k (by rw [List.length_take];omega) (by rw [List.length_replicate];omega)
    rw [hdone] at hT
    have HT:=am hT
    have HLEN:=am hlen
    clear hT hcells hdone hk1 hi hsz hlen
    go_wp2_with (simp only [hclr])
    go_ret
    have hg2:=HT.out.2
    exact ⟨by rw [HLEN.out];rfl,HT.out.1,HKr.out.trans ⟨hg2.size,fun q hq hne _ => hg2.block q hq (fun e_ => hne (by injection e_))⟩ (.inl rfl),pw_below_grown HBr.out (some g) (below_size HBr.out) hg2 (fun q hq => by injection hq with hq;have:=HG.out;omega)⟩
set_option maxRecDepth 100000 in
set_option maxHeartbeats 1000000 in
theorem clone_calls (A0 : Option Addr) (c0 : Nat) (l0 : List (List S29)) (w : World) (hr0 : Kd.C (Kd.slice 29 k29) w A0 l0.length l0) (hc0 : l0.length ≤ c0) (hp : 0 < l0.length) (hm : l0.length ≤ 100) :
  Calls Try.prog 87 #[.slice A0 l0.length c0] w fun e w' => ∃ g cap,e = .returned (.slice (some ⟨g,0,none⟩) l0.length cap) ∧ w.heap.size ≤ g ∧ l0.length ≤ cap ∧ (kL w).R 32 w' w.heap.size (fun _ => True) (.slice (some ⟨g,0,none⟩) l0.length cap) l0 ∧ Below w.heap.size w w':=by
 obtain ⟨ad,rfl,_⟩:=hr0.2.2 hp
 have HR0:=am hr0
 have HC0:=am hc0
 clear hr0 hc0
 have q42 : ∀ (w : World) (a : Option Addr) (n c n' c' : Nat),(binOp .eql 42 (.slice a n c) (.slice none n' c')).run Try.prog w = .ok (.bool a.isNone) w:=fun w a n c n' c' => Lib.run_eql_slice_nil w _ _ a n c n' c' Try.underlying42
 have HO:=am (show (kL w).R 32 (w.alloc (.cells #[] 32)) w.heap.size (fun _ => True) (.slice (some ⟨w.heap.size,0,none⟩) 0 0) [] from ⟨fun _ _ => trivial,OwnRow.lit (ps:=[]) w w.heap.size (inner:=[]) (Reps.none _ _) (Nat.le_refl _) (by simp)⟩)
 go_enter Try.func87,Try.ntmps87
 go_wp2_with (at_builtin;refine Kd.R_append_rows (kL w) (Rr:=(Kd.slice 29 k29).K w) (w0:=w) (W:=w.alloc (.cells #[] 32)) w.heap.size rfl _ _ 42 32 (.slice none 0 0) 24 rfl Try.underlying42 info32 rfl Nat.zero_lt_one (by decide) (.slice (some ⟨w.heap.size,0,none⟩) 0 0) [] l0 (some ad) l0.length c0 (fun _ => True) (fun _ => False) rfl rfl HO.out (ReadsRow.imp_ HR0.out (below_alloc (Below.refl _ _) _) (fun _ _ h => h)) (fun _ _ h => h) (fun _ h => h.elim) (fun _ _ => trivial) (below_alloc (Below.refl _ _) _) (by simp) (by simp;omega) ?_;intro v1 w1 hs1 hb1 hg1 hat1)
 have HS1:=am hs1
 have HB1:=am hb1
 clear hs1 hb1 hg1 hat1
 go_wp2
 go_ret
 obtain ⟨g,cap,rfl,h1,h2,_⟩:=Kd.R_form HS1.out hp
 obtain ⟨_,_,e2,h3,_⟩:=Kd.R_reads HS1.out
 injection e2 with _ _ e3
 exact ⟨g,cap,rfl,h1,by rw [e3];exact h3,HS1.out,HB1.out⟩
def cntM (ls : List (List S29)) (i : Nat) : S29 → Option Int:=fun x => if votes ls i x = 0 then none else some (votes ls i x : Int)
theorem cntM_nil (i : Nat) : cntM [] i = fun _ => none:=by funext x;simp [cntM,votes]
theorem cntM_getD (ls : List (List S29)) (i : Nat) (x : S29) : (cntM ls i x).getD 0 = (votes ls i x : Int):=by
 unfold cntM
 split
 ·rename_i h;rw [h];rfl
 ·rfl
theorem cntM_hit {ls : List (List S29)} {l : List S29} {i : Nat} {x : S29} (h : l[i]? = some x) : cntM (ls ++ [l]) i = fun c' => if c' = x then some ((cntM ls i x).getD 0 + 1) else cntM ls i c':=by
 funext c
 rw [cntM_getD]
 by_cases hc : c = x
 ·rw [if_pos hc,hc]
  unfold cntM
  rw [votes_snoc,if_pos h,if_neg (by omega)]
  push_cast;rfl
 ·rw [if_neg hc]
  have hv : votes (ls ++ [l]) i c = votes ls i c:=by
   rw [votes_snoc,if_neg (fun e => hc (by rw [h] at e;injection e with e;exact e.symm)),Nat.add_zero]
  unfold cntM
  rw [hv]
theorem cntM_miss {ls : List (List S29)} {l : List S29} {i : Nat} (h : l.length ≤ i) : cntM (ls ++ [l]) i = cntM ls i:=by
 funext c
 have hv : votes (ls ++ [l]) i c = votes ls i c:=by
  rw [votes_snoc,if_neg (fun e => by rw [List.getElem?_eq_none h] at e;cases e),Nat.add_zero]
 unfold cntM
 rw [hv]
theorem cntM_some {ls : List (List S29)} {i : Nat} {x : S29} {y : Int} (h : cntM ls i x = some y) : y = (votes ls i x : Int):=by
 unfold cntM at h
 split at h
 ·cases h
 ·exact (Option.some.inj h).symm
theorem cntM_none {ls : List (List S29)} {i : Nat} {h : Nat} (hh : ∀ x y,cntM ls i x = some y → y ≤ (h : Int)) (x : S29) : votes ls i x ≤ h:=by
 by_cases h0 : votes ls i x = 0
 ·omega
 ·have:=hh x _ (show cntM ls i x = some (votes ls i x : Int) by unfold cntM;rw [if_neg h0])
  omega
theorem right_wf {x : S29} (h : rightP x = true) : Wf29 x:=by
 unfold rightP at h
 simp only [Bool.and_eq_true,decide_eq_true_eq] at h
 obtain ⟨h0,h1,h2,h3⟩:=h
 have hw : ∀ n : Int,0 ≤ n → n ≤ 1073741824 → (Lit.int .i64 n).wf = true:=by
  intro n a b
  have e : wrap64 n = n:=by unfold wrap64;omega
  rw [← e]
  exact wrap64_wf _
 exact ⟨hw _ h0.1 (by omega),hw _ h1.1 (by omega),hw _ h2.1 (by omega),hw _ h3.1 (by omega)⟩
theorem check_zero {l : List S29} (h : checkP l = 0) : l.length ≤ 64 ∧ ∀ x ∈ l,Wf29 x:=by
 unfold checkP at h
 split at h
 ·cases h
 ·split at h
  ·rename_i h1 h2
   refine ⟨by omega,fun x hx => ?_⟩
   unfold followsP at h2
   rw [List.all_eq_true] at h2
   obtain ⟨i,hi,rfl⟩:=List.mem_iff_getElem.1 hx
   have h3:=h2 i (List.mem_range.2 hi)
   unfold okAt at h3
   rw [Bool.and_eq_true] at h3
   have e : l.getD i z29 = l[i]:=by simp [List.getD_eq_getElem?_getD,List.getElem?_eq_getElem hi]
   rw [e] at h3
   exact right_wf h3.1
  ·cases h
theorem kL_only {w0 w : World} {base g n cap : Nat} {ok : Nat → Prop} {ls : List (List S29)} (h : (kL w0).R 32 w base ok (.slice (some ⟨g,0,none⟩) n cap) ls) : (kL w0).R 32 w base (fun k => k = g) (.slice (some ⟨g,0,none⟩) n cap) ls :=
 ⟨fun k hk => by simp [Value.ownBlock] at hk;exact hk.symm,h.2⟩
def LeftOk (l0 ls : List (List S29)) : Prop:=ls.length ≤ l0.length ∧ 0 < ls.length ∧ ∀ x ∈ ls,checkP x = 0
theorem LeftOk.filter {l0 ls : List (List S29)} {h i : Nat} {x : S29} (k : LeftOk l0 ls) (hv : h < votes ls i x) : LeftOk l0 (ls.filter (atE x i)):=by
 obtain ⟨h1,h2,h3⟩:=k
 refine ⟨Nat.le_trans (List.length_filter_le _ _) h1,?_,fun y hy => h3 y (List.mem_filter.1 hy).1⟩
 unfold votes at hv
 omega
theorem LeftOk.room {l0 ls : List (List S29)} {h i : Nat} {x : S29} (k : LeftOk l0 ls) (hv : h < votes ls i x) : i < 64:=by
 obtain ⟨l,hl,hx⟩:=votes_pos (Nat.lt_of_le_of_lt (Nat.zero_le _) hv)
 have h1:=(check_zero (k.2.2 l hl)).1
 have h2:=(List.getElem?_eq_some_iff.1 hx).1
 omega
theorem majFrom_none {h d : Nat} {ls : List (List S29)} {out : List S29} (hn : ∀ x,votes ls out.length x ≤ h) : majFrom h d ls out = out:=by
 cases d with
|zero => rfl
|succ d =>
  rw [majFrom,most_none_of hn]
theorem majFrom_some {h d : Nat} {ls : List (List S29)} {out : List S29} {x : S29} (hls : ls.length < 2 * h + 2) (hx : h < votes ls out.length x) : majFrom h (d + 1) ls out = majFrom h d (ls.filter (atE x out.length)) (out ++ [x]):=by
 rw [majFrom,most_eq hls hx]
def lenOf : Value → Nat
|.slice _ n _ => n
|_ => 0
theorem setBlock_other (w : World) {b i : Nat} (o' : Obj) (hne : i ≠ b) : (Go.ChangeMaps.setBlock w b o').heap[i]? = w.heap[i]?:=by
 unfold Go.ChangeMaps.setBlock
 simp [Array.getElem?_setIfInBounds,Ne.symm hne]
theorem cell_apart (w : World) {b : Nat} (o' : Obj) {a : Addr} (hne : a.block ≠ b) : (Go.ChangeMaps.setBlock w b o').cell? a = w.cell? a :=
 World.cell?_of_block (setBlock_other w o' hne)
theorem keep_setBlock {w W : World} {b : Nat} (o' : Obj) (h : KeepBut w W b none) : KeepBut w (Go.ChangeMaps.setBlock W b o') b none :=
 ⟨Nat.le_trans h.1 (by simp [Go.ChangeMaps.setBlock]),fun i hi hne hr => (setBlock_other W o' hne).trans (h.2 i hi hne hr)⟩
theorem below_setBlock {w W : World} {base b : Nat} (o' : Obj) (h : Below base w W) (hg : base ≤ b) : Below base w (Go.ChangeMaps.setBlock W b o') :=
 ⟨h.os,h.tape,h.output,Nat.le_trans h.size (by simp [Go.ChangeMaps.setBlock]),fun i hi => (setBlock_other W o' (by omega)).trans (h.block i hi)⟩
def R28_20.T : Bool × List (List Nat × List Nat):=(true,[([],[]),([],[]),([],[]),([1,2],[1,2]),([3],[3]),([0,4],[0,4]),([5],[5]),([0,4,0,1,2,3,4],[0,4]),([7],[7]),([0,8,6,7,0,1,2,3,4,5,6,7,8],[0,6,8])])
def R28_20.B : List Nat:=[0,0,0,6,14,31,63,31,159,511]
theorem R28_20.tab : rtab .any (opsOf Try.f28 20) = R28_20.T:=by kernel_rfl
theorem R28_20.bits : waitsOk R28_20.T.2 R28_20.B = true:=by kernel_rfl
theorem zero3 (u : World) : (zeroValue 3).run Try.prog u = .ok (evI 0) u:=by kernel_rfl
theorem look29 {w : World} {b n : Nat} {M : S29 → Option Int} {x : S29} (h : MapIs Try.prog 29 ev29 evI w b n M) (hw : Wf29 x) : (Instr.lookup 136 (.map (some b)) (.agg #[.int .i64 x.f0,.int .i64 x.f1,.int .i64 x.f2,.int .i64 x.f3]) false).run Try.prog w = .ok (.int .i64 ((M x).getD 0)) w:=by
 have h1:=h.lookup false K29 Try.underlying136 (zero3 w) (kl29_eq hw)
 cases hM : M x with
|none => rw [hM] at h1;exact h1
|some y => rw [hM] at h1;exact h1
theorem look29_put {w : World} {b n : Nat} {M : S29 → Option Int} {x : S29} {k : Int} (h : MapIs Try.prog 29 ev29 evI w b n (fun c' => if c' = x then some k else M c')) (hw : Wf29 x) : (Instr.lookup 136 (.map (some b)) (.agg #[.int .i64 x.f0,.int .i64 x.f1,.int .i64 x.f2,.int .i64 x.f3]) false).run Try.prog w = .ok (.int .i64 k) w:=by
 have h1:=look29 h hw
 simpa using h1
theorem setBlock_same (w : World) {b : Nat} (o' : Obj) (hb : b < w.heap.size) : (Go.ChangeMaps.setBlock w b o').heap[b]? = some o':=by
 unfold Go.ChangeMaps.setBlock
 simp [Array.getElem?_setIfInBounds,hb]
theorem maj_new {ops : Array Oper} {rest : List Oper} {o : Oper} {a : Act} {Q : Exit → Act → World → Prop} {w W : World} {g : Nat} {v : Value} {out : List S29} (x : S29) (hgd : o.guard = none) (s y : Operand)
  (ho : o.op = .call { callee:=.builtin .append,args:=#[s,y],argTypes:=#[32,32] }) (hs : a.eval s = v) {n : Nat} (hx : a.eval y = .slice (some ⟨n,0,none⟩) 1 1) (hnn : n = W.heap.size)
  (HB : Below w.heap.size w W) (HR : Kd.R k29 29 W w.heap.size (fun k => k ≠ g) v out) (hg : g < W.heap.size) (hl : out.length ≤ 64)
  (h : ∀ v1 w3,Kd.R k29 29 w3 w.heap.size (fun k => k ≠ g) v1 (out ++ [x]) → Below w.heap.size w w3 → W.grownBy w3 v.ownBlock → wpList Try.prog ops Q rest (a.put o.dst v1) w3) :
  wpList Try.prog ops Q (o :: rest) a (W.alloc (.cells #[.int .i64 x.f0,.int .i64 x.f1,.int .i64 x.f2,.int .i64 x.f3] 29)):=by
 subst hnn
 refine Kd.R_append k29 (w0:=w) (W:=W) w.heap.size hgd s y 32 29 (.agg #[.int .i64 0,.int .i64 0,.int .i64 0,.int .i64 0]) 32 ho Try.underlying32 info29 rfl (by decide) (by omega) v out x [.int .i64 x.f0,.int .i64 x.f1,.int .i64 x.f2,.int .i64 x.f3] (fun k => k ≠ g) (fun _ => False) hs hx (k29_mkM _ _ _ x) (fun _ hk => hk.elim) ?_ HR HB (below_size HB) (by omega) ?_
 ·intro k hk
  omega
 ·intro v1 w3 hs3 hb3 hg3 _
  exact h v1 w3 hs3 hb3 hg3
theorem find_bad {l : List (List S29)} (j : Nat) (h : j < l.length) (hb : checkP (l.getD j []) ≠ 0) (hall : ∀ i,i < j → checkP (l.getD i []) = 0) : l.find? (fun x => decide (checkP x ≠ 0)) = some (l.getD j []):=by
 have e : l.getD j [] = l[j]:=by simp [List.getD_eq_getElem?_getD,List.getElem?_eq_getElem h]
 rw [e] at hb ⊢
 rw [List.find?_eq_some_iff_getElem]
 refine ⟨by simpa using hb,j,h,rfl,fun i hi => ?_⟩
 have:=hall i hi
 have e2 : l.getD i [] = l[i]:=by simp [List.getD_eq_getElem?_getD,List.getElem?_eq_getElem (Nat.lt_trans hi h)]
 rw [e2] at this
 simp [this]
theorem find_good {l : List (List S29)} (hall : ∀ i,i < l.length → checkP (l.getD i []) = 0) : l.find? (fun x => decide (checkP x ≠ 0)) = none ∧ ∀ x ∈ l,checkP x = 0:=by
 have h : ∀ x ∈ l,checkP x = 0:=by
  intro x hx
  obtain ⟨i,hi,rfl⟩:=List.mem_iff_getElem.1 hx
  have:=hall i hi
  rwa [show l.getD i [] = l[i] by simp [List.getD_eq_getElem?_getD,List.getElem?_eq_getElem hi]] at this
 exact ⟨List.find?_eq_none.2 (fun x hx => by simp [h x hx]),h⟩
def book_Majority.f (l0 : List (List S29)) : Option (List S29 × Int):=some (majP l0)
set_option maxRecDepth 100000 in
set_option maxHeartbeats 2000000 in
theorem book_Majority.calls (A0 : Option Addr) (c0 : Nat) (l0 : List (List S29)) (r1 : List S29) (r2 : Int) (w : World) (hr0 : Kd.C (Kd.slice 29 k29) w A0 l0.length l0) (hc0 : l0.length ≤ c0) (h : book_Majority.f l0 = some (r1,r2)) :
  Calls Try.prog 28 #[.slice A0 l0.length c0] w fun e w' => ∃ v_ : Value,e = .returned (.tuple #[v_,.int .i64 r2]) ∧ Kd.R k29 29 w' w.heap.size (fun _ => True) v_ r1 ∧ Below w.heap.size w w':=by
 have H:=Option.some.inj h
 clear h
 have HR0:=am hr0
 have HC0:=am hc0
 clear hr0 hc0
 have hu29:=Try.underlying29
 have hn:=run_not'
 have hmm:=@run_makeMap Try.prog
 unfold majP at H
 by_cases h8 : 8 < l0.length
 ·rw [if_pos h8] at H
  simp only [Prod.mk.injEq] at H
  obtain ⟨rfl,rfl⟩:=H
  have g1 : decide ((8 : Int) < (l0.length : Int)) = true:=by simp;omega
  have g2 : decide (8 < l0.length) = true:=by simp;omega
  clear h8
  go_enter Try.func28,Try.ntmps28
  go_wp2
  go_ret2
  exact ⟨_,rfl,Kd.R_nil _ _ _ _ _,Below.refl _ _⟩
 ·rw [if_neg h8] at H
  have g1 : decide ((8 : Int) < (l0.length : Int)) = false:=by simp;omega
  have g2 : decide (8 < l0.length) = false:=by simp;omega
  by_cases h0 : l0.length = 0
  ·rw [if_pos h0] at H
   simp only [Prod.mk.injEq] at H
   obtain ⟨rfl,rfl⟩:=H
   have g3 : ((l0.length : Int) == 0) = true:=by simp [h0]
   clear h8
   go_enter Try.func28,Try.ntmps28
   go_wp2
   go_ret2
   exact ⟨_,rfl,Kd.R_nil _ _ _ _ _,Below.refl _ _⟩
  ·rw [if_neg h0] at H
   have g3 : ((l0.length : Int) == 0) = false:=by rw [beq_eq_false_iff_ne];omega
   have HH:=am H
   clear H
   go_enter Try.func28,Try.ntmps28
   go_wp2
   go_loopw [25] (fun v25 wr => ∃ j : Nat,j ≤ l0.length ∧ v25 = .int .i64 (j : Int) ∧ Aside0 (∀ i,i < j → checkP (l0.getD i []) = 0) ∧ Aside0 (Below w.heap.size w wr)) (fun v25 _ => l0.length - (intOf v25).toNat)
   case atStart => exact ⟨0,Nat.zero_le _,rfl,⟨fun i hi => absurd hi (by omega)⟩,⟨Below.refl _ _⟩⟩
   case round =>
    obtain ⟨j,hj,rfl,HA,HBr⟩:=hrel
    by_cases hlt : j < l0.length
    ·obtain ⟨ad,A,c,e,hx0,hle,hC⟩:=at_L2 (Kd.C_below HR0.out HBr.out) (j : Int) (by omega) (by omega)
     cases e
     rw [Int.toNat_natCast] at hx0
     obtain ⟨y,hy⟩ : ∃ y,y = rd_L2 l0 (j : Int):=⟨_,rfl⟩
     rw [← hy] at hx0 hle hC
     have HC:=am hC
     have HLE:=am hle
     have HY:=am (show y = l0.getD j [] by rw [hy];unfold rd_L2;rw [Int.toNat_natCast])
     have z0 : (j : Int) < (l0.length : Int):=by omega
     have HCh:=am (show book_Check.f y = some (checkP y) from rfl)
     clear hC hle hy
     by_cases hc : checkP y = 0
     ·rw [hc] at HCh
      have HCZ:=am hc
      clear hc
      go_wp2_with (go_at_call 42;refine (book_Check.calls _ _ _ _ _ HC.out HLE.out HCh.out).mono ?_;rintro e w' ⟨rfl,hd⟩;have HD:=am hd;clear hd)
      go_roundw
      case rel => exact ⟨j + 1,by omega,by first|rfl|(push_cast;rfl),⟨fun k hk => if h : k = j then by subst h;rw [← HY.out];exact HCZ.out else HA.out k (by omega)⟩,⟨below_then HBr.out (below_size HBr.out) HD.out⟩⟩
      case measure => simp [intOf];omega
     ·have hcb : (checkP y != 0) = true:=by simpa using hc
      have hf:=find_bad j hlt (by rw [← HY.out];exact hc) HA.out
      have hh:=HH.out
      rw [hf,← HY.out] at hh
      replace hh : (([] : List S29),checkP y) = (r1,r2):=hh
      simp only [Prod.mk.injEq] at hh
      obtain ⟨e1,e2⟩:=hh
      subst e1
      rw [e2] at HCh hcb
      clear hc hf HH e2
      go_wp2_with (go_at_call 42;refine (book_Check.calls _ _ _ _ _ HC.out HLE.out HCh.out).mono ?_;rintro e w' ⟨rfl,hd⟩;have HD:=am hd;clear hd)
      go_ret2
      exact ⟨_,rfl,Kd.R_nil _ _ _ _ _,below_then HBr.out (below_size HBr.out) HD.out⟩
    ·obtain rfl : j = l0.length:=by omega
     obtain ⟨hf,hall⟩:=find_good HA.out
     have hh:=HH.out
     rw [hf] at hh
     replace hh : (majFrom (l0.length / 2) 65 l0 [],(0 : Int)) = (r1,r2):=hh
     simp only [Prod.mk.injEq] at hh
     obtain ⟨hmaj,rfl⟩:=hh
     have HMJ:=am hmaj
     have HALL:=am hall
     clear hf hmaj hall HH HA
     go_wp2_with fail
     refine (clone_calls _ _ _ _ (Kd.C_below HR0.out HBr.out) HC0.out (by omega) (by omega)).mono ?_
     rintro e w2 ⟨g,cap,rfl,hg,hcap,hs,hd⟩
     have HG:=am hg
     have HCAP:=am hcap
     have HS:=am (kL_only hs)
     have HD:=am hd
     have HB2:=am (below_then HBr.out (below_size HBr.out) hd)
     have HWA:=am (show w.heap.size ≤ wr.heap.size from below_size HBr.out)
     have HRA:=am (Kd.C_below HR0.out HBr.out)
     clear hg hcap hs hd
     obtain ⟨g',cap',eg,_,hg2,_⟩:=Kd.R_form HS.out (by omega)
     have egg : g = g':=by injection eg with e1 _ _;injection e1 with e1;injection e1
     have HG2:=am (show g < w2.heap.size by rw [egg];exact hg2)
     clear eg egg hg2
     go_wp2
     go_loopw [7,8] (fun v7 v8 wo => ∃ (ls : List (List S29)) (out : List S29),v7 = .slice (some ⟨g,0,none⟩) ls.length cap ∧ ls.length ≤ cap ∧ Aside0 (LeftOk l0 ls) ∧ Aside0 (out.length ≤ 64) ∧ Aside0 ((kL wr).R 32 wo wr.heap.size (fun k => k = g) (.slice (some ⟨g,0,none⟩) ls.length cap) ls) ∧ Aside0 (Kd.R k29 29 wo wr.heap.size (fun k => k ≠ g) v8 out) ∧ Aside0 (g < wo.heap.size) ∧ Aside0 (Below w.heap.size w wo) ∧ Aside0 (Below wr.heap.size wr wo) ∧ Aside0 (majFrom (l0.length / 2) (65 - out.length) ls out = r1)) (fun _ v8 _ => 65 - lenOf v8)
     case atStart => exact ⟨l0,[],rfl,HCAP.out,⟨Nat.le_refl _,by omega,HALL.out⟩,⟨by simp⟩,HS,⟨Kd.R_nil _ _ _ _ _⟩,HG2,HB2,HD,HMJ⟩
     case round =>
      rename World => wo
      obtain ⟨ls,out,rfl,hlc,HL,HO,HSo,HRo,HGo,HBo,HAo,HJ⟩:=hrel
      obtain ⟨A8,c8,rfl⟩:=Kd.R_slice HRo.out
      go_wp2
      obtain ⟨ga,hga⟩ : ∃ ga,ga = wo.heap.size:=⟨_,rfl⟩
      obtain ⟨w3,hw3⟩ : ∃ w3,w3 = (wo.alloc (.cells #[.int .i64 (out.length : Int)] 3)).alloc (.map #[] 0):=⟨_,rfl⟩
      have BA3:=am (show w3.heap[ga]? = some (.cells #[.int .i64 (out.length : Int)] 3 (0,0)) by rw [hw3];exact blk_alloc (blk_new' wo _ _ hga) _)
      have HM3:=am (show MapIs Try.prog 29 ev29 evI w3 (ga + 1) 0 (cntM [] out.length) by
       rw [hw3,cntM_nil,show ga + 1 = (wo.alloc (.cells #[.int .i64 (out.length : Int)] 3)).heap.size by rw [hga];simp]
       exact MapIs.made _ _ _ _ _)
      have HSZ3:=am (show w3.heap.size = ga + 2 by rw [hw3,hga];simp)
      have hbl : Below wo.heap.size wo w3:=by rw [hw3];exact below_alloc (below_alloc (Below.refl _ _) _) _
      have HS3:=am (Kd.R_below HSo.out hbl)
      have HR3:=am (show Kd.R k29 29 w3 wr.heap.size (fun k => k ≠ g ∧ k < ga) (.slice A8 out.length c8) out from Kd.R_mono (Kd.R_below (Kd.R_bound HRo.out) hbl) (fun k hk => ⟨hk.1,by rw [hga];exact hk.2.2.1⟩))
      have HB3:=am (below_then HBo.out (below_size HBo.out) hbl)
      have HA3:=am (below_then HAo.out (below_size HAo.out) hbl)
      have HGG:=am (show g < ga by rw [hga];exact HGo.out)
      have HWG:=am (show w.heap.size ≤ ga by rw [hga];exact below_size HBo.out)
      have HWR:=am (show wr.heap.size ≤ ga by rw [hga];exact below_size HAo.out)
      rw [← hw3,← hga]
      clear hga hw3 hbl
      go_loopw [42] (fun v42 wi => ∃ j : Nat,j ≤ ls.length ∧ v42 = .int .i64 (j : Int) ∧ Aside0 (MapIs Try.prog 29 ev29 evI wi (ga + 1) j (cntM (ls.take j) out.length)) ∧ Aside0 (KeepBut w3 wi (ga + 1) none) ∧ Aside0 (Below w.heap.size w wi) ∧ Aside0 (Below wr.heap.size wr wi)) (fun v42 _ => ls.length - (intOf v42).toNat)
      case atStart => exact ⟨0,Nat.zero_le _,rfl,HM3,⟨KeepBut.refl _ _ _⟩,HB3,HA3⟩
      case round =>
       rename World => wi
       obtain ⟨j,hj,rfl,HMi,HKi,HBi,HAi⟩:=hrel
       have HSi:=am (Kd.R_keep HS3.out HKi.out (fun k hk => by have:=HGG.out;omega))
       have HBA:=am (KeepBut.blk HKi.out BA3.out (show ga ≠ ga + 1 by omega) (by simp))
       by_cases hlt : j < ls.length
       ·obtain ⟨A,c,hx0,hle,hC,hC0,_⟩:=left_at HSi.out HAi.out j hlt
        obtain ⟨y,hy⟩ : ∃ y,y = ls.getD j []:=⟨_,rfl⟩
        rw [← hy] at hx0 hle hC hC0
        have HC:=am hC
        have HC0:=am hC0
        have hx : ∀ q,(wi.drewN q).cell? ⟨g,j,none⟩ = some (.slice A y.length c):=fun q => hx0
        have z0 : (j : Int) < (ls.length : Int):=by omega
        have ha0 : wi.cell? ⟨ga,0,none⟩ = some (.int .i64 (out.length : Int)):=(blk_cell HBA.out 0).trans rfl
        have HY:=am (show ls.take (j + 1) = ls.take j ++ [y] by rw [hy];exact take_snoc ls j hlt)
        have HYL:=am (show y ∈ ls by rw [hy,List.getD_eq_getElem?_getD,List.getElem?_eq_getElem hlt];exact List.getElem_mem _)
        have h100:=HL.out.1
        clear hy hle hC hC0
        by_cases hiy : out.length < y.length
        ·obtain ⟨ae,e,hz0,hz1,hz2,hz3⟩:=at_T29 HC.out (out.length : Int) (by omega) (by omega)
         cases e
         rw [Int.toNat_natCast] at hz0 hz1 hz2 hz3
         have haw : (ae.add (out.length * 4)).block ≠ ga + 1:=by
          obtain ⟨ae',e',hq0,_⟩:=at_T29 HC0.out (out.length : Int) (by omega) (by omega)
          injection e' with e'
          subst e'
          rw [Int.toNat_natCast] at hq0
          have h1:=wb wr _ hq0
          have h2:=HWR.out
          omega
         obtain ⟨x,hx1⟩ : ∃ x,x = rd_T29 y (out.length : Int):=⟨_,rfl⟩
         rw [← hx1] at hz0 hz1 hz2 hz3
         have HXY:=am (show y[out.length]? = some x by rw [hx1];unfold rd_T29;simp [List.getD_eq_getElem?_getD,List.getElem?_eq_getElem hiy])
         have HWF:=am (show Wf29 x from (check_zero (HL.out.2.2 y HYL.out)).2 x (List.mem_of_getElem? HXY.out))
         have k1 : decide ((out.length : Int) < (y.length : Int)) = true:=by simp;omega
         have k2 : decide (out.length < y.length) = true:=by simp;omega
         have k3 : (out.length : Int) < (y.length : Int):=by omega
         obtain ⟨nn,hnn⟩ : ∃ nn,nn = (cntM (ls.take j) out.length x).getD 0:=⟨_,rfl⟩
         have HNN:=am hnn
         have HN100:=am (show 0 ≤ nn ∧ nn ≤ 100 by
          rw [hnn,cntM_getD]
          have h1:=votes_le (ls.take j) out.length x
          have h2 : (ls.take j).length ≤ ls.length:=by rw [List.length_take];omega
          omega)
         have HAW:=am haw
         have HMd:=am (show MapIs Try.prog 29 ev29 evI wi.drew (ga + 1) j (cntM (ls.take j) out.length) from HMi.out)
         have HKd:=am (keep_drew HKi.out)
         have HBd:=am (below_drew1 HBi.out)
         have HAd:=am (below_drew1 HAi.out)
         have HLK:=am (show (Instr.lookup 136 (.map (some (ga + 1))) (.agg #[.int .i64 x.f0,.int .i64 x.f1,.int .i64 x.f2,.int .i64 x.f3]) false).run Try.prog wi.drew = .ok (.int .i64 nn) wi.drew by rw [hnn];exact look29 HMd.out HWF.out)
         clear hnn haw hx1
         go_wp2
         refine start_ (n:=10) (S:=fun w' => w'.cell? ⟨ga,0,none⟩ = some (.int .i64 (out.length : Int)) ∧ w'.cell? (ae.add (out.length * 4)) = some (.int .i64 x.f0) ∧ w'.cell? ⟨(ae.add (out.length * 4)).block,(ae.add (out.length * 4)).off + 1,none⟩ = some (.int .i64 x.f1) ∧ w'.cell? ⟨(ae.add (out.length * 4)).block,(ae.add (out.length * 4)).off + 2,none⟩ = some (.int .i64 x.f2) ∧ w'.cell? ⟨(ae.add (out.length * 4)).block,(ae.add (out.length * 4)).off + 3,none⟩ = some (.int .i64 x.f3) ∧ (Instr.lookup 136 (.map (some (ga + 1))) (.agg #[.int .i64 x.f0,.int .i64 x.f1,.int .i64 x.f2,.int .i64 x.f3]) false).run Try.prog w' = .ok (.int .i64 nn) w') (ds:=[9]) #[false,false,false,false,false,false,false,false,false,false] kr rfl rfl ⟨ha0,hz0,hz1,hz2,hz3,HLK.out⟩ (fun hHeld => ?_);refine with_tabW R28_20.tab R28_20.bits (fun HT_ HW_ => ?_)
         generalize (wi).drew = wd at HMd HKd HBd HAd HLK hHeld ⊢
         refine pure_ (i:=0) (N:=(some 50)) (v:=?_) (a':=?_) #[true,false,false,false,false,false,false,false,false,false] rfl rfl (any_of HT_.out kr) (fun _ _ _ h => h) (Or.inl ⟨by rfl,?_⟩) ?_ ?_
         rotate_left
         ·intro w'
          go_simp
          with_reducible rfl
         rotate_left
         ·exact vs
         refine pure_ (i:=1) (N:=(some 51)) (v:=?_) (a':=?_) #[true,true,false,false,false,false,false,false,false,false] rfl rfl (any_of HT_.out kr) (fun _ _ _ h => h) (Or.inl ⟨by rfl,?_⟩) ?_ ?_
         rotate_left
         ·intro w'
          go_simp
          with_reducible rfl
         rotate_left
         ·exact vs
         refine take_ (i:=2) (N:=(some 52)) (v:=?_) (a':=?_) #[true,true,true,false,false,false,false,false,false,false] rfl rfl (take_ofW HT_.out HW_.out kr) (fun _ _ _ h => h) (Or.inl ⟨by rfl,?_⟩) hHeld ?_ ?_
         rotate_left
         ·rintro w' ⟨s0,s1,s2,s3,s4,s5⟩
          go_simp
          with_reducible rfl
         rotate_left
         ·exact vs
         refine pure_ (i:=3) (N:=(some 53)) (v:=?_) (a':=?_) #[true,true,true,true,false,false,false,false,false,false] rfl rfl (any_of HT_.out kr) (fun _ _ _ h => h) (Or.inl ⟨by rfl,?_⟩) ?_ ?_
         rotate_left
         ·intro w'
          go_simp
          with_reducible rfl
         rotate_left
         ·exact vs
         refine take_ (i:=4) (N:=(some 54)) (v:=?_) (a':=?_) #[true,true,true,true,true,false,false,false,false,false] rfl rfl (take_ofW HT_.out HW_.out kr) (fun _ _ _ h => h) (Or.inl ⟨by rfl,?_⟩) hHeld ?_ ?_
         rotate_left
         ·rintro w' ⟨s0,s1,s2,s3,s4,s5⟩
          go_simp
          with_reducible rfl
         rotate_left
         ·exact vs
         refine take_ (i:=5) (N:=(some 55)) (v:=?_) (a':=?_) #[true,true,true,true,true,true,false,false,false,false] rfl rfl (take_ofW HT_.out HW_.out kr) (fun _ _ _ h => h) (Or.inl ⟨by rfl,?_⟩) hHeld ?_ ?_
         rotate_left
         ·rintro w' ⟨s0,s1,s2,s3,s4,s5⟩
          go_simp
          with_reducible rfl
         rotate_left
         ·exact vs
         refine pure_ (i:=6) (N:=(some 56)) (v:=?_) (a':=?_) #[true,true,true,true,true,true,true,false,false,false] rfl rfl (any_of HT_.out kr) (fun _ _ _ h => h) (Or.inl ⟨by rfl,?_⟩) ?_ ?_
         rotate_left
         ·intro w'
          go_simp
          with_reducible rfl
         rotate_left
         ·exact vs
         refine one_ (i:=7) (N:=(some 57)) #[true,true,true,true,true,true,true,true,false,false] rfl rfl (one_of HT_.out kr) (by decide) (fun K hK => ?_)
         obtain ⟨v0,st,o1,hrun,hM1,hst⟩:=MapIs.entry_both HMd.out law29 K29 Try.underlying136 (by unfold maxLen;omega) (0 : Int) zero3 (kl29_eq HWF.out) (fun c' h => ev29_inj h)
         have HM1:=am hM1
         have HST:=am hst
         unfold ev29 at hrun
         clear hM1 hst
         refine value_ (w1:=Go.ChangeMaps.setBlock wd (ga + 1) o1) (v:=.tuple #[v0,goInt st]) (by rfl) rfl ?_ ?_
         ·simp [execOp,Act.eval,hrun,Result.andThen]
         refine hK.out _ _ ⟨(cell_apart wd o1 (by simp)).trans hHeld.1,(cell_apart wd o1 HAW.out).trans hHeld.2.1,(cell_apart (a:=⟨(ae.add (out.length * 4)).block,(ae.add (out.length * 4)).off + 1,none⟩) wd o1 HAW.out).trans hHeld.2.2.1,(cell_apart (a:=⟨(ae.add (out.length * 4)).block,(ae.add (out.length * 4)).off + 2,none⟩) wd o1 HAW.out).trans hHeld.2.2.2.1,(cell_apart (a:=⟨(ae.add (out.length * 4)).block,(ae.add (out.length * 4)).off + 3,none⟩) wd o1 HAW.out).trans hHeld.2.2.2.2.1,by rw [HNN.out];exact look29_put HM1.out HWF.out⟩ (fun hHeld => ?_)
         clear hK K
         refine norm_ (a':=?_) ?_ ?_
         rotate_left
         ·show Act.put _ (some 57) _ = _
          simp only [Act.put,List.setIfInBounds_toArray,List.set_cons_zero,List.set_cons_succ,i64_w,i32_w]
          rfl
         refine pure_ (i:=8) (N:=(some 58)) (v:=?_) (a':=?_) #[true,true,true,true,true,true,true,true,true,false] rfl rfl (any_of HT_.out kr) (fun _ _ _ h => h) (Or.inl ⟨by rfl,?_⟩) ?_ ?_
         rotate_left
         ·intro w'
          go_simp
          with_reducible rfl
         rotate_left
         ·exact vs
         refine last_ (i:=9) (N:=none) #[true,true,true,true,true,true,true,true,true,true] rfl rfl (one_of HT_.out kr) (by decide) (fun K hK => ?_)
         obtain ⟨o2,hrun2,hM2⟩:=HST.out (Go.ChangeMaps.setBlock wd (ga + 1) o1) (wrap64 (nn + 1)) (setBlock_same wd o1 HMd.out.lt)
         refine skip_ (w1:=Go.ChangeMaps.setBlock (Go.ChangeMaps.setBlock wd (ga + 1) o1) (ga + 1) o2) (by rfl) rfl ?_ ?_
         ·unfold evI goInt at hrun2
          simp [execOp,Act.eval,hrun2,Result.andThen]
         refine hK.out _ _ ?_
         clear hK K
         refine done_ (done_of HT_.out kr) ?_
         go_wp2
         go_roundw
         case rel =>
          have hn1:=HN100.out
          have hw1 : wrap64 (nn + 1) = nn + 1:=by unfold wrap64;omega
          rw [hw1,HNN.out] at hM2
          exact ⟨j + 1,by omega,by push_cast;rfl,⟨by rw [HY.out,cntM_hit HXY.out];exact hM2⟩,⟨keep_setBlock _ (keep_setBlock _ HKd.out)⟩,⟨below_setBlock _ (below_setBlock _ HBd.out (by have:=HWG.out;omega)) (by have:=HWG.out;omega)⟩,⟨below_setBlock _ (below_setBlock _ HAd.out (by have:=HWR.out;omega)) (by have:=HWR.out;omega)⟩⟩
         case measure =>
          show ls.length - ((j : Int) + 1).toNat < ls.length - (j : Int).toNat
          omega
        ·have k1 : decide ((out.length : Int) < (y.length : Int)) = false:=by simp;omega
         have k2 : decide (out.length < y.length) = false:=by simp;omega
         go_wp2
         go_roundw
         case rel => exact ⟨j + 1,by omega,by push_cast;rfl,⟨by rw [HY.out,cntM_miss (by omega)];exact HMi.out.mono (Nat.le_succ j)⟩,HKi,HBi,HAi⟩
         case measure =>
          show ls.length - ((j : Int) + 1).toNat < ls.length - (j : Int).toNat
          omega
       ·obtain rfl : j = ls.length:=by omega
        have HMf:=am (show MapIs Try.prog 29 ev29 evI wi (ga + 1) ls.length (cntM ls out.length) by have:=HMi.out;rwa [List.take_length] at this)
        have HRi:=am (Kd.R_keep HR3.out HKi.out (fun k hk => by have:=hk.2;omega))
        have hgr : ga + 1 < wi.heap.size:=by have:=HSZ3.out;have:=HKi.out.1;omega
        have HGR:=am hgr
        have hmf : ∀ (fn : Fn) (first cap : Array Value) (w : World),(Instr.makeFunc fn first cap).run Try.prog w = .ok (.func fn first cap) w:=fun _ _ _ _ => rfl
        clear hgr
        go_wp2_with fail
        have hq2 : (l0.length : Int) / 2 = ((l0.length / 2 : Nat) : Int):=by omega
        rw [hq2]
        refine (frequent_calls _ _ _ _ _ HMf.out).mono ?_
        rintro e w4 ⟨hres,hd⟩
        have HB4:=am (below_then HBi.out (below_size HBi.out) hd)
        have HA4:=am (below_then HAi.out (below_size HAi.out) hd)
        have HS4:=am (Kd.R_below HSi.out hd)
        have HR4:=am (Kd.R_below HRi.out hd)
        have HBA4:=am (blk_below HBA.out hd)
        have HGR4:=am (show ga + 1 < w4.heap.size from Nat.lt_of_lt_of_le HGR.out hd.size)
        clear hd hq2
        rcases hres with ⟨x,yv,hMx,hgt,rfl⟩|⟨hMx,rfl⟩
        ·have hv : l0.length / 2 < votes ls out.length x:=by have:=cntM_some hMx;omega
         have HV:=am hv
         have HI64:=am (LeftOk.room HL.out hv)
         have HW5:=am (below_alloc (Below.refl w4.heap.size w4) (.cells #[.int .i64 x.f0,.int .i64 x.f1,.int .i64 x.f2,.int .i64 x.f3] 29))
         have BM5:=am (blk_new' w4 (.cells #[.int .i64 x.f0,.int .i64 x.f1,.int .i64 x.f2,.int .i64 x.f3] 29) w4.heap.size rfl)
         unfold ev29
         clear hMx hgt hv
         go_wp2_with (first
         |(at_builtin;refine maj_new (w:=wr) (g:=g) x rfl _ _ rfl rfl rfl (by simp) (below_then HA4.out (below_size HA4.out) HW5.out) (Kd.R_mono (Kd.R_below HR4.out HW5.out) (fun k hk => hk.1)) (by have:=HGG.out;have:=HGR4.out;simp;omega) HO.out ?_;intro v1 w6 hs6 hb6 hg6)
         |fail)
         have hown:=HR4.out.1
         have hx0:=HGR4.out
         have HS6:=am (Kd.R_grown (Kd.R_below HS4.out HW5.out) hg6 (fun k hk e_ => (hown k e_.symm).1 hk))
         have HBA6:=am (blk_grown (blk_alloc HBA4.out _) hg6 (fun e_ => Nat.lt_irrefl _ (hown ga e_.symm).2))
         have HBM6:=am (blk_grown BM5.out hg6 (fun e_ => by have h1:=(hown _ e_.symm).2;omega))
         obtain ⟨A9,c9,rfl⟩:=Kd.R_slice hs6
         have HR6:=am hs6
         have HA6:=am hb6
         have HGM:=am (show w4.heap.size ≠ g by have:=HGG.out;omega)
         have HG6:=am (show g < w6.heap.size by have h1:=hg6.size;have:=HGG.out;simp at h1;omega)
         clear hown hx0 hs6 hb6 hg6
         refine (delete90_calls wr ls g cap wr.heap.size (fun k => k = g) out.length x ga w4.heap.size w6 HS6.out HA6.out (by have:=HL.out.1;omega) hlc HG.out HBA6.out HBM6.out (by have:=HGG.out;omega) HGM.out).mono ?_
         rintro e w7 ⟨rfl,hs7,hk7,hb7⟩
         have HS7:=am hs7
         have HK7:=am hk7
         have HA7:=am hb7
         have HR7:=am (Kd.R_keep HR6.out hk7 (fun k hk => hk))
         have HG7:=am (Nat.lt_of_lt_of_le HG6.out hk7.1)
         have HB7:=am (below_then HBr.out (below_size HBr.out) hb7)
         clear hs7 hk7 hb7
         go_wp2
         go_roundw
         case rel =>
          have hi64:=HI64.out
          have h7:=HR7.out
          rw [List.length_append,List.length_singleton] at h7
          refine ⟨ls.filter (atE x out.length),out ++ [x],rfl,Nat.le_trans (List.length_filter_le _ _) hlc,⟨LeftOk.filter HL.out HV.out⟩,⟨by rw [List.length_append,List.length_singleton];omega⟩,HS7,⟨h7⟩,HG7,HB7,HA7,⟨?_⟩⟩
          have hj:=HJ.out
          rw [show 65 - out.length = (64 - out.length) + 1 by omega,majFrom_some (by have:=HL.out.1;omega) HV.out] at hj
          rw [List.length_append,List.length_singleton,show 65 - (out.length + 1) = 64 - out.length by omega]
          exact hj
         case measure =>
          have hi64:=HI64.out
          show 65 - (out.length + 1) < 65 - out.length
          omega
        ·have hj:=HJ.out
         rw [majFrom_none (cntM_none hMx)] at hj
         subst hj
         unfold ev29
         clear hMx
         go_wp2
         go_ret2
         exact ⟨_,rfl,Kd.R_mono (Kd.R_lower (Kd.R_below HR4.out (below_alloc (Below.refl _ _) _)) HWA.out) (fun _ _ => trivial),below_alloc HB4.out _⟩
section
attribute [local go_sem high] eqA29
def calxref08_SameBook.l0 : Nat → List (S29) → List (S29) → Int → Option (Bool)
|0,_,_,_ => none
|k + 1,x0,x1,x5 => if x5 < (x0.length : Int) then (if 0 ≤ x5 then (if x5 < (x1.length : Int) then (if (!(((rd_T29 x0 x5).f0) == ((rd_T29 x1 x5).f0)) || (!(((rd_T29 x0 x5).f1) == ((rd_T29 x1 x5).f1)) || (!(((rd_T29 x0 x5).f2) == ((rd_T29 x1 x5).f2)) || (!(((rd_T29 x0 x5).f3) == ((rd_T29 x1 x5).f3)))))) = true then (some false) else (calxref08_SameBook.l0 k x0 x1 (wrap64 (x5 + 1)))) else (none)) else (none)) else (some true)
def calxref08_SameBook.f (k : Nat) (l0 : List (S29)) (l1 : List (S29)) : Option (Bool):=if (l0.length : Int) = (l1.length : Int) then (calxref08_SameBook.l0 k l0 l1 0) else (some false)
set_option maxHeartbeats 8000000 in
set_option maxRecDepth 100000 in
theorem calxref08_SameBook.calls (k : Nat) (A0 : Option Addr) (c0 : Nat) (l0 : List (S29)) (A1 : Option Addr) (c1 : Nat) (l1 : List (S29)) (r : Bool) (w : World) (hr0 : Kd.C k29 w A0 l0.length l0) (hc0 : l0.length ≤ c0) (hr1 : Kd.C k29 w A1 l1.length l1) (hc1 : l1.length ≤ c1) (h : calxref08_SameBook.f k l0 l1 = some r) :
  Calls Try.prog 29 #[.slice A0 l0.length c0,.slice A1 l1.length c1] w fun e w' => e = .returned (.bool r) ∧ Drawn0 w w':=by
 have hu29:=Try.underlying29
 have HR0:=am hr0
 have HC0:=am hc0
 clear hr0 hc0
 have HR1:=am hr1
 have HC1:=am hc1
 clear hr1 hc1
 have H : (if (l0.length : Int) = (l1.length : Int) then (calxref08_SameBook.l0 k l0 l1 0) else (some false)) = some r:=h
 clear h
 by_cases c3 : (l0.length : Int) = (l1.length : Int)
 ·rw [if_pos c3] at H
  have c3b0 : ((l0.length : Int) == (l1.length : Int)) = true:=beq_iff_eq.mpr c3
  have c3b1 : ((l0.length : Int) != (l1.length : Int)) = false:=bne_eq_false_iff_eq.mpr c3
  have c3b2 : (l0.length == l1.length) = true:=by first|simpa using c3|(simp at c3 ⊢;omega)
  clear c3
  have H':=am H
  clear H
  go_enter Try.func29,Try.ntmps29
  go_wp2
  repeat (go_quiet (fail);try go_wp2)
  go_loopg [5] k (fun kq v5 w' => ∃ (x5_1 : Int),v5 = .int .i64 x5_1 ∧ Aside0 (calxref08_SameBook.l0 kq l0 l1 x5_1 = some r) ∧ Aside0 (kq ≤ k) ∧ Drawn0 w w')
  case atStart => exact ⟨(0),ve,H',⟨Nat.le_refl _⟩,by repeat (first|exact Drawn0.refl _|apply Drawn0.step)⟩
  case round =>
   clear H'
   try clear c1
   try clear c2
   try clear p2
   try clear c3
   try clear c3b0
   try clear c3b1
   try clear c3b2
   obtain ⟨x5_1,rfl,HA,HK1,⟨m1,rfl⟩⟩:=hrel
   cases gk with
  |zero => exact absurd HA.out (by simp [calxref08_SameBook.l0])
  |succ k1 =>
    have H:=HA.out
    clear HA
    simp only [calxref08_SameBook.l0] at H
    by_cases c4 : x5_1 < (l0.length : Int)
    ·rw [if_pos c4] at H
     have c4b0 : decide (x5_1 < (l0.length : Int)) = true:=decide_eq_true c4
     clear c4
     by_cases c5 : 0 ≤ x5_1
     ·rw [if_pos c5] at H
      have c5b0 : decide (0 ≤ x5_1) = true:=decide_eq_true c5
      clear c5
      by_cases c6 : x5_1 < (l1.length : Int)
      ·rw [if_pos c6] at H
       have c6b0 : decide (x5_1 < (l1.length : Int)) = true:=decide_eq_true c6
       clear c6
       by_cases c7 : (!(((rd_T29 l0 x5_1).f0) == ((rd_T29 l1 x5_1).f0)) || (!(((rd_T29 l0 x5_1).f1) == ((rd_T29 l1 x5_1).f1)) || (!(((rd_T29 l0 x5_1).f2) == ((rd_T29 l1 x5_1).f2)) || (!(((rd_T29 l0 x5_1).f3) == ((rd_T29 l1 x5_1).f3)))))) = true
       ·rw [if_pos c7] at H
        have c7b0 : (!(((rd_T29 l0 x5_1).f0) == ((rd_T29 l1 x5_1).f0)) || (!(((rd_T29 l0 x5_1).f1) == ((rd_T29 l1 x5_1).f1)) || (!(((rd_T29 l0 x5_1).f2) == ((rd_T29 l1 x5_1).f2)) || (!(((rd_T29 l0 x5_1).f3) == ((rd_T29 l1 x5_1).f3)))))) = true:=c7
        clear c7
        obtain rfl:=Option.some.inj H
        have p101 : 0 ≤ (x5_1 : Int):=of_decide_eq_true va
        have q101 : x5_1 < (l0.length : Int):=of_decide_eq_true va
        obtain ⟨ad101,e101,hx101_0,hx101_1,hx101_2,hx101_3⟩:=at_T29 HR0.out x5_1 p101 q101
        cases e101
        replace p101:=eq_true p101
        replace q101:=eq_true q101
        have p102 : 0 ≤ (x5_1 : Int):=of_decide_eq_true va
        have q102 : x5_1 < (l1.length : Int):=of_decide_eq_true va
        obtain ⟨ad102,e102,hx102_0,hx102_1,hx102_2,hx102_3⟩:=at_T29 HR1.out x5_1 p102 q102
        cases e102
        replace p102:=eq_true p102
        replace q102:=eq_true q102
        go_wp2
        repeat (go_quiet (fail);try go_wp2)
        go_ret
        exact ⟨ve,by repeat (first|exact Drawn0.refl _|apply Drawn0.step)⟩
       ·rw [if_neg c7] at H
        have c7b0 : (!(((rd_T29 l0 x5_1).f0) == ((rd_T29 l1 x5_1).f0)) || (!(((rd_T29 l0 x5_1).f1) == ((rd_T29 l1 x5_1).f1)) || (!(((rd_T29 l0 x5_1).f2) == ((rd_T29 l1 x5_1).f2)) || (!(((rd_T29 l0 x5_1).f3) == ((rd_T29 l1 x5_1).f3)))))) = false:=by simpa using c7
        clear c7
        have H':=am H
        clear H
        have p101 : 0 ≤ (x5_1 : Int):=of_decide_eq_true va
        have q101 : x5_1 < (l0.length : Int):=of_decide_eq_true va
        obtain ⟨ad101,e101,hx101_0,hx101_1,hx101_2,hx101_3⟩:=at_T29 HR0.out x5_1 p101 q101
        cases e101
        replace p101:=eq_true p101
        replace q101:=eq_true q101
        have p102 : 0 ≤ (x5_1 : Int):=of_decide_eq_true va
        have q102 : x5_1 < (l1.length : Int):=of_decide_eq_true va
        obtain ⟨ad102,e102,hx102_0,hx102_1,hx102_2,hx102_3⟩:=at_T29 HR1.out x5_1 p102 q102
        cases e102
        replace p102:=eq_true p102
        replace q102:=eq_true q102
        go_wp2
        repeat (go_quiet (fail);try go_wp2)
        go_roundg k1
        case measure => have:=HK1.out;omega
        case rel => exact ⟨(wrap64 (x5_1 + 1)),ve,H',⟨by have:=HK1.out;omega⟩,by repeat (first|exact Drawn0.refl _|apply Drawn0.step)⟩
      ·rw [if_neg c6] at H
       exact absurd H (by simp)
     ·rw [if_neg c5] at H
      exact absurd H (by simp)
    ·rw [if_neg c4] at H
     have c4b0 : decide (x5_1 < (l0.length : Int)) = false:=decide_eq_false c4
     clear c4
     obtain rfl:=Option.some.inj H
     go_wp2
     repeat (go_quiet (fail);try go_wp2)
     go_ret
     exact ⟨ve,by repeat (first|exact Drawn0.refl _|apply Drawn0.step)⟩
 ·rw [if_neg c3] at H
  have c3b0 : ((l0.length : Int) == (l1.length : Int)) = false:=beq_eq_false_iff_ne.mpr c3
  have c3b1 : ((l0.length : Int) != (l1.length : Int)) = true:=bne_iff_ne.mpr c3
  have c3b2 : (l0.length == l1.length) = false:=by first|simpa using c3|(simp at c3 ⊢;omega)
  obtain rfl:=Option.some.inj H
  go_enter Try.func29,Try.ntmps29
  go_wp2
  repeat (go_quiet (fail);try go_wp2)
  go_ret
  exact ⟨ve,by repeat (first|exact Drawn0.refl _|apply Drawn0.step)⟩
end
def book_Root.f (l0 : List (S29)) : Option (Int × Int):=(book_Check.f l0).bind fun t101 => (if t101 = 0 then ((book_root.f l0).bind fun t102 => (some (t102,0))) else (some (0,t101)))
set_option maxHeartbeats 8000000 in
set_option maxRecDepth 100000 in
theorem book_Root.calls (A0 : Option Addr) (c0 : Nat) (l0 : List (S29)) (r1 : Int) (r2 : Int) (w : World) (hr0 : Kd.C k29 w A0 l0.length l0) (hc0 : l0.length ≤ c0) (h : book_Root.f l0 = some (r1,r2)) :
  Calls Try.prog 32 #[.slice A0 l0.length c0] w fun e w' => e = .returned (.tuple #[.int .i64 r1,.int .i64 r2]) ∧ Below w.heap.size w w':=by
 have HR0:=am hr0
 have HC0:=am hc0
 clear hr0 hc0
 have HB:=am (Below.refl w.heap.size w)
 have H : ((book_Check.f l0).bind fun t101 => (if t101 = 0 then ((book_root.f l0).bind fun t102 => (some (t102,0))) else (some (0,t101)))) = some (r1,r2):=h
 clear h
 replace H:=Option.bind_eq_some_iff.mp H
 obtain ⟨t101,A20,H⟩:=H
 replace H : (if t101 = 0 then ((book_root.f l0).bind fun t102 => (some (t102,0))) else (some (0,t101))) = some (r1,r2):=H
 have A2:=am A20
 clear A20
 by_cases c3 : t101 = 0
 ·rw [if_pos c3] at H
  have c3b0 : (t101 == 0) = true:=beq_iff_eq.mpr c3
  have c3b1 : (t101 != 0) = false:=bne_eq_false_iff_eq.mpr c3
  clear c3
  replace H:=Option.bind_eq_some_iff.mp H
  obtain ⟨t102,A40,H⟩:=H
  replace H : (some (t102,0)) = some (r1,r2):=H
  have A4:=am A40
  clear A40
  simp only [Option.some.injEq,Prod.mk.injEq] at H
  obtain ⟨rfl,rfl⟩:=H
  go_enter Try.func32,Try.ntmps32
  go_wp2_with (first|((with_reducible refine gate_callee (f:=42) rfl ?_);refine goesL_ (some 6) rfl rfl Try.func42 kr rfl #[.slice A0 l0.length c0] rfl (by (try simp only [List.map_toArray,List.map_cons,List.map_nil]);first|done|rfl|(simp only [List.length_drop,List.length_take];rfl)) ?_;(with_reducible refine (book_Check.calls _ _ l0 t101 _ ?side1 ?side2 A2.out).mono ?_);(case side1 => repeat (first|exact HR0.out|(with_reducible refine Kd.C_alloc ?_ _)|(with_reducible refine Kd.C_drewN ?_ _)|(with_reducible refine Kd.C_drew ?_)));(case side2 => exact HC0.out);rintro e w5 ⟨rfl,hb⟩;refine ⟨_,rfl,?_⟩;have n0_:=am (below_step (v0 HB.out) hb);clear HB;have HB:=n0_;clear n0_;(try clear hb);(try clear hb2);(try clear hk);(try clear hi))|((with_reducible refine gate_callee (f:=91) rfl ?_);refine goesL_ (some 11) rfl rfl Try.func91 kr rfl #[.slice A0 l0.length c0] rfl (by (try simp only [List.map_toArray,List.map_cons,List.map_nil]);first|done|rfl|(simp only [List.length_drop,List.length_take];rfl)) ?_;(with_reducible refine (book_root.calls _ _ l0 t102 _ ?side1 ?side2 A4.out).mono ?_);(case side1 => repeat (first|exact (Kd.C_below HR0.out HB.out)|(with_reducible refine Kd.C_alloc ?_ _)|(with_reducible refine Kd.C_drewN ?_ _)|(with_reducible refine Kd.C_drew ?_)));(case side2 => exact HC0.out);rintro e w6 ⟨rfl,hb⟩;refine ⟨_,rfl,?_⟩;have n0_:=am (below_step (v0 HB.out) hb);clear HB;have HB:=n0_;clear n0_;(try clear hb);(try clear hb2);(try clear hk);(try clear hi)))
  go_ret2
  exact ⟨vf,v0 HB.out⟩
 ·rw [if_neg c3] at H
  have c3b0 : (t101 == 0) = false:=beq_eq_false_iff_ne.mpr c3
  have c3b1 : (t101 != 0) = true:=bne_iff_ne.mpr c3
  simp only [Option.some.injEq,Prod.mk.injEq] at H
  obtain ⟨rfl,rfl⟩:=H
  go_enter Try.func32,Try.ntmps32
  go_wp2_with (first|((with_reducible refine gate_callee (f:=42) rfl ?_);refine goesL_ (some 6) rfl rfl Try.func42 kr rfl #[.slice A0 l0.length c0] rfl (by (try simp only [List.map_toArray,List.map_cons,List.map_nil]);first|done|rfl|(simp only [List.length_drop,List.length_take];rfl)) ?_;(with_reducible refine (book_Check.calls _ _ l0 t101 _ ?side1 ?side2 A2.out).mono ?_);(case side1 => repeat (first|exact HR0.out|(with_reducible refine Kd.C_alloc ?_ _)|(with_reducible refine Kd.C_drewN ?_ _)|(with_reducible refine Kd.C_drew ?_)));(case side2 => exact HC0.out);rintro e w7 ⟨rfl,hb⟩;refine ⟨_,rfl,?_⟩;have n0_:=am (below_step (v0 HB.out) hb);clear HB;have HB:=n0_;clear n0_;(try clear hb);(try clear hb2);(try clear hk);(try clear hi)))
  go_ret2
  exact ⟨vf,v0 HB.out⟩
def book_Node.f (a0 : Int) (a1 : Int) (a2 : Int) : Option (Int × Int):=(book_within.f a0 2 64).bind fun t101 => (if t101 = true then ((book_isDigest.f a1).bind fun t102 => (if t102 = true then ((book_isDigest.f a2).bind fun t103 => (if t103 = true then ((book_node.f a0 a1 a2).bind fun t104 => (some (t104,0))) else (some (0,1)))) else (some (0,1)))) else (some (0,1)))
set_option maxHeartbeats 8000000 in
set_option maxRecDepth 100000 in
theorem book_Node.calls (a0 : Int) (a1 : Int) (a2 : Int) (r1 : Int) (r2 : Int) (w : World) (h : book_Node.f a0 a1 a2 = some (r1,r2)) :
  Calls Try.prog 34 #[.int .i64 a0,.int .i64 a1,.int .i64 a2] w fun e w' => e = .returned (.tuple #[.int .i64 r1,.int .i64 r2]) ∧ Below w.heap.size w w':=by
 have HB:=am (Below.refl w.heap.size w)
 have H : ((book_within.f a0 2 64).bind fun t101 => (if t101 = true then ((book_isDigest.f a1).bind fun t102 => (if t102 = true then ((book_isDigest.f a2).bind fun t103 => (if t103 = true then ((book_node.f a0 a1 a2).bind fun t104 => (some (t104,0))) else (some (0,1)))) else (some (0,1)))) else (some (0,1)))) = some (r1,r2):=h
 clear h
 replace H:=Option.bind_eq_some_iff.mp H
 obtain ⟨t101,A40,H⟩:=H
 replace H : (if t101 = true then ((book_isDigest.f a1).bind fun t102 => (if t102 = true then ((book_isDigest.f a2).bind fun t103 => (if t103 = true then ((book_node.f a0 a1 a2).bind fun t104 => (some (t104,0))) else (some (0,1)))) else (some (0,1)))) else (some (0,1))) = some (r1,r2):=H
 have A4:=am A40
 clear A40
 by_cases c5 : t101 = true
 ·subst c5
  have H1 : ((book_isDigest.f a1).bind fun t102 => (if t102 = true then ((book_isDigest.f a2).bind fun t103 => (if t103 = true then ((book_node.f a0 a1 a2).bind fun t104 => (some (t104,0))) else (some (0,1)))) else (some (0,1)))) = some (r1,r2):=by rw [if_pos rfl] at H;exact H
  clear H
  have H:=H1
  clear H1
  replace H:=Option.bind_eq_some_iff.mp H
  obtain ⟨t102,A60,H⟩:=H
  replace H : (if t102 = true then ((book_isDigest.f a2).bind fun t103 => (if t103 = true then ((book_node.f a0 a1 a2).bind fun t104 => (some (t104,0))) else (some (0,1)))) else (some (0,1))) = some (r1,r2):=H
  have A6:=am A60
  clear A60
  by_cases c7 : t102 = true
  ·subst c7
   have H1 : ((book_isDigest.f a2).bind fun t103 => (if t103 = true then ((book_node.f a0 a1 a2).bind fun t104 => (some (t104,0))) else (some (0,1)))) = some (r1,r2):=by rw [if_pos rfl] at H;exact H
   clear H
   have H:=H1
   clear H1
   replace H:=Option.bind_eq_some_iff.mp H
   obtain ⟨t103,A80,H⟩:=H
   replace H : (if t103 = true then ((book_node.f a0 a1 a2).bind fun t104 => (some (t104,0))) else (some (0,1))) = some (r1,r2):=H
   have A8:=am A80
   clear A80
   by_cases c9 : t103 = true
   ·subst c9
    have H1 : ((book_node.f a0 a1 a2).bind fun t104 => (some (t104,0))) = some (r1,r2):=by rw [if_pos rfl] at H;exact H
    clear H
    have H:=H1
    clear H1
    replace H:=Option.bind_eq_some_iff.mp H
    obtain ⟨t104,A100,H⟩:=H
    replace H : (some (t104,0)) = some (r1,r2):=H
    have A10:=am A100
    clear A100
    simp only [Option.some.injEq,Prod.mk.injEq] at H
    obtain ⟨rfl,rfl⟩:=H
    go_enter Try.func34,Try.ntmps34
    go_wp2_with (first|((with_reducible refine gate_callee (f:=86) rfl ?_);refine goesL_ (some 9) rfl rfl Try.func86 kr rfl #[.int .i64 a0,.int .i64 2,.int .i64 64] rfl (by (try simp only [List.map_toArray,List.map_cons,List.map_nil]);first|done|rfl|(simp only [List.length_drop,List.length_take];rfl)) ?_;(with_reducible refine (book_within.calls a0 2 64 true _ A4.out).mono ?_);rintro e w' ⟨rfl,⟨nd,rfl⟩⟩;refine ⟨_,rfl,?_⟩)|(go_at_call 92;(with_reducible refine (book_isDigest.calls a1 true _ A6.out).mono ?_);rintro e w' ⟨rfl,⟨nd,rfl⟩⟩)|(go_at_call 92;(with_reducible refine (book_isDigest.calls a2 true _ A8.out).mono ?_);rintro e w' ⟨rfl,⟨nd,rfl⟩⟩)|((with_reducible refine gate_callee (f:=93) rfl ?_);refine goesL_ (some 24) rfl rfl Try.func93 kr rfl #[.int .i64 a0,.int .i64 a1,.int .i64 a2] rfl (by (try simp only [List.map_toArray,List.map_cons,List.map_nil]);first|done|rfl|(simp only [List.length_drop,List.length_take];rfl)) ?_;(with_reducible refine (book_node.calls a0 a1 a2 t104 _ A10.out).mono ?_);rintro e w11 ⟨rfl,hb⟩;refine ⟨_,rfl,?_⟩;have n0_:=am (below_step (v0 HB.out) hb);clear HB;have HB:=n0_;clear n0_;(try clear hb);(try clear hb2);(try clear hk);(try clear hi)))
    go_ret2
    exact ⟨vf,v0 HB.out⟩
   ·replace c9:=Bool.eq_false_iff.mpr c9
    subst c9
    have H1 : (some (0,1)) = some (r1,r2):=by rw [if_neg (show ¬ (false = true) by decide)] at H;exact H
    clear H
    have H:=H1
    clear H1
    simp only [Option.some.injEq,Prod.mk.injEq] at H
    obtain ⟨rfl,rfl⟩:=H
    go_enter Try.func34,Try.ntmps34
    go_wp2_with (first|((with_reducible refine gate_callee (f:=86) rfl ?_);refine goesL_ (some 9) rfl rfl Try.func86 kr rfl #[.int .i64 a0,.int .i64 2,.int .i64 64] rfl (by (try simp only [List.map_toArray,List.map_cons,List.map_nil]);first|done|rfl|(simp only [List.length_drop,List.length_take];rfl)) ?_;(with_reducible refine (book_within.calls a0 2 64 true _ A4.out).mono ?_);rintro e w' ⟨rfl,⟨nd,rfl⟩⟩;refine ⟨_,rfl,?_⟩)|(go_at_call 92;(with_reducible refine (book_isDigest.calls a1 true _ A6.out).mono ?_);rintro e w' ⟨rfl,⟨nd,rfl⟩⟩)|(go_at_call 92;(with_reducible refine (book_isDigest.calls a2 false _ A8.out).mono ?_);rintro e w' ⟨rfl,⟨nd,rfl⟩⟩))
    go_ret2
    exact ⟨vf,v0 HB.out⟩
  ·replace c7:=Bool.eq_false_iff.mpr c7
   subst c7
   have H1 : (some (0,1)) = some (r1,r2):=by rw [if_neg (show ¬ (false = true) by decide)] at H;exact H
   clear H
   have H:=H1
   clear H1
   simp only [Option.some.injEq,Prod.mk.injEq] at H
   obtain ⟨rfl,rfl⟩:=H
   go_enter Try.func34,Try.ntmps34
   go_wp2_with (first|((with_reducible refine gate_callee (f:=86) rfl ?_);refine goesL_ (some 9) rfl rfl Try.func86 kr rfl #[.int .i64 a0,.int .i64 2,.int .i64 64] rfl (by (try simp only [List.map_toArray,List.map_cons,List.map_nil]);first|done|rfl|(simp only [List.length_drop,List.length_take];rfl)) ?_;(with_reducible refine (book_within.calls a0 2 64 true _ A4.out).mono ?_);rintro e w' ⟨rfl,⟨nd,rfl⟩⟩;refine ⟨_,rfl,?_⟩)|(go_at_call 92;(with_reducible refine (book_isDigest.calls a1 false _ A6.out).mono ?_);rintro e w' ⟨rfl,⟨nd,rfl⟩⟩))
   go_ret2
   exact ⟨vf,v0 HB.out⟩
 ·replace c5:=Bool.eq_false_iff.mpr c5
  subst c5
  have H1 : (some (0,1)) = some (r1,r2):=by rw [if_neg (show ¬ (false = true) by decide)] at H;exact H
  clear H
  have H:=H1
  clear H1
  simp only [Option.some.injEq,Prod.mk.injEq] at H
  obtain ⟨rfl,rfl⟩:=H
  go_enter Try.func34,Try.ntmps34
  go_wp2_with (first|((with_reducible refine gate_callee (f:=86) rfl ?_);refine goesL_ (some 9) rfl rfl Try.func86 kr rfl #[.int .i64 a0,.int .i64 2,.int .i64 64] rfl (by (try simp only [List.map_toArray,List.map_cons,List.map_nil]);first|done|rfl|(simp only [List.length_drop,List.length_take];rfl)) ?_;(with_reducible refine (book_within.calls a0 2 64 false _ A4.out).mono ?_);rintro e w' ⟨rfl,⟨nd,rfl⟩⟩;refine ⟨_,rfl,?_⟩))
  go_ret2
  exact ⟨vf,v0 HB.out⟩
def book_Leaf.f (a0_0 : Int) (a0_1 : Int) (a0_2 : Int) (a0_3 : Int) : Option (Int × Int):=(book_right.f a0_0 a0_1 a0_2 a0_3).bind fun t102 => (if t102 = true then ((book_leaf.f a0_0 a0_1 a0_2 a0_3).bind fun t103 => (some (t103,0))) else (some (0,1)))
set_option maxHeartbeats 8000000 in
set_option maxRecDepth 100000 in
theorem book_Leaf.calls (a0_0 : Int) (a0_1 : Int) (a0_2 : Int) (a0_3 : Int) (r1 : Int) (r2 : Int) (w : World) (h : book_Leaf.f a0_0 a0_1 a0_2 a0_3 = some (r1,r2)) :
  Calls Try.prog 37 #[.agg #[.int .i64 a0_0,.int .i64 a0_1,.int .i64 a0_2,.int .i64 a0_3]] w fun e w' => e = .returned (.tuple #[.int .i64 r1,.int .i64 r2]) ∧ Below w.heap.size w w':=by
 have hu29:=Try.underlying29
 have HB:=am (Below.refl w.heap.size w)
 have H : ((book_right.f a0_0 a0_1 a0_2 a0_3).bind fun t102 => (if t102 = true then ((book_leaf.f a0_0 a0_1 a0_2 a0_3).bind fun t103 => (some (t103,0))) else (some (0,1)))) = some (r1,r2):=h
 clear h
 replace H:=Option.bind_eq_some_iff.mp H
 obtain ⟨t102,A20,H⟩:=H
 replace H : (if t102 = true then ((book_leaf.f a0_0 a0_1 a0_2 a0_3).bind fun t103 => (some (t103,0))) else (some (0,1))) = some (r1,r2):=H
 have A2:=am A20
 clear A20
 by_cases c3 : t102 = true
 ·subst c3
  have H1 : ((book_leaf.f a0_0 a0_1 a0_2 a0_3).bind fun t103 => (some (t103,0))) = some (r1,r2):=by rw [if_pos rfl] at H;exact H
  clear H
  have H:=H1
  clear H1
  replace H:=Option.bind_eq_some_iff.mp H
  obtain ⟨t103,A40,H⟩:=H
  replace H : (some (t103,0)) = some (r1,r2):=H
  have A4:=am A40
  clear A40
  simp only [Option.some.injEq,Prod.mk.injEq] at H
  obtain ⟨rfl,rfl⟩:=H
  go_enter Try.func37,Try.ntmps37
  go_wp2_with (first|((with_reducible refine gate_dst (N:=1) rfl ?_);refine box_event ?hg (N:=1) ?hd (cs:=#[.int .i64 a0_0,.int .i64 a0_1,.int .i64 a0_2,.int .i64 a0_3]) (t:=29) ?hr ?_;(case hd => rfl);(case hg => rfl);(case hr => first|(go_simp;done)|(go_simp;rfl));intro gb101 hg w5 hbox hb;have n0_:=am (below_step (v0 HB.out) hb);have n1_:=am (hbox);have n2_:=am ((by rw [hg];exact (below_size (v0 HB.out)) : w.heap.size ≤ gb101));have n3_:=am ((by rw [hg];exact (below_size (v0 HB.out)) : w.heap.size ≤ gb101));clear HB;have HB:=n0_;have BK101:=n1_;have GW101:=n2_;have GE101:=n3_;clear n0_ n1_ n2_ n3_;clear hb hbox hg;have hcz6_0 : w5.cell? ⟨gb101,0,none⟩ = some (.int .i64 a0_0):=(blk_cell BK101.out 0).trans rfl;have hcz6_1 : w5.cell? ⟨gb101,1,none⟩ = some (.int .i64 a0_1):=(blk_cell BK101.out 1).trans rfl;have hcz6_2 : w5.cell? ⟨gb101,2,none⟩ = some (.int .i64 a0_2):=(blk_cell BK101.out 2).trans rfl;have hcz6_3 : w5.cell? ⟨gb101,3,none⟩ = some (.int .i64 a0_3):=(blk_cell BK101.out 3).trans rfl;have hfz6_0:=blk_frozen BK101.out 0;have hfz6_1:=blk_frozen BK101.out 1;have hfz6_2:=blk_frozen BK101.out 2;have hfz6_3:=blk_frozen BK101.out 3)|((with_reducible refine gate_callee (f:=99) rfl ?_);refine goesL_ (some 5) rfl rfl Try.func99 kr rfl #[.agg #[.int .i64 a0_0,.int .i64 a0_1,.int .i64 a0_2,.int .i64 a0_3]] rfl (by (try simp only [List.map_toArray,List.map_cons,List.map_nil]);first|done|rfl|(simp only [List.length_drop,List.length_take];rfl)) ?_;(with_reducible refine (book_right.calls a0_0 a0_1 a0_2 a0_3 true _ A2.out).mono ?_);rintro e w7 ⟨rfl,hb⟩;refine ⟨_,rfl,?_⟩;have n0_:=am (blk_below (g:=gb101) (o:=.cells #[.int .i64 a0_0,.int .i64 a0_1,.int .i64 a0_2,.int .i64 a0_3] 29 (0,0)) (vb BK101.out) hb);have n1_:=am (below_step (v1 HB.out GE101.out) hb);clear BK101;clear HB;have BK101:=n0_;have HB:=n1_;clear n0_ n1_;(try clear hb);(try clear hb2);(try clear hk);(try clear hi);have hcz8_0 : w7.cell? ⟨gb101,0,none⟩ = some (.int .i64 a0_0):=(blk_cell BK101.out 0).trans rfl;have hcz8_1 : w7.cell? ⟨gb101,1,none⟩ = some (.int .i64 a0_1):=(blk_cell BK101.out 1).trans rfl;have hcz8_2 : w7.cell? ⟨gb101,2,none⟩ = some (.int .i64 a0_2):=(blk_cell BK101.out 2).trans rfl;have hcz8_3 : w7.cell? ⟨gb101,3,none⟩ = some (.int .i64 a0_3):=(blk_cell BK101.out 3).trans rfl;have hfz8_0:=blk_frozen BK101.out 0;have hfz8_1:=blk_frozen BK101.out 1;have hfz8_2:=blk_frozen BK101.out 2;have hfz8_3:=blk_frozen BK101.out 3)|((with_reducible refine gate_callee (f:=100) rfl ?_);refine goesL_ (some 8) rfl rfl Try.func100 kr rfl #[.agg #[.int .i64 a0_0,.int .i64 a0_1,.int .i64 a0_2,.int .i64 a0_3]] rfl (by (try simp only [List.map_toArray,List.map_cons,List.map_nil]);first|done|rfl|(simp only [List.length_drop,List.length_take];rfl)) ?_;(with_reducible refine (book_leaf.calls a0_0 a0_1 a0_2 a0_3 t103 _ A4.out).mono ?_);rintro e w9 ⟨rfl,hb⟩;refine ⟨_,rfl,?_⟩;have n0_:=am (blk_below (g:=gb101) (o:=.cells #[.int .i64 a0_0,.int .i64 a0_1,.int .i64 a0_2,.int .i64 a0_3] 29 (0,0)) (vb BK101.out) hb);have n1_:=am (below_step (v1 HB.out GE101.out) hb);clear BK101;clear HB;have BK101:=n0_;have HB:=n1_;clear n0_ n1_;(try clear hb);(try clear hb2);(try clear hk);(try clear hi)))
  go_ret2
  exact ⟨vf,v1 HB.out GE101.out⟩
 ·replace c3:=Bool.eq_false_iff.mpr c3
  subst c3
  have H1 : (some (0,1)) = some (r1,r2):=by rw [if_neg (show ¬ (false = true) by decide)] at H;exact H
  clear H
  have H:=H1
  clear H1
  simp only [Option.some.injEq,Prod.mk.injEq] at H
  obtain ⟨rfl,rfl⟩:=H
  go_enter Try.func37,Try.ntmps37
  go_wp2_with (first|((with_reducible refine gate_dst (N:=1) rfl ?_);refine box_event ?hg (N:=1) ?hd (cs:=#[.int .i64 a0_0,.int .i64 a0_1,.int .i64 a0_2,.int .i64 a0_3]) (t:=29) ?hr ?_;(case hd => rfl);(case hg => rfl);(case hr => first|(go_simp;done)|(go_simp;rfl));intro gb101 hg w10 hbox hb;have n0_:=am (below_step (v0 HB.out) hb);have n1_:=am (hbox);have n2_:=am ((by rw [hg];exact (below_size (v0 HB.out)) : w.heap.size ≤ gb101));have n3_:=am ((by rw [hg];exact (below_size (v0 HB.out)) : w.heap.size ≤ gb101));clear HB;have HB:=n0_;have BK101:=n1_;have GW101:=n2_;have GE101:=n3_;clear n0_ n1_ n2_ n3_;clear hb hbox hg;have hcz11_0 : w10.cell? ⟨gb101,0,none⟩ = some (.int .i64 a0_0):=(blk_cell BK101.out 0).trans rfl;have hcz11_1 : w10.cell? ⟨gb101,1,none⟩ = some (.int .i64 a0_1):=(blk_cell BK101.out 1).trans rfl;have hcz11_2 : w10.cell? ⟨gb101,2,none⟩ = some (.int .i64 a0_2):=(blk_cell BK101.out 2).trans rfl;have hcz11_3 : w10.cell? ⟨gb101,3,none⟩ = some (.int .i64 a0_3):=(blk_cell BK101.out 3).trans rfl;have hfz11_0:=blk_frozen BK101.out 0;have hfz11_1:=blk_frozen BK101.out 1;have hfz11_2:=blk_frozen BK101.out 2;have hfz11_3:=blk_frozen BK101.out 3)|((with_reducible refine gate_callee (f:=99) rfl ?_);refine goesL_ (some 5) rfl rfl Try.func99 kr rfl #[.agg #[.int .i64 a0_0,.int .i64 a0_1,.int .i64 a0_2,.int .i64 a0_3]] rfl (by (try simp only [List.map_toArray,List.map_cons,List.map_nil]);first|done|rfl|(simp only [List.length_drop,List.length_take];rfl)) ?_;(with_reducible refine (book_right.calls a0_0 a0_1 a0_2 a0_3 false _ A2.out).mono ?_);rintro e w12 ⟨rfl,hb⟩;refine ⟨_,rfl,?_⟩;have n0_:=am (blk_below (g:=gb101) (o:=.cells #[.int .i64 a0_0,.int .i64 a0_1,.int .i64 a0_2,.int .i64 a0_3] 29 (0,0)) (vb BK101.out) hb);have n1_:=am (below_step (v1 HB.out GE101.out) hb);clear BK101;clear HB;have BK101:=n0_;have HB:=n1_;clear n0_ n1_;(try clear hb);(try clear hb2);(try clear hk);(try clear hi)))
  go_ret2
  exact ⟨vf,v1 HB.out GE101.out⟩
def knownStep (day n : Int) (x : S29) : Int:=if day < x.f0 then n else n + 1
def knownP (l : List S29) (day : Int) : Int:=l.foldl (knownStep day) 0
theorem fold_snoc {β : Type} (g : β → S29 → β) (b : β) (l : List S29) (j : Nat) (h : j < l.length) : (l.take (j + 1)).foldl g b = g ((l.take j).foldl g b) (l.getD j z29):=by
 rw [List.take_succ_eq_append_getElem h,List.foldl_append]
 simp [List.getD_eq_getElem?_getD,List.getElem?_eq_getElem h]
theorem knownP_bounds (l : List S29) (day : Int) : 0 ≤ knownP l day ∧ knownP l day ≤ l.length:=by
 suffices h : ∀ (l : List S29) (b : Int),b ≤ l.foldl (knownStep day) b ∧ l.foldl (knownStep day) b ≤ b + l.length by have:=h l 0;unfold knownP;omega
 intro l
 induction l with
|nil => intro b;simp
|cons x l ih =>
  intro b
  have h:=ih (knownStep day b x)
  have : knownStep day b x = b ∨ knownStep day b x = b + 1:=by unfold knownStep;split <;> simp
  simp only [List.foldl_cons,List.length_cons]
  omega
theorem known150_calls (n : Int) (x : S29) (day : Int) (g : Nat) (w : World) (BK : w.heap[g]? = some (.cells #[.int .i64 day] 3 (0,0))) (h0 : 0 ≤ n) (h1 : n < 9223372036854775807) :
  Calls Try.prog 150 #[.int .i64 n,.agg #[.int .i64 x.f0,.int .i64 x.f1,.int .i64 x.f2,.int .i64 x.f3],.pointer (some ⟨g,0,none⟩)] w fun e w' => e = .returned (.int .i64 (knownStep day n x)) ∧ Below w.heap.size w w':=by
 have hu29:=Try.underlying29
 have hc : ∀ o,(w.alloc o).cell? ⟨g,0,none⟩ = some (.int .i64 day):=fun o => (blk_cell (blk_alloc BK o) 0).trans rfl
 clear BK
 unfold knownStep
 by_cases hd : day < x.f0
 ·rw [if_pos hd]
  go_enter Try.func150,Try.ntmps150
  go_wp2
  go_ret
  exact ⟨rfl,below_alloc (Below.refl _ _) _⟩
 ·rw [if_neg hd]
  go_enter Try.func150,Try.ntmps150
  go_wp2
  go_ret
  exact ⟨rfl,below_alloc (Below.refl _ _) _⟩
set_option maxRecDepth 100000 in
set_option maxHeartbeats 1000000 in
theorem fold150_calls (A0 : Option Addr) (c0 : Nat) (l0 : List S29) (day : Int) (g : Nat) (w : World) (hr0 : Kd.C k29 w A0 l0.length l0) (hc0 : l0.length ≤ c0) (BK : w.heap[g]? = some (.cells #[.int .i64 day] 3 (0,0))) :
  Calls Try.prog 110 #[.slice A0 l0.length c0,.int .i64 0,.func (.func 150) #[] #[.pointer (some ⟨g,0,none⟩)]] w fun e w' => e = .returned (.int .i64 (knownP l0 day)) ∧ Below w.heap.size w w':=by
 have HR0:=am hr0
 have hm:=hr0.2.1
 have HBK:=am BK
 clear hr0 hc0 BK
 have hu29:=Try.underlying29
 go_enter Try.func110,Try.ntmps110
 go_wp2
 go_loopw [1,11] (fun v1 v11 wr => ∃ j : Nat,j ≤ l0.length ∧ v11 = .int .i64 (j : Int) ∧ v1 = .int .i64 (knownP (l0.take j) day) ∧ Aside0 (Below w.heap.size w wr)) (fun _ v11 _ => l0.length - (intOf v11).toNat)
 case atStart => exact ⟨0,Nat.zero_le _,rfl,rfl,⟨Below.refl _ _⟩⟩
 case round =>
  obtain ⟨j,hj,rfl,rfl,HBw⟩:=hrel
  by_cases hlt : j < l0.length
  ·obtain ⟨ad,e,hx0,hx1,hx2,hx3⟩:=at_T29 (Kd.C_below HR0.out HBw.out) (j : Int) (by omega) (by omega)
   cases e
   rw [Int.toNat_natCast] at hx0 hx1 hx2 hx3
   have hk:=knownP_bounds (l0.take j) day
   have hlen : (l0.take j).length = j:=by rw [List.length_take];omega
   have HS:=am (show knownP (l0.take (j + 1)) day = knownStep day (knownP (l0.take j) day) (rd_T29 l0 (j : Int)) from fold_snoc (knownStep day) 0 l0 j hlt)
   have HK0:=am hk.1
   have HK1:=am (show knownP (l0.take j) day < 9223372036854775807 by omega)
   clear hk hlen
   go_wp2_with (go_at_call 150;refine (known150_calls _ (rd_T29 l0 (j : Int)) day g _ (blk_alloc (blk_below HBK.out HBw.out) _) HK0.out HK1.out).mono ?_;rintro e w' ⟨rfl,hd⟩;have HD:=am hd;clear hd)
   go_roundw
   case rel => exact ⟨j + 1,by omega,by go_num,by rw [HS.out],⟨below_then (below_alloc HBw.out _) (below_size (below_alloc HBw.out _)) HD.out⟩⟩
   case measure => simp [intOf];omega
  ·go_wp2
   go_ret
   exact ⟨by rw [List.take_of_length_le (by omega)];rfl,HBw.out⟩
def book_known.f (l0 : List S29) (day : Int) : Option Int:=some (knownP l0 day)
set_option maxRecDepth 100000 in
theorem book_known.calls (A0 : Option Addr) (c0 : Nat) (l0 : List S29) (a1 : Int) (r : Int) (w : World) (hr0 : Kd.C k29 w A0 l0.length l0) (hc0 : l0.length ≤ c0) (h : book_known.f l0 a1 = some r) :
  Calls Try.prog 109 #[.slice A0 l0.length c0,.int .i64 a1] w fun e w' => e = .returned (.int .i64 r) ∧ Below w.heap.size w w':=by
 obtain rfl:=Option.some.inj h
 have HR0:=am hr0
 have HC0:=am hc0
 clear hr0 hc0 h
 have hmf : ∀ (fn : Fn) (first cap : Array Value) (w : World),(Instr.makeFunc fn first cap).run Try.prog w = .ok (.func fn first cap) w:=fun _ _ _ _ => rfl
 go_enter Try.func109,Try.ntmps109
 go_wp2_with (go_at_call 110;refine (fold150_calls _ _ l0 a1 w.heap.size _ (Kd.C_alloc HR0.out _) HC0.out (blk_new' _ _ _ rfl)).mono ?_;rintro e w' ⟨rfl,hd⟩;have HD:=am hd;clear hd)
 go_ret
 exact ⟨rfl,below_then (below_alloc (Below.refl _ _) _) (below_size (below_alloc (Below.refl _ _) _)) HD.out⟩
def totalStep (kind who n : Int) (x : S29) : Int:=if x.f1 = kind ∧ x.f2 = who then wrap64 (n + x.f3) else n
def totalP (l : List S29) (kind who : Int) : Int:=l.foldl (totalStep kind who) 0
theorem total111_calls (n : Int) (x : S29) (kind who : Int) (g g2 : Nat) (w : World) (BK : w.heap[g]? = some (.cells #[.int .i64 kind] 3 (0,0))) (BK2 : w.heap[g2]? = some (.cells #[.int .i64 who] 3 (0,0))) :
  Calls Try.prog 111 #[.int .i64 n,.agg #[.int .i64 x.f0,.int .i64 x.f1,.int .i64 x.f2,.int .i64 x.f3],.pointer (some ⟨g,0,none⟩),.pointer (some ⟨g2,0,none⟩)] w fun e w' => e = .returned (.int .i64 (totalStep kind who n x)) ∧ Below w.heap.size w w':=by
 have hu29:=Try.underlying29
 have hc : ∀ o,(w.alloc o).cell? ⟨g,0,none⟩ = some (.int .i64 kind):=fun o => (blk_cell (blk_alloc BK o) 0).trans rfl
 have hc2 : ∀ o,(w.alloc o).cell? ⟨g2,0,none⟩ = some (.int .i64 who):=fun o => (blk_cell (blk_alloc BK2 o) 0).trans rfl
 clear BK BK2
 unfold totalStep
 by_cases h1 : x.f1 = kind
 ·by_cases h2 : x.f2 = who
  ·rw [if_pos ⟨h1,h2⟩]
   have g1 : (x.f1 != kind) = false:=by simpa using h1
   have g2 : (x.f2 != who) = false:=by simpa using h2
   clear h1 h2
   go_enter Try.func111,Try.ntmps111
   go_wp2
   go_ret
   exact ⟨rfl,below_alloc (Below.refl _ _) _⟩
  ·rw [if_neg (fun h => h2 h.2)]
   have g1 : (x.f1 != kind) = false:=by simpa using h1
   have g2 : (x.f2 != who) = true:=by simpa using h2
   clear h1 h2
   go_enter Try.func111,Try.ntmps111
   go_wp2
   go_ret
   exact ⟨rfl,below_alloc (Below.refl _ _) _⟩
 ·rw [if_neg (fun h => h1 h.1)]
  have g1 : (x.f1 != kind) = true:=by simpa using h1
  clear h1
  go_enter Try.func111,Try.ntmps111
  go_wp2
  go_ret
  exact ⟨rfl,below_alloc (Below.refl _ _) _⟩
set_option maxRecDepth 100000 in
set_option maxHeartbeats 1000000 in
theorem fold111_calls (A0 : Option Addr) (c0 : Nat) (l0 : List S29) (kind who : Int) (g g2 : Nat) (w : World) (hr0 : Kd.C k29 w A0 l0.length l0) (hc0 : l0.length ≤ c0) (BK : w.heap[g]? = some (.cells #[.int .i64 kind] 3 (0,0))) (BK2 : w.heap[g2]? = some (.cells #[.int .i64 who] 3 (0,0))) :
  Calls Try.prog 110 #[.slice A0 l0.length c0,.int .i64 0,.func (.func 111) #[] #[.pointer (some ⟨g,0,none⟩),.pointer (some ⟨g2,0,none⟩)]] w fun e w' => e = .returned (.int .i64 (totalP l0 kind who)) ∧ Below w.heap.size w w':=by
 have HR0:=am hr0
 have hm:=hr0.2.1
 have HBK:=am BK
 have HBK2:=am BK2
 clear hr0 hc0 BK BK2
 have hu29:=Try.underlying29
 go_enter Try.func110,Try.ntmps110
 go_wp2
 go_loopw [1,11] (fun v1 v11 wr => ∃ j : Nat,j ≤ l0.length ∧ v11 = .int .i64 (j : Int) ∧ v1 = .int .i64 (totalP (l0.take j) kind who) ∧ Aside0 (Below w.heap.size w wr)) (fun _ v11 _ => l0.length - (intOf v11).toNat)
 case atStart => exact ⟨0,Nat.zero_le _,rfl,rfl,⟨Below.refl _ _⟩⟩
 case round =>
  obtain ⟨j,hj,rfl,rfl,HBw⟩:=hrel
  by_cases hlt : j < l0.length
  ·obtain ⟨ad,e,hx0,hx1,hx2,hx3⟩:=at_T29 (Kd.C_below HR0.out HBw.out) (j : Int) (by omega) (by omega)
   cases e
   rw [Int.toNat_natCast] at hx0 hx1 hx2 hx3
   have HS:=am (show totalP (l0.take (j + 1)) kind who = totalStep kind who (totalP (l0.take j) kind who) (rd_T29 l0 (j : Int)) from fold_snoc (totalStep kind who) 0 l0 j hlt)
   go_wp2_with (go_at_call 111;refine (total111_calls _ (rd_T29 l0 (j : Int)) kind who g g2 _ (blk_alloc (blk_below HBK.out HBw.out) _) (blk_alloc (blk_below HBK2.out HBw.out) _)).mono ?_;rintro e w' ⟨rfl,hd⟩;have HD:=am hd;clear hd)
   go_roundw
   case rel => exact ⟨j + 1,by omega,by go_num,by rw [HS.out],⟨below_then (below_alloc HBw.out _) (below_size (below_alloc HBw.out _)) HD.out⟩⟩
   case measure => simp [intOf];omega
  ·go_wp2
   go_ret
   exact ⟨by rw [List.take_of_length_le (by omega)];rfl,HBw.out⟩
def totalsP (l : List S29) (kind who day : Int) : Int × Int :=
 if checkP l = 0 then (if (0 ≤ kind ∧ kind ≤ 9) ∧ (0 ≤ who ∧ who ≤ 1048576) ∧ (0 ≤ day ∧ day ≤ 682) then (totalP (l.take (knownP l day).toNat) kind who,0) else (0,1)) else (0,checkP l)
def book_Total.f (l0 : List S29) (kind who day : Int) : Option (Int × Int):=some (totalsP l0 kind who day)
set_option maxRecDepth 100000 in
set_option maxHeartbeats 2000000 in
theorem book_Total.calls (A0 : Option Addr) (c0 : Nat) (l0 : List S29) (a1 a2 a3 : Int) (r1 r2 : Int) (w : World) (hr0 : Kd.C k29 w A0 l0.length l0) (hc0 : l0.length ≤ c0) (h : book_Total.f l0 a1 a2 a3 = some (r1,r2)) :
  Calls Try.prog 46 #[.slice A0 l0.length c0,.int .i64 a1,.int .i64 a2,.int .i64 a3] w fun e w' => e = .returned (.tuple #[.int .i64 r1,.int .i64 r2]) ∧ Below w.heap.size w w':=by
 have h':=Option.some.inj h
 clear h
 have HR0:=am hr0
 have HC0:=am hc0
 clear hr0 hc0
 have hn:=run_not
 have hmf : ∀ (fn : Fn) (first cap : Array Value) (w : World),(Instr.makeFunc fn first cap).run Try.prog w = .ok (.func fn first cap) w:=fun _ _ _ _ => rfl
 unfold totalsP at h'
 have B0:=am (below_alloc (below_alloc (Below.refl w.heap.size w) (.cells #[.int .i64 a1] 3)) (.cells #[.int .i64 a2] 3))
 have K0:=am (blk_alloc (blk_new' w (.cells #[.int .i64 a1] 3) w.heap.size rfl) (.cells #[.int .i64 a2] 3))
 have K1:=am (blk_new' (w.alloc (.cells #[.int .i64 a1] 3)) (.cells #[.int .i64 a2] 3) (w.heap.size + 1) (by simp))
 by_cases hc : checkP l0 = 0
 ·rw [if_pos hc] at h'
  have HCh:=am (show book_Check.f l0 = some 0 by unfold book_Check.f;rw [hc])
  clear hc
  by_cases h1 : 0 ≤ a1 ∧ a1 ≤ 9
  ·by_cases h2 : 0 ≤ a2 ∧ a2 ≤ 1048576
   ·by_cases h3 : 0 ≤ a3 ∧ a3 ≤ 682
    ·rw [if_pos ⟨h1,h2,h3⟩] at h'
     simp only [Prod.mk.injEq] at h'
     obtain ⟨rfl,rfl⟩:=h'
     have W1:=am (show book_within.f a1 0 9 = some true by rw [within_some,decide_eq_true h1])
     have W2:=am (show book_within.f a2 0 1048576 = some true by rw [within_some,decide_eq_true h2])
     have W3:=am (show book_within.f a3 0 682 = some true by rw [within_some,decide_eq_true h3])
     clear h1 h2 h3
     have hkb:=knownP_bounds l0 a3
     obtain ⟨i0,hi,_,hsz,_⟩:=info_parts info29
     obtain ⟨y,hy⟩ : ∃ y,y = l0.take (knownP l0 a3).toNat:=⟨_,rfl⟩
     have hyl : y.length = (knownP l0 a3).toNat:=by rw [hy,List.length_take];omega
     have hcut:=cut_to (P:=Try.prog) 32 29 .i64 Try.underlying32 hi A0 l0.length c0 (knownP l0 a3) hkb.1 hkb.2 HC0.out
     rw [← hyl] at hcut
     have HY:=am (show Kd.C k29 w A0 y.length y by rw [hy];exact Kd.C_take HR0.out (by omega))
     have HL:=am (show y.length ≤ c0 by have:=HC0.out;omega)
     rw [← hy]
     clear hi hsz hkb hy hyl
     go_enter Try.func46,Try.ntmps46
     go_wp2_with fail
     refine (book_Check.calls _ _ _ _ _ (Kd.C_alloc (Kd.C_alloc HR0.out _) _) HC0.out HCh.out).mono ?_
     rintro e w1 ⟨rfl,hd⟩
     have B1:=am (below_then B0.out (below_size B0.out) hd)
     have J0:=am (blk_below K0.out hd)
     have J1:=am (blk_below K1.out hd)
     have R1:=am (Kd.C_below HR0.out B1.out)
     have q0 : w1.cell? ⟨w.heap.size,0,none⟩ = some (.int .i64 a1):=(blk_cell J0.out 0).trans rfl
     have q1 : w1.cell? ⟨w.heap.size + 1,0,none⟩ = some (.int .i64 a2):=(blk_cell J1.out 0).trans rfl
     clear hd
     go_wp2_with fail
     refine (book_within.calls _ _ _ _ _ W1.out).mono ?_
     rintro e w' ⟨rfl,n1,rfl⟩
     go_wp2_with fail
     refine (book_within.calls _ _ _ _ _ W2.out).mono ?_
     rintro e w' ⟨rfl,n2,rfl⟩
     go_wp2_with fail
     refine (book_within.calls _ _ _ _ _ W3.out).mono ?_
     rintro e w' ⟨rfl,n3,rfl⟩
     go_wp2_with fail
     refine (book_known.calls _ _ l0 a3 _ _ ?hr HC0.out rfl).mono ?_
     case hr => repeat (first|exact R1.out|apply Kd.C_drewN)
     rintro e w3 ⟨rfl,hd⟩
     have hd' : Below w1.heap.size w1 w3:=below_then (pw_below_drewN (Below.refl _ _) _) (below_size (pw_below_drewN (Below.refl _ _) _)) hd
     have B3:=am (below_then B1.out (below_size B1.out) hd')
     have R3:=am (Kd.C_below HY.out B3.out)
     have L0:=am (blk_below J0.out hd')
     have L1:=am (blk_below J1.out hd')
     clear hd hd'
     go_wp2_with fail
     refine (fold111_calls _ _ y a1 a2 w.heap.size (w.heap.size + 1) _ R3.out HL.out L0.out L1.out).mono ?_
     rintro e w4 ⟨rfl,hd⟩
     have B4:=am (below_then B3.out (below_size B3.out) hd)
     clear hd
     go_wp2
     go_ret2
     exact ⟨rfl,B4.out⟩
    ·rw [if_neg (fun h => h3 h.2.2)] at h'
     simp only [Prod.mk.injEq] at h'
     obtain ⟨rfl,rfl⟩:=h'
     have W1:=am (show book_within.f a1 0 9 = some true by rw [within_some,decide_eq_true h1])
     have W2:=am (show book_within.f a2 0 1048576 = some true by rw [within_some,decide_eq_true h2])
     have W3:=am (show book_within.f a3 0 682 = some false by rw [within_some,decide_eq_false h3])
     clear h1 h2 h3
     go_enter Try.func46,Try.ntmps46
     go_wp2_with fail
     refine (book_Check.calls _ _ _ _ _ (Kd.C_alloc (Kd.C_alloc HR0.out _) _) HC0.out HCh.out).mono ?_
     rintro e w1 ⟨rfl,hd⟩
     have B1:=am (below_then B0.out (below_size B0.out) hd)
     have J0:=am (blk_below K0.out hd)
     have J1:=am (blk_below K1.out hd)
     have q0 : w1.cell? ⟨w.heap.size,0,none⟩ = some (.int .i64 a1):=(blk_cell J0.out 0).trans rfl
     have q1 : w1.cell? ⟨w.heap.size + 1,0,none⟩ = some (.int .i64 a2):=(blk_cell J1.out 0).trans rfl
     clear hd
     go_wp2_with fail
     refine (book_within.calls _ _ _ _ _ W1.out).mono ?_
     rintro e w' ⟨rfl,n1,rfl⟩
     go_wp2_with fail
     refine (book_within.calls _ _ _ _ _ W2.out).mono ?_
     rintro e w' ⟨rfl,n2,rfl⟩
     go_wp2_with fail
     refine (book_within.calls _ _ _ _ _ W3.out).mono ?_
     rintro e w' ⟨rfl,n3,rfl⟩
     go_wp2
     go_ret2
     exact ⟨rfl,pw_below_drewN B1.out _⟩
   ·rw [if_neg (fun h => h2 h.2.1)] at h'
    simp only [Prod.mk.injEq] at h'
    obtain ⟨rfl,rfl⟩:=h'
    have W1:=am (show book_within.f a1 0 9 = some true by rw [within_some,decide_eq_true h1])
    have W2:=am (show book_within.f a2 0 1048576 = some false by rw [within_some,decide_eq_false h2])
    clear h1 h2
    go_enter Try.func46,Try.ntmps46
    go_wp2_with fail
    refine (book_Check.calls _ _ _ _ _ (Kd.C_alloc (Kd.C_alloc HR0.out _) _) HC0.out HCh.out).mono ?_
    rintro e w1 ⟨rfl,hd⟩
    have B1:=am (below_then B0.out (below_size B0.out) hd)
    have J0:=am (blk_below K0.out hd)
    have J1:=am (blk_below K1.out hd)
    have q0 : w1.cell? ⟨w.heap.size,0,none⟩ = some (.int .i64 a1):=(blk_cell J0.out 0).trans rfl
    have q1 : w1.cell? ⟨w.heap.size + 1,0,none⟩ = some (.int .i64 a2):=(blk_cell J1.out 0).trans rfl
    clear hd
    go_wp2_with fail
    refine (book_within.calls _ _ _ _ _ W1.out).mono ?_
    rintro e w' ⟨rfl,n1,rfl⟩
    go_wp2_with fail
    refine (book_within.calls _ _ _ _ _ W2.out).mono ?_
    rintro e w' ⟨rfl,n2,rfl⟩
    go_wp2
    go_ret2
    exact ⟨rfl,pw_below_drewN B1.out _⟩
  ·rw [if_neg (fun h => h1 h.1)] at h'
   simp only [Prod.mk.injEq] at h'
   obtain ⟨rfl,rfl⟩:=h'
   have W1:=am (show book_within.f a1 0 9 = some false by rw [within_some,decide_eq_false h1])
   clear h1
   go_enter Try.func46,Try.ntmps46
   go_wp2_with fail
   refine (book_Check.calls _ _ _ _ _ (Kd.C_alloc (Kd.C_alloc HR0.out _) _) HC0.out HCh.out).mono ?_
   rintro e w1 ⟨rfl,hd⟩
   have B1:=am (below_then B0.out (below_size B0.out) hd)
   have J0:=am (blk_below K0.out hd)
   have J1:=am (blk_below K1.out hd)
   have q0 : w1.cell? ⟨w.heap.size,0,none⟩ = some (.int .i64 a1):=(blk_cell J0.out 0).trans rfl
   have q1 : w1.cell? ⟨w.heap.size + 1,0,none⟩ = some (.int .i64 a2):=(blk_cell J1.out 0).trans rfl
   clear hd
   go_wp2_with fail
   refine (book_within.calls _ _ _ _ _ W1.out).mono ?_
   rintro e w' ⟨rfl,n1,rfl⟩
   go_wp2
   go_ret2
   exact ⟨rfl,pw_below_drewN B1.out _⟩
 ·rw [if_neg hc] at h'
  simp only [Prod.mk.injEq] at h'
  obtain ⟨rfl,rfl⟩:=h'
  have g1 : (checkP l0 != 0) = true:=by simpa using hc
  have HCh:=am (show book_Check.f l0 = some (checkP l0) from rfl)
  clear hc
  go_enter Try.func46,Try.ntmps46
  go_wp2_with (go_at_call 42;refine (book_Check.calls _ _ _ _ _ (Kd.C_alloc (Kd.C_alloc HR0.out _) _) HC0.out HCh.out).mono ?_;rintro e w' ⟨rfl,hd⟩;have HD:=am hd;clear hd)
  go_ret2
  exact ⟨rfl,below_then B0.out (below_size B0.out) HD.out⟩
def book_Stands.f (k : Nat) (l0 : List (S29)) (a1 : Int) : Option ((List (S129)) × Int):=(book_Check.f l0).bind fun t101 => (if t101 = 0 then ((book_within.f a1 0 (wrap64 ((l0.length : Int) - 1))).bind fun t102 => (if t102 = true then ((book_siblings.f (l0.length : Int) a1).bind fun t103 => ((book_twigs.f k l0 t103).bind fun t106 => (some (t106,0)))) else (some (([] : List (S129)),1)))) else (some (([] : List (S129)),t101)))
theorem book_Stands.mono : ∀ a0 a1 k,LeO (book_Stands.f k a0 a1) (book_Stands.f (k + 1) a0 a1):=by
 intro a0 a1 k
 unfold book_Stands.f
 repeat' first
  |(with_reducible exact book_twigs.mono _ _ _)
  |(with_reducible exact LeO.refl _)
  |(with_reducible exact LeO.none _)
  |(with_reducible refine LeO.ite ?_ ?_)
  |(with_reducible refine LeO.bind ?_ (fun _ => ?_))
  |exact book_twigs.mono _ _ _
  |exact LeO.none _
  |refine LeO.ite ?_ ?_
  |refine LeO.bind ?_ (fun _ => ?_)
set_option maxHeartbeats 8000000 in
set_option maxRecDepth 100000 in
theorem book_Stands.calls (k : Nat) (A0 : Option Addr) (c0 : Nat) (l0 : List (S29)) (a1 : Int) (r1 : List (S129)) (r2 : Int) (w : World) (hr0 : Kd.C k29 w A0 l0.length l0) (hc0 : l0.length ≤ c0) (h : book_Stands.f k l0 a1 = some (r1,r2)) :
  Calls Try.prog 53 #[.slice A0 l0.length c0,.int .i64 a1] w fun e w' => ∃ v0_ : Value,e = .returned (.tuple #[v0_,.int .i64 r2]) ∧ Kd.R k129 129 w' w.heap.size (fun _ => True) v0_ r1 ∧ Below w.heap.size w w':=by
 have HR0:=am hr0
 have HC0:=am hc0
 clear hr0 hc0
 have HB:=am (Below.refl w.heap.size w)
 have H : ((book_Check.f l0).bind fun t101 => (if t101 = 0 then ((book_within.f a1 0 (wrap64 ((l0.length : Int) - 1))).bind fun t102 => (if t102 = true then ((book_siblings.f (l0.length : Int) a1).bind fun t103 => ((book_twigs.f k l0 t103).bind fun t106 => (some (t106,0)))) else (some (([] : List (S129)),1)))) else (some (([] : List (S129)),t101)))) = some (r1,r2):=h
 clear h
 replace H:=Option.bind_eq_some_iff.mp H
 obtain ⟨t101,A30,H⟩:=H
 replace H : (if t101 = 0 then ((book_within.f a1 0 (wrap64 ((l0.length : Int) - 1))).bind fun t102 => (if t102 = true then ((book_siblings.f (l0.length : Int) a1).bind fun t103 => ((book_twigs.f k l0 t103).bind fun t106 => (some (t106,0)))) else (some (([] : List (S129)),1)))) else (some (([] : List (S129)),t101))) = some (r1,r2):=H
 have A3:=am A30
 clear A30
 by_cases c4 : t101 = 0
 ·rw [if_pos c4] at H
  have c4b0 : (t101 == 0) = true:=beq_iff_eq.mpr c4
  have c4b1 : (t101 != 0) = false:=bne_eq_false_iff_eq.mpr c4
  clear c4
  replace H:=Option.bind_eq_some_iff.mp H
  obtain ⟨t102,A50,H⟩:=H
  replace H : (if t102 = true then ((book_siblings.f (l0.length : Int) a1).bind fun t103 => ((book_twigs.f k l0 t103).bind fun t106 => (some (t106,0)))) else (some (([] : List (S129)),1))) = some (r1,r2):=H
  have A5:=am A50
  clear A50
  by_cases c6 : t102 = true
  ·subst c6
   have H1 : ((book_siblings.f (l0.length : Int) a1).bind fun t103 => ((book_twigs.f k l0 t103).bind fun t106 => (some (t106,0)))) = some (r1,r2):=by rw [if_pos rfl] at H;exact H
   clear H
   have H:=H1
   clear H1
   replace H:=Option.bind_eq_some_iff.mp H
   obtain ⟨t103,A70,H⟩:=H
   replace H : ((book_twigs.f k l0 t103).bind fun t106 => (some (t106,0))) = some (r1,r2):=H
   have A7:=am A70
   clear A70
   replace H:=Option.bind_eq_some_iff.mp H
   obtain ⟨t106,A80,H⟩:=H
   replace H : (some (t106,0)) = some (r1,r2):=H
   have A8:=am A80
   clear A80
   simp only [Option.some.injEq,Prod.mk.injEq] at H
   obtain ⟨rfl,rfl⟩:=H
   go_enter Try.func53,Try.ntmps53
   go_wp2_with (first|((with_reducible refine gate_callee (f:=42) rfl ?_);refine goesL_ (some 8) rfl rfl Try.func42 kr rfl #[.slice A0 l0.length c0] rfl (by (try simp only [List.map_toArray,List.map_cons,List.map_nil]);first|done|rfl|(simp only [List.length_drop,List.length_take];rfl)) ?_;(with_reducible refine (book_Check.calls _ _ l0 t101 _ ?side1 ?side2 A3.out).mono ?_);(case side1 => repeat (first|exact HR0.out|(with_reducible refine Kd.C_alloc ?_ _)|(with_reducible refine Kd.C_drewN ?_ _)|(with_reducible refine Kd.C_drew ?_)));(case side2 => exact HC0.out);rintro e w9 ⟨rfl,hb⟩;refine ⟨_,rfl,?_⟩;have n0_:=am (below_step (v0 HB.out) hb);clear HB;have HB:=n0_;clear n0_;(try clear hb);(try clear hb2);(try clear hk);(try clear hi))|((with_reducible refine gate_callee (f:=86) rfl ?_);refine goesL_ (some 16) rfl rfl Try.func86 kr rfl #[.int .i64 a1,.int .i64 0,.int .i64 (wrap64 ((l0.length : Int) - 1))] rfl (by (try simp only [List.map_toArray,List.map_cons,List.map_nil]);first|done|rfl|(simp only [List.length_drop,List.length_take];rfl)) ?_;(with_reducible refine (book_within.calls a1 0 (wrap64 ((l0.length : Int) - 1)) true _ A5.out).mono ?_);rintro e w' ⟨rfl,⟨nd,rfl⟩⟩;refine ⟨_,rfl,?_⟩)|((with_reducible refine gate_callee (f:=122) rfl ?_);refine goesL_ (some 22) rfl rfl Try.func122 kr rfl #[.int .i64 (l0.length : Int),.int .i64 a1] rfl (by (try simp only [List.map_toArray,List.map_cons,List.map_nil]);first|done|rfl|(simp only [List.length_drop,List.length_take];rfl)) ?_;(with_reducible refine (book_siblings.calls (l0.length : Int) a1 t103 _ A7.out).mono ?_);rintro e w10 ⟨v104,rfl,ho0,hb⟩;refine ⟨_,rfl,?_⟩;have n0_:=am (Kd.R_lower ho0 (below_size (v0 HB.out)));have n1_:=am (below_step (v0 HB.out) hb);clear HB;have HO105:=n0_;have HB:=n1_;clear n0_ n1_;(try clear hb);(try clear hb2);(try clear hk);(try clear hi);(try clear ho0);obtain ⟨Ao11,co11,eo11⟩:=Kd.R_slice HO105.out;subst eo11)|((with_reducible refine gate_callee (f:=121) rfl ?_);refine goesL_ (some 23) rfl rfl Try.func121 kr rfl #[.slice A0 l0.length c0,.slice Ao11 t103.length co11] rfl (by (try simp only [List.map_toArray,List.map_cons,List.map_nil]);first|done|rfl|(simp only [List.length_drop,List.length_take];rfl)) ?_;(with_reducible refine (book_twigs.calls k _ _ l0 _ _ t103 t106 _ ?side1 ?side2 ?side3 ?side4 A8.out).mono ?_);(case side1 => repeat (first|exact (Kd.C_below HR0.out HB.out)|(with_reducible refine Kd.C_alloc ?_ _)|(with_reducible refine Kd.C_drewN ?_ _)|(with_reducible refine Kd.C_drew ?_)));(case side2 => exact HC0.out);(case side3 => repeat (first|exact (Kd.R_reads' HO105.out).2.2|(with_reducible refine Kd.C_alloc ?_ _)|(with_reducible refine Kd.C_drewN ?_ _)|(with_reducible refine Kd.C_drew ?_)));(case side4 => exact (Kd.R_reads' HO105.out).2.1);rintro e w12 ⟨v107,rfl,ho0,hb⟩;refine ⟨_,rfl,?_⟩;have n0_:=am (Kd.R_below (by (with_reducible repeat (first|apply Kd.R_alloc|apply Kd.R_drewN|apply Kd.R_drew));exact HO105.out) hb);have n1_:=am (Kd.R_lower ho0 (below_size (v0 HB.out)));have n2_:=am (below_step (v0 HB.out) hb);clear HO105;clear HB;have HO105:=n0_;have HO108:=n1_;have HB:=n2_;clear n0_ n1_ n2_;(try clear hb);(try clear hb2);(try clear hk);(try clear hi);(try clear ho0)))
   go_ret2
   exact ⟨_,vf,by (with_reducible repeat (first|apply Kd.R_alloc|apply Kd.R_drewN|apply Kd.R_drew));exact HO108.out,v0 HB.out⟩
  ·replace c6:=Bool.eq_false_iff.mpr c6
   subst c6
   have H1 : (some (([] : List (S129)),1)) = some (r1,r2):=by rw [if_neg (show ¬ (false = true) by decide)] at H;exact H
   clear H
   have H:=H1
   clear H1
   simp only [Option.some.injEq,Prod.mk.injEq] at H
   obtain ⟨rfl,rfl⟩:=H
   go_enter Try.func53,Try.ntmps53
   go_wp2_with (first|((with_reducible refine gate_callee (f:=42) rfl ?_);refine goesL_ (some 8) rfl rfl Try.func42 kr rfl #[.slice A0 l0.length c0] rfl (by (try simp only [List.map_toArray,List.map_cons,List.map_nil]);first|done|rfl|(simp only [List.length_drop,List.length_take];rfl)) ?_;(with_reducible refine (book_Check.calls _ _ l0 t101 _ ?side1 ?side2 A3.out).mono ?_);(case side1 => repeat (first|exact HR0.out|(with_reducible refine Kd.C_alloc ?_ _)|(with_reducible refine Kd.C_drewN ?_ _)|(with_reducible refine Kd.C_drew ?_)));(case side2 => exact HC0.out);rintro e w13 ⟨rfl,hb⟩;refine ⟨_,rfl,?_⟩;have n0_:=am (below_step (v0 HB.out) hb);clear HB;have HB:=n0_;clear n0_;(try clear hb);(try clear hb2);(try clear hk);(try clear hi))|((with_reducible refine gate_callee (f:=86) rfl ?_);refine goesL_ (some 16) rfl rfl Try.func86 kr rfl #[.int .i64 a1,.int .i64 0,.int .i64 (wrap64 ((l0.length : Int) - 1))] rfl (by (try simp only [List.map_toArray,List.map_cons,List.map_nil]);first|done|rfl|(simp only [List.length_drop,List.length_take];rfl)) ?_;(with_reducible refine (book_within.calls a1 0 (wrap64 ((l0.length : Int) - 1)) false _ A5.out).mono ?_);rintro e w' ⟨rfl,⟨nd,rfl⟩⟩;refine ⟨_,rfl,?_⟩))
   go_ret2
   exact ⟨_,vf,by first|exact Kd.R_nil _ _ _ _ _|exact Kd.N_nil _ _ _ _ _|exact Kd.V_nil _ _ _ _ _|exact Kd.Q_nil _ _ _ _ _|exact Kd.S_nil _ _ _ _ _,v0 HB.out⟩
 ·rw [if_neg c4] at H
  have c4b0 : (t101 == 0) = false:=beq_eq_false_iff_ne.mpr c4
  have c4b1 : (t101 != 0) = true:=bne_iff_ne.mpr c4
  simp only [Option.some.injEq,Prod.mk.injEq] at H
  obtain ⟨rfl,rfl⟩:=H
  go_enter Try.func53,Try.ntmps53
  go_wp2_with (first|((with_reducible refine gate_callee (f:=42) rfl ?_);refine goesL_ (some 8) rfl rfl Try.func42 kr rfl #[.slice A0 l0.length c0] rfl (by (try simp only [List.map_toArray,List.map_cons,List.map_nil]);first|done|rfl|(simp only [List.length_drop,List.length_take];rfl)) ?_;(with_reducible refine (book_Check.calls _ _ l0 t101 _ ?side1 ?side2 A3.out).mono ?_);(case side1 => repeat (first|exact HR0.out|(with_reducible refine Kd.C_alloc ?_ _)|(with_reducible refine Kd.C_drewN ?_ _)|(with_reducible refine Kd.C_drew ?_)));(case side2 => exact HC0.out);rintro e w14 ⟨rfl,hb⟩;refine ⟨_,rfl,?_⟩;have n0_:=am (below_step (v0 HB.out) hb);clear HB;have HB:=n0_;clear n0_;(try clear hb);(try clear hb2);(try clear hk);(try clear hi)))
  go_ret2
  exact ⟨_,vf,by first|exact Kd.R_nil _ _ _ _ _|exact Kd.N_nil _ _ _ _ _|exact Kd.V_nil _ _ _ _ _|exact Kd.Q_nil _ _ _ _ _|exact Kd.S_nil _ _ _ _ _,v0 HB.out⟩
mutual
def book_parted.j0 : Nat → Int → Bool → Int → Int → Option ((List (S164)))
|0,_,_,_,_ => none
|k + 1,x1,x19,x102000,x102001 => if x19 = true then (some (([(⟨x102000,x102001⟩ : S164)] : List (S164)))) else ((book_tree_halves.f k x102000 x102001).bind fun bt105 => ((book_parted.f k bt105.1 bt105.2.1 x1).bind fun t111 => ((book_parted.f k bt105.2.2.1 bt105.2.2.2 x1).bind fun t114 => (if t111.length + t114.length < 8796093022208 then (some (t111 ++ t114)) else (none)))))
def book_parted.f : Nat → Int → Int → Int → Option ((List (S164)))
|0,_,_,_ => none
|k + 1,a0_0,a0_1,a1 => if (wrap64 (a0_0 + a0_1)) ≤ a1 then (book_parted.j0 k a1 true a0_0 a0_1) else (book_parted.j0 k a1 (decide (a0_0 ≥ a1)) a0_0 a0_1)
end
def book_parted.T4 : Bool × List (List Nat × List Nat):=(true,[([],[]),([],[]),([0,1],[0,1]),([],[]),([],[]),([3,4,2],[3,4]),([2,5,5],[2,5]),([6,6,0,1,2,3,4,5,6],[6])])
def book_parted.B4 : List Nat:=[0,0,3,0,0,31,63,127]
theorem book_parted.tab4 : rtab .any (opsOf Try.f125 4) = book_parted.T4:=by kernel_rfl
theorem book_parted.bits4 : waitsOk book_parted.T4.2 book_parted.B4 = true:=by kernel_rfl
set_option maxHeartbeats 8000000 in
set_option maxRecDepth 100000 in
theorem book_parted.calls (k : Nat) : ∀ (a0_0 : Int) (a0_1 : Int) (a1 : Int) (r : List (S164)) (w : World) (h : book_parted.f k a0_0 a0_1 a1 = some r),
  Calls Try.prog 125 #[.agg #[.int .i64 a0_0,.int .i64 a0_1],.int .i64 a1] w fun e w' => ∃ v0_ : Value,e = .returned (v0_) ∧ Kd.R k164 164 w' w.heap.size (fun _ => True) v0_ r ∧ Below w.heap.size w w':=by
 induction k using Nat.strongRecOn with
|_ k ih =>
 intro a0_0 a0_1 a1 r w h
 cases k with
|zero => exact absurd h (by simp [book_parted.f])
|succ k =>
 simp only [book_parted.f] at h
 have hu164:=Try.underlying164
 have HB:=am (Below.refl w.heap.size w)
 have H : (if (wrap64 (a0_0 + a0_1)) ≤ a1 then (book_parted.j0 k a1 true a0_0 a0_1) else (book_parted.j0 k a1 (decide (a0_0 ≥ a1)) a0_0 a0_1)) = some r:=h
 clear h
 have HC3:=am H
 clear H
 go_enter Try.func125,Try.ntmps125
 go_upto_region 1 with (first|((with_reducible refine gate_dst (N:=2) rfl ?_);refine box_event ?hg (N:=2) ?hd (cs:=#[.int .i64 a0_0,.int .i64 a0_1]) (t:=164) ?hr ?_;(case hd => rfl);(case hg => rfl);(case hr => first|(go_simp;done)|(go_simp;rfl));intro gb101 hg w4 hbox hb;have n0_:=am (below_step (v0 HB.out) hb);have n1_:=am (hbox);have n2_:=am ((by rw [hg];exact (below_size (v0 HB.out)) : w.heap.size ≤ gb101));have n3_:=am ((by rw [hg];exact (below_size (v0 HB.out)) : w.heap.size ≤ gb101));clear HB;have HB:=n0_;have BK101:=n1_;have GW101:=n2_;have GE101:=n3_;clear n0_ n1_ n2_ n3_;clear hb hbox hg))
 (try simp only [Act.put,List.setIfInBounds_toArray,List.set_cons_zero,List.set_cons_succ])
 go_cut [19] (fun v19 wc => ∃ (kq : Nat) (x19_2 : Bool),v19 = .bool x19_2 ∧ Aside0 (book_parted.j0 kq a1 x19_2 a0_0 a0_1 = some r) ∧ Aside0 (kq ≤ k) ∧ Aside0 (wc.heap[gb101]? = some (.cells #[.int .i64 a0_0,.int .i64 a0_1] 164 (0,0))) ∧ Aside0 (Below w.heap.size w wc))
 case first =>
  have H:=HC3.out
  clear HC3
  by_cases c5 : (wrap64 (a0_0 + a0_1)) ≤ a1
  ·rw [if_pos c5] at H
   have c5b0 : decide ((wrap64 (a0_0 + a0_1)) ≤ a1) = true:=decide_eq_true c5
   clear c5
   (first|rw [c5b0]|(simp only [i64_w,i32_w];rw [c5b0])|skip)
   have H':=am H
   clear H
   have hcz6_0 : w4.cell? ⟨gb101,0,none⟩ = some (.int .i64 a0_0):=(blk_cell BK101.out 0).trans rfl
   have hcz6_1 : w4.cell? ⟨gb101,1,none⟩ = some (.int .i64 a0_1):=(blk_cell BK101.out 1).trans rfl
   have hfz6_0:=blk_frozen BK101.out 0
   have hfz6_1:=blk_frozen BK101.out 1
   go_wp2
   go_meet
   case rel => exact ⟨_,(true),ve,H',⟨by first|omega|exact Nat.le_refl _⟩,⟨vb BK101.out⟩,⟨v1 HB.out GE101.out⟩⟩
  ·rw [if_neg c5] at H
   have c5b0 : decide ((wrap64 (a0_0 + a0_1)) ≤ a1) = false:=decide_eq_false c5
   clear c5
   (first|rw [c5b0]|(simp only [i64_w,i32_w];rw [c5b0])|skip)
   have H':=am H
   clear H
   have hcz7_0 : w4.cell? ⟨gb101,0,none⟩ = some (.int .i64 a0_0):=(blk_cell BK101.out 0).trans rfl
   have hcz7_1 : w4.cell? ⟨gb101,1,none⟩ = some (.int .i64 a0_1):=(blk_cell BK101.out 1).trans rfl
   have hfz7_0:=blk_frozen BK101.out 0
   have hfz7_1:=blk_frozen BK101.out 1
   go_wp2
   go_meet
   case rel => exact ⟨_,(decide (a0_0 ≥ a1)),ve,H',⟨by first|omega|exact Nat.le_refl _⟩,⟨vb BK101.out⟩,⟨v1 HB.out GE101.out⟩⟩
 case rest =>
  clear HC3
  try clear c1
  try clear p2
  try clear c5
  try clear c5b0
  try clear p6
  try clear hcz6_0
  try clear hcz6_1
  try clear hcz7_0
  try clear hcz7_1
  try clear hfz6_0
  try clear hfz6_1
  try clear hfz7_0
  try clear hfz7_1
  obtain ⟨kq,x19_2,rfl,HA,HJ2,BK101,HB⟩:=hcut
  cases kq with
 |zero => exact absurd HA.out (by simp [book_parted.j0])
 |succ kj2 =>
   have H:=HA.out
   clear HA
   simp only [book_parted.j0] at H
   by_cases c8 : x19_2 = true
   ·subst c8
    have H1 : (some (([(⟨a0_0,a0_1⟩ : S164)] : List (S164)))) = some r:=by rw [if_pos rfl] at H;exact H
    clear H
    have H:=H1
    clear H1
    obtain ⟨y102,hy102⟩ : ∃ y_ : List (S164),y_ = (([(⟨a0_0,a0_1⟩ : S164)] : List (S164))):=⟨_,rfl⟩
    replace H : (some y102) = some r:=by first|(rw [hy102];with_reducible exact H)|(have H2_:=(Option.bind_some _ _).symm.trans H;rw [hy102];with_reducible exact H2_)|(have H2_:=(Option.bind_some _ _).symm.trans H;with_reducible exact H2_)|with_reducible exact H|(rw [hy102];exact H)|exact H
    have Ny102:=am hy102
    clear hy102
    obtain rfl:=Option.some.inj H
    have hcz9_0 : wc.cell? ⟨gb101,0,none⟩ = some (.int .i64 a0_0):=(blk_cell BK101.out 0).trans rfl
    have hcz9_1 : wc.cell? ⟨gb101,1,none⟩ = some (.int .i64 a0_1):=(blk_cell BK101.out 1).trans rfl
    have hfz9_0:=blk_frozen BK101.out 0
    have hfz9_1:=blk_frozen BK101.out 1
    go_wp2_with (first|((with_reducible refine gate_dst (N:=21) rfl ?_);refine Kd.R_lit k164 _ 164 ?hg (N:=21) ?hd (xs:=([(⟨a0_0,a0_1⟩ : S164)] : List (S164))) (inner:=[.int .i64 a0_0,.int .i64 a0_1]) (ok:=fun _ => True) (okp:=fun _ => True) ?hr ?hp (fun _ hk => hk) trivial (Below.refl _ _) (Nat.le_refl _) (by simp) ?_;(case hd => rfl);(case hg => rfl);(case hr => first|(go_simp;done)|(go_simp;rfl));(case hp => exact (Reps.c2 (show Kd.M k164 _ _ _ (⟨a0_0,a0_1⟩ : S164) [.int .i64 a0_0,.int .i64 a0_1] from (k164_mkM _ _ _ (⟨a0_0,a0_1⟩ : S164) )) (Reps.none _ _)));intro v103 w10 ho11 hb hg_ hnew_;clear hg_ hnew_;(first|rw [← Ny102.out] at ho11|(simp only [Int.reduceToNat] at ho11;rw [← Ny102.out] at ho11));have n0_:=am (Kd.R_lower (Kd.R_newB ho11 (g:=gb101) (o:=.cells #[.int .i64 a0_0,.int .i64 a0_1] 164 (0,0)) (vb BK101.out)) (below_size (v1 HB.out GE101.out)));have n1_:=am (blk_below (g:=gb101) (o:=.cells #[.int .i64 a0_0,.int .i64 a0_1] 164 (0,0)) (vb BK101.out) hb);have n2_:=am (below_step (v1 HB.out GE101.out) hb);clear BK101;clear HB;have HO104:=n0_;have BK101:=n1_;have HB:=n2_;clear n0_ n1_ n2_;clear hb ho11))
    go_ret
    exact ⟨_,vf,by (with_reducible repeat (first|apply Kd.R_alloc|apply Kd.R_drewN|apply Kd.R_drew));exact Kd.R_mono HO104.out (fun _ hk => trivial),v1 HB.out GE101.out⟩
   ·replace c8:=Bool.eq_false_iff.mpr c8
    subst c8
    have H1 : ((book_tree_halves.f kj2 a0_0 a0_1).bind fun bt105 => ((book_parted.f kj2 bt105.1 bt105.2.1 a1).bind fun t111 => ((book_parted.f kj2 bt105.2.2.1 bt105.2.2.2 a1).bind fun t114 => (if t111.length + t114.length < 8796093022208 then (some (t111 ++ t114)) else (none))))) = some r:=by rw [if_neg (show ¬ (false = true) by decide)] at H;exact H
    clear H
    have H:=H1
    clear H1
    replace H:=Option.bind_eq_some_iff.mp H
    obtain ⟨⟨t105,t106,t107,t108⟩,A120,H⟩:=H
    replace H : ((book_parted.f kj2 t105 t106 a1).bind fun t111 => ((book_parted.f kj2 t107 t108 a1).bind fun t114 => (if t111.length + t114.length < 8796093022208 then (some (t111 ++ t114)) else (none)))) = some r:=H
    have A12:=am A120
    clear A120
    replace H:=Option.bind_eq_some_iff.mp H
    obtain ⟨t111,A130,H⟩:=H
    replace H : ((book_parted.f kj2 t107 t108 a1).bind fun t114 => (if t111.length + t114.length < 8796093022208 then (some (t111 ++ t114)) else (none))) = some r:=H
    have A13:=am A130
    clear A130
    replace H:=Option.bind_eq_some_iff.mp H
    obtain ⟨t114,A140,H⟩:=H
    replace H : (if t111.length + t114.length < 8796093022208 then (some (t111 ++ t114)) else (none)) = some r:=H
    have A14:=am A140
    clear A140
    by_cases c15 : t111.length + t114.length < 8796093022208
    ·rw [if_pos c15] at H
     have LMc15:=am c15
     clear c15
     obtain ⟨y117,hy117⟩ : ∃ y_ : List (S164),y_ = (t111 ++ t114):=⟨_,rfl⟩
     replace H : (some y117) = some r:=by first|(rw [hy117];with_reducible exact H)|(have H2_:=(Option.bind_some _ _).symm.trans H;rw [hy117];with_reducible exact H2_)|(have H2_:=(Option.bind_some _ _).symm.trans H;with_reducible exact H2_)|with_reducible exact H|(rw [hy117];exact H)|exact H
     have Ny117:=am hy117
     clear hy117
     obtain rfl:=Option.some.inj H
     have hcz16_0 : wc.cell? ⟨gb101,0,none⟩ = some (.int .i64 a0_0):=(blk_cell BK101.out 0).trans rfl
     have hcz16_1 : wc.cell? ⟨gb101,1,none⟩ = some (.int .i64 a0_1):=(blk_cell BK101.out 1).trans rfl
     have hfz16_0:=blk_frozen BK101.out 0
     have hfz16_1:=blk_frozen BK101.out 1
     try go_wp2_with (first|((with_reducible refine gate_callee (f:=160) rfl ?_);refine goesL_ (some 24) rfl rfl Try.func160 kr rfl #[.agg #[.int .i64 a0_0,.int .i64 a0_1]] rfl (by (try simp only [List.map_toArray,List.map_cons,List.map_nil]);first|done|rfl|(simp only [List.length_drop,List.length_take];rfl)) ?_;(with_reducible refine (book_tree_halves.calls kj2 a0_0 a0_1 t105 t106 t107 t108 _ A12.out).mono ?_);rintro e w17 ⟨rfl,hb⟩;refine ⟨_,rfl,?_⟩;have n0_:=am (blk_below (g:=gb101) (o:=.cells #[.int .i64 a0_0,.int .i64 a0_1] 164 (0,0)) (vb BK101.out) hb);have n1_:=am (below_step (v1 HB.out GE101.out) hb);clear BK101;clear HB;have BK101:=n0_;have HB:=n1_;clear n0_ n1_;(try clear hb);(try clear hb2);(try clear hk);(try clear hi))|((with_reducible refine gate_dst (N:=5) rfl ?_);refine box_event ?hg (N:=5) ?hd (cs:=#[.int .i64 0,.int .i64 0]) (t:=164) ?hr ?_;(case hd => rfl);(case hg => rfl);(case hr => first|(go_simp;done)|(go_simp;rfl));intro gb109 hg w18 hbox hb;have n0_:=am (blk_below (g:=gb101) (o:=.cells #[.int .i64 a0_0,.int .i64 a0_1] 164 (0,0)) (vb BK101.out) hb);have n1_:=am (below_step (v1 HB.out GE101.out) hb);have n2_:=am (hbox);have n3_:=am ((by rw [hg];exact (below_size (v1 HB.out GE101.out)) : w.heap.size ≤ gb109));have n4_:=am ((by rw [hg];exact (below_size (v1 HB.out GE101.out)) : w.heap.size ≤ gb109));have n5_:=am ((by rw [hg];exact Nat.ne_of_lt (blk_lt (g:=gb101) (o:=.cells #[.int .i64 a0_0,.int .i64 a0_1] 164 (0,0)) (vb BK101.out)) : gb101 ≠ gb109));have n6_:=am ((by rw [hg];exact Nat.ne_of_gt (blk_lt (g:=gb101) (o:=.cells #[.int .i64 a0_0,.int .i64 a0_1] 164 (0,0)) (vb BK101.out)) : gb109 ≠ gb101));clear BK101;clear HB;have BK101:=n0_;have HB:=n1_;have BK109:=n2_;have GW109:=n3_;have GE109:=n4_;have NB101_109:=n5_;have NB109_101:=n6_;clear n0_ n1_ n2_ n3_ n4_ n5_ n6_;clear hb hbox hg)|((with_reducible refine gate_dst (N:=6) rfl ?_);refine box_event ?hg (N:=6) ?hd (cs:=#[.int .i64 0,.int .i64 0]) (t:=164) ?hr ?_;(case hd => rfl);(case hg => rfl);(case hr => first|(go_simp;done)|(go_simp;rfl));intro gb110 hg w19 hbox hb;have n0_:=am (blk_below (g:=gb101) (o:=.cells #[.int .i64 a0_0,.int .i64 a0_1] 164 (0,0)) (vb BK101.out) hb);have n1_:=am (blk_below (g:=gb109) (o:=.cells #[.int .i64 0,.int .i64 0] 164 (0,0)) (vb BK109.out) hb);have n2_:=am (below_step (v2 HB.out GE101.out GE109.out) hb);have n3_:=am (hbox);have n4_:=am ((by rw [hg];exact (below_size (v2 HB.out GE101.out GE109.out)) : w.heap.size ≤ gb110));have n5_:=am ((by rw [hg];exact (below_size (v2 HB.out GE101.out GE109.out)) : w.heap.size ≤ gb110));have n6_:=am ((by rw [hg];exact Nat.ne_of_lt (blk_lt (g:=gb101) (o:=.cells #[.int .i64 a0_0,.int .i64 a0_1] 164 (0,0)) (vb BK101.out)) : gb101 ≠ gb110));have n7_:=am ((by rw [hg];exact Nat.ne_of_gt (blk_lt (g:=gb101) (o:=.cells #[.int .i64 a0_0,.int .i64 a0_1] 164 (0,0)) (vb BK101.out)) : gb110 ≠ gb101));have n8_:=am ((by rw [hg];exact Nat.ne_of_lt (blk_lt (g:=gb109) (o:=.cells #[.int .i64 0,.int .i64 0] 164 (0,0)) (vb BK109.out)) : gb109 ≠ gb110));have n9_:=am ((by rw [hg];exact Nat.ne_of_gt (blk_lt (g:=gb109) (o:=.cells #[.int .i64 0,.int .i64 0] 164 (0,0)) (vb BK109.out)) : gb110 ≠ gb109));clear BK101;clear BK109;clear HB;have BK101:=n0_;have BK109:=n1_;have HB:=n2_;have BK110:=n3_;have GW110:=n4_;have GE110:=n5_;have NB101_110:=n6_;have NB110_101:=n7_;have NB109_110:=n8_;have NB110_109:=n9_;clear n0_ n1_ n2_ n3_ n4_ n5_ n6_ n7_ n8_ n9_;clear hb hbox hg;have hnb20:=NB109_101.out;have hnc20:=NB101_109.out;have hnb21:=NB109_110.out;have hnc21:=NB110_109.out;have hcz22_0 : w19.cell? ⟨gb109,0,none⟩ = some (.int .i64 0):=(blk_cell BK109.out 0).trans rfl;have hcz22_1 : w19.cell? ⟨gb109,1,none⟩ = some (.int .i64 0):=(blk_cell BK109.out 1).trans rfl;have hfz22_0:=blk_frozen BK109.out 0;have hfz22_1:=blk_frozen BK109.out 1;have hnb23:=NB110_101.out;have hnc23:=NB101_110.out;have hcz24_0 : w19.cell? ⟨gb110,0,none⟩ = some (.int .i64 0):=(blk_cell BK110.out 0).trans rfl;have hcz24_1 : w19.cell? ⟨gb110,1,none⟩ = some (.int .i64 0):=(blk_cell BK110.out 1).trans rfl;have hfz24_0:=blk_frozen BK110.out 0;have hfz24_1:=blk_frozen BK110.out 1))
     have n0_ : Aside0 (((((w19.setCell ⟨gb109,0,none⟩ (.int .i64 t105)).setCell ⟨gb109,1,none⟩ (.int .i64 t106)).setCell ⟨gb110,0,none⟩ (.int .i64 t107)).setCell ⟨gb110,1,none⟩ (.int .i64 t108)).heap[gb101]? = some (.cells #[.int .i64 a0_0,.int .i64 a0_1] 164 (0,0))):=⟨by (with_reducible repeat (first|refine blk_drewN ?_ _|refine blk_drew ?_|refine blk_alloc ?_ _));refine blk_far ?_ NB101_110.out _;(with_reducible repeat (first|refine blk_drewN ?_ _|refine blk_drew ?_|refine blk_alloc ?_ _));refine blk_far ?_ NB101_110.out _;(with_reducible repeat (first|refine blk_drewN ?_ _|refine blk_drew ?_|refine blk_alloc ?_ _));refine blk_far ?_ NB101_109.out _;(with_reducible repeat (first|refine blk_drewN ?_ _|refine blk_drew ?_|refine blk_alloc ?_ _));refine blk_far ?_ NB101_109.out _;(with_reducible repeat (first|refine blk_drewN ?_ _|refine blk_drew ?_|refine blk_alloc ?_ _));exact BK101.out⟩
     have n1_ : Aside0 (((((w19.setCell ⟨gb109,0,none⟩ (.int .i64 t105)).setCell ⟨gb109,1,none⟩ (.int .i64 t106)).setCell ⟨gb110,0,none⟩ (.int .i64 t107)).setCell ⟨gb110,1,none⟩ (.int .i64 t108)).heap[gb109]? = some (.cells #[.int .i64 t105,.int .i64 t106] 164 (0,0))):=⟨by (with_reducible repeat (first|refine blk_drewN ?_ _|refine blk_drew ?_|refine blk_alloc ?_ _));refine blk_far ?_ NB109_110.out _;(with_reducible repeat (first|refine blk_drewN ?_ _|refine blk_drew ?_|refine blk_alloc ?_ _));refine blk_far ?_ NB109_110.out _;(with_reducible repeat (first|refine blk_drewN ?_ _|refine blk_drew ?_|refine blk_alloc ?_ _));refine blk_put (cs:=#[.int .i64 t105,.int .i64 0]) ?_ 1 _ rfl;(with_reducible repeat (first|refine blk_drewN ?_ _|refine blk_drew ?_|refine blk_alloc ?_ _));refine blk_put (cs:=#[.int .i64 0,.int .i64 0]) ?_ 0 _ rfl;(with_reducible repeat (first|refine blk_drewN ?_ _|refine blk_drew ?_|refine blk_alloc ?_ _));exact BK109.out⟩
     have n2_ : Aside0 (((((w19.setCell ⟨gb109,0,none⟩ (.int .i64 t105)).setCell ⟨gb109,1,none⟩ (.int .i64 t106)).setCell ⟨gb110,0,none⟩ (.int .i64 t107)).setCell ⟨gb110,1,none⟩ (.int .i64 t108)).heap[gb110]? = some (.cells #[.int .i64 t107,.int .i64 t108] 164 (0,0))):=⟨by (with_reducible repeat (first|refine blk_drewN ?_ _|refine blk_drew ?_|refine blk_alloc ?_ _));refine blk_put (cs:=#[.int .i64 t107,.int .i64 0]) ?_ 1 _ rfl;(with_reducible repeat (first|refine blk_drewN ?_ _|refine blk_drew ?_|refine blk_alloc ?_ _));refine blk_put (cs:=#[.int .i64 0,.int .i64 0]) ?_ 0 _ rfl;(with_reducible repeat (first|refine blk_drewN ?_ _|refine blk_drew ?_|refine blk_alloc ?_ _));refine blk_far ?_ NB110_109.out _;(with_reducible repeat (first|refine blk_drewN ?_ _|refine blk_drew ?_|refine blk_alloc ?_ _));refine blk_far ?_ NB110_109.out _;(with_reducible repeat (first|refine blk_drewN ?_ _|refine blk_drew ?_|refine blk_alloc ?_ _));exact BK110.out⟩
     have n3_ : Aside0 (Below w.heap.size w ((((w19.setCell ⟨gb109,0,none⟩ (.int .i64 t105)).setCell ⟨gb109,1,none⟩ (.int .i64 t106)).setCell ⟨gb110,0,none⟩ (.int .i64 t107)).setCell ⟨gb110,1,none⟩ (.int .i64 t108))):=⟨v3 HB.out GE101.out GE109.out GE110.out⟩
     (try clear BK101)
     (try clear BK109)
     (try clear BK110)
     (try clear HB)
     generalize ((((w19.setCell ⟨gb109,0,none⟩ (.int .i64 t105)).setCell ⟨gb109,1,none⟩ (.int .i64 t106)).setCell ⟨gb110,0,none⟩ (.int .i64 t107)).setCell ⟨gb110,1,none⟩ (.int .i64 t108)) = w25 at n0_ n1_ n2_ n3_ ⊢
     have BK101:=n0_
     have BK109:=n1_
     have BK110:=n2_
     have HB:=n3_
     clear n0_ n1_ n2_ n3_
     have n0_:=am (blk_drew BK101.out)
     have n1_:=am (blk_drew BK109.out)
     have n2_:=am (blk_drew BK110.out)
     have n3_:=am (below_drew1 HB.out)
     clear BK101
     clear BK109
     clear BK110
     clear HB
     have BK101:=n0_
     have BK109:=n1_
     have BK110:=n2_
     have HB:=n3_
     clear n0_ n1_ n2_ n3_
     refine start_ (n:=8) (S:=fun w' => w'.cell? ⟨gb109,0,none⟩ = some (.int .i64 t105) ∧ w'.cell? ⟨gb109,1,none⟩ = some (.int .i64 t106) ∧ w'.cell? ⟨gb110,0,none⟩ = some (.int .i64 t107) ∧ w'.cell? ⟨gb110,1,none⟩ = some (.int .i64 t108)) (ds:=[]) #[false,false,false,false,false,false,false,false] kr rfl rfl ⟨(blk_cell BK109.out 0).trans rfl,(blk_cell BK109.out 1).trans rfl,(blk_cell BK110.out 0).trans rfl,(blk_cell BK110.out 1).trans rfl⟩ (fun hHeld => ?_);refine with_tabW book_parted.tab4 book_parted.bits4 (fun HT_ HW_ => ?_)
     generalize w25.drew = w26 at BK101 BK109 BK110 HB hHeld ⊢
     refine pure_ (i:=1) (N:=some 28) (v:=?_) (a':=?_) #[false,true,false,false,false,false,false,false] rfl rfl (any_of HT_.out kr) (fun _ _ _ h => h) (Or.inl ⟨by rfl,?_⟩) ?_ ?_
     rotate_left
     ·intro w'
      go_simp
      with_reducible rfl
     rotate_left
     ·exact vs
     refine pure_ (i:=4) (N:=some 31) (v:=?_) (a':=?_) #[false,true,false,false,true,false,false,false] rfl rfl (any_of HT_.out kr) (fun _ _ _ h => h) (Or.inl ⟨by rfl,?_⟩) ?_ ?_
     rotate_left
     ·intro w'
      go_simp
      with_reducible rfl
     rotate_left
     ·exact vs
     refine take_ (i:=0) (N:=some 27) (v:=?_) (a':=?_) #[true,true,false,false,true,false,false,false] rfl rfl (take_ofW HT_.out HW_.out kr) (fun _ _ _ h => h) (Or.inl ⟨by rfl,?_⟩) hHeld ?_ ?_
     rotate_left
     ·rintro w' ⟨s0,s1,s2,s3⟩
      go_simp
      with_reducible rfl
     rotate_left
     ·exact vs
     refine take_ (i:=3) (N:=some 30) (v:=?_) (a':=?_) #[true,true,false,true,true,false,false,false] rfl rfl (take_ofW HT_.out HW_.out kr) (fun _ _ _ h => h) (Or.inl ⟨by rfl,?_⟩) hHeld ?_ ?_
     rotate_left
     ·rintro w' ⟨s0,s1,s2,s3⟩
      go_simp
      with_reducible rfl
     rotate_left
     ·exact vs
     refine one_ (i:=2) (N:=some 29) #[true,true,true,true,true,false,false,false] rfl rfl (one_of HT_.out kr) (by decide) (fun K hK => ?_)
     refine goes_ Try.func125 kr rfl #[.agg #[.int .i64 t105,.int .i64 t106],.int .i64 a1] (by rfl) rfl rfl (by (try simp only [List.map_toArray,List.map_cons,List.map_nil]);first|done|rfl|(simp only [List.length_drop,List.length_take];rfl)) ?_
     with_reducible refine (ih kj2 (by have:=HJ2.out;omega) t105 t106 a1 t111 _ A13.out).mono ?_
     rintro e w27 ⟨v112,rfl,ho0,hb⟩
     refine ⟨_,rfl,?_⟩
     have n0_:=am (Kd.R_lower (Kd.R_newB (Kd.R_newB (Kd.R_newB ho0 (g:=gb101) (o:=.cells #[.int .i64 a0_0,.int .i64 a0_1] 164 (0,0)) (vb BK101.out)) (g:=gb109) (o:=.cells #[.int .i64 t105,.int .i64 t106] 164 (0,0)) (vb BK109.out)) (g:=gb110) (o:=.cells #[.int .i64 t107,.int .i64 t108] 164 (0,0)) (vb BK110.out)) (below_size (v3 HB.out GE101.out GE109.out GE110.out)))
     have n1_:=am (blk_below (g:=gb101) (o:=.cells #[.int .i64 a0_0,.int .i64 a0_1] 164 (0,0)) (vb BK101.out) hb)
     have n2_:=am (blk_below (g:=gb109) (o:=.cells #[.int .i64 t105,.int .i64 t106] 164 (0,0)) (vb BK109.out) hb)
     have n3_:=am (blk_below (g:=gb110) (o:=.cells #[.int .i64 t107,.int .i64 t108] 164 (0,0)) (vb BK110.out) hb)
     have n4_:=am (below_step (v3 HB.out GE101.out GE109.out GE110.out) hb)
     clear BK101
     clear BK109
     clear BK110
     clear HB
     have HO113:=n0_
     have BK101:=n1_
     have BK109:=n2_
     have BK110:=n3_
     have HB:=n4_
     clear n0_ n1_ n2_ n3_ n4_
     (try clear hb)
     (try clear hb2)
     (try clear hk)
     (try clear hi)
     (try clear ho0)
     refine hK.out _ _ ⟨(blk_cell BK109.out 0).trans rfl,(blk_cell BK109.out 1).trans rfl,(blk_cell BK110.out 0).trans rfl,(blk_cell BK110.out 1).trans rfl⟩ (fun hHeld => ?_)
     clear hK K
     refine norm_ (a':=?_) ?_ ?_
     rotate_left
     ·show Act.put _ (some 29) _ = _
      simp only [Act.put,List.setIfInBounds_toArray,List.set_cons_zero,List.set_cons_succ,i64_w,i32_w]
      rfl
     refine one_ (i:=5) (N:=some 32) #[true,true,true,true,true,true,false,false] rfl rfl (one_of HT_.out kr) (by decide) (fun K hK => ?_)
     refine goes_ Try.func125 kr rfl #[.agg #[.int .i64 t107,.int .i64 t108],.int .i64 a1] (by rfl) rfl rfl (by (try simp only [List.map_toArray,List.map_cons,List.map_nil]);first|done|rfl|(simp only [List.length_drop,List.length_take];rfl)) ?_
     with_reducible refine (ih kj2 (by have:=HJ2.out;omega) t107 t108 a1 t114 _ A14.out).mono ?_
     rintro e w28 ⟨v115,rfl,ho0,hb⟩
     refine ⟨_,rfl,?_⟩
     have n0_:=am (Kd.R_elder' (by (with_reducible repeat (first|apply Kd.R_alloc|apply Kd.R_drewN|apply Kd.R_drew));exact HO113.out) (Kd.R_base ho0) hb)
     have n1_:=am (Kd.R_lower (Kd.R_newB (Kd.R_newB (Kd.R_newB (Kd.R_new' ho0 (Kd.R_lt (by (with_reducible repeat (first|apply Kd.R_alloc|apply Kd.R_drewN|apply Kd.R_drew));exact HO113.out))) (g:=gb101) (o:=.cells #[.int .i64 a0_0,.int .i64 a0_1] 164 (0,0)) (vb BK101.out)) (g:=gb109) (o:=.cells #[.int .i64 t105,.int .i64 t106] 164 (0,0)) (vb BK109.out)) (g:=gb110) (o:=.cells #[.int .i64 t107,.int .i64 t108] 164 (0,0)) (vb BK110.out)) (below_size (v3 HB.out GE101.out GE109.out GE110.out)))
     have n2_:=am (blk_below (g:=gb101) (o:=.cells #[.int .i64 a0_0,.int .i64 a0_1] 164 (0,0)) (vb BK101.out) hb)
     have n3_:=am (blk_below (g:=gb109) (o:=.cells #[.int .i64 t105,.int .i64 t106] 164 (0,0)) (vb BK109.out) hb)
     have n4_:=am (blk_below (g:=gb110) (o:=.cells #[.int .i64 t107,.int .i64 t108] 164 (0,0)) (vb BK110.out) hb)
     have n5_:=am (below_step (v3 HB.out GE101.out GE109.out GE110.out) hb)
     clear HO113
     clear BK101
     clear BK109
     clear BK110
     clear HB
     have HO113:=n0_
     have HO116:=n1_
     have BK101:=n2_
     have BK109:=n3_
     have BK110:=n4_
     have HB:=n5_
     clear n0_ n1_ n2_ n3_ n4_ n5_
     (try clear hb)
     (try clear hb2)
     (try clear hk)
     (try clear hi)
     (try clear ho0)
     obtain ⟨Ao30,co30,eo30⟩:=Kd.R_slice HO116.out
     (first|subst eo30|(injection eo30 with f1_ f2_ f3_;have f4_:=f1_.symm;have f5_:=f3_.symm;clear f1_ f2_ f3_;subst f4_;subst f5_))
     refine hK.out _ _ ⟨(blk_cell BK109.out 0).trans rfl,(blk_cell BK109.out 1).trans rfl,(blk_cell BK110.out 0).trans rfl,(blk_cell BK110.out 1).trans rfl⟩ (fun hHeld => ?_)
     clear hK K
     refine norm_ (a':=?_) ?_ ?_
     rotate_left
     ·show Act.put _ (some 32) _ = _
      simp only [Act.put,List.setIfInBounds_toArray,List.set_cons_zero,List.set_cons_succ,i64_w,i32_w]
      rfl
     refine one_ (i:=6) (N:=some 33) #[true,true,true,true,true,true,true,false] rfl rfl (one_of HT_.out kr) (by decide) (fun K hK => ?_)
     refine Kd.R_append_rows_step k164 (w0:=w) w.heap.size (by rfl) (.tmp 29) (.tmp 32) 159 164 (.agg #[(.int .i64 0),(.int .i64 0)]) 16 rfl Try.underlying159 info164 rfl (by decide) (by omega) v112 t111 t114 _ _ _ (fun k_ => some k_ ≠ (.slice Ao30 t114.length co30 : Value).ownBlock ∧ k_ ≠ gb101 ∧ k_ ≠ gb109 ∧ k_ ≠ gb110) (fun _ => False) rfl rfl ?aO ?aR (fun _ _ h => h) (fun _ h => h.elim) ?aF ?aB ?aS ?aL ?_
     (case aR => repeat (first|exact (Kd.R_reads' HO116.out).2.2|(with_reducible refine Kd.C_alloc ?_ _)|(with_reducible refine Kd.C_drewN ?_ _)|(with_reducible refine Kd.C_drew ?_)))
     (case aB => exact (v3 HB.out GE101.out GE109.out GE110.out))
     (case aF => exact (fun k_ hk => ⟨Kd.fresh' (Kd.R_lt (by (with_reducible repeat (first|apply Kd.R_alloc|apply Kd.R_drewN|apply Kd.R_drew));exact HO116.out)) k_ hk,Kd.freshB (g:=gb101) (o:=.cells #[.int .i64 a0_0,.int .i64 a0_1] 164 (0,0)) (vb BK101.out) k_ hk,Kd.freshB (g:=gb109) (o:=.cells #[.int .i64 t105,.int .i64 t106] 164 (0,0)) (vb BK109.out) k_ hk,Kd.freshB (g:=gb110) (o:=.cells #[.int .i64 t107,.int .i64 t108] 164 (0,0)) (vb BK110.out) k_ hk⟩))
     (case aO => exact (by (with_reducible repeat (first|apply Kd.R_alloc|apply Kd.R_drewN|apply Kd.R_drew));exact Kd.R_mono HO113.out (fun _ hk => ⟨hk.2,⟨hk.1.1.1.2,⟨hk.1.1.2,hk.1.2⟩⟩⟩)))
     (case aS => exact (below_size (v3 HB.out GE101.out GE109.out GE110.out)))
     (case aL => have:=LMc15.out;omega)
     intro v118 w29 ho hb hg hat
     rw [← Ny117.out] at ho
     have n0_:=am (blk_grown (g:=gb101) (o:=.cells #[.int .i64 a0_0,.int .i64 a0_1] 164 (0,0)) (vb BK101.out) hg (Kd.R_away HO113.out (fun _ hk => hk.1.1.1.2)))
     have n1_:=am (blk_grown (g:=gb109) (o:=.cells #[.int .i64 t105,.int .i64 t106] 164 (0,0)) (vb BK109.out) hg (Kd.R_away HO113.out (fun _ hk => hk.1.1.2)))
     have n2_:=am (blk_grown (g:=gb110) (o:=.cells #[.int .i64 t107,.int .i64 t108] 164 (0,0)) (vb BK110.out) hg (Kd.R_away HO113.out (fun _ hk => hk.1.2)))
     have n3_:=am (Kd.R_after (ok:=(fun k_ => k_ ≠ gb101 ∧ k_ ≠ gb109 ∧ k_ ≠ gb110)) (by (with_reducible repeat (first|apply Kd.R_alloc|apply Kd.R_drewN|apply Kd.R_drew));exact Kd.R_mono HO116.out (fun _ hk => ⟨⟨hk.1.1.2,⟨hk.1.2,hk.2⟩⟩,hk.1.1.1.2⟩)) hg hat)
     have n4_:=am (hb)
     have n5_:=am (ho)
     clear BK101
     clear BK109
     clear BK110
     clear HO116
     clear HB
     clear HO113
     have BK101:=n0_
     have BK109:=n1_
     have BK110:=n2_
     have HO116:=n3_
     have HB:=n4_
     have HO119:=n5_
     clear n0_ n1_ n2_ n3_ n4_ n5_
     clear ho hb hg hat
     refine hK.out _ _ ⟨(blk_cell BK109.out 0).trans rfl,(blk_cell BK109.out 1).trans rfl,(blk_cell BK110.out 0).trans rfl,(blk_cell BK110.out 1).trans rfl⟩ (fun hHeld => ?_)
     clear hK K
     refine norm_ (a':=?_) ?_ ?_
     rotate_left
     ·show Act.put _ (some 33) _ = _
      simp only [Act.put,List.setIfInBounds_toArray,List.set_cons_zero,List.set_cons_succ,i64_w,i32_w]
      rfl
     refine pure_ (i:=7) (N:=some 4) (v:=?_) (a':=?_) #[true,true,true,true,true,true,true,true] rfl rfl (any_of HT_.out kr) (fun _ _ _ h => h) (Or.inl ⟨by rfl,?_⟩) ?_ ?_
     rotate_left
     ·intro w'
      go_simp
      with_reducible rfl
     rotate_left
     ·exact vs
     refine done_ (done_of HT_.out kr) ?_
     try go_wp2
     go_ret
     exact ⟨_,vf,by (with_reducible repeat (first|apply Kd.R_alloc|apply Kd.R_drewN|apply Kd.R_drew));exact Kd.R_mono HO119.out (fun _ hk => trivial),v3 HB.out GE101.out GE109.out GE110.out⟩
    ·rw [if_neg c15] at H
     exact absurd H (by simp)
def book_Grown.f (k : Nat) (l0 : List (S29)) (a1 : Int) : Option ((List (S129)) × Int):=(book_Check.f l0).bind fun t101 => (if t101 = 0 then ((book_within.f a1 0 (l0.length : Int)).bind fun t102 => (if t102 = true then ((book_parted.f k 0 (l0.length : Int) a1).bind fun t103 => ((book_twigs.f k l0 t103).bind fun t106 => (some (t106,0)))) else (some (([] : List (S129)),1)))) else (some (([] : List (S129)),t101)))
set_option maxHeartbeats 8000000 in
set_option maxRecDepth 100000 in
theorem book_Grown.calls (k : Nat) (A0 : Option Addr) (c0 : Nat) (l0 : List (S29)) (a1 : Int) (r1 : List (S129)) (r2 : Int) (w : World) (hr0 : Kd.C k29 w A0 l0.length l0) (hc0 : l0.length ≤ c0) (h : book_Grown.f k l0 a1 = some (r1,r2)) :
  Calls Try.prog 55 #[.slice A0 l0.length c0,.int .i64 a1] w fun e w' => ∃ v0_ : Value,e = .returned (.tuple #[v0_,.int .i64 r2]) ∧ Kd.R k129 129 w' w.heap.size (fun _ => True) v0_ r1 ∧ Below w.heap.size w w':=by
 have hu164:=Try.underlying164
 have HR0:=am hr0
 have HC0:=am hc0
 clear hr0 hc0
 have HB:=am (Below.refl w.heap.size w)
 have H : ((book_Check.f l0).bind fun t101 => (if t101 = 0 then ((book_within.f a1 0 (l0.length : Int)).bind fun t102 => (if t102 = true then ((book_parted.f k 0 (l0.length : Int) a1).bind fun t103 => ((book_twigs.f k l0 t103).bind fun t106 => (some (t106,0)))) else (some (([] : List (S129)),1)))) else (some (([] : List (S129)),t101)))) = some (r1,r2):=h
 clear h
 replace H:=Option.bind_eq_some_iff.mp H
 obtain ⟨t101,A30,H⟩:=H
 replace H : (if t101 = 0 then ((book_within.f a1 0 (l0.length : Int)).bind fun t102 => (if t102 = true then ((book_parted.f k 0 (l0.length : Int) a1).bind fun t103 => ((book_twigs.f k l0 t103).bind fun t106 => (some (t106,0)))) else (some (([] : List (S129)),1)))) else (some (([] : List (S129)),t101))) = some (r1,r2):=H
 have A3:=am A30
 clear A30
 by_cases c4 : t101 = 0
 ·rw [if_pos c4] at H
  have c4b0 : (t101 == 0) = true:=beq_iff_eq.mpr c4
  have c4b1 : (t101 != 0) = false:=bne_eq_false_iff_eq.mpr c4
  clear c4
  replace H:=Option.bind_eq_some_iff.mp H
  obtain ⟨t102,A50,H⟩:=H
  replace H : (if t102 = true then ((book_parted.f k 0 (l0.length : Int) a1).bind fun t103 => ((book_twigs.f k l0 t103).bind fun t106 => (some (t106,0)))) else (some (([] : List (S129)),1))) = some (r1,r2):=H
  have A5:=am A50
  clear A50
  by_cases c6 : t102 = true
  ·subst c6
   have H1 : ((book_parted.f k 0 (l0.length : Int) a1).bind fun t103 => ((book_twigs.f k l0 t103).bind fun t106 => (some (t106,0)))) = some (r1,r2):=by rw [if_pos rfl] at H;exact H
   clear H
   have H:=H1
   clear H1
   replace H:=Option.bind_eq_some_iff.mp H
   obtain ⟨t103,A70,H⟩:=H
   replace H : ((book_twigs.f k l0 t103).bind fun t106 => (some (t106,0))) = some (r1,r2):=H
   have A7:=am A70
   clear A70
   replace H:=Option.bind_eq_some_iff.mp H
   obtain ⟨t106,A80,H⟩:=H
   replace H : (some (t106,0)) = some (r1,r2):=H
   have A8:=am A80
   clear A80
   simp only [Option.some.injEq,Prod.mk.injEq] at H
   obtain ⟨rfl,rfl⟩:=H
   go_enter Try.func55,Try.ntmps55
   go_wp2_with (first|((with_reducible refine gate_callee (f:=42) rfl ?_);refine goesL_ (some 8) rfl rfl Try.func42 kr rfl #[.slice A0 l0.length c0] rfl (by (try simp only [List.map_toArray,List.map_cons,List.map_nil]);first|done|rfl|(simp only [List.length_drop,List.length_take];rfl)) ?_;(with_reducible refine (book_Check.calls _ _ l0 t101 _ ?side1 ?side2 A3.out).mono ?_);(case side1 => repeat (first|exact HR0.out|(with_reducible refine Kd.C_alloc ?_ _)|(with_reducible refine Kd.C_drewN ?_ _)|(with_reducible refine Kd.C_drew ?_)));(case side2 => exact HC0.out);rintro e w9 ⟨rfl,hb⟩;refine ⟨_,rfl,?_⟩;have n0_:=am (below_step (v0 HB.out) hb);clear HB;have HB:=n0_;clear n0_;(try clear hb);(try clear hb2);(try clear hk);(try clear hi))|((with_reducible refine gate_callee (f:=86) rfl ?_);refine goesL_ (some 15) rfl rfl Try.func86 kr rfl #[.int .i64 a1,.int .i64 0,.int .i64 (l0.length : Int)] rfl (by (try simp only [List.map_toArray,List.map_cons,List.map_nil]);first|done|rfl|(simp only [List.length_drop,List.length_take];rfl)) ?_;(with_reducible refine (book_within.calls a1 0 (l0.length : Int) true _ A5.out).mono ?_);rintro e w' ⟨rfl,⟨nd,rfl⟩⟩;refine ⟨_,rfl,?_⟩)|((with_reducible refine gate_callee (f:=125) rfl ?_);refine goesL_ (some 22) rfl rfl Try.func125 kr rfl #[.agg #[.int .i64 0,.int .i64 (l0.length : Int)],.int .i64 a1] rfl (by (try simp only [List.map_toArray,List.map_cons,List.map_nil]);first|done|rfl|(simp only [List.length_drop,List.length_take];rfl)) ?_;(with_reducible refine (book_parted.calls k 0 (l0.length : Int) a1 t103 _ A7.out).mono ?_);rintro e w10 ⟨v104,rfl,ho0,hb⟩;refine ⟨_,rfl,?_⟩;have n0_:=am (Kd.R_lower ho0 (below_size (v0 HB.out)));have n1_:=am (below_step (v0 HB.out) hb);clear HB;have HO105:=n0_;have HB:=n1_;clear n0_ n1_;(try clear hb);(try clear hb2);(try clear hk);(try clear hi);(try clear ho0);obtain ⟨Ao11,co11,eo11⟩:=Kd.R_slice HO105.out;subst eo11)|((with_reducible refine gate_callee (f:=121) rfl ?_);refine goesL_ (some 23) rfl rfl Try.func121 kr rfl #[.slice A0 l0.length c0,.slice Ao11 t103.length co11] rfl (by (try simp only [List.map_toArray,List.map_cons,List.map_nil]);first|done|rfl|(simp only [List.length_drop,List.length_take];rfl)) ?_;(with_reducible refine (book_twigs.calls k _ _ l0 _ _ t103 t106 _ ?side1 ?side2 ?side3 ?side4 A8.out).mono ?_);(case side1 => repeat (first|exact (Kd.C_below HR0.out HB.out)|(with_reducible refine Kd.C_alloc ?_ _)|(with_reducible refine Kd.C_drewN ?_ _)|(with_reducible refine Kd.C_drew ?_)));(case side2 => exact HC0.out);(case side3 => repeat (first|exact (Kd.R_reads' HO105.out).2.2|(with_reducible refine Kd.C_alloc ?_ _)|(with_reducible refine Kd.C_drewN ?_ _)|(with_reducible refine Kd.C_drew ?_)));(case side4 => exact (Kd.R_reads' HO105.out).2.1);rintro e w12 ⟨v107,rfl,ho0,hb⟩;refine ⟨_,rfl,?_⟩;have n0_:=am (Kd.R_below (by (with_reducible repeat (first|apply Kd.R_alloc|apply Kd.R_drewN|apply Kd.R_drew));exact HO105.out) hb);have n1_:=am (Kd.R_lower ho0 (below_size (v0 HB.out)));have n2_:=am (below_step (v0 HB.out) hb);clear HO105;clear HB;have HO105:=n0_;have HO108:=n1_;have HB:=n2_;clear n0_ n1_ n2_;(try clear hb);(try clear hb2);(try clear hk);(try clear hi);(try clear ho0)))
   go_ret2
   exact ⟨_,vf,by (with_reducible repeat (first|apply Kd.R_alloc|apply Kd.R_drewN|apply Kd.R_drew));exact HO108.out,v0 HB.out⟩
  ·replace c6:=Bool.eq_false_iff.mpr c6
   subst c6
   have H1 : (some (([] : List (S129)),1)) = some (r1,r2):=by rw [if_neg (show ¬ (false = true) by decide)] at H;exact H
   clear H
   have H:=H1
   clear H1
   simp only [Option.some.injEq,Prod.mk.injEq] at H
   obtain ⟨rfl,rfl⟩:=H
   go_enter Try.func55,Try.ntmps55
   go_wp2_with (first|((with_reducible refine gate_callee (f:=42) rfl ?_);refine goesL_ (some 8) rfl rfl Try.func42 kr rfl #[.slice A0 l0.length c0] rfl (by (try simp only [List.map_toArray,List.map_cons,List.map_nil]);first|done|rfl|(simp only [List.length_drop,List.length_take];rfl)) ?_;(with_reducible refine (book_Check.calls _ _ l0 t101 _ ?side1 ?side2 A3.out).mono ?_);(case side1 => repeat (first|exact HR0.out|(with_reducible refine Kd.C_alloc ?_ _)|(with_reducible refine Kd.C_drewN ?_ _)|(with_reducible refine Kd.C_drew ?_)));(case side2 => exact HC0.out);rintro e w13 ⟨rfl,hb⟩;refine ⟨_,rfl,?_⟩;have n0_:=am (below_step (v0 HB.out) hb);clear HB;have HB:=n0_;clear n0_;(try clear hb);(try clear hb2);(try clear hk);(try clear hi))|((with_reducible refine gate_callee (f:=86) rfl ?_);refine goesL_ (some 15) rfl rfl Try.func86 kr rfl #[.int .i64 a1,.int .i64 0,.int .i64 (l0.length : Int)] rfl (by (try simp only [List.map_toArray,List.map_cons,List.map_nil]);first|done|rfl|(simp only [List.length_drop,List.length_take];rfl)) ?_;(with_reducible refine (book_within.calls a1 0 (l0.length : Int) false _ A5.out).mono ?_);rintro e w' ⟨rfl,⟨nd,rfl⟩⟩;refine ⟨_,rfl,?_⟩))
   go_ret2
   exact ⟨_,vf,by first|exact Kd.R_nil _ _ _ _ _|exact Kd.N_nil _ _ _ _ _|exact Kd.V_nil _ _ _ _ _|exact Kd.Q_nil _ _ _ _ _|exact Kd.S_nil _ _ _ _ _,v0 HB.out⟩
 ·rw [if_neg c4] at H
  have c4b0 : (t101 == 0) = false:=beq_eq_false_iff_ne.mpr c4
  have c4b1 : (t101 != 0) = true:=bne_iff_ne.mpr c4
  simp only [Option.some.injEq,Prod.mk.injEq] at H
  obtain ⟨rfl,rfl⟩:=H
  go_enter Try.func55,Try.ntmps55
  go_wp2_with (first|((with_reducible refine gate_callee (f:=42) rfl ?_);refine goesL_ (some 8) rfl rfl Try.func42 kr rfl #[.slice A0 l0.length c0] rfl (by (try simp only [List.map_toArray,List.map_cons,List.map_nil]);first|done|rfl|(simp only [List.length_drop,List.length_take];rfl)) ?_;(with_reducible refine (book_Check.calls _ _ l0 t101 _ ?side1 ?side2 A3.out).mono ?_);(case side1 => repeat (first|exact HR0.out|(with_reducible refine Kd.C_alloc ?_ _)|(with_reducible refine Kd.C_drewN ?_ _)|(with_reducible refine Kd.C_drew ?_)));(case side2 => exact HC0.out);rintro e w14 ⟨rfl,hb⟩;refine ⟨_,rfl,?_⟩;have n0_:=am (below_step (v0 HB.out) hb);clear HB;have HB:=n0_;clear n0_;(try clear hb);(try clear hb2);(try clear hk);(try clear hi)))
  go_ret2
  exact ⟨_,vf,by first|exact Kd.R_nil _ _ _ _ _|exact Kd.N_nil _ _ _ _ _|exact Kd.V_nil _ _ _ _ _|exact Kd.Q_nil _ _ _ _ _|exact Kd.S_nil _ _ _ _ _,v0 HB.out⟩
theorem eqA39 (d : Nat) (w : World) (x0 y0 : Int) (x1 y1 : Int) :
  (Op.equalIn (d + 2) 39 (.agg #[.int .i64 x0,.int .i64 x1]) (.agg #[.int .i64 y0,.int .i64 y1])).run Try.prog w = .ok (x0 == y0 && (x1 == y1)) w:=by
 refine eqA_of Try.underlying39 kr ?_
 refine eqf_cons (by rfl) (by go_simp;rfl) (by go_simp;rfl) (by go_simp) ?_
 exact eqf_last (by rfl) (by go_simp;rfl) (by go_simp;rfl) (by go_simp)
section
attribute [local go_sem high] eqA39
def calxref08_SameSpans.l0 : Nat → List (S39) → List (S39) → Int → Option (Bool)
|0,_,_,_ => none
|k + 1,x0,x1,x5 => if x5 < (x0.length : Int) then (if 0 ≤ x5 then (if x5 < (x1.length : Int) then (if (!(((rd_T39 x0 x5).f0) == ((rd_T39 x1 x5).f0)) || (!(((rd_T39 x0 x5).f1) == ((rd_T39 x1 x5).f1)))) = true then (some false) else (calxref08_SameSpans.l0 k x0 x1 (wrap64 (x5 + 1)))) else (none)) else (none)) else (some true)
def calxref08_SameSpans.f (k : Nat) (l0 : List (S39)) (l1 : List (S39)) : Option (Bool):=if (l0.length : Int) = (l1.length : Int) then (calxref08_SameSpans.l0 k l0 l1 0) else (some false)
set_option maxHeartbeats 8000000 in
set_option maxRecDepth 100000 in
theorem calxref08_SameSpans.calls (k : Nat) (A0 : Option Addr) (c0 : Nat) (l0 : List (S39)) (A1 : Option Addr) (c1 : Nat) (l1 : List (S39)) (r : Bool) (w : World) (hr0 : Kd.C k39 w A0 l0.length l0) (hc0 : l0.length ≤ c0) (hr1 : Kd.C k39 w A1 l1.length l1) (hc1 : l1.length ≤ c1) (h : calxref08_SameSpans.f k l0 l1 = some r) :
  Calls Try.prog 65 #[.slice A0 l0.length c0,.slice A1 l1.length c1] w fun e w' => e = .returned (.bool r) ∧ Drawn0 w w':=by
 have hu39:=Try.underlying39
 have HR0:=am hr0
 have HC0:=am hc0
 clear hr0 hc0
 have HR1:=am hr1
 have HC1:=am hc1
 clear hr1 hc1
 have H : (if (l0.length : Int) = (l1.length : Int) then (calxref08_SameSpans.l0 k l0 l1 0) else (some false)) = some r:=h
 clear h
 by_cases c3 : (l0.length : Int) = (l1.length : Int)
 ·rw [if_pos c3] at H
  have c3b0 : ((l0.length : Int) == (l1.length : Int)) = true:=beq_iff_eq.mpr c3
  have c3b1 : ((l0.length : Int) != (l1.length : Int)) = false:=bne_eq_false_iff_eq.mpr c3
  have c3b2 : (l0.length == l1.length) = true:=by first|simpa using c3|(simp at c3 ⊢;omega)
  clear c3
  have H':=am H
  clear H
  go_enter Try.func65,Try.ntmps65
  go_wp2
  repeat (go_quiet (fail);try go_wp2)
  go_loopg [5] k (fun kq v5 w' => ∃ (x5_1 : Int),v5 = .int .i64 x5_1 ∧ Aside0 (calxref08_SameSpans.l0 kq l0 l1 x5_1 = some r) ∧ Aside0 (kq ≤ k) ∧ Drawn0 w w')
  case atStart => exact ⟨(0),ve,H',⟨Nat.le_refl _⟩,by repeat (first|exact Drawn0.refl _|apply Drawn0.step)⟩
  case round =>
   clear H'
   try clear c1
   try clear p2
   try clear c3
   try clear c3b0
   try clear c3b1
   try clear c3b2
   obtain ⟨x5_1,rfl,HA,HK1,⟨m1,rfl⟩⟩:=hrel
   cases gk with
  |zero => exact absurd HA.out (by simp [calxref08_SameSpans.l0])
  |succ k1 =>
    have H:=HA.out
    clear HA
    simp only [calxref08_SameSpans.l0] at H
    by_cases c4 : x5_1 < (l0.length : Int)
    ·rw [if_pos c4] at H
     have c4b0 : decide (x5_1 < (l0.length : Int)) = true:=decide_eq_true c4
     clear c4
     by_cases c5 : 0 ≤ x5_1
     ·rw [if_pos c5] at H
      have c5b0 : decide (0 ≤ x5_1) = true:=decide_eq_true c5
      clear c5
      by_cases c6 : x5_1 < (l1.length : Int)
      ·rw [if_pos c6] at H
       have c6b0 : decide (x5_1 < (l1.length : Int)) = true:=decide_eq_true c6
       clear c6
       by_cases c7 : (!(((rd_T39 l0 x5_1).f0) == ((rd_T39 l1 x5_1).f0)) || (!(((rd_T39 l0 x5_1).f1) == ((rd_T39 l1 x5_1).f1)))) = true
       ·rw [if_pos c7] at H
        have c7b0 : (!(((rd_T39 l0 x5_1).f0) == ((rd_T39 l1 x5_1).f0)) || (!(((rd_T39 l0 x5_1).f1) == ((rd_T39 l1 x5_1).f1)))) = true:=c7
        clear c7
        obtain rfl:=Option.some.inj H
        have p101 : 0 ≤ (x5_1 : Int):=of_decide_eq_true va
        have q101 : x5_1 < (l0.length : Int):=of_decide_eq_true va
        obtain ⟨ad101,e101,hx101_0,hx101_1⟩:=at_T39 HR0.out x5_1 p101 q101
        cases e101
        replace p101:=eq_true p101
        replace q101:=eq_true q101
        have p102 : 0 ≤ (x5_1 : Int):=of_decide_eq_true va
        have q102 : x5_1 < (l1.length : Int):=of_decide_eq_true va
        obtain ⟨ad102,e102,hx102_0,hx102_1⟩:=at_T39 HR1.out x5_1 p102 q102
        cases e102
        replace p102:=eq_true p102
        replace q102:=eq_true q102
        go_wp2
        repeat (go_quiet (fail);try go_wp2)
        go_ret
        exact ⟨ve,by repeat (first|exact Drawn0.refl _|apply Drawn0.step)⟩
       ·rw [if_neg c7] at H
        have c7b0 : (!(((rd_T39 l0 x5_1).f0) == ((rd_T39 l1 x5_1).f0)) || (!(((rd_T39 l0 x5_1).f1) == ((rd_T39 l1 x5_1).f1)))) = false:=by simpa using c7
        clear c7
        have H':=am H
        clear H
        have p101 : 0 ≤ (x5_1 : Int):=of_decide_eq_true va
        have q101 : x5_1 < (l0.length : Int):=of_decide_eq_true va
        obtain ⟨ad101,e101,hx101_0,hx101_1⟩:=at_T39 HR0.out x5_1 p101 q101
        cases e101
        replace p101:=eq_true p101
        replace q101:=eq_true q101
        have p102 : 0 ≤ (x5_1 : Int):=of_decide_eq_true va
        have q102 : x5_1 < (l1.length : Int):=of_decide_eq_true va
        obtain ⟨ad102,e102,hx102_0,hx102_1⟩:=at_T39 HR1.out x5_1 p102 q102
        cases e102
        replace p102:=eq_true p102
        replace q102:=eq_true q102
        go_wp2
        repeat (go_quiet (fail);try go_wp2)
        go_roundg k1
        case measure => have:=HK1.out;omega
        case rel => exact ⟨(wrap64 (x5_1 + 1)),ve,H',⟨by have:=HK1.out;omega⟩,by repeat (first|exact Drawn0.refl _|apply Drawn0.step)⟩
      ·rw [if_neg c6] at H
       exact absurd H (by simp)
     ·rw [if_neg c5] at H
      exact absurd H (by simp)
    ·rw [if_neg c4] at H
     have c4b0 : decide (x5_1 < (l0.length : Int)) = false:=decide_eq_false c4
     clear c4
     obtain rfl:=Option.some.inj H
     go_wp2
     repeat (go_quiet (fail);try go_wp2)
     go_ret
     exact ⟨ve,by repeat (first|exact Drawn0.refl _|apply Drawn0.step)⟩
 ·rw [if_neg c3] at H
  have c3b0 : ((l0.length : Int) == (l1.length : Int)) = false:=beq_eq_false_iff_ne.mpr c3
  have c3b1 : ((l0.length : Int) != (l1.length : Int)) = true:=bne_iff_ne.mpr c3
  have c3b2 : (l0.length == l1.length) = false:=by first|simpa using c3|(simp at c3 ⊢;omega)
  obtain rfl:=Option.some.inj H
  go_enter Try.func65,Try.ntmps65
  go_wp2
  repeat (go_quiet (fail);try go_wp2)
  go_ret
  exact ⟨ve,by repeat (first|exact Drawn0.refl _|apply Drawn0.step)⟩
end
def calxlaw08_A.f  : Option (Int × Int × Int × Int):=some (1,0,5,10)
set_option maxHeartbeats 8000000 in
set_option maxRecDepth 100000 in
theorem calxlaw08_A.calls  (r1 : Int) (r2 : Int) (r3 : Int) (r4 : Int) (w : World) (h : calxlaw08_A.f  = some (r1,r2,r3,r4)) :
  Calls Try.prog 81 #[] w fun e w' => e = .returned (.agg #[.int .i64 r1,.int .i64 r2,.int .i64 r3,.int .i64 r4]) ∧ Below w.heap.size w w':=by
 have hu29:=Try.underlying29
 have HB:=am (Below.refl w.heap.size w)
 have H : (some (1,0,5,10)) = some (r1,r2,r3,r4):=h
 clear h
 simp only [Option.some.injEq,Prod.mk.injEq] at H
 obtain ⟨rfl,rfl,rfl,rfl⟩:=H
 go_enter Try.func81,Try.ntmps81
 go_wp2_with (first|((with_reducible refine gate_dst (N:=0) rfl ?_);refine box_event ?hg (N:=0) ?hd (cs:=#[.int .i64 0,.int .i64 0,.int .i64 0,.int .i64 0]) (t:=29) ?hr ?_;(case hd => rfl);(case hg => rfl);(case hr => first|(go_simp;done)|(go_simp;rfl));intro gb101 hg w1 hbox hb;have n0_:=am (below_step (v0 HB.out) hb);have n1_:=am (hbox);have n2_:=am ((by rw [hg];exact (below_size (v0 HB.out)) : w.heap.size ≤ gb101));have n3_:=am ((by rw [hg];exact (below_size (v0 HB.out)) : w.heap.size ≤ gb101));clear HB;have HB:=n0_;have BK101:=n1_;have GW101:=n2_;have GE101:=n3_;clear n0_ n1_ n2_ n3_;clear hb hbox hg;have hcz2_0 : w1.cell? ⟨gb101,0,none⟩ = some (.int .i64 0):=(blk_cell BK101.out 0).trans rfl;have hcz2_1 : w1.cell? ⟨gb101,1,none⟩ = some (.int .i64 0):=(blk_cell BK101.out 1).trans rfl;have hcz2_2 : w1.cell? ⟨gb101,2,none⟩ = some (.int .i64 0):=(blk_cell BK101.out 2).trans rfl;have hcz2_3 : w1.cell? ⟨gb101,3,none⟩ = some (.int .i64 0):=(blk_cell BK101.out 3).trans rfl;have hfz2_0:=blk_frozen BK101.out 0;have hfz2_1:=blk_frozen BK101.out 1;have hfz2_2:=blk_frozen BK101.out 2;have hfz2_3:=blk_frozen BK101.out 3))
 refine bodyPost_ret (results_cell_row rfl _ _ gb101 29 #[.int .i64 1,.int .i64 0,.int .i64 5,.int .i64 10] (0,0) _ rfl (by (with_reducible repeat (first|refine blk_drewN ?_ _|refine blk_drew ?_|refine blk_alloc ?_ _));refine blk_put (cs:=#[.int .i64 1,.int .i64 0,.int .i64 5,.int .i64 0]) ?_ 3 _ rfl;(with_reducible repeat (first|refine blk_drewN ?_ _|refine blk_drew ?_|refine blk_alloc ?_ _));refine blk_put (cs:=#[.int .i64 1,.int .i64 0,.int .i64 0,.int .i64 0]) ?_ 2 _ rfl;(with_reducible repeat (first|refine blk_drewN ?_ _|refine blk_drew ?_|refine blk_alloc ?_ _));refine blk_put (cs:=#[.int .i64 1,.int .i64 0,.int .i64 0,.int .i64 0]) ?_ 1 _ rfl;(with_reducible repeat (first|refine blk_drewN ?_ _|refine blk_drew ?_|refine blk_alloc ?_ _));refine blk_put (cs:=#[.int .i64 0,.int .i64 0,.int .i64 0,.int .i64 0]) ?_ 0 _ rfl;(with_reducible repeat (first|refine blk_drewN ?_ _|refine blk_drew ?_|refine blk_alloc ?_ _));exact BK101.out) Try.underlying29 rfl kr) rfl ?_
 exact ⟨vf,v1 HB.out GE101.out⟩
def calxlaw08_B.f  : Option (Int × Int × Int × Int):=some (1,1,5,4)
set_option maxHeartbeats 8000000 in
set_option maxRecDepth 100000 in
theorem calxlaw08_B.calls  (r1 : Int) (r2 : Int) (r3 : Int) (r4 : Int) (w : World) (h : calxlaw08_B.f  = some (r1,r2,r3,r4)) :
  Calls Try.prog 82 #[] w fun e w' => e = .returned (.agg #[.int .i64 r1,.int .i64 r2,.int .i64 r3,.int .i64 r4]) ∧ Below w.heap.size w w':=by
 have hu29:=Try.underlying29
 have HB:=am (Below.refl w.heap.size w)
 have H : (some (1,1,5,4)) = some (r1,r2,r3,r4):=h
 clear h
 simp only [Option.some.injEq,Prod.mk.injEq] at H
 obtain ⟨rfl,rfl,rfl,rfl⟩:=H
 go_enter Try.func82,Try.ntmps82
 go_wp2_with (first|((with_reducible refine gate_dst (N:=0) rfl ?_);refine box_event ?hg (N:=0) ?hd (cs:=#[.int .i64 0,.int .i64 0,.int .i64 0,.int .i64 0]) (t:=29) ?hr ?_;(case hd => rfl);(case hg => rfl);(case hr => first|(go_simp;done)|(go_simp;rfl));intro gb101 hg w1 hbox hb;have n0_:=am (below_step (v0 HB.out) hb);have n1_:=am (hbox);have n2_:=am ((by rw [hg];exact (below_size (v0 HB.out)) : w.heap.size ≤ gb101));have n3_:=am ((by rw [hg];exact (below_size (v0 HB.out)) : w.heap.size ≤ gb101));clear HB;have HB:=n0_;have BK101:=n1_;have GW101:=n2_;have GE101:=n3_;clear n0_ n1_ n2_ n3_;clear hb hbox hg;have hcz2_0 : w1.cell? ⟨gb101,0,none⟩ = some (.int .i64 0):=(blk_cell BK101.out 0).trans rfl;have hcz2_1 : w1.cell? ⟨gb101,1,none⟩ = some (.int .i64 0):=(blk_cell BK101.out 1).trans rfl;have hcz2_2 : w1.cell? ⟨gb101,2,none⟩ = some (.int .i64 0):=(blk_cell BK101.out 2).trans rfl;have hcz2_3 : w1.cell? ⟨gb101,3,none⟩ = some (.int .i64 0):=(blk_cell BK101.out 3).trans rfl;have hfz2_0:=blk_frozen BK101.out 0;have hfz2_1:=blk_frozen BK101.out 1;have hfz2_2:=blk_frozen BK101.out 2;have hfz2_3:=blk_frozen BK101.out 3))
 refine bodyPost_ret (results_cell_row rfl _ _ gb101 29 #[.int .i64 1,.int .i64 1,.int .i64 5,.int .i64 4] (0,0) _ rfl (by (with_reducible repeat (first|refine blk_drewN ?_ _|refine blk_drew ?_|refine blk_alloc ?_ _));refine blk_put (cs:=#[.int .i64 1,.int .i64 1,.int .i64 5,.int .i64 0]) ?_ 3 _ rfl;(with_reducible repeat (first|refine blk_drewN ?_ _|refine blk_drew ?_|refine blk_alloc ?_ _));refine blk_put (cs:=#[.int .i64 1,.int .i64 1,.int .i64 0,.int .i64 0]) ?_ 2 _ rfl;(with_reducible repeat (first|refine blk_drewN ?_ _|refine blk_drew ?_|refine blk_alloc ?_ _));refine blk_put (cs:=#[.int .i64 1,.int .i64 0,.int .i64 0,.int .i64 0]) ?_ 1 _ rfl;(with_reducible repeat (first|refine blk_drewN ?_ _|refine blk_drew ?_|refine blk_alloc ?_ _));refine blk_put (cs:=#[.int .i64 0,.int .i64 0,.int .i64 0,.int .i64 0]) ?_ 0 _ rfl;(with_reducible repeat (first|refine blk_drewN ?_ _|refine blk_drew ?_|refine blk_alloc ?_ _));exact BK101.out) Try.underlying29 rfl kr) rfl ?_
 exact ⟨vf,v1 HB.out GE101.out⟩
def calxlaw08_C.f  : Option (Int × Int × Int × Int):=some (3,0,6,7)
set_option maxHeartbeats 8000000 in
set_option maxRecDepth 100000 in
theorem calxlaw08_C.calls  (r1 : Int) (r2 : Int) (r3 : Int) (r4 : Int) (w : World) (h : calxlaw08_C.f  = some (r1,r2,r3,r4)) :
  Calls Try.prog 83 #[] w fun e w' => e = .returned (.agg #[.int .i64 r1,.int .i64 r2,.int .i64 r3,.int .i64 r4]) ∧ Below w.heap.size w w':=by
 have hu29:=Try.underlying29
 have HB:=am (Below.refl w.heap.size w)
 have H : (some (3,0,6,7)) = some (r1,r2,r3,r4):=h
 clear h
 simp only [Option.some.injEq,Prod.mk.injEq] at H
 obtain ⟨rfl,rfl,rfl,rfl⟩:=H
 go_enter Try.func83,Try.ntmps83
 go_wp2_with (first|((with_reducible refine gate_dst (N:=0) rfl ?_);refine box_event ?hg (N:=0) ?hd (cs:=#[.int .i64 0,.int .i64 0,.int .i64 0,.int .i64 0]) (t:=29) ?hr ?_;(case hd => rfl);(case hg => rfl);(case hr => first|(go_simp;done)|(go_simp;rfl));intro gb101 hg w1 hbox hb;have n0_:=am (below_step (v0 HB.out) hb);have n1_:=am (hbox);have n2_:=am ((by rw [hg];exact (below_size (v0 HB.out)) : w.heap.size ≤ gb101));have n3_:=am ((by rw [hg];exact (below_size (v0 HB.out)) : w.heap.size ≤ gb101));clear HB;have HB:=n0_;have BK101:=n1_;have GW101:=n2_;have GE101:=n3_;clear n0_ n1_ n2_ n3_;clear hb hbox hg;have hcz2_0 : w1.cell? ⟨gb101,0,none⟩ = some (.int .i64 0):=(blk_cell BK101.out 0).trans rfl;have hcz2_1 : w1.cell? ⟨gb101,1,none⟩ = some (.int .i64 0):=(blk_cell BK101.out 1).trans rfl;have hcz2_2 : w1.cell? ⟨gb101,2,none⟩ = some (.int .i64 0):=(blk_cell BK101.out 2).trans rfl;have hcz2_3 : w1.cell? ⟨gb101,3,none⟩ = some (.int .i64 0):=(blk_cell BK101.out 3).trans rfl;have hfz2_0:=blk_frozen BK101.out 0;have hfz2_1:=blk_frozen BK101.out 1;have hfz2_2:=blk_frozen BK101.out 2;have hfz2_3:=blk_frozen BK101.out 3))
 refine bodyPost_ret (results_cell_row rfl _ _ gb101 29 #[.int .i64 3,.int .i64 0,.int .i64 6,.int .i64 7] (0,0) _ rfl (by (with_reducible repeat (first|refine blk_drewN ?_ _|refine blk_drew ?_|refine blk_alloc ?_ _));refine blk_put (cs:=#[.int .i64 3,.int .i64 0,.int .i64 6,.int .i64 0]) ?_ 3 _ rfl;(with_reducible repeat (first|refine blk_drewN ?_ _|refine blk_drew ?_|refine blk_alloc ?_ _));refine blk_put (cs:=#[.int .i64 3,.int .i64 0,.int .i64 0,.int .i64 0]) ?_ 2 _ rfl;(with_reducible repeat (first|refine blk_drewN ?_ _|refine blk_drew ?_|refine blk_alloc ?_ _));refine blk_put (cs:=#[.int .i64 3,.int .i64 0,.int .i64 0,.int .i64 0]) ?_ 1 _ rfl;(with_reducible repeat (first|refine blk_drewN ?_ _|refine blk_drew ?_|refine blk_alloc ?_ _));refine blk_put (cs:=#[.int .i64 0,.int .i64 0,.int .i64 0,.int .i64 0]) ?_ 0 _ rfl;(with_reducible repeat (first|refine blk_drewN ?_ _|refine blk_drew ?_|refine blk_alloc ?_ _));exact BK101.out) Try.underlying29 rfl kr) rfl ?_
 exact ⟨vf,v1 HB.out GE101.out⟩
def calxlaw08_places.l0 : Nat → List (S129) → List Int → Int → Option (Bool)
|0,_,_,_ => none
|k + 1,x0,x1,x5 => if x5 < (x0.length : Int) then (if 0 ≤ x5 then (if 0 ≤ (wrap64 (2 * x5)) then (if (wrap64 (2 * x5)) < (x1.length : Int) then (if ((rd_T129 x0 x5).f0) = (rd x1 (wrap64 (2 * x5))) then (if 0 ≤ (wrap64 ((wrap64 (2 * x5)) + 1)) then (if (wrap64 ((wrap64 (2 * x5)) + 1)) < (x1.length : Int) then (if ((rd_T129 x0 x5).f1) = (rd x1 (wrap64 ((wrap64 (2 * x5)) + 1))) then (calxlaw08_places.l0 k x0 x1 (wrap64 (x5 + 1))) else (some false)) else (none)) else (none)) else (some false)) else (none)) else (none)) else (none)) else (some true)
def calxlaw08_places.f (k : Nat) (l0 : List (S129)) (l1 : List Int) : Option (Bool):=if (wrap64 (2 * (l0.length : Int))) = (l1.length : Int) then (calxlaw08_places.l0 k l0 l1 0) else (some false)
set_option maxHeartbeats 8000000 in
set_option maxRecDepth 100000 in
theorem calxlaw08_places.calls (k : Nat) (A0 : Option Addr) (c0 : Nat) (l0 : List (S129)) (A1 : Option Addr) (c1 : Nat) (l1 : List Int) (r : Bool) (w : World) (hr0 : Kd.C k129 w A0 l0.length l0) (hc0 : l0.length ≤ c0) (hr1 : Kd.C (Kd.int .i64) w A1 l1.length l1) (hc1 : l1.length ≤ c1) (h : calxlaw08_places.f k l0 l1 = some r) :
  Calls Try.prog 84 #[.slice A0 l0.length c0,.slice A1 l1.length c1] w fun e w' => e = .returned (.bool r) ∧ Drawn0 w w':=by
 have HR0:=am hr0
 have HC0:=am hc0
 clear hr0 hc0
 have HR1:=am hr1
 have HC1:=am hc1
 clear hr1 hc1
 have H : (if (wrap64 (2 * (l0.length : Int))) = (l1.length : Int) then (calxlaw08_places.l0 k l0 l1 0) else (some false)) = some r:=h
 clear h
 by_cases c3 : (wrap64 (2 * (l0.length : Int))) = (l1.length : Int)
 ·rw [if_pos c3] at H
  have c3b0 : ((wrap64 (2 * (l0.length : Int))) == (l1.length : Int)) = true:=beq_iff_eq.mpr c3
  have c3b1 : ((wrap64 (2 * (l0.length : Int))) != (l1.length : Int)) = false:=bne_eq_false_iff_eq.mpr c3
  clear c3
  have H':=am H
  clear H
  go_enter Try.func84,Try.ntmps84
  go_wp2
  repeat (go_quiet (fail);try go_wp2)
  go_loopg [5] k (fun kq v5 w' => ∃ (x5_1 : Int),v5 = .int .i64 x5_1 ∧ Aside0 (calxlaw08_places.l0 kq l0 l1 x5_1 = some r) ∧ Aside0 (kq ≤ k) ∧ Drawn0 w w')
  case atStart => exact ⟨(0),ve,H',⟨Nat.le_refl _⟩,by repeat (first|exact Drawn0.refl _|apply Drawn0.step)⟩
  case round =>
   clear H'
   try clear c1
   try clear p2
   try clear c3
   try clear c3b0
   try clear c3b1
   obtain ⟨x5_1,rfl,HA,HK1,⟨m1,rfl⟩⟩:=hrel
   cases gk with
  |zero => exact absurd HA.out (by simp [calxlaw08_places.l0])
  |succ k1 =>
    have H:=HA.out
    clear HA
    simp only [calxlaw08_places.l0] at H
    by_cases c4 : x5_1 < (l0.length : Int)
    ·rw [if_pos c4] at H
     have c4b0 : decide (x5_1 < (l0.length : Int)) = true:=decide_eq_true c4
     clear c4
     by_cases c5 : 0 ≤ x5_1
     ·rw [if_pos c5] at H
      have c5b0 : decide (0 ≤ x5_1) = true:=decide_eq_true c5
      clear c5
      obtain ⟨ji6,hji6⟩ : ∃ j_ : Int,(wrap64 (2 * x5_1)) = j_:=⟨_,rfl⟩
      replace H : (if 0 ≤ (ji6) then (if (ji6) < (l1.length : Int) then (if ((rd_T129 l0 x5_1).f0) = (rd l1 (ji6)) then (if 0 ≤ (wrap64 ((ji6) + 1)) then (if (wrap64 ((ji6) + 1)) < (l1.length : Int) then (if ((rd_T129 l0 x5_1).f1) = (rd l1 (wrap64 ((ji6) + 1))) then (calxlaw08_places.l0 k1 l0 l1 (wrap64 (x5_1 + 1))) else (some false)) else (none)) else (none)) else (some false)) else (none)) else (none)) = some r:=by first|(rw [hji6] at H;exact H)|(simp only [hji6] at H ⊢;exact H)
      have hji6w : (IntKind.i64.wrap (2 * x5_1)) = ji6:=(i64_w _).trans hji6
      by_cases c7 : 0 ≤ (ji6)
      ·rw [if_pos c7] at H
       have c7b0 : decide (0 ≤ (ji6)) = true:=decide_eq_true c7
       clear c7
       by_cases c8 : (ji6) < (l1.length : Int)
       ·rw [if_pos c8] at H
        have c8b0 : decide ((ji6) < (l1.length : Int)) = true:=decide_eq_true c8
        clear c8
        by_cases c9 : ((rd_T129 l0 x5_1).f0) = (rd l1 (ji6))
        ·rw [if_pos c9] at H
         have c9b0 : (((rd_T129 l0 x5_1).f0) == (rd l1 (ji6))) = true:=beq_iff_eq.mpr c9
         have c9b1 : (((rd_T129 l0 x5_1).f0) != (rd l1 (ji6))) = false:=bne_eq_false_iff_eq.mpr c9
         clear c9
         obtain ⟨ji10,hji10⟩ : ∃ j_ : Int,(wrap64 ((ji6) + 1)) = j_:=⟨_,rfl⟩
         replace H : (if 0 ≤ (ji10) then (if (ji10) < (l1.length : Int) then (if ((rd_T129 l0 x5_1).f1) = (rd l1 (ji10)) then (calxlaw08_places.l0 k1 l0 l1 (wrap64 (x5_1 + 1))) else (some false)) else (none)) else (none)) = some r:=by first|(rw [hji10] at H;exact H)|(simp only [hji10] at H ⊢;exact H)
         have hji10w : (IntKind.i64.wrap ((ji6) + 1)) = ji10:=(i64_w _).trans hji10
         by_cases c11 : 0 ≤ (ji10)
         ·rw [if_pos c11] at H
          have c11b0 : decide (0 ≤ (ji10)) = true:=decide_eq_true c11
          clear c11
          by_cases c12 : (ji10) < (l1.length : Int)
          ·rw [if_pos c12] at H
           have c12b0 : decide ((ji10) < (l1.length : Int)) = true:=decide_eq_true c12
           clear c12
           by_cases c13 : ((rd_T129 l0 x5_1).f1) = (rd l1 (ji10))
           ·rw [if_pos c13] at H
            have c13b0 : (((rd_T129 l0 x5_1).f1) == (rd l1 (ji10))) = true:=beq_iff_eq.mpr c13
            have c13b1 : (((rd_T129 l0 x5_1).f1) != (rd l1 (ji10))) = false:=bne_eq_false_iff_eq.mpr c13
            clear c13
            have H':=am H
            clear H
            have p101 : 0 ≤ (x5_1 : Int):=of_decide_eq_true va
            have q101 : x5_1 < (l0.length : Int):=of_decide_eq_true va
            obtain ⟨ad101,e101,hx101_0,hx101_1,hx101_2⟩:=at_T129 HR0.out x5_1 p101 q101
            cases e101
            replace p101:=eq_true p101
            replace q101:=eq_true q101
            have p102 : 0 ≤ ((ji6) : Int):=of_decide_eq_true va
            have q102 : (ji6) < (l1.length : Int):=of_decide_eq_true va
            obtain ⟨ad102,e102,hx102_0⟩:=Kd.at_int HR1.out (ji6) p102 q102
            cases e102
            replace p102:=eq_true p102
            replace q102:=eq_true q102
            have p103 : 0 ≤ (x5_1 : Int):=of_decide_eq_true va
            have q103 : x5_1 < (l0.length : Int):=of_decide_eq_true va
            obtain ⟨ad103,e103,hx103_0,hx103_1,hx103_2⟩:=at_T129 HR0.out x5_1 p103 q103
            obtain rfl : ad101 = ad103:=(by injection e103)
            replace p103:=eq_true p103
            replace q103:=eq_true q103
            have p104 : 0 ≤ ((ji10) : Int):=of_decide_eq_true va
            have q104 : (ji10) < (l1.length : Int):=of_decide_eq_true va
            obtain ⟨ad104,e104,hx104_0⟩:=Kd.at_int HR1.out (ji10) p104 q104
            obtain rfl : ad102 = ad104:=(by injection e104)
            replace p104:=eq_true p104
            replace q104:=eq_true q104
            go_wp2
            repeat (go_quiet (fail);try go_wp2)
            go_roundg k1
            case measure => have:=HK1.out;omega
            case rel => exact ⟨(wrap64 (x5_1 + 1)),ve,H',⟨by have:=HK1.out;omega⟩,by repeat (first|exact Drawn0.refl _|apply Drawn0.step)⟩
           ·rw [if_neg c13] at H
            have c13b0 : (((rd_T129 l0 x5_1).f1) == (rd l1 (ji10))) = false:=beq_eq_false_iff_ne.mpr c13
            have c13b1 : (((rd_T129 l0 x5_1).f1) != (rd l1 (ji10))) = true:=bne_iff_ne.mpr c13
            obtain rfl:=Option.some.inj H
            have p101 : 0 ≤ (x5_1 : Int):=of_decide_eq_true va
            have q101 : x5_1 < (l0.length : Int):=of_decide_eq_true va
            obtain ⟨ad101,e101,hx101_0,hx101_1,hx101_2⟩:=at_T129 HR0.out x5_1 p101 q101
            cases e101
            replace p101:=eq_true p101
            replace q101:=eq_true q101
            have p102 : 0 ≤ ((ji6) : Int):=of_decide_eq_true va
            have q102 : (ji6) < (l1.length : Int):=of_decide_eq_true va
            obtain ⟨ad102,e102,hx102_0⟩:=Kd.at_int HR1.out (ji6) p102 q102
            cases e102
            replace p102:=eq_true p102
            replace q102:=eq_true q102
            have p103 : 0 ≤ (x5_1 : Int):=of_decide_eq_true va
            have q103 : x5_1 < (l0.length : Int):=of_decide_eq_true va
            obtain ⟨ad103,e103,hx103_0,hx103_1,hx103_2⟩:=at_T129 HR0.out x5_1 p103 q103
            obtain rfl : ad101 = ad103:=(by injection e103)
            replace p103:=eq_true p103
            replace q103:=eq_true q103
            have p104 : 0 ≤ ((ji10) : Int):=of_decide_eq_true va
            have q104 : (ji10) < (l1.length : Int):=of_decide_eq_true va
            obtain ⟨ad104,e104,hx104_0⟩:=Kd.at_int HR1.out (ji10) p104 q104
            obtain rfl : ad102 = ad104:=(by injection e104)
            replace p104:=eq_true p104
            replace q104:=eq_true q104
            go_wp2
            repeat (go_quiet (fail);try go_wp2)
            go_ret
            exact ⟨by first|rfl|(simp;done)|(simp only [← hji6,← hji10] <;> (first|rfl|simp))|(simp [*];done),by repeat (first|exact Drawn0.refl _|apply Drawn0.step)⟩
          ·rw [if_neg c12] at H
           exact absurd H (by simp)
         ·rw [if_neg c11] at H
          exact absurd H (by simp)
        ·rw [if_neg c9] at H
         have c9b0 : (((rd_T129 l0 x5_1).f0) == (rd l1 (ji6))) = false:=beq_eq_false_iff_ne.mpr c9
         have c9b1 : (((rd_T129 l0 x5_1).f0) != (rd l1 (ji6))) = true:=bne_iff_ne.mpr c9
         obtain rfl:=Option.some.inj H
         have p101 : 0 ≤ (x5_1 : Int):=of_decide_eq_true va
         have q101 : x5_1 < (l0.length : Int):=of_decide_eq_true va
         obtain ⟨ad101,e101,hx101_0,hx101_1,hx101_2⟩:=at_T129 HR0.out x5_1 p101 q101
         cases e101
         replace p101:=eq_true p101
         replace q101:=eq_true q101
         have p102 : 0 ≤ ((ji6) : Int):=of_decide_eq_true va
         have q102 : (ji6) < (l1.length : Int):=of_decide_eq_true va
         obtain ⟨ad102,e102,hx102_0⟩:=Kd.at_int HR1.out (ji6) p102 q102
         cases e102
         replace p102:=eq_true p102
         replace q102:=eq_true q102
         go_wp2
         repeat (go_quiet (fail);try go_wp2)
         go_ret
         exact ⟨by first|rfl|(simp;done)|(simp only [← hji6] <;> (first|rfl|simp))|(simp [*];done),by repeat (first|exact Drawn0.refl _|apply Drawn0.step)⟩
       ·rw [if_neg c8] at H
        exact absurd H (by simp)
      ·rw [if_neg c7] at H
       exact absurd H (by simp)
     ·rw [if_neg c5] at H
      exact absurd H (by simp)
    ·rw [if_neg c4] at H
     have c4b0 : decide (x5_1 < (l0.length : Int)) = false:=decide_eq_false c4
     clear c4
     obtain rfl:=Option.some.inj H
     go_wp2
     repeat (go_quiet (fail);try go_wp2)
     go_ret
     exact ⟨ve,by repeat (first|exact Drawn0.refl _|apply Drawn0.step)⟩
 ·rw [if_neg c3] at H
  have c3b0 : ((wrap64 (2 * (l0.length : Int))) == (l1.length : Int)) = false:=beq_eq_false_iff_ne.mpr c3
  have c3b1 : ((wrap64 (2 * (l0.length : Int))) != (l1.length : Int)) = true:=bne_iff_ne.mpr c3
  obtain rfl:=Option.some.inj H
  go_enter Try.func84,Try.ntmps84
  go_wp2
  repeat (go_quiet (fail);try go_wp2)
  go_ret
  exact ⟨ve,by repeat (first|exact Drawn0.refl _|apply Drawn0.step)⟩
abbrev eA : S29:=⟨1,0,5,10⟩
abbrev eB : S29:=⟨1,1,5,4⟩
abbrev eC : S29:=⟨3,0,6,7⟩
abbrev l3 : List S29:=[eA,eB,eC]
abbrev tS : List S129:=[⟨0,1,646776846⟩,⟨2,1,599416721⟩]
abbrev tG2 : List S129:=[⟨0,2,1127476328⟩,⟨2,1,599416721⟩]
abbrev tG1 : List S129:=[⟨0,1,646776846⟩,⟨1,1,2072880994⟩,⟨2,1,599416721⟩]
theorem sanD : book_Digest.f [2] = some (1000006,0):=by kernel_rfl
theorem sanR : book_Root.f l3 = some (674735587,0):=by kernel_rfl
theorem sanA : book_Leaf.f 1 0 5 10 = some (646776846,0):=by kernel_rfl
theorem sanB : book_Leaf.f 1 1 5 4 = some (2072880994,0):=by kernel_rfl
theorem sanC : book_Leaf.f 3 0 6 7 = some (599416721,0):=by kernel_rfl
theorem sanN2 : book_Node.f 2 646776846 2072880994 = some (1127476328,0):=by kernel_rfl
theorem sanN3 : book_Node.f 3 1127476328 599416721 = some (674735587,0):=by kernel_rfl
theorem sanS : book_Stands.f 10 l3 1 = some (tS,0):=by kernel_rfl
theorem sanG2 : book_Grown.f 10 l3 2 = some (tG2,0):=by kernel_rfl
theorem sanG1 : book_Grown.f 10 l3 1 = some (tG1,0):=by kernel_rfl
theorem sanF : book_Fork.f l3 [eA,eC] = some (1,tS,[⟨0,1,646776846⟩],true,0):=by kernel_rfl
theorem sanP1 : calxlaw08_places.f 10 tS [0,1,2,1] = some true:=by kernel_rfl
theorem sanP2 : calxlaw08_places.f 10 tG2 [0,2,2,1] = some true:=by kernel_rfl
theorem sanP3 : calxlaw08_places.f 10 tG1 [0,1,1,1,2,1] = some true:=by kernel_rfl
theorem sanP4 : calxlaw08_places.f 10 [⟨0,1,646776846⟩] [0,1] = some true:=by kernel_rfl
theorem sanJ : book_Join.f [⟨0,[eA,eB]⟩,⟨1,[eB,eC]⟩] = some ([⟨0,l3⟩],0):=by kernel_rfl
theorem sanM : book_Missing.f [⟨1,[eB]⟩] 3 = some ([⟨0,0⟩,⟨2,2⟩],0):=by kernel_rfl
theorem sanT : book_Total.f l3 0 5 3 = some (10,0):=by kernel_rfl
theorem sanMj : book_Majority.f [l3,[eA,eB],[eA,eC]] = some ([eA,eB],0):=by kernel_rfl
theorem sanB1 : calxref08_SameBook.f 10 l3 l3 = some true:=by kernel_rfl
theorem sanB2 : calxref08_SameBook.f 10 [eA,eB] [eA,eB] = some true:=by kernel_rfl
theorem sanSp : calxref08_SameSpans.f 10 [⟨0,0⟩,⟨2,2⟩] [⟨0,0⟩,⟨2,2⟩] = some true:=by kernel_rfl
theorem C_block {α : Type} {d : Kd α} {W : World} {g : Nat} {t : TypeId} {inner : List Value} {ps : List α} (hr : Reps (d.K W) d.sz ps inner) (hb : W.heap[g]? = some (.cells inner.toArray t (0,0))) (hm : ps.length ≤ 9223372036854775807) : d.C W (some ⟨g,0,none⟩) ps.length ps:=by
 refine ⟨rfl,hm,fun _ => ⟨⟨g,0,none⟩,rfl,fun j p hj => ?_⟩⟩
 have hk:=hr.2 j p hj
 refine ⟨_,d.K_len hk,hk,fun i u hu => ?_⟩
 rw [add_plain,blk_cell hb]
 rw [List.getElem?_take] at hu
 split at hu
 ·rw [List.getElem?_drop] at hu
  simpa using hu
 ·cases hu
def calxlaw08_sanity.f : Option Bool:=some true
def R22_17.T : Bool × List (List Nat × List Nat):=(true,[([],[]),([0],[0]),([1],[1]),([],[]),([3],[3]),([4],[4]),([2,5],[2,5]),([6],[6]),([7],[7]),([8],[8]),([8],[8]),([9,7,0,1,2,3,4,5,6,7,8,9],[9]),([10,11,0,1,2,3,4,5,6,7,8,9,10,11],[10])])
def R22_17.B : List Nat:=[0,1,3,0,8,24,63,127,255,511,511,1023,4095]
theorem R22_17.tab : rtab .any (opsOf Try.f22 17) = R22_17.T:=by kernel_rfl
theorem R22_17.bits : waitsOk R22_17.T.2 R22_17.B = true:=by kernel_rfl
def R22_20.T : Bool × List (List Nat × List Nat):=(true,[([],[]),([],[]),([1],[1]),([],[]),([3],[]),([3,4],[3,4]),([0,2,5],[0,2,5]),([6,4],[6]),([7],[7]),([8],[8]),([8],[8]),([9,7,0,1,2,3,4,5,6,7,8,9],[9]),([10,11,0,1,2,3,4,5,6,7,8,9,10,11],[10])])
def R22_20.B : List Nat:=[0,0,2,0,8,24,63,127,255,511,511,1023,4095]
theorem R22_20.tab : rtab .any (opsOf Try.f22 20) = R22_20.T:=by kernel_rfl
theorem R22_20.bits : waitsOk R22_20.T.2 R22_20.B = true:=by kernel_rfl
set_option maxRecDepth 100000 in
set_option maxHeartbeats 4000000 in
theorem calxlaw08_sanity.calls (r : Bool) (w : World) (h : calxlaw08_sanity.f = some r) : Calls Try.prog 22 #[] w fun e w' => e = .returned (.bool r) ∧ Below w.heap.size w w':=by
 obtain rfl:=Option.some.inj h
 clear h
 have hu29:=Try.underlying29
 have hu34:=Try.underlying34
 have hu39:=Try.underlying39
 have hu129:=Try.underlying129
 have hn:=run_not'
 have B0:=am (Below.refl w.heap.size w)
 go_enter Try.func22,Try.ntmps22
 go_wp2_with fail
 refine (calxlaw08_A.calls 1 0 5 10 _ rfl).mono ?_
 rintro e u1 ⟨rfl,hd⟩
 have B1:=am (below_step (by repeat (first|exact B0.out|apply below_alloc|apply pw_below_drewN|apply below_drew1)) hd)
 clear hd B0 
 go_wp2_with fail
 refine (calxlaw08_B.calls 1 1 5 4 _ rfl).mono ?_
 rintro e u2 ⟨rfl,hd⟩
 have B2:=am (below_step (by repeat (first|exact B1.out|apply below_alloc|apply pw_below_drewN|apply below_drew1)) hd)
 clear hd B1 
 go_wp2_with fail
 refine (calxlaw08_C.calls 3 0 6 7 _ rfl).mono ?_
 rintro e u3 ⟨rfl,hd⟩
 have B3:=am (below_step (by repeat (first|exact B2.out|apply below_alloc|apply pw_below_drewN|apply below_drew1)) hd)
 clear hd B2 
 have l_0:=am (show Kd.C k29 (u3.alloc (.cells #[.int .i64 1,.int .i64 0,.int .i64 5,.int .i64 10,.int .i64 1,.int .i64 1,.int .i64 5,.int .i64 4,.int .i64 3,.int .i64 0,.int .i64 6,.int .i64 7] 29)) (some ⟨u3.heap.size,0,none⟩) l3.length l3 from C_block (inner:=[.int .i64 1,.int .i64 0,.int .i64 5,.int .i64 10,.int .i64 1,.int .i64 1,.int .i64 5,.int .i64 4,.int .i64 3,.int .i64 0,.int .i64 6,.int .i64 7]) (Reps.front (k29_mk _ eA) rfl (Reps.front (k29_mk _ eB) rfl (Reps.front (k29_mk _ eC) rfl (Reps.none _ _) rfl) rfl) rfl) (blk_new' _ _ _ rfl) (by decide))
 go_wp2_with fail
 refine (book_Digest.calls (some ⟨u3.heap.size + 1,0,none⟩) 1 [2] _ _ _ (C_intsBlock [2] (blk_new' _ _ _ (by simp)) (by decide)) (by decide) sanD).mono ?_
 rintro e u4 ⟨rfl,nq,rfl⟩
 go_wp2_with fail
 refine (book_Root.calls _ 3 l3 _ _ _ (by repeat (first|exact l_0.out|apply Kd.C_alloc|apply Kd.C_drewN|apply Kd.C_drew)) (by decide) sanR).mono ?_
 rintro e u5 ⟨rfl,hd⟩
 have B4:=am (below_step (by repeat (first|exact B3.out|apply below_alloc|apply pw_below_drewN|apply below_drew1)) hd)
 have l_4:=am (show Kd.C k29 u5 (some ⟨u3.heap.size,0,none⟩) l3.length l3 from Kd.C_below (by repeat (first|exact l_0.out|apply Kd.C_alloc|apply Kd.C_drewN|apply Kd.C_drew)) hd)
 clear hd B3 l_0
 go_wp2_with fail
 refine (calxlaw08_A.calls 1 0 5 10 _ rfl).mono ?_
 rintro e u6 ⟨rfl,hd⟩
 have B5:=am (below_step (by repeat (first|exact B4.out|apply below_alloc|apply pw_below_drewN|apply below_drew1)) hd)
 have l_5:=am (show Kd.C k29 u6 (some ⟨u3.heap.size,0,none⟩) l3.length l3 from Kd.C_below (by repeat (first|exact l_4.out|apply Kd.C_alloc|apply Kd.C_drewN|apply Kd.C_drew)) hd)
 clear hd B4 l_4
 go_wp2_with fail
 refine (book_Leaf.calls 1 0 5 10 _ _ _ sanA).mono ?_
 rintro e u7 ⟨rfl,hd⟩
 have B6:=am (below_step (by repeat (first|exact B5.out|apply below_alloc|apply pw_below_drewN|apply below_drew1)) hd)
 have l_6:=am (show Kd.C k29 u7 (some ⟨u3.heap.size,0,none⟩) l3.length l3 from Kd.C_below (by repeat (first|exact l_5.out|apply Kd.C_alloc|apply Kd.C_drewN|apply Kd.C_drew)) hd)
 clear hd B5 l_5
 go_wp2_with fail
 refine (calxlaw08_B.calls 1 1 5 4 _ rfl).mono ?_
 rintro e u8 ⟨rfl,hd⟩
 have B7:=am (below_step (by repeat (first|exact B6.out|apply below_alloc|apply pw_below_drewN|apply below_drew1)) hd)
 have l_7:=am (show Kd.C k29 u8 (some ⟨u3.heap.size,0,none⟩) l3.length l3 from Kd.C_below (by repeat (first|exact l_6.out|apply Kd.C_alloc|apply Kd.C_drewN|apply Kd.C_drew)) hd)
 clear hd B6 l_6
 go_wp2_with fail
 refine (book_Leaf.calls 1 1 5 4 _ _ _ sanB).mono ?_
 rintro e u9 ⟨rfl,hd⟩
 have B8:=am (below_step (by repeat (first|exact B7.out|apply below_alloc|apply pw_below_drewN|apply below_drew1)) hd)
 have l_8:=am (show Kd.C k29 u9 (some ⟨u3.heap.size,0,none⟩) l3.length l3 from Kd.C_below (by repeat (first|exact l_7.out|apply Kd.C_alloc|apply Kd.C_drewN|apply Kd.C_drew)) hd)
 clear hd B7 l_7
 go_wp2_with fail
 refine (calxlaw08_C.calls 3 0 6 7 _ rfl).mono ?_
 rintro e u10 ⟨rfl,hd⟩
 have B9:=am (below_step (by repeat (first|exact B8.out|apply below_alloc|apply pw_below_drewN|apply below_drew1)) hd)
 have l_9:=am (show Kd.C k29 u10 (some ⟨u3.heap.size,0,none⟩) l3.length l3 from Kd.C_below (by repeat (first|exact l_8.out|apply Kd.C_alloc|apply Kd.C_drewN|apply Kd.C_drew)) hd)
 clear hd B8 l_8
 go_wp2_with fail
 refine (book_Leaf.calls 3 0 6 7 _ _ _ sanC).mono ?_
 rintro e u11 ⟨rfl,hd⟩
 have B10:=am (below_step (by repeat (first|exact B9.out|apply below_alloc|apply pw_below_drewN|apply below_drew1)) hd)
 have l_10:=am (show Kd.C k29 u11 (some ⟨u3.heap.size,0,none⟩) l3.length l3 from Kd.C_below (by repeat (first|exact l_9.out|apply Kd.C_alloc|apply Kd.C_drewN|apply Kd.C_drew)) hd)
 clear hd B9 l_9
 go_wp2_with fail
 refine (book_Node.calls _ _ _ _ _ _ sanN2).mono ?_
 rintro e u12 ⟨rfl,hd⟩
 have B11:=am (below_step (by repeat (first|exact B10.out|apply below_alloc|apply pw_below_drewN|apply below_drew1)) hd)
 have l_11:=am (show Kd.C k29 u12 (some ⟨u3.heap.size,0,none⟩) l3.length l3 from Kd.C_below (by repeat (first|exact l_10.out|apply Kd.C_alloc|apply Kd.C_drewN|apply Kd.C_drew)) hd)
 clear hd B10 l_10
 go_wp2_with fail
 refine (book_Node.calls _ _ _ _ _ _ sanN3).mono ?_
 rintro e u13 ⟨rfl,hd⟩
 have B12:=am (below_step (by repeat (first|exact B11.out|apply below_alloc|apply pw_below_drewN|apply below_drew1)) hd)
 have l_12:=am (show Kd.C k29 u13 (some ⟨u3.heap.size,0,none⟩) l3.length l3 from Kd.C_below (by repeat (first|exact l_11.out|apply Kd.C_alloc|apply Kd.C_drewN|apply Kd.C_drew)) hd)
 clear hd B11 l_11
 go_wp2_with fail
 refine (book_Stands.calls 10 _ 3 l3 _ _ _ _ (by repeat (first|exact l_12.out|apply Kd.C_alloc|apply Kd.C_drewN|apply Kd.C_drew)) (by decide) sanS).mono ?_
 rintro e u14 ⟨v0,rfl,hr,hd⟩
 have B13:=am (below_step (by repeat (first|exact B12.out|apply below_alloc|apply pw_below_drewN|apply below_drew1)) hd)
 have l_13:=am (show Kd.C k29 u14 (some ⟨u3.heap.size,0,none⟩) l3.length l3 from Kd.C_below (by repeat (first|exact l_12.out|apply Kd.C_alloc|apply Kd.C_drewN|apply Kd.C_drew)) hd)
 clear hd B12 l_12
 obtain ⟨gp,cp,rfl,_,_,_⟩:=Kd.R_form hr (by decide)
 have Cp : Kd.C k129 u14 (some ⟨gp,0,none⟩) tS.length tS ∧ tS.length ≤ cp:=by
  obtain ⟨_,_,e_,h1_,h_⟩:=Kd.R_reads hr
  injection e_ with e1 _ e3
  rw [e1,e3]
  exact ⟨h_,h1_⟩
 have p_0:=am Cp.1
 have Lp:=am Cp.2
 clear Cp hr
 go_wp2_with fail
 refine (book_Grown.calls 10 _ 3 l3 _ _ _ _ (by repeat (first|exact l_13.out|apply Kd.C_alloc|apply Kd.C_drewN|apply Kd.C_drew)) (by decide) sanG2).mono ?_
 rintro e u15 ⟨v0,rfl,hr,hd⟩
 have B14:=am (below_step (by repeat (first|exact B13.out|apply below_alloc|apply pw_below_drewN|apply below_drew1)) hd)
 have l_14:=am (show Kd.C k29 u15 (some ⟨u3.heap.size,0,none⟩) l3.length l3 from Kd.C_below (by repeat (first|exact l_13.out|apply Kd.C_alloc|apply Kd.C_drewN|apply Kd.C_drew)) hd)
 have p_14:=am (show Kd.C k129 u15 (some ⟨gp,0,none⟩) tS.length tS from Kd.C_below (by repeat (first|exact p_0.out|apply Kd.C_alloc|apply Kd.C_drewN|apply Kd.C_drew)) hd)
 clear hd B13 l_13 p_0
 obtain ⟨gq,cq,rfl,_,_,_⟩:=Kd.R_form hr (by decide)
 have Cq : Kd.C k129 u15 (some ⟨gq,0,none⟩) tG2.length tG2 ∧ tG2.length ≤ cq:=by
  obtain ⟨_,_,e_,h1_,h_⟩:=Kd.R_reads hr
  injection e_ with e1 _ e3
  rw [e1,e3]
  exact ⟨h_,h1_⟩
 have q_0:=am Cq.1
 have Lq:=am Cq.2
 clear Cq hr
 go_wp2_with fail
 refine (book_Grown.calls 10 _ 3 l3 _ _ _ _ (by repeat (first|exact l_14.out|apply Kd.C_alloc|apply Kd.C_drewN|apply Kd.C_drew)) (by decide) sanG1).mono ?_
 rintro e u16 ⟨v0,rfl,hr,hd⟩
 have B15:=am (below_step (by repeat (first|exact B14.out|apply below_alloc|apply pw_below_drewN|apply below_drew1)) hd)
 have l_15:=am (show Kd.C k29 u16 (some ⟨u3.heap.size,0,none⟩) l3.length l3 from Kd.C_below (by repeat (first|exact l_14.out|apply Kd.C_alloc|apply Kd.C_drewN|apply Kd.C_drew)) hd)
 have p_15:=am (show Kd.C k129 u16 (some ⟨gp,0,none⟩) tS.length tS from Kd.C_below (by repeat (first|exact p_14.out|apply Kd.C_alloc|apply Kd.C_drewN|apply Kd.C_drew)) hd)
 have q_15:=am (show Kd.C k129 u16 (some ⟨gq,0,none⟩) tG2.length tG2 from Kd.C_below (by repeat (first|exact q_0.out|apply Kd.C_alloc|apply Kd.C_drewN|apply Kd.C_drew)) hd)
 clear hd B14 l_14 p_14 q_0
 obtain ⟨gs,cs,rfl,_,_,_⟩:=Kd.R_form hr (by decide)
 have Cs : Kd.C k129 u16 (some ⟨gs,0,none⟩) tG1.length tG1 ∧ tG1.length ≤ cs:=by
  obtain ⟨_,_,e_,h1_,h_⟩:=Kd.R_reads hr
  injection e_ with e1 _ e3
  rw [e1,e3]
  exact ⟨h_,h1_⟩
 have s_0:=am Cs.1
 have Ls:=am Cs.2
 clear Cs hr
 go_wp2_with fail
 refine (calxlaw08_A.calls 1 0 5 10 _ rfl).mono ?_
 rintro e u17 ⟨rfl,hd⟩
 have B16:=am (below_step (by repeat (first|exact B15.out|apply below_alloc|apply pw_below_drewN|apply below_drew1)) hd)
 have l_16:=am (show Kd.C k29 u17 (some ⟨u3.heap.size,0,none⟩) l3.length l3 from Kd.C_below (by repeat (first|exact l_15.out|apply Kd.C_alloc|apply Kd.C_drewN|apply Kd.C_drew)) hd)
 have p_16:=am (show Kd.C k129 u17 (some ⟨gp,0,none⟩) tS.length tS from Kd.C_below (by repeat (first|exact p_15.out|apply Kd.C_alloc|apply Kd.C_drewN|apply Kd.C_drew)) hd)
 have q_16:=am (show Kd.C k129 u17 (some ⟨gq,0,none⟩) tG2.length tG2 from Kd.C_below (by repeat (first|exact q_15.out|apply Kd.C_alloc|apply Kd.C_drewN|apply Kd.C_drew)) hd)
 have s_16:=am (show Kd.C k129 u17 (some ⟨gs,0,none⟩) tG1.length tG1 from Kd.C_below (by repeat (first|exact s_0.out|apply Kd.C_alloc|apply Kd.C_drewN|apply Kd.C_drew)) hd)
 clear hd B15 l_15 p_15 q_15 s_0
 go_wp2_with fail
 refine (calxlaw08_C.calls 3 0 6 7 _ rfl).mono ?_
 rintro e u18 ⟨rfl,hd⟩
 have B17:=am (below_step (by repeat (first|exact B16.out|apply below_alloc|apply pw_below_drewN|apply below_drew1)) hd)
 have l_17:=am (show Kd.C k29 u18 (some ⟨u3.heap.size,0,none⟩) l3.length l3 from Kd.C_below (by repeat (first|exact l_16.out|apply Kd.C_alloc|apply Kd.C_drewN|apply Kd.C_drew)) hd)
 have p_17:=am (show Kd.C k129 u18 (some ⟨gp,0,none⟩) tS.length tS from Kd.C_below (by repeat (first|exact p_16.out|apply Kd.C_alloc|apply Kd.C_drewN|apply Kd.C_drew)) hd)
 have q_17:=am (show Kd.C k129 u18 (some ⟨gq,0,none⟩) tG2.length tG2 from Kd.C_below (by repeat (first|exact q_16.out|apply Kd.C_alloc|apply Kd.C_drewN|apply Kd.C_drew)) hd)
 have s_17:=am (show Kd.C k129 u18 (some ⟨gs,0,none⟩) tG1.length tG1 from Kd.C_below (by repeat (first|exact s_16.out|apply Kd.C_alloc|apply Kd.C_drewN|apply Kd.C_drew)) hd)
 clear hd B16 l_16 p_16 q_16 s_16
 have m_0:=am (show Kd.C k29 (u18.alloc (.cells #[.int .i64 1,.int .i64 0,.int .i64 5,.int .i64 10,.int .i64 3,.int .i64 0,.int .i64 6,.int .i64 7] 29)) (some ⟨u18.heap.size,0,none⟩) 2 [eA,eC] from C_block (inner:=[.int .i64 1,.int .i64 0,.int .i64 5,.int .i64 10,.int .i64 3,.int .i64 0,.int .i64 6,.int .i64 7]) (Reps.front (k29_mk _ eA) rfl (Reps.front (k29_mk _ eC) rfl (Reps.none _ _) rfl) rfl) (blk_new' _ _ _ rfl) (by decide))
 go_wp2_with fail
 refine (book_Fork.calls _ 3 l3 _ 2 [eA,eC] _ _ _ _ _ _ (by repeat (first|exact l_17.out|apply Kd.C_alloc|apply Kd.C_drewN|apply Kd.C_drew)) (by decide) m_0.out (by decide) sanF).mono ?_
 rintro e u19 ⟨v1,v2,rfl,hr1,hr2,hd⟩
 clear m_0
 have B18:=am (below_step (by repeat (first|exact B17.out|apply below_alloc|apply pw_below_drewN|apply below_drew1)) hd)
 have l_18:=am (show Kd.C k29 u19 (some ⟨u3.heap.size,0,none⟩) l3.length l3 from Kd.C_below (by repeat (first|exact l_17.out|apply Kd.C_alloc|apply Kd.C_drewN|apply Kd.C_drew)) hd)
 have p_18:=am (show Kd.C k129 u19 (some ⟨gp,0,none⟩) tS.length tS from Kd.C_below (by repeat (first|exact p_17.out|apply Kd.C_alloc|apply Kd.C_drewN|apply Kd.C_drew)) hd)
 have q_18:=am (show Kd.C k129 u19 (some ⟨gq,0,none⟩) tG2.length tG2 from Kd.C_below (by repeat (first|exact q_17.out|apply Kd.C_alloc|apply Kd.C_drewN|apply Kd.C_drew)) hd)
 have s_18:=am (show Kd.C k129 u19 (some ⟨gs,0,none⟩) tG1.length tG1 from Kd.C_below (by repeat (first|exact s_17.out|apply Kd.C_alloc|apply Kd.C_drewN|apply Kd.C_drew)) hd)
 clear hd B17 l_17 p_17 q_17 s_17
 obtain ⟨gx,cx,rfl,_,_,_⟩:=Kd.R_form hr1 (by decide)
 have Cx : Kd.C k129 u19 (some ⟨gx,0,none⟩) tS.length tS ∧ tS.length ≤ cx:=by
  obtain ⟨_,_,e_,h1_,h_⟩:=Kd.R_reads hr1
  injection e_ with e1 _ e3
  rw [e1,e3]
  exact ⟨h_,h1_⟩
 have x_0:=am Cx.1
 have Lx:=am Cx.2
 clear Cx hr1
 obtain ⟨gy,cy,rfl,_,_,_⟩:=Kd.R_form hr2 (by decide)
 have Cy : Kd.C k129 u19 (some ⟨gy,0,none⟩) 1 [⟨0,1,646776846⟩] ∧ 1 ≤ cy:=by
  obtain ⟨_,_,e_,h1_,h_⟩:=Kd.R_reads hr2
  injection e_ with e1 _ e3
  rw [e1,e3]
  exact ⟨h_,h1_⟩
 have y_0:=am Cy.1
 have Ly:=am Cy.2
 clear Cy hr2
 obtain ⟨ad0,e0,_,_,hd2⟩:=at_T129 p_18.out (0 : Int) (by decide) (by decide)
 injection e0 with e0
 subst e0
 obtain ⟨ad0,e0,_,_,hd5⟩:=at_T129 p_18.out (1 : Int) (by decide) (by decide)
 injection e0 with e0
 subst e0
 have hq2 : ∀ o n,((u19.alloc o).drewN n).cell? ⟨gp,2,none⟩ = some (.int .i64 646776846):=fun o n => (World.cell?_alloc_lt _ _ _ (wb _ _ hd2)).trans hd2
 have hq5 : ∀ o n,((u19.alloc o).drewN n).cell? ⟨gp,5,none⟩ = some (.int .i64 599416721):=fun o n => (World.cell?_alloc_lt _ _ _ (wb _ _ hd5)).trans hd5
 clear hd2 hd5
 go_wp2_with fail
 refine (calxlaw08_places.calls 10 _ _ tS _ 4 [0,1,2,1] _ _ (by repeat (first|exact p_18.out|apply Kd.C_alloc|apply Kd.C_drewN|apply Kd.C_drew)) Lp.out (C_intsBlock [0,1,2,1] (blk_new' _ _ _ (by simp)) (by decide)) (by decide) sanP1).mono ?_
 rintro e u ⟨rfl,n0,rfl⟩
 have z0 : (0 : Int) < 2:=by decide
 have z1 : (1 : Int) < 2:=by decide
 go_wp2_with fail
 refine (calxlaw08_places.calls 10 _ _ tG2 _ 4 [0,2,2,1] _ _ (by repeat (first|exact q_18.out|apply Kd.C_alloc|apply Kd.C_drewN|apply Kd.C_drew)) Lq.out (C_intsBlock [0,2,2,1] (blk_new' _ _ _ (by simp)) (by decide)) (by decide) sanP2).mono ?_
 rintro e u ⟨rfl,n1,rfl⟩
 go_wp2_with fail
 refine (calxlaw08_places.calls 10 _ _ tG1 _ 6 [0,1,1,1,2,1] _ _ (by repeat (first|exact s_18.out|apply Kd.C_alloc|apply Kd.C_drewN|apply Kd.C_drew)) Ls.out (C_intsBlock [0,1,1,1,2,1] (blk_new' _ _ _ (by simp)) (by decide)) (by decide) sanP3).mono ?_
 rintro e u ⟨rfl,n2,rfl⟩
 go_wp2_with fail
 refine (calxlaw08_places.calls 10 _ _ tS _ 4 [0,1,2,1] _ _ (by repeat (first|exact x_0.out|apply Kd.C_alloc|apply Kd.C_drewN|apply Kd.C_drew)) Lx.out (C_intsBlock [0,1,2,1] (blk_new' _ _ _ (by simp)) (by decide)) (by decide) sanP1).mono ?_
 rintro e u ⟨rfl,n3,rfl⟩
 go_wp2_with fail
 refine (calxlaw08_places.calls 10 _ _ [(⟨0,1,646776846⟩ : S129)] _ 2 [0,1] _ _ (by repeat (first|exact y_0.out|apply Kd.C_alloc|apply Kd.C_drewN|apply Kd.C_drew)) Ly.out (C_intsBlock [0,1] (blk_new' _ _ _ (by simp)) (by decide)) (by decide) sanP4).mono ?_
 rintro e u20 ⟨rfl,hdr⟩
 have hd:=hdr.below
 clear hdr hq2 hq5 z0 z1
 have B19:=am (below_step (by repeat (first|exact B18.out|apply below_alloc|apply pw_below_drewN|apply below_drew1)) hd)
 have l_19:=am (show Kd.C k29 u20 (some ⟨u3.heap.size,0,none⟩) l3.length l3 from Kd.C_below (by repeat (first|exact l_18.out|apply Kd.C_alloc|apply Kd.C_drewN|apply Kd.C_drew)) hd)
 clear hd B18 l_18
 obtain ⟨bl,hbl⟩ : ∃ bl,bl = u3.heap.size:=⟨_,rfl⟩
 obtain ⟨i0,hi,_,hsz,_⟩:=info_parts info29
 have hA : ∀ W : World,(Instr.slice 32 (.slice (some ⟨bl,0,none⟩) 3 3) none (some (.int .i64 2)) none).run Try.prog W = .ok (.slice (some ⟨bl,0,none⟩) 2 3) W:=cut_to (P:=Try.prog) 32 29 .i64 Try.underlying32 hi (some ⟨bl,0,none⟩) 3 3 2 (by decide) (by decide) (by decide)
 have hB : ∀ W : World,(Instr.slice 32 (.slice (some ⟨bl,0,none⟩) 3 3) (some (.int .i64 1)) none none).run Try.prog W = .ok (.slice (some ⟨bl,4,none⟩) 2 2) W:=by
  have h:=cut_from (P:=Try.prog) 32 29 .i64 Try.underlying32 hi 4 hsz (some ⟨bl,0,none⟩) 3 3 1 (by decide) (by decide)
  simpa [add_plain] using h
 have hM : ∀ W : World,(Instr.slice 32 (.slice (some ⟨bl,0,none⟩) 3 3) (some (.int .i64 1)) (some (.int .i64 2)) none).run Try.prog W = .ok (.slice (some ⟨bl,4,none⟩) 1 2) W:=by
  have h:=cut_mid (P:=Try.prog) 32 29 .i64 .i64 Try.underlying32 hi 4 hsz (some ⟨bl,0,none⟩) 3 3 1 2 (by decide) (by decide) (by decide) (by decide)
  simpa [add_plain] using h
 clear hi hsz
 have k_0:=am (show Kd.C k29 u20 (some ⟨bl,0,none⟩) 3 l3 by rw [hbl];exact l_19.out)
 have a_0:=am (show Kd.C k29 u20 (some ⟨bl,0,none⟩) 2 [eA,eB] from Kd.C_take (m:=2) (show Kd.C k29 u20 (some ⟨bl,0,none⟩) l3.length l3 from k_0.out) (by decide))
 have b_0:=am (show Kd.C k29 u20 (some ⟨bl,4,none⟩) 2 [eB,eC] by have h:=Kd.C_drop (c:=3) (m:=1) (show Kd.C k29 u20 (some ⟨bl,0,none⟩) l3.length l3 from k_0.out) (by decide) (by decide);simpa [add_plain,show k29.sz = 4 from rfl] using h)
 have m_0:=am (show Kd.C k29 u20 (some ⟨bl,4,none⟩) 1 [eB] from Kd.C_take (m:=1) (xs:=[eB,eC]) b_0.out (by decide))
 rw [← hbl]
 clear hbl l_19
 go_wp2
 have B20:=am (below_drew1 (by repeat (first|exact B19.out|apply below_alloc|apply pw_below_drewN|apply below_drew1)))
 have k_20:=am (show Kd.C k29 (u20).drew (some ⟨bl,0,none⟩) 3 l3 from Kd.C_drew (by repeat (first|exact k_0.out|apply Kd.C_alloc|apply Kd.C_drewN|apply Kd.C_drew)))
 have a_20:=am (show Kd.C k29 (u20).drew (some ⟨bl,0,none⟩) 2 [eA,eB] from Kd.C_drew (by repeat (first|exact a_0.out|apply Kd.C_alloc|apply Kd.C_drewN|apply Kd.C_drew)))
 have b_20:=am (show Kd.C k29 (u20).drew (some ⟨bl,4,none⟩) 2 [eB,eC] from Kd.C_drew (by repeat (first|exact b_0.out|apply Kd.C_alloc|apply Kd.C_drewN|apply Kd.C_drew)))
 have m_20:=am (show Kd.C k29 (u20).drew (some ⟨bl,4,none⟩) 1 [eB] from Kd.C_drew (by repeat (first|exact m_0.out|apply Kd.C_alloc|apply Kd.C_drewN|apply Kd.C_drew)))
 clear B19 k_0 a_0 b_0 m_0
 refine start_ (n:=13) (S:=fun w' => True) (ds:=[]) #[false,false,false,false,false,false,false,false,false,false,false,false,false] kr rfl rfl trivial (fun hHeld => ?_);refine with_tabW R22_17.tab R22_17.bits (fun HT_ HW_ => ?_)
 generalize (u20).drew = d17 at B20 k_20 a_20 b_20 m_20 hHeld ⊢
 refine pure_ (i:=0) (N:=(some 206)) (v:=?_) (a':=?_) #[true,false,false,false,false,false,false,false,false,false,false,false,false] rfl rfl (any_of HT_.out kr) (fun _ _ _ h => h) (Or.inl ⟨by rfl,?_⟩) ?_ ?_
 rotate_left
 ·intro w'
  go_simp
  with_reducible rfl
 rotate_left
 ·exact vs
 refine pure_ (i:=1) (N:=(some 207)) (v:=?_) (a':=?_) #[true,true,false,false,false,false,false,false,false,false,false,false,false] rfl rfl (any_of HT_.out kr) (fun _ _ _ h => h) (Or.inl ⟨by rfl,?_⟩) ?_ ?_
 rotate_left
 ·intro w'
  go_simp
  with_reducible rfl
 rotate_left
 ·exact vs
 refine pure_ (i:=2) (N:=(some 208)) (v:=?_) (a':=?_) #[true,true,true,false,false,false,false,false,false,false,false,false,false] rfl rfl (any_of HT_.out kr) (fun _ _ _ h => h) (Or.inl ⟨by rfl,?_⟩) ?_ ?_
 rotate_left
 ·intro w'
  go_simp
  with_reducible rfl
 rotate_left
 ·exact vs
 refine pure_ (i:=3) (N:=(some 209)) (v:=?_) (a':=?_) #[true,true,true,true,false,false,false,false,false,false,false,false,false] rfl rfl (any_of HT_.out kr) (fun _ _ _ h => h) (Or.inl ⟨by rfl,?_⟩) ?_ ?_
 rotate_left
 ·intro w'
  go_simp
  with_reducible rfl
 rotate_left
 ·exact vs
 refine pure_ (i:=4) (N:=(some 210)) (v:=?_) (a':=?_) #[true,true,true,true,true,false,false,false,false,false,false,false,false] rfl rfl (any_of HT_.out kr) (fun _ _ _ h => h) (Or.inl ⟨by rfl,?_⟩) ?_ ?_
 rotate_left
 ·intro w'
  go_simp
  with_reducible rfl
 rotate_left
 ·exact vs
 refine pure_ (i:=5) (N:=(some 211)) (v:=?_) (a':=?_) #[true,true,true,true,true,true,false,false,false,false,false,false,false] rfl rfl (any_of HT_.out kr) (fun _ _ _ h => h) (Or.inl ⟨by rfl,?_⟩) ?_ ?_
 rotate_left
 ·intro w'
  go_simp
  with_reducible rfl
 rotate_left
 ·exact vs
 refine one_ (i:=6) (N:=(some 212)) #[true,true,true,true,true,true,true,false,false,false,false,false,false] rfl rfl (one_of HT_.out kr) (by decide) (fun K hK => ?_)
 refine value_ (w1:=?_) (v:=?_) (by rfl) rfl ?_ ?_
 rotate_left 2
 ·go_simp
  constructor
  ·rfl
  ·rfl
 refine hK.out _ _ trivial (fun hHeld => ?_)
 clear hK K
 refine norm_ (a':=?_) ?_ ?_
 rotate_left
 ·show Act.put _ (some 212) _ = _
  simp only [Act.put,List.setIfInBounds_toArray,List.set_cons_zero,List.set_cons_succ,i64_w,i32_w]
  rfl
 refine one_ (i:=7) (N:=(some 213)) #[true,true,true,true,true,true,true,true,false,false,false,false,false] rfl rfl (one_of HT_.out kr) (by decide) (fun K hK => ?_)
 refine goes_ Try.func23 kr rfl #[.slice (some ⟨d17.heap.size,0,none⟩) 2 2] (by rfl) rfl rfl (by (try simp only [List.map_toArray,List.map_cons,List.map_nil]);first|done|rfl|(simp only [List.length_drop,List.length_take];rfl)) ?_
 refine (book_Join.calls (some ⟨d17.heap.size,0,none⟩) 2 [⟨0,[eA,eB]⟩,⟨1,[eB,eC]⟩] _ _ _ (C_block (inner:=[.int .i64 0,.slice (some ⟨bl,0,none⟩) 2 3,.int .i64 1,.slice (some ⟨bl,4,none⟩) 2 2]) (ps:=[(⟨0,[eA,eB]⟩ : S34),(⟨1,[eB,eC]⟩ : S34)]) (Reps.front (k34_mk _ (⟨0,[eA,eB]⟩ : S34) (show 2 ≤ 3 by decide) (by repeat (first|exact a_20.out|apply Kd.C_alloc|apply Kd.C_drewN|apply Kd.C_drew))) rfl (Reps.front (k34_mk _ (⟨1,[eB,eC]⟩ : S34) (show 2 ≤ 2 by decide) (by repeat (first|exact b_20.out|apply Kd.C_alloc|apply Kd.C_drewN|apply Kd.C_drew))) rfl (Reps.none _ _) rfl) rfl) (blk_new' _ _ _ (by simp)) (by decide)) (by decide) sanJ).mono ?_
 rintro e u21 ⟨v0,rfl,hr0,hd⟩
 have hr:=Kd.S_R hr0
 clear hr0
 refine ⟨_,rfl,?_⟩
 have B21:=am (below_step (by repeat (first|exact B20.out|apply below_alloc|apply pw_below_drewN|apply below_drew1)) hd)
 have k_21:=am (show Kd.C k29 u21 (some ⟨bl,0,none⟩) 3 l3 from Kd.C_below (by repeat (first|exact k_20.out|apply Kd.C_alloc|apply Kd.C_drewN|apply Kd.C_drew)) hd)
 have a_21:=am (show Kd.C k29 u21 (some ⟨bl,0,none⟩) 2 [eA,eB] from Kd.C_below (by repeat (first|exact a_20.out|apply Kd.C_alloc|apply Kd.C_drewN|apply Kd.C_drew)) hd)
 have b_21:=am (show Kd.C k29 u21 (some ⟨bl,4,none⟩) 2 [eB,eC] from Kd.C_below (by repeat (first|exact b_20.out|apply Kd.C_alloc|apply Kd.C_drewN|apply Kd.C_drew)) hd)
 have m_21:=am (show Kd.C k29 u21 (some ⟨bl,4,none⟩) 1 [eB] from Kd.C_below (by repeat (first|exact m_20.out|apply Kd.C_alloc|apply Kd.C_drewN|apply Kd.C_drew)) hd)
 clear hd B20 k_20 a_20 b_20 m_20
 obtain ⟨gj,cj,rfl,_,_,_⟩:=Kd.R_form hr (by decide)
 have Cj : Kd.C k34 u21 (some ⟨gj,0,none⟩) 1 [(⟨0,l3⟩ : S34)] ∧ 1 ≤ cj:=by
  obtain ⟨_,_,e_,h1_,h_⟩:=Kd.R_reads hr
  injection e_ with e1 _ e3
  rw [e1,e3]
  exact ⟨h_,h1_⟩
 have j_0:=am Cj.1
 have Lj:=am Cj.2
 clear Cj hr
 refine hK.out _ _ trivial (fun hHeld => ?_)
 clear hK K
 refine norm_ (a':=?_) ?_ ?_
 rotate_left
 ·show Act.put _ (some 213) _ = _
  simp only [Act.put,List.setIfInBounds_toArray,List.set_cons_zero,List.set_cons_succ,i64_w,i32_w]
  rfl
 refine pure_ (i:=8) (N:=(some 205)) (v:=?_) (a':=?_) #[true,true,true,true,true,true,true,true,true,false,false,false,false] rfl rfl (any_of HT_.out kr) (fun _ _ _ h => h) (Or.inl ⟨by rfl,?_⟩) ?_ ?_
 rotate_left
 ·intro w'
  go_simp
  with_reducible rfl
 rotate_left
 ·exact vs
 refine pure_ (i:=9) (N:=(some 214)) (v:=?_) (a':=?_) #[true,true,true,true,true,true,true,true,true,true,false,false,false] rfl rfl (any_of HT_.out kr) (fun _ _ _ h => h) (Or.inl ⟨by rfl,?_⟩) ?_ ?_
 rotate_left
 ·intro w'
  go_simp
  with_reducible rfl
 rotate_left
 ·exact vs
 refine pure_ (i:=10) (N:=(some 215)) (v:=?_) (a':=?_) #[true,true,true,true,true,true,true,true,true,true,true,false,false] rfl rfl (any_of HT_.out kr) (fun _ _ _ h => h) (Or.inl ⟨by rfl,?_⟩) ?_ ?_
 rotate_left
 ·intro w'
  go_simp
  with_reducible rfl
 rotate_left
 ·exact vs
 refine pure_ (i:=11) (N:=(some 27)) (v:=?_) (a':=?_) #[true,true,true,true,true,true,true,true,true,true,true,true,false] rfl rfl (any_of HT_.out kr) (fun _ _ _ h => h) (Or.inl ⟨by rfl,?_⟩) ?_ ?_
 rotate_left
 ·intro w'
  go_simp
  with_reducible rfl
 rotate_left
 ·exact vs
 refine pure_ (i:=12) (N:=(some 28)) (v:=?_) (a':=?_) #[true,true,true,true,true,true,true,true,true,true,true,true,true] rfl rfl (any_of HT_.out kr) (fun _ _ _ h => h) (Or.inl ⟨by rfl,?_⟩) ?_ ?_
 rotate_left
 ·intro w'
  go_simp
  with_reducible rfl
 rotate_left
 ·exact vs
 refine done_ (done_of HT_.out kr) ?_
 go_wp2_with fail
 refine (book_Missing.calls (some ⟨u21.heap.size,0,none⟩) 1 [⟨1,[eB]⟩] 3 _ _ _ (C_block (inner:=[.int .i64 1,.slice (some ⟨bl,4,none⟩) 1 2]) (ps:=[(⟨1,[eB]⟩ : S34)]) (Reps.front (k34_mk _ (⟨1,[eB]⟩ : S34) (show 1 ≤ 2 by decide) (by repeat (first|exact m_21.out|apply Kd.C_alloc|apply Kd.C_drewN|apply Kd.C_drew))) rfl (Reps.none _ _) rfl) (blk_new' _ _ _ (by simp)) (by decide)) (by decide) sanM).mono ?_
 rintro e u22 ⟨v0,rfl,hr,hd⟩
 have B22:=am (below_step (by repeat (first|exact B21.out|apply below_alloc|apply pw_below_drewN|apply below_drew1)) hd)
 have k_22:=am (show Kd.C k29 u22 (some ⟨bl,0,none⟩) 3 l3 from Kd.C_below (by repeat (first|exact k_21.out|apply Kd.C_alloc|apply Kd.C_drewN|apply Kd.C_drew)) hd)
 have a_22:=am (show Kd.C k29 u22 (some ⟨bl,0,none⟩) 2 [eA,eB] from Kd.C_below (by repeat (first|exact a_21.out|apply Kd.C_alloc|apply Kd.C_drewN|apply Kd.C_drew)) hd)
 have b_22:=am (show Kd.C k29 u22 (some ⟨bl,4,none⟩) 2 [eB,eC] from Kd.C_below (by repeat (first|exact b_21.out|apply Kd.C_alloc|apply Kd.C_drewN|apply Kd.C_drew)) hd)
 have m_22:=am (show Kd.C k29 u22 (some ⟨bl,4,none⟩) 1 [eB] from Kd.C_below (by repeat (first|exact m_21.out|apply Kd.C_alloc|apply Kd.C_drewN|apply Kd.C_drew)) hd)
 have j_22:=am (show Kd.C k34 u22 (some ⟨gj,0,none⟩) 1 [(⟨0,l3⟩ : S34)] from Kd.C_below (by repeat (first|exact j_0.out|apply Kd.C_alloc|apply Kd.C_drewN|apply Kd.C_drew)) hd)
 clear hd B21 k_21 a_21 b_21 m_21 j_0
 obtain ⟨gz,cz,rfl,_,_,_⟩:=Kd.R_form hr (by decide)
 have Cz : Kd.C k39 u22 (some ⟨gz,0,none⟩) 2 [(⟨0,0⟩ : S39),⟨2,2⟩] ∧ 2 ≤ cz:=by
  obtain ⟨_,_,e_,h1_,h_⟩:=Kd.R_reads hr
  injection e_ with e1 _ e3
  rw [e1,e3]
  exact ⟨h_,h1_⟩
 have z_0:=am Cz.1
 have Lz:=am Cz.2
 clear Cz hr
 go_wp2_with fail
 refine (book_Total.calls _ 3 l3 0 5 3 _ _ _ (by repeat (first|exact k_22.out|apply Kd.C_alloc|apply Kd.C_drewN|apply Kd.C_drew)) (by decide) sanT).mono ?_
 rintro e u23 ⟨rfl,hd⟩
 have B23:=am (below_step (by repeat (first|exact B22.out|apply below_alloc|apply pw_below_drewN|apply below_drew1)) hd)
 have k_23:=am (show Kd.C k29 u23 (some ⟨bl,0,none⟩) 3 l3 from Kd.C_below (by repeat (first|exact k_22.out|apply Kd.C_alloc|apply Kd.C_drewN|apply Kd.C_drew)) hd)
 have a_23:=am (show Kd.C k29 u23 (some ⟨bl,0,none⟩) 2 [eA,eB] from Kd.C_below (by repeat (first|exact a_22.out|apply Kd.C_alloc|apply Kd.C_drewN|apply Kd.C_drew)) hd)
 have b_23:=am (show Kd.C k29 u23 (some ⟨bl,4,none⟩) 2 [eB,eC] from Kd.C_below (by repeat (first|exact b_22.out|apply Kd.C_alloc|apply Kd.C_drewN|apply Kd.C_drew)) hd)
 have m_23:=am (show Kd.C k29 u23 (some ⟨bl,4,none⟩) 1 [eB] from Kd.C_below (by repeat (first|exact m_22.out|apply Kd.C_alloc|apply Kd.C_drewN|apply Kd.C_drew)) hd)
 have j_23:=am (show Kd.C k34 u23 (some ⟨gj,0,none⟩) 1 [(⟨0,l3⟩ : S34)] from Kd.C_below (by repeat (first|exact j_22.out|apply Kd.C_alloc|apply Kd.C_drewN|apply Kd.C_drew)) hd)
 have z_23:=am (show Kd.C k39 u23 (some ⟨gz,0,none⟩) 2 [(⟨0,0⟩ : S39),⟨2,2⟩] from Kd.C_below (by repeat (first|exact z_0.out|apply Kd.C_alloc|apply Kd.C_drewN|apply Kd.C_drew)) hd)
 clear hd B22 k_22 a_22 b_22 m_22 j_22 z_0
 go_wp2
 have B24:=am (below_drew1 (by repeat (first|exact B23.out|apply below_alloc|apply pw_below_drewN|apply below_drew1)))
 have k_24:=am (show Kd.C k29 (u23).drew (some ⟨bl,0,none⟩) 3 l3 from Kd.C_drew (by repeat (first|exact k_23.out|apply Kd.C_alloc|apply Kd.C_drewN|apply Kd.C_drew)))
 have a_24:=am (show Kd.C k29 (u23).drew (some ⟨bl,0,none⟩) 2 [eA,eB] from Kd.C_drew (by repeat (first|exact a_23.out|apply Kd.C_alloc|apply Kd.C_drewN|apply Kd.C_drew)))
 have b_24:=am (show Kd.C k29 (u23).drew (some ⟨bl,4,none⟩) 2 [eB,eC] from Kd.C_drew (by repeat (first|exact b_23.out|apply Kd.C_alloc|apply Kd.C_drewN|apply Kd.C_drew)))
 have m_24:=am (show Kd.C k29 (u23).drew (some ⟨bl,4,none⟩) 1 [eB] from Kd.C_drew (by repeat (first|exact m_23.out|apply Kd.C_alloc|apply Kd.C_drewN|apply Kd.C_drew)))
 have j_24:=am (show Kd.C k34 (u23).drew (some ⟨gj,0,none⟩) 1 [(⟨0,l3⟩ : S34)] from Kd.C_drew (by repeat (first|exact j_23.out|apply Kd.C_alloc|apply Kd.C_drewN|apply Kd.C_drew)))
 have z_24:=am (show Kd.C k39 (u23).drew (some ⟨gz,0,none⟩) 2 [(⟨0,0⟩ : S39),⟨2,2⟩] from Kd.C_drew (by repeat (first|exact z_23.out|apply Kd.C_alloc|apply Kd.C_drewN|apply Kd.C_drew)))
 clear B23 k_23 a_23 b_23 m_23 j_23 z_23
 refine start_ (n:=13) (S:=fun w' => True) (ds:=[]) #[false,false,false,false,false,false,false,false,false,false,false,false,false] kr rfl rfl trivial (fun hHeld => ?_);refine with_tabW R22_20.tab R22_20.bits (fun HT_ HW_ => ?_)
 generalize (u23).drew = d20 at B24 k_24 a_24 b_24 m_24 j_24 z_24 hHeld ⊢
 refine pure_ (i:=0) (N:=(some 230)) (v:=?_) (a':=?_) #[true,false,false,false,false,false,false,false,false,false,false,false,false] rfl rfl (any_of HT_.out kr) (fun _ _ _ h => h) (Or.inl ⟨by rfl,?_⟩) ?_ ?_
 rotate_left
 ·intro w'
  go_simp
  with_reducible rfl
 rotate_left
 ·exact vs
 refine pure_ (i:=1) (N:=(some 231)) (v:=?_) (a':=?_) #[true,true,false,false,false,false,false,false,false,false,false,false,false] rfl rfl (any_of HT_.out kr) (fun _ _ _ h => h) (Or.inl ⟨by rfl,?_⟩) ?_ ?_
 rotate_left
 ·intro w'
  go_simp
  with_reducible rfl
 rotate_left
 ·exact vs
 refine pure_ (i:=2) (N:=(some 232)) (v:=?_) (a':=?_) #[true,true,true,false,false,false,false,false,false,false,false,false,false] rfl rfl (any_of HT_.out kr) (fun _ _ _ h => h) (Or.inl ⟨by rfl,?_⟩) ?_ ?_
 rotate_left
 ·intro w'
  go_simp
  with_reducible rfl
 rotate_left
 ·exact vs
 refine one_ (i:=3) (N:=(some 233)) #[true,true,true,true,false,false,false,false,false,false,false,false,false] rfl rfl (one_of HT_.out kr) (by decide) (fun K hK => ?_)
 refine goes_ Try.func81 kr rfl #[] (by rfl) rfl rfl (by (try simp only [List.map_toArray,List.map_cons,List.map_nil]);first|done|rfl|(simp only [List.length_drop,List.length_take];rfl)) ?_
 refine (calxlaw08_A.calls 1 0 5 10 _ rfl).mono ?_
 rintro e u24 ⟨rfl,hd⟩
 refine ⟨_,rfl,?_⟩
 have B25:=am (below_step (by repeat (first|exact B24.out|apply below_alloc|apply pw_below_drewN|apply below_drew1)) hd)
 have k_25:=am (show Kd.C k29 u24 (some ⟨bl,0,none⟩) 3 l3 from Kd.C_below (by repeat (first|exact k_24.out|apply Kd.C_alloc|apply Kd.C_drewN|apply Kd.C_drew)) hd)
 have a_25:=am (show Kd.C k29 u24 (some ⟨bl,0,none⟩) 2 [eA,eB] from Kd.C_below (by repeat (first|exact a_24.out|apply Kd.C_alloc|apply Kd.C_drewN|apply Kd.C_drew)) hd)
 have b_25:=am (show Kd.C k29 u24 (some ⟨bl,4,none⟩) 2 [eB,eC] from Kd.C_below (by repeat (first|exact b_24.out|apply Kd.C_alloc|apply Kd.C_drewN|apply Kd.C_drew)) hd)
 have m_25:=am (show Kd.C k29 u24 (some ⟨bl,4,none⟩) 1 [eB] from Kd.C_below (by repeat (first|exact m_24.out|apply Kd.C_alloc|apply Kd.C_drewN|apply Kd.C_drew)) hd)
 have j_25:=am (show Kd.C k34 u24 (some ⟨gj,0,none⟩) 1 [(⟨0,l3⟩ : S34)] from Kd.C_below (by repeat (first|exact j_24.out|apply Kd.C_alloc|apply Kd.C_drewN|apply Kd.C_drew)) hd)
 have z_25:=am (show Kd.C k39 u24 (some ⟨gz,0,none⟩) 2 [(⟨0,0⟩ : S39),⟨2,2⟩] from Kd.C_below (by repeat (first|exact z_24.out|apply Kd.C_alloc|apply Kd.C_drewN|apply Kd.C_drew)) hd)
 clear hd B24 k_24 a_24 b_24 m_24 j_24 z_24
 refine hK.out _ _ trivial (fun hHeld => ?_)
 clear hK K
 refine norm_ (a':=?_) ?_ ?_
 rotate_left
 ·show Act.put _ (some 233) _ = _
  simp only [Act.put,List.setIfInBounds_toArray,List.set_cons_zero,List.set_cons_succ,i64_w,i32_w]
  rfl
 refine one_ (i:=4) (N:=(some 234)) #[true,true,true,true,true,false,false,false,false,false,false,false,false] rfl rfl (one_of HT_.out kr) (by decide) (fun K hK => ?_)
 refine goes_ Try.func83 kr rfl #[] (by rfl) rfl rfl (by (try simp only [List.map_toArray,List.map_cons,List.map_nil]);first|done|rfl|(simp only [List.length_drop,List.length_take];rfl)) ?_
 refine (calxlaw08_C.calls 3 0 6 7 _ rfl).mono ?_
 rintro e u25 ⟨rfl,hd⟩
 refine ⟨_,rfl,?_⟩
 have B26:=am (below_step (by repeat (first|exact B25.out|apply below_alloc|apply pw_below_drewN|apply below_drew1)) hd)
 have k_26:=am (show Kd.C k29 u25 (some ⟨bl,0,none⟩) 3 l3 from Kd.C_below (by repeat (first|exact k_25.out|apply Kd.C_alloc|apply Kd.C_drewN|apply Kd.C_drew)) hd)
 have a_26:=am (show Kd.C k29 u25 (some ⟨bl,0,none⟩) 2 [eA,eB] from Kd.C_below (by repeat (first|exact a_25.out|apply Kd.C_alloc|apply Kd.C_drewN|apply Kd.C_drew)) hd)
 have b_26:=am (show Kd.C k29 u25 (some ⟨bl,4,none⟩) 2 [eB,eC] from Kd.C_below (by repeat (first|exact b_25.out|apply Kd.C_alloc|apply Kd.C_drewN|apply Kd.C_drew)) hd)
 have m_26:=am (show Kd.C k29 u25 (some ⟨bl,4,none⟩) 1 [eB] from Kd.C_below (by repeat (first|exact m_25.out|apply Kd.C_alloc|apply Kd.C_drewN|apply Kd.C_drew)) hd)
 have j_26:=am (show Kd.C k34 u25 (some ⟨gj,0,none⟩) 1 [(⟨0,l3⟩ : S34)] from Kd.C_below (by repeat (first|exact j_25.out|apply Kd.C_alloc|apply Kd.C_drewN|apply Kd.C_drew)) hd)
 have z_26:=am (show Kd.C k39 u25 (some ⟨gz,0,none⟩) 2 [(⟨0,0⟩ : S39),⟨2,2⟩] from Kd.C_below (by repeat (first|exact z_25.out|apply Kd.C_alloc|apply Kd.C_drewN|apply Kd.C_drew)) hd)
 clear hd B25 k_25 a_25 b_25 m_25 j_25 z_25
 refine hK.out _ _ trivial (fun hHeld => ?_)
 clear hK K
 refine norm_ (a':=?_) ?_ ?_
 rotate_left
 ·show Act.put _ (some 234) _ = _
  simp only [Act.put,List.setIfInBounds_toArray,List.set_cons_zero,List.set_cons_succ,i64_w,i32_w]
  rfl
 refine one_ (i:=5) (N:=(some 235)) #[true,true,true,true,true,true,false,false,false,false,false,false,false] rfl rfl (one_of HT_.out kr) (by decide) (fun K hK => ?_)
 refine value_ (w1:=?_) (v:=?_) (by rfl) rfl ?_ ?_
 rotate_left 2
 ·go_simp
  constructor
  ·rfl
  ·rfl
 refine hK.out _ _ trivial (fun hHeld => ?_)
 clear hK K
 refine norm_ (a':=?_) ?_ ?_
 rotate_left
 ·show Act.put _ (some 235) _ = _
  simp only [Act.put,List.setIfInBounds_toArray,List.set_cons_zero,List.set_cons_succ,i64_w,i32_w]
  rfl
 refine one_ (i:=6) (N:=(some 236)) #[true,true,true,true,true,true,true,false,false,false,false,false,false] rfl rfl (one_of HT_.out kr) (by decide) (fun K hK => ?_)
 refine value_ (w1:=?_) (v:=?_) (by rfl) rfl ?_ ?_
 rotate_left 2
 ·go_simp
  constructor
  ·rfl
  ·rfl
 refine hK.out _ _ trivial (fun hHeld => ?_)
 clear hK K
 refine norm_ (a':=?_) ?_ ?_
 rotate_left
 ·show Act.put _ (some 236) _ = _
  simp only [Act.put,List.setIfInBounds_toArray,List.set_cons_zero,List.set_cons_succ,i64_w,i32_w]
  rfl
 refine one_ (i:=7) (N:=(some 237)) #[true,true,true,true,true,true,true,true,false,false,false,false,false] rfl rfl (one_of HT_.out kr) (by decide) (fun K hK => ?_)
 refine goes_ Try.func28 kr rfl #[.slice (some ⟨u25.heap.size + 1,0,none⟩) 3 3] (by rfl) rfl rfl (by (try simp only [List.map_toArray,List.map_cons,List.map_nil]);first|done|rfl|(simp only [List.length_drop,List.length_take];rfl)) ?_
 have n_0:=am (show Kd.C k29 ((u25.alloc (.cells #[.int .i64 1,.int .i64 0,.int .i64 5,.int .i64 10,.int .i64 3,.int .i64 0,.int .i64 6,.int .i64 7] 29)).alloc (.cells #[.slice (some ⟨bl,0,none⟩) 3 3,.slice (some ⟨bl,0,none⟩) 2 3,.slice (some ⟨u25.heap.size,0,none⟩) 2 2] 32)) (some ⟨u25.heap.size,0,none⟩) 2 [eA,eC] from C_block (inner:=[.int .i64 1,.int .i64 0,.int .i64 5,.int .i64 10,.int .i64 3,.int .i64 0,.int .i64 6,.int .i64 7]) (Reps.front (k29_mk _ eA) rfl (Reps.front (k29_mk _ eC) rfl (Reps.none _ _) rfl) rfl) (blk_alloc (blk_new' _ _ _ rfl) _) (by decide))
 refine (book_Majority.calls (some ⟨u25.heap.size + 1,0,none⟩) 3 [l3,[eA,eB],[eA,eC]] _ _ _ (C_block (inner:=[.slice (some ⟨bl,0,none⟩) 3 3,.slice (some ⟨bl,0,none⟩) 2 3,.slice (some ⟨u25.heap.size,0,none⟩) 2 2]) (ps:=[l3,[eA,eB],[eA,eC]]) (Reps.front ⟨_,_,rfl,(show 3 ≤ 3 by decide),(by repeat (first|exact k_26.out|apply Kd.C_alloc|apply Kd.C_drewN|apply Kd.C_drew))⟩ rfl (Reps.front ⟨_,_,rfl,(show 2 ≤ 3 by decide),(by repeat (first|exact a_26.out|apply Kd.C_alloc|apply Kd.C_drewN|apply Kd.C_drew))⟩ rfl (Reps.front ⟨_,_,rfl,(show 2 ≤ 2 by decide),n_0.out⟩ rfl (Reps.none _ _) rfl) rfl) rfl) (blk_new' _ _ _ (by simp)) (by decide)) (by decide) sanMj).mono ?_
 rintro e u26 ⟨v0,rfl,hr,hd⟩
 refine ⟨_,rfl,?_⟩
 have B27:=am (below_step (by repeat (first|exact B26.out|apply below_alloc|apply pw_below_drewN|apply below_drew1)) hd)
 have k_27:=am (show Kd.C k29 u26 (some ⟨bl,0,none⟩) 3 l3 from Kd.C_below (by repeat (first|exact k_26.out|apply Kd.C_alloc|apply Kd.C_drewN|apply Kd.C_drew)) hd)
 have a_27:=am (show Kd.C k29 u26 (some ⟨bl,0,none⟩) 2 [eA,eB] from Kd.C_below (by repeat (first|exact a_26.out|apply Kd.C_alloc|apply Kd.C_drewN|apply Kd.C_drew)) hd)
 have b_27:=am (show Kd.C k29 u26 (some ⟨bl,4,none⟩) 2 [eB,eC] from Kd.C_below (by repeat (first|exact b_26.out|apply Kd.C_alloc|apply Kd.C_drewN|apply Kd.C_drew)) hd)
 have m_27:=am (show Kd.C k29 u26 (some ⟨bl,4,none⟩) 1 [eB] from Kd.C_below (by repeat (first|exact m_26.out|apply Kd.C_alloc|apply Kd.C_drewN|apply Kd.C_drew)) hd)
 have j_27:=am (show Kd.C k34 u26 (some ⟨gj,0,none⟩) 1 [(⟨0,l3⟩ : S34)] from Kd.C_below (by repeat (first|exact j_26.out|apply Kd.C_alloc|apply Kd.C_drewN|apply Kd.C_drew)) hd)
 have z_27:=am (show Kd.C k39 u26 (some ⟨gz,0,none⟩) 2 [(⟨0,0⟩ : S39),⟨2,2⟩] from Kd.C_below (by repeat (first|exact z_26.out|apply Kd.C_alloc|apply Kd.C_drewN|apply Kd.C_drew)) hd)
 clear hd B26 k_26 a_26 b_26 m_26 j_26 z_26
 obtain ⟨gw,cw,rfl,_,_,_⟩:=Kd.R_form hr (by decide)
 have Cw : Kd.C k29 u26 (some ⟨gw,0,none⟩) 2 [eA,eB] ∧ 2 ≤ cw:=by
  obtain ⟨_,_,e_,h1_,h_⟩:=Kd.R_reads hr
  injection e_ with e1 _ e3
  rw [e1,e3]
  exact ⟨h_,h1_⟩
 have w_0:=am Cw.1
 have Lw:=am Cw.2
 clear Cw hr
 refine hK.out _ _ trivial (fun hHeld => ?_)
 clear hK K
 refine norm_ (a':=?_) ?_ ?_
 rotate_left
 ·show Act.put _ (some 237) _ = _
  simp only [Act.put,List.setIfInBounds_toArray,List.set_cons_zero,List.set_cons_succ,i64_w,i32_w]
  rfl
 refine pure_ (i:=8) (N:=(some 229)) (v:=?_) (a':=?_) #[true,true,true,true,true,true,true,true,true,false,false,false,false] rfl rfl (any_of HT_.out kr) (fun _ _ _ h => h) (Or.inl ⟨by rfl,?_⟩) ?_ ?_
 rotate_left
 ·intro w'
  go_simp
  with_reducible rfl
 rotate_left
 ·exact vs
 refine pure_ (i:=9) (N:=(some 238)) (v:=?_) (a':=?_) #[true,true,true,true,true,true,true,true,true,true,false,false,false] rfl rfl (any_of HT_.out kr) (fun _ _ _ h => h) (Or.inl ⟨by rfl,?_⟩) ?_ ?_
 rotate_left
 ·intro w'
  go_simp
  with_reducible rfl
 rotate_left
 ·exact vs
 refine pure_ (i:=10) (N:=(some 239)) (v:=?_) (a':=?_) #[true,true,true,true,true,true,true,true,true,true,true,false,false] rfl rfl (any_of HT_.out kr) (fun _ _ _ h => h) (Or.inl ⟨by rfl,?_⟩) ?_ ?_
 rotate_left
 ·intro w'
  go_simp
  with_reducible rfl
 rotate_left
 ·exact vs
 refine pure_ (i:=11) (N:=(some 33)) (v:=?_) (a':=?_) #[true,true,true,true,true,true,true,true,true,true,true,true,false] rfl rfl (any_of HT_.out kr) (fun _ _ _ h => h) (Or.inl ⟨by rfl,?_⟩) ?_ ?_
 rotate_left
 ·intro w'
  go_simp
  with_reducible rfl
 rotate_left
 ·exact vs
 refine pure_ (i:=12) (N:=(some 34)) (v:=?_) (a':=?_) #[true,true,true,true,true,true,true,true,true,true,true,true,true] rfl rfl (any_of HT_.out kr) (fun _ _ _ h => h) (Or.inl ⟨by rfl,?_⟩) ?_ ?_
 rotate_left
 ·intro w'
  go_simp
  with_reducible rfl
 rotate_left
 ·exact vs
 refine done_ (done_of HT_.out kr) ?_
 obtain ⟨ad0,A9,c9,e0,hy0,hy1,hle,hC9⟩:=at_T34 j_27.out (0 : Int) (by decide) (by decide)
 injection e0 with e0
 subst e0
 have hz0 : u26.cell? ⟨gj,0,none⟩ = some (.int .i64 0):=hy0
 have hz1 : u26.cell? ⟨gj,1,none⟩ = some (.slice A9 3 c9):=hy1
 have h9:=am (show Kd.C k29 u26 A9 3 l3 from hC9)
 have hle9:=am (show l3.length ≤ c9 from hle)
 have zz : (0 : Int) < 1:=by decide
 clear hy0 hy1 hle hC9
 go_wp2_with fail
 refine (calxref08_SameBook.calls 10 A9 c9 l3 _ 3 l3 _ _ h9.out hle9.out (by repeat (first|exact k_27.out|apply Kd.C_alloc|apply Kd.C_drewN|apply Kd.C_drew)) (by decide) sanB1).mono ?_
 rintro e u ⟨rfl,m1,rfl⟩
 go_wp2_with fail
 refine (calxref08_SameSpans.calls 10 _ _ [⟨0,0⟩,⟨2,2⟩] _ 2 [⟨0,0⟩,⟨2,2⟩] _ _ (by repeat (first|exact z_27.out|apply Kd.C_alloc|apply Kd.C_drewN|apply Kd.C_drew)) Lz.out (C_block (inner:=[.int .i64 0,.int .i64 0,.int .i64 2,.int .i64 2]) (ps:=[(⟨0,0⟩ : S39),⟨2,2⟩]) (Reps.front (k39_mk _ (⟨0,0⟩ : S39)) rfl (Reps.front (k39_mk _ (⟨2,2⟩ : S39)) rfl (Reps.none _ _) rfl) rfl) (blk_new' _ _ _ (by simp)) (by decide)) (by decide) sanSp).mono ?_
 rintro e u ⟨rfl,m2,rfl⟩
 go_wp2_with fail
 refine (calxref08_SameBook.calls 10 _ _ [eA,eB] _ 3 [eA,eB] _ _ (by repeat (first|exact w_0.out|apply Kd.C_alloc|apply Kd.C_drewN|apply Kd.C_drew)) Lw.out (by repeat (first|exact a_27.out|apply Kd.C_alloc|apply Kd.C_drewN|apply Kd.C_drew)) (by decide) sanB2).mono ?_
 rintro e u ⟨rfl,m3,rfl⟩
 go_wp2
 go_ret
 exact ⟨rfl,(by repeat (first|exact B27.out|apply below_alloc|apply pw_below_drewN|apply below_drew1))⟩
def calxlaw08_few.f (l0 : List (S29)) : Option (Bool):=if (l0.length : Int) ≤ 30 then (some true) else (if (l0.length : Int) > 64 then (some (decide ((l0.length : Int) ≤ 80))) else (some false))
set_option maxHeartbeats 8000000 in
set_option maxRecDepth 100000 in
theorem calxlaw08_few.calls (A0 : Option Addr) (c0 : Nat) (l0 : List (S29)) (r : Bool) (w : World) (hr0 : Kd.C k29 w A0 l0.length l0) (hc0 : l0.length ≤ c0) (h : calxlaw08_few.f l0 = some r) :
  Calls Try.prog 27 #[.slice A0 l0.length c0] w fun e w' => e = .returned (.bool r) ∧ Drawn0 w w':=by
 have HR0:=am hr0
 have HC0:=am hc0
 clear hr0 hc0
 have H : (if (l0.length : Int) ≤ 30 then (some true) else (if (l0.length : Int) > 64 then (some (decide ((l0.length : Int) ≤ 80))) else (some false))) = some r:=h
 clear h
 by_cases c2 : (l0.length : Int) ≤ 30
 ·rw [if_pos c2] at H
  have c2b0 : decide ((l0.length : Int) ≤ 30) = true:=decide_eq_true c2
  have c2b1 : decide (l0.length ≤ 30) = true:=decide_eq_true (by omega)
  clear c2
  obtain rfl:=Option.some.inj H
  go_enter Try.func27,Try.ntmps27
  go_wp2
  go_ret
  exact ⟨ve,by repeat (first|exact Drawn0.refl _|apply Drawn0.step)⟩
 ·rw [if_neg c2] at H
  have c2b0 : decide ((l0.length : Int) ≤ 30) = false:=decide_eq_false c2
  have c2b1 : decide (l0.length ≤ 30) = false:=decide_eq_false (by omega)
  clear c2
  by_cases c3 : (l0.length : Int) > 64
  ·rw [if_pos c3] at H
   have c3b0 : decide (64 < (l0.length : Int)) = true:=decide_eq_true c3
   have c3b1 : decide (64 < l0.length) = true:=decide_eq_true (by omega)
   clear c3
   obtain rfl:=Option.some.inj H
   go_enter Try.func27,Try.ntmps27
   go_wp2
   go_ret
   exact ⟨ve,by repeat (first|exact Drawn0.refl _|apply Drawn0.step)⟩
  ·rw [if_neg c3] at H
   have c3b0 : decide (64 < (l0.length : Int)) = false:=decide_eq_false c3
   have c3b1 : decide (64 < l0.length) = false:=decide_eq_false (by omega)
   clear c3
   obtain rfl:=Option.some.inj H
   go_enter Try.func27,Try.ntmps27
   go_wp2
   go_ret
   exact ⟨ve,by repeat (first|exact Drawn0.refl _|apply Drawn0.step)⟩
end Go.Proofs.Ytmfphlfakmnbmaa.B
end
