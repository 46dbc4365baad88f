import Derived.WalkKit
import Derived.Below
import Derived.ProofKit
import Derived.OpenShut
import Derived.ChangeOld
import Derived.Deep.Slices
import Derived.Carry
import Derived.IntWalk
import Derived.Outline
import Derived.WalkSpells
import Derived.Test.YtjjfpmapjjemcaaGreatQ14
import Derived.Test.YtjjfpmapjjemcaaGreatQ15
import Derived.Test.YtjjfpmapjjemcaaGreatQ17
import Derived.Test.YtjjfpmapjjemcaaGreatQ18
import Derived.Test.YtjjfpmapjjemcaaGreatQ19
import Derived.Test.YtjjfpmapjjemcaaGreatQ21
import Derived.Test.YtjjfpmapjjemcaaGreatQ7
import Derived.Test.YtjjfpmapjjemcaaGreatQ8
import Derived.Test.YtjjfpmapjjemcaaGreatQ9
set_option linter.unusedVariables false
set_option linter.unusedSimpArgs false
section
namespace Go.Proofs.YtjjfpmapjjemcaaGreat.B
open Go.RowKit Go.Proofs.YtjjfpmapjjemcaaGreatW.PrintWords Go.Proofs.YtjjfpmapjjemcaaGreatW.PrintLast Go.Proofs.YtjjfpmapjjemcaaGreatW.PrintMore
attribute [local go_sem] max2_int min2_int max_two min_two max_three min_three max_four min_four
theorem Wf.pitOk {n : Nat} {Y : Yd} (h : Wf n Y) {i : Int} (h0 : 0 ≤ i) (h1 : i < Y.rooms.length) : (∀ p ∈ pitP Y i,ParcelOk Y.pours p) ∧ heldP (pitP Y i) ≤ roomP Y i ∧ roomP Y i ≤ 4096 ∧ pitP Y i ∈ Y.pits:=by
 have hi : i.toNat < Y.pits.length:=by rw [h.plen];omega
 have hm : pitP Y i ∈ Y.pits:=getD_mem_ hi
 exact ⟨h.parcels _ hm,h.held _ (by omega),(h.rooms _ (getD_mem_ (show i.toNat < Y.rooms.length by omega))).2,hm⟩
theorem held_ge {l : List S212} {pours : List Int} (h : ∀ p ∈ l,ParcelOk pours p) : (l.length : Int) ≤ heldP l:=heldP_nonneg fun p hp => (h p hp).lo
theorem mem_set_ {α : Type} {l : List α} {i : Nat} {x y : α} (h : y ∈ l.set i x) : y = x ∨ y ∈ l:=(List.mem_or_eq_of_mem_set h).symm
theorem isNew_of {Y : Yd} {id : Int} (h : isNew Y id = true) : id ∉ Y.pours ∧ ∀ b ∈ Y.barrows,b.f0 ≠ id:=by
 unfold isNew at h
 simp only [Bool.and_eq_true,Bool.not_eq_true',decide_eq_false_iff_not,List.any_eq_false,decide_eq_true_eq] at h
 exact h
theorem setPit_held {n : Nat} {Y : Yd} (h : Wf n Y) {k : Nat} (hk : k < Y.rooms.length) {l : List S212} (hl : heldP l ≤ Y.rooms.getD k 0) : ∀ i,i < Y.rooms.length → heldP ((Y.pits.set k l).getD i []) ≤ Y.rooms.getD i 0:=by
 intro i hi
 rw [getD_set_ _ _ _ _ _ (by rw [h.plen];exact hk)]
 split
 ·rename_i e;subst e;exact hl
 ·exact h.held i hi
theorem Wf.more {n : Nat} {Y : Yd} (h : Wf n Y) : Wf (n + 1) Y :=
 { h with npours:=Nat.le_succ_of_le h.npours,nbarrows:=Nat.le_succ_of_le h.nbarrows,nlost:=by have:=h.nlost;omega,barrows:=fun b hb => { h.barrows b hb with step1:=by have:=(h.barrows b hb).step1;omega } }
theorem Wf.setPit {n : Nat} {Y : Yd} (h : Wf n Y) {i : Int} (h0 : 0 ≤ i) (h1 : i < Y.rooms.length) {l : List S212} (hl : ∀ p ∈ l,ParcelOk Y.pours p) (hh : heldP l ≤ roomP Y i) : Wf n { Y with pits:=Y.pits.set i.toNat l } :=
 { h with
  plen:=by show (Y.pits.set i.toNat l).length = _;rw [List.length_set];exact h.plen
  parcels:=fun l' hl' p hp => by
   rcases mem_set_ hl' with rfl|hl'
   ·exact hl p hp
   ·exact h.parcels l' hl' p hp
  held:=setPit_held h (by omega) hh }
theorem sumV_one (x : S89) : sumV [x] = val x.f1:=by simp only [sumV];grind
theorem poured_ok {pours : List Int} {id a : Int} (h1 : 1 ≤ a) (h2 : a ≤ 1000) (hid : id ∈ pours) : ParcelOk pours ⟨a,[⟨id,wholeP a⟩]⟩:=by
 have hok:=wholeP_ok (n:=a) (by omega)
 refine ⟨h1,by show a ≤ 4096;omega,by simp,fun x hx => ?_,?_⟩
 ·rw [List.mem_singleton.1 hx]
  refine ⟨?_,h1,hid⟩
  unfold fineP
  rw [validP_of hok (by show a ≤ _;omega) (by show (1 : Int) ≤ _;omega)]
  exact decide_eq_true (show (1 : Int) ≤ 16384 by omega)
 ·rw [sumV_one];exact val_wholeP a
theorem step_ok {n : Nat} {Y Y' : Yd} (h : Wf n Y) (hn : n < 60) {s : S84} (hf : Formed Y.rooms.length s) (hs : stepP Y s n = .ok Y') : Wf (n + 1) Y' ∧ Y'.rooms = Y.rooms:=by
 obtain ⟨p1,p2,p3,p4⟩:=h.pitOk hf.pit.1 hf.pit.2
 have q1:=held_ge p1
 have hk:=hf.kind
 unfold stepP at hs
 by_cases k1 : s.f1 = 1
 ·rw [if_pos k1] at hs
  have ha:=hf.amount (by omega)
  unfold pourP at hs
  by_cases c1 : isNew Y s.f0 = true
  ·rw [if_pos c1] at hs
   by_cases c2 : heldP (pitP Y s.f3) + s.f5 ≤ roomP Y s.f3
   ·rw [if_pos c2] at hs
    injection hs with hs
    subst hs
    obtain ⟨u1,u2⟩:=isNew_of c1
    have hsub : ∀ x ∈ Y.pours,x ∈ Y.pours ++ [s.f0]:=fun x hx => List.mem_append_left _ hx
    have hn' : (Y.pours ++ [s.f0]).Nodup:=by
     rw [List.nodup_append]
     refine ⟨h.pours,by simp,fun a ha b hb e => ?_⟩
     rw [List.mem_singleton.1 hb] at e
     subst e;exact u1 ha
    refine ⟨?_,rfl⟩
    refine { r1:=h.r1,r6:=h.r6,rooms:=h.rooms,plen:=by show (Y.pits.set _ _).length = _;rw [List.length_set];exact h.plen,parcels:=fun l hl p hp => ?_,held:=setPit_held h (by have:=hf.pit;omega) ?_,pours:=hn',pid:=fun i hi => ?_,npours:=by have:=h.npours;simp only [List.length_append,List.length_singleton];omega,days:=by have:=h.days;simp [this],dayok:=fun d hd => ?_,nbarrows:=Nat.le_succ_of_le h.nbarrows,barrows:=fun b hb => ?_,bnodup:=h.bnodup,apart:=fun b hb => ?_,nlost:=by have:=h.nlost;show Y.lost.length ≤ _;omega,lost:=fun p hp => (h.lost p hp).mono hsub }
    ·rcases mem_set_ hl with rfl|hl
     ·rcases List.mem_append.1 hp with hp|hp
      ·exact (p1 p hp).mono hsub
      ·rw [List.mem_singleton.1 hp];exact poured_ok ha.1 ha.2 (by simp)
     ·exact (h.parcels l hl p hp).mono hsub
    ·rw [heldP_append];show heldP (pitP Y s.f3) + (s.f5 + 0) ≤ _;have : roomP Y s.f3 = Y.rooms.getD s.f3.toNat 0:=rfl;omega
    ·rcases List.mem_append.1 hi with hi|hi
     ·exact h.pid i hi
     ·rw [List.mem_singleton.1 hi];exact hf.id (.inl k1)
    ·rcases List.mem_append.1 hd with hd|hd
     ·exact h.dayok d hd
     ·rw [List.mem_singleton.1 hd];exact hf.day
    ·have hb':=h.barrows b hb
     exact { hb' with step1:=by have:=hb'.step1;omega,ids:=hb'.ids.trans (List.sublist_append_left _ _),par:=hb'.par.mono hsub }
    ·intro hx
     rcases List.mem_append.1 hx with hx|hx
     ·exact h.apart b hb hx
     ·exact u2 b hb (List.mem_singleton.1 hx)
   ·rw [if_neg c2] at hs;cases hs
  ·rw [if_neg c1] at hs;cases hs
 rw [if_neg k1] at hs
 by_cases k2 : s.f1 = 2
 ·rw [if_pos k2] at hs
  have ha:=hf.amount (by omega)
  unfold takeP at hs
  by_cases c1 : isNew Y s.f0 = true
  ·rw [if_pos c1] at hs
   by_cases c2 : s.f5 ≤ heldP (pitP Y s.f3)
   ·rw [if_pos c2] at hs
    cases hA : aheadP (pitP Y s.f3) s.f5 with
   |none => rw [hA] at hs;cases hs
   |some ab =>
     obtain ⟨a,b⟩:=ab
     rw [hA] at hs
     simp only at hs
     obtain ⟨a1,a2,a3,a4,a5⟩:=aheadP_spec Y.pours _ _ p1 (by omega) c2 a b hA
     cases hS : summedP Y.pours a with
    |none => rw [hS] at hs;cases hs
    |some ps =>
      rw [hS] at hs
      simp only at hs
      injection hs with hs
      subst hs
      obtain ⟨s1,s2,s3,s4,s5⟩:=summedP_ok h.pours a1 hS
      obtain ⟨u1,u2⟩:=isNew_of c1
      refine ⟨?_,rfl⟩
      have w1:=(h.setPit hf.pit.1 hf.pit.2 a2 (by omega)).more
      refine { w1 with nbarrows:=by have:=h.nbarrows;simp only [List.length_append,List.length_singleton];omega,barrows:=fun x hx => ?_,bnodup:=?_,apart:=fun x hx => ?_ }
      ·rcases List.mem_append.1 hx with hx|hx
       ·exact w1.barrows x hx
       ·rw [List.mem_singleton.1 hx]
        have hid:=hf.id (.inr k2)
        exact { lo:=ha.1,hi:=ha.2,step0:=by show (0 : Int) ≤ n;omega,step1:=by show (n : Int) < ((n + 1 : Nat) : Int);omega,id0:=hid.1,id1:=hid.2,ids:=s4,par:=⟨ha.1,by show s.f5 ≤ 4096;omega,by show ps.length ≤ 60;have:=h.npours;omega,s1,by show sumV ps = (s.f5 : Rat);rw [s3,a3]⟩ }
      ·simp only [List.map_append,List.map_cons,List.map_nil]
       rw [List.nodup_append]
       refine ⟨h.bnodup,by simp,fun x hx y hy e => ?_⟩
       rw [List.mem_singleton.1 hy] at e
       obtain ⟨b',hb',rfl⟩:=List.mem_map.1 hx
       exact u2 b' hb' e
      ·rcases List.mem_append.1 hx with hx|hx
       ·exact h.apart x hx
       ·rw [List.mem_singleton.1 hx];exact u1
   ·rw [if_neg c2] at hs;cases hs
  ·rw [if_neg c1] at hs;cases hs
 rw [if_neg k2] at hs
 by_cases k3 : s.f1 = 3
 ·rw [if_pos k3] at hs
  unfold turnP at hs
  by_cases c1 : 0 < heldP (pitP Y s.f3)
  ·rw [if_pos c1] at hs
   cases hS : summedP Y.pours (pitP Y s.f3) with
  |none => rw [hS] at hs;cases hs
  |some ps =>
    rw [hS] at hs
    simp only at hs
    injection hs with hs
    subst hs
    obtain ⟨s1,s2,s3,s4,s5⟩:=summedP_ok h.pours p1 hS
    refine ⟨(h.setPit hf.pit.1 hf.pit.2 (l:=[⟨heldP (pitP Y s.f3),ps⟩]) (fun p hp => ?_) ?_).more,rfl⟩
    ·rw [List.mem_singleton.1 hp]
     exact ⟨by show 1 ≤ heldP _;omega,by show heldP _ ≤ 4096;omega,by show ps.length ≤ 60;have:=h.npours;omega,s1,s3⟩
    ·show heldP (pitP Y s.f3) + 0 ≤ _;omega
  ·rw [if_neg c1] at hs
   injection hs with hs
   subst hs
   exact ⟨h.more,rfl⟩
 rw [if_neg k3] at hs
 have ha:=hf.amount (by omega)
 by_cases k4 : s.f1 = 4
 ·rw [if_pos k4] at hs
  have ht:=hf.dest k4
  have hp_:=hf.pit
  unfold moveP at hs
  by_cases c1 : s.f5 ≤ heldP (pitP Y s.f3)
  ·rw [if_pos c1] at hs
   by_cases c2 : heldP (pitP Y s.f4) + s.f5 ≤ roomP Y s.f4
   ·rw [if_pos c2] at hs
    cases hA : aheadP (pitP Y s.f3) s.f5 with
   |none => rw [hA] at hs;cases hs
   |some ab =>
     obtain ⟨a,b⟩:=ab
     rw [hA] at hs
     simp only at hs
     injection hs with hs
     subst hs
     obtain ⟨a1,a2,a3,a4,a5⟩:=aheadP_spec Y.pours _ _ p1 (by omega) c1 a b hA
     have w1:=h.setPit hf.pit.1 hf.pit.2 a2 (by omega)
     have e1 : (Y.pits.set s.f3.toNat b).getD s.f4.toNat [] = pitP Y s.f4:=by
      rw [getD_set_ _ _ _ _ _ (by rw [h.plen];omega),if_neg (by omega)];rfl
     obtain ⟨t1,t2,t3,t4⟩:=h.pitOk ht.1 ht.2.1
     rw [e1]
     refine ⟨(w1.setPit (i:=s.f4) (l:=pitP Y s.f4 ++ a) ht.1 ht.2.1 (fun p hp => ?_) ?_).more,rfl⟩
     ·rcases List.mem_append.1 hp with hp|hp
      ·exact t1 p hp
      ·exact a1 p hp
     ·rw [heldP_append,a3];exact c2
   ·rw [if_neg c2] at hs;cases hs
  ·rw [if_neg c1] at hs;cases hs
 rw [if_neg k4] at hs
 unfold spillP at hs
 by_cases c1 : s.f5 ≤ heldP (pitP Y s.f3)
 ·rw [if_pos c1] at hs
  cases hA : aheadP (pitP Y s.f3) s.f5 with
 |none => rw [hA] at hs;cases hs
 |some ab =>
   obtain ⟨a,b⟩:=ab
   rw [hA] at hs
   simp only at hs
   injection hs with hs
   subst hs
   obtain ⟨a1,a2,a3,a4,a5⟩:=aheadP_spec Y.pours _ _ p1 (by omega) c1 a b hA
   have w1:=(h.setPit hf.pit.1 hf.pit.2 a2 (by omega)).more
   have q2:=held_ge a1
   refine ⟨{ w1 with nlost:=by have:=h.nlost;simp only [List.length_append];omega,lost:=fun p hp => ?_ },rfl⟩
   rcases List.mem_append.1 hp with hp|hp
   ·exact h.lost p hp
   ·exact a1 p hp
 ·rw [if_neg c1] at hs;cases hs
theorem empty_ok {rooms : List Int} (h : roomsOk rooms = true) : Wf 0 (emptyP rooms):=by
 unfold roomsOk inP at h
 simp only [Bool.and_eq_true,decide_eq_true_eq,List.all_eq_true] at h
 have hg : ∀ i,i < rooms.length → (List.replicate rooms.length ([] : List S212)).getD i [] = []:=fun i hi => by simp [List.getD_eq_getElem?_getD,hi]
 refine { r1:=by show 1 ≤ rooms.length;omega,r6:=by show rooms.length ≤ 6;omega,rooms:=h.2,plen:=List.length_replicate,parcels:=fun l hl p hp => ?_,held:=fun i hi => ?_,pours:=List.nodup_nil,pid:=fun i hi => by simp [emptyP] at hi,npours:=Nat.le_refl _,days:=rfl,dayok:=fun d hd => by simp [emptyP] at hd,nbarrows:=Nat.le_refl _,barrows:=fun b hb => by simp [emptyP] at hb,bnodup:=List.nodup_nil,apart:=fun b hb => by simp [emptyP] at hb,nlost:=Nat.le_refl _,lost:=fun p hp => by simp [emptyP] at hp }
 ·rw [List.eq_of_mem_replicate hl] at hp;simp at hp
 ·show heldP ((List.replicate rooms.length []).getD i []) ≤ rooms.getD i 0
  rw [hg i hi]
  have:=(h.2 _ (getD_mem_ (d:=0) hi)).1
  simp only [heldP];omega
theorem go_ok : ∀ (l : List S84) (n : Nat) (Y Y' : Yd) (day : Int),Wf n Y → 0 ≤ day → n + l.length ≤ 60 → goP Y day n l = .ok Y' → Wf (n + l.length) Y' ∧ Y'.rooms = Y.rooms
|[],n,Y,Y',day,h,_,_,hg => by
  simp only [goP] at hg
  injection hg with hg
  subst hg
  exact ⟨h,rfl⟩
|s :: r,n,Y,Y',day,h,hd,hl,hg => by
  simp only [goP] at hg
  simp only [List.length_cons] at hl
  by_cases c : formedP Y.rooms.length s day = true
  ·rw [if_pos c] at hg
   obtain ⟨hf,_⟩:=formed_of hd c
   cases hs : stepP Y s n with
  |error e => rw [hs] at hg;cases hg
  |ok Y1 =>
    rw [hs] at hg
    simp only at hg
    obtain ⟨w1,e1⟩:=step_ok h (by omega) hf hs
    have hg' : goP Y1 s.f2 ((n + 1 : Nat) : Int) r = .ok Y':=hg
    obtain ⟨w2,e2⟩:=go_ok r (n + 1) Y1 Y' s.f2 w1 hf.day.1 (by omega) hg'
    refine ⟨?_,e2.trans e1⟩
    rw [show n + (s :: r).length = n + 1 + r.length by simp only [List.length_cons];omega]
    exact w2
  ·rw [if_neg c] at hg;cases hg
theorem played_ok {rooms : List Int} {stirs : List S84} {steps : Nat} {Y : Yd} (h : playedP rooms stirs steps = .ok Y) : roomsOk rooms = true ∧ stirs.length ≤ 60 ∧ Wf 60 Y ∧ Y.rooms = rooms:=by
 unfold playedP at h
 by_cases c1 : roomsOk rooms = true
 ·rw [if_pos c1] at h
  by_cases c2 : stirs.length ≤ 60
  ·rw [if_pos c2] at h
   have hl : (stirs.take steps).length ≤ 60:=by rw [List.length_take];omega
   obtain ⟨w,e⟩:=go_ok (stirs.take steps) 0 _ Y 0 (empty_ok c1) (Int.le_refl _) (by omega) h
   have hm : ∀ k m,Wf k Y → Wf (k + m) Y:=fun k m hk => by
    induction m with
   |zero => exact hk
   |succ m ih => exact ih.more
   have:=hm _ (60 - (0 + (stirs.take steps).length)) w
   rw [show 0 + (stirs.take steps).length + (60 - (0 + (stirs.take steps).length)) = 60 by omega] at this
   exact ⟨c1,c2,this,e⟩
  ·rw [if_neg c2] at h;cases h
 ·rw [if_neg c1] at h;cases h
@[irreducible] def FU : Nat:=9223372036854775808
theorem FU_lt {n : Nat} (h : n < 9223372036854775808) : n < FU:=by unfold FU;exact h
theorem wrap_in {n : Int} (h0 : -9223372036854775808 ≤ n) (h1 : n < 9223372036854775808) : wrap64 n = n:=by unfold wrap64;omega
theorem tdiv_nn {a b : Int} (ha : 0 ≤ a) (hb : 0 ≤ b) : Int.tdiv a b = a / b:=Int.tdiv_eq_ediv_of_nonneg ha
theorem divisor_l0 : ∀ (k : Nat) (a b : Int),0 ≤ a → 0 ≤ b → b.toNat < k → pit_divisor.l0 k a b = some (Int.gcd a b : Int)
|0,a,b,_,_,h => by omega
|k + 1,a,b,ha,hb,h => by
  simp only [pit_divisor.l0]
  by_cases c : b > 0
  ·rw [if_pos c,if_neg (by omega),Int.tmod_eq_emod_of_nonneg ha]
   have h1:=Int.emod_nonneg a (show b ≠ 0 by omega)
   have h2:=Int.emod_lt_of_pos a c
   rw [divisor_l0 k b (a % b) hb h1 (by omega)]
   congr 2
   obtain ⟨a,rfl⟩:=Int.eq_ofNat_of_zero_le ha
   obtain ⟨b,rfl⟩:=Int.eq_ofNat_of_zero_le hb
   rw [← Int.natCast_emod,Int.gcd_natCast_natCast,Int.gcd_natCast_natCast,Nat.gcd_comm a b,Nat.gcd_rec b a,Nat.gcd_comm]
  ·obtain rfl : b = 0:=by omega
   rw [if_neg c]
   congr 1
   simp only [Int.gcd_zero]
   omega
theorem divisor_some {a b : Int} (ha : 0 ≤ a) (hb : 0 ≤ b) (h : b < 9223372036854775808) : pit_divisor.f FU a b = some (Int.gcd a b : Int):=by
 unfold pit_divisor.f
 exact divisor_l0 _ a b ha hb (FU_lt (by omega))
theorem div_range {a b : Int} (ha : 0 ≤ a) (hb : 0 ≤ b) (h : a < 9223372036854775808) : wrap64 (Int.tdiv a b) = a / b:=by
 rw [tdiv_nn ha hb]
 have h1:=Int.ediv_nonneg ha hb
 have h2:=Int.ediv_le_self b ha
 exact wrap_in (by omega) (by omega)
theorem gcd_ne {a b : Int} (hb : 1 ≤ b) : (Int.gcd a b : Int) ≠ 0:=by
 intro e
 have : Int.gcd a b = 0:=by omega
 have:=(Int.gcd_eq_zero_iff.1 this).2
 omega
theorem ratio_some {n d : Int} (hn : 0 ≤ n) (hn2 : n < 9223372036854775808) (hd : 1 ≤ d) (hd2 : d < 9223372036854775808) : pit_ratio.f FU n d = some ((ratioP n d).f0,(ratioP n d).f1):=by
 unfold pit_ratio.f
 rw [divisor_some hn (by omega) hd2]
 simp only [Option.bind_some]
 rw [if_neg (gcd_ne hd),div_range hn (by omega) hn2,div_range (by omega) (by omega) hd2]
 rfl
theorem mul_bound {a b x y : Int} (ha : 0 ≤ a) (hb : 0 ≤ b) (hx : a ≤ x) (hy : b ≤ y) : 0 ≤ a * b ∧ a * b ≤ x * y:=⟨Int.mul_nonneg ha hb,Int.mul_le_mul hx hy hb (by omega)⟩
theorem times_some {a : S43} {n m : Int} (ha : Rok a) (h0 : a.f0 ≤ 68719476736) (h1 : a.f1 ≤ 16777216) (hn : 0 ≤ n) (hn2 : n ≤ 16384) (hm : 1 ≤ m) (hm2 : m ≤ 16384) :
  pit_times.f FU a.f0 a.f1 n m = some ((timesP a n m).f0,(timesP a n m).f1):=by
 have b1:=mul_bound ha.1 hn h0 hn2
 have b2:=mul_bound (show 0 ≤ a.f1 by have:=ha.2.1;omega) (show 0 ≤ m by omega) h1 hm2
 have b3:=mul_pos_ ha.2.1 hm
 unfold pit_times.f
 rw [wrap_in (n:=a.f0 * n) (by omega) (by omega),wrap_in (n:=a.f1 * m) (by omega) (by omega),ratio_some b1.1 (by omega) b3 (by omega)]
 rfl
theorem add_some {a b : S43} (ha : Rok a) (hb : Rok b) (h0 : a.f0 ≤ 68719476736) (h1 : a.f1 ≤ 16777216) (h2 : b.f0 ≤ 68719476736) (h3 : b.f1 ≤ 16777216) :
  pit_add.f FU a.f0 a.f1 b.f0 b.f1 = some ((addP a b).f0,(addP a b).f1):=by
 have ha1:=ha.2.1
 have hb1:=hb.2.1
 have ha0:=ha.1
 have hb0:=hb.1
 unfold pit_add.f
 rw [divisor_some (by omega) (by omega) (by omega)]
 simp only [Option.bind_some]
 have hg:=gcd_ne (a:=a.f1) hb1
 rw [if_neg hg,div_range (by omega) (by omega) (by omega),div_range (by omega) (by omega) (by omega)]
 rw [← add_impl ha hb]
 obtain ⟨g,hgg⟩ : ∃ g : Int,g = (Int.gcd a.f1 b.f1 : Int):=⟨_,rfl⟩
 have hg0 : 1 ≤ g:=by rw [hgg];omega
 have hd1 : g ∣ a.f1:=by rw [hgg];exact Int.gcd_dvd_left _ _
 rw [← hgg]
 have p1:=Int.ediv_nonneg (show 0 ≤ b.f1 by omega) (show 0 ≤ g by omega)
 have p2:=Int.ediv_le_self g (show 0 ≤ b.f1 by omega)
 have p3:=Int.ediv_nonneg (show 0 ≤ a.f1 by omega) (show 0 ≤ g by omega)
 have p4:=Int.ediv_le_self g (show 0 ≤ a.f1 by omega)
 have p5 : 1 ≤ a.f1 / g:=by
  obtain ⟨c,hc⟩:=hd1
  rw [hc,Int.mul_ediv_cancel_left _ (by omega)]
  rcases Int.lt_or_le 0 c with h|h
  ·omega
  ·have:=Int.mul_nonneg (show 0 ≤ g by omega) (show 0 ≤ -c by omega)
   rw [Int.mul_neg] at this
   omega
 have q1:=mul_bound ha0 p1 h0 (show b.f1 / g ≤ 16777216 by omega)
 have q2:=mul_bound hb0 p3 h2 (show a.f1 / g ≤ 16777216 by omega)
 have q3:=mul_bound p3 (show 0 ≤ b.f1 by omega) (show a.f1 / g ≤ 16777216 by omega) h3
 have q4:=mul_pos_ p5 hb1
 rw [wrap_in (n:=a.f0 * (b.f1 / g)) (by omega) (by omega),wrap_in (n:=b.f0 * (a.f1 / g)) (by omega) (by omega),wrap_in (n:=a.f0 * (b.f1 / g) + b.f0 * (a.f1 / g)) (by omega) (by omega),wrap_in (n:=a.f1 / g * b.f1) (by omega) (by omega)]
 rw [ratio_some (by omega) (by omega) q4 (by omega)]
 rfl
theorem within_some (a b c : Int) : pit_within.f a b c = some (decide (b ≤ a ∧ a ≤ c)):=by
 unfold pit_within.f
 by_cases h : b ≤ a <;> simp [h]
theorem valid_some (r : S43) : pit_valid.f FU r.f0 r.f1 = some (validP r):=by
 unfold pit_valid.f validP
 rw [within_some,within_some]
 simp only [Option.bind_some,decide_eq_true_eq]
 by_cases h1 : 0 ≤ r.f0 ∧ r.f0 ≤ 68719476736
 ·rw [if_pos h1]
  by_cases h2 : 1 ≤ r.f1 ∧ r.f1 ≤ 16777216
  ·rw [if_pos h2,divisor_some h1.1 (by omega) (by omega)]
   simp only [Option.bind_some]
   congr 1
   by_cases h3 : Int.gcd r.f0 r.f1 = 1
   ·simp [h1,h2,h3]
   ·simp only [h1,h2,h3,and_false,decide_false]
    have : (Int.gcd r.f0 r.f1 : Int) ≠ 1:=by omega
    simpa using this
  ·rw [if_neg h2]
   simp only [h2,false_and,and_false,decide_false]
 ·rw [if_neg h1]
  simp only [h1,false_and,decide_false]
theorem compare_some {a b : S43} (ha : Rok a) (hb : Rok b) (h0 : a.f0 * b.f1 < 9223372036854775808) (h1 : b.f0 * a.f1 < 9223372036854775808) : pit_compare.f a.f0 a.f1 b.f0 b.f1 = some (cmpP a b):=by
 have b1:=Int.mul_nonneg ha.1 (show 0 ≤ b.f1 by have:=hb.2.1;omega)
 have b2:=Int.mul_nonneg hb.1 (show 0 ≤ a.f1 by have:=ha.2.1;omega)
 unfold pit_compare.f
 rw [wrap_in (n:=a.f0 * b.f1) (by omega) h0,wrap_in (n:=b.f0 * a.f1) (by omega) h1]
 unfold cmpP cmp_Compare_int.f cmp_isNaN_int.f
 simp only [bne_self_eq_false,Option.bind_some,Bool.false_eq_true,if_false]
 split
 ·rfl
 ·split <;> rfl
section
theorem blk_new' (w : World) (o : Obj) (k : Nat) (h : k = w.heap.size) : (w.alloc o).heap[k]? = some o:=by subst h;exact blk_new w o
def ft {α : Type} (d : Kd α) (W : World) (ok : Nat → Prop) : Kd α where
 sz:=d.sz
 E:=[]
 K:=fun _ x cs => Kd.FK d W ok x cs
 M:=fun _ _ _ x cs => Kd.FK d W ok x cs
 K_len:=fun h => d.K_len (Foot.now h)
 K_one:=fun h => d.K_one (Foot.now h)
 K_below:=fun _ h => h
 K_of_M:=fun h => h
 M_mono:=fun _ h => h
 M_bound:=fun h => h
 M_move:=fun _ h => h
 M_lower:=fun _ h => h
structure Loc where
 g : Nat
 gp : Nat
 vr : Value
 vo : Value
 vd : Value
 vb : Value
 vl : Value
 bad : Nat → Prop
def Loc.Mine (L : Loc) (k : Nat) : Prop:=k = L.g ∨ k = L.gp ∨ L.vo.ownBlock = some k ∨ L.vd.ownBlock = some k ∨ L.vb.ownBlock = some k ∨ L.vl.ownBlock = some k ∨ L.bad k
def Loc.Not (L : Loc) (k : Nat) : Prop:=¬ L.Mine k
structure YardAt (W : World) (base : Nat) (L : Loc) (Y : Yd) : Prop where
 gbase : base ≤ L.g
 bad : ∀ k,L.bad k → k < base
 blk : W.heap[L.g]? = some (.cells #[L.vr,.slice (some ⟨L.gp,0,none⟩) Y.rooms.length Y.rooms.length,L.vo,L.vd,L.vb,L.vl] 165 (0,0))
 rooms : Kd.FK (Kd.slice 3 (Kd.int .i64)) W L.Not Y.rooms [L.vr]
 pits : (ft (Kd.slice 212 k212) W L.Not).R 131 W base (fun _ => True) (.slice (some ⟨L.gp,0,none⟩) Y.rooms.length Y.rooms.length) Y.pits
 pours : (Kd.int .i64).R 3 W base (fun _ => True) L.vo Y.pours
 days : (Kd.int .i64).R 3 W base (fun _ => True) L.vd Y.days
 apart : NeRow L.vo L.vd
 barrows : (ft k167 W L.Not).R 167 W base (fun _ => True) L.vb Y.barrows
 lost : (ft k212 W L.Not).R 212 W base (fun _ => True) L.vl Y.lost
structure Fr (W : World) (L : Loc) (W' : World) (L' : Loc) : Prop where
 size : W.heap.size ≤ W'.heap.size
 keep : ∀ k,k < W.heap.size → L.Not k → W'.heap[k]? = W.heap[k]? ∧ L'.Not k
 bad : L'.bad = L.bad
theorem Fr.refl (W : World) (L : Loc) : Fr W L W L:=⟨Nat.le_refl _,fun _ _ h => ⟨rfl,h⟩,rfl⟩
theorem Fr.trans {W W1 W2 : World} {L L1 L2 : Loc} (h : Fr W L W1 L1) (k : Fr W1 L1 W2 L2) : Fr W L W2 L2 :=
 ⟨Nat.le_trans h.size k.size,fun i hi hn => by
  obtain ⟨e1,n1⟩:=h.keep i hi hn
  obtain ⟨e2,n2⟩:=k.keep i (Nat.lt_of_lt_of_le hi h.size) n1
  exact ⟨e2.trans e1,n2⟩,k.bad.trans h.bad⟩
theorem Fr.of_below {W W1 : World} (L : Loc) (h : Below W.heap.size W W1) : Fr W L W1 L:=⟨h.size,fun i hi hn => ⟨h.block i hi,hn⟩,rfl⟩
theorem Foot_fr {P : World → Prop} {W W' : World} {L L' : Loc} (h : Foot P W L.Not) (hf : Fr W L W' L') : Foot P W' L'.Not:=fun W2 h2 => h W2 fun k hk hlt => by
 obtain ⟨e1,n1⟩:=hf.keep k hlt hk
 exact (h2 k n1 (Nat.lt_of_lt_of_le hlt hf.size)).trans e1
theorem ft_fr {α : Type} {d : Kd α} {W W' w : World} {L L' : Loc} {e base : Nat} {ok : Nat → Prop} {v : Value} {xs : List α} (h : (ft d W L.Not).R e w base ok v xs) (hf : Fr W L W' L') : (ft d W' L'.Not).R e w base ok v xs :=
 ⟨h.1,h.2.imp_ (fun _ _ (hp : Kd.FK d W L.Not _ _) => (Foot_fr hp hf : Kd.FK d W' L'.Not _ _))⟩
theorem R_own_move {α : Type} {d : Kd α} {w w1 : World} {e base : Nat} {ok : Nat → Prop} {v : Value} {xs : List α} (hE : d.E = []) (h : d.R e w base ok v xs) (hm : ∀ k,v.ownBlock = some k → w1.heap[k]? = w.heap[k]?) : d.R e w1 base ok v xs :=
 Kd.R_mono (Kd.R_step (Kd.R_tight hE h) (fun k hk _ => hm k hk.symm)) (fun k hk => h.1 k hk.symm)
theorem R_off {α β : Type} {d : Kd α} {d' : Kd β} {w : World} {e e' base base' : Nat} {ok ok' : Nat → Prop} {v v' : Value} {xs : List α} {ys : List β} (h : d.R e w base ok v xs) (h' : d'.R e' w base' ok' v' ys) (hne : e ≠ e') : ∀ k,v.ownBlock = some k → v'.ownBlock ≠ some k:=fun k hk hk' => by
 obtain ⟨c1,h1⟩:=Kd.R_typed h k hk
 obtain ⟨c2,h2⟩:=Kd.R_typed h' k hk'
 rw [h1] at h2
 injection h2 with h2
 injection h2 with _ h2
 exact hne h2
theorem R_offg {α : Type} {d : Kd α} {w : World} {e base g : Nat} {ok : Nat → Prop} {v : Value} {xs : List α} {cs : Array Value} {t : Nat} (h : d.R e w base ok v xs) (hb : w.heap[g]? = some (.cells cs t (0,0))) (hne : e ≠ t) : v.ownBlock ≠ some g:=fun hk => by
 obtain ⟨c1,h1⟩:=Kd.R_typed h g hk
 rw [hb] at h1
 injection h1 with h1
 injection h1 with _ h1
 exact hne h1.symm
section
variable {W W' w1 : World} {base : Nat} {L L' : Loc} {Y : Yd}
theorem YardAt.move (h : YardAt W base L Y) (hb : Below W.heap.size W W') : YardAt W' base L Y :=
 have f:=Fr.of_below L hb
 { gbase:=h.gbase,bad:=h.bad,blk:=blk_below h.blk hb,rooms:=Foot_fr h.rooms f,pits:=ft_fr (Kd.R_below h.pits hb) f,pours:=Kd.R_below h.pours hb,days:=Kd.R_below h.days hb,apart:=h.apart,barrows:=ft_fr (Kd.R_below h.barrows hb) f,lost:=ft_fr (Kd.R_below h.lost hb) f }
theorem YardAt.gLt (h : YardAt W base L Y) : base ≤ L.g ∧ L.g < W.heap.size:=⟨h.gbase,blk_lt h.blk⟩
theorem YardAt.lt (h : YardAt W base L Y) {k : Nat} (hk : L.Mine k) : k < W.heap.size:=by
 rcases hk with rfl|rfl|hk|hk|hk|hk|hk
 ·exact blk_lt h.blk
 ·exact Kd.R_lt h.pits _ rfl
 ·exact Kd.R_lt h.pours _ hk
 ·exact Kd.R_lt h.days _ hk
 ·exact Kd.R_lt h.barrows _ hk
 ·exact Kd.R_lt h.lost _ hk
 ·have:=h.bad k hk
  have:=h.gLt
  omega
theorem YardAt.not_new (h : YardAt W base L Y) {k : Nat} (hk : W.heap.size ≤ k) : L.Not k:=fun hm => by have:=h.lt hm;omega
theorem YardAt.plen (h : YardAt W base L Y) : Y.pits.length = Y.rooms.length:=(Kd.R_reads' h.pits).1.symm
theorem YardAt.rooms_C (h : YardAt W base L Y) : ∃ A c,L.vr = .slice A Y.rooms.length c ∧ Y.rooms.length ≤ c ∧ Kd.C (Kd.int .i64) W A Y.rooms.length Y.rooms:=by
 obtain ⟨A,c,e,h1,h2⟩:=Foot.now h.rooms
 injection e with e _
 exact ⟨A,c,e,h1,h2⟩
theorem YardAt.pit_at (h : YardAt W base L Y) {i : Int} (h0 : 0 ≤ i) (h1 : i < Y.rooms.length) : ∃ A c,W.cell? ⟨L.gp,i.toNat,none⟩ = some (.slice A (pitP Y i).length c) ∧ (pitP Y i).length ≤ c ∧ Kd.F k212 W L.Not A (pitP Y i).length (pitP Y i) ∧ W.frozen? ⟨L.gp,i.toNat,none⟩ = false:=by
 obtain ⟨c,hcl,hM,hcc,hfr⟩:=Kd.R_elem h.pits ([] : List S212) i h0 h1
 have hM' : Kd.FK (Kd.slice 212 k212) W L.Not (pitP Y i) c:=hM
 obtain ⟨A,cp,e,hl,_⟩:=Foot.now hM'
 subst e
 have h2:=hcc 0 _ rfl
 have h3:=hfr 0
 have e1 : i.toNat * (ft (Kd.slice 212 k212) W L.Not).sz + 0 = i.toNat:=by show i.toNat * 1 + 0 = _;omega
 rw [e1] at h2 h3
 refine ⟨A,cp,h2,hl,fun W2 hW => ?_,h3⟩
 obtain ⟨A',c',e',_,hC⟩:=hM' W2 hW
 injection e' with e' _
 injection e' with ea _ _
 rw [ea]
 exact hC
theorem YardAt.rows_far (h : YardAt W base L Y) {r : Option Nat} (hg : W.grownBy w1 r) (j : Nat) (u : Value) :
  (∀ k,k < W.heap.size → some k ≠ r → k ≠ L.g → (w1.setCell ⟨L.g,j,none⟩ u).heap[k]? = W.heap[k]?) :=
 fun k hk h1 h2 => (Below.heap_setCell w1 ⟨L.g,j,none⟩ u k h2).trans (hg.block k hk h1)
theorem YardAt.set_barrows (h : YardAt W base L Y) {bs : List S167} {v1 : Value} (hr : (ft k167 W L.Not).R 167 w1 base (fun _ => True) v1 bs) (hg : W.grownBy w1 L.vb.ownBlock) (hat : v1.ownBlock = L.vb.ownBlock ∨ ∃ b,v1.ownBlock = some b ∧ W.heap.size ≤ b) :
  YardAt (w1.setCell ⟨L.g,4,none⟩ v1) base { L with vb:=v1 } { Y with barrows:=bs } ∧ Fr W L (w1.setCell ⟨L.g,4,none⟩ v1) { L with vb:=v1 } ∧ w1.cell? ⟨L.g,4,none⟩ = some L.vb ∧ w1.frozen? ⟨L.g,4,none⟩ = false:=by
 have hgb : some L.g ≠ L.vb.ownBlock:=fun e => R_offg h.barrows h.blk (by decide) e.symm
 have hB : w1.heap[L.g]? = _:=blk_grown h.blk hg hgb
 have far:=h.rows_far hg 4 v1
 have f : Fr W L (w1.setCell ⟨L.g,4,none⟩ v1) { L with vb:=v1 }:=⟨by rw [World.size_setCell];exact hg.size,fun k hk hn => by
  refine ⟨far k hk (fun e => hn (.inr (.inr (.inr (.inr (.inl e.symm)))))) (fun e => hn (.inl e)),fun hm => ?_⟩
  rcases hm with e|e|e|e|e|e
  ·exact hn (.inl e)
  ·exact hn (.inr (.inl e))
  ·exact hn (.inr (.inr (.inl e)))
  ·exact hn (.inr (.inr (.inr (.inl e))))
  ·rcases hat with hat|⟨b,hb,hle⟩
   ·exact hn (.inr (.inr (.inr (.inr (.inl (hat.symm.trans e))))))
   ·have : some b = some k:=hb.symm.trans e
    injection this with this
    omega
  ·exact hn (.inr (.inr (.inr (.inr (.inr e))))),rfl⟩
 have mv : ∀ {α : Type} {d : Kd α} {e : Nat} {v : Value} {xs : List α},d.E = [] → d.R e W base (fun _ => True) v xs → e ≠ 167 → e ≠ 165 → d.R e (w1.setCell ⟨L.g,4,none⟩ v1) base (fun _ => True) v xs:=fun hE hR n1 n2 =>
  R_own_move hE hR fun k hk => far k (Kd.R_lt hR k hk) (fun e => R_off hR h.barrows n1 k hk e.symm) (fun e => R_offg hR h.blk n2 (e ▸ hk))
 refine ⟨{ gbase:=h.gbase,bad:=h.bad,blk:=blk_put hB 4 v1 rfl,rooms:=Foot_fr h.rooms f,pits:=ft_fr (mv rfl h.pits (by decide) (by decide)) f,pours:=mv rfl h.pours (by decide) (by decide),days:=mv rfl h.days (by decide) (by decide),apart:=h.apart,barrows:=ft_fr (R_own_move rfl hr fun k hk => Below.heap_setCell w1 ⟨L.g,4,none⟩ v1 k (fun e => R_offg hr hB (by decide) (by have e1 : k = L.g:=e;rw [← e1];exact hk))) f,lost:=ft_fr (mv rfl h.lost (by decide) (by decide)) f },f,(blk_cell hB 4).trans rfl,blk_frozen hB 4⟩
theorem YardAt.set_lost (h : YardAt W base L Y) {bs : List S212} {v1 : Value} (hr : (ft k212 W L.Not).R 212 w1 base (fun _ => True) v1 bs) (hg : W.grownBy w1 L.vl.ownBlock) (hat : v1.ownBlock = L.vl.ownBlock ∨ ∃ b,v1.ownBlock = some b ∧ W.heap.size ≤ b) :
  YardAt (w1.setCell ⟨L.g,5,none⟩ v1) base { L with vl:=v1 } { Y with lost:=bs } ∧ Fr W L (w1.setCell ⟨L.g,5,none⟩ v1) { L with vl:=v1 } ∧ w1.cell? ⟨L.g,5,none⟩ = some L.vl ∧ w1.frozen? ⟨L.g,5,none⟩ = false:=by
 have hgb : some L.g ≠ L.vl.ownBlock:=fun e => R_offg h.lost h.blk (by decide) e.symm
 have hB : w1.heap[L.g]? = _:=blk_grown h.blk hg hgb
 have far:=h.rows_far hg 5 v1
 have f : Fr W L (w1.setCell ⟨L.g,5,none⟩ v1) { L with vl:=v1 }:=⟨by rw [World.size_setCell];exact hg.size,fun k hk hn => by
  refine ⟨far k hk (fun e => hn (.inr (.inr (.inr (.inr (.inr (.inl e.symm))))))) (fun e => hn (.inl e)),fun hm => ?_⟩
  rcases hm with e|e|e|e|e|e|e
  ·exact hn (.inl e)
  ·exact hn (.inr (.inl e))
  ·exact hn (.inr (.inr (.inl e)))
  ·exact hn (.inr (.inr (.inr (.inl e))))
  ·exact hn (.inr (.inr (.inr (.inr (.inl e)))))
  ·rcases hat with hat|⟨b,hb,hle⟩
   ·exact hn (.inr (.inr (.inr (.inr (.inr (.inl (hat.symm.trans e)))))))
   ·have : some b = some k:=hb.symm.trans e
    injection this with this
    omega
  ·exact hn (.inr (.inr (.inr (.inr (.inr (.inr e)))))),rfl⟩
 have mv : ∀ {α : Type} {d : Kd α} {e : Nat} {v : Value} {xs : List α},d.E = [] → d.R e W base (fun _ => True) v xs → e ≠ 212 → e ≠ 165 → d.R e (w1.setCell ⟨L.g,5,none⟩ v1) base (fun _ => True) v xs:=fun hE hR n1 n2 =>
  R_own_move hE hR fun k hk => far k (Kd.R_lt hR k hk) (fun e => R_off hR h.lost n1 k hk e.symm) (fun e => R_offg hR h.blk n2 (e ▸ hk))
 refine ⟨{ gbase:=h.gbase,bad:=h.bad,blk:=blk_put hB 5 v1 rfl,rooms:=Foot_fr h.rooms f,pits:=ft_fr (mv rfl h.pits (by decide) (by decide)) f,pours:=mv rfl h.pours (by decide) (by decide),days:=mv rfl h.days (by decide) (by decide),apart:=h.apart,barrows:=ft_fr (mv rfl h.barrows (by decide) (by decide)) f,lost:=ft_fr (R_own_move rfl hr fun k hk => Below.heap_setCell w1 ⟨L.g,5,none⟩ v1 k (fun e => R_offg hr hB (by decide) (by have e1 : k = L.g:=e;rw [← e1];exact hk))) f },f,(blk_cell hB 5).trans rfl,blk_frozen hB 5⟩
theorem YardAt.set_pit (h : YardAt W base L Y) {i : Int} (h0 : 0 ≤ i) (h1 : i < Y.rooms.length) {A : Option Addr} {c : Nat} {l : List S212} (hl : l.length ≤ c) (hF : Kd.F k212 W L.Not A l.length l) :
  YardAt (W.setCell ⟨L.gp,i.toNat,none⟩ (.slice A l.length c)) base L { Y with pits:=Y.pits.set i.toNat l } ∧ Fr W L (W.setCell ⟨L.gp,i.toNat,none⟩ (.slice A l.length c)) L ∧ Below base W (W.setCell ⟨L.gp,i.toNat,none⟩ (.slice A l.length c)):=by
 have hb:=Kd.R_base h.pits L.gp rfl
 have far : ∀ k,k ≠ L.gp → (W.setCell ⟨L.gp,i.toNat,none⟩ (.slice A l.length c)).heap[k]? = W.heap[k]?:=fun k hk => Below.heap_setCell W ⟨L.gp,i.toNat,none⟩ _ k hk
 have f : Fr W L (W.setCell ⟨L.gp,i.toNat,none⟩ (.slice A l.length c)) L:=⟨by rw [World.size_setCell];exact Nat.le_refl _,fun k hk hn => ⟨far k (fun e => hn (.inr (.inl e))),hn⟩,rfl⟩
 obtain ⟨c0,hcl,hM,hcc,hfr⟩:=Kd.R_elem h.pits ([] : List S212) i h0 h1
 have hFK : Kd.FK (Kd.slice 212 k212) W L.Not l [.slice A l.length c]:=fun W2 hW => ⟨A,c,rfl,hl,hF W2 hW⟩
 have hcl1 : c0.length = 1:=hcl
 have hseg:=Kd.R_seg h.pits i h0 h1 (c:=c0) (seg:=[.slice A l.length c]) (j:=0) hcl hcc (Nat.le_refl 1) (x':=l) (okp:=fun k => True ∧ k ≠ L.gp) (by
  show Kd.FK (Kd.slice 212 k212) W L.Not l _
  rw [List.take_zero,List.nil_append,List.drop_eq_nil_of_le (by rw [hcl1];exact Nat.le_refl _),List.append_nil]
  exact hFK) (fun k hk => hk)
 have e1 : i.toNat * (ft (Kd.slice 212 k212) W L.Not).sz + 0 = i.toNat:=by show i.toNat * 1 + 0 = _;omega
 rw [e1] at hseg
 have hR:=hseg.1
 have e2 : W.setCells L.gp i.toNat [.slice A l.length c] = W.setCell ⟨L.gp,i.toNat,none⟩ (.slice A l.length c):=rfl
 rw [e2] at hR
 have hgg : L.g ≠ L.gp:=fun e => R_offg h.pits h.blk (by decide) (by show some L.gp = some L.g;rw [e])
 have mv : ∀ {α : Type} {d : Kd α} {e : Nat} {v : Value} {xs : List α},d.E = [] → d.R e W base (fun _ => True) v xs → e ≠ 131 → d.R e (W.setCell ⟨L.gp,i.toNat,none⟩ (.slice A l.length c)) base (fun _ => True) v xs:=fun hE hR' n1 =>
  R_own_move hE hR' fun k hk => far k (fun e => R_off hR' h.pits n1 k hk (by show some L.gp = some k;rw [e]))
 refine ⟨{ gbase:=h.gbase,bad:=h.bad,blk:=(far L.g hgg).trans h.blk,rooms:=Foot_fr h.rooms f,pits:=ft_fr hR f,pours:=mv rfl h.pours (by decide),days:=mv rfl h.days (by decide),apart:=h.apart,barrows:=ft_fr (mv rfl h.barrows (by decide)) f,lost:=ft_fr (mv rfl h.lost (by decide)) f },f,(Below.refl _ _).setCell hb _⟩
end
end
section
open Go.ChangeShapes Go.WideShapes
theorem cellsOf84 : Tryz.prog.cellsOf 84 = 6:=by kernel_rfl
theorem cellsOf27 : Tryz.prog.cellsOf 27 = 1:=by kernel_rfl
theorem cellsOf30 : Tryz.prog.cellsOf 30 = 1:=by kernel_rfl
theorem cellsOf32 : Tryz.prog.cellsOf 32 = 2:=by kernel_rfl
theorem list6 {cs : List Value} {a b c d e f : Value} (hl : cs.length = 6) (h0 : cs[0]? = some a) (h1 : cs[1]? = some b) (h2 : cs[2]? = some c) (h3 : cs[3]? = some d) (h4 : cs[4]? = some e) (h5 : cs[5]? = some f) : cs = [a,b,c,d,e,f]:=by
 match cs,hl with
|[x,y,z,u,v,w],_ => simp at h0 h1 h2 h3 h4 h5;simp [h0,h1,h2,h3,h4,h5]
def Wf6 (x : S84) : Prop:=W64 x.f0 ∧ W64 x.f1 ∧ W64 x.f2 ∧ W64 x.f3 ∧ W64 x.f4 ∧ W64 x.f5
theorem opens84 : Opens k84 84 Wf6:=by
 intro H enc w base spare held fuel cs x h
 obtain ⟨xs,n,_,_,hl,hx,hf⟩:=DataW.trod_struct Tryz.underlying84 h
 rw [cellsOf84] at hl
 have f0:=hf 0 _ rfl
 have f1:=hf 1 _ rfl
 have f2:=hf 2 _ rfl
 have f3:=hf 3 _ rfl
 have f4:=hf 4 _ rfl
 have f5:=hf 5 _ rfl
 obtain ⟨y0,y1,y2,y3,y4,y5,rfl⟩ : ∃ y0 y1 y2 y3 y4 y5,xs = [y0,y1,y2,y3,y4,y5]:=by
  match xs,hx with
 |[a,b,c,d,e,f],_ => exact ⟨a,b,c,d,e,f,rfl⟩
 obtain ⟨n0,e0,_,w0⟩:=DataW.trod_int Tryz.underlying3 f0
 obtain ⟨n1,e1,_,w1⟩:=DataW.trod_int Tryz.underlying3 f1
 obtain ⟨n2,e2,_,w2⟩:=DataW.trod_int Tryz.underlying3 f2
 obtain ⟨n3,e3,_,w3⟩:=DataW.trod_int Tryz.underlying3 f3
 obtain ⟨n4,e4,_,w4⟩:=DataW.trod_int Tryz.underlying3 f4
 obtain ⟨n5,e5,_,w5⟩:=DataW.trod_int Tryz.underlying3 f5
 replace e0 : (cs.drop 0).take (Tryz.prog.cellsOf 3) = [ii n0]:=e0
 replace e1 : (cs.drop 1).take (Tryz.prog.cellsOf 3) = [ii n1]:=e1
 replace e2 : (cs.drop 2).take (Tryz.prog.cellsOf 3) = [ii n2]:=e2
 replace e3 : (cs.drop 3).take (Tryz.prog.cellsOf 3) = [ii n3]:=e3
 replace e4 : (cs.drop 4).take (Tryz.prog.cellsOf 3) = [ii n4]:=e4
 replace e5 : (cs.drop 5).take (Tryz.prog.cellsOf 3) = [ii n5]:=e5
 rw [cellsOf3] at e0 e1 e2 e3 e4 e5
 refine ⟨⟨n0,n1,n2,n3,n4,n5⟩,?_,w0,w1,w2,w3,w4,w5⟩
 rw [list6 hl (cell_take e0) (cell_take e1) (cell_take e2) (cell_take e3) (cell_take e4) (cell_take e5)]
 exact k84_mk w ⟨n0,n1,n2,n3,n4,n5⟩
theorem opens27 : Opens (Kd.slice 3 (Kd.int .i64)) 27 (fun xs => ∀ x ∈ xs,W64 x):=opens_slice (opens_int Tryz.underlying3) cellsOf3 Tryz.underlying27
theorem opens30 : Opens (Kd.slice 84 k84) 30 (fun xs => ∀ x ∈ xs,Wf6 x):=opens_slice opens84 cellsOf84 Tryz.underlying30
set_option maxRecDepth 100000 in
theorem arg32 {H : Type} {enc : TypeId × Value → H} {w : World} {base b0 : Nat} {r : Reach} {spare : Nat → Bool} {held : Bool} {v : Value} {dd : DataW H} {ps : List MemPlace}
  (hv : Value.okWide Tryz.prog w r b0 32 v) (h : DataW.Trod enc Tryz.prog w base spare held 32 v dd ps) :
  ∃ (aA : Option Addr) (cA : Nat) (lA : List Int) (aB : Option Addr) (cB : Nat) (lB : List S84),v = .agg #[.slice aA lA.length cA,.slice aB lB.length cB] ∧ Kd.C (Kd.int .i64) w aA lA.length lA ∧ lA.length ≤ cA ∧ Kd.C k84 w aB lB.length lB ∧ lB.length ≤ cB ∧ (∀ x ∈ lA,W64 x) ∧ ∀ x ∈ lB,Wf6 x:=by
 obtain ⟨cs,rfl,_⟩:=okWide_struct Tryz.underlying32 hv
 obtain ⟨fuel,hf⟩:=h
 obtain ⟨xs,n,_,_,hl,hx,hff⟩:=DataW.trod_struct Tryz.underlying32 hf
 rw [cellsOf32] at hl
 have f0:=hff 0 _ rfl
 have f1:=hff 1 _ rfl
 obtain ⟨y0,y1,rfl⟩ : ∃ y0 y1,xs = [y0,y1]:=by
  match xs,hx with
 |[a,b],_ => exact ⟨a,b,rfl⟩
 obtain ⟨lA,⟨aA,cA,e0,hA,hCA⟩,oA⟩:=opens27 f0
 obtain ⟨lB,⟨aB,cB,e1,hB,hCB⟩,oB⟩:=opens30 f1
 replace e0 : (cs.toList.drop 0).take (Tryz.prog.cellsOf 27) = [.slice aA lA.length cA]:=e0
 replace e1 : (cs.toList.drop 1).take (Tryz.prog.cellsOf 30) = [.slice aB lB.length cB]:=e1
 rw [cellsOf27] at e0
 rw [cellsOf30] at e1
 refine ⟨aA,cA,lA,aB,cB,lB,?_,hCA,hA,hCB,hB,oA,oB⟩
 exact agg_of (list2 hl (cell_take e0) (cell_take e1))
end
def idxP {α : Type} (p : α → Bool) (l : List α) : Int:=if l.any p = true then (l.findIdx p : Int) else -1
theorem idxP_found {α : Type} {p : α → Bool} {l : List α} {j : Nat} (hj : j < l.length) (h1 : p l[j] = true) (h0 : ∀ i (hi : i < l.length),i < j → p l[i] = false) : idxP p l = j:=by
 unfold idxP
 rw [if_pos (List.any_eq_true.2 ⟨l[j],List.getElem_mem hj,h1⟩)]
 congr 1
 refine (List.findIdx_eq hj).2 ⟨h1,fun i hi => ?_⟩
 simpa using h0 i (by omega) hi
theorem idxP_none {α : Type} {p : α → Bool} {l : List α} (h0 : ∀ i (hi : i < l.length),p l[i] = false) : idxP p l = -1:=by
 unfold idxP
 rw [if_neg]
 intro h
 obtain ⟨x,hx,hp⟩:=List.any_eq_true.1 h
 obtain ⟨i,hi,rfl⟩:=List.getElem_of_mem hx
 rw [h0 i hi] at hp
 cases hp
theorem idxP_nn {α : Type} {p : α → Bool} {l : List α} : decide (idxP p l ≥ 0) = l.any p:=by
 unfold idxP
 by_cases h : l.any p = true
 ·rw [if_pos h,h];simp
 ·rw [if_neg h];simp only [Bool.not_eq_true] at h;rw [h];rfl
theorem idxP_lt {α : Type} {p : α → Bool} {l : List α} (h : l.any p = true) : 0 ≤ idxP p l ∧ idxP p l < l.length ∧ ∃ hi : (idxP p l).toNat < l.length,p l[(idxP p l).toNat] = true:=by
 have h1 : l.findIdx p < l.length:=List.findIdx_lt_length_of_exists (List.any_eq_true.1 h)
 unfold idxP
 rw [if_pos h]
 refine ⟨by omega,by omega,by simpa using h1,?_⟩
 have:=List.findIdx_getElem (w:=h1)
 simpa using this
theorem heldP_take_snoc (l : List S212) (j : Nat) (h : j < l.length) : heldP (l.take (j + 1)) = heldP (l.take j) + (rd_T212 l (j : Int)).f0:=by
 rw [List.take_succ_eq_append_getElem h,heldP_append]
 unfold rd_T212
 rw [Int.toNat_natCast,List.getD_eq_getElem?_getD,List.getElem?_eq_getElem h]
 simp [heldP]
theorem heldP_take_le {l : List S212} (h : ∀ p ∈ l,1 ≤ p.f0) (j : Nat) : 0 ≤ heldP (l.take j) ∧ heldP (l.take j) ≤ heldP l:=by
 have h1:=heldP_nonneg (l:=l.take j) fun p hp => h p (List.mem_of_mem_take hp)
 have h2:=heldP_nonneg (l:=l.drop j) fun p hp => h p (List.mem_of_mem_drop hp)
 have h3:=heldP_append (l.take j) (l.drop j)
 rw [List.take_append_drop] at h3
 omega
set_option maxRecDepth 100000 in
set_option maxHeartbeats 1000000 in
theorem held_calls {W : World} {base n : Nat} {L : Loc} {Y : Yd} (hY : YardAt W base L Y) (hw : Wf n Y) (i : Int) (h0 : 0 ≤ i) (h1 : i < Y.rooms.length) :
  Calls Tryz.prog 130 #[.pointer (some ⟨L.g,0,none⟩),ii i] W fun e W' => e = .returned (ii (heldP (pitP Y i))) ∧ Below W.heap.size W W':=by
 obtain ⟨p1,p2,p3,p4⟩:=hw.pitOk h0 h1
 have hlo : ∀ p ∈ pitP Y i,1 ≤ p.f0:=fun p hp => (p1 p hp).lo
 have hlen:=heldP_nonneg hlo
 obtain ⟨A,c,hc,hle,hF,_⟩:=hY.pit_at h0 h1
 have hcg:=bd hY.blk 1
 have hr6:=hw.r6
 obtain ⟨ad,had⟩ : ∃ ad : Addr,ad = ⟨L.gp,0,none⟩:=⟨_,rfl⟩
 rw [← had] at hcg
 have hc' : W.cell? (ad.add i.toNat) = some (.slice A (pitP Y i).length c):=by rw [had];rw [add_plain];exact hc
 have hB : heldP (pitP Y i) ≤ 4096:=by omega
 clear hY hw p1 p2 p3 p4 hc had
 generalize pitP Y i = l at *
 generalize Y.rooms.length = N at *
 have HF:=am hF
 have HLO:=am hlo
 have HB:=am hB
 have hu:=Tryz.underlying212
 clear hF hlo hB
 go_enter Tryz.func130,Tryz.ntmps130
 go_wp2
 go_loopw [5,16] (fun v5 v16 wr => ∃ j : Nat,j ≤ l.length ∧ v16 = ii (j : Int) ∧ v5 = ii (heldP (l.take j)) ∧ Aside0 (Below W.heap.size W wr)) (fun _ v16 _ => l.length - (intOf v16).toNat)
 case atStart => exact ⟨0,Nat.zero_le _,rfl,rfl,⟨Below.refl _ _⟩⟩
 case round =>
  obtain ⟨j,hj,rfl,rfl,HBw⟩:=hrel
  have hb1:=heldP_take_le HLO.out j
  have hbm:=HB.out
  by_cases hlt : j < l.length
  ·obtain ⟨ae,A1,c1,e,hx0,hx1,_⟩:=at_T212 (Kd.C_below (Kd.F_now HF.out) HBw.out) (j : Int) (by omega) (by omega)
   cases e
   rw [Int.toNat_natCast] at hx0 hx1
   have hs:=heldP_take_snoc l j hlt
   have hb2:=heldP_take_le HLO.out (j + 1)
   have HS:=am hs
   have hw1 : IntKind.i64.wrap (heldP (l.take j) + (rd_T212 l (j : Int)).f0) = heldP (l.take j) + (rd_T212 l (j : Int)).f0:=IntWalk.i64_in _ (by omega)
   clear hs
   go_wp2
   go_roundw
   case rel => exact ⟨j + 1,by omega,by go_num,by rw [HS.out],⟨below_alloc HBw.out _⟩⟩
   case measure => simp [intOf];omega
  ·go_wp2
   go_ret
   exact ⟨by rw [List.take_of_length_le (by omega)];rfl,HBw.out⟩
theorem law3 : Go.Maps.Keyed Tryz.prog 3:=Go.Maps.int_keyed Tryz.underlying3
def ekI (i : Int) : Value:=.int .i64 i
def ev43 (x : S43) : Value:=.agg #[.int .i64 x.f0,.int .i64 x.f1]
theorem zero43 (w : World) : (zeroValue 43).run Tryz.prog w = .ok (.agg #[.int .i64 0,.int .i64 0]) w:=by kernel_rfl
theorem ekI_inj {c c' : Int} (h : ekI c' = ekI c) : c' = c:=by unfold ekI at h;injection h
theorem keyI (i : Int) (h0 : -9223372036854775808 ≤ i) (h1 : i < 9223372036854775808) : keyOf Tryz.prog 3 (ekI i) = some (.int .i64 i):=Go.Maps.keyOf_int_mk Tryz.underlying3 (by have e:=wrap_in h0 h1;rw [← e];exact wrap64_wf _)
theorem info212_ : (Tryz.prog.info? 212).map (fun i => (i.zero,i.size,i.bytes)) = some (some (.agg #[ii 0,.slice none 0 0]),k212.sz,32):=by kernel_rfl
set_option maxRecDepth 100000 in
set_option maxHeartbeats 1000000 in
theorem clone242_calls (A : Option Addr) (c : Nat) (l : List S212) (W : World) (ok : Nat → Prop) (hF : Kd.F k212 W ok A l.length l) (hc : l.length ≤ c) (hm : l.length ≤ 100000000) :
  Calls Tryz.prog 242 #[.slice A l.length c] W fun e W' => ∃ v,e = .returned v ∧ Below W.heap.size W W' ∧ (ft k212 W ok).R 212 W' W.heap.size (fun _ => True) v l:=by
 have q : ∀ (w : World) (a : Option Addr) (n c n' c' : Nat),(binOp .eql 131 (.slice a n c) (.slice none n' c')).run Tryz.prog w = .ok (.bool a.isNone) w:=fun w a n c n' c' => Lib.run_eql_slice_nil w _ _ a n c n' c' Tryz.underlying131
 have HF:=am hF
 have HC:=(Kd.F_now hF).2.2
 clear hF
 rcases A with _|ad
 ·have hl : l = []:=by
   rcases Nat.eq_zero_or_pos l.length with h|h
   ·exact List.eq_nil_of_length_eq_zero h
   ·obtain ⟨ad,h,_⟩:=HC h;cases h
  subst hl
  clear HC
  go_enter Tryz.func242,Tryz.ntmps242
  go_wp2
  go_ret
  exact ⟨_,rfl,Below.refl _ _,Kd.R_nil _ _ _ _ _⟩
 ·clear HC
  have HO:=am (show (ft k212 W ok).R 212 (W.alloc (.cells #[] 212)) W.heap.size (fun _ => True) (.slice (some ⟨W.heap.size,0,none⟩) 0 0) [] from ⟨fun _ _ => trivial,OwnRow.lit (ps:=[]) W W.heap.size (inner:=[]) (Reps.none _ _) (Nat.le_refl _) (by simp)⟩)
  have HB:=am (below_alloc (Below.refl W.heap.size W) (.cells #[] 212))
  have HX:=am (ReadsRow.imp_ (Kd.F_rows HF.out) (below_alloc (Below.refl _ _) (.cells #[] 212)) (fun _ _ h => h))
  go_enter Tryz.func242,Tryz.ntmps242
  go_wp2_with (at_builtin;go_loud (refine Kd.R_append_rows (ft k212 W ok) (Rr:=fun x c => Kd.FK k212 W ok x c) (w0:=W) (W:=W.alloc (.cells #[] 212)) W.heap.size rfl _ _ 131 212 (.agg #[ii 0,.slice none 0 0]) 32 rfl Tryz.underlying131 info212_ rfl (by show 0 < (k212 : Kd _).sz;decide) (by decide) (.slice (some ⟨W.heap.size,0,none⟩) 0 0) [] l (some ad) l.length c (fun _ => True) (fun _ => False) rfl rfl HO.out HX.out (fun _ _ h => h) (fun _ h => h.elim) (fun _ _ => trivial) HB.out (below_size HB.out) (by simp;omega) ?_;intro v1 w1 hs1 hb1 hg1 hat1;have HS1:=am hs1;have HB1:=am hb1;clear hs1 hb1 hg1 hat1))
  go_ret
  exact ⟨_,rfl,HB1.out,HS1.out⟩
theorem YardAt.set_bad {W : World} {base : Nat} {L : Loc} {Y : Yd} (h : YardAt W base L Y) {b j : Nat} (hb : L.bad b) (u : Value) : YardAt (W.setCell ⟨b,j,none⟩ u) base L Y ∧ Fr W L (W.setCell ⟨b,j,none⟩ u) L:=by
 have hlt:=h.bad b hb
 have far : ∀ k,k ≠ b → (W.setCell ⟨b,j,none⟩ u).heap[k]? = W.heap[k]?:=fun k hk => Below.heap_setCell W ⟨b,j,none⟩ u k hk
 have f : Fr W L (W.setCell ⟨b,j,none⟩ u) L:=⟨by rw [World.size_setCell];exact Nat.le_refl _,fun k hk hn => ⟨far k (fun e => hn (.inr (.inr (.inr (.inr (.inr (.inr (e ▸ hb)))))))),hn⟩,rfl⟩
 have mv : ∀ {α : Type} {d : Kd α} {e : Nat} {v : Value} {xs : List α},d.E = [] → d.R e W base (fun _ => True) v xs → d.R e (W.setCell ⟨b,j,none⟩ u) base (fun _ => True) v xs:=fun hE hR => R_own_move hE hR fun k hk => far k (fun e => by have:=Kd.R_base hR k hk;omega)
 exact ⟨{ gbase:=h.gbase,bad:=h.bad,blk:=(far L.g (fun e => by have:=h.gbase;omega)).trans h.blk,rooms:=Foot_fr h.rooms f,pits:=ft_fr (mv rfl h.pits) f,pours:=mv rfl h.pours,days:=mv rfl h.days,apart:=h.apart,barrows:=ft_fr (mv rfl h.barrows) f,lost:=ft_fr (mv rfl h.lost) f },f⟩
theorem info89_ : (Tryz.prog.info? 89).map (fun i => (i.zero,i.size,i.bytes)) = some (some (.agg #[ii 0,ii 0,ii 0]),k89.sz,24):=by kernel_rfl
set_option maxRecDepth 100000 in
set_option maxHeartbeats 1000000 in
theorem clone97_calls (A : Option Addr) (c : Nat) (l : List S89) (W : World) (ok : Nat → Prop) (hF : Kd.F k89 W ok A l.length l) (hc : l.length ≤ c) (hm : l.length ≤ 100000000) :
  Calls Tryz.prog 97 #[.slice A l.length c] W fun e W' => ∃ v,e = .returned v ∧ Below W.heap.size W W' ∧ (ft k89 W ok).R 89 W' W.heap.size (fun _ => True) v l:=by
 have q : ∀ (w : World) (a : Option Addr) (n c n' c' : Nat),(binOp .eql 55 (.slice a n c) (.slice none n' c')).run Tryz.prog w = .ok (.bool a.isNone) w:=fun w a n c n' c' => Lib.run_eql_slice_nil w _ _ a n c n' c' Tryz.underlying55
 have HF:=am hF
 have HC:=(Kd.F_now hF).2.2
 clear hF
 rcases A with _|ad
 ·have hl : l = []:=by
   rcases Nat.eq_zero_or_pos l.length with h|h
   ·exact List.eq_nil_of_length_eq_zero h
   ·obtain ⟨ad,h,_⟩:=HC h;cases h
  subst hl
  clear HC
  go_enter Tryz.func97,Tryz.ntmps97
  go_wp2
  go_ret
  exact ⟨_,rfl,Below.refl _ _,Kd.R_nil _ _ _ _ _⟩
 ·clear HC
  have HO:=am (show (ft k89 W ok).R 89 (W.alloc (.cells #[] 89)) W.heap.size (fun _ => True) (.slice (some ⟨W.heap.size,0,none⟩) 0 0) [] from ⟨fun _ _ => trivial,OwnRow.lit (ps:=[]) W W.heap.size (inner:=[]) (Reps.none _ _) (Nat.le_refl _) (by simp)⟩)
  have HB:=am (below_alloc (Below.refl W.heap.size W) (.cells #[] 89))
  have HX:=am (ReadsRow.imp_ (Kd.F_rows HF.out) (below_alloc (Below.refl _ _) (.cells #[] 89)) (fun _ _ h => h))
  go_enter Tryz.func97,Tryz.ntmps97
  go_wp2_with (at_builtin;go_loud (refine Kd.R_append_rows (ft k89 W ok) (Rr:=fun x c => Kd.FK k89 W ok x c) (w0:=W) (W:=W.alloc (.cells #[] 89)) W.heap.size rfl _ _ 55 89 (.agg #[ii 0,ii 0,ii 0]) 24 rfl Tryz.underlying55 info89_ rfl (by show 0 < (k89 : Kd _).sz;decide) (by decide) (.slice (some ⟨W.heap.size,0,none⟩) 0 0) [] l (some ad) l.length c (fun _ => True) (fun _ => False) rfl rfl HO.out HX.out (fun _ _ h => h) (fun _ h => h.elim) (fun _ _ => trivial) HB.out (below_size HB.out) (by simp;omega) ?_;intro v1 w1 hs1 hb1 hg1 hat1;have HS1:=am hs1;have HB1:=am hb1;clear hs1 hb1 hg1 hat1))
  go_ret
  exact ⟨_,rfl,HB1.out,HS1.out⟩
theorem step_barrows {Y Y' : Yd} {s : S84} {step : Int} (hs : stepP Y s step = .ok Y') : (∀ x ∈ Y'.pours,x ∈ Y.pours ∨ x = s.f0) ∧ (∀ b ∈ Y'.barrows,b ∈ Y.barrows ∨ b.f0 = s.f0):=by
 have same : ∀ (Z : Yd),Z.pours = Y.pours → Z.barrows = Y.barrows → (∀ x ∈ Z.pours,x ∈ Y.pours ∨ x = s.f0) ∧ (∀ b ∈ Z.barrows,b ∈ Y.barrows ∨ b.f0 = s.f0):=by
  intro Z h1 h2
  rw [h1,h2]
  exact ⟨fun x hx => .inl hx,fun b hb => .inl hb⟩
 unfold stepP at hs
 split at hs
 ·unfold pourP at hs
  split at hs
  ·split at hs
   ·injection hs with hs
    subst hs
    refine ⟨fun x hx => ?_,fun b hb => .inl hb⟩
    rcases List.mem_append.1 hx with hx|hx
    ·exact .inl hx
    ·exact .inr (List.mem_singleton.1 hx)
   ·cases hs
  ·cases hs
 split at hs
 ·unfold takeP at hs
  split at hs
  ·split at hs
   ·split at hs
    ·split at hs
     ·injection hs with hs
      subst hs
      refine ⟨fun x hx => .inl hx,fun b hb => ?_⟩
      rcases List.mem_append.1 hb with hb|hb
      ·exact .inl hb
      ·rw [List.mem_singleton.1 hb];exact .inr rfl
     ·cases hs
    ·cases hs
   ·cases hs
  ·cases hs
 split at hs
 ·unfold turnP at hs
  split at hs
  ·split at hs
   ·injection hs with hs
    subst hs
    exact same _ rfl rfl
   ·cases hs
  ·injection hs with hs
   subst hs
   exact same _ rfl rfl
 split at hs
 ·unfold moveP at hs
  split at hs
  ·split at hs
   ·split at hs
    ·injection hs with hs
     subst hs
     exact same _ rfl rfl
    ·cases hs
   ·cases hs
  ·cases hs
 ·unfold spillP at hs
  split at hs
  ·split at hs
   ·injection hs with hs
    subst hs
    exact same _ rfl rfl
   ·cases hs
  ·cases hs
def lastD : Int → List S84 → Int
|d,[] => d
|_,s :: r => lastD s.f2 r
theorem go_append (m : List S84) : ∀ (l : List S84) (Y : Yd) (day i : Int),goP Y day i (l ++ m) = (match goP Y day i l with
 |.ok Y' => goP Y' (lastD day l) (i + l.length) m
 |.error e => .error e)
|[],Y,day,i => by
  simp only [List.nil_append,goP,lastD,List.length_nil]
  rw [show i + ((0 : Nat) : Int) = i by omega]
|s :: r,Y,day,i => by
  simp only [List.cons_append,goP,lastD]
  split
  ·split
   ·rename_i Y1 _
    rw [go_append m r Y1 s.f2 (i + 1),show i + 1 + (r.length : Int) = i + ((s :: r).length : Int) by simp only [List.length_cons];omega]
   ·rfl
  ·rfl
theorem go_info : ∀ (l : List S84) (Y Y' : Yd) (day i : Int),0 ≤ day → day ≤ 682 → goP Y day i l = .ok Y' →
  (0 ≤ lastD day l ∧ lastD day l ≤ 682) ∧ (∀ x ∈ Y'.pours,x ∈ Y.pours ∨ ∃ s ∈ l,s.f0 = x) ∧ (∀ b ∈ Y'.barrows,b ∈ Y.barrows ∨ ∃ s ∈ l,s.f0 = b.f0)
|[],Y,Y',day,i,h0,h1,h => by
  simp only [goP] at h
  injection h with h
  subst h
  exact ⟨⟨h0,h1⟩,fun x hx => .inl hx,fun b hb => .inl hb⟩
|s :: r,Y,Y',day,i,h0,h1,h => by
  simp only [goP] at h
  by_cases c : formedP Y.rooms.length s day = true
  ·rw [if_pos c] at h
   obtain ⟨hf,_⟩:=formed_of h0 c
   cases hs : stepP Y s i with
  |error e => rw [hs] at h;cases h
  |ok Y1 =>
    rw [hs] at h
    simp only at h
    obtain ⟨k1,k2⟩:=step_barrows hs
    obtain ⟨g0,g1,g2⟩:=go_info r Y1 Y' s.f2 (i + 1) hf.day.1 hf.day.2 h
    refine ⟨g0,fun x hx => ?_,fun b hb => ?_⟩
    ·rcases g1 x hx with g|⟨t,ht,e⟩
     ·rcases k1 x g with k|k
      ·exact .inl k
      ·exact .inr ⟨s,List.mem_cons_self,k.symm⟩
     ·exact .inr ⟨t,List.mem_cons_of_mem _ ht,e⟩
    ·rcases g2 b hb with g|⟨t,ht,e⟩
     ·rcases k2 b g with k|k
      ·exact .inl k
      ·exact .inr ⟨s,List.mem_cons_self,k.symm⟩
     ·exact .inr ⟨t,List.mem_cons_of_mem _ ht,e⟩
  ·rw [if_neg c] at h;cases h
theorem isNew_iff {Y : Yd} {id : Int} (h1 : id ∉ Y.pours) (h2 : ∀ b ∈ Y.barrows,b.f0 ≠ id) : isNew Y id = true:=by
 unfold isNew
 simp only [Bool.and_eq_true,Bool.not_eq_true',decide_eq_false_iff_not,List.any_eq_false,decide_eq_true_eq]
 exact ⟨h1,h2⟩
theorem info84_ : (Tryz.prog.info? 84).map (fun i => (i.zero,i.size,i.bytes)) = some (some (.agg #[ii 0,ii 0,ii 0,ii 0,ii 0,ii 0]),k84.sz,48):=by kernel_rfl
set_option maxRecDepth 100000 in
set_option maxHeartbeats 1000000 in
theorem clone124_calls (A : Option Addr) (c : Nat) (l : List S84) (W : World) (ok : Nat → Prop) (hF : Kd.F k84 W ok A l.length l) (hc : l.length ≤ c) (hm : l.length ≤ 100000000) :
  Calls Tryz.prog 124 #[.slice A l.length c] W fun e W' => ∃ v,e = .returned v ∧ Below W.heap.size W W' ∧ (ft k84 W ok).R 84 W' W.heap.size (fun _ => True) v l:=by
 have q : ∀ (w : World) (a : Option Addr) (n c n' c' : Nat),(binOp .eql 30 (.slice a n c) (.slice none n' c')).run Tryz.prog w = .ok (.bool a.isNone) w:=fun w a n c n' c' => Lib.run_eql_slice_nil w _ _ a n c n' c' Tryz.underlying30
 have HF:=am hF
 have HC:=(Kd.F_now hF).2.2
 clear hF
 rcases A with _|ad
 ·have hl : l = []:=by
   rcases Nat.eq_zero_or_pos l.length with h|h
   ·exact List.eq_nil_of_length_eq_zero h
   ·obtain ⟨ad,h,_⟩:=HC h;cases h
  subst hl
  clear HC
  go_enter Tryz.func124,Tryz.ntmps124
  go_wp2
  go_ret
  exact ⟨_,rfl,Below.refl _ _,Kd.R_nil _ _ _ _ _⟩
 ·clear HC
  have HO:=am (show (ft k84 W ok).R 84 (W.alloc (.cells #[] 84)) W.heap.size (fun _ => True) (.slice (some ⟨W.heap.size,0,none⟩) 0 0) [] from ⟨fun _ _ => trivial,OwnRow.lit (ps:=[]) W W.heap.size (inner:=[]) (Reps.none _ _) (Nat.le_refl _) (by simp)⟩)
  have HB:=am (below_alloc (Below.refl W.heap.size W) (.cells #[] 84))
  have HX:=am (ReadsRow.imp_ (Kd.F_rows HF.out) (below_alloc (Below.refl _ _) (.cells #[] 84)) (fun _ _ h => h))
  go_enter Tryz.func124,Tryz.ntmps124
  go_wp2_with (at_builtin;go_loud (refine Kd.R_append_rows (ft k84 W ok) (Rr:=fun x c => Kd.FK k84 W ok x c) (w0:=W) (W:=W.alloc (.cells #[] 84)) W.heap.size rfl _ _ 30 84 (.agg #[ii 0,ii 0,ii 0,ii 0,ii 0,ii 0]) 48 rfl Tryz.underlying30 info84_ rfl (by show 0 < (k84 : Kd _).sz;decide) (by decide) (.slice (some ⟨W.heap.size,0,none⟩) 0 0) [] l (some ad) l.length c (fun _ => True) (fun _ => False) rfl rfl HO.out HX.out (fun _ _ h => h) (fun _ h => h.elim) (fun _ _ => trivial) HB.out (below_size HB.out) (by simp;omega) ?_;intro v1 w1 hs1 hb1 hg1 hat1;have HS1:=am hs1;have HB1:=am hb1;clear hs1 hb1 hg1 hat1))
  go_ret
  exact ⟨_,rfl,HB1.out,HS1.out⟩
end Go.Proofs.YtjjfpmapjjemcaaGreat.B
end
