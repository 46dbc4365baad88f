import Derived.Test.YtjjfpmapjjemcaaGreatQ10
import Derived.Test.YtjjfpmapjjemcaaGreatQ11
import Derived.Test.YtjjfpmapjjemcaaGreatQ15
import Derived.Test.YtjjfpmapjjemcaaGreatQ16
import Derived.Test.YtjjfpmapjjemcaaGreatQ17
import Derived.Test.YtjjfpmapjjemcaaGreatQ18
import Derived.Test.YtjjfpmapjjemcaaGreatQ19
import Derived.Test.YtjjfpmapjjemcaaGreatQ20
import Derived.Test.YtjjfpmapjjemcaaGreatQ24
import Derived.Test.YtjjfpmapjjemcaaGreatQ26
import Derived.Test.YtjjfpmapjjemcaaGreatQ31
import Derived.Test.YtjjfpmapjjemcaaGreatQ35
import Derived.Test.YtjjfpmapjjemcaaGreatQ38
import Derived.Test.YtjjfpmapjjemcaaGreatQ39
import Derived.Test.YtjjfpmapjjemcaaGreatQ43
import Derived.Test.YtjjfpmapjjemcaaGreatQ44
import Derived.Test.YtjjfpmapjjemcaaGreatQ47
import Derived.Test.YtjjfpmapjjemcaaGreatQ48
import Derived.Test.YtjjfpmapjjemcaaGreatQ50
import Derived.Test.YtjjfpmapjjemcaaGreatQ51
import Derived.Test.YtjjfpmapjjemcaaGreatQ52
import Derived.Test.YtjjfpmapjjemcaaGreatQ7
set_option linter.unusedVariables false
set_option linter.unusedSimpArgs false
section
namespace Go.Proofs.YtjjfpmapjjemcaaGreat.B
open Go.RowKit Go.Proofs.YtjjfpmapjjemcaaGreatW.PrintWords Go.Proofs.YtjjfpmapjjemcaaGreatW.PrintLast Go.Proofs.YtjjfpmapjjemcaaGreatW.PrintMore
attribute [local go_sem] max2_int min2_int max_two min_two max_three min_three max_four min_four
def calxlaw04_sanity.f : Option Bool:=some true
theorem calxlaw04_sanity.calls (r : Bool) (w : World) (h : calxlaw04_sanity.f = some r) : Calls Tryz.prog 27 #[] w fun e w' => e = .returned (.bool r) ∧ Below w.heap.size w w':=by
 obtain rfl:=Option.some.inj h
 exact sanity_calls w
theorem find_self : ∀ {l : List S167},(l.map (·.f0)).Nodup → ∀ b ∈ l,l.find? (isId b.f0) = some b
|[],_,b,h => by simp at h
|x :: r,hn,b,h => by
  obtain ⟨h1,h2⟩:=List.nodup_cons.1 (by simpa using hn : (x.f0 :: r.map (·.f0)).Nodup)
  rw [List.find?_cons]
  rcases List.mem_cons.1 h with rfl|h
  ·simp [isId]
  ·have hne : x.f0 ≠ b.f0:=fun e => h1 (by rw [e];exact List.mem_map_of_mem h)
   rw [show isId b.f0 x = false from decide_eq_false hne]
   exact find_self h2 b h
theorem rd_nat {l : List Int} {j : Nat} (h : j < l.length) : rd l (j : Int) = l[j]:=by
 unfold rd;rw [Int.toNat_natCast,List.getD_eq_getElem?_getD,List.getElem?_eq_getElem h];rfl
def filt (id : Int) (l : List S89) : List S89:=l.filter fun x => decide (x.f0 = id)
theorem filt_cons (id : Int) (x : S89) (l : List S89) : filt id (x :: l) = if x.f0 = id then x :: filt id l else filt id l:=by
 unfold filt
 rw [List.filter_cons]
 simp only [decide_eq_true_eq]
theorem filt_append (id : Int) (a b : List S89) : filt id (a ++ b) = filt id a ++ filt id b:=List.filter_append ..
theorem filt_map {g : S89 → S89} (hg : ∀ x,(g x).f0 = x.f0) (id : Int) : ∀ l : List S89,filt id (l.map g) = (filt id l).map g
|[] => rfl
|x :: r => by
  rw [List.map_cons,filt_cons,filt_cons,hg,filt_map hg id r]
  split <;> rfl
theorem filt_perm {a b : List S89} (h : ∀ id,filt id a = filt id b) : a.Perm b:=by
 haveI : DecidableEq S89:=fun a b => Classical.propDecidable (a = b)
 refine List.perm_iff_count.2 fun x => ?_
 have h1:=congrArg (List.count x) (h x.f0)
 unfold filt at h1
 rw [List.count_filter (by simp),List.count_filter (by simp)] at h1
 exact h1
theorem filt_same {a b : List S89} (h : ∀ id,filt id a = filt id b) : sameP a b = true:=by
 have hp:=filt_perm h
 unfold sameP
 rw [Bool.and_eq_true]
 refine ⟨decide_eq_true hp.length_eq,?_⟩
 rw [Bool.not_eq_true',List.any_eq_false]
 intro x hx
 simp only [Bool.not_eq_true',Bool.not_eq_false]
 exact List.any_eq_true.2 ⟨x,hp.mem_iff.1 hx,eq89_iff.2 rfl⟩
def NP (p : S212) : Int × (Int → List S89):=(p.f0,fun id => filt id p.f1)
def NB (b : S167) : Int × (Int → List S89):=(b.f0,fun id => filt id b.f3)
theorem np_iff {p q : S212} : NP p = NP q ↔ p.f0 = q.f0 ∧ ∀ id,filt id p.f1 = filt id q.f1:=by
 unfold NP
 rw [Prod.mk.injEq]
 exact ⟨fun h => ⟨h.1,fun id => congrFun h.2 id⟩,fun h => ⟨h.1,funext h.2⟩⟩
theorem parts_filt : ∀ {a b : List S212},a.map NP = b.map NP → ∀ id,filt id (partsP a) = filt id (partsP b)
|[],[],_,_ => rfl
|[],_ :: _,h,_ => by simp at h
|_ :: _,[],h,_ => by simp at h
|p :: a,q :: b,h,id => by
  rw [List.map_cons,List.map_cons] at h
  injection h with h1 h2
  rw [partsP,partsP,filt_append,filt_append,(np_iff.1 h1).2,parts_filt h2]
theorem held_np : ∀ {a b : List S212},a.map NP = b.map NP → heldP a = heldP b
|[],[],_ => rfl
|[],_ :: _,h => by simp at h
|_ :: _,[],h => by simp at h
|p :: a,q :: b,h => by
  rw [List.map_cons,List.map_cons] at h
  injection h with h1 h2
  rw [heldP,heldP,(np_iff.1 h1).1,held_np h2]
def sumId : Option S43 → List S89 → Option (Option S43)
|m,[] => some m
|m,x :: r => if fineP (addP (m.getD (wholeP 0)) x.f1) = true then sumId (some (addP (m.getD (wholeP 0)) x.f1)) r else none
theorem sumAll_ids : ∀ (l : List S89) (M M' : ByPour),sumAll M l = some M' → ∀ id,sumId (M id) (filt id l) = some (M' id)
|[],M,M',h,id => by
  simp only [sumAll,Option.some.injEq] at h
  subst h
  rfl
|x :: r,M,M',h,id => by
  simp only [sumAll] at h
  split at h
  ·rename_i hf
   have ih:=sumAll_ids r _ M' h id
   rw [filt_cons]
   by_cases e : x.f0 = id
   ·subst e
    rw [putBy_same] at ih
    rw [if_pos rfl]
    simp only [sumId]
    rw [if_pos hf]
    exact ih
   ·rw [if_neg e]
    rw [putBy_other _ _ (Ne.symm e)] at ih
    exact ih
  ·cases h
theorem sumAll_of_ids : ∀ (l : List S89) (M M' : ByPour),(∀ id,sumId (M id) (filt id l) = some (M' id)) → sumAll M l = some M'
|[],M,M',h => by
  have e : M = M':=funext fun id => Option.some.inj (h id)
  rw [e]
  rfl
|x :: r,M,M',h => by
  have hx:=h x.f0
  rw [filt_cons,if_pos rfl] at hx
  simp only [sumId] at hx
  split at hx
  ·rename_i hf
   simp only [sumAll]
   rw [if_pos hf]
   refine sumAll_of_ids r _ M' fun id => ?_
   by_cases e : x.f0 = id
   ·subst e
    rw [putBy_same]
    exact hx
   ·have h1:=h id
    rw [filt_cons,if_neg e] at h1
    rw [putBy_other _ _ (Ne.symm e)]
    exact h1
  ·cases hx
theorem sumAll_same {a b : List S89} (h : ∀ id,filt id a = filt id b) (M : ByPour) : sumAll M a = sumAll M b:=by
 cases ha : sumAll M a with
|some M' => exact (sumAll_of_ids b M M' fun id => by rw [← h id];exact sumAll_ids a M M' ha id).symm
|none =>
  cases hb : sumAll M b with
 |none => rfl
 |some M' => rw [sumAll_of_ids a M M' fun id => by rw [h id];exact sumAll_ids b M M' hb id] at ha;cases ha
theorem filt_outOf (M : ByPour) (id : Int) : ∀ l : List Int,l.Nodup → filt id (outOf M l) = if id ∈ l then (M id).toList.map (fun n => ⟨id,n⟩) else []
|[],_ => by simp [outOf,filt]
|k :: r,hn => by
  obtain ⟨h1,h2⟩:=List.nodup_cons.1 hn
  have ih:=filt_outOf M id r h2
  by_cases e : k = id
  ·subst e
   rw [if_neg h1] at ih
   rw [if_pos List.mem_cons_self]
   simp only [outOf]
   cases hM : M k with
  |none => simp only [ih];rfl
  |some n => simp only [filt_cons,if_true,ih];rfl
  ·have e2 : (id ∈ k :: r) ↔ id ∈ r:=by simp [Ne.symm e]
   simp only [outOf,e2]
   rw [← ih]
   cases hM : M k with
  |none => rfl
  |some n => simp only [filt_cons,if_neg e]
theorem summed_same {pours pours' : List Int} (hn : pours.Nodup) (hp : pours.Perm pours') {a b : List S212} (h : a.map NP = b.map NP) {ps : List S89} (hs : summedP pours a = some ps) : ∃ ps',summedP pours' b = some ps' ∧ ∀ id,filt id ps = filt id ps':=by
 unfold summedP at hs ⊢
 rw [sumAll_same (parts_filt h)] at hs
 obtain ⟨M,hM,rfl⟩:=Option.map_eq_some_iff.1 hs
 refine ⟨outOf M pours',by rw [hM];rfl,fun id => ?_⟩
 rw [filt_outOf M id _ hn,filt_outOf M id _ (hp.nodup_iff.1 hn)]
 simp only [hp.mem_iff]
theorem divParts_some {n m : Int} : ∀ {l r : List S89},divParts l n m = some r ↔ (∀ x ∈ l,fineP (timesP x.f1 n m) = true) ∧ r = l.map fun x => ⟨x.f0,timesP x.f1 n m⟩
|[],r => by simp only [divParts,Option.some.injEq,List.map_nil];exact ⟨fun h => ⟨by simp,h.symm⟩,fun h => h.2.symm⟩
|x :: l,r => by
  simp only [divParts]
  split
  ·rename_i hf
   rw [Option.map_eq_some_iff]
   constructor
   ·rintro ⟨t,ht,rfl⟩
    obtain ⟨h1,h2⟩:=divParts_some.1 ht
    exact ⟨fun y hy => (List.mem_cons.1 hy).elim (fun e => by rw [e];exact hf) (h1 y),by rw [h2];rfl⟩
   ·rintro ⟨h1,h2⟩
    exact ⟨_,divParts_some.2 ⟨fun y hy => h1 y (List.mem_cons_of_mem _ hy),rfl⟩,h2.symm⟩
  ·rename_i hf
   exact Iff.intro (fun h => by cases h) (fun h => absurd (h.1 x List.mem_cons_self) hf)
theorem divided_same {p q r : S212} {n : Int} (h : NP p = NP q) (hd : dividedP p n = some r) : ∃ r',dividedP q n = some r' ∧ NP r = NP r':=by
 obtain ⟨h1,h2⟩:=np_iff.1 h
 unfold dividedP at hd ⊢
 obtain ⟨l,hl,rfl⟩:=Option.map_eq_some_iff.1 hd
 obtain ⟨k1,rfl⟩:=divParts_some.1 hl
 have k2 : divParts q.f1 n q.f0 = some (q.f1.map fun x => ⟨x.f0,timesP x.f1 n q.f0⟩):=divParts_some.2 ⟨fun x hx => by
  have:=(filt_perm h2).mem_iff.2 hx
  rw [← h1]
  exact k1 x this,rfl⟩
 refine ⟨⟨n,q.f1.map fun x => ⟨x.f0,timesP x.f1 n q.f0⟩⟩,by rw [k2];rfl,np_iff.2 ⟨rfl,fun id => ?_⟩⟩
 have e : ∀ m l,filt id (List.map (fun x => (⟨x.f0,timesP x.f1 n m⟩ : S89)) l) = (filt id l).map fun x => ⟨x.f0,timesP x.f1 n m⟩:=fun m l => filt_map (g:=fun x => (⟨x.f0,timesP x.f1 n m⟩ : S89)) (fun _ => rfl) id l
 show filt id (List.map _ p.f1) = filt id (List.map _ q.f1)
 rw [e,e,h2,h1]
theorem ahead_same : ∀ {a b : List S212} {n : Int} {u v : List S212},a.map NP = b.map NP → aheadP a n = some (u,v) → ∃ u' v',aheadP b n = some (u',v') ∧ u.map NP = u'.map NP ∧ v.map NP = v'.map NP
|[],[],n,u,v,_,h => ⟨u,v,h,rfl,rfl⟩
|[],_ :: _,_,_,_,h,_ => by simp at h
|_ :: _,[],_,_,_,h,_ => by simp at h
|p :: a,q :: b,n,u,v,h,hA => by
  rw [List.map_cons,List.map_cons] at h
  injection h with h1 h2
  obtain ⟨e1,e2⟩:=np_iff.1 h1
  simp only [aheadP] at hA ⊢
  rw [← e1]
  split at hA
  ·rename_i c1
   split at hA
   ·rename_i c2
    obtain ⟨⟨a',b'⟩,h',e⟩:=Option.map_eq_some_iff.1 hA
    simp only [Prod.mk.injEq] at e
    obtain ⟨rfl,rfl⟩:=e
    obtain ⟨u',v',k1,k2,k3⟩:=ahead_same h2 h'
    refine ⟨q :: u',v',by rw [if_pos c1,if_pos c2,k1];rfl,?_,k3⟩
    rw [List.map_cons,List.map_cons,h1,k2]
   ·rename_i c2
    obtain ⟨x,hx,hA⟩:=Option.bind_eq_some_iff.1 hA
    obtain ⟨y,hy,e⟩:=Option.map_eq_some_iff.1 hA
    simp only [Prod.mk.injEq] at e
    obtain ⟨rfl,rfl⟩:=e
    obtain ⟨x',k1,k2⟩:=divided_same h1 hx
    obtain ⟨y',k3,k4⟩:=divided_same h1 hy
    refine ⟨[x'],y' :: b,by rw [if_pos c1,if_neg c2,k1,k3];rfl,?_,?_⟩
    ·rw [List.map_cons,List.map_cons,k2]
    ·rw [List.map_cons,List.map_cons,k4,h2]
  ·rename_i c1
   simp only [Option.some.injEq,Prod.mk.injEq] at hA
   obtain ⟨rfl,rfl⟩:=hA
   exact ⟨[],q :: b,by rw [if_neg c1],rfl,by rw [List.map_cons,List.map_cons,h1,h2]⟩
structure Eff where
 here : List S212
 there : List S212
 parts : List S89
 lost : List S212
def effP (s : S84) (r1 r2 : Int) (pours : List Int) (a b : List S212) : Option Eff :=
 if s.f1 = 1 then (if heldP a + s.f5 ≤ r1 then some ⟨a ++ [⟨s.f5,[⟨s.f0,wholeP s.f5⟩]⟩],[],[],[]⟩ else none)
 else if s.f1 = 2 then (if s.f5 ≤ heldP a then (aheadP a s.f5).bind fun x => (summedP pours x.1).map fun ps => ⟨x.2,[],ps,[]⟩ else none)
 else if s.f1 = 3 then (if 0 < heldP a then (summedP pours a).map fun ps => ⟨[⟨heldP a,ps⟩],[],[],[]⟩ else some ⟨a,[],[],[]⟩)
 else if s.f1 = 4 then (if s.f5 ≤ heldP a then (if heldP b + s.f5 ≤ r2 then (aheadP a s.f5).map fun x => ⟨x.2,b ++ x.1,[],[]⟩ else none) else none)
 else (if s.f5 ≤ heldP a then (aheadP a s.f5).map fun x => ⟨x.2,[],[],x.1⟩ else none)
def apP (Y : Yd) (s : S84) (i : Int) (e : Eff) : Yd :=
 { Y with pits:=(if s.f1 = 4 then (Y.pits.set s.f3.toNat e.here).set s.f4.toNat e.there else Y.pits.set s.f3.toNat e.here),pours:=Y.pours ++ (if s.f1 = 1 then [s.f0] else []),days:=Y.days ++ (if s.f1 = 1 then [s.f2] else []),barrows:=Y.barrows ++ (if s.f1 = 2 then [⟨s.f0,i,s.f5,e.parts⟩] else []),lost:=Y.lost ++ e.lost }
def Anew (Y : Yd) (s : S84) : Prop:=s.f1 = 1 ∨ s.f1 = 2 → s.f0 ∉ Y.pours ∧ ∀ b ∈ Y.barrows,b.f0 ≠ s.f0
theorem Anew.new {Y : Yd} {s : S84} (h : Anew Y s) (hk : s.f1 = 1 ∨ s.f1 = 2) : isNew Y s.f0 = true:=isNew_iff (h hk).1 (h hk).2
abbrev effY (Y : Yd) (s : S84) : Option Eff:=effP s (roomP Y s.f3) (roomP Y s.f4) Y.pours (pitP Y s.f3) (pitP Y s.f4)
theorem set_self_ {α : Type} {l : List α} {i : Nat} {d : α} (h : i < l.length) : l.set i (l.getD i d) = l:=by
 rw [List.getD_eq_getElem?_getD,List.getElem?_eq_getElem h]
 exact List.set_getElem_self h
theorem eff_of_step {n : Nat} {Y Y1 : Yd} (h : Wf n Y) {s : S84} {i : Int} (hf : Formed Y.rooms.length s) (hs : stepP Y s i = .ok Y1) : Anew Y s ∧ ∃ e,effY Y s = some e ∧ Y1 = apP Y s i e:=by
 have hp:=hf.pit
 have hpl:=h.plen
 unfold stepP at hs
 unfold effY effP apP Anew
 by_cases k1 : s.f1 = 1
 ·rw [if_pos k1] at hs
  unfold pourP at hs
  split at hs
  ·rename_i c1
   split at hs
   ·rename_i c2
    injection hs with hs
    refine ⟨fun _ => isNew_of c1,_,by rw [if_pos k1,if_pos c2],?_⟩
    rw [← hs]
    simp [k1]
   ·cases hs
  ·cases hs
 rw [if_neg k1] at hs
 by_cases k2 : s.f1 = 2
 ·rw [if_pos k2] at hs
  unfold takeP at hs
  split at hs
  ·rename_i c1
   split at hs
   ·rename_i c2
    split at hs
    ·rename_i a b hA
     split at hs
     ·rename_i ps hS
      injection hs with hs
      refine ⟨fun _ => isNew_of c1,_,by rw [if_neg k1,if_pos k2,if_pos c2,hA,Option.bind_some,hS,Option.map_some],?_⟩
      rw [← hs]
      simp [k2]
     ·cases hs
    ·cases hs
   ·cases hs
  ·cases hs
 rw [if_neg k2] at hs
 refine ⟨fun c => by omega,?_⟩
 by_cases k3 : s.f1 = 3
 ·rw [if_pos k3] at hs
  unfold turnP at hs
  split at hs
  ·rename_i c1
   split at hs
   ·rename_i ps hS
    injection hs with hs
    refine ⟨_,by rw [if_neg k1,if_neg k2,if_pos k3,if_pos c1,hS,Option.map_some],?_⟩
    rw [← hs]
    simp [k3,setPit]
   ·cases hs
  ·rename_i c1
   injection hs with hs
   refine ⟨_,by rw [if_neg k1,if_neg k2,if_pos k3,if_neg c1],?_⟩
   rw [← hs]
   have e:=set_self_ (l:=Y.pits) (i:=s.f3.toNat) (d:=[]) (by omega)
   unfold pitP
   rw [e]
   simp [k3]
 rw [if_neg k3] at hs
 by_cases k4 : s.f1 = 4
 ·rw [if_pos k4] at hs
  have ht:=hf.dest k4
  unfold moveP at hs
  split at hs
  ·rename_i c1
   split at hs
   ·rename_i c2
    split at hs
    ·rename_i a b hA
     injection hs with hs
     have e1 : (Y.pits.set s.f3.toNat b).getD s.f4.toNat [] = pitP Y s.f4:=by
      rw [getD_set_ _ _ _ _ _ (by omega),if_neg (by omega)];rfl
     rw [e1] at hs
     refine ⟨_,by rw [if_neg k1,if_neg k2,if_neg k3,if_pos k4,if_pos c1,if_pos c2,hA,Option.map_some],?_⟩
     rw [← hs]
     simp [k4]
    ·cases hs
   ·cases hs
  ·cases hs
 rw [if_neg k4] at hs
 unfold spillP at hs
 split at hs
 ·rename_i c1
  split at hs
  ·rename_i a b hA
   injection hs with hs
   refine ⟨_,by rw [if_neg k1,if_neg k2,if_neg k3,if_neg k4,if_pos c1,hA,Option.map_some],?_⟩
   rw [← hs]
   simp [k1,k2,k4]
  ·cases hs
 ·cases hs
theorem step_of_eff {n : Nat} {Y : Yd} (h : Wf n Y) {s : S84} {i : Int} (hf : Formed Y.rooms.length s) (ha : Anew Y s) {e : Eff} (he : effY Y s = some e) : stepP Y s i = .ok (apP Y s i e):=by
 have hp:=hf.pit
 have hpl:=h.plen
 unfold effY effP at he
 unfold stepP apP
 by_cases k1 : s.f1 = 1
 ·rw [if_pos k1] at he ⊢
  unfold pourP
  rw [if_pos (ha.new (.inl k1))]
  split at he
  ·rename_i c2
   rw [if_pos c2]
   injection he with he
   subst he
   simp [k1]
  ·cases he
 rw [if_neg k1] at he ⊢
 by_cases k2 : s.f1 = 2
 ·rw [if_pos k2] at he ⊢
  unfold takeP
  rw [if_pos (ha.new (.inr k2))]
  split at he
  ·rename_i c2
   rw [if_pos c2]
   obtain ⟨⟨a,b⟩,hA,he⟩:=Option.bind_eq_some_iff.1 he
   obtain ⟨ps,hS,rfl⟩:=Option.map_eq_some_iff.1 he
   rw [hA]
   simp only at hS ⊢
   rw [hS]
   simp [k2]
  ·cases he
 rw [if_neg k2] at he ⊢
 by_cases k3 : s.f1 = 3
 ·rw [if_pos k3] at he ⊢
  unfold turnP
  split at he
  ·rename_i c1
   rw [if_pos c1]
   obtain ⟨ps,hS,rfl⟩:=Option.map_eq_some_iff.1 he
   rw [hS]
   simp [k3,setPit]
  ·rename_i c1
   rw [if_neg c1]
   injection he with he
   subst he
   have e:=set_self_ (l:=Y.pits) (i:=s.f3.toNat) (d:=[]) (by omega)
   unfold pitP
   simp only [e]
   simp [k3]
 rw [if_neg k3] at he ⊢
 by_cases k4 : s.f1 = 4
 ·rw [if_pos k4] at he ⊢
  have ht:=hf.dest k4
  unfold moveP
  split at he
  ·rename_i c1
   rw [if_pos c1]
   split at he
   ·rename_i c2
    rw [if_pos c2]
    obtain ⟨⟨a,b⟩,hA,rfl⟩:=Option.map_eq_some_iff.1 he
    rw [hA]
    have e1 : (Y.pits.set s.f3.toNat b).getD s.f4.toNat [] = pitP Y s.f4:=by
     rw [getD_set_ _ _ _ _ _ (by omega),if_neg (by omega)];rfl
    simp only [e1]
    simp [k4]
   ·cases he
  ·cases he
 rw [if_neg k4] at he ⊢
 unfold spillP
 split at he
 ·rename_i c1
  rw [if_pos c1]
  obtain ⟨⟨a,b⟩,hA,rfl⟩:=Option.map_eq_some_iff.1 he
  rw [hA]
  simp [k1,k2,k4]
 ·cases he
theorem eff_same {s : S84} {r1 r2 : Int} {pours pours' : List Int} (hn : pours.Nodup) (hp : pours.Perm pours') {a a' b b' : List S212} (h1 : a.map NP = a'.map NP) (h2 : b.map NP = b'.map NP) {e : Eff} (he : effP s r1 r2 pours a b = some e) :
  ∃ e',effP s r1 r2 pours' a' b' = some e' ∧ e.here.map NP = e'.here.map NP ∧ e.there.map NP = e'.there.map NP ∧ ∀ id,filt id e.parts = filt id e'.parts:=by
 unfold effP at he ⊢
 rw [← held_np h1,← held_np h2]
 by_cases k1 : s.f1 = 1
 ·rw [if_pos k1] at he ⊢
  split at he
  ·rename_i c2
   rw [if_pos c2]
   injection he with he
   subst he
   exact ⟨⟨a' ++ [⟨s.f5,[⟨s.f0,wholeP s.f5⟩]⟩],[],[],[]⟩,rfl,by rw [List.map_append,List.map_append,h1],rfl,fun _ => rfl⟩
  ·cases he
 rw [if_neg k1] at he ⊢
 by_cases k2 : s.f1 = 2
 ·rw [if_pos k2] at he ⊢
  split at he
  ·rename_i c2
   rw [if_pos c2]
   obtain ⟨⟨u,v⟩,hA,he⟩:=Option.bind_eq_some_iff.1 he
   obtain ⟨ps,hS,rfl⟩:=Option.map_eq_some_iff.1 he
   obtain ⟨u',v',q1,q2,q3⟩:=ahead_same h1 hA
   obtain ⟨ps',q4,q5⟩:=summed_same hn hp q2 hS
   exact ⟨⟨v',[],ps',[]⟩,by rw [q1,Option.bind_some,q4,Option.map_some],q3,rfl,q5⟩
  ·cases he
 rw [if_neg k2] at he ⊢
 by_cases k3 : s.f1 = 3
 ·rw [if_pos k3] at he ⊢
  split at he
  ·rename_i c1
   rw [if_pos c1]
   obtain ⟨ps,hS,rfl⟩:=Option.map_eq_some_iff.1 he
   obtain ⟨ps',q4,q5⟩:=summed_same hn hp h1 hS
   refine ⟨⟨[⟨heldP a,ps'⟩],[],[],[]⟩,by rw [q4,Option.map_some],?_,rfl,fun _ => rfl⟩
   show [NP ⟨heldP a,ps⟩] = [NP ⟨heldP a,ps'⟩]
   rw [show NP ⟨heldP a,ps⟩ = NP ⟨heldP a,ps'⟩ from np_iff.2 ⟨rfl,q5⟩]
  ·rename_i c1
   rw [if_neg c1]
   injection he with he
   subst he
   exact ⟨⟨a',[],[],[]⟩,rfl,h1,rfl,fun _ => rfl⟩
 rw [if_neg k3] at he ⊢
 by_cases k4 : s.f1 = 4
 ·rw [if_pos k4] at he ⊢
  split at he
  ·rename_i c1
   rw [if_pos c1]
   split at he
   ·rename_i c2
    rw [if_pos c2]
    obtain ⟨⟨u,v⟩,hA,rfl⟩:=Option.map_eq_some_iff.1 he
    obtain ⟨u',v',q1,q2,q3⟩:=ahead_same h1 hA
    exact ⟨⟨v',b' ++ u',[],[]⟩,by rw [q1,Option.map_some],q3,by rw [List.map_append,List.map_append,h2,q2],fun _ => rfl⟩
   ·cases he
  ·cases he
 rw [if_neg k4] at he ⊢
 split at he
 ·rename_i c1
  rw [if_pos c1]
  obtain ⟨⟨u,v⟩,hA,rfl⟩:=Option.map_eq_some_iff.1 he
  obtain ⟨u',v',q1,q2,q3⟩:=ahead_same h1 hA
  exact ⟨⟨v',[],[],u'⟩,by rw [q1,Option.map_some],q3,rfl,fun _ => rfl⟩
 ·cases he
structure Sim (Y Z : Yd) : Prop where
 rooms : Z.rooms = Y.rooms
 pits : Y.pits.map (List.map NP) = Z.pits.map (List.map NP)
 pours : Y.pours.Perm Z.pours
 barrows : (Y.barrows.map NB).Perm (Z.barrows.map NB)
theorem Sim.pit {Y Z : Yd} (h : Sim Y Z) (i : Int) : (pitP Y i).map NP = (pitP Z i).map NP:=by
 have e : ∀ l : List (List S212),(l.getD i.toNat []).map NP = (l.map (List.map NP)).getD i.toNat []:=fun l => by
  rw [List.getD_eq_getElem?_getD,List.getD_eq_getElem?_getD,List.getElem?_map]
  cases l[i.toNat]? <;> rfl
 unfold pitP
 rw [e,e,h.pits]
theorem Sim.anew {Y Z : Yd} (h : Sim Y Z) {s : S84} (ha : Anew Y s) : Anew Z s:=fun hk => by
 obtain ⟨h1,h2⟩:=ha hk
 refine ⟨fun c => h1 (h.pours.mem_iff.2 c),fun b hb e => ?_⟩
 obtain ⟨b',hb',eb⟩:=List.mem_map.1 (h.barrows.mem_iff.2 (List.mem_map_of_mem hb))
 exact h2 b' hb' ((congrArg Prod.fst eb).trans e)
theorem Sim.ap {Y Z : Yd} (h : Sim Y Z) {s : S84} {i j : Int} {e e' : Eff} (h1 : e.here.map NP = e'.here.map NP) (h2 : e.there.map NP = e'.there.map NP) (h3 : ∀ id,filt id e.parts = filt id e'.parts) : Sim (apP Y s i e) (apP Z s j e'):=by
 unfold apP
 refine ⟨h.rooms,?_,h.pours.append_right _,?_⟩
 ·simp only
  split
  ·rw [List.map_set,List.map_set,List.map_set,List.map_set,h.pits,h1,h2]
  ·rw [List.map_set,List.map_set,h.pits,h1]
 ·simp only
  rw [List.map_append,List.map_append]
  split
  ·rw [show List.map NB [⟨s.f0,i,s.f5,e.parts⟩] = List.map NB [⟨s.f0,j,s.f5,e'.parts⟩] from congrArg (fun x => [x]) (Prod.ext rfl (funext h3))]
   exact h.barrows.append_right _
  ·exact h.barrows.append_right _
theorem Sim.step {n m : Nat} {Y Z Y1 : Yd} (h : Sim Y Z) (hY : Wf n Y) (hZ : Wf m Z) {s : S84} {i j : Int} (hf : Formed Y.rooms.length s) (hs : stepP Y s i = .ok Y1) : ∃ Z1,stepP Z s j = .ok Z1 ∧ Sim Y1 Z1:=by
 obtain ⟨ha,e,he,rfl⟩:=eff_of_step hY hf hs
 have hr : ∀ k,roomP Z k = roomP Y k:=fun k => by unfold roomP;rw [h.rooms]
 obtain ⟨e',k1,k2,k3,k4⟩:=eff_same hY.pours h.pours (h.pit s.f3) (h.pit s.f4) he
 refine ⟨_,step_of_eff hZ (by rw [h.rooms];exact hf) (h.anew ha) (e:=e') (by unfold effY;rw [hr,hr];exact k1),h.ap k2 k3 k4⟩
theorem Sim.go : ∀ (l : List S84) (n m : Nat) (Y Z Y' : Yd) (day i j : Int),Sim Y Z → Wf n Y → Wf m Z → 0 ≤ day → i = n → j = m → n + l.length ≤ 60 → m + l.length ≤ 60 → goP Y day i l = .ok Y' → ∃ Z',goP Z day j l = .ok Z' ∧ Sim Y' Z'
|[],n,m,Y,Z,Y',day,i,j,h,_,_,_,_,_,_,_,hg => by
  simp only [goP] at hg ⊢
  injection hg with hg
  subst hg
  exact ⟨Z,rfl,h⟩
|s :: r,n,m,Y,Z,Y',day,i,j,h,hY,hZ,hd,ei,ej,hn,hm,hg => by
  simp only [goP] at hg ⊢
  simp only [List.length_cons] at hn hm
  rw [h.rooms]
  split at hg
  ·rename_i c
   obtain ⟨hf,_⟩:=formed_of hd c
   rw [if_pos c]
   subst ei ej
   cases hs : stepP Y s (n : Int) with
  |error e => rw [hs] at hg;cases hg
  |ok Y1 =>
    rw [hs] at hg
    simp only at hg
    obtain ⟨Z1,k1,k2⟩:=h.step hY hZ (j:=(m : Int)) hf hs
    rw [k1]
    exact Sim.go r (n + 1) (m + 1) Y1 Z1 Y' s.f2 _ _ k2 (step_ok hY (by omega) hf hs).1 (step_ok hZ (by omega) (by rw [h.rooms];exact hf) k1).1 hf.day.1 (by omega) (by omega) (by omega) (by omega) hg
  ·cases hg
theorem summed_more {pours : List Int} {l : List S212} (hl : ∀ p ∈ l,ParcelOk pours p) {m : List Int} (hm : ∀ id ∈ m,id ∉ pours) : summedP (pours ++ m) l = summedP pours l:=by
 unfold summedP
 cases hM : sumAll (fun _ => none) (partsP l) with
|none => rfl
|some M =>
  obtain ⟨h1,_⟩:=parts_ok hl
  obtain ⟨_,_,k3⟩:=sumAll_spec pours (partsP l) _ M (fun id r hr => by cases hr) h1 hM
  rw [Option.map_some,Option.map_some]
  have e : outOf M m = []:=by
   have hz : ∀ id ∈ m,M id = none:=fun id hid => by
    cases hc : M id with
   |none => rfl
   |some r =>
     rcases (k3 id).1 (by rw [hc];rfl) with c|⟨x,hx,e⟩
     ·cases c
     ·exact absurd (e ▸ (h1 x hx).2.2) (hm id hid)
   clear hM k3
   induction m with
  |nil => rfl
  |cons id r ih =>
    simp only [outOf]
    rw [hz id List.mem_cons_self]
    exact ih (fun j hj => hm j (List.mem_cons_of_mem _ hj)) fun j hj => hz j (List.mem_cons_of_mem _ hj)
  have ha : ∀ a b : List Int,outOf M (a ++ b) = outOf M a ++ outOf M b:=fun a b => by
   induction a with
  |nil => rfl
  |cons x r ih =>
    rw [List.cons_append]
    simp only [outOf]
    rw [ih]
    cases M x <;> rfl
  rw [ha,e,List.append_nil]
theorem eff_more {s : S84} {r1 r2 r2' : Int} {pours m : List Int} {a b b' : List S212} (ha : ∀ p ∈ a,ParcelOk pours p) (h5 : s.f1 ≠ 3 → 0 ≤ s.f5) (hm : ∀ id ∈ m,id ∉ pours) (hb : s.f1 = 4 → r2 = r2' ∧ b = b') : effP s r1 r2 (pours ++ m) a b = effP s r1 r2' pours a b':=by
 unfold effP
 by_cases k1 : s.f1 = 1
 ·rw [if_pos k1,if_pos k1]
 rw [if_neg k1,if_neg k1]
 by_cases k2 : s.f1 = 2
 ·rw [if_pos k2,if_pos k2]
  split
  ·rename_i c
   cases hA : aheadP a s.f5 with
  |none => rfl
  |some x =>
    obtain ⟨a1,_⟩:=aheadP_spec pours _ _ ha (h5 (by omega)) c x.1 x.2 hA
    rw [Option.bind_some,Option.bind_some,summed_more a1 hm]
  ·rfl
 rw [if_neg k2,if_neg k2]
 by_cases k3 : s.f1 = 3
 ·rw [if_pos k3,if_pos k3,summed_more ha hm]
 rw [if_neg k3,if_neg k3]
 by_cases k4 : s.f1 = 4
 ·obtain ⟨rfl,rfl⟩:=hb k4
  rfl
 ·rw [if_neg k4,if_neg k4]
def Far (x y : S84) : Prop:=x.f3 ≠ y.f3 ∧ (x.f1 = 4 → x.f4 ≠ y.f3) ∧ (y.f1 = 4 → x.f3 ≠ y.f4) ∧ (x.f1 = 4 → y.f1 = 4 → x.f4 ≠ y.f4)
theorem Far.symm {x y : S84} (h : Far x y) : Far y x:=⟨fun e => h.1 e.symm,fun k e => h.2.2.1 k e.symm,fun k e => h.2.1 k e.symm,fun k j e => h.2.2.2 j k e.symm⟩
def dayed (s : S84) (d : Int) : S84:={ s with f2:=d }
theorem ap_pit {n : Nat} {Y : Yd} (h : Wf n Y) {x : S84} (hx : Formed Y.rooms.length x) {i : Int} {e : Eff} {k : Int} (hk : 0 ≤ k) (h1 : x.f3 ≠ k) (h2 : x.f1 = 4 → x.f4 ≠ k) : pitP (apP Y x i e) k = pitP Y k:=by
 have hp:=hx.pit
 have hl:=h.plen
 unfold pitP apP
 simp only
 split
 ·rename_i c
  have hd:=hx.dest c
  have:=h2 c
  rw [getD_set_ _ _ _ _ _ (by rw [List.length_set];omega),if_neg (by omega),getD_set_ _ _ _ _ _ (by omega),if_neg (by omega)]
 ·rw [getD_set_ _ _ _ _ _ (by omega),if_neg (by omega)]
theorem eff_far {n : Nat} {Y : Yd} (h : Wf n Y) {x y : S84} (hx : Formed Y.rooms.length x) (hy : Formed Y.rooms.length y) (hap : Far x y) (hax : Anew Y x) {i : Int} {e : Eff} : effY (apP Y x i e) y = effY Y y:=by
 unfold effY
 rw [ap_pit h hx hy.pit.1 hap.1 hap.2.1]
 refine eff_more (h.pitOk hy.pit.1 hy.pit.2).1 (fun k => by have:=hy.amount k;omega) ?_ ?_
 ·intro id hid
  split at hid
  ·rename_i c
   rw [List.mem_singleton.1 hid]
   exact (hax (.inl c)).1
  ·simp at hid
 ·intro k
  exact ⟨rfl,ap_pit h hx (hy.dest k).1 (hap.2.2.1 k) fun c => hap.2.2.2 c k⟩
theorem step_swap {n : Nat} {Y Y1 Y2 : Yd} (h : Wf n Y) (hn : n < 60) {x y : S84} (hx : Formed Y.rooms.length x) (hy : Formed Y.rooms.length y) (hap : Far x y) {i : Int} (h1 : stepP Y x (n : Int) = .ok Y1) (h2 : stepP Y1 y i = .ok Y2) (d e : Int) (hd : 0 ≤ d ∧ d ≤ 682) (he : 0 ≤ e ∧ e ≤ 682) : ∃ Z1 Z2,stepP Y (dayed y d) (n : Int) = .ok Z1 ∧ stepP Z1 (dayed x e) i = .ok Z2 ∧ Sim Y2 Z2:=by
 obtain ⟨w1,r1⟩:=step_ok h hn hx h1
 obtain ⟨ax,e1,he1,hY1⟩:=eff_of_step h hx h1
 obtain ⟨ay,e2,he2,hY2⟩:=eff_of_step w1 (by rw [r1];exact hy) h2
 have hx' : Formed Y.rooms.length (dayed x e):=⟨he,hx.pit,hx.id,hx.amount,hx.dest,hx.kind⟩
 have hy' : Formed Y.rooms.length (dayed y d):=⟨hd,hy.pit,hy.id,hy.amount,hy.dest,hy.kind⟩
 subst hY1
 rw [eff_far h hx hy hap ax] at he2
 have ay0 : Anew Y (dayed y d):=fun k => by
  obtain ⟨u,v⟩:=ay k
  exact ⟨fun c => u (List.mem_append_left _ c),fun b hb => v b (List.mem_append_left _ hb)⟩
 have hZ1:=step_of_eff h hy' ay0 (i:=(n : Int)) (show effY Y (dayed y d) = some e2 from he2)
 obtain ⟨w2,r2⟩:=step_ok h hn hy' hZ1
 have ax1 : Anew (apP Y (dayed y d) (n : Int) e2) (dayed x e):=fun k => by
  obtain ⟨u,v⟩:=ax k
  refine ⟨fun c => ?_,fun b hb => ?_⟩
  ·rcases List.mem_append.1 c with c|c
   ·exact u c
   ·split at c
    ·rename_i ky
     have e0 : x.f0 = y.f0:=List.mem_singleton.1 c
     obtain ⟨u2,v2⟩:=ay (.inl ky)
     rcases k with k|k
     ·exact u2 (List.mem_append_right _ (by rw [if_pos (show x.f1 = 1 from k)];simp [e0]))
     ·exact v2 _ (List.mem_append_right _ (by rw [if_pos (show x.f1 = 2 from k)];exact List.mem_singleton.2 rfl)) e0
    ·simp at c
  ·rcases List.mem_append.1 hb with hb|hb
   ·exact v b hb
   ·split at hb
    ·rename_i ky
     rw [List.mem_singleton.1 hb]
     intro e0
     have e0 : y.f0 = x.f0:=e0
     obtain ⟨u2,v2⟩:=ay (.inr ky)
     rcases k with k|k
     ·exact u2 (List.mem_append_right _ (by rw [if_pos (show x.f1 = 1 from k)];simp [e0]))
     ·exact v2 _ (List.mem_append_right _ (by rw [if_pos (show x.f1 = 2 from k)];exact List.mem_singleton.2 rfl)) e0.symm
    ·simp at hb
 have hex : effY (apP Y (dayed y d) (n : Int) e2) (dayed x e) = some e1:=by
  rw [eff_far h hy' hx' (show Far (dayed y d) (dayed x e) from hap.symm) ay0]
  exact he1
 refine ⟨_,_,hZ1,step_of_eff w2 (by rw [r2];exact hx') ax1 (i:=i) hex,?_⟩
 subst hY2
 have hpx:=hx.pit
 have hpy:=hy.pit
 have hne : x.f3.toNat ≠ y.f3.toNat:=by have:=hap.1;omega
 refine ⟨rfl,congrArg _ ?_,?_,?_⟩
 ·unfold apP dayed
  simp only
  by_cases cx : x.f1 = 4
  ·have hdx:=hx.dest cx
   have n1 : x.f4.toNat ≠ y.f3.toNat:=by have:=hap.2.1 cx;omega
   by_cases cy : y.f1 = 4
   ·have hdy:=hy.dest cy
    have n2 : x.f3.toNat ≠ y.f4.toNat:=by have:=hap.2.2.1 cy;omega
    have n3 : x.f4.toNat ≠ y.f4.toNat:=by have:=hap.2.2.2 cx cy;omega
    rw [if_pos cx,if_pos cy,if_pos cx,if_pos cy,List.set_comm _ _ n1,List.set_comm _ _ hne,List.set_comm _ _ n3,List.set_comm _ _ n2]
   ·rw [if_pos cx,if_neg cy,if_pos cx,if_neg cy,List.set_comm _ _ n1,List.set_comm _ _ hne]
  ·by_cases cy : y.f1 = 4
   ·have hdy:=hy.dest cy
    have n2 : x.f3.toNat ≠ y.f4.toNat:=by have:=hap.2.2.1 cy;omega
    rw [if_neg cx,if_pos cy,if_neg cx,if_pos cy,List.set_comm _ _ hne,List.set_comm _ _ n2]
   ·rw [if_neg cx,if_neg cy,if_neg cx,if_neg cy,List.set_comm _ _ hne]
 ·unfold apP dayed
  simp only
  rw [List.append_assoc,List.append_assoc]
  exact List.perm_append_comm.append_left _
 ·unfold apP dayed
  simp only
  rw [List.map_append,List.map_append,List.map_append,List.map_append,List.append_assoc,List.append_assoc]
  have ei : ∀ (s : S84) (i j : Int) (ps : List S89),(if s.f1 = 2 then [(⟨s.f0,i,s.f5,ps⟩ : S167)] else []).map NB = (if s.f1 = 2 then [(⟨s.f0,j,s.f5,ps⟩ : S167)] else []).map NB:=fun s i j ps => by split <;> rfl
  rw [ei x _ i,ei y _ (n : Int)]
  exact List.perm_append_comm.append_left _
theorem Sim.alike {n : Nat} {Y Z : Yd} (h : Sim Y Z) (hZ : Wf n Z) : alikeP Y Z = true:=by
 unfold alikeP
 rw [Bool.and_eq_true]
 constructor
 ·rw [List.all_eq_true]
  intro b hb
  obtain ⟨z,hz,e⟩:=List.mem_map.1 (h.barrows.mem_iff.1 (List.mem_map_of_mem hb))
  have e1 : z.f0 = b.f0:=congrArg Prod.fst e
  unfold alikeOne
  rw [← e1,find_self hZ.bnodup z hz]
  exact filt_same fun id => (congrFun (congrArg Prod.snd e) id).symm
 ·have h2 : ∀ {a b : List S212},a.map NP = b.map NP → eqAll eqPar a b = true:=by
   intro a
   induction a with
  |nil => intro b hb;cases b with
   |nil => rfl
   |cons => simp at hb
  |cons p a ih => intro b hb;cases b with
   |nil => simp at hb
   |cons q b =>
     rw [List.map_cons,List.map_cons] at hb
     injection hb with k1 k2
     obtain ⟨k3,k4⟩:=np_iff.1 k1
     simp only [eqAll,eqPar]
     rw [decide_eq_true k3,filt_same k4,ih k2]
     rfl
  have h3:=h.pits
  generalize Y.pits = a at h3
  generalize Z.pits = b at h3
  induction a generalizing b with
 |nil => cases b with
  |nil => rfl
  |cons => simp at h3
 |cons p a ih => cases b with
  |nil => simp at h3
  |cons q b =>
    rw [List.map_cons,List.map_cons] at h3
    injection h3 with k1 k2
    simp only [eqAll]
    rw [h2 k1,ih b k2]
    rfl
theorem formed_day {rooms : Int} {s : S84} {day : Int} (h : formedP rooms s day = true) {d d' : Int} (h1 : d' ≤ d) (h2 : d ≤ 682) : formedP rooms (dayed s d) d' = true:=by
 unfold formedP dayed at *
 unfold inP at *
 simp only [Bool.and_eq_true,decide_eq_true_eq] at h ⊢
 exact ⟨⟨⟨h1,h2⟩,h.1.2⟩,h.2⟩
theorem swapP_app (p r : List S84) (x y : S84) : rd_T84 (p ++ x :: y :: r) (p.length : Int) = x ∧ rd_T84 (p ++ x :: y :: r) ((p.length + 1 : Nat) : Int) = y ∧ swapP (p ++ x :: y :: r) p.length = p ++ dayed y x.f2 :: dayed x y.f2 :: r:=by
 have h0 : rd_T84 (p ++ x :: y :: r) (p.length : Int) = x:=by rw [rd84_get (by simp)];simp
 have h1 : rd_T84 (p ++ x :: y :: r) ((p.length + 1 : Nat) : Int) = y:=by rw [rd84_get (by simp)];simp
 refine ⟨h0,h1,?_⟩
 unfold swapP
 rw [h0,h1,List.set_append_right _ _ (Nat.le_refl _),Nat.sub_self,List.set_cons_zero,List.set_append_right _ _ (Nat.le_succ _),show p.length + 1 - p.length = 1 by omega,List.set_cons_succ,List.set_cons_zero]
 rfl
theorem swapP_at {l : List S84} {k : Nat} (h : k + 1 < l.length) : ∃ x y,l = l.take k ++ x :: y :: l.drop (k + 2) ∧ rd_T84 l (k : Int) = x ∧ rd_T84 l ((k + 1 : Nat) : Int) = y ∧ swapP l k = l.take k ++ dayed y x.f2 :: dayed x y.f2 :: l.drop (k + 2):=by
 have e1 : l.drop k = l[k] :: l[k + 1] :: l.drop (k + 2):=by
  rw [List.drop_eq_getElem_cons (by omega),List.drop_eq_getElem_cons h]
 have e0 : l = l.take k ++ l[k] :: l[k + 1] :: l.drop (k + 2):=by rw [← e1,List.take_append_drop]
 have hl : (l.take k).length = k:=by rw [List.length_take];omega
 obtain ⟨h0,h1,h2⟩:=swapP_app (l.take k) (l.drop (k + 2)) l[k] l[k + 1]
 rw [← e0,hl] at h0 h1 h2
 exact ⟨_,_,e0,h0,h1,h2⟩
theorem played_swap {rooms : List Int} {stirs : List S84} {Y : Yd} (hp : playedP rooms stirs stirs.length = .ok Y) {k : Nat} (hk : k + 1 < stirs.length) (hap : Far (rd_T84 stirs (k : Int)) (rd_T84 stirs ((k + 1 : Nat) : Int))) : ∃ Z,playedP rooms (swapP stirs k) (swapP stirs k).length = .ok Z ∧ alikeP Y Z = true:=by
 obtain ⟨hr,hl,hw,hR⟩:=played_ok hp
 obtain ⟨x,y,e0,ex,ey,e1⟩:=swapP_at hk
 rw [ex,ey] at hap
 have hlen : (stirs.take k).length = k:=by rw [List.length_take];omega
 have hdl : (stirs.drop (k + 2)).length = stirs.length - (k + 2):=List.length_drop
 have hsl:=swapP_length stirs k
 unfold playedP at hp ⊢
 rw [hsl,if_pos hr,if_pos hl]
 rw [if_pos hr,if_pos hl] at hp
 rw [show (swapP stirs k).take stirs.length = swapP stirs k by rw [← hsl,List.take_length],e1]
 rw [List.take_length,e0,go_append] at hp
 rw [go_append]
 cases hg : goP (emptyP rooms) 0 0 (stirs.take k) with
|error c => rw [hg] at hp;cases hp
|ok Y0 =>
  rw [hg] at hp
  simp only at hp ⊢
  obtain ⟨w0,r0⟩:=go_ok (stirs.take k) 0 _ Y0 0 (empty_ok hr) (Int.le_refl _) (by omega) hg
  have hday:=(go_info (stirs.take k) _ Y0 0 0 (Int.le_refl _) (by omega) hg).1
  rw [hlen] at hp ⊢ w0
  rw [Nat.zero_add] at w0
  rw [show (0 : Int) + (k : Int) = (k : Int) by omega] at hp ⊢
  generalize lastD 0 (stirs.take k) = day at *
  simp only [goP] at hp ⊢
  split at hp
  ·rename_i c1
   obtain ⟨fx,dx⟩:=formed_of hday.1 c1
   cases h1 : stepP Y0 x (k : Int) with
  |error c => rw [h1] at hp;cases hp
  |ok Y1 =>
    rw [h1] at hp
    simp only at hp
    obtain ⟨w1,r1⟩:=step_ok w0 (by omega) fx h1
    split at hp
    ·rename_i c2
     obtain ⟨fy,dy⟩:=formed_of fx.day.1 c2
     rw [r1] at fy c2
     cases h2 : stepP Y1 y ((k : Int) + 1) with
    |error c => rw [h2] at hp;cases hp
    |ok Y2 =>
      rw [h2] at hp
      simp only at hp
      obtain ⟨Z1,Z2,z1,z2,hS⟩:=step_swap w0 (by omega) fx fy hap h1 h2 x.f2 y.f2 fx.day fy.day
      have gx : Formed Y0.rooms.length (dayed x y.f2):=⟨fy.day,fx.pit,fx.id,fx.amount,fx.dest,fx.kind⟩
      have gy : Formed Y0.rooms.length (dayed y x.f2):=⟨fx.day,fy.pit,fy.id,fy.amount,fy.dest,fy.kind⟩
      obtain ⟨v1,t1⟩:=step_ok w0 (by omega) gy z1
      obtain ⟨v2,t2⟩:=step_ok (Y':=Z2) v1 (by omega) (by rw [t1];exact gx) (by rw [← z2];congr 1)
      obtain ⟨u2,s2⟩:=step_ok (Y':=Y2) w1 (by omega) (by rw [r1];exact fy) (by rw [← h2];congr 1)
      rw [if_pos (formed_day c2 dx fx.day.2),z1]
      simp only
      rw [t1,show (dayed y x.f2).f2 = x.f2 from rfl,if_pos (formed_day c1 dy fy.day.2),z2]
      simp only
      obtain ⟨Z,k1,k2⟩:=hS.go (stirs.drop (k + 2)) (k + 1 + 1) (k + 1 + 1) Y2 Z2 Y y.f2 _ ((k : Int) + 1 + 1) u2 v2 fy.day.1 (by omega) (by omega) (by omega) (by omega) hp
      refine ⟨Z,k1,?_⟩
      obtain ⟨v3,_⟩:=go_ok (stirs.drop (k + 2)) (k + 1 + 1) Z2 Z y.f2 v2 fy.day.1 (by omega) (by rw [← k1];congr 1)
      exact k2.alike v3
    ·cases hp
  ·cases hp
def pit_Cut.f (l0_0 : List Int) (l0_1 : List S84) (a1 : Int) : Option (List Int × List S84 × Int):=some (cutE l0_0 l0_1 a1)
theorem pit_Cut.calls (A0_0 : Option Addr) (c0_0 : Nat) (l0_0 : List Int) (A0_1 : Option Addr) (c0_1 : Nat) (l0_1 : List S84) (a1 : Int) (r1 : List Int) (r2 : List S84) (r3 : Int) (w : World) (hr0_0 : Kd.C (Kd.int .i64) w A0_0 l0_0.length l0_0) (hc0_0 : l0_0.length ≤ c0_0) (hr0_1 : Kd.C k84 w A0_1 l0_1.length l0_1) (hc0_1 : l0_1.length ≤ c0_1) (h : pit_Cut.f l0_0 l0_1 a1 = some (r1,r2,r3)) :
  Calls Tryz.prog 42 #[.agg #[.slice A0_0 l0_0.length c0_0,.slice A0_1 l0_1.length c0_1],ii a1] w fun e w' => ∃ v1_ v2_ : Value,e = .returned (.tuple #[.agg #[v1_,v2_],ii r3]) ∧ Kd.V (Kd.int .i64) 3 w' w.heap.size (fun k_ => w.heap.size ≤ k_) v1_ r1 ∧ Kd.V k84 84 w' w.heap.size (fun k_ => w.heap.size ≤ k_) v2_ r2 ∧ Below w.heap.size w w':=by
 have h':=Option.some.inj h
 have hh:=cut_calls A0_0 A0_1 c0_0 c0_1 l0_0 l0_1 w w.heap.size (Nat.le_refl _) (C_lo hr0_0) hc0_0 hr0_1 hc0_1 a1
 rw [h'] at hh
 refine hh.mono ?_
 rintro e w' ⟨hb,A5,A6,c5,c6,he,hl5,hl6,hF5,hF6⟩
 exact ⟨_,_,he,Kd.V_mk hl5 hF5,Kd.V_mk hl6 hF6,hb⟩
theorem inP_of {n lo hi : Int} (h : lo ≤ n ∧ n ≤ hi) : inP n lo hi = true:=decide_eq_true h
theorem sameInts_self (l : List Int) (hl : l.length ≤ 100000) : ∀ (d i k : Nat),i + d = l.length → d < k → calxref04_SameInts.l0 k l l (i : Int) = some true
|d,i,0,_,hk => by omega
|0,i,k + 1,h,_ => by
  simp only [calxref04_SameInts.l0]
  rw [if_neg (by omega)]
|d + 1,i,k + 1,h,hk => by
  simp only [calxref04_SameInts.l0]
  rw [if_pos (by omega),if_pos (by omega),if_pos (by omega),if_true,wrap_in (n:=(i : Int) + 1) (by omega) (by omega),show (i : Int) + 1 = ((i + 1 : Nat) : Int) by omega]
  exact sameInts_self l hl d (i + 1) k (by omega) (by omega)
theorem samePits_self (r : List Int) (l : List S84) (hl : l.length ≤ 100000) : ∀ (d i k : Nat),i + d = l.length → d < k → calxref04_SamePits.l0 k (i : Int) r l r l = some true
|d,i,0,_,hk => by omega
|0,i,k + 1,h,_ => by
  simp only [calxref04_SamePits.l0]
  rw [if_neg (by omega)]
|d + 1,i,k + 1,h,hk => by
  simp only [calxref04_SamePits.l0]
  rw [if_pos (by omega),if_pos (by omega),if_pos (by omega),if_neg (by simp),wrap_in (n:=(i : Int) + 1) (by omega) (by omega),show (i : Int) + 1 = ((i + 1 : Nat) : Int) by omega]
  exact samePits_self r l hl d (i + 1) k (by omega) (by omega)
theorem samePits_at (r : List Int) (l : List S84) (hr : r.length ≤ 100000) (hl : l.length ≤ 100000) {k : Nat} (h1 : r.length < k) (h2 : l.length + 1 < k) : calxref04_SamePits.f k r l r l = some true:=by
 unfold calxref04_SamePits.f calxref04_SameInts.f
 rw [if_pos rfl,show (0 : Int) = ((0 : Nat) : Int) from rfl,sameInts_self r hr r.length 0 k (by omega) h1]
 simp only [Option.bind_some,if_true]
 obtain ⟨k',rfl⟩ : ∃ k',k = k' + 1:=⟨k - 1,by omega⟩
 simp only [calxref04_SamePits.j0]
 rw [if_neg (by simp),show (0 : Int) = ((0 : Nat) : Int) from rfl,samePits_self r l hl l.length 0 k' (by omega) (by omega)]
theorem sameParts_self (l : List S89) (hl : l.length ≤ 100000) : ∀ (d i k : Nat),i + d = l.length → d < k → calxref04_SameParts.l0 k l l (i : Int) = some true
|d,i,0,_,hk => by omega
|0,i,k + 1,h,_ => by
  simp only [calxref04_SameParts.l0]
  rw [if_neg (by omega)]
|d + 1,i,k + 1,h,hk => by
  simp only [calxref04_SameParts.l0]
  rw [if_pos (by omega),if_pos (by omega),if_pos (by omega),if_neg (by simp),wrap_in (n:=(i : Int) + 1) (by omega) (by omega),show (i : Int) + 1 = ((i + 1 : Nat) : Int) by omega]
  exact sameParts_self l hl d (i + 1) k (by omega) (by omega)
theorem sameParcels_self (l : List S212) (hl : l.length ≤ 100000) (hx : ∀ x ∈ l,x.f1.length ≤ 100) : ∀ (d i k : Nat),i + d = l.length → d + 200 < k → calxref04_SameParcels.l0 k l l (i : Int) = some true
|d,i,0,_,hk => by omega
|0,i,k + 1,h,_ => by
  simp only [calxref04_SameParcels.l0]
  rw [if_neg (by omega)]
|d + 1,i,k + 1,h,hk => by
  simp only [calxref04_SameParcels.l0]
  have hm : rd_T212 l (i : Int) ∈ l:=by unfold rd_T212;rw [Int.toNat_natCast];exact getD_mem_ (by omega)
  have h1:=hx _ hm
  have h2 : calxref04_SameParts.f k (rd_T212 l (i : Int)).f1 (rd_T212 l (i : Int)).f1 = some true:=by
   unfold calxref04_SameParts.f
   rw [if_pos rfl,show (0 : Int) = ((0 : Nat) : Int) from rfl,sameParts_self _ (by omega) _ 0 k (Nat.zero_add _) (by omega)]
  rw [if_pos (by omega),if_pos (by omega),if_pos (by omega),h2]
  simp only [Option.bind_some,if_true]
  rw [wrap_in (n:=(i : Int) + 1) (by omega) (by omega),show (i : Int) + 1 = ((i + 1 : Nat) : Int) by omega]
  exact sameParcels_self l hl hx d (i + 1) k (by omega) (by omega)
theorem sameParcels_at (l : List S212) (hl : l.length ≤ 5000) (hx : ∀ x ∈ l,x.f1.length ≤ 100) {k : Nat} (h1 : 6000 ≤ k) : calxref04_SameParcels.f k l l = some true:=by
 unfold calxref04_SameParcels.f
 rw [if_pos rfl,show (0 : Int) = ((0 : Nat) : Int) from rfl,sameParcels_self l (by omega) hx l.length 0 k (by omega) (by omega)]
def aboutP (s : S84) : List Int:=if s.f1 = 4 then [s.f3,s.f4] else [s.f3]
theorem pits_at (s : S84) : calxlaw04_pits.f s.f0 s.f1 s.f2 s.f3 s.f4 s.f5 = some (aboutP s):=by
 unfold calxlaw04_pits.f aboutP
 split <;> rfl
theorem about_len (s : S84) : (aboutP s).length ≤ 2:=by unfold aboutP;split <;> simp
theorem far_of {x y : S84} (h : ((aboutP x).all fun a => (aboutP y).all fun b => a != b) = true) : Far x y:=by
 simp only [List.all_eq_true,bne_iff_ne] at h
 have m3 : ∀ s : S84,s.f3 ∈ aboutP s:=fun s => by unfold aboutP;split <;> simp
 have m4 : ∀ s : S84,s.f1 = 4 → s.f4 ∈ aboutP s:=fun s c => by unfold aboutP;rw [if_pos c];simp
 exact ⟨h _ (m3 x) _ (m3 y),fun c => h _ (m4 x c) _ (m3 y),fun c => h _ (m3 x) _ (m4 y c),fun c d => h _ (m4 x c) _ (m4 y d)⟩
theorem played_cut {rooms : List Int} {stirs : List S84} {Y : Yd} (hp : playedP rooms stirs stirs.length = .ok Y) {a : Nat} (ha : a ≤ stirs.length) : (stirs.take a).length = a ∧ ∃ Z,playedP rooms (stirs.take a) a = .ok Z ∧ playedP rooms stirs a = .ok Z:=by
 obtain ⟨h1,h2,_⟩:=played_ok hp
 have hl : (stirs.take a).length = a:=by rw [List.length_take];omega
 obtain ⟨Z,hZ⟩:=playedP_take ha hp
 refine ⟨hl,Z,?_,hZ⟩
 rw [← hZ]
 unfold playedP
 rw [if_pos h1,if_pos h1,if_pos h2,if_pos (by omega),List.take_take,Nat.min_self]
theorem cut_at {rooms : List Int} {stirs : List S84} {Y : Yd} (hp : playedP rooms stirs stirs.length = .ok Y) {a : Nat} (ha : a ≤ stirs.length) : pit_Cut.f rooms stirs (a : Int) = some (rooms,stirs.take a,0):=by
 unfold pit_Cut.f cutE
 rw [hp]
 simp only
 rw [if_pos (inP_of ⟨by omega,by omega⟩),Int.toNat_natCast]
theorem content_at {rooms : List Int} {stirs : List S84} {Y Z : Yd} (hp : playedP rooms stirs stirs.length = .ok Y) {a : Nat} (ha : a ≤ stirs.length) (hZ : playedP rooms stirs a = .ok Z) {i : Int} (h0 : 0 ≤ i) (h1 : i < rooms.length) : pit_Content.f rooms stirs i (a : Int) = some (pitP Z i,0):=by
 unfold pit_Content.f contentE
 rw [hp]
 simp only
 rw [if_pos (Bool.and_eq_true_iff.2 ⟨inP_of ⟨h0,by omega⟩,inP_of ⟨by omega,by omega⟩⟩),Int.toNat_natCast,hZ]
theorem mnx_nat (a b : Nat) : ∃ lo hi : Nat,mn (a : Int) (b : Int) = (lo : Int) ∧ mx (a : Int) (b : Int) = (hi : Int) ∧ lo ≤ hi ∧ lo ≤ a ∧ (hi = a ∨ hi = b):=by
 unfold mn mx
 by_cases c : (b : Int) < a
 ·exact ⟨b,a,if_pos c,if_neg (by omega),by omega,by omega,.inl rfl⟩
 ·refine ⟨a,if (a : Int) < b then b else a,if_neg c,?_,?_,by omega,?_⟩
  ·split <;> rfl
  ·split <;> omega
  ·split
   ·exact .inr rfl
   ·exact .inl rfl
theorem apart_swap {rooms : List Int} {stirs : List S84} {Y : Yd} (hp : playedP rooms stirs stirs.length = .ok Y) {n : Nat} (hn0 : 1 ≤ n) (hn : n < stirs.length) (hR : ((aboutP (rd_T84 stirs ((n : Int) - 1))).all fun a => (aboutP (rd_T84 stirs (n : Int))).all fun b => a != b) = true) : (swapE rooms stirs (n : Int)).2.2.1 = true ∧ (swapE rooms stirs (n : Int)).2.2.2 = 0:=by
 obtain ⟨j,rfl⟩ : ∃ j,n = j + 1:=⟨n - 1,by omega⟩
 rw [show ((j + 1 : Nat) : Int) - 1 = (j : Int) by omega] at hR
 obtain ⟨Z,z1,z2⟩:=played_swap hp hn (far_of hR)
 unfold swapE swapR
 rw [hp,show ((j + 1 : Nat) : Int).toNat - 1 = j by omega]
 simp only
 rw [if_pos (inP_of ⟨by omega,by omega⟩),z1]
 exact ⟨z2,rfl⟩
theorem content_two {rooms : List Int} {stirs : List S84} {Y : Yd} (hp : playedP rooms stirs stirs.length = .ok Y) {m : Nat} (hm : m ≤ stirs.length) {i : Nat} (hi : i < rooms.length) : ∃ Z,pit_Content.f rooms stirs (i : Int) (m : Int) = some (pitP Z (i : Int),0) ∧ pit_Content.f rooms (stirs.take m) (i : Int) (m : Int) = some (pitP Z (i : Int),0) ∧ (pitP Z (i : Int)).length ≤ 5000 ∧ ∀ x ∈ pitP Z (i : Int),x.f1.length ≤ 100:=by
 obtain ⟨e1,Z,z1,z2⟩:=played_cut hp hm
 obtain ⟨_,_,hw,hR⟩:=played_ok z2
 have q1 : playedP rooms (stirs.take m) (stirs.take m).length = .ok Z:=by rw [e1];exact z1
 obtain ⟨p1,p2,p3,p4⟩:=hw.pitOk (i:=(i : Int)) (by omega) (by rw [hR];omega)
 have p5:=held_ge p1
 exact ⟨Z,content_at hp hm z2 (by omega) (by omega),content_at q1 (by omega) z1 (by omega) (by omega),by omega,fun x hx => by have:=(p1 x hx).len;omega⟩
def placeL : List S84 → Int → Int → Int
|[],_,_ => 0
|s :: r,i,id => if s.f1 = 1 ∧ s.f0 = id then i + 1 else placeL r (i + 1) id
def placeP (l : List S84) (id : Int) : Int:=placeL l 0 id
def Lone (p : S212) (id : Int) : Prop:=p.f1 = [⟨id,wholeP p.f0⟩]
abbrev Seq (all : List S84) (l : List S212) : Prop:=l.Pairwise (fun p q => ∀ a b,Lone p a → Lone q b → placeP all a ≤ placeP all b)
structure Calm (all : List S84) (i : Nat) (moved : Bool) (Y : Yd) (last : Int → Int) : Prop where
 lone : ∀ l ∈ Y.pits,∀ p ∈ l,∃ id,Lone p id ∧ id ∈ Y.pours
 seen : ∀ id ∈ Y.pours,placeP all id ≤ i
 sorted : moved = false → ∀ l ∈ Y.pits,Seq all l
 low : moved = false → ∀ k : Nat,∀ p ∈ Y.pits.getD k [],∀ id,Lone p id → last k ≤ placeP all id
 lasti : moved = false → ∀ k,last k ≤ i
theorem Calm.pit {all : List S84} {i : Nat} {moved : Bool} {Y : Yd} {last : Int → Int} {n : Nat} (h : Calm all i moved Y last) (hw : Wf n Y) {k : Int} (h0 : 0 ≤ k) (h1 : k < Y.rooms.length) :
  (∀ p ∈ pitP Y k,1 ≤ p.f0 ∧ ∃ id,Lone p id) ∧ (∀ p ∈ pitP Y k,∃ id,Lone p id ∧ id ∈ Y.pours) ∧ (moved = false → Seq all (pitP Y k)) ∧ (moved = false → ∀ p ∈ pitP Y k,∀ id,Lone p id → last k ≤ placeP all id):=by
 obtain ⟨p1,p2,p3,p4⟩:=hw.pitOk h0 h1
 refine ⟨fun p hp => ⟨(p1 p hp).lo,?_⟩,h.lone _ p4,fun hm => h.sorted hm _ p4,fun hm p hp id hid => ?_⟩
 ·obtain ⟨id,hid,_⟩:=h.lone _ p4 p hp;exact ⟨id,hid⟩
 ·have:=h.low hm k.toNat p hp id hid
  rwa [Int.toNat_of_nonneg h0] at this
def R6_29.T : Bool × List (List Nat × List Nat):=(true,[([],[]),([],[]),([1],[1]),([],[]),([],[]),([],[]),([5],[5]),([6],[6]),([4,7],[4,7]),([8],[8]),([9],[9]),([3,10],[3,10]),([0,2,11,11,0,1,2,3,4,5,6,7,8,9,10,11],[0,2,11])])
def R6_29.B : List Nat:=[0,0,2,0,0,0,32,96,240,496,1008,2040,4095]
theorem R6_29.tab : rtab .any (opsOf Tryz.f6 29) = R6_29.T:=by kernel_rfl
theorem R6_29.bits : waitsOk R6_29.T.2 R6_29.B = true:=by kernel_rfl
end Go.Proofs.YtjjfpmapjjemcaaGreat.B
end
