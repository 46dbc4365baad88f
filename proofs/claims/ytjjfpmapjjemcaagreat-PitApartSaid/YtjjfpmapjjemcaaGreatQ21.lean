import Derived.Test.YtjjfpmapjjemcaaGreatQ17
import Derived.Test.YtjjfpmapjjemcaaGreatQ7
set_option linter.unusedVariables false
set_option linter.unusedSimpArgs false
section
namespace Go.Proofs.YtjjfpmapjjemcaaGreat.B
open Go.RowKit Go.Proofs.YtjjfpmapjjemcaaGreatW.PrintWords Go.Proofs.YtjjfpmapjjemcaaGreatW.PrintLast Go.Proofs.YtjjfpmapjjemcaaGreatW.PrintMore
attribute [local go_sem] max2_int min2_int max_two min_two max_three min_three max_four min_four
def valM (M : ByPour) (id : Int) : Rat:=match M id with
|some r => val r
|none => 0
def MOk (M : ByPour) : Prop:=∀ id r,M id = some r → fineP r = true ∧ 1 ≤ r.f0
theorem putBy_same (M : ByPour) (i : Int) (r : S43) : putBy M i r i = some r:=if_pos rfl
theorem putBy_other (M : ByPour) {i k : Int} (r : S43) (h : k ≠ i) : putBy M i r k = M k:=if_neg h
theorem valM_put (M : ByPour) (i : Int) (r : S43) (k : Int) : valM (putBy M i r) k = if i = k then val r else valM M k:=by
 unfold valM
 by_cases h : i = k
 ·subst h;rw [putBy_same,if_pos rfl]
 ·rw [putBy_other M r (Ne.symm h),if_neg h]
theorem getD_ok {M : ByPour} (hM : MOk M) (id : Int) : Rok ((M id).getD (wholeP 0)) ∧ val ((M id).getD (wholeP 0)) = valM M id:=by
 unfold valM
 cases h : M id with
|none => exact ⟨wholeP_ok (Int.le_refl _),by simp [val_wholeP]⟩
|some r => exact ⟨(fineP_of (hM id r h).1).1,rfl⟩
theorem sumAll_spec (pours : List Int) : ∀ (l : List S89) (M M' : ByPour),MOk M → (∀ x ∈ l,PartOk pours x) → sumAll M l = some M' →
  MOk M' ∧ (∀ id,valM M' id = valM M id + sumOf id l) ∧ ∀ id,((M' id).isSome = true ↔ ((M id).isSome = true ∨ ∃ x ∈ l,x.f0 = id))
|[],M,M',hM,_,h => by
  simp only [sumAll,Option.some.injEq] at h
  subst h
  exact ⟨hM,fun id => by simp [sumOf];grind,fun id => by simp⟩
|x :: l,M,M',hM,hl,h => by
  simp only [sumAll] at h
  by_cases hf : fineP (addP ((M x.f0).getD (wholeP 0)) x.f1) = true
  ·rw [if_pos hf] at h
   have hx:=hl x List.mem_cons_self
   obtain ⟨g1,g2⟩:=getD_ok hM x.f0
   have hv:=val_addP g1 hx.ok
   rw [g2] at hv
   have hok:=addP_ok g1 hx.ok
   have hpos : 1 ≤ (addP ((M x.f0).getD (wholeP 0)) x.f1).f0:=by
    refine (val_pos hok).1 ?_
    rw [hv]
    have p1:=(val_pos hx.ok).2 hx.2.1
    have p2:=val_nonneg g1
    rw [g2] at p2
    grind
   generalize addP ((M x.f0).getD (wholeP 0)) x.f1 = z at *
   have hM1 : MOk (putBy M x.f0 z):=fun id r hr => by
    by_cases e : id = x.f0
    ·subst e;rw [putBy_same] at hr;injection hr with hr;subst hr;exact ⟨hf,hpos⟩
    ·rw [putBy_other M z e] at hr;exact hM id r hr
   obtain ⟨k1,k2,k3⟩:=sumAll_spec pours l _ M' hM1 (fun y hy => hl y (List.mem_cons_of_mem _ hy)) h
   refine ⟨k1,fun id => ?_,fun id => ?_⟩
   ·rw [k2,valM_put]
    simp only [sumOf]
    split
    ·rename_i e;subst e;rw [hv];grind
    ·grind
   ·rw [k3]
    by_cases e : id = x.f0
    ·subst e;simp [putBy_same]
    ·rw [putBy_other M z e];simp [Ne.symm e]
  ·rw [if_neg hf] at h
   cases h
def sumPours (f : Int → Rat) : List Int → Rat
|[] => 0
|id :: r => f id + sumPours f r
theorem sumPours_congr {f g : Int → Rat} : ∀ {l : List Int},(∀ id ∈ l,f id = g id) → sumPours f l = sumPours g l
|[],_ => rfl
|id :: r,h => by simp only [sumPours];rw [h id List.mem_cons_self,sumPours_congr fun i hi => h i (List.mem_cons_of_mem _ hi)]
theorem sumPours_add (f g : Int → Rat) : ∀ l : List Int,sumPours (fun i => f i + g i) l = sumPours f l + sumPours g l
|[] => by simp [sumPours];grind
|id :: r => by simp only [sumPours,sumPours_add f g r];grind
theorem sumPours_zero : ∀ l : List Int,sumPours (fun _ => 0) l = 0
|[] => rfl
|id :: r => by simp only [sumPours,sumPours_zero r];grind
theorem sumPours_one (v : Rat) (x : Int) : ∀ l : List Int,l.Nodup → sumPours (fun id => if x = id then v else 0) l = if x ∈ l then v else 0
|[],_ => by simp [sumPours]
|id :: r,h => by
  obtain ⟨h1,h2⟩:=List.nodup_cons.1 h
  simp only [sumPours,sumPours_one v x r h2]
  by_cases e : x = id
  ·subst e;simp [h1];grind
  ·simp [e];grind
theorem sumPours_all {pours : List Int} (hn : pours.Nodup) : ∀ l : List S89,(∀ x ∈ l,x.f0 ∈ pours) → sumPours (fun id => sumOf id l) pours = sumV l
|[],_ => by simp only [sumOf,sumV];exact sumPours_zero _
|x :: l,h => by
  simp only [sumOf,sumV]
  rw [sumPours_add,sumPours_one _ _ _ hn,if_pos (h x List.mem_cons_self),sumPours_all hn l fun y hy => h y (List.mem_cons_of_mem _ hy)]
theorem outOf_length (M : ByPour) : ∀ l,(outOf M l).length ≤ l.length
|[] => by simp [outOf]
|id :: r => by simp only [outOf];have:=outOf_length M r;split <;> simp <;> omega
theorem outOf_mem (M : ByPour) : ∀ (l : List Int) (x : S89),x ∈ outOf M l → M x.f0 = some x.f1 ∧ x.f0 ∈ l
|[],x,h => by simp [outOf] at h
|id :: r,x,h => by
  simp only [outOf] at h
  split at h
  ·rename_i n hn
   rcases List.mem_cons.1 h with rfl|h
   ·exact ⟨hn,List.mem_cons_self⟩
   ·have:=outOf_mem M r x h;exact ⟨this.1,List.mem_cons_of_mem _ this.2⟩
  ·have:=outOf_mem M r x h;exact ⟨this.1,List.mem_cons_of_mem _ this.2⟩
theorem outOf_ids (M : ByPour) : ∀ l : List Int,((outOf M l).map (·.f0)).Sublist l
|[] => by simp [outOf]
|id :: r => by
  simp only [outOf]
  split
  ·exact (outOf_ids M r).cons_cons _
  ·exact (outOf_ids M r).cons _
theorem outOf_sumV (M : ByPour) : ∀ l : List Int,sumV (outOf M l) = sumPours (valM M) l
|[] => by simp [outOf,sumV,sumPours]
|id :: r => by
  simp only [outOf,sumPours]
  cases h : M id with
 |some n => simp only [sumV,outOf_sumV M r,show valM M id = val n by unfold valM;rw [h]]
 |none => simp only [outOf_sumV M r,show valM M id = 0 by unfold valM;rw [h]];grind
theorem outOf_sumOf (M : ByPour) (i : Int) : ∀ l : List Int,l.Nodup → sumOf i (outOf M l) = if i ∈ l then valM M i else 0
|[],_ => by simp [outOf,sumOf]
|id :: r,hn => by
  obtain ⟨h1,h2⟩:=List.nodup_cons.1 hn
  have ih:=outOf_sumOf M i r h2
  simp only [outOf]
  by_cases e : id = i
  ·subst e
   rw [if_neg h1] at ih
   rw [if_pos List.mem_cons_self]
   cases h : M id with
  |some n => simp only [sumOf,if_true,ih,show valM M id = val n by unfold valM;rw [h]];grind
  |none => simp only [ih,show valM M id = 0 by unfold valM;rw [h]]
  ·have e2 : (i ∈ id :: r) ↔ i ∈ r:=by simp [Ne.symm e]
   cases h : M id with
  |some n => simp only [sumOf,if_neg e,ih,e2];grind
  |none => simp only [ih,e2]
theorem parts_ok {pours : List Int} {l : List S212} (h : ∀ p ∈ l,ParcelOk pours p) : (∀ x ∈ partsP l,PartOk pours x) ∧ sumV (partsP l) = (heldP l : Rat):=by
 induction l with
|nil => exact ⟨by simp [partsP],by simp [partsP,sumV,heldP]⟩
|cons p r ih =>
  have hp:=h p List.mem_cons_self
  obtain ⟨h1,h2⟩:=ih fun q hq => h q (List.mem_cons_of_mem _ hq)
  refine ⟨fun x hx => ?_,?_⟩
  ·rcases List.mem_append.1 (show x ∈ p.f1 ++ partsP r from hx) with hx|hx
   ·exact hp.parts x hx
   ·exact h1 x hx
  ·rw [partsP,sumV_append,hp.all,h2,heldP,Rat.intCast_add]
theorem summedP_ok {pours : List Int} (hn : pours.Nodup) {l : List S212} (hl : ∀ p ∈ l,ParcelOk pours p) {ps : List S89} (h : summedP pours l = some ps) :
  (∀ x ∈ ps,PartOk pours x) ∧ ps.length ≤ pours.length ∧ sumV ps = (heldP l : Rat) ∧ (ps.map (·.f0)).Sublist pours ∧ ∀ id,sumOf id ps = ofP id l:=by
 unfold summedP at h
 obtain ⟨M,hM,rfl⟩:=Option.map_eq_some_iff.1 h
 obtain ⟨h1,h2⟩:=parts_ok hl
 obtain ⟨k1,k2,k3⟩:=sumAll_spec pours (partsP l) _ M (fun id r hr => by cases hr) h1 hM
 have kv : ∀ id,valM M id = sumOf id (partsP l):=fun id => by rw [k2,show valM (fun _ => none) id = 0 from rfl];grind
 have hz : ∀ id,id ∉ pours → sumOf id (partsP l) = 0:=by
  intro id hid
  generalize partsP l = q at h1
  induction q with
 |nil => rfl
 |cons x r ih =>
   have hx:=h1 x List.mem_cons_self
   simp only [sumOf]
   rw [if_neg (fun e => hid (by rw [← e];exact hx.2.2)),ih fun y hy => h1 y (List.mem_cons_of_mem _ hy)]
   grind
 refine ⟨fun x hx => ?_,outOf_length M pours,?_,outOf_ids M pours,fun id => ?_⟩
 ·obtain ⟨e1,e2⟩:=outOf_mem M pours x hx
  exact ⟨(k1 _ _ e1).1,(k1 _ _ e1).2,e2⟩
 ·rw [outOf_sumV,sumPours_congr (g:=fun id => sumOf id (partsP l)) fun id _ => kv id,sumPours_all hn _ fun x hx => (h1 x hx).2.2,h2]
 ·rw [outOf_sumOf M id pours hn]
  by_cases hid : id ∈ pours
  ·rw [if_pos hid,kv];rfl
  ·rw [if_neg hid];exact (hz id hid).symm
structure BarrowOk (n : Nat) (pours : List Int) (b : S167) : Prop where
 lo : 1 ≤ b.f2
 hi : b.f2 ≤ 1000
 step0 : 0 ≤ b.f1
 step1 : b.f1 < n
 id0 : 1 ≤ b.f0
 id1 : b.f0 ≤ 1099511627776
 ids : (b.f3.map (·.f0)).Sublist pours
 par : ParcelOk pours ⟨b.f2,b.f3⟩
structure Wf (n : Nat) (Y : Yd) : Prop where
 r1 : 1 ≤ Y.rooms.length
 r6 : Y.rooms.length ≤ 6
 rooms : ∀ r ∈ Y.rooms,1 ≤ r ∧ r ≤ 4096
 plen : Y.pits.length = Y.rooms.length
 parcels : ∀ l ∈ Y.pits,∀ p ∈ l,ParcelOk Y.pours p
 held : ∀ i,i < Y.rooms.length → heldP (Y.pits.getD i []) ≤ Y.rooms.getD i 0
 pours : Y.pours.Nodup
 pid : ∀ i ∈ Y.pours,1 ≤ i ∧ i ≤ 1099511627776
 npours : Y.pours.length ≤ n
 days : Y.days.length = Y.pours.length
 dayok : ∀ d ∈ Y.days,0 ≤ d ∧ d ≤ 682
 nbarrows : Y.barrows.length ≤ n
 barrows : ∀ b ∈ Y.barrows,BarrowOk n Y.pours b
 bnodup : (Y.barrows.map (·.f0)).Nodup
 apart : ∀ b ∈ Y.barrows,b.f0 ∉ Y.pours
 nlost : Y.lost.length ≤ 1000 * n
 lost : ∀ p ∈ Y.lost,ParcelOk Y.pours p
theorem PartOk.mono {pours pours' : List Int} (hs : ∀ x ∈ pours,x ∈ pours') {x : S89} (h : PartOk pours x) : PartOk pours' x:=⟨h.1,h.2.1,hs _ h.2.2⟩
theorem ParcelOk.mono {pours pours' : List Int} (hs : ∀ x ∈ pours,x ∈ pours') {p : S212} (h : ParcelOk pours p) : ParcelOk pours' p :=
 ⟨h.lo,h.hi,h.len,fun x hx => (h.parts x hx).mono hs,h.all⟩
theorem getD_mem_ {α : Type} {l : List α} {i : Nat} {d : α} (h : i < l.length) : l.getD i d ∈ l:=by
 rw [List.getD_eq_getElem?_getD,List.getElem?_eq_getElem h];exact List.getElem_mem h
theorem getD_set_ {α : Type} (l : List α) (i t : Nat) (x d : α) (hi : i < l.length) : (l.set i x).getD t d = if t = i then x else l.getD t d:=by
 simp only [List.getD_eq_getElem?_getD,List.getElem?_set]
 by_cases h : t = i
 ·subst h;simp [hi]
 ·rw [if_neg (fun e => h e.symm),if_neg h]
structure Formed (rooms : Nat) (s : S84) : Prop where
 day : 0 ≤ s.f2 ∧ s.f2 ≤ 682
 pit : 0 ≤ s.f3 ∧ s.f3 < rooms
 id : s.f1 = 1 ∨ s.f1 = 2 → 1 ≤ s.f0 ∧ s.f0 ≤ 1099511627776
 amount : s.f1 ≠ 3 → 1 ≤ s.f5 ∧ s.f5 ≤ 1000
 dest : s.f1 = 4 → 0 ≤ s.f4 ∧ s.f4 < rooms ∧ s.f4 ≠ s.f3
 kind : 1 ≤ s.f1 ∧ s.f1 ≤ 5
theorem formed_of {rooms : Nat} {s : S84} {day : Int} (hd : 0 ≤ day) (h : formedP rooms s day = true) : Formed rooms s ∧ day ≤ s.f2:=by
 unfold formedP inP at h
 simp only [Bool.and_eq_true,decide_eq_true_eq] at h
 obtain ⟨⟨h1,h2⟩,h3⟩:=h
 by_cases c1 : s.f1 = 1 ∨ s.f1 = 2
 ·rw [if_pos c1] at h3
  simp only [Bool.and_eq_true,decide_eq_true_eq] at h3
  exact ⟨⟨by omega,by omega,fun _ => h3.1.1,fun _ => h3.1.2,fun e => by omega,by omega⟩,h1.1⟩
 ·rw [if_neg c1] at h3
  by_cases c3 : s.f1 = 3
  ·exact ⟨⟨by omega,by omega,fun e => absurd e c1,fun e => absurd c3 e,fun e => by omega,by omega⟩,h1.1⟩
  ·rw [if_neg c3] at h3
   by_cases c4 : s.f1 = 4
   ·rw [if_pos c4] at h3
    simp only [Bool.and_eq_true,decide_eq_true_eq] at h3
    exact ⟨⟨by omega,by omega,fun e => absurd e c1,fun _ => h3.1.1.2,fun _ => by omega,by omega⟩,h1.1⟩
   ·rw [if_neg c4] at h3
    by_cases c5 : s.f1 = 5
    ·rw [if_pos c5] at h3
     simp only [Bool.and_eq_true,decide_eq_true_eq] at h3
     exact ⟨⟨by omega,by omega,fun e => absurd e c1,fun _ => h3.1.2,fun e => absurd e c4,by omega⟩,h1.1⟩
    ·rw [if_neg c5] at h3;cases h3
end Go.Proofs.YtjjfpmapjjemcaaGreat.B
end
