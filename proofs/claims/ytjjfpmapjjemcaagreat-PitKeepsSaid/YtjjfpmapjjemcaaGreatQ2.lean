import Derived.WalkKit
import Derived.Below
import Derived.ProofKit
import Derived.OpenShut
import Derived.ChangeOld
import Derived.Deep.Slices
import Derived.Carry
import Derived.Outline
import Derived.IntWalk
import Derived.WalkLawsBesides
import Derived.Maps.OwnOps
import Derived.Maps.RangeWalk
import Derived.WideKeyEntry
import Derived.OwnWalkIn
import Derived.TacticsInMore
import Derived.LoopNIn
import Derived.LoopIn
import Derived.RangeFuncNested
import Derived.RangeFuncBound
import Derived.RangeFuncCalls
import Derived.RangeFuncLeaves
import Derived.RangeFuncBox
import Derived.Shelf.Abstract
import Derived.Test.YtjjfpmapjjemcaaGreatQ1
set_option linter.unusedVariables false
set_option linter.unusedSimpArgs false
section
namespace Go.Proofs.YtjjfpmapjjemcaaGreat.B
open Go.RowKit Go.Proofs.YtjjfpmapjjemcaaGreatW.PrintWords Go.Proofs.YtjjfpmapjjemcaaGreatW.PrintLast Go.Proofs.YtjjfpmapjjemcaaGreatW.PrintMore
attribute [local go_sem] max2_int min2_int max_two min_two max_three min_three max_four min_four
def val (r : S43) : Rat:=(r.f0 : Rat) / (r.f1 : Rat)
theorem cast_ne {n : Int} (h : 1 ≤ n) : (n : Rat) ≠ 0:=by
 intro e
 have : n = 0:=by exact_mod_cast e
 omega
theorem cast_pos {n : Int} (h : 1 ≤ n) : (0 : Rat) < (n : Rat):=by exact_mod_cast (show (0 : Int) < n by omega)
theorem div_eq_of {a b c d : Rat} (hb : b ≠ 0) (hd : d ≠ 0) (h : a * d = c * b) : a / b = c / d:=by grind
theorem mul_of_div_eq {a b c d : Rat} (hb : b ≠ 0) (hd : d ≠ 0) (h : a / b = c / d) : a * d = c * b:=by grind
theorem val_ratioP {n d : Int} (hn : 0 ≤ n) (hd : 1 ≤ d) : val (ratioP n d) = (n : Rat) / (d : Rat):=by
 have h1:=ratioP_ok hn hd
 have h2:=ratioP_cross hn hd
 unfold val
 refine div_eq_of (cast_ne h1.2.1) (cast_ne hd) ?_
 exact_mod_cast h2
theorem val_mul {r : S43} (h : Rok r) : val r * (r.f1 : Rat) = (r.f0 : Rat):=by
 have:=cast_ne h.2.1
 unfold val
 grind
theorem val_addP {a b : S43} (ha : Rok a) (hb : Rok b) : val (addP a b) = val a + val b:=by
 unfold addP
 rw [val_ratioP (Int.add_nonneg (mul_nonneg_ ha.1 (by have:=hb.2.1;omega)) (mul_nonneg_ hb.1 (by have:=ha.2.1;omega))) (mul_pos_ ha.2.1 hb.2.1)]
 have h1:=cast_ne ha.2.1
 have h2:=cast_ne hb.2.1
 unfold val
 simp only [Rat.intCast_add,Rat.intCast_mul]
 grind
theorem val_timesP {a : S43} {n m : Int} (ha : Rok a) (hn : 0 ≤ n) (hm : 1 ≤ m) : val (timesP a n m) = val a * (n : Rat) / (m : Rat):=by
 unfold timesP
 rw [val_ratioP (mul_nonneg_ ha.1 hn) (mul_pos_ ha.2.1 hm)]
 have h1:=cast_ne ha.2.1
 have h2:=cast_ne hm
 unfold val
 simp only [Rat.intCast_mul]
 grind
theorem val_wholeP (n : Int) : val (wholeP n) = (n : Rat):=by
 unfold val wholeP
 simp only
 grind
theorem val_inj {a b : S43} (ha : Rok a) (hb : Rok b) (h : val a = val b) : a = b:=by
 refine ha.uniq hb ?_
 have:=mul_of_div_eq (cast_ne ha.2.1) (cast_ne hb.2.1) h
 exact_mod_cast this
theorem val_le {a b : S43} (ha : Rok a) (hb : Rok b) : val a ≤ val b ↔ a.f0 * b.f1 ≤ b.f0 * a.f1:=by
 have p1:=cast_pos ha.2.1
 have p2:=cast_pos hb.2.1
 have e1:=val_mul ha
 have e2:=val_mul hb
 have k : ((a.f0 * b.f1 : Int) : Rat) ≤ ((b.f0 * a.f1 : Int) : Rat) ↔ a.f0 * b.f1 ≤ b.f0 * a.f1:=by norm_cast
 rw [← k]
 simp only [Rat.intCast_mul]
 rw [← e1,← e2]
 have q:=Rat.mul_pos p1 p2
 constructor
 ·intro h
  have:=Rat.mul_le_mul_of_nonneg_right h (Rat.le_of_lt q)
  grind
 ·intro h
  refine Rat.not_lt.mp fun hlt => ?_
  have:=Rat.mul_lt_mul_of_pos_right hlt q
  grind
theorem val_nonneg {a : S43} (ha : Rok a) : 0 ≤ val a:=by
 have:=(val_le (a:=wholeP 0) (b:=a) (wholeP_ok (Int.le_refl 0)) ha).2 (by show 0 * a.f1 ≤ a.f0 * 1;have:=ha.1;omega)
 rw [val_wholeP] at this
 simpa using this
theorem val_le_int {a : S43} {n : Int} (ha : Rok a) (hn : 0 ≤ n) : val a ≤ (n : Rat) ↔ a.f0 ≤ n * a.f1:=by
 have:=val_le ha (wholeP_ok hn)
 rw [val_wholeP] at this
 rw [this]
 show a.f0 * 1 ≤ n * a.f1 ↔ _
 rw [Int.mul_one]
theorem val_pos {a : S43} (ha : Rok a) : 0 < val a ↔ 1 ≤ a.f0:=by
 have h:=val_le_int (n:=0) ha (Int.le_refl 0)
 have:=ha.1
 constructor
 ·intro hp
  refine Int.not_lt.mp fun hlt => ?_
  have:=h.2 (by omega)
  simp at this
  grind
 ·intro hp
  refine Rat.not_le.mp fun hle => ?_
  have:=h.1 (by simpa using hle)
  omega
def sumV : List S89 → Rat
|[] => 0
|x :: r => val x.f1 + sumV r
def sumOf (id : Int) : List S89 → Rat
|[] => 0
|x :: r => (if x.f0 = id then val x.f1 else 0) + sumOf id r
def PartOk (pours : List Int) (x : S89) : Prop:=fineP x.f1 = true ∧ 1 ≤ x.f1.f0 ∧ x.f0 ∈ pours
theorem PartOk.ok {pours : List Int} {x : S89} (h : PartOk pours x) : Rok x.f1:=by
 have:=h.1
 unfold fineP at this
 exact (validP_ok (Bool.and_eq_true_iff.1 this).1).1
theorem fineP_of {r : S43} (h : fineP r = true) : Rok r ∧ r.f0 ≤ 68719476736 ∧ r.f1 ≤ 16384:=by
 unfold fineP at h
 obtain ⟨h1,h2⟩:=Bool.and_eq_true_iff.1 h
 obtain ⟨h3,h4,_⟩:=validP_ok h1
 exact ⟨h3,h4,of_decide_eq_true h2⟩
structure ParcelOk (pours : List Int) (p : S212) : Prop where
 lo : 1 ≤ p.f0
 hi : p.f0 ≤ 4096
 len : p.f1.length ≤ 60
 parts : ∀ x ∈ p.f1,PartOk pours x
 all : sumV p.f1 = (p.f0 : Rat)
theorem sumV_append (a b : List S89) : sumV (a ++ b) = sumV a + sumV b:=by
 induction a with
|nil => simp [sumV];grind
|cons x r ih => simp only [List.cons_append,sumV,ih];grind
theorem sumOf_append (id : Int) (a b : List S89) : sumOf id (a ++ b) = sumOf id a + sumOf id b:=by
 induction a with
|nil => simp [sumOf];grind
|cons x r ih => simp only [List.cons_append,sumOf,ih];grind
theorem sumV_nonneg {l : List S89} (h : ∀ x ∈ l,Rok x.f1) : 0 ≤ sumV l:=by
 induction l with
|nil => simp [sumV]
|cons x r ih =>
  have h1:=val_nonneg (h x List.mem_cons_self)
  have h2:=ih fun y hy => h y (List.mem_cons_of_mem _ hy)
  simp only [sumV]
  grind
theorem val_le_sumV {l : List S89} (h : ∀ x ∈ l,Rok x.f1) {x : S89} (hx : x ∈ l) : val x.f1 ≤ sumV l:=by
 induction l with
|nil => simp at hx
|cons y r ih =>
  have h2:=sumV_nonneg fun y hy => h y (List.mem_cons_of_mem _ hy)
  have h1:=val_nonneg (h y List.mem_cons_self)
  simp only [sumV]
  rcases List.mem_cons.1 hx with rfl|hx
  ·grind
  ·have:=ih (fun y hy => h y (List.mem_cons_of_mem _ hy)) hx
   grind
theorem ParcelOk.part_le {pours : List Int} {p : S212} (h : ParcelOk pours p) {x : S89} (hx : x ∈ p.f1) : x.f1.f0 ≤ p.f0 * x.f1.f1:=by
 have h1:=val_le_sumV (fun y hy => (h.parts y hy).ok) hx
 rw [h.all] at h1
 exact (val_le_int (h.parts x hx).ok (by have:=h.lo;omega)).1 h1
theorem divParts_spec (pours : List Int) (n m : Int) (hn : 1 ≤ n) (hm : 1 ≤ m) : ∀ (l r : List S89),(∀ x ∈ l,PartOk pours x) → divParts l n m = some r →
  r.length = l.length ∧ (∀ x ∈ r,PartOk pours x) ∧ sumV r = sumV l * (n : Rat) / (m : Rat) ∧ ∀ id,sumOf id r = sumOf id l * (n : Rat) / (m : Rat)
|[],r,_,h => by
  simp only [divParts,Option.some.injEq] at h
  subst h
  refine ⟨rfl,by simp,?_,fun id => ?_⟩ <;> simp [sumV,sumOf] <;> grind
|x :: l,r,hl,h => by
  simp only [divParts] at h
  by_cases hf : fineP (timesP x.f1 n m) = true
  ·rw [if_pos hf] at h
   obtain ⟨r',hr',rfl⟩:=Option.map_eq_some_iff.1 h
   obtain ⟨h1,h2,h3,h4⟩:=divParts_spec pours n m hn hm l r' (fun y hy => hl y (List.mem_cons_of_mem _ hy)) hr'
   have hx:=hl x List.mem_cons_self
   have hok:=hx.ok
   have hv:=val_timesP hok (show 0 ≤ n by omega) hm
   refine ⟨by simp [h1],fun y hy => ?_,?_,fun id => ?_⟩
   ·rcases List.mem_cons.1 hy with rfl|hy
    ·refine ⟨hf,?_,hx.2.2⟩
     refine (val_pos (timesP_ok hok (by omega) hm)).1 ?_
     rw [hv]
     have p1:=(val_pos hok).2 hx.2.1
     have p2:=cast_pos hn
     have p3:=cast_pos hm
     rw [Rat.div_def]
     exact Rat.mul_pos (Rat.mul_pos p1 p2) (Rat.inv_pos.2 p3)
    ·exact h2 y hy
   ·simp only [sumV,h3,hv]
    have:=cast_ne hm
    grind
   ·simp only [sumOf,h4]
    have:=cast_ne hm
    split <;> grind
  ·rw [if_neg hf] at h
   cases h
theorem dividedP_ok {pours : List Int} {p q : S212} (hp : ParcelOk pours p) {n : Int} (h1 : 1 ≤ n) (h2 : n ≤ p.f0) (h : dividedP p n = some q) :
  ParcelOk pours q ∧ q.f0 = n ∧ ∀ id,sumOf id q.f1 = sumOf id p.f1 * (n : Rat) / (p.f0 : Rat):=by
 unfold dividedP at h
 obtain ⟨r,hr,rfl⟩:=Option.map_eq_some_iff.1 h
 obtain ⟨e1,e2,e3,e4⟩:=divParts_spec pours n p.f0 h1 hp.lo p.f1 r hp.parts hr
 refine ⟨⟨h1,by have:=hp.hi;show n ≤ 4096;omega,by show r.length ≤ 60;rw [e1];exact hp.len,e2,?_⟩,rfl,e4⟩
 show sumV r = (n : Rat)
 rw [e3,hp.all]
 have:=cast_ne hp.lo
 grind
theorem heldP_append (a b : List S212) : heldP (a ++ b) = heldP a + heldP b:=by
 induction a with
|nil => simp [heldP]
|cons x r ih => simp only [List.cons_append,heldP,ih];omega
theorem heldP_nonneg {l : List S212} (h : ∀ p ∈ l,1 ≤ p.f0) : (l.length : Int) ≤ heldP l:=by
 induction l with
|nil => simp [heldP]
|cons x r ih =>
  have h1:=h x List.mem_cons_self
  have h2:=ih fun y hy => h y (List.mem_cons_of_mem _ hy)
  simp only [heldP,List.length_cons]
  omega
def ofP (id : Int) (l : List S212) : Rat:=sumOf id (partsP l)
theorem partsP_append (a b : List S212) : partsP (a ++ b) = partsP a ++ partsP b:=by
 induction a with
|nil => rfl
|cons x r ih => simp only [List.cons_append,partsP,ih,List.append_assoc]
theorem ofP_append (id : Int) (a b : List S212) : ofP id (a ++ b) = ofP id a + ofP id b:=by
 unfold ofP
 rw [partsP_append,sumOf_append]
theorem ofP_cons (id : Int) (p : S212) (l : List S212) : ofP id (p :: l) = sumOf id p.f1 + ofP id l:=by
 unfold ofP
 rw [partsP,sumOf_append]
theorem aheadP_spec (pours : List Int) : ∀ (l : List S212) (n : Int),(∀ p ∈ l,ParcelOk pours p) → 0 ≤ n → n ≤ heldP l → ∀ a b,aheadP l n = some (a,b) →
  (∀ p ∈ a,ParcelOk pours p) ∧ (∀ p ∈ b,ParcelOk pours p) ∧ heldP a = n ∧ heldP b = heldP l - n ∧ ∀ id,ofP id a + ofP id b = ofP id l
|[],n,_,h0,h1,a,b,h => by
  simp only [aheadP,Option.some.injEq,Prod.mk.injEq] at h
  obtain ⟨rfl,rfl⟩:=h
  simp only [heldP] at h1
  refine ⟨by simp,by simp,by simp [heldP];omega,by simp [heldP];omega,fun id => by simp [ofP,partsP,sumOf];grind⟩
|p :: l,n,hl,h0,h1,a,b,h => by
  have hp:=hl p List.mem_cons_self
  have hl' : ∀ q ∈ l,ParcelOk pours q:=fun q hq => hl q (List.mem_cons_of_mem _ hq)
  simp only [heldP] at h1
  simp only [aheadP] at h
  by_cases c1 : 0 < n
  ·rw [if_pos c1] at h
   by_cases c2 : p.f0 ≤ n
   ·rw [if_pos c2] at h
    obtain ⟨⟨a',b'⟩,h',e⟩:=Option.map_eq_some_iff.1 h
    simp only [Prod.mk.injEq] at e
    obtain ⟨rfl,rfl⟩:=e
    obtain ⟨k1,k2,k3,k4,k5⟩:=aheadP_spec pours l (n - p.f0) hl' (by omega) (by omega) a' b' h'
    refine ⟨fun q hq => ?_,k2,by simp only [heldP];omega,by simp only [heldP];omega,fun id => ?_⟩
    ·rcases List.mem_cons.1 hq with rfl|hq
     ·exact hp
     ·exact k1 q hq
    ·have:=k5 id
     rw [ofP_cons,ofP_cons]
     grind
   ·rw [if_neg c2] at h
    obtain ⟨x,hx,h⟩:=Option.bind_eq_some_iff.1 h
    obtain ⟨y,hy,e⟩:=Option.map_eq_some_iff.1 h
    simp only [Prod.mk.injEq] at e
    obtain ⟨rfl,rfl⟩:=e
    obtain ⟨x1,x2,x3⟩:=dividedP_ok hp (by omega) (by omega) hx
    obtain ⟨y1,y2,y3⟩:=dividedP_ok hp (n:=p.f0 - n) (by omega) (by omega) hy
    refine ⟨fun q hq => ?_,fun q hq => ?_,by simp only [heldP];omega,by simp only [heldP];omega,fun id => ?_⟩
    ·rw [List.mem_singleton.1 hq];exact x1
    ·rcases List.mem_cons.1 hq with rfl|hq
     ·exact y1
     ·exact hl' q hq
    ·rw [ofP_cons,ofP_cons,ofP_cons,x3,y3,show ofP id [] = 0 from rfl,Rat.intCast_sub]
     have:=cast_ne hp.lo
     grind
  ·rw [if_neg c1] at h
   simp only [Option.some.injEq,Prod.mk.injEq] at h
   obtain ⟨rfl,rfl⟩:=h
   refine ⟨by simp,hl,by simp [heldP];omega,by simp only [heldP];omega,fun id => by rw [show ofP id [] = 0 from rfl];grind⟩
def valM (M : ByPour) (id : Int) : Rat:=match M id with
|some r => val r
|none => 0
def MOk (M : ByPour) : Prop:=∀ id r,M id = some r → fineP r = true ∧ 1 ≤ r.f0
theorem putBy_same (M : ByPour) (i : Int) (r : S43) : putBy M i r i = some r:=if_pos rfl
theorem putBy_other (M : ByPour) {i k : Int} (r : S43) (h : k ≠ i) : putBy M i r k = M k:=if_neg h
theorem valM_put (M : ByPour) (i : Int) (r : S43) (k : Int) : valM (putBy M i r) k = if i = k then val r else valM M k:=by
 unfold valM
 by_cases h : i = k
 ·subst h;rw [putBy_same,if_pos rfl]
 ·rw [putBy_other M r (Ne.symm h),if_neg h]
theorem getD_ok {M : ByPour} (hM : MOk M) (id : Int) : Rok ((M id).getD (wholeP 0)) ∧ val ((M id).getD (wholeP 0)) = valM M id:=by
 unfold valM
 cases h : M id with
|none => exact ⟨wholeP_ok (Int.le_refl _),by simp [val_wholeP]⟩
|some r => exact ⟨(fineP_of (hM id r h).1).1,rfl⟩
theorem sumAll_spec (pours : List Int) : ∀ (l : List S89) (M M' : ByPour),MOk M → (∀ x ∈ l,PartOk pours x) → sumAll M l = some M' →
  MOk M' ∧ (∀ id,valM M' id = valM M id + sumOf id l) ∧ ∀ id,((M' id).isSome = true ↔ ((M id).isSome = true ∨ ∃ x ∈ l,x.f0 = id))
|[],M,M',hM,_,h => by
  simp only [sumAll,Option.some.injEq] at h
  subst h
  exact ⟨hM,fun id => by simp [sumOf];grind,fun id => by simp⟩
|x :: l,M,M',hM,hl,h => by
  simp only [sumAll] at h
  by_cases hf : fineP (addP ((M x.f0).getD (wholeP 0)) x.f1) = true
  ·rw [if_pos hf] at h
   have hx:=hl x List.mem_cons_self
   obtain ⟨g1,g2⟩:=getD_ok hM x.f0
   have hv:=val_addP g1 hx.ok
   rw [g2] at hv
   have hok:=addP_ok g1 hx.ok
   have hpos : 1 ≤ (addP ((M x.f0).getD (wholeP 0)) x.f1).f0:=by
    refine (val_pos hok).1 ?_
    rw [hv]
    have p1:=(val_pos hx.ok).2 hx.2.1
    have p2:=val_nonneg g1
    rw [g2] at p2
    grind
   generalize addP ((M x.f0).getD (wholeP 0)) x.f1 = z at *
   have hM1 : MOk (putBy M x.f0 z):=fun id r hr => by
    by_cases e : id = x.f0
    ·subst e;rw [putBy_same] at hr;injection hr with hr;subst hr;exact ⟨hf,hpos⟩
    ·rw [putBy_other M z e] at hr;exact hM id r hr
   obtain ⟨k1,k2,k3⟩:=sumAll_spec pours l _ M' hM1 (fun y hy => hl y (List.mem_cons_of_mem _ hy)) h
   refine ⟨k1,fun id => ?_,fun id => ?_⟩
   ·rw [k2,valM_put]
    simp only [sumOf]
    split
    ·rename_i e;subst e;rw [hv];grind
    ·grind
   ·rw [k3]
    by_cases e : id = x.f0
    ·subst e;simp [putBy_same]
    ·rw [putBy_other M z e];simp [Ne.symm e]
  ·rw [if_neg hf] at h
   cases h
def sumPours (f : Int → Rat) : List Int → Rat
|[] => 0
|id :: r => f id + sumPours f r
theorem sumPours_congr {f g : Int → Rat} : ∀ {l : List Int},(∀ id ∈ l,f id = g id) → sumPours f l = sumPours g l
|[],_ => rfl
|id :: r,h => by simp only [sumPours];rw [h id List.mem_cons_self,sumPours_congr fun i hi => h i (List.mem_cons_of_mem _ hi)]
theorem sumPours_add (f g : Int → Rat) : ∀ l : List Int,sumPours (fun i => f i + g i) l = sumPours f l + sumPours g l
|[] => by simp [sumPours];grind
|id :: r => by simp only [sumPours,sumPours_add f g r];grind
theorem sumPours_zero : ∀ l : List Int,sumPours (fun _ => 0) l = 0
|[] => rfl
|id :: r => by simp only [sumPours,sumPours_zero r];grind
theorem sumPours_one (v : Rat) (x : Int) : ∀ l : List Int,l.Nodup → sumPours (fun id => if x = id then v else 0) l = if x ∈ l then v else 0
|[],_ => by simp [sumPours]
|id :: r,h => by
  obtain ⟨h1,h2⟩:=List.nodup_cons.1 h
  simp only [sumPours,sumPours_one v x r h2]
  by_cases e : x = id
  ·subst e;simp [h1];grind
  ·simp [e];grind
theorem sumPours_all {pours : List Int} (hn : pours.Nodup) : ∀ l : List S89,(∀ x ∈ l,x.f0 ∈ pours) → sumPours (fun id => sumOf id l) pours = sumV l
|[],_ => by simp only [sumOf,sumV];exact sumPours_zero _
|x :: l,h => by
  simp only [sumOf,sumV]
  rw [sumPours_add,sumPours_one _ _ _ hn,if_pos (h x List.mem_cons_self),sumPours_all hn l fun y hy => h y (List.mem_cons_of_mem _ hy)]
theorem outOf_length (M : ByPour) : ∀ l,(outOf M l).length ≤ l.length
|[] => by simp [outOf]
|id :: r => by simp only [outOf];have:=outOf_length M r;split <;> simp <;> omega
theorem outOf_mem (M : ByPour) : ∀ (l : List Int) (x : S89),x ∈ outOf M l → M x.f0 = some x.f1 ∧ x.f0 ∈ l
|[],x,h => by simp [outOf] at h
|id :: r,x,h => by
  simp only [outOf] at h
  split at h
  ·rename_i n hn
   rcases List.mem_cons.1 h with rfl|h
   ·exact ⟨hn,List.mem_cons_self⟩
   ·have:=outOf_mem M r x h;exact ⟨this.1,List.mem_cons_of_mem _ this.2⟩
  ·have:=outOf_mem M r x h;exact ⟨this.1,List.mem_cons_of_mem _ this.2⟩
theorem outOf_ids (M : ByPour) : ∀ l : List Int,((outOf M l).map (·.f0)).Sublist l
|[] => by simp [outOf]
|id :: r => by
  simp only [outOf]
  split
  ·exact (outOf_ids M r).cons_cons _
  ·exact (outOf_ids M r).cons _
theorem outOf_sumV (M : ByPour) : ∀ l : List Int,sumV (outOf M l) = sumPours (valM M) l
|[] => by simp [outOf,sumV,sumPours]
|id :: r => by
  simp only [outOf,sumPours]
  cases h : M id with
 |some n => simp only [sumV,outOf_sumV M r,show valM M id = val n by unfold valM;rw [h]]
 |none => simp only [outOf_sumV M r,show valM M id = 0 by unfold valM;rw [h]];grind
theorem outOf_sumOf (M : ByPour) (i : Int) : ∀ l : List Int,l.Nodup → sumOf i (outOf M l) = if i ∈ l then valM M i else 0
|[],_ => by simp [outOf,sumOf]
|id :: r,hn => by
  obtain ⟨h1,h2⟩:=List.nodup_cons.1 hn
  have ih:=outOf_sumOf M i r h2
  simp only [outOf]
  by_cases e : id = i
  ·subst e
   rw [if_neg h1] at ih
   rw [if_pos List.mem_cons_self]
   cases h : M id with
  |some n => simp only [sumOf,if_true,ih,show valM M id = val n by unfold valM;rw [h]];grind
  |none => simp only [ih,show valM M id = 0 by unfold valM;rw [h]]
  ·have e2 : (i ∈ id :: r) ↔ i ∈ r:=by simp [Ne.symm e]
   cases h : M id with
  |some n => simp only [sumOf,if_neg e,ih,e2];grind
  |none => simp only [ih,e2]
theorem parts_ok {pours : List Int} {l : List S212} (h : ∀ p ∈ l,ParcelOk pours p) : (∀ x ∈ partsP l,PartOk pours x) ∧ sumV (partsP l) = (heldP l : Rat):=by
 induction l with
|nil => exact ⟨by simp [partsP],by simp [partsP,sumV,heldP]⟩
|cons p r ih =>
  have hp:=h p List.mem_cons_self
  obtain ⟨h1,h2⟩:=ih fun q hq => h q (List.mem_cons_of_mem _ hq)
  refine ⟨fun x hx => ?_,?_⟩
  ·rcases List.mem_append.1 (show x ∈ p.f1 ++ partsP r from hx) with hx|hx
   ·exact hp.parts x hx
   ·exact h1 x hx
  ·rw [partsP,sumV_append,hp.all,h2,heldP,Rat.intCast_add]
theorem summedP_ok {pours : List Int} (hn : pours.Nodup) {l : List S212} (hl : ∀ p ∈ l,ParcelOk pours p) {ps : List S89} (h : summedP pours l = some ps) :
  (∀ x ∈ ps,PartOk pours x) ∧ ps.length ≤ pours.length ∧ sumV ps = (heldP l : Rat) ∧ (ps.map (·.f0)).Sublist pours ∧ ∀ id,sumOf id ps = ofP id l:=by
 unfold summedP at h
 obtain ⟨M,hM,rfl⟩:=Option.map_eq_some_iff.1 h
 obtain ⟨h1,h2⟩:=parts_ok hl
 obtain ⟨k1,k2,k3⟩:=sumAll_spec pours (partsP l) _ M (fun id r hr => by cases hr) h1 hM
 have kv : ∀ id,valM M id = sumOf id (partsP l):=fun id => by rw [k2,show valM (fun _ => none) id = 0 from rfl];grind
 have hz : ∀ id,id ∉ pours → sumOf id (partsP l) = 0:=by
  intro id hid
  generalize partsP l = q at h1
  induction q with
 |nil => rfl
 |cons x r ih =>
   have hx:=h1 x List.mem_cons_self
   simp only [sumOf]
   rw [if_neg (fun e => hid (by rw [← e];exact hx.2.2)),ih fun y hy => h1 y (List.mem_cons_of_mem _ hy)]
   grind
 refine ⟨fun x hx => ?_,outOf_length M pours,?_,outOf_ids M pours,fun id => ?_⟩
 ·obtain ⟨e1,e2⟩:=outOf_mem M pours x hx
  exact ⟨(k1 _ _ e1).1,(k1 _ _ e1).2,e2⟩
 ·rw [outOf_sumV,sumPours_congr (g:=fun id => sumOf id (partsP l)) fun id _ => kv id,sumPours_all hn _ fun x hx => (h1 x hx).2.2,h2]
 ·rw [outOf_sumOf M id pours hn]
  by_cases hid : id ∈ pours
  ·rw [if_pos hid,kv];rfl
  ·rw [if_neg hid];exact (hz id hid).symm
structure BarrowOk (n : Nat) (pours : List Int) (b : S167) : Prop where
 lo : 1 ≤ b.f2
 hi : b.f2 ≤ 1000
 step0 : 0 ≤ b.f1
 step1 : b.f1 < n
 id0 : 1 ≤ b.f0
 id1 : b.f0 ≤ 1099511627776
 ids : (b.f3.map (·.f0)).Sublist pours
 par : ParcelOk pours ⟨b.f2,b.f3⟩
structure Wf (n : Nat) (Y : Yd) : Prop where
 r1 : 1 ≤ Y.rooms.length
 r6 : Y.rooms.length ≤ 6
 rooms : ∀ r ∈ Y.rooms,1 ≤ r ∧ r ≤ 4096
 plen : Y.pits.length = Y.rooms.length
 parcels : ∀ l ∈ Y.pits,∀ p ∈ l,ParcelOk Y.pours p
 held : ∀ i,i < Y.rooms.length → heldP (Y.pits.getD i []) ≤ Y.rooms.getD i 0
 pours : Y.pours.Nodup
 pid : ∀ i ∈ Y.pours,1 ≤ i ∧ i ≤ 1099511627776
 npours : Y.pours.length ≤ n
 days : Y.days.length = Y.pours.length
 dayok : ∀ d ∈ Y.days,0 ≤ d ∧ d ≤ 682
 nbarrows : Y.barrows.length ≤ n
 barrows : ∀ b ∈ Y.barrows,BarrowOk n Y.pours b
 bnodup : (Y.barrows.map (·.f0)).Nodup
 apart : ∀ b ∈ Y.barrows,b.f0 ∉ Y.pours
 nlost : Y.lost.length ≤ 1000 * n
 lost : ∀ p ∈ Y.lost,ParcelOk Y.pours p
theorem PartOk.mono {pours pours' : List Int} (hs : ∀ x ∈ pours,x ∈ pours') {x : S89} (h : PartOk pours x) : PartOk pours' x:=⟨h.1,h.2.1,hs _ h.2.2⟩
theorem ParcelOk.mono {pours pours' : List Int} (hs : ∀ x ∈ pours,x ∈ pours') {p : S212} (h : ParcelOk pours p) : ParcelOk pours' p :=
 ⟨h.lo,h.hi,h.len,fun x hx => (h.parts x hx).mono hs,h.all⟩
theorem getD_mem_ {α : Type} {l : List α} {i : Nat} {d : α} (h : i < l.length) : l.getD i d ∈ l:=by
 rw [List.getD_eq_getElem?_getD,List.getElem?_eq_getElem h];exact List.getElem_mem h
theorem getD_set_ {α : Type} (l : List α) (i t : Nat) (x d : α) (hi : i < l.length) : (l.set i x).getD t d = if t = i then x else l.getD t d:=by
 simp only [List.getD_eq_getElem?_getD,List.getElem?_set]
 by_cases h : t = i
 ·subst h;simp [hi]
 ·rw [if_neg (fun e => h e.symm),if_neg h]
structure Formed (rooms : Nat) (s : S84) : Prop where
 day : 0 ≤ s.f2 ∧ s.f2 ≤ 682
 pit : 0 ≤ s.f3 ∧ s.f3 < rooms
 id : s.f1 = 1 ∨ s.f1 = 2 → 1 ≤ s.f0 ∧ s.f0 ≤ 1099511627776
 amount : s.f1 ≠ 3 → 1 ≤ s.f5 ∧ s.f5 ≤ 1000
 dest : s.f1 = 4 → 0 ≤ s.f4 ∧ s.f4 < rooms ∧ s.f4 ≠ s.f3
 kind : 1 ≤ s.f1 ∧ s.f1 ≤ 5
theorem formed_of {rooms : Nat} {s : S84} {day : Int} (hd : 0 ≤ day) (h : formedP rooms s day = true) : Formed rooms s ∧ day ≤ s.f2:=by
 unfold formedP inP at h
 simp only [Bool.and_eq_true,decide_eq_true_eq] at h
 obtain ⟨⟨h1,h2⟩,h3⟩:=h
 by_cases c1 : s.f1 = 1 ∨ s.f1 = 2
 ·rw [if_pos c1] at h3
  simp only [Bool.and_eq_true,decide_eq_true_eq] at h3
  exact ⟨⟨by omega,by omega,fun _ => h3.1.1,fun _ => h3.1.2,fun e => by omega,by omega⟩,h1.1⟩
 ·rw [if_neg c1] at h3
  by_cases c3 : s.f1 = 3
  ·exact ⟨⟨by omega,by omega,fun e => absurd e c1,fun e => absurd c3 e,fun e => by omega,by omega⟩,h1.1⟩
  ·rw [if_neg c3] at h3
   by_cases c4 : s.f1 = 4
   ·rw [if_pos c4] at h3
    simp only [Bool.and_eq_true,decide_eq_true_eq] at h3
    exact ⟨⟨by omega,by omega,fun e => absurd e c1,fun _ => h3.1.1.2,fun _ => by omega,by omega⟩,h1.1⟩
   ·rw [if_neg c4] at h3
    by_cases c5 : s.f1 = 5
    ·rw [if_pos c5] at h3
     simp only [Bool.and_eq_true,decide_eq_true_eq] at h3
     exact ⟨⟨by omega,by omega,fun e => absurd e c1,fun _ => h3.1.2,fun e => absurd e c4,by omega⟩,h1.1⟩
    ·rw [if_neg c5] at h3;cases h3
theorem Wf.pitOk {n : Nat} {Y : Yd} (h : Wf n Y) {i : Int} (h0 : 0 ≤ i) (h1 : i < Y.rooms.length) : (∀ p ∈ pitP Y i,ParcelOk Y.pours p) ∧ heldP (pitP Y i) ≤ roomP Y i ∧ roomP Y i ≤ 4096 ∧ pitP Y i ∈ Y.pits:=by
 have hi : i.toNat < Y.pits.length:=by rw [h.plen];omega
 have hm : pitP Y i ∈ Y.pits:=getD_mem_ hi
 exact ⟨h.parcels _ hm,h.held _ (by omega),(h.rooms _ (getD_mem_ (show i.toNat < Y.rooms.length by omega))).2,hm⟩
theorem held_ge {l : List S212} {pours : List Int} (h : ∀ p ∈ l,ParcelOk pours p) : (l.length : Int) ≤ heldP l:=heldP_nonneg fun p hp => (h p hp).lo
theorem mem_set_ {α : Type} {l : List α} {i : Nat} {x y : α} (h : y ∈ l.set i x) : y = x ∨ y ∈ l:=(List.mem_or_eq_of_mem_set h).symm
theorem isNew_of {Y : Yd} {id : Int} (h : isNew Y id = true) : id ∉ Y.pours ∧ ∀ b ∈ Y.barrows,b.f0 ≠ id:=by
 unfold isNew at h
 simp only [Bool.and_eq_true,Bool.not_eq_true',decide_eq_false_iff_not,List.any_eq_false,decide_eq_true_eq] at h
 exact h
theorem setPit_held {n : Nat} {Y : Yd} (h : Wf n Y) {k : Nat} (hk : k < Y.rooms.length) {l : List S212} (hl : heldP l ≤ Y.rooms.getD k 0) : ∀ i,i < Y.rooms.length → heldP ((Y.pits.set k l).getD i []) ≤ Y.rooms.getD i 0:=by
 intro i hi
 rw [getD_set_ _ _ _ _ _ (by rw [h.plen];exact hk)]
 split
 ·rename_i e;subst e;exact hl
 ·exact h.held i hi
theorem Wf.more {n : Nat} {Y : Yd} (h : Wf n Y) : Wf (n + 1) Y :=
 { h with npours:=Nat.le_succ_of_le h.npours,nbarrows:=Nat.le_succ_of_le h.nbarrows,nlost:=by have:=h.nlost;omega,barrows:=fun b hb => { h.barrows b hb with step1:=by have:=(h.barrows b hb).step1;omega } }
theorem Wf.setPit {n : Nat} {Y : Yd} (h : Wf n Y) {i : Int} (h0 : 0 ≤ i) (h1 : i < Y.rooms.length) {l : List S212} (hl : ∀ p ∈ l,ParcelOk Y.pours p) (hh : heldP l ≤ roomP Y i) : Wf n { Y with pits:=Y.pits.set i.toNat l } :=
 { h with
  plen:=by show (Y.pits.set i.toNat l).length = _;rw [List.length_set];exact h.plen
  parcels:=fun l' hl' p hp => by
   rcases mem_set_ hl' with rfl|hl'
   ·exact hl p hp
   ·exact h.parcels l' hl' p hp
  held:=setPit_held h (by omega) hh }
theorem sumV_one (x : S89) : sumV [x] = val x.f1:=by simp only [sumV];grind
theorem poured_ok {pours : List Int} {id a : Int} (h1 : 1 ≤ a) (h2 : a ≤ 1000) (hid : id ∈ pours) : ParcelOk pours ⟨a,[⟨id,wholeP a⟩]⟩:=by
 have hok:=wholeP_ok (n:=a) (by omega)
 refine ⟨h1,by show a ≤ 4096;omega,by simp,fun x hx => ?_,?_⟩
 ·rw [List.mem_singleton.1 hx]
  refine ⟨?_,h1,hid⟩
  unfold fineP
  rw [validP_of hok (by show a ≤ _;omega) (by show (1 : Int) ≤ _;omega)]
  exact decide_eq_true (show (1 : Int) ≤ 16384 by omega)
 ·rw [sumV_one];exact val_wholeP a
theorem step_ok {n : Nat} {Y Y' : Yd} (h : Wf n Y) (hn : n < 60) {s : S84} (hf : Formed Y.rooms.length s) (hs : stepP Y s n = .ok Y') : Wf (n + 1) Y' ∧ Y'.rooms = Y.rooms:=by
 obtain ⟨p1,p2,p3,p4⟩:=h.pitOk hf.pit.1 hf.pit.2
 have q1:=held_ge p1
 have hk:=hf.kind
 unfold stepP at hs
 by_cases k1 : s.f1 = 1
 ·rw [if_pos k1] at hs
  have ha:=hf.amount (by omega)
  unfold pourP at hs
  by_cases c1 : isNew Y s.f0 = true
  ·rw [if_pos c1] at hs
   by_cases c2 : heldP (pitP Y s.f3) + s.f5 ≤ roomP Y s.f3
   ·rw [if_pos c2] at hs
    injection hs with hs
    subst hs
    obtain ⟨u1,u2⟩:=isNew_of c1
    have hsub : ∀ x ∈ Y.pours,x ∈ Y.pours ++ [s.f0]:=fun x hx => List.mem_append_left _ hx
    have hn' : (Y.pours ++ [s.f0]).Nodup:=by
     rw [List.nodup_append]
     refine ⟨h.pours,by simp,fun a ha b hb e => ?_⟩
     rw [List.mem_singleton.1 hb] at e
     subst e;exact u1 ha
    refine ⟨?_,rfl⟩
    refine { r1:=h.r1,r6:=h.r6,rooms:=h.rooms,plen:=by show (Y.pits.set _ _).length = _;rw [List.length_set];exact h.plen,parcels:=fun l hl p hp => ?_,held:=setPit_held h (by have:=hf.pit;omega) ?_,pours:=hn',pid:=fun i hi => ?_,npours:=by have:=h.npours;simp only [List.length_append,List.length_singleton];omega,days:=by have:=h.days;simp [this],dayok:=fun d hd => ?_,nbarrows:=Nat.le_succ_of_le h.nbarrows,barrows:=fun b hb => ?_,bnodup:=h.bnodup,apart:=fun b hb => ?_,nlost:=by have:=h.nlost;show Y.lost.length ≤ _;omega,lost:=fun p hp => (h.lost p hp).mono hsub }
    ·rcases mem_set_ hl with rfl|hl
     ·rcases List.mem_append.1 hp with hp|hp
      ·exact (p1 p hp).mono hsub
      ·rw [List.mem_singleton.1 hp];exact poured_ok ha.1 ha.2 (by simp)
     ·exact (h.parcels l hl p hp).mono hsub
    ·rw [heldP_append];show heldP (pitP Y s.f3) + (s.f5 + 0) ≤ _;have : roomP Y s.f3 = Y.rooms.getD s.f3.toNat 0:=rfl;omega
    ·rcases List.mem_append.1 hi with hi|hi
     ·exact h.pid i hi
     ·rw [List.mem_singleton.1 hi];exact hf.id (.inl k1)
    ·rcases List.mem_append.1 hd with hd|hd
     ·exact h.dayok d hd
     ·rw [List.mem_singleton.1 hd];exact hf.day
    ·have hb':=h.barrows b hb
     exact { hb' with step1:=by have:=hb'.step1;omega,ids:=hb'.ids.trans (List.sublist_append_left _ _),par:=hb'.par.mono hsub }
    ·intro hx
     rcases List.mem_append.1 hx with hx|hx
     ·exact h.apart b hb hx
     ·exact u2 b hb (List.mem_singleton.1 hx)
   ·rw [if_neg c2] at hs;cases hs
  ·rw [if_neg c1] at hs;cases hs
 rw [if_neg k1] at hs
 by_cases k2 : s.f1 = 2
 ·rw [if_pos k2] at hs
  have ha:=hf.amount (by omega)
  unfold takeP at hs
  by_cases c1 : isNew Y s.f0 = true
  ·rw [if_pos c1] at hs
   by_cases c2 : s.f5 ≤ heldP (pitP Y s.f3)
   ·rw [if_pos c2] at hs
    cases hA : aheadP (pitP Y s.f3) s.f5 with
   |none => rw [hA] at hs;cases hs
   |some ab =>
     obtain ⟨a,b⟩:=ab
     rw [hA] at hs
     simp only at hs
     obtain ⟨a1,a2,a3,a4,a5⟩:=aheadP_spec Y.pours _ _ p1 (by omega) c2 a b hA
     cases hS : summedP Y.pours a with
    |none => rw [hS] at hs;cases hs
    |some ps =>
      rw [hS] at hs
      simp only at hs
      injection hs with hs
      subst hs
      obtain ⟨s1,s2,s3,s4,s5⟩:=summedP_ok h.pours a1 hS
      obtain ⟨u1,u2⟩:=isNew_of c1
      refine ⟨?_,rfl⟩
      have w1:=(h.setPit hf.pit.1 hf.pit.2 a2 (by omega)).more
      refine { w1 with nbarrows:=by have:=h.nbarrows;simp only [List.length_append,List.length_singleton];omega,barrows:=fun x hx => ?_,bnodup:=?_,apart:=fun x hx => ?_ }
      ·rcases List.mem_append.1 hx with hx|hx
       ·exact w1.barrows x hx
       ·rw [List.mem_singleton.1 hx]
        have hid:=hf.id (.inr k2)
        exact { lo:=ha.1,hi:=ha.2,step0:=by show (0 : Int) ≤ n;omega,step1:=by show (n : Int) < ((n + 1 : Nat) : Int);omega,id0:=hid.1,id1:=hid.2,ids:=s4,par:=⟨ha.1,by show s.f5 ≤ 4096;omega,by show ps.length ≤ 60;have:=h.npours;omega,s1,by show sumV ps = (s.f5 : Rat);rw [s3,a3]⟩ }
      ·simp only [List.map_append,List.map_cons,List.map_nil]
       rw [List.nodup_append]
       refine ⟨h.bnodup,by simp,fun x hx y hy e => ?_⟩
       rw [List.mem_singleton.1 hy] at e
       obtain ⟨b',hb',rfl⟩:=List.mem_map.1 hx
       exact u2 b' hb' e
      ·rcases List.mem_append.1 hx with hx|hx
       ·exact h.apart x hx
       ·rw [List.mem_singleton.1 hx];exact u1
   ·rw [if_neg c2] at hs;cases hs
  ·rw [if_neg c1] at hs;cases hs
 rw [if_neg k2] at hs
 by_cases k3 : s.f1 = 3
 ·rw [if_pos k3] at hs
  unfold turnP at hs
  by_cases c1 : 0 < heldP (pitP Y s.f3)
  ·rw [if_pos c1] at hs
   cases hS : summedP Y.pours (pitP Y s.f3) with
  |none => rw [hS] at hs;cases hs
  |some ps =>
    rw [hS] at hs
    simp only at hs
    injection hs with hs
    subst hs
    obtain ⟨s1,s2,s3,s4,s5⟩:=summedP_ok h.pours p1 hS
    refine ⟨(h.setPit hf.pit.1 hf.pit.2 (l:=[⟨heldP (pitP Y s.f3),ps⟩]) (fun p hp => ?_) ?_).more,rfl⟩
    ·rw [List.mem_singleton.1 hp]
     exact ⟨by show 1 ≤ heldP _;omega,by show heldP _ ≤ 4096;omega,by show ps.length ≤ 60;have:=h.npours;omega,s1,s3⟩
    ·show heldP (pitP Y s.f3) + 0 ≤ _;omega
  ·rw [if_neg c1] at hs
   injection hs with hs
   subst hs
   exact ⟨h.more,rfl⟩
 rw [if_neg k3] at hs
 have ha:=hf.amount (by omega)
 by_cases k4 : s.f1 = 4
 ·rw [if_pos k4] at hs
  have ht:=hf.dest k4
  have hp_:=hf.pit
  unfold moveP at hs
  by_cases c1 : s.f5 ≤ heldP (pitP Y s.f3)
  ·rw [if_pos c1] at hs
   by_cases c2 : heldP (pitP Y s.f4) + s.f5 ≤ roomP Y s.f4
   ·rw [if_pos c2] at hs
    cases hA : aheadP (pitP Y s.f3) s.f5 with
   |none => rw [hA] at hs;cases hs
   |some ab =>
     obtain ⟨a,b⟩:=ab
     rw [hA] at hs
     simp only at hs
     injection hs with hs
     subst hs
     obtain ⟨a1,a2,a3,a4,a5⟩:=aheadP_spec Y.pours _ _ p1 (by omega) c1 a b hA
     have w1:=h.setPit hf.pit.1 hf.pit.2 a2 (by omega)
     have e1 : (Y.pits.set s.f3.toNat b).getD s.f4.toNat [] = pitP Y s.f4:=by
      rw [getD_set_ _ _ _ _ _ (by rw [h.plen];omega),if_neg (by omega)];rfl
     obtain ⟨t1,t2,t3,t4⟩:=h.pitOk ht.1 ht.2.1
     rw [e1]
     refine ⟨(w1.setPit (i:=s.f4) (l:=pitP Y s.f4 ++ a) ht.1 ht.2.1 (fun p hp => ?_) ?_).more,rfl⟩
     ·rcases List.mem_append.1 hp with hp|hp
      ·exact t1 p hp
      ·exact a1 p hp
     ·rw [heldP_append,a3];exact c2
   ·rw [if_neg c2] at hs;cases hs
  ·rw [if_neg c1] at hs;cases hs
 rw [if_neg k4] at hs
 unfold spillP at hs
 by_cases c1 : s.f5 ≤ heldP (pitP Y s.f3)
 ·rw [if_pos c1] at hs
  cases hA : aheadP (pitP Y s.f3) s.f5 with
 |none => rw [hA] at hs;cases hs
 |some ab =>
   obtain ⟨a,b⟩:=ab
   rw [hA] at hs
   simp only at hs
   injection hs with hs
   subst hs
   obtain ⟨a1,a2,a3,a4,a5⟩:=aheadP_spec Y.pours _ _ p1 (by omega) c1 a b hA
   have w1:=(h.setPit hf.pit.1 hf.pit.2 a2 (by omega)).more
   have q2:=held_ge a1
   refine ⟨{ w1 with nlost:=by have:=h.nlost;simp only [List.length_append];omega,lost:=fun p hp => ?_ },rfl⟩
   rcases List.mem_append.1 hp with hp|hp
   ·exact h.lost p hp
   ·exact a1 p hp
 ·rw [if_neg c1] at hs;cases hs
theorem empty_ok {rooms : List Int} (h : roomsOk rooms = true) : Wf 0 (emptyP rooms):=by
 unfold roomsOk inP at h
 simp only [Bool.and_eq_true,decide_eq_true_eq,List.all_eq_true] at h
 have hg : ∀ i,i < rooms.length → (List.replicate rooms.length ([] : List S212)).getD i [] = []:=fun i hi => by simp [List.getD_eq_getElem?_getD,hi]
 refine { r1:=by show 1 ≤ rooms.length;omega,r6:=by show rooms.length ≤ 6;omega,rooms:=h.2,plen:=List.length_replicate,parcels:=fun l hl p hp => ?_,held:=fun i hi => ?_,pours:=List.nodup_nil,pid:=fun i hi => by simp [emptyP] at hi,npours:=Nat.le_refl _,days:=rfl,dayok:=fun d hd => by simp [emptyP] at hd,nbarrows:=Nat.le_refl _,barrows:=fun b hb => by simp [emptyP] at hb,bnodup:=List.nodup_nil,apart:=fun b hb => by simp [emptyP] at hb,nlost:=Nat.le_refl _,lost:=fun p hp => by simp [emptyP] at hp }
 ·rw [List.eq_of_mem_replicate hl] at hp;simp at hp
 ·show heldP ((List.replicate rooms.length []).getD i []) ≤ rooms.getD i 0
  rw [hg i hi]
  have:=(h.2 _ (getD_mem_ (d:=0) hi)).1
  simp only [heldP];omega
theorem go_ok : ∀ (l : List S84) (n : Nat) (Y Y' : Yd) (day : Int),Wf n Y → 0 ≤ day → n + l.length ≤ 60 → goP Y day n l = .ok Y' → Wf (n + l.length) Y' ∧ Y'.rooms = Y.rooms
|[],n,Y,Y',day,h,_,_,hg => by
  simp only [goP] at hg
  injection hg with hg
  subst hg
  exact ⟨h,rfl⟩
|s :: r,n,Y,Y',day,h,hd,hl,hg => by
  simp only [goP] at hg
  simp only [List.length_cons] at hl
  by_cases c : formedP Y.rooms.length s day = true
  ·rw [if_pos c] at hg
   obtain ⟨hf,_⟩:=formed_of hd c
   cases hs : stepP Y s n with
  |error e => rw [hs] at hg;cases hg
  |ok Y1 =>
    rw [hs] at hg
    simp only at hg
    obtain ⟨w1,e1⟩:=step_ok h (by omega) hf hs
    have hg' : goP Y1 s.f2 ((n + 1 : Nat) : Int) r = .ok Y':=hg
    obtain ⟨w2,e2⟩:=go_ok r (n + 1) Y1 Y' s.f2 w1 hf.day.1 (by omega) hg'
    refine ⟨?_,e2.trans e1⟩
    rw [show n + (s :: r).length = n + 1 + r.length by simp only [List.length_cons];omega]
    exact w2
  ·rw [if_neg c] at hg;cases hg
theorem played_ok {rooms : List Int} {stirs : List S84} {steps : Nat} {Y : Yd} (h : playedP rooms stirs steps = .ok Y) : roomsOk rooms = true ∧ stirs.length ≤ 60 ∧ Wf 60 Y ∧ Y.rooms = rooms:=by
 unfold playedP at h
 by_cases c1 : roomsOk rooms = true
 ·rw [if_pos c1] at h
  by_cases c2 : stirs.length ≤ 60
  ·rw [if_pos c2] at h
   have hl : (stirs.take steps).length ≤ 60:=by rw [List.length_take];omega
   obtain ⟨w,e⟩:=go_ok (stirs.take steps) 0 _ Y 0 (empty_ok c1) (Int.le_refl _) (by omega) h
   have hm : ∀ k m,Wf k Y → Wf (k + m) Y:=fun k m hk => by
    induction m with
   |zero => exact hk
   |succ m ih => exact ih.more
   have:=hm _ (60 - (0 + (stirs.take steps).length)) w
   rw [show 0 + (stirs.take steps).length + (60 - (0 + (stirs.take steps).length)) = 60 by omega] at this
   exact ⟨c1,c2,this,e⟩
  ·rw [if_neg c2] at h;cases h
 ·rw [if_neg c1] at h;cases h
def pit_divisor.l0 : Nat → Int → Int → Option (Int)
|0,_,_ => none
|k + 1,x0,x1 => if x1 > 0 then (if x1 = 0 then (none) else (pit_divisor.l0 k x1 (Int.tmod x0 x1))) else (some x0)
def pit_divisor.f (k : Nat) (a0 : Int) (a1 : Int) : Option (Int):=pit_divisor.l0 k a0 a1
theorem pit_divisor.mono_l : ∀ k,(∀ y0 y1,LeO (pit_divisor.l0 k y0 y1) (pit_divisor.l0 (k + 1) y0 y1))
|0 => fun _ _ r h => by simp [pit_divisor.l0] at h
|k + 1 => by
  have ih0:=pit_divisor.mono_l k
  ·intro y0 y1
   unfold pit_divisor.l0
   repeat' first
  |(with_reducible exact ih0 _ _)
  |(with_reducible exact LeO.refl _)
  |(with_reducible exact LeO.none _)
  |(with_reducible refine LeO.ite ?_ ?_)
  |(with_reducible refine LeO.bind ?_ (fun _ => ?_))
  |exact ih0 _ _
  |exact LeO.none _
  |refine LeO.ite ?_ ?_
  |refine LeO.bind ?_ (fun _ => ?_)
theorem pit_divisor.mono : ∀ a0 a1 k,LeO (pit_divisor.f k a0 a1) (pit_divisor.f (k + 1) a0 a1):=by
 intro a0 a1 k
 have ih0:=pit_divisor.mono_l k
 unfold pit_divisor.f
 repeat' first
  |(with_reducible exact ih0 _ _)
  |(with_reducible exact LeO.refl _)
  |(with_reducible exact LeO.none _)
  |(with_reducible refine LeO.ite ?_ ?_)
  |(with_reducible refine LeO.bind ?_ (fun _ => ?_))
  |exact ih0 _ _
  |exact LeO.none _
  |refine LeO.ite ?_ ?_
  |refine LeO.bind ?_ (fun _ => ?_)
set_option maxHeartbeats 8000000 in
set_option maxRecDepth 100000 in
theorem pit_divisor.calls (k : Nat) (a0 : Int) (a1 : Int) (r : Int) (w : World) (h : pit_divisor.f k a0 a1 = some r) :
  Calls Tryz.prog 158 #[.int .i64 a0,.int .i64 a1] w fun e w' => e = .returned (.int .i64 r) ∧ Drawn0 w w':=by
 have H : (pit_divisor.l0 k a0 a1) = some r:=h
 clear h
 have H':=am H
 clear H
 go_enter Tryz.func158,Tryz.ntmps158
 go_wp2
 repeat (go_quiet (fail);try go_wp2)
 go_loopg [0,1] k (fun kq v0 v1 w' => ∃ (x0_1 : Int) (x1_1 : Int),v0 = .int .i64 x0_1 ∧ v1 = .int .i64 x1_1 ∧ Aside0 (pit_divisor.l0 kq x0_1 x1_1 = some r) ∧ Aside0 (kq ≤ k) ∧ Drawn0 w w')
 case atStart => exact ⟨(a0),(a1),ve,ve,H',⟨Nat.le_refl _⟩,by repeat (first|exact Drawn0.refl _|apply Drawn0.step)⟩
 case round =>
  clear H'
  try clear c1
  try clear p2
  obtain ⟨x0_1,x1_1,rfl,rfl,HA,HK1,⟨m1,rfl⟩⟩:=hrel
  cases gk with
 |zero => exact absurd HA.out (by simp [pit_divisor.l0])
 |succ k1 =>
   have H:=HA.out
   clear HA
   simp only [pit_divisor.l0] at H
   by_cases c3 : x1_1 > 0
   ·rw [if_pos c3] at H
    have c3b0 : decide (0 < x1_1) = true:=decide_eq_true c3
    clear c3
    by_cases c4 : x1_1 = 0
    ·rw [if_pos c4] at H
     exact absurd H (by simp)
    ·rw [if_neg c4] at H
     have c4b0 : (x1_1 == 0) = false:=beq_eq_false_iff_ne.mpr c4
     have c4b1 : (x1_1 != 0) = true:=bne_iff_ne.mpr c4
     have H':=am H
     clear H
     go_wp2
     repeat (go_quiet (fail);try go_wp2)
     go_roundg k1
     case measure => have:=HK1.out;omega
     case rel => exact ⟨(x1_1),(Int.tmod x0_1 x1_1),ve,ve,H',⟨by have:=HK1.out;omega⟩,by repeat (first|exact Drawn0.refl _|apply Drawn0.step)⟩
   ·rw [if_neg c3] at H
    have c3b0 : decide (0 < x1_1) = false:=decide_eq_false c3
    clear c3
    obtain rfl:=Option.some.inj H
    go_wp2
    repeat (go_quiet (fail);try go_wp2)
    go_ret
    exact ⟨ve,by repeat (first|exact Drawn0.refl _|apply Drawn0.step)⟩
def pit_ratio.f (k : Nat) (a0 : Int) (a1 : Int) : Option (Int × Int):=(pit_divisor.f k a0 a1).bind fun t102 => (if t102 = 0 then (none) else (some (wrap64 (Int.tdiv a0 t102),wrap64 (Int.tdiv a1 t102))))
theorem pit_ratio.mono : ∀ a0 a1 k,LeO (pit_ratio.f k a0 a1) (pit_ratio.f (k + 1) a0 a1):=by
 intro a0 a1 k
 unfold pit_ratio.f
 repeat' first
  |(with_reducible exact pit_divisor.mono _ _ _)
  |(with_reducible exact LeO.refl _)
  |(with_reducible exact LeO.none _)
  |(with_reducible refine LeO.ite ?_ ?_)
  |(with_reducible refine LeO.bind ?_ (fun _ => ?_))
  |exact pit_divisor.mono _ _ _
  |exact LeO.none _
  |refine LeO.ite ?_ ?_
  |refine LeO.bind ?_ (fun _ => ?_)
def pit_ratio.T2 : Bool × List (List Nat × List Nat):=(true,[([],[]),([],[]),([0,1],[0,1]),([],[]),([],[]),([3,4],[3,4]),([2,5],[2,5]),([6,0,1,2,3,4,5,6],[6])])
def pit_ratio.B2 : List Nat:=[0,0,3,0,0,24,63,127]
theorem pit_ratio.tab2 : rtab .any (opsOf Tryz.f157 2) = pit_ratio.T2:=by kernel_rfl
theorem pit_ratio.bits2 : waitsOk pit_ratio.T2.2 pit_ratio.B2 = true:=by kernel_rfl
set_option maxHeartbeats 8000000 in
set_option maxRecDepth 100000 in
theorem pit_ratio.calls (k : Nat) (a0 : Int) (a1 : Int) (r1 : Int) (r2 : Int) (w : World) (h : pit_ratio.f k a0 a1 = some (r1,r2)) :
  Calls Tryz.prog 157 #[.int .i64 a0,.int .i64 a1] w fun e w' => e = .returned (.agg #[.int .i64 r1,.int .i64 r2]) ∧ Below w.heap.size w w':=by
 have hu43:=Tryz.underlying43
 have HB:=am (Below.refl w.heap.size w)
 have H : ((pit_divisor.f k a0 a1).bind fun t102 => (if t102 = 0 then (none) else (some (wrap64 (Int.tdiv a0 t102),wrap64 (Int.tdiv a1 t102))))) = some (r1,r2):=h
 clear h
 replace H:=Option.bind_eq_some_iff.mp H
 obtain ⟨t102,A30,H⟩:=H
 replace H : (if t102 = 0 then (none) else (some (wrap64 (Int.tdiv a0 t102),wrap64 (Int.tdiv a1 t102)))) = some (r1,r2):=H
 have A3:=am A30
 clear A30
 by_cases c4 : t102 = 0
 ·rw [if_pos c4] at H
  exact absurd H (by simp)
 ·rw [if_neg c4] at H
  have c4b0 : (t102 == 0) = false:=beq_eq_false_iff_ne.mpr c4
  have c4b1 : (t102 != 0) = true:=bne_iff_ne.mpr c4
  simp only [Option.some.injEq,Prod.mk.injEq] at H
  obtain ⟨rfl,rfl⟩:=H
  go_enter Tryz.func157,Tryz.ntmps157
  try go_wp2_with (first|(refine bE 4 #[.int .i64 0,.int .i64 0] 43 ?_;intro gb101 hg w5 hbox hb;have BK101:=am (hbox);have GW101:=am (lg hg (below_size (v0 HB.out)) : w.heap.size ≤ gb101);have GE101:=GW101;replace HB:=am (below_step (v0 HB.out) hb);clear hb hbox hg)|(refine cE (some 8) Tryz.func158 #[.int .i64 a0,.int .i64 a1] ?_;(with_reducible refine (pit_divisor.calls k a0 a1 t102 _ A3.out).mono ?_);rintro e w' ⟨rfl,⟨nd,rfl⟩⟩;refine ⟨_,rfl,?_⟩;(try (rw [drewN_self w5];generalize hq_ : World.drewN w5 _ = w5;replace BK101:=am (dz hq_ (vb BK101.out));replace HB:=am (dy hq_ (v1 HB.out GE101.out));clear hq_))))
  replace BK101:=am (blk_drew BK101.out)
  replace HB:=am (below_drew1 HB.out)
  refine start_ (n:=8) (S:=fun w' => True) (ds:=[]) (ab 8 0) kr rfl kr trivial (fun hHeld => ?_);refine with_tabW pit_ratio.tab2 pit_ratio.bits2 (fun HT_ HW_ => ?_)
  generalize w5.drew = w6 at BK101 HB hHeld ⊢
  refine qA 0 (some 9) ?_;refine qA 1 (some 10) ?_;refine qA 2 (some 11) ?_;refine qA 3 (some 12) ?_;refine qA 4 (some 13) ?_;refine qA 5 (some 14) ?_;refine qA 6 (some 15) ?_
  refine qE 7 (none) fun K hK => ?_
  have hs7:=bd BK101.out 0
  have hfs7:=blk_frozen BK101.out 0
  have hs8:=bd BK101.out 1
  have hfs8:=blk_frozen BK101.out 1
  refine skip_ (w1:=?_) (by rfl) rfl ?_ ?_
  rotate_left
  ·go_simp
   rfl
  refine hK.out _ _ trivial (fun hHeld => ?_)
  clear hK K
  refine done_ (done_of HT_.out kr) ?_
  try go_wp2
  refine bodyPost_ret (results_cell_row rfl _ _ gb101 43 #[.int .i64 (wrap64 (Int.tdiv a0 t102)),.int .i64 (wrap64 (Int.tdiv a1 t102))] (0,0) _ rfl (by (with_reducible repeat (first|refine blk_drewN ?_ _|refine blk_drew ?_|refine blk_alloc ?_ _));refine blk_put (cs:=#[.int .i64 (wrap64 (Int.tdiv a0 t102)),.int .i64 0]) ?_ 1 _ rfl;(with_reducible repeat (first|refine blk_drewN ?_ _|refine blk_drew ?_|refine blk_alloc ?_ _));refine blk_put (cs:=#[.int .i64 0,.int .i64 0]) ?_ 0 _ rfl;(with_reducible repeat (first|refine blk_drewN ?_ _|refine blk_drew ?_|refine blk_alloc ?_ _));exact BK101.out) Tryz.underlying43 rfl kr) rfl ?_
  exact ⟨vf,v1 HB.out GE101.out⟩
def pit_times.f (k : Nat) (a0_0 : Int) (a0_1 : Int) (a1 : Int) (a2 : Int) : Option (Int × Int):=(pit_ratio.f k (wrap64 (a0_0 * a1)) (wrap64 (a0_1 * a2))).bind fun bt103 => (some (bt103.1,bt103.2))
set_option maxHeartbeats 8000000 in
set_option maxRecDepth 100000 in
theorem pit_times.calls (k : Nat) (a0_0 : Int) (a0_1 : Int) (a1 : Int) (a2 : Int) (r1 : Int) (r2 : Int) (w : World) (h : pit_times.f k a0_0 a0_1 a1 a2 = some (r1,r2)) :
  Calls Tryz.prog 88 #[.agg #[.int .i64 a0_0,.int .i64 a0_1],.int .i64 a1,.int .i64 a2] w fun e w' => e = .returned (.agg #[.int .i64 r1,.int .i64 r2]) ∧ Below w.heap.size w w':=by
 have hu43:=Tryz.underlying43
 have HB:=am (Below.refl w.heap.size w)
 have H : ((pit_ratio.f k (wrap64 (a0_0 * a1)) (wrap64 (a0_1 * a2))).bind fun bt103 => (some (bt103.1,bt103.2))) = some (r1,r2):=h
 clear h
 replace H:=Option.bind_eq_some_iff.mp H
 obtain ⟨⟨t103,t104⟩,A40,H⟩:=H
 replace H : (some (t103,t104)) = some (r1,r2):=H
 have A4:=am A40
 clear A40
 simp only [Option.some.injEq,Prod.mk.injEq] at H
 obtain ⟨rfl,rfl⟩:=H
 go_enter Tryz.func88,Tryz.ntmps88
 go_wp2_with (first|(refine bE 3 #[.int .i64 a0_0,.int .i64 a0_1] 43 ?_;intro gb101 hg w5 hbox hb;have BK101:=am (hbox);have GW101:=am (lg hg (below_size (v0 HB.out)) : w.heap.size ≤ gb101);have GE101:=GW101;replace HB:=am (below_step (v0 HB.out) hb);clear hb hbox hg)|(refine bE 6 #[.int .i64 0,.int .i64 0] 43 ?_;intro gb102 hg w6 hbox hb;have BK102:=am (hbox);have GW102:=am (lg hg (below_size (v1 HB.out GE101.out)) : w.heap.size ≤ gb102);have GE102:=GW102;have NB101_102:=am (nl hg (vb BK101.out));have NB102_101:=am ((nl hg (vb BK101.out)).symm);replace BK101:=am (blk_below (vb BK101.out) hb);replace HB:=am (below_step (v1 HB.out GE101.out) hb);clear hb hbox hg;have hnb7:=NB101_102.out;have hnc7:=NB102_101.out;have hcz8_0:=bd BK101.out 0;have hcz8_1:=bd BK101.out 1;have hfz8_0:=blk_frozen BK101.out 0;have hfz8_1:=blk_frozen BK101.out 1)|(refine cE (some 15) Tryz.func157 #[.int .i64 (wrap64 (a0_0 * a1)),.int .i64 (wrap64 (a0_1 * a2))] ?_;(with_reducible refine (pit_ratio.calls k (wrap64 (a0_0 * a1)) (wrap64 (a0_1 * a2)) t103 t104 _ A4.out).mono ?_);rintro e w9 ⟨rfl,hb⟩;refine ⟨_,rfl,?_⟩;replace BK101:=am (blk_below (vb BK101.out) hb);replace BK102:=am (blk_below (vb BK102.out) hb);replace HB:=am (below_step (v2 HB.out GE101.out GE102.out) hb);(try clear hb);(try clear hb2);(try clear hk);(try clear hi);have hcz10_0:=bd BK102.out 0;have hcz10_1:=bd BK102.out 1;have hfz10_0:=blk_frozen BK102.out 0;have hfz10_1:=blk_frozen BK102.out 1))
 refine bodyPost_ret (results_cell_row rfl _ _ gb102 43 #[.int .i64 t103,.int .i64 t104] (0,0) _ rfl (by (with_reducible repeat (first|refine blk_drewN ?_ _|refine blk_drew ?_|refine blk_alloc ?_ _));refine blk_put (cs:=#[.int .i64 t103,.int .i64 0]) ?_ 1 _ rfl;(with_reducible repeat (first|refine blk_drewN ?_ _|refine blk_drew ?_|refine blk_alloc ?_ _));refine blk_put (cs:=#[.int .i64 0,.int .i64 0]) ?_ 0 _ rfl;(with_reducible repeat (first|refine blk_drewN ?_ _|refine blk_drew ?_|refine blk_alloc ?_ _));exact BK102.out) Tryz.underlying43 rfl kr) rfl ?_
 exact ⟨vf,v2 HB.out GE101.out GE102.out⟩
def pit_add.f (k : Nat) (a0_0 : Int) (a0_1 : Int) (a1_0 : Int) (a1_1 : Int) : Option (Int × Int):=(pit_divisor.f k a0_1 a1_1).bind fun t104 => (if t104 = 0 then (none) else ((pit_ratio.f k (wrap64 ((wrap64 (a0_0 * (wrap64 (Int.tdiv a1_1 t104)))) + (wrap64 (a1_0 * (wrap64 (Int.tdiv a0_1 t104)))))) (wrap64 ((wrap64 (Int.tdiv a0_1 t104)) * a1_1))).bind fun bt105 => (some (bt105.1,bt105.2))))
theorem pit_add.mono : ∀ a0 a1 a2 a3 k,LeO (pit_add.f k a0 a1 a2 a3) (pit_add.f (k + 1) a0 a1 a2 a3):=by
 intro a0 a1 a2 a3 k
 unfold pit_add.f
 repeat' first
  |(with_reducible exact pit_divisor.mono _ _ _)
  |(with_reducible exact pit_ratio.mono _ _ _)
  |(with_reducible exact LeO.refl _)
  |(with_reducible exact LeO.none _)
  |(with_reducible refine LeO.ite ?_ ?_)
  |(with_reducible refine LeO.bind ?_ (fun _ => ?_))
  |exact pit_divisor.mono _ _ _
  |exact pit_ratio.mono _ _ _
  |exact LeO.none _
  |refine LeO.ite ?_ ?_
  |refine LeO.bind ?_ (fun _ => ?_)
def pit_add.T2 : Bool × List (List Nat × List Nat):=(true,[([],[]),([0],[0]),([],[]),([2],[2]),([],[]),([3,4],[3,4]),([1,5],[1,5]),([],[]),([7],[7]),([],[]),([9],[9]),([],[]),([10,11],[10,11]),([8,12],[8,12]),([6,13],[6,13]),([],[]),([15],[15]),([],[]),([16,17],[16,17]),([],[]),([19],[19]),([18,20],[18,20]),([14,21],[14,21]),([22,22,0,1,2,3,4,5,6,7,8,9,10,11,12,13,14,15,16,17,18,19,20,21,22],[22])])
def pit_add.B2 : List Nat:=[0,1,0,4,0,28,63,0,128,0,512,0,3584,8064,16383,0,32768,0,229376,0,524288,2064384,4194303,8388607]
theorem pit_add.tab2 : rtab .any (opsOf Tryz.f93 2) = pit_add.T2:=by kernel_rfl
theorem pit_add.bits2 : waitsOk pit_add.T2.2 pit_add.B2 = true:=by kernel_rfl
set_option maxHeartbeats 8000000 in
set_option maxRecDepth 100000 in
theorem pit_add.calls (k : Nat) (a0_0 : Int) (a0_1 : Int) (a1_0 : Int) (a1_1 : Int) (r1 : Int) (r2 : Int) (w : World) (h : pit_add.f k a0_0 a0_1 a1_0 a1_1 = some (r1,r2)) :
  Calls Tryz.prog 93 #[.agg #[.int .i64 a0_0,.int .i64 a0_1],.agg #[.int .i64 a1_0,.int .i64 a1_1]] w fun e w' => e = .returned (.agg #[.int .i64 r1,.int .i64 r2]) ∧ Below w.heap.size w w':=by
 have hu43:=Tryz.underlying43
 have HB:=am (Below.refl w.heap.size w)
 have H : ((pit_divisor.f k a0_1 a1_1).bind fun t104 => (if t104 = 0 then (none) else ((pit_ratio.f k (wrap64 ((wrap64 (a0_0 * (wrap64 (Int.tdiv a1_1 t104)))) + (wrap64 (a1_0 * (wrap64 (Int.tdiv a0_1 t104)))))) (wrap64 ((wrap64 (Int.tdiv a0_1 t104)) * a1_1))).bind fun bt105 => (some (bt105.1,bt105.2))))) = some (r1,r2):=h
 clear h
 replace H:=Option.bind_eq_some_iff.mp H
 obtain ⟨t104,A30,H⟩:=H
 replace H : (if t104 = 0 then (none) else ((pit_ratio.f k (wrap64 ((wrap64 (a0_0 * (wrap64 (Int.tdiv a1_1 t104)))) + (wrap64 (a1_0 * (wrap64 (Int.tdiv a0_1 t104)))))) (wrap64 ((wrap64 (Int.tdiv a0_1 t104)) * a1_1))).bind fun bt105 => (some (bt105.1,bt105.2)))) = some (r1,r2):=H
 have A3:=am A30
 clear A30
 by_cases c4 : t104 = 0
 ·rw [if_pos c4] at H
  exact absurd H (by simp)
 ·rw [if_neg c4] at H
  have c4b0 : (t104 == 0) = false:=beq_eq_false_iff_ne.mpr c4
  have c4b1 : (t104 != 0) = true:=bne_iff_ne.mpr c4
  replace H:=Option.bind_eq_some_iff.mp H
  obtain ⟨⟨t105,t106⟩,A50,H⟩:=H
  replace H : (some (t105,t106)) = some (r1,r2):=H
  have A5:=am A50
  clear A50
  simp only [Option.some.injEq,Prod.mk.injEq] at H
  obtain ⟨rfl,rfl⟩:=H
  go_enter Tryz.func93,Tryz.ntmps93
  try go_wp2_with (first|(refine bE 2 #[.int .i64 a0_0,.int .i64 a0_1] 43 ?_;intro gb101 hg w6 hbox hb;have BK101:=am (hbox);have GW101:=am (lg hg (below_size (v0 HB.out)) : w.heap.size ≤ gb101);have GE101:=GW101;replace HB:=am (below_step (v0 HB.out) hb);clear hb hbox hg)|(refine bE 3 #[.int .i64 a1_0,.int .i64 a1_1] 43 ?_;intro gb102 hg w7 hbox hb;have BK102:=am (hbox);have GW102:=am (lg hg (below_size (v1 HB.out GE101.out)) : w.heap.size ≤ gb102);have GE102:=GW102;have NB101_102:=am (nl hg (vb BK101.out));have NB102_101:=am ((nl hg (vb BK101.out)).symm);replace BK101:=am (blk_below (vb BK101.out) hb);replace HB:=am (below_step (v1 HB.out GE101.out) hb);clear hb hbox hg)|(refine bE 4 #[.int .i64 0,.int .i64 0] 43 ?_;intro gb103 hg w8 hbox hb;have BK103:=am (hbox);have GW103:=am (lg hg (below_size (v2 HB.out GE101.out GE102.out)) : w.heap.size ≤ gb103);have GE103:=GW103;have NB101_103:=am (nl hg (vb BK101.out));have NB103_101:=am ((nl hg (vb BK101.out)).symm);have NB102_103:=am (nl hg (vb BK102.out));have NB103_102:=am ((nl hg (vb BK102.out)).symm);replace BK101:=am (blk_below (vb BK101.out) hb);replace BK102:=am (blk_below (vb BK102.out) hb);replace HB:=am (below_step (v2 HB.out GE101.out GE102.out) hb);clear hb hbox hg;have hnb9:=NB101_102.out;have hnc9:=NB102_101.out;have hnb10:=NB101_103.out;have hnc10:=NB103_101.out;have hcz11_0:=bd BK101.out 0;have hcz11_1:=bd BK101.out 1;have hfz11_0:=blk_frozen BK101.out 0;have hfz11_1:=blk_frozen BK101.out 1;have hnb12:=NB102_103.out;have hnc12:=NB103_102.out;have hcz13_0:=bd BK102.out 0;have hcz13_1:=bd BK102.out 1;have hfz13_0:=blk_frozen BK102.out 0;have hfz13_1:=blk_frozen BK102.out 1)|(refine cE (some 10) Tryz.func158 #[.int .i64 a0_1,.int .i64 a1_1] ?_;(with_reducible refine (pit_divisor.calls k a0_1 a1_1 t104 _ A3.out).mono ?_);rintro e w' ⟨rfl,⟨nd,rfl⟩⟩;refine ⟨_,rfl,?_⟩;(try (rw [drewN_self w8];generalize hq_ : World.drewN w8 _ = w8;replace BK101:=am (dz hq_ (vb BK101.out));replace BK102:=am (dz hq_ (vb BK102.out));replace BK103:=am (dz hq_ (vb BK103.out));replace HB:=am (dy hq_ (v3 HB.out GE101.out GE102.out GE103.out));clear hq_))))
  replace BK101:=am (blk_drew BK101.out)
  replace BK102:=am (blk_drew BK102.out)
  replace BK103:=am (blk_drew BK103.out)
  replace HB:=am (below_drew1 HB.out)
  refine start_ (n:=24) (S:=fun w' => w'.cell? ⟨gb101,0,none⟩ = some (.int .i64 a0_0) ∧ w'.cell? ⟨gb101,1,none⟩ = some (.int .i64 a0_1) ∧ w'.cell? ⟨gb102,0,none⟩ = some (.int .i64 a1_0) ∧ w'.cell? ⟨gb102,1,none⟩ = some (.int .i64 a1_1)) (ds:=[]) (ab 24 0) kr rfl kr ⟨(blk_cell BK101.out 0).trans rfl,(blk_cell BK101.out 1).trans rfl,(blk_cell BK102.out 0).trans rfl,(blk_cell BK102.out 1).trans rfl⟩ (fun hHeld => ?_);refine with_tabW pit_add.tab2 pit_add.bits2 (fun HT_ HW_ => ?_)
  generalize w8.drew = w14 at BK101 BK102 BK103 HB hHeld ⊢
  refine qA 0 (some 11) ?_;refine qA 2 (some 13) ?_;refine qA 4 (some 15) ?_;refine qA 7 (some 18) ?_;refine qA 9 (some 20) ?_;refine qA 11 (some 22) ?_;refine qA 15 (some 26) ?_;refine qA 17 (some 28) ?_;refine qA 19 (some 30) ?_;refine qT 1 (some 12) ?_;refine qT 3 (some 14) ?_;refine qA 5 (some 16) ?_;refine qA 6 (some 17) ?_;refine qT 8 (some 19) ?_;refine qT 10 (some 21) ?_;refine qA 12 (some 23) ?_;refine qA 13 (some 24) ?_;refine qA 14 (some 25) ?_;refine qT 16 (some 27) ?_;refine qA 18 (some 29) ?_;refine qT 20 (some 31) ?_;refine qA 21 (some 32) ?_
  refine qE 22 (some 33) fun K hK => ?_
  refine gC Tryz.func157 #[.int .i64 (wrap64 ((wrap64 (a0_0 * (wrap64 (Int.tdiv a1_1 t104)))) + (wrap64 (a1_0 * (wrap64 (Int.tdiv a0_1 t104)))))),.int .i64 (wrap64 ((wrap64 (Int.tdiv a0_1 t104)) * a1_1))] ?_
  with_reducible refine (pit_ratio.calls k (wrap64 ((wrap64 (a0_0 * (wrap64 (Int.tdiv a1_1 t104)))) + (wrap64 (a1_0 * (wrap64 (Int.tdiv a0_1 t104)))))) (wrap64 ((wrap64 (Int.tdiv a0_1 t104)) * a1_1)) t105 t106 _ A5.out).mono ?_
  rintro e w15 ⟨rfl,hb⟩
  refine ⟨_,rfl,?_⟩
  replace BK101:=am (blk_below (vb BK101.out) hb)
  replace BK102:=am (blk_below (vb BK102.out) hb)
  replace BK103:=am (blk_below (vb BK103.out) hb)
  replace HB:=am (below_step (v3 HB.out GE101.out GE102.out GE103.out) hb)
  (try clear hb)
  (try clear hb2)
  (try clear hk)
  (try clear hi)
  refine hK.out _ _ ⟨(blk_cell BK101.out 0).trans rfl,(blk_cell BK101.out 1).trans rfl,(blk_cell BK102.out 0).trans rfl,(blk_cell BK102.out 1).trans rfl⟩ (fun hHeld => ?_)
  clear hK K
  refine qN (some 33) ?_
  refine qE 23 (none) fun K hK => ?_
  have hs16:=bd BK103.out 0
  have hfs16:=blk_frozen BK103.out 0
  have hns16_0:=NB101_103.out
  have hns16_1:=NB102_103.out
  have hms16_0:=NB103_101.out
  have hms16_1:=NB103_102.out
  have hs17:=bd BK103.out 1
  have hfs17:=blk_frozen BK103.out 1
  have hns17_0:=NB101_103.out
  have hns17_1:=NB102_103.out
  have hms17_0:=NB103_101.out
  have hms17_1:=NB103_102.out
  refine skip_ (w1:=?_) (by rfl) rfl ?_ ?_
  rotate_left
  ·go_simp
   rfl
  refine hK.out _ _ ⟨((cell_far (p:=⟨gb103,_,none⟩) NB101_103.out _).trans (((cell_far (p:=⟨gb103,_,none⟩) NB101_103.out _).trans (hHeld.1)))),((cell_far (p:=⟨gb103,_,none⟩) NB101_103.out _).trans (((cell_far (p:=⟨gb103,_,none⟩) NB101_103.out _).trans (hHeld.2.1)))),((cell_far (p:=⟨gb103,_,none⟩) NB102_103.out _).trans (((cell_far (p:=⟨gb103,_,none⟩) NB102_103.out _).trans (hHeld.2.2.1)))),((cell_far (p:=⟨gb103,_,none⟩) NB102_103.out _).trans (((cell_far (p:=⟨gb103,_,none⟩) NB102_103.out _).trans (hHeld.2.2.2))))⟩ (fun hHeld => ?_)
  clear hK K
  refine done_ (done_of HT_.out kr) ?_
  try go_wp2
  refine bodyPost_ret (results_cell_row rfl _ _ gb103 43 #[.int .i64 t105,.int .i64 t106] (0,0) _ rfl (by (with_reducible repeat (first|refine blk_drewN ?_ _|refine blk_drew ?_|refine blk_alloc ?_ _));refine blk_put (cs:=#[.int .i64 t105,.int .i64 0]) ?_ 1 _ rfl;(with_reducible repeat (first|refine blk_drewN ?_ _|refine blk_drew ?_|refine blk_alloc ?_ _));refine blk_put (cs:=#[.int .i64 0,.int .i64 0]) ?_ 0 _ rfl;(with_reducible repeat (first|refine blk_drewN ?_ _|refine blk_drew ?_|refine blk_alloc ?_ _));exact BK103.out) Tryz.underlying43 rfl kr) rfl ?_
  exact ⟨vf,v3 HB.out GE101.out GE102.out GE103.out⟩
def pit_within.f (a0 : Int) (a1 : Int) (a2 : Int) : Option (Bool):=if a1 ≤ a0 then (some (decide (a0 ≤ a2))) else (some false)
set_option maxHeartbeats 8000000 in
set_option maxRecDepth 100000 in
theorem pit_within.calls (a0 : Int) (a1 : Int) (a2 : Int) (r : Bool) (w : World) (h : pit_within.f a0 a1 a2 = some r) :
  Calls Tryz.prog 106 #[.int .i64 a0,.int .i64 a1,.int .i64 a2] w fun e w' => e = .returned (.bool r) ∧ Drawn0 w w':=by
 have H : (if a1 ≤ a0 then (some (decide (a0 ≤ a2))) else (some false)) = some r:=h
 clear h
 by_cases c4 : a1 ≤ a0
 ·rw [if_pos c4] at H
  have c4b0 : decide (a1 ≤ a0) = true:=decide_eq_true c4
  clear c4
  obtain rfl:=Option.some.inj H
  go_enter Tryz.func106,Tryz.ntmps106
  go_wp2
  go_ret
  exact ⟨ve,by repeat (first|exact Drawn0.refl _|apply Drawn0.step)⟩
 ·rw [if_neg c4] at H
  have c4b0 : decide (a1 ≤ a0) = false:=decide_eq_false c4
  clear c4
  obtain rfl:=Option.some.inj H
  go_enter Tryz.func106,Tryz.ntmps106
  go_wp2
  go_ret
  exact ⟨ve,by repeat (first|exact Drawn0.refl _|apply Drawn0.step)⟩
def pit_valid.f (k : Nat) (a0_0 : Int) (a0_1 : Int) : Option (Bool):=(pit_within.f a0_0 0 68719476736).bind fun t102 => (if t102 = true then ((pit_within.f a0_1 1 16777216).bind fun t103 => (if t103 = true then ((pit_divisor.f k a0_0 a0_1).bind fun t104 => (some (t104 == 1))) else (some false))) else (some false))
theorem pit_valid.mono : ∀ a0 a1 k,LeO (pit_valid.f k a0 a1) (pit_valid.f (k + 1) a0 a1):=by
 intro a0 a1 k
 unfold pit_valid.f
 repeat' first
  |(with_reducible exact pit_divisor.mono _ _ _)
  |(with_reducible exact LeO.refl _)
  |(with_reducible exact LeO.none _)
  |(with_reducible refine LeO.ite ?_ ?_)
  |(with_reducible refine LeO.bind ?_ (fun _ => ?_))
  |exact pit_divisor.mono _ _ _
  |exact LeO.none _
  |refine LeO.ite ?_ ?_
  |refine LeO.bind ?_ (fun _ => ?_)
set_option maxHeartbeats 8000000 in
set_option maxRecDepth 100000 in
theorem pit_valid.calls (k : Nat) (a0_0 : Int) (a0_1 : Int) (r : Bool) (w : World) (h : pit_valid.f k a0_0 a0_1 = some r) :
  Calls Tryz.prog 89 #[.agg #[.int .i64 a0_0,.int .i64 a0_1]] w fun e w' => e = .returned (.bool r) ∧ Below w.heap.size w w':=by
 have hu43:=Tryz.underlying43
 have HB:=am (Below.refl w.heap.size w)
 have H : ((pit_within.f a0_0 0 68719476736).bind fun t102 => (if t102 = true then ((pit_within.f a0_1 1 16777216).bind fun t103 => (if t103 = true then ((pit_divisor.f k a0_0 a0_1).bind fun t104 => (some (t104 == 1))) else (some false))) else (some false))) = some r:=h
 clear h
 replace H:=Option.bind_eq_some_iff.mp H
 obtain ⟨t102,A20,H⟩:=H
 replace H : (if t102 = true then ((pit_within.f a0_1 1 16777216).bind fun t103 => (if t103 = true then ((pit_divisor.f k a0_0 a0_1).bind fun t104 => (some (t104 == 1))) else (some false))) else (some false)) = some r:=H
 have A2:=am A20
 clear A20
 by_cases c3 : t102 = true
 ·subst c3
  have H1 : ((pit_within.f a0_1 1 16777216).bind fun t103 => (if t103 = true then ((pit_divisor.f k a0_0 a0_1).bind fun t104 => (some (t104 == 1))) else (some false))) = some r:=by rw [if_pos rfl] at H;exact H
  clear H
  have H:=H1
  clear H1
  replace H:=Option.bind_eq_some_iff.mp H
  obtain ⟨t103,A40,H⟩:=H
  replace H : (if t103 = true then ((pit_divisor.f k a0_0 a0_1).bind fun t104 => (some (t104 == 1))) else (some false)) = some r:=H
  have A4:=am A40
  clear A40
  by_cases c5 : t103 = true
  ·subst c5
   have H1 : ((pit_divisor.f k a0_0 a0_1).bind fun t104 => (some (t104 == 1))) = some r:=by rw [if_pos rfl] at H;exact H
   clear H
   have H:=H1
   clear H1
   replace H:=Option.bind_eq_some_iff.mp H
   obtain ⟨t104,A60,H⟩:=H
   replace H : (some (t104 == 1)) = some r:=H
   have A6:=am A60
   clear A60
   obtain rfl:=Option.some.inj H
   go_enter Tryz.func89,Tryz.ntmps89
   go_wp2_with (first|(refine bE 1 #[.int .i64 a0_0,.int .i64 a0_1] 43 ?_;intro gb101 hg w7 hbox hb;have BK101:=am (hbox);have GW101:=am (lg hg (below_size (v0 HB.out)) : w.heap.size ≤ gb101);have GE101:=GW101;replace HB:=am (below_step (v0 HB.out) hb);clear hb hbox hg;have hcz8_0:=bd BK101.out 0;have hcz8_1:=bd BK101.out 1;have hfz8_0:=blk_frozen BK101.out 0;have hfz8_1:=blk_frozen BK101.out 1)|(refine cE (some 5) Tryz.func106 #[.int .i64 a0_0,.int .i64 0,.int .i64 68719476736] ?_;(with_reducible refine (pit_within.calls a0_0 0 68719476736 true _ A2.out).mono ?_);rintro e w' ⟨rfl,⟨nd,rfl⟩⟩;refine ⟨_,rfl,?_⟩)|(go_at_call 106;(with_reducible refine (pit_within.calls a0_1 1 16777216 true _ A4.out).mono ?_);rintro e w' ⟨rfl,⟨nd,rfl⟩⟩)|(go_at_call 158;(with_reducible refine (pit_divisor.calls k a0_0 a0_1 t104 _ A6.out).mono ?_);rintro e w' ⟨rfl,⟨nd,rfl⟩⟩))
   go_ret
   exact ⟨vf,v1 HB.out GE101.out⟩
  ·replace c5:=Bool.eq_false_iff.mpr c5
   subst c5
   have H1 : (some false) = some r:=by rw [if_neg (show ¬ (false = true) by decide)] at H;exact H
   clear H
   have H:=H1
   clear H1
   obtain rfl:=Option.some.inj H
   go_enter Tryz.func89,Tryz.ntmps89
   go_wp2_with (first|(refine bE 1 #[.int .i64 a0_0,.int .i64 a0_1] 43 ?_;intro gb101 hg w9 hbox hb;have BK101:=am (hbox);have GW101:=am (lg hg (below_size (v0 HB.out)) : w.heap.size ≤ gb101);have GE101:=GW101;replace HB:=am (below_step (v0 HB.out) hb);clear hb hbox hg;have hcz10_0:=bd BK101.out 0;have hcz10_1:=bd BK101.out 1;have hfz10_0:=blk_frozen BK101.out 0;have hfz10_1:=blk_frozen BK101.out 1)|(refine cE (some 5) Tryz.func106 #[.int .i64 a0_0,.int .i64 0,.int .i64 68719476736] ?_;(with_reducible refine (pit_within.calls a0_0 0 68719476736 true _ A2.out).mono ?_);rintro e w' ⟨rfl,⟨nd,rfl⟩⟩;refine ⟨_,rfl,?_⟩)|(go_at_call 106;(with_reducible refine (pit_within.calls a0_1 1 16777216 false _ A4.out).mono ?_);rintro e w' ⟨rfl,⟨nd,rfl⟩⟩))
   go_ret
   exact ⟨vf,v1 HB.out GE101.out⟩
 ·replace c3:=Bool.eq_false_iff.mpr c3
  subst c3
  have H1 : (some false) = some r:=by rw [if_neg (show ¬ (false = true) by decide)] at H;exact H
  clear H
  have H:=H1
  clear H1
  obtain rfl:=Option.some.inj H
  go_enter Tryz.func89,Tryz.ntmps89
  go_wp2_with (first|(refine bE 1 #[.int .i64 a0_0,.int .i64 a0_1] 43 ?_;intro gb101 hg w11 hbox hb;have BK101:=am (hbox);have GW101:=am (lg hg (below_size (v0 HB.out)) : w.heap.size ≤ gb101);have GE101:=GW101;replace HB:=am (below_step (v0 HB.out) hb);clear hb hbox hg;have hcz12_0:=bd BK101.out 0;have hcz12_1:=bd BK101.out 1;have hfz12_0:=blk_frozen BK101.out 0;have hfz12_1:=blk_frozen BK101.out 1)|(refine cE (some 5) Tryz.func106 #[.int .i64 a0_0,.int .i64 0,.int .i64 68719476736] ?_;(with_reducible refine (pit_within.calls a0_0 0 68719476736 false _ A2.out).mono ?_);rintro e w' ⟨rfl,⟨nd,rfl⟩⟩;refine ⟨_,rfl,?_⟩))
  go_ret
  exact ⟨vf,v1 HB.out GE101.out⟩
def cmp_isNaN_int.f (a0 : Int) : Option (Bool):=some (a0 != a0)
set_option maxHeartbeats 8000000 in
set_option maxRecDepth 100000 in
theorem cmp_isNaN_int.calls (a0 : Int) (r : Bool) (w : World) (h : cmp_isNaN_int.f a0 = some r) :
  Calls Tryz.prog 210 #[.int .i64 a0] w fun e w' => e = .returned (.bool r) ∧ Drawn0 w w':=by
 have H : (some (a0 != a0)) = some r:=h
 clear h
 obtain rfl:=Option.some.inj H
 go_enter Tryz.func210,Tryz.ntmps210
 go_wp2
 go_ret
 exact ⟨ve,by repeat (first|exact Drawn0.refl _|apply Drawn0.step)⟩
def cmp_Compare_int.f (a0 : Int) (a1 : Int) : Option (Int):=(cmp_isNaN_int.f a0).bind fun t101 => ((cmp_isNaN_int.f a1).bind fun t102 => (if t101 = true then (if t102 = true then (some 0) else (some (-1))) else (if t102 = true then (some 1) else (if a0 < a1 then (some (-1)) else (if a0 > a1 then (some 1) else (some 0))))))
set_option maxHeartbeats 8000000 in
set_option maxRecDepth 100000 in
theorem cmp_Compare_int.calls (a0 : Int) (a1 : Int) (r : Int) (w : World) (h : cmp_Compare_int.f a0 a1 = some r) :
  Calls Tryz.prog 159 #[.int .i64 a0,.int .i64 a1] w fun e w' => e = .returned (.int .i64 r) ∧ Drawn0 w w':=by
 have H : ((cmp_isNaN_int.f a0).bind fun t101 => ((cmp_isNaN_int.f a1).bind fun t102 => (if t101 = true then (if t102 = true then (some 0) else (some (-1))) else (if t102 = true then (some 1) else (if a0 < a1 then (some (-1)) else (if a0 > a1 then (some 1) else (some 0))))))) = some r:=h
 clear h
 replace H:=Option.bind_eq_some_iff.mp H
 obtain ⟨t101,A30,H⟩:=H
 replace H : ((cmp_isNaN_int.f a1).bind fun t102 => (if t101 = true then (if t102 = true then (some 0) else (some (-1))) else (if t102 = true then (some 1) else (if a0 < a1 then (some (-1)) else (if a0 > a1 then (some 1) else (some 0)))))) = some r:=H
 have A3:=am A30
 clear A30
 replace H:=Option.bind_eq_some_iff.mp H
 obtain ⟨t102,A40,H⟩:=H
 replace H : (if t101 = true then (if t102 = true then (some 0) else (some (-1))) else (if t102 = true then (some 1) else (if a0 < a1 then (some (-1)) else (if a0 > a1 then (some 1) else (some 0))))) = some r:=H
 have A4:=am A40
 clear A40
 by_cases c5 : t101 = true
 ·subst c5
  have H1 : (if t102 = true then (some 0) else (some (-1))) = some r:=by rw [if_pos rfl] at H;exact H
  clear H
  have H:=H1
  clear H1
  by_cases c6 : t102 = true
  ·subst c6
   have H1 : (some 0) = some r:=by rw [if_pos rfl] at H;exact H
   clear H
   have H:=H1
   clear H1
   obtain rfl:=Option.some.inj H
   go_enter Tryz.func159,Tryz.ntmps159
   go_wp2_with (first|(refine cE (some 8) Tryz.func210 #[.int .i64 a0] ?_;(with_reducible refine (cmp_isNaN_int.calls a0 true _ A3.out).mono ?_);rintro e w' ⟨rfl,⟨nd,rfl⟩⟩;refine ⟨_,rfl,?_⟩)|(refine cE (some 10) Tryz.func210 #[.int .i64 a1] ?_;(with_reducible refine (cmp_isNaN_int.calls a1 true _ A4.out).mono ?_);rintro e w' ⟨rfl,⟨nd,rfl⟩⟩;refine ⟨_,rfl,?_⟩))
   go_ret
   exact ⟨ve,by repeat (first|exact Drawn0.refl _|apply Drawn0.step)⟩
  ·replace c6:=Bool.eq_false_iff.mpr c6
   subst c6
   have H1 : (some (-1)) = some r:=by rw [if_neg (show ¬ (false = true) by decide)] at H;exact H
   clear H
   have H:=H1
   clear H1
   obtain rfl:=Option.some.inj H
   go_enter Tryz.func159,Tryz.ntmps159
   go_wp2_with (first|(refine cE (some 8) Tryz.func210 #[.int .i64 a0] ?_;(with_reducible refine (cmp_isNaN_int.calls a0 true _ A3.out).mono ?_);rintro e w' ⟨rfl,⟨nd,rfl⟩⟩;refine ⟨_,rfl,?_⟩)|(refine cE (some 10) Tryz.func210 #[.int .i64 a1] ?_;(with_reducible refine (cmp_isNaN_int.calls a1 false _ A4.out).mono ?_);rintro e w' ⟨rfl,⟨nd,rfl⟩⟩;refine ⟨_,rfl,?_⟩))
   go_ret
   exact ⟨ve,by repeat (first|exact Drawn0.refl _|apply Drawn0.step)⟩
 ·replace c5:=Bool.eq_false_iff.mpr c5
  subst c5
  have H1 : (if t102 = true then (some 1) else (if a0 < a1 then (some (-1)) else (if a0 > a1 then (some 1) else (some 0)))) = some r:=by rw [if_neg (show ¬ (false = true) by decide)] at H;exact H
  clear H
  have H:=H1
  clear H1
  by_cases c7 : t102 = true
  ·subst c7
   have H1 : (some 1) = some r:=by rw [if_pos rfl] at H;exact H
   clear H
   have H:=H1
   clear H1
   obtain rfl:=Option.some.inj H
   go_enter Tryz.func159,Tryz.ntmps159
   go_wp2_with (first|(refine cE (some 8) Tryz.func210 #[.int .i64 a0] ?_;(with_reducible refine (cmp_isNaN_int.calls a0 false _ A3.out).mono ?_);rintro e w' ⟨rfl,⟨nd,rfl⟩⟩;refine ⟨_,rfl,?_⟩)|(refine cE (some 10) Tryz.func210 #[.int .i64 a1] ?_;(with_reducible refine (cmp_isNaN_int.calls a1 true _ A4.out).mono ?_);rintro e w' ⟨rfl,⟨nd,rfl⟩⟩;refine ⟨_,rfl,?_⟩))
   go_ret
   exact ⟨ve,by repeat (first|exact Drawn0.refl _|apply Drawn0.step)⟩
  ·replace c7:=Bool.eq_false_iff.mpr c7
   subst c7
   have H1 : (if a0 < a1 then (some (-1)) else (if a0 > a1 then (some 1) else (some 0))) = some r:=by rw [if_neg (show ¬ (false = true) by decide)] at H;exact H
   clear H
   have H:=H1
   clear H1
   by_cases c8 : a0 < a1
   ·rw [if_pos c8] at H
    have c8b0 : decide (a0 < a1) = true:=decide_eq_true c8
    clear c8
    obtain rfl:=Option.some.inj H
    go_enter Tryz.func159,Tryz.ntmps159
    go_wp2_with (first|(refine cE (some 8) Tryz.func210 #[.int .i64 a0] ?_;(with_reducible refine (cmp_isNaN_int.calls a0 false _ A3.out).mono ?_);rintro e w' ⟨rfl,⟨nd,rfl⟩⟩;refine ⟨_,rfl,?_⟩)|(refine cE (some 10) Tryz.func210 #[.int .i64 a1] ?_;(with_reducible refine (cmp_isNaN_int.calls a1 false _ A4.out).mono ?_);rintro e w' ⟨rfl,⟨nd,rfl⟩⟩;refine ⟨_,rfl,?_⟩))
    go_ret
    exact ⟨ve,by repeat (first|exact Drawn0.refl _|apply Drawn0.step)⟩
   ·rw [if_neg c8] at H
    have c8b0 : decide (a0 < a1) = false:=decide_eq_false c8
    clear c8
    by_cases c9 : a0 > a1
    ·rw [if_pos c9] at H
     have c9b0 : decide (a1 < a0) = true:=decide_eq_true c9
     clear c9
     obtain rfl:=Option.some.inj H
     go_enter Tryz.func159,Tryz.ntmps159
     go_wp2_with (first|(refine cE (some 8) Tryz.func210 #[.int .i64 a0] ?_;(with_reducible refine (cmp_isNaN_int.calls a0 false _ A3.out).mono ?_);rintro e w' ⟨rfl,⟨nd,rfl⟩⟩;refine ⟨_,rfl,?_⟩)|(refine cE (some 10) Tryz.func210 #[.int .i64 a1] ?_;(with_reducible refine (cmp_isNaN_int.calls a1 false _ A4.out).mono ?_);rintro e w' ⟨rfl,⟨nd,rfl⟩⟩;refine ⟨_,rfl,?_⟩))
     go_ret
     exact ⟨ve,by repeat (first|exact Drawn0.refl _|apply Drawn0.step)⟩
    ·rw [if_neg c9] at H
     have c9b0 : decide (a1 < a0) = false:=decide_eq_false c9
     clear c9
     obtain rfl:=Option.some.inj H
     go_enter Tryz.func159,Tryz.ntmps159
     go_wp2_with (first|(refine cE (some 8) Tryz.func210 #[.int .i64 a0] ?_;(with_reducible refine (cmp_isNaN_int.calls a0 false _ A3.out).mono ?_);rintro e w' ⟨rfl,⟨nd,rfl⟩⟩;refine ⟨_,rfl,?_⟩)|(refine cE (some 10) Tryz.func210 #[.int .i64 a1] ?_;(with_reducible refine (cmp_isNaN_int.calls a1 false _ A4.out).mono ?_);rintro e w' ⟨rfl,⟨nd,rfl⟩⟩;refine ⟨_,rfl,?_⟩))
     go_ret
     exact ⟨ve,by repeat (first|exact Drawn0.refl _|apply Drawn0.step)⟩
def pit_compare.f (a0_0 : Int) (a0_1 : Int) (a1_0 : Int) (a1_1 : Int) : Option (Int):=(cmp_Compare_int.f (wrap64 (a0_0 * a1_1)) (wrap64 (a1_0 * a0_1))).bind fun t103 => (some t103)
set_option maxHeartbeats 8000000 in
set_option maxRecDepth 100000 in
theorem pit_compare.calls (a0_0 : Int) (a0_1 : Int) (a1_0 : Int) (a1_1 : Int) (r : Int) (w : World) (h : pit_compare.f a0_0 a0_1 a1_0 a1_1 = some r) :
  Calls Tryz.prog 91 #[.agg #[.int .i64 a0_0,.int .i64 a0_1],.agg #[.int .i64 a1_0,.int .i64 a1_1]] w fun e w' => e = .returned (.int .i64 r) ∧ Below w.heap.size w w':=by
 have hu43:=Tryz.underlying43
 have HB:=am (Below.refl w.heap.size w)
 have H : ((cmp_Compare_int.f (wrap64 (a0_0 * a1_1)) (wrap64 (a1_0 * a0_1))).bind fun t103 => (some t103)) = some r:=h
 clear h
 replace H:=Option.bind_eq_some_iff.mp H
 obtain ⟨t103,A30,H⟩:=H
 replace H : (some t103) = some r:=H
 have A3:=am A30
 clear A30
 obtain rfl:=Option.some.inj H
 go_enter Tryz.func91,Tryz.ntmps91
 go_wp2_with (first|(refine bE 2 #[.int .i64 a0_0,.int .i64 a0_1] 43 ?_;intro gb101 hg w4 hbox hb;have BK101:=am (hbox);have GW101:=am (lg hg (below_size (v0 HB.out)) : w.heap.size ≤ gb101);have GE101:=GW101;replace HB:=am (below_step (v0 HB.out) hb);clear hb hbox hg)|(refine bE 3 #[.int .i64 a1_0,.int .i64 a1_1] 43 ?_;intro gb102 hg w5 hbox hb;have BK102:=am (hbox);have GW102:=am (lg hg (below_size (v1 HB.out GE101.out)) : w.heap.size ≤ gb102);have GE102:=GW102;have NB101_102:=am (nl hg (vb BK101.out));have NB102_101:=am ((nl hg (vb BK101.out)).symm);replace BK101:=am (blk_below (vb BK101.out) hb);replace HB:=am (below_step (v1 HB.out GE101.out) hb);clear hb hbox hg;have hnb6:=NB101_102.out;have hnc6:=NB102_101.out;have hcz7_0:=bd BK101.out 0;have hcz7_1:=bd BK101.out 1;have hfz7_0:=blk_frozen BK101.out 0;have hfz7_1:=blk_frozen BK101.out 1;have hcz8_0:=bd BK102.out 0;have hcz8_1:=bd BK102.out 1;have hfz8_0:=blk_frozen BK102.out 0;have hfz8_1:=blk_frozen BK102.out 1)|(refine cE (some 15) Tryz.func159 #[.int .i64 (wrap64 (a0_0 * a1_1)),.int .i64 (wrap64 (a1_0 * a0_1))] ?_;(with_reducible refine (cmp_Compare_int.calls (wrap64 (a0_0 * a1_1)) (wrap64 (a1_0 * a0_1)) t103 _ A3.out).mono ?_);rintro e w' ⟨rfl,⟨nd,rfl⟩⟩;refine ⟨_,rfl,?_⟩))
 go_ret
 exact ⟨vf,v2 HB.out GE101.out GE102.out⟩
def pit_result.f (k : Nat) (a0_0 : Int) (a0_1 : Int) : Option (Int × Int × Int):=(pit_valid.f k a0_0 a0_1).bind fun t103 => (if t103 = true then (some (a0_0,a0_1,0)) else (some (0,0,3)))
theorem pit_result.mono : ∀ a0 a1 k,LeO (pit_result.f k a0 a1) (pit_result.f (k + 1) a0 a1):=by
 intro a0 a1 k
 unfold pit_result.f
 repeat' first
  |(with_reducible exact pit_valid.mono _ _ _)
  |(with_reducible exact LeO.refl _)
  |(with_reducible exact LeO.none _)
  |(with_reducible refine LeO.ite ?_ ?_)
  |(with_reducible refine LeO.bind ?_ (fun _ => ?_))
  |exact pit_valid.mono _ _ _
  |exact LeO.none _
  |refine LeO.ite ?_ ?_
  |refine LeO.bind ?_ (fun _ => ?_)
set_option maxHeartbeats 8000000 in
set_option maxRecDepth 100000 in
theorem pit_result.calls (k : Nat) (a0_0 : Int) (a0_1 : Int) (r1 : Int) (r2 : Int) (r3 : Int) (w : World) (h : pit_result.f k a0_0 a0_1 = some (r1,r2,r3)) :
  Calls Tryz.prog 92 #[.agg #[.int .i64 a0_0,.int .i64 a0_1]] w fun e w' => e = .returned (.tuple #[.agg #[.int .i64 r1,.int .i64 r2],.int .i64 r3]) ∧ Below w.heap.size w w':=by
 have hu43:=Tryz.underlying43
 have HB:=am (Below.refl w.heap.size w)
 have H : ((pit_valid.f k a0_0 a0_1).bind fun t103 => (if t103 = true then (some (a0_0,a0_1,0)) else (some (0,0,3)))) = some (r1,r2,r3):=h
 clear h
 replace H:=Option.bind_eq_some_iff.mp H
 obtain ⟨t103,A20,H⟩:=H
 replace H : (if t103 = true then (some (a0_0,a0_1,0)) else (some (0,0,3))) = some (r1,r2,r3):=H
 have A2:=am A20
 clear A20
 by_cases c3 : t103 = true
 ·subst c3
  have H1 : (some (a0_0,a0_1,0)) = some (r1,r2,r3):=by rw [if_pos rfl] at H;exact H
  clear H
  have H:=H1
  clear H1
  simp only [Option.some.injEq,Prod.mk.injEq] at H
  obtain ⟨rfl,rfl,rfl⟩:=H
  go_enter Tryz.func92,Tryz.ntmps92
  go_wp2_with (first|(refine bE 1 #[.int .i64 a0_0,.int .i64 a0_1] 43 ?_;intro gb101 hg w4 hbox hb;have BK101:=am (hbox);have GW101:=am (lg hg (below_size (v0 HB.out)) : w.heap.size ≤ gb101);have GE101:=GW101;replace HB:=am (below_step (v0 HB.out) hb);clear hb hbox hg)|(refine bE 2 #[.int .i64 0,.int .i64 0] 43 ?_;intro gb102 hg w5 hbox hb;have BK102:=am (hbox);have GW102:=am (lg hg (below_size (v1 HB.out GE101.out)) : w.heap.size ≤ gb102);have GE102:=GW102;have NB101_102:=am (nl hg (vb BK101.out));have NB102_101:=am ((nl hg (vb BK101.out)).symm);replace BK101:=am (blk_below (vb BK101.out) hb);replace HB:=am (below_step (v1 HB.out GE101.out) hb);clear hb hbox hg;have hnb6:=NB101_102.out;have hnc6:=NB102_101.out;have hcz7_0:=bd BK101.out 0;have hcz7_1:=bd BK101.out 1;have hfz7_0:=blk_frozen BK101.out 0;have hfz7_1:=blk_frozen BK101.out 1)|(refine cE (some 5) Tryz.func89 #[.agg #[.int .i64 a0_0,.int .i64 a0_1]] ?_;(with_reducible refine (pit_valid.calls k a0_0 a0_1 true _ A2.out).mono ?_);rintro e w8 ⟨rfl,hb⟩;refine ⟨_,rfl,?_⟩;replace BK101:=am (blk_below (vb BK101.out) hb);replace BK102:=am (blk_below (vb BK102.out) hb);replace HB:=am (below_step (v2 HB.out GE101.out GE102.out) hb);(try clear hb);(try clear hb2);(try clear hk);(try clear hi);have hcz9_0:=bd BK101.out 0;have hcz9_1:=bd BK101.out 1;have hfz9_0:=blk_frozen BK101.out 0;have hfz9_1:=blk_frozen BK101.out 1;have hcz10_0:=bd BK102.out 0;have hcz10_1:=bd BK102.out 1;have hfz10_0:=blk_frozen BK102.out 0;have hfz10_1:=blk_frozen BK102.out 1))
  refine bodyPost_ret (results_ct rfl _ _ gb102 43 #[.int .i64 a0_0,.int .i64 a0_1] (0,0) _ rfl (by (with_reducible repeat (first|refine blk_drewN ?_ _|refine blk_drew ?_|refine blk_alloc ?_ _));refine blk_put (cs:=#[.int .i64 a0_0,.int .i64 0]) ?_ 1 _ rfl;(with_reducible repeat (first|refine blk_drewN ?_ _|refine blk_drew ?_|refine blk_alloc ?_ _));refine blk_put (cs:=#[.int .i64 0,.int .i64 0]) ?_ 0 _ rfl;(with_reducible repeat (first|refine blk_drewN ?_ _|refine blk_drew ?_|refine blk_alloc ?_ _));exact BK102.out) Tryz.underlying43 rfl kr) rfl ?_
  exact ⟨vf,v2 HB.out GE101.out GE102.out⟩
 ·replace c3:=Bool.eq_false_iff.mpr c3
  subst c3
  have H1 : (some (0,0,3)) = some (r1,r2,r3):=by rw [if_neg (show ¬ (false = true) by decide)] at H;exact H
  clear H
  have H:=H1
  clear H1
  simp only [Option.some.injEq,Prod.mk.injEq] at H
  obtain ⟨rfl,rfl,rfl⟩:=H
  go_enter Tryz.func92,Tryz.ntmps92
  go_wp2_with (first|(refine bE 1 #[.int .i64 a0_0,.int .i64 a0_1] 43 ?_;intro gb101 hg w11 hbox hb;have BK101:=am (hbox);have GW101:=am (lg hg (below_size (v0 HB.out)) : w.heap.size ≤ gb101);have GE101:=GW101;replace HB:=am (below_step (v0 HB.out) hb);clear hb hbox hg)|(refine bE 2 #[.int .i64 0,.int .i64 0] 43 ?_;intro gb102 hg w12 hbox hb;have BK102:=am (hbox);have GW102:=am (lg hg (below_size (v1 HB.out GE101.out)) : w.heap.size ≤ gb102);have GE102:=GW102;have NB101_102:=am (nl hg (vb BK101.out));have NB102_101:=am ((nl hg (vb BK101.out)).symm);replace BK101:=am (blk_below (vb BK101.out) hb);replace HB:=am (below_step (v1 HB.out GE101.out) hb);clear hb hbox hg;have hnb13:=NB101_102.out;have hnc13:=NB102_101.out;have hcz14_0:=bd BK101.out 0;have hcz14_1:=bd BK101.out 1;have hfz14_0:=blk_frozen BK101.out 0;have hfz14_1:=blk_frozen BK101.out 1)|(refine cE (some 5) Tryz.func89 #[.agg #[.int .i64 a0_0,.int .i64 a0_1]] ?_;(with_reducible refine (pit_valid.calls k a0_0 a0_1 false _ A2.out).mono ?_);rintro e w15 ⟨rfl,hb⟩;refine ⟨_,rfl,?_⟩;replace BK101:=am (blk_below (vb BK101.out) hb);replace BK102:=am (blk_below (vb BK102.out) hb);replace HB:=am (below_step (v2 HB.out GE101.out GE102.out) hb);(try clear hb);(try clear hb2);(try clear hk);(try clear hi);have hcz16_0:=bd BK102.out 0;have hcz16_1:=bd BK102.out 1;have hfz16_0:=blk_frozen BK102.out 0;have hfz16_1:=blk_frozen BK102.out 1))
  refine bodyPost_ret (results_ct rfl _ _ gb102 43 #[.int .i64 0,.int .i64 0] (0,0) _ rfl (by (with_reducible repeat (first|refine blk_drewN ?_ _|refine blk_drew ?_|refine blk_alloc ?_ _));refine blk_put (cs:=#[.int .i64 0,.int .i64 0]) ?_ 1 _ rfl;(with_reducible repeat (first|refine blk_drewN ?_ _|refine blk_drew ?_|refine blk_alloc ?_ _));refine blk_put (cs:=#[.int .i64 0,.int .i64 0]) ?_ 0 _ rfl;(with_reducible repeat (first|refine blk_drewN ?_ _|refine blk_drew ?_|refine blk_alloc ?_ _));exact BK102.out) Tryz.underlying43 rfl kr) rfl ?_
  exact ⟨vf,v2 HB.out GE101.out GE102.out⟩
@[irreducible] def FU : Nat:=9223372036854775808
theorem FU_lt {n : Nat} (h : n < 9223372036854775808) : n < FU:=by unfold FU;exact h
theorem wrap_in {n : Int} (h0 : -9223372036854775808 ≤ n) (h1 : n < 9223372036854775808) : wrap64 n = n:=by unfold wrap64;omega
theorem tdiv_nn {a b : Int} (ha : 0 ≤ a) (hb : 0 ≤ b) : Int.tdiv a b = a / b:=Int.tdiv_eq_ediv_of_nonneg ha
theorem divisor_l0 : ∀ (k : Nat) (a b : Int),0 ≤ a → 0 ≤ b → b.toNat < k → pit_divisor.l0 k a b = some (Int.gcd a b : Int)
|0,a,b,_,_,h => by omega
|k + 1,a,b,ha,hb,h => by
  simp only [pit_divisor.l0]
  by_cases c : b > 0
  ·rw [if_pos c,if_neg (by omega),Int.tmod_eq_emod_of_nonneg ha]
   have h1:=Int.emod_nonneg a (show b ≠ 0 by omega)
   have h2:=Int.emod_lt_of_pos a c
   rw [divisor_l0 k b (a % b) hb h1 (by omega)]
   congr 2
   obtain ⟨a,rfl⟩:=Int.eq_ofNat_of_zero_le ha
   obtain ⟨b,rfl⟩:=Int.eq_ofNat_of_zero_le hb
   rw [← Int.natCast_emod,Int.gcd_natCast_natCast,Int.gcd_natCast_natCast,Nat.gcd_comm a b,Nat.gcd_rec b a,Nat.gcd_comm]
  ·obtain rfl : b = 0:=by omega
   rw [if_neg c]
   congr 1
   simp only [Int.gcd_zero]
   omega
theorem divisor_some {a b : Int} (ha : 0 ≤ a) (hb : 0 ≤ b) (h : b < 9223372036854775808) : pit_divisor.f FU a b = some (Int.gcd a b : Int):=by
 unfold pit_divisor.f
 exact divisor_l0 _ a b ha hb (FU_lt (by omega))
theorem div_range {a b : Int} (ha : 0 ≤ a) (hb : 0 ≤ b) (h : a < 9223372036854775808) : wrap64 (Int.tdiv a b) = a / b:=by
 rw [tdiv_nn ha hb]
 have h1:=Int.ediv_nonneg ha hb
 have h2:=Int.ediv_le_self b ha
 exact wrap_in (by omega) (by omega)
theorem gcd_ne {a b : Int} (hb : 1 ≤ b) : (Int.gcd a b : Int) ≠ 0:=by
 intro e
 have : Int.gcd a b = 0:=by omega
 have:=(Int.gcd_eq_zero_iff.1 this).2
 omega
theorem ratio_some {n d : Int} (hn : 0 ≤ n) (hn2 : n < 9223372036854775808) (hd : 1 ≤ d) (hd2 : d < 9223372036854775808) : pit_ratio.f FU n d = some ((ratioP n d).f0,(ratioP n d).f1):=by
 unfold pit_ratio.f
 rw [divisor_some hn (by omega) hd2]
 simp only [Option.bind_some]
 rw [if_neg (gcd_ne hd),div_range hn (by omega) hn2,div_range (by omega) (by omega) hd2]
 rfl
theorem mul_bound {a b x y : Int} (ha : 0 ≤ a) (hb : 0 ≤ b) (hx : a ≤ x) (hy : b ≤ y) : 0 ≤ a * b ∧ a * b ≤ x * y:=⟨Int.mul_nonneg ha hb,Int.mul_le_mul hx hy hb (by omega)⟩
theorem times_some {a : S43} {n m : Int} (ha : Rok a) (h0 : a.f0 ≤ 68719476736) (h1 : a.f1 ≤ 16777216) (hn : 0 ≤ n) (hn2 : n ≤ 16384) (hm : 1 ≤ m) (hm2 : m ≤ 16384) :
  pit_times.f FU a.f0 a.f1 n m = some ((timesP a n m).f0,(timesP a n m).f1):=by
 have b1:=mul_bound ha.1 hn h0 hn2
 have b2:=mul_bound (show 0 ≤ a.f1 by have:=ha.2.1;omega) (show 0 ≤ m by omega) h1 hm2
 have b3:=mul_pos_ ha.2.1 hm
 unfold pit_times.f
 rw [wrap_in (n:=a.f0 * n) (by omega) (by omega),wrap_in (n:=a.f1 * m) (by omega) (by omega),ratio_some b1.1 (by omega) b3 (by omega)]
 rfl
theorem add_some {a b : S43} (ha : Rok a) (hb : Rok b) (h0 : a.f0 ≤ 68719476736) (h1 : a.f1 ≤ 16777216) (h2 : b.f0 ≤ 68719476736) (h3 : b.f1 ≤ 16777216) :
  pit_add.f FU a.f0 a.f1 b.f0 b.f1 = some ((addP a b).f0,(addP a b).f1):=by
 have ha1:=ha.2.1
 have hb1:=hb.2.1
 have ha0:=ha.1
 have hb0:=hb.1
 unfold pit_add.f
 rw [divisor_some (by omega) (by omega) (by omega)]
 simp only [Option.bind_some]
 have hg:=gcd_ne (a:=a.f1) hb1
 rw [if_neg hg,div_range (by omega) (by omega) (by omega),div_range (by omega) (by omega) (by omega)]
 rw [← add_impl ha hb]
 obtain ⟨g,hgg⟩ : ∃ g : Int,g = (Int.gcd a.f1 b.f1 : Int):=⟨_,rfl⟩
 have hg0 : 1 ≤ g:=by rw [hgg];omega
 have hd1 : g ∣ a.f1:=by rw [hgg];exact Int.gcd_dvd_left _ _
 rw [← hgg]
 have p1:=Int.ediv_nonneg (show 0 ≤ b.f1 by omega) (show 0 ≤ g by omega)
 have p2:=Int.ediv_le_self g (show 0 ≤ b.f1 by omega)
 have p3:=Int.ediv_nonneg (show 0 ≤ a.f1 by omega) (show 0 ≤ g by omega)
 have p4:=Int.ediv_le_self g (show 0 ≤ a.f1 by omega)
 have p5 : 1 ≤ a.f1 / g:=by
  obtain ⟨c,hc⟩:=hd1
  rw [hc,Int.mul_ediv_cancel_left _ (by omega)]
  rcases Int.lt_or_le 0 c with h|h
  ·omega
  ·have:=Int.mul_nonneg (show 0 ≤ g by omega) (show 0 ≤ -c by omega)
   rw [Int.mul_neg] at this
   omega
 have q1:=mul_bound ha0 p1 h0 (show b.f1 / g ≤ 16777216 by omega)
 have q2:=mul_bound hb0 p3 h2 (show a.f1 / g ≤ 16777216 by omega)
 have q3:=mul_bound p3 (show 0 ≤ b.f1 by omega) (show a.f1 / g ≤ 16777216 by omega) h3
 have q4:=mul_pos_ p5 hb1
 rw [wrap_in (n:=a.f0 * (b.f1 / g)) (by omega) (by omega),wrap_in (n:=b.f0 * (a.f1 / g)) (by omega) (by omega),wrap_in (n:=a.f0 * (b.f1 / g) + b.f0 * (a.f1 / g)) (by omega) (by omega),wrap_in (n:=a.f1 / g * b.f1) (by omega) (by omega)]
 rw [ratio_some (by omega) (by omega) q4 (by omega)]
 rfl
theorem within_some (a b c : Int) : pit_within.f a b c = some (decide (b ≤ a ∧ a ≤ c)):=by
 unfold pit_within.f
 by_cases h : b ≤ a <;> simp [h]
theorem valid_some (r : S43) : pit_valid.f FU r.f0 r.f1 = some (validP r):=by
 unfold pit_valid.f validP
 rw [within_some,within_some]
 simp only [Option.bind_some,decide_eq_true_eq]
 by_cases h1 : 0 ≤ r.f0 ∧ r.f0 ≤ 68719476736
 ·rw [if_pos h1]
  by_cases h2 : 1 ≤ r.f1 ∧ r.f1 ≤ 16777216
  ·rw [if_pos h2,divisor_some h1.1 (by omega) (by omega)]
   simp only [Option.bind_some]
   congr 1
   by_cases h3 : Int.gcd r.f0 r.f1 = 1
   ·simp [h1,h2,h3]
   ·simp only [h1,h2,h3,and_false,decide_false]
    have : (Int.gcd r.f0 r.f1 : Int) ≠ 1:=by omega
    simpa using this
  ·rw [if_neg h2]
   simp only [h2,false_and,and_false,decide_false]
 ·rw [if_neg h1]
  simp only [h1,false_and,decide_false]
theorem compare_some {a b : S43} (ha : Rok a) (hb : Rok b) (h0 : a.f0 * b.f1 < 9223372036854775808) (h1 : b.f0 * a.f1 < 9223372036854775808) : pit_compare.f a.f0 a.f1 b.f0 b.f1 = some (cmpP a b):=by
 have b1:=Int.mul_nonneg ha.1 (show 0 ≤ b.f1 by have:=hb.2.1;omega)
 have b2:=Int.mul_nonneg hb.1 (show 0 ≤ a.f1 by have:=ha.2.1;omega)
 unfold pit_compare.f
 rw [wrap_in (n:=a.f0 * b.f1) (by omega) h0,wrap_in (n:=b.f0 * a.f1) (by omega) h1]
 unfold cmpP cmp_Compare_int.f cmp_isNaN_int.f
 simp only [bne_self_eq_false,Option.bind_some,Bool.false_eq_true,if_false]
 split
 ·rfl
 ·split <;> rfl
section
theorem blk_new' (w : World) (o : Obj) (k : Nat) (h : k = w.heap.size) : (w.alloc o).heap[k]? = some o:=by subst h;exact blk_new w o
def ft {α : Type} (d : Kd α) (W : World) (ok : Nat → Prop) : Kd α where
 sz:=d.sz
 E:=[]
 K:=fun _ x cs => Kd.FK d W ok x cs
 M:=fun _ _ _ x cs => Kd.FK d W ok x cs
 K_len:=fun h => d.K_len (Foot.now h)
 K_one:=fun h => d.K_one (Foot.now h)
 K_below:=fun _ h => h
 K_of_M:=fun h => h
 M_mono:=fun _ h => h
 M_bound:=fun h => h
 M_move:=fun _ h => h
 M_lower:=fun _ h => h
structure Loc where
 g : Nat
 gp : Nat
 vr : Value
 vo : Value
 vd : Value
 vb : Value
 vl : Value
 bad : Nat → Prop
def Loc.Mine (L : Loc) (k : Nat) : Prop:=k = L.g ∨ k = L.gp ∨ L.vo.ownBlock = some k ∨ L.vd.ownBlock = some k ∨ L.vb.ownBlock = some k ∨ L.vl.ownBlock = some k ∨ L.bad k
def Loc.Not (L : Loc) (k : Nat) : Prop:=¬ L.Mine k
structure YardAt (W : World) (base : Nat) (L : Loc) (Y : Yd) : Prop where
 gbase : base ≤ L.g
 bad : ∀ k,L.bad k → k < base
 blk : W.heap[L.g]? = some (.cells #[L.vr,.slice (some ⟨L.gp,0,none⟩) Y.rooms.length Y.rooms.length,L.vo,L.vd,L.vb,L.vl] 165 (0,0))
 rooms : Kd.FK (Kd.slice 3 (Kd.int .i64)) W L.Not Y.rooms [L.vr]
 pits : (ft (Kd.slice 212 k212) W L.Not).R 131 W base (fun _ => True) (.slice (some ⟨L.gp,0,none⟩) Y.rooms.length Y.rooms.length) Y.pits
 pours : (Kd.int .i64).R 3 W base (fun _ => True) L.vo Y.pours
 days : (Kd.int .i64).R 3 W base (fun _ => True) L.vd Y.days
 apart : NeRow L.vo L.vd
 barrows : (ft k167 W L.Not).R 167 W base (fun _ => True) L.vb Y.barrows
 lost : (ft k212 W L.Not).R 212 W base (fun _ => True) L.vl Y.lost
structure Fr (W : World) (L : Loc) (W' : World) (L' : Loc) : Prop where
 size : W.heap.size ≤ W'.heap.size
 keep : ∀ k,k < W.heap.size → L.Not k → W'.heap[k]? = W.heap[k]? ∧ L'.Not k
 bad : L'.bad = L.bad
theorem Fr.refl (W : World) (L : Loc) : Fr W L W L:=⟨Nat.le_refl _,fun _ _ h => ⟨rfl,h⟩,rfl⟩
theorem Fr.trans {W W1 W2 : World} {L L1 L2 : Loc} (h : Fr W L W1 L1) (k : Fr W1 L1 W2 L2) : Fr W L W2 L2 :=
 ⟨Nat.le_trans h.size k.size,fun i hi hn => by
  obtain ⟨e1,n1⟩:=h.keep i hi hn
  obtain ⟨e2,n2⟩:=k.keep i (Nat.lt_of_lt_of_le hi h.size) n1
  exact ⟨e2.trans e1,n2⟩,k.bad.trans h.bad⟩
theorem Fr.of_below {W W1 : World} (L : Loc) (h : Below W.heap.size W W1) : Fr W L W1 L:=⟨h.size,fun i hi hn => ⟨h.block i hi,hn⟩,rfl⟩
theorem Foot_fr {P : World → Prop} {W W' : World} {L L' : Loc} (h : Foot P W L.Not) (hf : Fr W L W' L') : Foot P W' L'.Not:=fun W2 h2 => h W2 fun k hk hlt => by
 obtain ⟨e1,n1⟩:=hf.keep k hlt hk
 exact (h2 k n1 (Nat.lt_of_lt_of_le hlt hf.size)).trans e1
theorem ft_fr {α : Type} {d : Kd α} {W W' w : World} {L L' : Loc} {e base : Nat} {ok : Nat → Prop} {v : Value} {xs : List α} (h : (ft d W L.Not).R e w base ok v xs) (hf : Fr W L W' L') : (ft d W' L'.Not).R e w base ok v xs :=
 ⟨h.1,h.2.imp_ (fun _ _ (hp : Kd.FK d W L.Not _ _) => (Foot_fr hp hf : Kd.FK d W' L'.Not _ _))⟩
theorem R_own_move {α : Type} {d : Kd α} {w w1 : World} {e base : Nat} {ok : Nat → Prop} {v : Value} {xs : List α} (hE : d.E = []) (h : d.R e w base ok v xs) (hm : ∀ k,v.ownBlock = some k → w1.heap[k]? = w.heap[k]?) : d.R e w1 base ok v xs :=
 Kd.R_mono (Kd.R_step (Kd.R_tight hE h) (fun k hk _ => hm k hk.symm)) (fun k hk => h.1 k hk.symm)
theorem R_off {α β : Type} {d : Kd α} {d' : Kd β} {w : World} {e e' base base' : Nat} {ok ok' : Nat → Prop} {v v' : Value} {xs : List α} {ys : List β} (h : d.R e w base ok v xs) (h' : d'.R e' w base' ok' v' ys) (hne : e ≠ e') : ∀ k,v.ownBlock = some k → v'.ownBlock ≠ some k:=fun k hk hk' => by
 obtain ⟨c1,h1⟩:=Kd.R_typed h k hk
 obtain ⟨c2,h2⟩:=Kd.R_typed h' k hk'
 rw [h1] at h2
 injection h2 with h2
 injection h2 with _ h2
 exact hne h2
theorem R_offg {α : Type} {d : Kd α} {w : World} {e base g : Nat} {ok : Nat → Prop} {v : Value} {xs : List α} {cs : Array Value} {t : Nat} (h : d.R e w base ok v xs) (hb : w.heap[g]? = some (.cells cs t (0,0))) (hne : e ≠ t) : v.ownBlock ≠ some g:=fun hk => by
 obtain ⟨c1,h1⟩:=Kd.R_typed h g hk
 rw [hb] at h1
 injection h1 with h1
 injection h1 with _ h1
 exact hne h1.symm
section
variable {W W' w1 : World} {base : Nat} {L L' : Loc} {Y : Yd}
theorem YardAt.move (h : YardAt W base L Y) (hb : Below W.heap.size W W') : YardAt W' base L Y :=
 have f:=Fr.of_below L hb
 { gbase:=h.gbase,bad:=h.bad,blk:=blk_below h.blk hb,rooms:=Foot_fr h.rooms f,pits:=ft_fr (Kd.R_below h.pits hb) f,pours:=Kd.R_below h.pours hb,days:=Kd.R_below h.days hb,apart:=h.apart,barrows:=ft_fr (Kd.R_below h.barrows hb) f,lost:=ft_fr (Kd.R_below h.lost hb) f }
theorem YardAt.gLt (h : YardAt W base L Y) : base ≤ L.g ∧ L.g < W.heap.size:=⟨h.gbase,blk_lt h.blk⟩
theorem YardAt.lt (h : YardAt W base L Y) {k : Nat} (hk : L.Mine k) : k < W.heap.size:=by
 rcases hk with rfl|rfl|hk|hk|hk|hk|hk
 ·exact blk_lt h.blk
 ·exact Kd.R_lt h.pits _ rfl
 ·exact Kd.R_lt h.pours _ hk
 ·exact Kd.R_lt h.days _ hk
 ·exact Kd.R_lt h.barrows _ hk
 ·exact Kd.R_lt h.lost _ hk
 ·have:=h.bad k hk
  have:=h.gLt
  omega
theorem YardAt.not_new (h : YardAt W base L Y) {k : Nat} (hk : W.heap.size ≤ k) : L.Not k:=fun hm => by have:=h.lt hm;omega
theorem YardAt.plen (h : YardAt W base L Y) : Y.pits.length = Y.rooms.length:=(Kd.R_reads' h.pits).1.symm
theorem YardAt.rooms_C (h : YardAt W base L Y) : ∃ A c,L.vr = .slice A Y.rooms.length c ∧ Y.rooms.length ≤ c ∧ Kd.C (Kd.int .i64) W A Y.rooms.length Y.rooms:=by
 obtain ⟨A,c,e,h1,h2⟩:=Foot.now h.rooms
 injection e with e _
 exact ⟨A,c,e,h1,h2⟩
theorem YardAt.pit_at (h : YardAt W base L Y) {i : Int} (h0 : 0 ≤ i) (h1 : i < Y.rooms.length) : ∃ A c,W.cell? ⟨L.gp,i.toNat,none⟩ = some (.slice A (pitP Y i).length c) ∧ (pitP Y i).length ≤ c ∧ Kd.F k212 W L.Not A (pitP Y i).length (pitP Y i) ∧ W.frozen? ⟨L.gp,i.toNat,none⟩ = false:=by
 obtain ⟨c,hcl,hM,hcc,hfr⟩:=Kd.R_elem h.pits ([] : List S212) i h0 h1
 have hM' : Kd.FK (Kd.slice 212 k212) W L.Not (pitP Y i) c:=hM
 obtain ⟨A,cp,e,hl,_⟩:=Foot.now hM'
 subst e
 have h2:=hcc 0 _ rfl
 have h3:=hfr 0
 have e1 : i.toNat * (ft (Kd.slice 212 k212) W L.Not).sz + 0 = i.toNat:=by show i.toNat * 1 + 0 = _;omega
 rw [e1] at h2 h3
 refine ⟨A,cp,h2,hl,fun W2 hW => ?_,h3⟩
 obtain ⟨A',c',e',_,hC⟩:=hM' W2 hW
 injection e' with e' _
 injection e' with ea _ _
 rw [ea]
 exact hC
theorem YardAt.rows_far (h : YardAt W base L Y) {r : Option Nat} (hg : W.grownBy w1 r) (j : Nat) (u : Value) :
  (∀ k,k < W.heap.size → some k ≠ r → k ≠ L.g → (w1.setCell ⟨L.g,j,none⟩ u).heap[k]? = W.heap[k]?) :=
 fun k hk h1 h2 => (Below.heap_setCell w1 ⟨L.g,j,none⟩ u k h2).trans (hg.block k hk h1)
theorem YardAt.set_barrows (h : YardAt W base L Y) {bs : List S167} {v1 : Value} (hr : (ft k167 W L.Not).R 167 w1 base (fun _ => True) v1 bs) (hg : W.grownBy w1 L.vb.ownBlock) (hat : v1.ownBlock = L.vb.ownBlock ∨ ∃ b,v1.ownBlock = some b ∧ W.heap.size ≤ b) :
  YardAt (w1.setCell ⟨L.g,4,none⟩ v1) base { L with vb:=v1 } { Y with barrows:=bs } ∧ Fr W L (w1.setCell ⟨L.g,4,none⟩ v1) { L with vb:=v1 } ∧ w1.cell? ⟨L.g,4,none⟩ = some L.vb ∧ w1.frozen? ⟨L.g,4,none⟩ = false:=by
 have hgb : some L.g ≠ L.vb.ownBlock:=fun e => R_offg h.barrows h.blk (by decide) e.symm
 have hB : w1.heap[L.g]? = _:=blk_grown h.blk hg hgb
 have far:=h.rows_far hg 4 v1
 have f : Fr W L (w1.setCell ⟨L.g,4,none⟩ v1) { L with vb:=v1 }:=⟨by rw [World.size_setCell];exact hg.size,fun k hk hn => by
  refine ⟨far k hk (fun e => hn (.inr (.inr (.inr (.inr (.inl e.symm)))))) (fun e => hn (.inl e)),fun hm => ?_⟩
  rcases hm with e|e|e|e|e|e
  ·exact hn (.inl e)
  ·exact hn (.inr (.inl e))
  ·exact hn (.inr (.inr (.inl e)))
  ·exact hn (.inr (.inr (.inr (.inl e))))
  ·rcases hat with hat|⟨b,hb,hle⟩
   ·exact hn (.inr (.inr (.inr (.inr (.inl (hat.symm.trans e))))))
   ·have : some b = some k:=hb.symm.trans e
    injection this with this
    omega
  ·exact hn (.inr (.inr (.inr (.inr (.inr e))))),rfl⟩
 have mv : ∀ {α : Type} {d : Kd α} {e : Nat} {v : Value} {xs : List α},d.E = [] → d.R e W base (fun _ => True) v xs → e ≠ 167 → e ≠ 165 → d.R e (w1.setCell ⟨L.g,4,none⟩ v1) base (fun _ => True) v xs:=fun hE hR n1 n2 =>
  R_own_move hE hR fun k hk => far k (Kd.R_lt hR k hk) (fun e => R_off hR h.barrows n1 k hk e.symm) (fun e => R_offg hR h.blk n2 (e ▸ hk))
 refine ⟨{ gbase:=h.gbase,bad:=h.bad,blk:=blk_put hB 4 v1 rfl,rooms:=Foot_fr h.rooms f,pits:=ft_fr (mv rfl h.pits (by decide) (by decide)) f,pours:=mv rfl h.pours (by decide) (by decide),days:=mv rfl h.days (by decide) (by decide),apart:=h.apart,barrows:=ft_fr (R_own_move rfl hr fun k hk => Below.heap_setCell w1 ⟨L.g,4,none⟩ v1 k (fun e => R_offg hr hB (by decide) (by have e1 : k = L.g:=e;rw [← e1];exact hk))) f,lost:=ft_fr (mv rfl h.lost (by decide) (by decide)) f },f,(blk_cell hB 4).trans rfl,blk_frozen hB 4⟩
theorem YardAt.set_lost (h : YardAt W base L Y) {bs : List S212} {v1 : Value} (hr : (ft k212 W L.Not).R 212 w1 base (fun _ => True) v1 bs) (hg : W.grownBy w1 L.vl.ownBlock) (hat : v1.ownBlock = L.vl.ownBlock ∨ ∃ b,v1.ownBlock = some b ∧ W.heap.size ≤ b) :
  YardAt (w1.setCell ⟨L.g,5,none⟩ v1) base { L with vl:=v1 } { Y with lost:=bs } ∧ Fr W L (w1.setCell ⟨L.g,5,none⟩ v1) { L with vl:=v1 } ∧ w1.cell? ⟨L.g,5,none⟩ = some L.vl ∧ w1.frozen? ⟨L.g,5,none⟩ = false:=by
 have hgb : some L.g ≠ L.vl.ownBlock:=fun e => R_offg h.lost h.blk (by decide) e.symm
 have hB : w1.heap[L.g]? = _:=blk_grown h.blk hg hgb
 have far:=h.rows_far hg 5 v1
 have f : Fr W L (w1.setCell ⟨L.g,5,none⟩ v1) { L with vl:=v1 }:=⟨by rw [World.size_setCell];exact hg.size,fun k hk hn => by
  refine ⟨far k hk (fun e => hn (.inr (.inr (.inr (.inr (.inr (.inl e.symm))))))) (fun e => hn (.inl e)),fun hm => ?_⟩
  rcases hm with e|e|e|e|e|e|e
  ·exact hn (.inl e)
  ·exact hn (.inr (.inl e))
  ·exact hn (.inr (.inr (.inl e)))
  ·exact hn (.inr (.inr (.inr (.inl e))))
  ·exact hn (.inr (.inr (.inr (.inr (.inl e)))))
  ·rcases hat with hat|⟨b,hb,hle⟩
   ·exact hn (.inr (.inr (.inr (.inr (.inr (.inl (hat.symm.trans e)))))))
   ·have : some b = some k:=hb.symm.trans e
    injection this with this
    omega
  ·exact hn (.inr (.inr (.inr (.inr (.inr (.inr e)))))),rfl⟩
 have mv : ∀ {α : Type} {d : Kd α} {e : Nat} {v : Value} {xs : List α},d.E = [] → d.R e W base (fun _ => True) v xs → e ≠ 212 → e ≠ 165 → d.R e (w1.setCell ⟨L.g,5,none⟩ v1) base (fun _ => True) v xs:=fun hE hR n1 n2 =>
  R_own_move hE hR fun k hk => far k (Kd.R_lt hR k hk) (fun e => R_off hR h.lost n1 k hk e.symm) (fun e => R_offg hR h.blk n2 (e ▸ hk))
 refine ⟨{ gbase:=h.gbase,bad:=h.bad,blk:=blk_put hB 5 v1 rfl,rooms:=Foot_fr h.rooms f,pits:=ft_fr (mv rfl h.pits (by decide) (by decide)) f,pours:=mv rfl h.pours (by decide) (by decide),days:=mv rfl h.days (by decide) (by decide),apart:=h.apart,barrows:=ft_fr (mv rfl h.barrows (by decide) (by decide)) f,lost:=ft_fr (R_own_move rfl hr fun k hk => Below.heap_setCell w1 ⟨L.g,5,none⟩ v1 k (fun e => R_offg hr hB (by decide) (by have e1 : k = L.g:=e;rw [← e1];exact hk))) f },f,(blk_cell hB 5).trans rfl,blk_frozen hB 5⟩
theorem YardAt.set_pit (h : YardAt W base L Y) {i : Int} (h0 : 0 ≤ i) (h1 : i < Y.rooms.length) {A : Option Addr} {c : Nat} {l : List S212} (hl : l.length ≤ c) (hF : Kd.F k212 W L.Not A l.length l) :
  YardAt (W.setCell ⟨L.gp,i.toNat,none⟩ (.slice A l.length c)) base L { Y with pits:=Y.pits.set i.toNat l } ∧ Fr W L (W.setCell ⟨L.gp,i.toNat,none⟩ (.slice A l.length c)) L ∧ Below base W (W.setCell ⟨L.gp,i.toNat,none⟩ (.slice A l.length c)):=by
 have hb:=Kd.R_base h.pits L.gp rfl
 have far : ∀ k,k ≠ L.gp → (W.setCell ⟨L.gp,i.toNat,none⟩ (.slice A l.length c)).heap[k]? = W.heap[k]?:=fun k hk => Below.heap_setCell W ⟨L.gp,i.toNat,none⟩ _ k hk
 have f : Fr W L (W.setCell ⟨L.gp,i.toNat,none⟩ (.slice A l.length c)) L:=⟨by rw [World.size_setCell];exact Nat.le_refl _,fun k hk hn => ⟨far k (fun e => hn (.inr (.inl e))),hn⟩,rfl⟩
 obtain ⟨c0,hcl,hM,hcc,hfr⟩:=Kd.R_elem h.pits ([] : List S212) i h0 h1
 have hFK : Kd.FK (Kd.slice 212 k212) W L.Not l [.slice A l.length c]:=fun W2 hW => ⟨A,c,rfl,hl,hF W2 hW⟩
 have hcl1 : c0.length = 1:=hcl
 have hseg:=Kd.R_seg h.pits i h0 h1 (c:=c0) (seg:=[.slice A l.length c]) (j:=0) hcl hcc (Nat.le_refl 1) (x':=l) (okp:=fun k => True ∧ k ≠ L.gp) (by
  show Kd.FK (Kd.slice 212 k212) W L.Not l _
  rw [List.take_zero,List.nil_append,List.drop_eq_nil_of_le (by rw [hcl1];exact Nat.le_refl _),List.append_nil]
  exact hFK) (fun k hk => hk)
 have e1 : i.toNat * (ft (Kd.slice 212 k212) W L.Not).sz + 0 = i.toNat:=by show i.toNat * 1 + 0 = _;omega
 rw [e1] at hseg
 have hR:=hseg.1
 have e2 : W.setCells L.gp i.toNat [.slice A l.length c] = W.setCell ⟨L.gp,i.toNat,none⟩ (.slice A l.length c):=rfl
 rw [e2] at hR
 have hgg : L.g ≠ L.gp:=fun e => R_offg h.pits h.blk (by decide) (by show some L.gp = some L.g;rw [e])
 have mv : ∀ {α : Type} {d : Kd α} {e : Nat} {v : Value} {xs : List α},d.E = [] → d.R e W base (fun _ => True) v xs → e ≠ 131 → d.R e (W.setCell ⟨L.gp,i.toNat,none⟩ (.slice A l.length c)) base (fun _ => True) v xs:=fun hE hR' n1 =>
  R_own_move hE hR' fun k hk => far k (fun e => R_off hR' h.pits n1 k hk (by show some L.gp = some k;rw [e]))
 refine ⟨{ gbase:=h.gbase,bad:=h.bad,blk:=(far L.g hgg).trans h.blk,rooms:=Foot_fr h.rooms f,pits:=ft_fr hR f,pours:=mv rfl h.pours (by decide),days:=mv rfl h.days (by decide),apart:=h.apart,barrows:=ft_fr (mv rfl h.barrows (by decide)) f,lost:=ft_fr (mv rfl h.lost (by decide)) f },f,(Below.refl _ _).setCell hb _⟩
end
end
section
open Go.ChangeShapes Go.WideShapes
theorem cellsOf84 : Tryz.prog.cellsOf 84 = 6:=by kernel_rfl
theorem cellsOf27 : Tryz.prog.cellsOf 27 = 1:=by kernel_rfl
theorem cellsOf30 : Tryz.prog.cellsOf 30 = 1:=by kernel_rfl
theorem cellsOf32 : Tryz.prog.cellsOf 32 = 2:=by kernel_rfl
theorem list6 {cs : List Value} {a b c d e f : Value} (hl : cs.length = 6) (h0 : cs[0]? = some a) (h1 : cs[1]? = some b) (h2 : cs[2]? = some c) (h3 : cs[3]? = some d) (h4 : cs[4]? = some e) (h5 : cs[5]? = some f) : cs = [a,b,c,d,e,f]:=by
 match cs,hl with
|[x,y,z,u,v,w],_ => simp at h0 h1 h2 h3 h4 h5;simp [h0,h1,h2,h3,h4,h5]
def Wf6 (x : S84) : Prop:=W64 x.f0 ∧ W64 x.f1 ∧ W64 x.f2 ∧ W64 x.f3 ∧ W64 x.f4 ∧ W64 x.f5
theorem opens84 : Opens k84 84 Wf6:=by
 intro H enc w base spare held fuel cs x h
 obtain ⟨xs,n,_,_,hl,hx,hf⟩:=DataW.trod_struct Tryz.underlying84 h
 rw [cellsOf84] at hl
 have f0:=hf 0 _ rfl
 have f1:=hf 1 _ rfl
 have f2:=hf 2 _ rfl
 have f3:=hf 3 _ rfl
 have f4:=hf 4 _ rfl
 have f5:=hf 5 _ rfl
 obtain ⟨y0,y1,y2,y3,y4,y5,rfl⟩ : ∃ y0 y1 y2 y3 y4 y5,xs = [y0,y1,y2,y3,y4,y5]:=by
  match xs,hx with
 |[a,b,c,d,e,f],_ => exact ⟨a,b,c,d,e,f,rfl⟩
 obtain ⟨n0,e0,_,w0⟩:=DataW.trod_int Tryz.underlying3 f0
 obtain ⟨n1,e1,_,w1⟩:=DataW.trod_int Tryz.underlying3 f1
 obtain ⟨n2,e2,_,w2⟩:=DataW.trod_int Tryz.underlying3 f2
 obtain ⟨n3,e3,_,w3⟩:=DataW.trod_int Tryz.underlying3 f3
 obtain ⟨n4,e4,_,w4⟩:=DataW.trod_int Tryz.underlying3 f4
 obtain ⟨n5,e5,_,w5⟩:=DataW.trod_int Tryz.underlying3 f5
 replace e0 : (cs.drop 0).take (Tryz.prog.cellsOf 3) = [.int .i64 n0]:=e0
 replace e1 : (cs.drop 1).take (Tryz.prog.cellsOf 3) = [.int .i64 n1]:=e1
 replace e2 : (cs.drop 2).take (Tryz.prog.cellsOf 3) = [.int .i64 n2]:=e2
 replace e3 : (cs.drop 3).take (Tryz.prog.cellsOf 3) = [.int .i64 n3]:=e3
 replace e4 : (cs.drop 4).take (Tryz.prog.cellsOf 3) = [.int .i64 n4]:=e4
 replace e5 : (cs.drop 5).take (Tryz.prog.cellsOf 3) = [.int .i64 n5]:=e5
 rw [cellsOf3] at e0 e1 e2 e3 e4 e5
 refine ⟨⟨n0,n1,n2,n3,n4,n5⟩,?_,w0,w1,w2,w3,w4,w5⟩
 rw [list6 hl (cell_take e0) (cell_take e1) (cell_take e2) (cell_take e3) (cell_take e4) (cell_take e5)]
 exact k84_mk w ⟨n0,n1,n2,n3,n4,n5⟩
theorem opens27 : Opens (Kd.slice 3 (Kd.int .i64)) 27 (fun xs => ∀ x ∈ xs,W64 x):=opens_slice (opens_int Tryz.underlying3) cellsOf3 Tryz.underlying27
theorem opens30 : Opens (Kd.slice 84 k84) 30 (fun xs => ∀ x ∈ xs,Wf6 x):=opens_slice opens84 cellsOf84 Tryz.underlying30
set_option maxRecDepth 100000 in
theorem arg32 {H : Type} {enc : TypeId × Value → H} {w : World} {base b0 : Nat} {r : Reach} {spare : Nat → Bool} {held : Bool} {v : Value} {dd : DataW H} {ps : List MemPlace}
  (hv : Value.okWide Tryz.prog w r b0 32 v) (h : DataW.Trod enc Tryz.prog w base spare held 32 v dd ps) :
  ∃ (aA : Option Addr) (cA : Nat) (lA : List Int) (aB : Option Addr) (cB : Nat) (lB : List S84),v = .agg #[.slice aA lA.length cA,.slice aB lB.length cB] ∧ Kd.C (Kd.int .i64) w aA lA.length lA ∧ lA.length ≤ cA ∧ Kd.C k84 w aB lB.length lB ∧ lB.length ≤ cB ∧ (∀ x ∈ lA,W64 x) ∧ ∀ x ∈ lB,Wf6 x:=by
 obtain ⟨cs,rfl,_⟩:=okWide_struct Tryz.underlying32 hv
 obtain ⟨fuel,hf⟩:=h
 obtain ⟨xs,n,_,_,hl,hx,hff⟩:=DataW.trod_struct Tryz.underlying32 hf
 rw [cellsOf32] at hl
 have f0:=hff 0 _ rfl
 have f1:=hff 1 _ rfl
 obtain ⟨y0,y1,rfl⟩ : ∃ y0 y1,xs = [y0,y1]:=by
  match xs,hx with
 |[a,b],_ => exact ⟨a,b,rfl⟩
 obtain ⟨lA,⟨aA,cA,e0,hA,hCA⟩,oA⟩:=opens27 f0
 obtain ⟨lB,⟨aB,cB,e1,hB,hCB⟩,oB⟩:=opens30 f1
 replace e0 : (cs.toList.drop 0).take (Tryz.prog.cellsOf 27) = [.slice aA lA.length cA]:=e0
 replace e1 : (cs.toList.drop 1).take (Tryz.prog.cellsOf 30) = [.slice aB lB.length cB]:=e1
 rw [cellsOf27] at e0
 rw [cellsOf30] at e1
 refine ⟨aA,cA,lA,aB,cB,lB,?_,hCA,hA,hCB,hB,oA,oB⟩
 exact agg_of (list2 hl (cell_take e0) (cell_take e1))
end
def pitsP (id : Int) : List (List S212) → Rat
|[] => 0
|l :: r => ofP id l + pitsP id r
def barP (id : Int) : List S167 → Rat
|[] => 0
|b :: r => sumOf id b.f3 + barP id r
def allP (Y : Yd) (id : Int) : Rat:=pitsP id Y.pits + ofP id Y.lost + barP id Y.barrows
theorem pitsP_set (id : Int) (l : List S212) : ∀ (ps : List (List S212)) (i : Nat),i < ps.length → pitsP id (ps.set i l) + ofP id (ps.getD i []) = pitsP id ps + ofP id l
|[],i,h => by simp at h
|p :: r,0,_ => by
  simp only [List.set_cons_zero,pitsP,List.getD_cons_zero]
  grind
|p :: r,i + 1,h => by
  have:=pitsP_set id l r i (by simpa using h)
  simp only [List.set_cons_succ,pitsP,List.getD_cons_succ]
  grind
theorem barP_append (id : Int) (a b : List S167) : barP id (a ++ b) = barP id a + barP id b:=by
 induction a with
|nil => simp only [List.nil_append,barP];grind
|cons x r ih => simp only [List.cons_append,barP,ih];grind
theorem ofP_one (id : Int) (p : S212) : ofP id [p] = sumOf id p.f1:=by rw [ofP_cons,show ofP id [] = 0 from rfl];grind
theorem step_keeps {n : Nat} {Y Y' : Yd} (h : Wf n Y) {s : S84} {step : Int} (hf : Formed Y.rooms.length s) (hs : stepP Y s step = .ok Y') (id : Int) :
  allP Y' id = allP Y id + (if s.f1 = 1 ∧ s.f0 = id then (s.f5 : Rat) else 0) ∧ Y'.pours = (if s.f1 = 1 then Y.pours ++ [s.f0] else Y.pours) ∧ (s.f1 = 1 → s.f0 ∉ Y.pours):=by
 obtain ⟨p1,p2,p3,p4⟩:=h.pitOk hf.pit.1 hf.pit.2
 have hk:=hf.kind
 have hi : s.f3.toNat < Y.pits.length:=by rw [h.plen];have:=hf.pit;omega
 have hset:=fun l => pitsP_set id l Y.pits s.f3.toNat hi
 rw [show Y.pits.getD s.f3.toNat [] = pitP Y s.f3 from rfl] at hset
 unfold stepP at hs
 by_cases k1 : s.f1 = 1
 ·rw [if_pos k1] at hs
  unfold pourP at hs
  by_cases c1 : isNew Y s.f0 = true
  ·rw [if_pos c1] at hs
   by_cases c2 : heldP (pitP Y s.f3) + s.f5 ≤ roomP Y s.f3
   ·rw [if_pos c2] at hs
    injection hs with hs
    subst hs
    refine ⟨?_,by rw [if_pos k1],fun _ => (isNew_of c1).1⟩
    have h1:=hset (pitP Y s.f3 ++ [⟨s.f5,[⟨s.f0,wholeP s.f5⟩]⟩])
    rw [ofP_append,ofP_one] at h1
    simp only [sumOf,val_wholeP] at h1
    unfold allP
    simp only [k1,true_and]
    by_cases e : s.f0 = id
    ·rw [if_pos e] at h1 ⊢;grind
    ·rw [if_neg e] at h1 ⊢;grind
   ·rw [if_neg c2] at hs;cases hs
  ·rw [if_neg c1] at hs;cases hs
 rw [if_neg k1] at hs
 have e0 : (if s.f1 = 1 ∧ s.f0 = id then (s.f5 : Rat) else 0) = 0:=if_neg fun c => k1 c.1
 rw [e0,if_neg k1]
 by_cases k2 : s.f1 = 2
 ·rw [if_pos k2] at hs
  have ha:=hf.amount (by omega)
  unfold takeP at hs
  by_cases c1 : isNew Y s.f0 = true
  ·rw [if_pos c1] at hs
   by_cases c2 : s.f5 ≤ heldP (pitP Y s.f3)
   ·rw [if_pos c2] at hs
    cases hA : aheadP (pitP Y s.f3) s.f5 with
   |none => rw [hA] at hs;cases hs
   |some ab =>
     obtain ⟨a,b⟩:=ab
     rw [hA] at hs
     simp only at hs
     obtain ⟨a1,a2,a3,a4,a5⟩:=aheadP_spec Y.pours _ _ p1 (by omega) c2 a b hA
     cases hS : summedP Y.pours a with
    |none => rw [hS] at hs;cases hs
    |some ps =>
      rw [hS] at hs
      simp only at hs
      injection hs with hs
      subst hs
      obtain ⟨s1,s2,s3,s4,s5⟩:=summedP_ok h.pours a1 hS
      refine ⟨?_,rfl,fun e => absurd e k1⟩
      have h1:=hset b
      have h2:=a5 id
      have h3:=s5 id
      unfold allP
      simp only [barP_append,barP]
      grind
   ·rw [if_neg c2] at hs;cases hs
  ·rw [if_neg c1] at hs;cases hs
 rw [if_neg k2] at hs
 by_cases k3 : s.f1 = 3
 ·rw [if_pos k3] at hs
  unfold turnP at hs
  by_cases c1 : 0 < heldP (pitP Y s.f3)
  ·rw [if_pos c1] at hs
   cases hS : summedP Y.pours (pitP Y s.f3) with
  |none => rw [hS] at hs;cases hs
  |some ps =>
    rw [hS] at hs
    simp only at hs
    injection hs with hs
    subst hs
    obtain ⟨s1,s2,s3,s4,s5⟩:=summedP_ok h.pours p1 hS
    refine ⟨?_,rfl,fun e => absurd e k1⟩
    have h1:=hset [⟨heldP (pitP Y s.f3),ps⟩]
    rw [ofP_one] at h1
    have h2:=s5 id
    simp only at h1
    unfold allP setPit
    simp only
    grind
  ·rw [if_neg c1] at hs
   injection hs with hs
   subst hs
   exact ⟨by grind,rfl,fun e => absurd e k1⟩
 rw [if_neg k3] at hs
 have ha:=hf.amount (by omega)
 by_cases k4 : s.f1 = 4
 ·rw [if_pos k4] at hs
  have ht:=hf.dest k4
  have hp_:=hf.pit
  unfold moveP at hs
  by_cases c1 : s.f5 ≤ heldP (pitP Y s.f3)
  ·rw [if_pos c1] at hs
   by_cases c2 : heldP (pitP Y s.f4) + s.f5 ≤ roomP Y s.f4
   ·rw [if_pos c2] at hs
    cases hA : aheadP (pitP Y s.f3) s.f5 with
   |none => rw [hA] at hs;cases hs
   |some ab =>
     obtain ⟨a,b⟩:=ab
     rw [hA] at hs
     simp only at hs
     injection hs with hs
     subst hs
     obtain ⟨a1,a2,a3,a4,a5⟩:=aheadP_spec Y.pours _ _ p1 (by omega) c1 a b hA
     refine ⟨?_,rfl,fun e => absurd e k1⟩
     have h1:=hset b
     have h2:=a5 id
     have h3:=pitsP_set id ((Y.pits.set s.f3.toNat b).getD s.f4.toNat [] ++ a) (Y.pits.set s.f3.toNat b) s.f4.toNat (by rw [List.length_set,h.plen];omega)
     rw [ofP_append] at h3
     unfold allP
     simp only
     grind
   ·rw [if_neg c2] at hs;cases hs
  ·rw [if_neg c1] at hs;cases hs
 rw [if_neg k4] at hs
 unfold spillP at hs
 by_cases c1 : s.f5 ≤ heldP (pitP Y s.f3)
 ·rw [if_pos c1] at hs
  cases hA : aheadP (pitP Y s.f3) s.f5 with
 |none => rw [hA] at hs;cases hs
 |some ab =>
   obtain ⟨a,b⟩:=ab
   rw [hA] at hs
   simp only at hs
   injection hs with hs
   subst hs
   obtain ⟨a1,a2,a3,a4,a5⟩:=aheadP_spec Y.pours _ _ p1 (by omega) c1 a b hA
   refine ⟨?_,rfl,fun e => absurd e k1⟩
   have h1:=hset b
   have h2:=a5 id
   unfold allP
   simp only [ofP_append]
   grind
 ·rw [if_neg c1] at hs;cases hs
def firstP : List S84 → Int → Int
|[],_ => 0
|s :: r,id => if s.f1 = 1 ∧ s.f0 = id then s.f5 else firstP r id
theorem go_keeps (id : Int) : ∀ (l : List S84) (n : Nat) (Y Y' : Yd) (day : Int),Wf n Y → 0 ≤ day → n + l.length ≤ 60 → goP Y day n l = .ok Y' →
  (id ∈ Y.pours → allP Y' id = allP Y id) ∧ (id ∉ Y.pours → allP Y' id = allP Y id + (firstP l id : Rat))
|[],n,Y,Y',day,h,_,_,hg => by
  simp only [goP] at hg
  injection hg with hg
  subst hg
  exact ⟨fun _ => rfl,fun _ => by simp only [firstP];grind⟩
|s :: r,n,Y,Y',day,h,hd,hl,hg => by
  simp only [goP] at hg
  simp only [List.length_cons] at hl
  by_cases c : formedP Y.rooms.length s day = true
  ·rw [if_pos c] at hg
   obtain ⟨hf,_⟩:=formed_of hd c
   cases hs : stepP Y s n with
  |error e => rw [hs] at hg;cases hg
  |ok Y1 =>
    rw [hs] at hg
    simp only at hg
    obtain ⟨w1,e1⟩:=step_ok h (by omega) hf hs
    obtain ⟨k1,k2,k3⟩:=step_keeps h hf hs id
    have hg' : goP Y1 s.f2 ((n + 1 : Nat) : Int) r = .ok Y':=hg
    obtain ⟨g1,g2⟩:=go_keeps id r (n + 1) Y1 Y' s.f2 w1 hf.day.1 (by omega) hg'
    by_cases q : s.f1 = 1 ∧ s.f0 = id
    ·rw [if_pos q] at k1
     rw [if_pos q.1] at k2
     have hm : id ∈ Y1.pours:=by rw [k2,← q.2];simp
     refine ⟨fun hx => absurd (q.2 ▸ hx) (k3 q.1),fun _ => ?_⟩
     simp only [firstP]
     rw [if_pos q,g1 hm,k1]
    ·rw [if_neg q] at k1
     have hm : id ∈ Y1.pours ↔ id ∈ Y.pours:=by
      rw [k2]
      split
      ·rename_i e
       have : id ≠ s.f0:=fun x => q ⟨e,x.symm⟩
       simp [this]
      ·rfl
     refine ⟨fun hx => ?_,fun hx => ?_⟩
     ·rw [g1 (hm.2 hx),k1];grind
     ·simp only [firstP]
      rw [if_neg q,g2 (fun y => hx (hm.1 y)),k1];grind
  ·rw [if_neg c] at hg;cases hg
theorem pitsP_none (id : Int) : ∀ k,pitsP id (List.replicate k []) = 0
|0 => rfl
|k + 1 => by rw [List.replicate_succ,pitsP,pitsP_none id k,show ofP id [] = 0 from rfl];grind
theorem played_keeps {rooms : List Int} {stirs : List S84} {Y : Yd} (h : playedP rooms stirs stirs.length = .ok Y) (id : Int) : allP Y id = (firstP stirs id : Rat):=by
 obtain ⟨c1,c2,_,_⟩:=played_ok h
 unfold playedP at h
 rw [if_pos c1,if_pos c2,List.take_length] at h
 obtain ⟨_,h2⟩:=go_keeps id stirs 0 _ Y 0 (empty_ok c1) (Int.le_refl _) (by omega) h
 rw [h2 (by simp [emptyP])]
 have e : allP (emptyP rooms) id = 0:=by
  unfold allP emptyP
  simp only [pitsP_none,barP,show ofP id [] = 0 from rfl]
  grind
 rw [e]
 grind
def idxP {α : Type} (p : α → Bool) (l : List α) : Int:=if l.any p = true then (l.findIdx p : Int) else -1
theorem idxP_found {α : Type} {p : α → Bool} {l : List α} {j : Nat} (hj : j < l.length) (h1 : p l[j] = true) (h0 : ∀ i (hi : i < l.length),i < j → p l[i] = false) : idxP p l = j:=by
 unfold idxP
 rw [if_pos (List.any_eq_true.2 ⟨l[j],List.getElem_mem hj,h1⟩)]
 congr 1
 refine (List.findIdx_eq hj).2 ⟨h1,fun i hi => ?_⟩
 simpa using h0 i (by omega) hi
theorem idxP_none {α : Type} {p : α → Bool} {l : List α} (h0 : ∀ i (hi : i < l.length),p l[i] = false) : idxP p l = -1:=by
 unfold idxP
 rw [if_neg]
 intro h
 obtain ⟨x,hx,hp⟩:=List.any_eq_true.1 h
 obtain ⟨i,hi,rfl⟩:=List.getElem_of_mem hx
 rw [h0 i hi] at hp
 cases hp
theorem idxP_nn {α : Type} {p : α → Bool} {l : List α} : decide (idxP p l ≥ 0) = l.any p:=by
 unfold idxP
 by_cases h : l.any p = true
 ·rw [if_pos h,h];simp
 ·rw [if_neg h];simp only [Bool.not_eq_true] at h;rw [h];rfl
theorem idxP_lt {α : Type} {p : α → Bool} {l : List α} (h : l.any p = true) : 0 ≤ idxP p l ∧ idxP p l < l.length ∧ ∃ hi : (idxP p l).toNat < l.length,p l[(idxP p l).toNat] = true:=by
 have h1 : l.findIdx p < l.length:=List.findIdx_lt_length_of_exists (List.any_eq_true.1 h)
 unfold idxP
 rw [if_pos h]
 refine ⟨by omega,by omega,by simpa using h1,?_⟩
 have:=List.findIdx_getElem (w:=h1)
 simpa using this
set_option maxRecDepth 100000 in
set_option maxHeartbeats 1000000 in
theorem idx207_calls (A : Option Addr) (c : Nat) (l : List S167) (p : S167 → Bool) (K : Nat) (caps : Array Value) (Inv : World → Prop) (W : World) (hr : Kd.C k167 W A l.length l) (hc : l.length ≤ c)
  (ek : ∀ args w,(callFunc K args).run Tryz.prog w = .ok (.enter K args) w) (hi0 : Inv W) (hi1 : ∀ w w',Inv w → Below w.heap.size w w' → Inv w')
  (hcl : ∀ (x : S167) (A3 : Option Addr) (c3 : Nat) (w : World),x ∈ l → Inv w → Calls Tryz.prog K (#[.agg #[.int .i64 x.f0,.int .i64 x.f1,.int .i64 x.f2,.slice A3 x.f3.length c3]] ++ caps) w fun e w' => e = .returned (.bool (p x)) ∧ Below w.heap.size w w') :
  Calls Tryz.prog 207 #[.slice A l.length c,.func (.func K) #[] caps] W fun e W' => e = .returned (.int .i64 (idxP p l)) ∧ Below W.heap.size W W':=by
 have HR:=am hr
 have hm:=hr.2.1
 have HI:=am hi0
 have HJ:=am hi1
 have HCL:=am hcl
 clear hr hc hi0 hi1 hcl
 have hu:=Tryz.underlying167
 go_enter Tryz.func207,Tryz.ntmps207
 go_wp2
 go_loopw [8] (fun v8 wr => ∃ j : Nat,j ≤ l.length ∧ v8 = .int .i64 (j : Int) ∧ Aside0 (∀ i (hi : i < l.length),i < j → p l[i] = false) ∧ Aside0 (Below W.heap.size W wr)) (fun v8 _ => l.length - (intOf v8).toNat)
 case atStart => exact ⟨0,Nat.zero_le _,rfl,⟨fun i _ hi => absurd hi (Nat.not_lt_zero _)⟩,⟨Below.refl _ _⟩⟩
 case round =>
  obtain ⟨j,hj,rfl,HP,HBw⟩:=hrel
  by_cases hlt : j < l.length
  ·obtain ⟨ad,A3,c3,e,hx0,hx1,hx2,hx3,_,_⟩:=at_T167 (Kd.C_below HR.out HBw.out) (j : Int) (by omega) (by omega)
   cases e
   rw [Int.toNat_natCast] at hx0 hx1 hx2 hx3
   have hx : rd_T167 l (j : Int) = l[j]:=by unfold rd_T167;rw [Int.toNat_natCast,List.getD_eq_getElem?_getD,List.getElem?_eq_getElem hlt];rfl
   have HC:=am (HCL.out (rd_T167 l (j : Int)) A3 c3 wr (by rw [hx];exact List.getElem_mem hlt) (HJ.out _ _ HI.out HBw.out))
   have HX:=am hx
   clear hx
   cases hp : p (rd_T167 l (j : Int)) with
  |true =>
    have HPx:=am hp
    rw [hp] at HC
    clear hp
    go_wp2_with fail
    refine HC.out.mono ?_
    rintro e w' ⟨rfl,hd⟩
    have HD:=am hd
    clear hd
    go_wp2
    go_ret
    exact ⟨by rw [idxP_found hlt (by rw [← HX.out];exact HPx.out) HP.out];rfl,below_then HBw.out (below_size HBw.out) HD.out⟩
  |false =>
    have HPx:=am hp
    rw [hp] at HC
    clear hp
    go_wp2_with fail
    refine HC.out.mono ?_
    rintro e w' ⟨rfl,hd⟩
    have HD:=am hd
    clear hd
    go_wp2
    go_roundw
    case rel =>
     refine ⟨j + 1,by omega,by go_num,⟨fun i hi hij => ?_⟩,⟨below_then HBw.out (below_size HBw.out) HD.out⟩⟩
     by_cases e : i = j
     ·subst e;rw [← HX.out];exact HPx.out
     ·exact HP.out i hi (by omega)
    case measure => simp [intOf];omega
  ·go_wp2
   go_ret
   exact ⟨by rw [idxP_none (fun i hi => HP.out i hi (by omega))];rfl,HBw.out⟩
set_option maxRecDepth 100000 in
theorem has251_calls (A : Option Addr) (c : Nat) (l : List S167) (p : S167 → Bool) (K : Nat) (caps : Array Value) (Inv : World → Prop) (W : World) (hr : Kd.C k167 W A l.length l) (hc : l.length ≤ c)
  (ek : ∀ args w,(callFunc K args).run Tryz.prog w = .ok (.enter K args) w) (hi0 : Inv W) (hi1 : ∀ w w',Inv w → Below w.heap.size w w' → Inv w')
  (hcl : ∀ (x : S167) (A3 : Option Addr) (c3 : Nat) (w : World),x ∈ l → Inv w → Calls Tryz.prog K (#[.agg #[.int .i64 x.f0,.int .i64 x.f1,.int .i64 x.f2,.slice A3 x.f3.length c3]] ++ caps) w fun e w' => e = .returned (.bool (p x)) ∧ Below w.heap.size w w') :
  Calls Tryz.prog 251 #[.slice A l.length c,.func (.func K) #[] caps] W fun e W' => e = .returned (.bool (l.any p)) ∧ Below W.heap.size W W':=by
 have HC:=am (idx207_calls A c l p K caps Inv W hr hc ek hi0 hi1 hcl)
 clear hr hc hi0 hi1 hcl
 go_enter Tryz.func251,Tryz.ntmps251
 go_wp2_with fail
 refine HC.out.mono ?_
 rintro e w' ⟨rfl,hd⟩
 have HD:=am hd
 clear hd
 go_wp2
 go_ret
 exact ⟨by rw [← idxP_nn];rfl,HD.out⟩
def slices_Index_int_int.l0 : Nat → List Int → Int → Int → Int → Option (Int)
|0,_,_,_,_ => none
|k + 1,x0,x1,x7,x8 => if x8 < x7 then (if 0 ≤ x8 then (if x8 < (x0.length : Int) then (if x1 = (rd x0 x8) then (some x8) else (slices_Index_int_int.l0 k x0 x1 x7 (wrap64 (x8 + 1)))) else (none)) else (none)) else (some (-1))
def slices_Index_int_int.f (k : Nat) (l0 : List Int) (a1 : Int) : Option (Int):=slices_Index_int_int.l0 k l0 a1 (l0.length : Int) 0
set_option maxHeartbeats 8000000 in
set_option maxRecDepth 100000 in
theorem slices_Index_int_int.calls (k : Nat) (A0 : Option Addr) (c0 : Nat) (l0 : List Int) (a1 : Int) (r : Int) (w : World) (hr0 : Kd.C (Kd.int .i64) w A0 l0.length l0) (hc0 : l0.length ≤ c0) (h : slices_Index_int_int.f k l0 a1 = some r) :
  Calls Tryz.prog 166 #[.slice A0 l0.length c0,.int .i64 a1] w fun e w' => e = .returned (.int .i64 r) ∧ Drawn0 w w':=by
 have HR0:=am hr0
 have HC0:=am hc0
 clear hr0 hc0
 have H : (slices_Index_int_int.l0 k l0 a1 (l0.length : Int) 0) = some r:=h
 clear h
 have H':=am H
 clear H
 go_enter Tryz.func166,Tryz.ntmps166
 go_wp2
 go_loopg [8] k (fun kq v8 w' => ∃ (x8_1 : Int),v8 = .int .i64 x8_1 ∧ Aside0 (slices_Index_int_int.l0 kq l0 a1 (l0.length : Int) x8_1 = some r) ∧ Aside0 (kq ≤ k) ∧ Drawn0 w w')
 case atStart => exact ⟨(0),ve,H',⟨Nat.le_refl _⟩,by repeat (first|exact Drawn0.refl _|apply Drawn0.step)⟩
 case round =>
  clear H'
  try clear c1
  try clear p2
  obtain ⟨x8_1,rfl,HA,HK1,⟨m1,rfl⟩⟩:=hrel
  cases gk with
 |zero => exact absurd HA.out (by simp [slices_Index_int_int.l0])
 |succ k1 =>
   have H:=HA.out
   clear HA
   simp only [slices_Index_int_int.l0] at H
   by_cases c3 : x8_1 < (l0.length : Int)
   ·rw [if_pos c3] at H
    have c3b0 : decide (x8_1 < (l0.length : Int)) = true:=decide_eq_true c3
    clear c3
    by_cases c4 : 0 ≤ x8_1
    ·rw [if_pos c4] at H
     have c4b0 : decide (0 ≤ x8_1) = true:=decide_eq_true c4
     clear c4
     by_cases c5 : x8_1 < (l0.length : Int)
     ·rw [if_pos c5] at H
      have c5b0 : decide (x8_1 < (l0.length : Int)) = true:=decide_eq_true c5
      clear c5
      by_cases c6 : a1 = (rd l0 x8_1)
      ·rw [if_pos c6] at H
       have c6b0 : (a1 == (rd l0 x8_1)) = true:=beq_iff_eq.mpr c6
       have c6b1 : (a1 != (rd l0 x8_1)) = false:=bne_eq_false_iff_eq.mpr c6
       clear c6
       obtain rfl:=Option.some.inj H
       have p101 : 0 ≤ (x8_1 : Int):=of_decide_eq_true va
       have q101 : x8_1 < (l0.length : Int):=of_decide_eq_true va
       obtain ⟨ad101,e101,hx101_0⟩:=Kd.at_int HR0.out x8_1 p101 q101
       cases e101
       replace p101:=eq_true p101
       replace q101:=eq_true q101
       go_wp2
       go_ret
       exact ⟨ve,by repeat (first|exact Drawn0.refl _|apply Drawn0.step)⟩
      ·rw [if_neg c6] at H
       have c6b0 : (a1 == (rd l0 x8_1)) = false:=beq_eq_false_iff_ne.mpr c6
       have c6b1 : (a1 != (rd l0 x8_1)) = true:=bne_iff_ne.mpr c6
       have H':=am H
       clear H
       have p101 : 0 ≤ (x8_1 : Int):=of_decide_eq_true va
       have q101 : x8_1 < (l0.length : Int):=of_decide_eq_true va
       obtain ⟨ad101,e101,hx101_0⟩:=Kd.at_int HR0.out x8_1 p101 q101
       cases e101
       replace p101:=eq_true p101
       replace q101:=eq_true q101
       go_wp2
       go_roundg k1
       case measure => have:=HK1.out;omega
       case rel => exact ⟨(wrap64 (x8_1 + 1)),ve,H',⟨by have:=HK1.out;omega⟩,by repeat (first|exact Drawn0.refl _|apply Drawn0.step)⟩
     ·rw [if_neg c5] at H
      exact absurd H (by simp)
    ·rw [if_neg c4] at H
     exact absurd H (by simp)
   ·rw [if_neg c3] at H
    have c3b0 : decide (x8_1 < (l0.length : Int)) = false:=decide_eq_false c3
    clear c3
    obtain rfl:=Option.some.inj H
    go_wp2
    go_ret
    exact ⟨ve,by repeat (first|exact Drawn0.refl _|apply Drawn0.step)⟩
def slices_Contains_int_int.f (k : Nat) (l0 : List Int) (a1 : Int) : Option (Bool):=(slices_Index_int_int.f k l0 a1).bind fun t101 => (some (decide (t101 ≥ 0)))
set_option maxHeartbeats 8000000 in
set_option maxRecDepth 100000 in
theorem slices_Contains_int_int.calls (k : Nat) (A0 : Option Addr) (c0 : Nat) (l0 : List Int) (a1 : Int) (r : Bool) (w : World) (hr0 : Kd.C (Kd.int .i64) w A0 l0.length l0) (hc0 : l0.length ≤ c0) (h : slices_Contains_int_int.f k l0 a1 = some r) :
  Calls Tryz.prog 165 #[.slice A0 l0.length c0,.int .i64 a1] w fun e w' => e = .returned (.bool r) ∧ Drawn0 w w':=by
 have HR0:=am hr0
 have HC0:=am hc0
 clear hr0 hc0
 have H : ((slices_Index_int_int.f k l0 a1).bind fun t101 => (some (decide (t101 ≥ 0)))) = some r:=h
 clear h
 replace H:=Option.bind_eq_some_iff.mp H
 obtain ⟨t101,A30,H⟩:=H
 replace H : (some (decide (t101 ≥ 0))) = some r:=H
 have A3:=am A30
 clear A30
 obtain rfl:=Option.some.inj H
 go_enter Tryz.func165,Tryz.ntmps165
 go_wp2_with (first|(refine cE (some 7) Tryz.func166 #[.slice A0 l0.length c0,.int .i64 a1] ?_;(with_reducible refine (slices_Index_int_int.calls k _ _ l0 a1 t101 _ ?side1 ?side2 A3.out).mono ?_);(case side1 => repeat (first|exact HR0.out|(with_reducible refine Kd.C_alloc ?_ _)|(with_reducible refine Kd.C_drewN ?_ _)|(with_reducible refine Kd.C_drew ?_)));(case side2 => exact HC0.out);rintro e w' ⟨rfl,⟨nd,rfl⟩⟩;refine ⟨_,rfl,?_⟩))
 go_ret
 exact ⟨ve,by repeat (first|exact Drawn0.refl _|apply Drawn0.step)⟩
def R240_1.T : Bool × List (List Nat × List Nat):=(true,[([],[]),([0],[0]),([1],[1]),([2],[2]),([],[]),([3,4],[3,4]),([5,5],[5]),([6],[6]),([7,6],[6,7]),([8,6],[6,8]),([9,6],[6,9]),([6],[6]),([10,11,6,6],[6,10,11]),([6,12],[6,12])])
def R240_1.B : List Nat:=[0,1,3,7,0,31,63,127,255,511,1023,127,4095,8191]
theorem R240_1.tab : rtab .any (opsOf Tryz.f240 1) = R240_1.T:=by kernel_rfl
theorem R240_1.bits : waitsOk R240_1.T.2 R240_1.B = true:=by kernel_rfl
theorem beqd (a b : Int) : (a == b) = decide (a = b):=by rw [Bool.eq_iff_iff];simp
def Pan (c : Int) : Ending:=.panicked [{ v:=.iface 325 (.agg #[.int .i64 c]),recovered:=false }]
theorem index_some : ∀ (d : Nat) (k : Nat) (l : List Int) (a : Int) (i : Nat),i + d = l.length → d < k → l.length < 9223372036854775807 → slices_Index_int_int.l0 k l a (l.length : Int) (i : Int) = some (if a ∈ l.drop i then ((i + (l.drop i).idxOf a : Nat) : Int) else -1)
|d,0,l,a,i,_,hk,_ => by omega
|0,k + 1,l,a,i,hd,hk,hl => by
  simp only [slices_Index_int_int.l0]
  rw [if_neg (by omega),List.drop_eq_nil_of_le (by omega)]
  simp
|d + 1,k + 1,l,a,i,hd,hk,hl => by
  have hi : i < l.length:=by omega
  simp only [slices_Index_int_int.l0]
  rw [if_pos (by omega),if_pos (by omega),if_pos (by omega)]
  have hrd : rd l (i : Int) = l[i]:=by unfold rd;rw [Int.toNat_natCast,List.getD_eq_getElem?_getD,List.getElem?_eq_getElem hi];rfl
  have hdr : l.drop i = l[i] :: l.drop (i + 1):=List.drop_eq_getElem_cons hi
  rw [hrd]
  by_cases h : a = l[i]
  ·rw [if_pos h,hdr,if_pos (by rw [h];exact List.mem_cons_self)]
   congr 1
   rw [← h]
   simp
  ·rw [if_neg h,wrap_in (by omega) (by omega),show ((i : Int) + 1) = ((i + 1 : Nat) : Int) by omega,index_some d k l a (i + 1) (by omega) (by omega) hl]
   congr 1
   rw [hdr]
   have hm : a ∈ l[i] :: l.drop (i + 1) ↔ a ∈ l.drop (i + 1):=by rw [List.mem_cons];exact ⟨fun e => e.resolve_left h,.inr⟩
   by_cases hm2 : a ∈ l.drop (i + 1)
   ·rw [if_pos hm2,if_pos (hm.2 hm2),List.idxOf_cons,show (l[i] == a) = false by simpa using Ne.symm h]
    simp only [cond_false]
    omega
   ·rw [if_neg hm2,if_neg (fun e => hm2 (hm.1 e))]
theorem indexOf_some {l : List Int} (a : Int) (hl : l.length < 9223372036854775807) : slices_Index_int_int.f FU l a = some (if a ∈ l then (l.idxOf a : Int) else -1):=by
 unfold slices_Index_int_int.f
 have:=index_some l.length FU l a 0 (by omega) (FU_lt (by omega)) hl
 simpa using this
theorem contains_some {l : List Int} (a : Int) (hl : l.length < 9223372036854775807) : slices_Contains_int_int.f FU l a = some (decide (a ∈ l)):=by
 unfold slices_Contains_int_int.f
 rw [indexOf_some a hl]
 simp only [Option.bind_some]
 congr 1
 by_cases h : a ∈ l
 ·rw [if_pos h];simp [h]
 ·rw [if_neg h];simp [h]
theorem cl252_calls (gx : Nat) (id : Int) (x : S167) (A3 : Option Addr) (c3 : Nat) (w : World) (BK : w.heap[gx]? = some (.cells #[.int .i64 id] 3 (0,0))) :
  Calls Tryz.prog 252 (#[.agg #[.int .i64 x.f0,.int .i64 x.f1,.int .i64 x.f2,.slice A3 x.f3.length c3]] ++ #[.pointer (some ⟨gx,0,none⟩)]) w fun e w' => e = .returned (.bool (decide (x.f0 = id))) ∧ Below w.heap.size w w':=by
 have hu:=Tryz.underlying167
 have hc : ∀ o,(w.alloc o).cell? ⟨gx,0,none⟩ = some (.int .i64 id):=fun o => (blk_cell (blk_alloc BK o) 0).trans rfl
 clear BK
 go_enter Tryz.func252,Tryz.ntmps252
 go_wp2
 go_ret
 exact ⟨by simp [beqd],below_alloc (Below.refl _ _) _⟩
theorem cl208_calls (gx : Nat) (id : Int) (x : S167) (A3 : Option Addr) (c3 : Nat) (w : World) (BK : w.heap[gx]? = some (.cells #[.int .i64 id] 3 (0,0))) :
  Calls Tryz.prog 208 (#[.agg #[.int .i64 x.f0,.int .i64 x.f1,.int .i64 x.f2,.slice A3 x.f3.length c3]] ++ #[.pointer (some ⟨gx,0,none⟩)]) w fun e w' => e = .returned (.bool (decide (x.f0 = id))) ∧ Below w.heap.size w w':=by
 have hu:=Tryz.underlying167
 have hc : ∀ o,(w.alloc o).cell? ⟨gx,0,none⟩ = some (.int .i64 id):=fun o => (blk_cell (blk_alloc BK o) 0).trans rfl
 clear BK
 go_enter Tryz.func208,Tryz.ntmps208
 go_wp2
 go_ret
 exact ⟨by simp [beqd],below_alloc (Below.refl _ _) _⟩
set_option maxRecDepth 100000 in
set_option maxHeartbeats 1000000 in
theorem known_calls {W : World} {base n : Nat} {L : Loc} {Y : Yd} (hY : YardAt W base L Y) (hw : Wf n Y) (hn : n ≤ 60) (id : Int) :
  Calls Tryz.prog 99 #[.pointer (some ⟨L.g,0,none⟩),.int .i64 id] W fun e W' => e = .returned (.bool (decide (id ∈ Y.pours))) ∧ Below W.heap.size W W':=by
 obtain ⟨A,c,ho,hl,hC⟩:=Kd.R_reads hY.pours
 have hcg : W.cell? ⟨L.g,2,none⟩ = some (.slice A Y.pours.length c):=(blk_cell hY.blk 2).trans (by rw [← ho];rfl)
 have hf:=contains_some (l:=Y.pours) id (by have:=hw.npours;omega)
 have HC:=am hC
 have HF:=am hf
 have HL:=am hl
 clear hY hw ho hC hf hl
 go_enter Tryz.func99,Tryz.ntmps99
 go_wp2_with (go_at_call 165;refine (slices_Contains_int_int.calls FU _ _ _ _ _ _ HC.out HL.out HF.out).mono ?_;rintro e w' ⟨rfl,m,rfl⟩)
 go_ret
 exact ⟨rfl,pw_below_drewN (Below.refl _ _) _⟩
def freshE (Y : Yd) (id : Int) : Ending:=if isNew Y id = true then .returned (.tuple #[]) else Pan 6
theorem freshE_ok {Y : Yd} {id : Int} (h : isNew Y id = true) : freshE Y id = .returned (.tuple #[]):=if_pos h
theorem freshE_no {Y : Yd} {id : Int} (h : isNew Y id = false) : freshE Y id = Pan 6:=if_neg (by rw [h];simp)
theorem isNew_known {Y : Yd} {id : Int} (h : id ∈ Y.pours) : isNew Y id = false:=by unfold isNew;simp [h]
theorem isNew_any {Y : Yd} {id : Int} (h : id ∉ Y.pours) : isNew Y id = !(Y.barrows.any fun b => decide (b.f0 = id)):=by unfold isNew;simp [h]
set_option maxRecDepth 100000 in
set_option maxHeartbeats 2000000 in
theorem fresh_calls {W : World} {base n : Nat} {L : Loc} {Y : Yd} (hY : YardAt W base L Y) (hw : Wf n Y) (hn : n ≤ 60) (id : Int) :
  Calls Tryz.prog 240 #[.pointer (some ⟨L.g,0,none⟩),.int .i64 id] W fun e W' => e = freshE Y id ∧ Below W.heap.size W W':=by
 obtain ⟨Ao,co,ho,hlo,hCo⟩:=Kd.R_reads hY.pours
 obtain ⟨Ab,cb,hb,hlb,hCb⟩:=Kd.R_reads hY.barrows
 have hCb' : Kd.C k167 W Ab Y.barrows.length Y.barrows:=hCb.imp_ (Below.refl _ _) fun _ _ hp => Foot.now hp
 have hB:=hY.blk
 rw [ho,hb] at hB
 have BG:=am (blk_drew (blk_alloc hB (.cells #[.int .i64 id] 3)))
 have BK:=am (blk_drew (blk_new W (.cells #[.int .i64 id] 3)))
 have HF:=am (contains_some (l:=Y.pours) id (by have:=hw.npours;omega))
 have HCo:=am (Kd.C_drew (Kd.C_alloc hCo (.cells #[.int .i64 id] 3)))
 have HCb:=am (Kd.C_drew (Kd.C_alloc hCb' (.cells #[.int .i64 id] 3)))
 have HLo:=am hlo
 have HLb:=am hlb
 have HB:=am (below_drew (below_alloc (Below.refl W.heap.size W) (.cells #[.int .i64 id] 3)))
 have hmf : ∀ (fn : Fn) (first cap : Array Value) (w : World),(Instr.makeFunc fn first cap).run Tryz.prog w = .ok (.func fn first cap) w:=fun _ _ _ _ => rfl
 clear hY hw ho hb hlo hlb hCo hCb hCb' hB
 by_cases hk : id ∈ Y.pours
 ·have HE:=am (isNew_known hk)
  rw [decide_eq_true hk] at HF
  clear hk
  go_enter Tryz.func240,Tryz.ntmps240
  go_wp2
  refine start_ (n:=14) (S:=fun w' => w'.cell? ⟨L.g,2,none⟩ = some (.slice Ao Y.pours.length co) ∧ w'.cell? ⟨W.heap.size,0,none⟩ = some (.int .i64 id)) (ds:=[]) (ab 14 0) kr rfl kr ⟨(blk_cell BG.out 2).trans rfl,(blk_cell BK.out 0).trans rfl⟩ (fun hHeld => ?_);refine with_tabW R240_1.tab R240_1.bits (fun HT_ HW_ => ?_)
  generalize ((W.alloc (.cells #[.int .i64 id] 3))).drew = wd at BG BK HCo HCb HB hHeld ⊢
  refine qA 0 (some 4) ?_;refine qA 1 (some 5) ?_;refine qA 2 (some 6) ?_;refine qT 3 (some 7) ?_;refine qT 4 (some 8) ?_
  refine qE 5 (some 9) fun K hK => ?_
  refine gC Tryz.func165 #[.slice Ao Y.pours.length co,.int .i64 id] ?_
  refine (slices_Contains_int_int.calls FU _ _ _ _ _ _ HCo.out HLo.out HF.out).mono ?_
  rintro e w1 ⟨rfl,m,rfl⟩
  have BG1:=am (blk_drewN BG.out m)
  have BK1:=am (blk_drewN BK.out m)
  have HB1:=am (pw_below_drewN HB.out m)
  refine ⟨_,rfl,?_⟩
  refine hK.out _ _ ⟨(blk_cell BG1.out 2).trans rfl,(blk_cell BK1.out 0).trans rfl⟩ (fun hHeld => ?_)
  clear hK K
  refine qN (some 9) ?_
  refine qA 6 (some 10) ?_;refine qO 7 (some 11) ?_;refine qO 8 (some 12) ?_;refine qO 9 (some 13) ?_;refine qO 10 (some 14) ?_;refine qO 11 (some 15) ?_;refine qO 12 (some 16) ?_;refine qA 13 (some 17) ?_
  refine done_ (done_of HT_.out kr) ?_
  go_wp2
  exact ⟨rfl,by rw [freshE_no HE.out];rfl,HB1.out⟩
 ·have HE:=am (isNew_any hk)
  rw [decide_eq_false hk] at HF
  clear hk
  obtain ⟨b,hb⟩ : ∃ b,b = (Y.barrows.any fun b => decide (b.f0 = id)):=⟨_,rfl⟩
  rw [← hb] at HE
  cases b with
 |true =>
   have HH:=am hb
   clear hb
   go_enter Tryz.func240,Tryz.ntmps240
   go_wp2
   refine start_ (n:=14) (S:=fun w' => w'.cell? ⟨L.g,2,none⟩ = some (.slice Ao Y.pours.length co) ∧ w'.cell? ⟨L.g,4,none⟩ = some (.slice Ab Y.barrows.length cb) ∧ w'.cell? ⟨W.heap.size,0,none⟩ = some (.int .i64 id)) (ds:=[]) (ab 14 0) kr rfl kr ⟨(blk_cell BG.out 2).trans rfl,(blk_cell BG.out 4).trans rfl,(blk_cell BK.out 0).trans rfl⟩ (fun hHeld => ?_);refine with_tabW R240_1.tab R240_1.bits (fun HT_ HW_ => ?_)
   generalize ((W.alloc (.cells #[.int .i64 id] 3))).drew = wd at BG BK HCo HCb HB hHeld ⊢
   refine qA 0 (some 4) ?_;refine qA 1 (some 5) ?_;refine qA 2 (some 6) ?_;refine qT 3 (some 7) ?_;refine qT 4 (some 8) ?_
   refine qE 5 (some 9) fun K hK => ?_
   refine gC Tryz.func165 #[.slice Ao Y.pours.length co,.int .i64 id] ?_
   refine (slices_Contains_int_int.calls FU _ _ _ _ _ _ HCo.out HLo.out HF.out).mono ?_
   rintro e w1 ⟨rfl,m,rfl⟩
   have BG1:=am (blk_drewN BG.out m)
   have BK1:=am (blk_drewN BK.out m)
   have HCb1:=am (Kd.C_drewN HCb.out m)
   have HB1:=am (pw_below_drewN HB.out m)
   refine ⟨_,rfl,?_⟩
   refine hK.out _ _ ⟨(blk_cell BG1.out 2).trans rfl,(blk_cell BG1.out 4).trans rfl,(blk_cell BK1.out 0).trans rfl⟩ (fun hHeld => ?_)
   clear hK K
   refine qN (some 9) ?_
   refine qA 6 (some 10) ?_;refine qA 7 (some 11) ?_;refine qA 8 (some 12) ?_;refine qA 9 (some 13) ?_;refine qT 10 (some 14) ?_;refine qA 11 (some 15) ?_
   refine qE 12 (some 16) fun K hK => ?_
   refine gC Tryz.func251 #[.slice Ab Y.barrows.length cb,.func (.func 252) #[] #[.pointer (some ⟨W.heap.size,0,none⟩)]] ?_
   refine (has251_calls Ab cb Y.barrows (fun b => decide (b.f0 = id)) 252 _ (fun w => w.heap[W.heap.size]? = some (.cells #[.int .i64 id] 3 (0,0))) _ HCb1.out HLb.out (fun args w => by kernel_rfl) BK1.out (fun w w' h hb => blk_below h hb) (fun x A3 c3 w _ h => cl252_calls _ id x A3 c3 w h)).mono ?_
   rintro e w2 ⟨rfl,hd⟩
   rw [← HH.out]
   have BG2:=am (blk_below BG1.out hd)
   have BK2:=am (blk_below BK1.out hd)
   have HB2:=am (below_then HB1.out (below_size HB1.out) hd)
   clear hd
   refine ⟨_,rfl,?_⟩
   refine hK.out _ _ ⟨(blk_cell BG2.out 2).trans rfl,(blk_cell BG2.out 4).trans rfl,(blk_cell BK2.out 0).trans rfl⟩ (fun hHeld => ?_)
   clear hK K
   refine qN (some 16) ?_
   refine qA 13 (some 17) ?_
   refine done_ (done_of HT_.out kr) ?_
   go_wp2
   exact ⟨rfl,by rw [freshE_no HE.out];rfl,HB2.out⟩
 |false =>
   have HH:=am hb
   clear hb
   go_enter Tryz.func240,Tryz.ntmps240
   go_wp2
   refine start_ (n:=14) (S:=fun w' => w'.cell? ⟨L.g,2,none⟩ = some (.slice Ao Y.pours.length co) ∧ w'.cell? ⟨L.g,4,none⟩ = some (.slice Ab Y.barrows.length cb) ∧ w'.cell? ⟨W.heap.size,0,none⟩ = some (.int .i64 id)) (ds:=[]) (ab 14 0) kr rfl kr ⟨(blk_cell BG.out 2).trans rfl,(blk_cell BG.out 4).trans rfl,(blk_cell BK.out 0).trans rfl⟩ (fun hHeld => ?_);refine with_tabW R240_1.tab R240_1.bits (fun HT_ HW_ => ?_)
   generalize ((W.alloc (.cells #[.int .i64 id] 3))).drew = wd at BG BK HCo HCb HB hHeld ⊢
   refine qA 0 (some 4) ?_;refine qA 1 (some 5) ?_;refine qA 2 (some 6) ?_;refine qT 3 (some 7) ?_;refine qT 4 (some 8) ?_
   refine qE 5 (some 9) fun K hK => ?_
   refine gC Tryz.func165 #[.slice Ao Y.pours.length co,.int .i64 id] ?_
   refine (slices_Contains_int_int.calls FU _ _ _ _ _ _ HCo.out HLo.out HF.out).mono ?_
   rintro e w1 ⟨rfl,m,rfl⟩
   have BG1:=am (blk_drewN BG.out m)
   have BK1:=am (blk_drewN BK.out m)
   have HCb1:=am (Kd.C_drewN HCb.out m)
   have HB1:=am (pw_below_drewN HB.out m)
   refine ⟨_,rfl,?_⟩
   refine hK.out _ _ ⟨(blk_cell BG1.out 2).trans rfl,(blk_cell BG1.out 4).trans rfl,(blk_cell BK1.out 0).trans rfl⟩ (fun hHeld => ?_)
   clear hK K
   refine qN (some 9) ?_
   refine qA 6 (some 10) ?_;refine qA 7 (some 11) ?_;refine qA 8 (some 12) ?_;refine qA 9 (some 13) ?_;refine qT 10 (some 14) ?_;refine qA 11 (some 15) ?_
   refine qE 12 (some 16) fun K hK => ?_
   refine gC Tryz.func251 #[.slice Ab Y.barrows.length cb,.func (.func 252) #[] #[.pointer (some ⟨W.heap.size,0,none⟩)]] ?_
   refine (has251_calls Ab cb Y.barrows (fun b => decide (b.f0 = id)) 252 _ (fun w => w.heap[W.heap.size]? = some (.cells #[.int .i64 id] 3 (0,0))) _ HCb1.out HLb.out (fun args w => by kernel_rfl) BK1.out (fun w w' h hb => blk_below h hb) (fun x A3 c3 w _ h => cl252_calls _ id x A3 c3 w h)).mono ?_
   rintro e w2 ⟨rfl,hd⟩
   rw [← HH.out]
   have BG2:=am (blk_below BG1.out hd)
   have BK2:=am (blk_below BK1.out hd)
   have HB2:=am (below_then HB1.out (below_size HB1.out) hd)
   clear hd
   refine ⟨_,rfl,?_⟩
   refine hK.out _ _ ⟨(blk_cell BG2.out 2).trans rfl,(blk_cell BG2.out 4).trans rfl,(blk_cell BK2.out 0).trans rfl⟩ (fun hHeld => ?_)
   clear hK K
   refine qN (some 16) ?_
   refine qA 13 (some 17) ?_
   refine done_ (done_of HT_.out kr) ?_
   go_wp2
   go_end0
   exact ⟨by rw [freshE_ok HE.out],HB2.out⟩
theorem fine_calls (r : S43) (w : World) : Calls Tryz.prog 254 #[.agg #[.int .i64 r.f0,.int .i64 r.f1]] w fun e w' => e = .returned (.bool (fineP r)) ∧ Below w.heap.size w w':=by
 have hu:=Tryz.underlying43
 have HV:=am (valid_some r)
 have B0:=am (below_alloc (Below.refl w.heap.size w) (.cells #[.int .i64 r.f0,.int .i64 r.f1] 43))
 have BK:=am (blk_new w (.cells #[.int .i64 r.f0,.int .i64 r.f1] 43))
 have HF : Aside0 (∀ b,validP r = b → fineP r = (b && decide (r.f1 ≤ 16384))):=⟨fun b hb => by unfold fineP;rw [hb]⟩
 cases hv : validP r with
|true =>
  rw [hv] at HV
  have HFb:=am (HF.out true hv)
  clear hv HF
  go_enter Tryz.func254,Tryz.ntmps254
  go_wp2_with fail
  refine (pit_valid.calls FU _ _ _ _ HV.out).mono ?_
  rintro e w1 ⟨rfl,hd⟩
  have q : w1.cell? ⟨w.heap.size,1,none⟩ = some (.int .i64 r.f1):=(blk_cell (blk_below BK.out hd) 1).trans rfl
  have B1:=am (below_then B0.out (below_size B0.out) hd)
  clear hd
  go_wp2
  go_ret
  exact ⟨by rw [HFb.out];simp,B1.out⟩
|false =>
  rw [hv] at HV
  have HFb:=am (HF.out false hv)
  clear hv HF
  go_enter Tryz.func254,Tryz.ntmps254
  go_wp2_with fail
  refine (pit_valid.calls FU _ _ _ _ HV.out).mono ?_
  rintro e w1 ⟨rfl,hd⟩
  have B1:=am (below_then B0.out (below_size B0.out) hd)
  clear hd
  go_wp2
  go_ret
  exact ⟨by rw [HFb.out];simp,B1.out⟩
def DivPost (W : World) (p : S212) (n : Int) (e : Ending) (W' : World) : Prop :=
 Below W.heap.size W W' ∧ ((dividedP p n = none ∧ e = Pan 3) ∨ ∃ q A c,dividedP p n = some q ∧ e = .returned (.agg #[.int .i64 q.f0,.slice A q.f1.length c]) ∧ q.f1.length ≤ c ∧ Kd.F k89 W' (fun k => W.heap.size ≤ k) A q.f1.length q.f1)
theorem divParts_cons_no {x : S89} {l : List S89} {n m : Int} (h : fineP (timesP x.f1 n m) = false) : divParts (x :: l) n m = none:=by
 simp only [divParts];rw [if_neg (by rw [h];simp)]
theorem divParts_cons {x : S89} {l : List S89} {n m : Int} (h : fineP (timesP x.f1 n m) = true) : divParts (x :: l) n m = (divParts l n m).map (⟨x.f0,timesP x.f1 n m⟩ :: ·):=by
 simp only [divParts];rw [if_pos h]
theorem drop_rd89 {l : List S89} {j : Nat} (h : j < l.length) : l.drop j = rd_T89 l (j : Int) :: l.drop (j + 1):=by
 rw [List.drop_eq_getElem_cons h];unfold rd_T89;rw [Int.toNat_natCast,List.getD_eq_getElem?_getD,List.getElem?_eq_getElem h];rfl
set_option maxRecDepth 100000 in
set_option maxHeartbeats 4000000 in
theorem divided_calls (p : S212) (A : Option Addr) (c : Nat) (W : World) (n : Int) (hr : Kd.C k89 W A p.f1.length p.f1) (hc : p.f1.length ≤ c) {pours : List Int} (hp : ParcelOk pours p) (h1 : 1 ≤ n) (h2 : n ≤ 4096) :
  Calls Tryz.prog 253 #[.agg #[.int .i64 p.f0,.slice A p.f1.length c],.int .i64 n] W fun e W' => DivPost W p n e W':=by
 have HR:=am hr
 have HP:=am hp
 have hlen:=hp.len
 clear hr hp
 have hu:=Tryz.underlying212
 have hu89:=Tryz.underlying89
 have hu43:=Tryz.underlying43
 go_enter Tryz.func253,Tryz.ntmps253
 go_wp2
 go_loopw [14] (fun v14 wr => ∃ (q : List S89) (v : Value),q.length ≤ p.f1.length ∧ v14 = .int .i64 (q.length : Int) ∧ Aside0 (Below W.heap.size W wr) ∧ Aside0 (wr.heap[W.heap.size]? = some (.cells #[.int .i64 p.f0,.slice A p.f1.length c] 212 (0,0))) ∧ Aside0 (wr.heap[W.heap.size + 1]? = some (.cells #[.int .i64 0,.slice none 0 0] 212 (0,0))) ∧ Aside0 (wr.heap[W.heap.size + 1 + 1]? = some (.cells #[.int .i64 n,v] 212 (0,0))) ∧ Aside0 (Kd.R k89 89 wr W.heap.size (fun _ => True) v q) ∧ Aside0 (divParts p.f1 n p.f0 = (divParts (p.f1.drop q.length) n p.f0).map (q ++ ·))) (fun v14 _ => p.f1.length - (intOf v14).toNat)
 case atStart => exact ⟨[],.slice none 0 0,Nat.zero_le _,rfl,⟨below_alloc (below_alloc (below_alloc (Below.refl _ _) _) _) _⟩,⟨blk_alloc (blk_alloc (blk_new _ _) _) _⟩,⟨blk_alloc (blk_new' _ _ _ (by simp)) _⟩,⟨blk_new' _ _ _ (by simp)⟩,⟨Kd.R_nil _ _ _ _ _⟩,⟨by simp⟩⟩
 case round =>
  obtain ⟨q,v,hj,rfl,HB,BP,BZ,BO,HV,HD⟩:=hrel
  obtain ⟨Av,cv,rfl⟩:=Kd.R_slice HV.out
  have hc0:=bd BP.out 0
  have hca : ∀ o,(wr.alloc o).cell? ⟨W.heap.size,0,none⟩ = some (.int .i64 p.f0):=fun o => (blk_cell (blk_alloc BP.out o) 0).trans rfl
  by_cases hlt : q.length < p.f1.length
  ·obtain ⟨ae,e,hx0,hx1,hx2⟩:=at_T89 (Kd.C_below HR.out HB.out) (q.length : Int) (by omega) (by omega)
   cases e
   rw [Int.toNat_natCast] at hx0 hx1 hx2
   have hmem : rd_T89 p.f1 (q.length : Int) ∈ p.f1:=getD_mem_ hlt
   have hpx:=HP.out.parts _ hmem
   obtain ⟨hok,hf0,hf1⟩:=fineP_of hpx.1
   have hlo:=HP.out.lo
   have hhi:=HP.out.hi
   have HT:=am (times_some (n:=n) (m:=p.f0) hok hf0 (by omega) (by omega) (by omega) hlo (by omega))
   rw [drop_rd89 hlt] at HD
   obtain ⟨x,hx⟩ : ∃ x,x = rd_T89 p.f1 (q.length : Int):=⟨_,rfl⟩
   rw [← hx] at hx0 hx1 hx2 HT HD
   clear hmem hpx hok hf0 hf1 hlo hhi hx
   obtain ⟨r,hr⟩ : ∃ r,r = timesP x.f1 n p.f0:=⟨_,rfl⟩
   rw [← hr] at HT
   have HRr:=am hr
   clear hr
   cases hfn : fineP r with
  |true =>
    have HFn:=am hfn
    clear hfn
    go_wp2_with fail
    refine (pit_times.calls FU _ _ _ _ _ _ _ HT.out).mono ?_
    rintro e w1 ⟨rfl,hd⟩
    have HB1:=am (below_then (below_alloc HB.out (.cells #[.int .i64 x.f0,.int .i64 x.f1.f0,.int .i64 x.f1.f1] 89)) (below_size (below_alloc HB.out _)) hd)
    have BP1:=am (blk_below (blk_alloc BP.out (.cells #[.int .i64 x.f0,.int .i64 x.f1.f0,.int .i64 x.f1.f1] 89)) hd)
    have BZ1:=am (blk_below (blk_alloc BZ.out (.cells #[.int .i64 x.f0,.int .i64 x.f1.f0,.int .i64 x.f1.f1] 89)) hd)
    have BO1:=am (blk_below (blk_alloc BO.out (.cells #[.int .i64 x.f0,.int .i64 x.f1.f0,.int .i64 x.f1.f1] 89)) hd)
    have BX1:=am (blk_below (blk_new wr (.cells #[.int .i64 x.f0,.int .i64 x.f1.f0,.int .i64 x.f1.f1] 89)) hd)
    have HV1:=am (Kd.R_below (Kd.R_alloc HV.out (.cells #[.int .i64 x.f0,.int .i64 x.f1.f0,.int .i64 x.f1.f1] 89)) hd)
    clear hd hc0 hca hx0 hx1 hx2
    go_wp2_with fail
    refine (fine_calls r _).mono ?_
    rintro e w2 ⟨rfl,hd⟩
    rw [HFn.out]
    have HB2:=am (below_then (below_alloc HB1.out (.cells #[.int .i64 r.f0,.int .i64 r.f1] 43)) (below_size (below_alloc HB1.out _)) hd)
    have BP2:=am (blk_below (blk_alloc BP1.out (.cells #[.int .i64 r.f0,.int .i64 r.f1] 43)) hd)
    have BZ2:=am (blk_below (blk_alloc BZ1.out (.cells #[.int .i64 r.f0,.int .i64 r.f1] 43)) hd)
    have BO2:=am (blk_below (blk_alloc BO1.out (.cells #[.int .i64 r.f0,.int .i64 r.f1] 43)) hd)
    have BX2:=am (blk_below (blk_alloc BX1.out (.cells #[.int .i64 r.f0,.int .i64 r.f1] 43)) hd)
    have BR2:=am (blk_below (blk_new w1 (.cells #[.int .i64 r.f0,.int .i64 r.f1] 43)) hd)
    have HV2:=am (Kd.R_below (Kd.R_alloc HV1.out (.cells #[.int .i64 r.f0,.int .i64 r.f1] 43)) hd)
    have g0:=bd BO2.out 1
    have g1:=bd BX2.out 0
    have g2:=bd BR2.out 0
    have g3:=bd BR2.out 1
    have HBS:=am (below_size HB2.out)
    clear hd
    go_wp2_with (at_builtin;refine Kd.R_append k89 (w0:=W) W.heap.size rfl _ _ 55 89 (.agg #[.int .i64 0,.int .i64 0,.int .i64 0]) 24 rfl Tryz.underlying55 info89 rfl (by decide) (by decide) (.slice Av q.length cv) q ⟨x.f0,r⟩ [.int .i64 x.f0,.int .i64 r.f0,.int .i64 r.f1] (fun _ => True) (fun k => k < w2.heap.size ∧ some k ≠ (Value.slice Av q.length cv).ownBlock) rfl rfl (k89_mkM _ _ _ ⟨x.f0,r⟩) (fun k hk => ⟨trivial,hk.2⟩) (fun _ _ => trivial) HV2.out HB2.out HBS.out (by omega) ?_;intro v3 w3 hr3 hb3 hg3 hat3;obtain ⟨A3,c3,rfl⟩:=Kd.R_slice hr3;rw [List.length_append,List.length_singleton] at hr3 hat3 ⊢;have BO3:=am (blk_grown BO2.out hg3 (Kd.R_ne HV2.out BO2.out (by decide)));have BP3:=am (blk_grown BP2.out hg3 (Kd.R_ne HV2.out BP2.out (by decide)));have BZ3:=am (blk_grown BZ2.out hg3 (Kd.R_ne HV2.out BZ2.out (by decide)));have k0:=blk_frozen BO3.out 1;have k1:=bd BO3.out 1;have HV3:=am hr3;have HB3:=am hb3;have NE3:=am (Kd.R_ne hr3 BO3.out (by decide));clear hr3 hb3 hg3 hat3 g0 g1 g2 g3)
    go_roundw
    case rel =>
     have hd:=HD.out
     rw [divParts_cons (by rw [← HRr.out];exact HFn.out)] at hd
     refine ⟨q ++ [⟨x.f0,r⟩],.slice A3 (q.length + 1) c3,by simp only [List.length_append,List.length_singleton];omega,by simp only [List.length_append,List.length_singleton];go_num,⟨HB3.out.setCell (by show W.heap.size ≤ W.heap.size + 1 + 1;omega) _⟩,⟨blk_far BP3.out (by show W.heap.size ≠ W.heap.size + 1 + 1;omega) _⟩,⟨blk_far BZ3.out (by show W.heap.size + 1 ≠ W.heap.size + 1 + 1;omega) _⟩,⟨blk_put BO3.out 1 _ rfl⟩,⟨Kd.R_set HV3.out BO3.out (by decide) _ _⟩,⟨?_⟩⟩
     rw [hd,List.length_append,Option.map_map,HRr.out]
     congr 1
     funext y
     simp
    case measure => simp [intOf];omega
  |false =>
    have HFn:=am hfn
    clear hfn
    go_wp2_with fail
    refine (pit_times.calls FU _ _ _ _ _ _ _ HT.out).mono ?_
    rintro e w1 ⟨rfl,hd⟩
    have HB1:=am (below_then (below_alloc HB.out (.cells #[.int .i64 x.f0,.int .i64 x.f1.f0,.int .i64 x.f1.f1] 89)) (below_size (below_alloc HB.out _)) hd)
    clear hd hc0 hca hx0 hx1 hx2
    go_wp2_with fail
    refine (fine_calls r _).mono ?_
    rintro e w2 ⟨rfl,hd⟩
    rw [HFn.out]
    have HB2:=am (below_then (below_alloc HB1.out (.cells #[.int .i64 r.f0,.int .i64 r.f1] 43)) (below_size (below_alloc HB1.out _)) hd)
    clear hd
    go_wp2
    refine ⟨rfl,HB2.out,.inl ⟨?_,rfl⟩⟩
    have hd:=HD.out
    rw [divParts_cons_no (by rw [← HRr.out];exact HFn.out)] at hd
    unfold dividedP
    rw [hd]
    rfl
  ·have g0:=bd BO.out 0
   have g1:=bd BO.out 1
   have g2:=bd BZ.out 0
   have g3:=bd BZ.out 1
   have g4:=blk_frozen BZ.out 0
   have g5:=blk_frozen BZ.out 1
   go_wp2
   have bz:=blk_put (cs':=#[.int .i64 n,.slice Av q.length cv]) (blk_put (cs':=#[.int .i64 n,.slice none 0 0]) BZ.out 0 (.int .i64 n) rfl) 1 (.slice Av q.length cv) rfl
   have hq : q.length = p.f1.length:=by omega
   have hd:=HD.out
   rw [List.drop_eq_nil_of_le (by omega)] at hd
   have hV:=Kd.R_set (Kd.R_set HV.out BZ.out (by decide) 0 (.int .i64 n)) (blk_put (cs':=#[.int .i64 n,.slice none 0 0]) BZ.out 0 (.int .i64 n) rfl) (by decide) 1 (.slice Av q.length cv)
   have hBB:=(HB.out.setCell (p:=⟨W.heap.size + 1,0,none⟩) (by show W.heap.size ≤ W.heap.size + 1;omega) (.int .i64 n)).setCell (p:=⟨W.heap.size + 1,1,none⟩) (by show W.heap.size ≤ W.heap.size + 1;omega) (.slice Av q.length cv)
   refine bodyPost_ret (results_cell_row rfl _ _ (W.heap.size + 1) 212 #[.int .i64 n,.slice Av q.length cv] (0,0) _ rfl bz Tryz.underlying212 rfl kr) rfl ⟨hBB,.inr ⟨⟨n,q⟩,Av,cv,?_,rfl,(Kd.R_reads' HV.out).2.1,?_⟩⟩
   ·unfold dividedP
    rw [hd]
    simp [divParts]
   ·exact Kd.F_mono (Kd.R_F (Kd.R_bound hV)) (fun k hk => hk.2.1)
theorem heldP_take_snoc (l : List S212) (j : Nat) (h : j < l.length) : heldP (l.take (j + 1)) = heldP (l.take j) + (rd_T212 l (j : Int)).f0:=by
 rw [List.take_succ_eq_append_getElem h,heldP_append]
 unfold rd_T212
 rw [Int.toNat_natCast,List.getD_eq_getElem?_getD,List.getElem?_eq_getElem h]
 simp [heldP]
theorem heldP_take_le {l : List S212} (h : ∀ p ∈ l,1 ≤ p.f0) (j : Nat) : 0 ≤ heldP (l.take j) ∧ heldP (l.take j) ≤ heldP l:=by
 have h1:=heldP_nonneg (l:=l.take j) fun p hp => h p (List.mem_of_mem_take hp)
 have h2:=heldP_nonneg (l:=l.drop j) fun p hp => h p (List.mem_of_mem_drop hp)
 have h3:=heldP_append (l.take j) (l.drop j)
 rw [List.take_append_drop] at h3
 omega
set_option maxRecDepth 100000 in
set_option maxHeartbeats 1000000 in
theorem held_calls {W : World} {base n : Nat} {L : Loc} {Y : Yd} (hY : YardAt W base L Y) (hw : Wf n Y) (i : Int) (h0 : 0 ≤ i) (h1 : i < Y.rooms.length) :
  Calls Tryz.prog 130 #[.pointer (some ⟨L.g,0,none⟩),.int .i64 i] W fun e W' => e = .returned (.int .i64 (heldP (pitP Y i))) ∧ Below W.heap.size W W':=by
 obtain ⟨p1,p2,p3,p4⟩:=hw.pitOk h0 h1
 have hlo : ∀ p ∈ pitP Y i,1 ≤ p.f0:=fun p hp => (p1 p hp).lo
 have hlen:=heldP_nonneg hlo
 obtain ⟨A,c,hc,hle,hF,_⟩:=hY.pit_at h0 h1
 have hcg:=bd hY.blk 1
 have hr6:=hw.r6
 obtain ⟨ad,had⟩ : ∃ ad : Addr,ad = ⟨L.gp,0,none⟩:=⟨_,rfl⟩
 rw [← had] at hcg
 have hc' : W.cell? (ad.add i.toNat) = some (.slice A (pitP Y i).length c):=by rw [had];rw [add_plain];exact hc
 have hB : heldP (pitP Y i) ≤ 4096:=by omega
 clear hY hw p1 p2 p3 p4 hc had
 generalize pitP Y i = l at *
 generalize Y.rooms.length = N at *
 have HF:=am hF
 have HLO:=am hlo
 have HB:=am hB
 have hu:=Tryz.underlying212
 clear hF hlo hB
 go_enter Tryz.func130,Tryz.ntmps130
 go_wp2
 go_loopw [5,16] (fun v5 v16 wr => ∃ j : Nat,j ≤ l.length ∧ v16 = .int .i64 (j : Int) ∧ v5 = .int .i64 (heldP (l.take j)) ∧ Aside0 (Below W.heap.size W wr)) (fun _ v16 _ => l.length - (intOf v16).toNat)
 case atStart => exact ⟨0,Nat.zero_le _,rfl,rfl,⟨Below.refl _ _⟩⟩
 case round =>
  obtain ⟨j,hj,rfl,rfl,HBw⟩:=hrel
  have hb1:=heldP_take_le HLO.out j
  have hbm:=HB.out
  by_cases hlt : j < l.length
  ·obtain ⟨ae,A1,c1,e,hx0,hx1,_⟩:=at_T212 (Kd.C_below (Kd.F_now HF.out) HBw.out) (j : Int) (by omega) (by omega)
   cases e
   rw [Int.toNat_natCast] at hx0 hx1
   have hs:=heldP_take_snoc l j hlt
   have hb2:=heldP_take_le HLO.out (j + 1)
   have HS:=am hs
   have hw1 : IntKind.i64.wrap (heldP (l.take j) + (rd_T212 l (j : Int)).f0) = heldP (l.take j) + (rd_T212 l (j : Int)).f0:=IntWalk.i64_in _ (by omega)
   clear hs
   go_wp2
   go_roundw
   case rel => exact ⟨j + 1,by omega,by go_num,by rw [HS.out],⟨below_alloc HBw.out _⟩⟩
   case measure => simp [intOf];omega
  ·go_wp2
   go_ret
   exact ⟨by rw [List.take_of_length_le (by omega)];rfl,HBw.out⟩
def R241_0.T : Bool × List (List Nat × List Nat):=(true,[([],[]),([],[]),([0,1],[0,1]),([],[]),([2,3],[2,3]),([],[]),([5],[5]),([6],[6]),([7],[7]),([],[]),([8,9],[8,9]),([10],[10]),([4,11],[4,11])])
def R241_0.B : List Nat:=[0,0,3,0,15,0,32,96,224,0,992,2016,4095]
theorem R241_0.tab : rtab .any (opsOf Tryz.f241 0) = R241_0.T:=by kernel_rfl
theorem R241_0.bits : waitsOk R241_0.T.2 R241_0.B = true:=by kernel_rfl
def R243_1.T : Bool × List (List Nat × List Nat):=(true,[([],[]),([],[]),([1],[1]),([0,2],[0,2]),([],[]),([4],[4]),([3,5],[3,5])])
def R243_1.B : List Nat:=[0,0,2,7,0,16,63]
theorem R243_1.tab : rtab .any (opsOf Tryz.f243 1) = R243_1.T:=by kernel_rfl
theorem R243_1.bits : waitsOk R243_1.T.2 R243_1.B = true:=by kernel_rfl
def roomE (Y : Yd) (i a : Int) : Ending:=if heldP (pitP Y i) + a ≤ roomP Y i then .returned (.tuple #[]) else Pan 2
def enoughE (Y : Yd) (i a : Int) : Ending:=if a ≤ heldP (pitP Y i) then .returned (.tuple #[]) else Pan 4
set_option maxRecDepth 100000 in
set_option maxHeartbeats 2000000 in
theorem room_calls {W : World} {base n : Nat} {L : Loc} {Y : Yd} (hY : YardAt W base L Y) (hw : Wf n Y) (i a : Int) (h0 : 0 ≤ i) (h1 : i < Y.rooms.length) (ha0 : 0 ≤ a) (ha1 : a ≤ 1000) :
  Calls Tryz.prog 241 #[.pointer (some ⟨L.g,0,none⟩),.int .i64 i,.int .i64 a] W fun e W' => e = roomE Y i a ∧ Below W.heap.size W W':=by
 obtain ⟨p1,p2,p3,p4⟩:=hw.pitOk h0 h1
 have hlo:=heldP_nonneg (l:=pitP Y i) fun p hp => (p1 p hp).lo
 obtain ⟨Ar,cr,hr,hlr,hCr⟩:=hY.rooms_C
 obtain ⟨ad,e,hx⟩:=Kd.at_int hCr i h0 h1
 subst e
 have hB:=hY.blk
 rw [hr] at hB
 have HY:=am (hY.move (below_drew (Below.refl _ _)))
 have HW:=am hw
 have BG:=am (blk_drew hB)
 have HX:=am (show W.drew.cell? (ad.add i.toNat) = some (.int .i64 (roomP Y i)) from hx)
 have HB:=am (below_drew (Below.refl W.heap.size W))
 have hwr : IntKind.i64.wrap (heldP (pitP Y i) + a) = heldP (pitP Y i) + a:=IntWalk.i64_in _ (by omega)
 have HE : Aside0 (∀ b,b = decide (heldP (pitP Y i) + a > roomP Y i) → roomE Y i a = (if b = true then Pan 2 else .returned (.tuple #[]))):=⟨fun b hb => by
  unfold roomE
  by_cases h : heldP (pitP Y i) + a ≤ roomP Y i
  ·rw [if_pos h,hb,if_neg (by simp;omega)]
  ·rw [if_neg h,hb,if_pos (by simp;omega)]⟩
 clear hY hw p1 p2 p3 p4 hlo hr hlr hCr hx hB
 cases hb : decide (heldP (pitP Y i) + a > roomP Y i) with
|true =>
  have HEb:=am (HE.out true hb.symm)
  go_enter Tryz.func241,Tryz.ntmps241
  go_wp2
  refine start_ (n:=13) (S:=fun w' => w'.cell? ⟨L.g,0,none⟩ = some (.slice (some ad) Y.rooms.length cr) ∧ w'.cell? (ad.add i.toNat) = some (.int .i64 (roomP Y i))) (ds:=[]) (ab 13 0) kr rfl kr ⟨(blk_cell BG.out 0).trans rfl,HX.out⟩ (fun hHeld => ?_);refine with_tabW R241_0.tab R241_0.bits (fun HT_ HW_ => ?_)
  generalize (W).drew = wd at HY BG HX HB hHeld ⊢
  refine qA 0 (some 6) ?_;refine qA 1 (some 7) ?_;refine qA 3 (some 9) ?_;refine qA 5 (some 11) ?_;refine qA 6 (some 12) ?_;refine qA 7 (some 13) ?_;refine qT 8 (some 14) ?_;refine qA 9 (some 15) ?_;refine qA 10 (some 16) ?_;refine qT 11 (some 17) ?_
  refine qE 2 (some 8) fun K hK => ?_
  refine gC Tryz.func130 #[.pointer (some ⟨L.g,0,none⟩),.int .i64 i] ?_
  refine (held_calls HY.out HW.out i h0 h1).mono ?_
  rintro e w1 ⟨rfl,hd⟩
  have BG1:=am (blk_below BG.out hd)
  have HX1:=am (pw_cell_below hd HX.out)
  have HB1:=am (below_then HB.out (below_size HB.out) hd)
  clear hd
  refine ⟨_,rfl,?_⟩
  refine hK.out _ _ ⟨(blk_cell BG1.out 0).trans rfl,HX1.out⟩ (fun hHeld => ?_)
  clear hK K
  refine qN (some 8) ?_
  refine qA 4 (some 10) ?_;refine qA 12 (some 18) ?_
  refine done_ (done_of HT_.out kr) ?_
  go_wp2
  exact ⟨rfl,by rw [HEb.out];rfl,HB1.out⟩
|false =>
  have HEb:=am (HE.out false hb.symm)
  go_enter Tryz.func241,Tryz.ntmps241
  go_wp2
  refine start_ (n:=13) (S:=fun w' => w'.cell? ⟨L.g,0,none⟩ = some (.slice (some ad) Y.rooms.length cr) ∧ w'.cell? (ad.add i.toNat) = some (.int .i64 (roomP Y i))) (ds:=[]) (ab 13 0) kr rfl kr ⟨(blk_cell BG.out 0).trans rfl,HX.out⟩ (fun hHeld => ?_);refine with_tabW R241_0.tab R241_0.bits (fun HT_ HW_ => ?_)
  generalize (W).drew = wd at HY BG HX HB hHeld ⊢
  refine qA 0 (some 6) ?_;refine qA 1 (some 7) ?_;refine qA 3 (some 9) ?_;refine qA 5 (some 11) ?_;refine qA 6 (some 12) ?_;refine qA 7 (some 13) ?_;refine qT 8 (some 14) ?_;refine qA 9 (some 15) ?_;refine qA 10 (some 16) ?_;refine qT 11 (some 17) ?_
  refine qE 2 (some 8) fun K hK => ?_
  refine gC Tryz.func130 #[.pointer (some ⟨L.g,0,none⟩),.int .i64 i] ?_
  refine (held_calls HY.out HW.out i h0 h1).mono ?_
  rintro e w1 ⟨rfl,hd⟩
  have BG1:=am (blk_below BG.out hd)
  have HX1:=am (pw_cell_below hd HX.out)
  have HB1:=am (below_then HB.out (below_size HB.out) hd)
  clear hd
  refine ⟨_,rfl,?_⟩
  refine hK.out _ _ ⟨(blk_cell BG1.out 0).trans rfl,HX1.out⟩ (fun hHeld => ?_)
  clear hK K
  refine qN (some 8) ?_
  refine qA 4 (some 10) ?_;refine qA 12 (some 18) ?_
  refine done_ (done_of HT_.out kr) ?_
  go_wp2
  go_end0
  exact ⟨by rw [HEb.out];rfl,HB1.out⟩
set_option maxRecDepth 100000 in
set_option maxHeartbeats 2000000 in
theorem enough_calls {W : World} {base n : Nat} {L : Loc} {Y : Yd} (hY : YardAt W base L Y) (hw : Wf n Y) (s : S84) (h0 : 0 ≤ s.f3) (h1 : s.f3 < Y.rooms.length) :
  Calls Tryz.prog 243 #[.pointer (some ⟨L.g,0,none⟩),.agg #[.int .i64 s.f0,.int .i64 s.f1,.int .i64 s.f2,.int .i64 s.f3,.int .i64 s.f4,.int .i64 s.f5]] W fun e W' => e = enoughE Y s.f3 s.f5 ∧ Below W.heap.size W W':=by
 have hu:=Tryz.underlying84
 have BK:=am (blk_drew (blk_new W (.cells #[.int .i64 s.f0,.int .i64 s.f1,.int .i64 s.f2,.int .i64 s.f3,.int .i64 s.f4,.int .i64 s.f5] 84)))
 have HB:=am (below_drew (below_alloc (Below.refl W.heap.size W) (.cells #[.int .i64 s.f0,.int .i64 s.f1,.int .i64 s.f2,.int .i64 s.f3,.int .i64 s.f4,.int .i64 s.f5] 84)))
 have HY:=am (hY.move HB.out)
 have HW:=am hw
 have HE : Aside0 (∀ b,b = decide (heldP (pitP Y s.f3) < s.f5) → enoughE Y s.f3 s.f5 = (if b = true then Pan 4 else .returned (.tuple #[]))):=⟨fun b hb => by
  unfold enoughE
  by_cases h : s.f5 ≤ heldP (pitP Y s.f3)
  ·rw [if_pos h,hb,if_neg (by simp;omega)]
  ·rw [if_neg h,hb,if_pos (by simp;omega)]⟩
 clear hY hw
 cases hb : decide (heldP (pitP Y s.f3) < s.f5) with
|true =>
  have HEb:=am (HE.out true hb.symm)
  go_enter Tryz.func243,Tryz.ntmps243
  go_wp2
  refine start_ (n:=7) (S:=fun w' => w'.cell? ⟨W.heap.size,3,none⟩ = some (.int .i64 s.f3) ∧ w'.cell? ⟨W.heap.size,5,none⟩ = some (.int .i64 s.f5)) (ds:=[]) (ab 7 0) kr rfl kr ⟨(blk_cell BK.out 3).trans rfl,(blk_cell BK.out 5).trans rfl⟩ (fun hHeld => ?_);refine with_tabW R243_1.tab R243_1.bits (fun HT_ HW_ => ?_)
  generalize ((W.alloc (.cells #[.int .i64 s.f0,.int .i64 s.f1,.int .i64 s.f2,.int .i64 s.f3,.int .i64 s.f4,.int .i64 s.f5] 84))).drew = wd at HY BK HB hHeld ⊢
  refine qA 0 (some 4) ?_;refine qA 1 (some 5) ?_;refine qT 2 (some 6) ?_;refine qA 4 (some 8) ?_;refine qT 5 (some 9) ?_
  refine qE 3 (some 7) fun K hK => ?_
  refine gC Tryz.func130 #[.pointer (some ⟨L.g,0,none⟩),.int .i64 s.f3] ?_
  refine (held_calls HY.out HW.out s.f3 h0 h1).mono ?_
  rintro e w1 ⟨rfl,hd⟩
  have BK1:=am (blk_below BK.out hd)
  have HB1:=am (below_then HB.out (below_size HB.out) hd)
  clear hd
  refine ⟨_,rfl,?_⟩
  refine hK.out _ _ ⟨(blk_cell BK1.out 3).trans rfl,(blk_cell BK1.out 5).trans rfl⟩ (fun hHeld => ?_)
  clear hK K
  refine qN (some 7) ?_
  refine qA 6 (some 10) ?_
  refine done_ (done_of HT_.out kr) ?_
  go_wp2
  exact ⟨rfl,by rw [HEb.out];rfl,HB1.out⟩
|false =>
  have HEb:=am (HE.out false hb.symm)
  go_enter Tryz.func243,Tryz.ntmps243
  go_wp2
  refine start_ (n:=7) (S:=fun w' => w'.cell? ⟨W.heap.size,3,none⟩ = some (.int .i64 s.f3) ∧ w'.cell? ⟨W.heap.size,5,none⟩ = some (.int .i64 s.f5)) (ds:=[]) (ab 7 0) kr rfl kr ⟨(blk_cell BK.out 3).trans rfl,(blk_cell BK.out 5).trans rfl⟩ (fun hHeld => ?_);refine with_tabW R243_1.tab R243_1.bits (fun HT_ HW_ => ?_)
  generalize ((W.alloc (.cells #[.int .i64 s.f0,.int .i64 s.f1,.int .i64 s.f2,.int .i64 s.f3,.int .i64 s.f4,.int .i64 s.f5] 84))).drew = wd at HY BK HB hHeld ⊢
  refine qA 0 (some 4) ?_;refine qA 1 (some 5) ?_;refine qT 2 (some 6) ?_;refine qA 4 (some 8) ?_;refine qT 5 (some 9) ?_
  refine qE 3 (some 7) fun K hK => ?_
  refine gC Tryz.func130 #[.pointer (some ⟨L.g,0,none⟩),.int .i64 s.f3] ?_
  refine (held_calls HY.out HW.out s.f3 h0 h1).mono ?_
  rintro e w1 ⟨rfl,hd⟩
  have BK1:=am (blk_below BK.out hd)
  have HB1:=am (below_then HB.out (below_size HB.out) hd)
  clear hd
  refine ⟨_,rfl,?_⟩
  refine hK.out _ _ ⟨(blk_cell BK1.out 3).trans rfl,(blk_cell BK1.out 5).trans rfl⟩ (fun hHeld => ?_)
  clear hK K
  refine qN (some 7) ?_
  refine qA 6 (some 10) ?_
  refine done_ (done_of HT_.out kr) ?_
  go_wp2
  go_end0
  exact ⟨by rw [HEb.out];rfl,HB1.out⟩
def R244_6.T : Bool × List (List Nat × List Nat):=(true,[([],[]),([],[]),([1],[1]),([0,2],[0,2]),([],[]),([],[]),([5],[5]),([],[]),([7],[7]),([4,6,8],[4,6,8]),([],[]),([],[]),([11],[11]),([10,12],[10,12]),([3,3,0,1,2,3],[0,3]),([9,14,0,1,2,3,4,5,6,7,8,9,14],[4,5,7,9]),([13,15,0,1,2,3,4,5,6,7,8,9,10,11,12,13,14,15],[10,13])])
def R244_6.B : List Nat:=[0,0,2,7,0,0,32,0,128,496,0,0,2048,7168,15,17407,65535]
theorem R244_6.tab : rtab .any (opsOf Tryz.f244 6) = R244_6.T:=by kernel_rfl
theorem R244_6.bits : waitsOk R244_6.T.2 R244_6.B = true:=by kernel_rfl
def R244_8.T : Bool × List (List Nat × List Nat):=(true,[([],[]),([],[]),([1],[1]),([],[]),([2,3],[2,3]),([0,4],[0,4]),([5],[5]),([],[]),([7],[7]),([6,8,5],[6,8]),([9,9,0,1,2,3,4,5,6,7,8,9],[7,9])])
def R244_8.B : List Nat:=[0,0,2,0,14,31,63,0,128,511,1023]
theorem R244_8.tab : rtab .any (opsOf Tryz.f244 8) = R244_8.T:=by kernel_rfl
theorem R244_8.bits : waitsOk R244_8.T.2 R244_8.B = true:=by kernel_rfl
theorem goesP_ {P : Program} {ops : Array Oper} {Q : Exit → Act → World → Prop} {oi : Oper} {N : Option Tmp} {a : Act} {w : World} {K : Act → World → Prop} {f : FuncId} {fn : Func} {xs : Array Operand} {ts : Array TypeId} (hf : P.funcs[f]? = some fn) (hname : (fn.name == "runtime.NumGoroutine") = false) (hb : fn.body.isSome = true) (args : Array Value)
  (hw : Region.wanted oi (yielded ops a.tmps) = true) (hop : oi.op = .call { callee:=.value (.func f),args:=xs,argTypes:=ts }) (hargs : xs.map a.eval = args)
  (h : Calls P f args w fun e w' => ∃ ch,e = .panicked ch ∧ Q (.panic ch) a w') : if Region.wanted oi (yielded ops a.tmps) = true then Oper.wp P oi a w K Q else K (a.put N undef) w:=by
 rw [if_pos hw]
 have he:=enters_ hf hname hb args w
 have hrun : (execOp a.eval oi).run P w = .ok (.enter f args) w:=by
  unfold execOp
  simp [hop,resolve,Deferred.ofValue,invoke,Act.eval,hargs,he]
 unfold Oper.wp
 rw [hrun,Oper.upon_enter]
 refine h.mono fun e w'' hh => ?_
 obtain ⟨ch,rfl,hk⟩:=hh
 exact hk
theorem cut_midM (t e : TypeId) {i : TypeInfo} (ht : Tryz.prog.underlying t = some (.slice e)) (hi : Tryz.prog.info? e = some i) (size : Nat) (hsz : i.size = size) (A : Option Addr) (n c : Nat) (lo hi' : Int) (h0 : 0 ≤ lo) (h1 : lo ≤ hi') (h2 : hi' ≤ n) (hc : n ≤ c) :
  ∀ W : World,(Instr.slice t (.slice A n c) (some (.int .i64 lo)) (some (.int .i64 hi')) (some (.int .i64 hi'))).run Tryz.prog W = .ok (.slice (if hi'.toNat = lo.toNat then A else A.map (·.add (lo.toNat * size))) (hi'.toNat - lo.toNat) (hi'.toNat - lo.toNat)) W:=by
 intro W
 have hel : Tryz.prog.elem t = e:=by simp [Program.elem,ht]
 have hu : Tryz.prog.underlying t = some (.slice (Tryz.prog.elem t)):=by rw [hel];exact ht
 rw [run_slice_lhm W t A n c hu .i64 .i64 .i64 lo hi' hi' h0 h1 (by omega) (by omega),hel]
 simp [sizeOf,typeInfo,hi,hsz,sliced,Result.andThen]
theorem aheadP_zero (l : List S212) : aheadP l 0 = some ([],l):=by cases l <;> simp [aheadP]
theorem aheadP_whole {p : S212} {l : List S212} {n : Int} (h0 : 0 < n) (h : p.f0 ≤ n) : aheadP (p :: l) n = (aheadP l (n - p.f0)).map (fun x => (p :: x.1,x.2)):=by
 simp only [aheadP];rw [if_pos h0,if_pos h]
theorem aheadP_part {p : S212} {l : List S212} {n : Int} (h0 : 0 < n) (h : ¬ p.f0 ≤ n) : aheadP (p :: l) n = (dividedP p n).bind fun a => (dividedP p (p.f0 - n)).map fun b => ([a],b :: l):=by
 simp only [aheadP];rw [if_pos h0,if_neg h]
def AheadPost (W : World) (base : Nat) (L : Loc) (Y : Yd) (i n : Int) (e : Ending) (W' : World) : Prop :=
 Below base W W' ∧ ((aheadP (pitP Y i) n = none ∧ e = Pan 3 ∧ Below W.heap.size W W') ∨ ∃ a b A c,aheadP (pitP Y i) n = some (a,b) ∧ e = .returned (.slice A a.length c) ∧ a.length ≤ c ∧ YardAt W' base L { Y with pits:=Y.pits.set i.toNat b } ∧ Fr W L W' L ∧ Kd.F k212 W' L.Not A a.length a)
theorem head_rd212 {l : List S212} (h : 0 < l.length) : l = rd_T212 l 0 :: l.drop 1:=by
 cases l with
|nil => simp at h
|cons x r => rfl
set_option maxRecDepth 100000 in
set_option maxHeartbeats 4000000 in
theorem ahead_calls {W : World} {base m : Nat} {L : Loc} {Y : Yd} (hY : YardAt W base L Y) (hw : Wf m Y) (i n : Int) (h0 : 0 ≤ i) (h1 : i < Y.rooms.length) (hn1 : 1 ≤ n) (hn2 : n ≤ 1000) (hh : n ≤ heldP (pitP Y i)) :
  Calls Tryz.prog 244 #[.pointer (some ⟨L.g,0,none⟩),.int .i64 i,.int .i64 n] W fun e W' => AheadPost W base L Y i n e W':=by
 obtain ⟨p1,p2,p3,p4⟩:=hw.pitOk h0 h1
 obtain ⟨A,c,hc,hle,hF,hfz⟩:=hY.pit_at h0 h1
 have hr6:=hw.r6
 have HY:=am hY
 have HN:=am (fun k (hk : W.heap.size ≤ k) => hY.not_new hk)
 have HBB:=am (hY.gLt)
 have hcg:=bd hY.blk 1
 obtain ⟨ad,had⟩ : ∃ ad : Addr,ad = ⟨L.gp,0,none⟩:=⟨_,rfl⟩
 rw [← had] at hcg
 have hc' : W.cell? (ad.add i.toNat) = some (.slice A (pitP Y i).length c):=by rw [had];rw [add_plain];exact hc
 have HF0:=am (show Kd.F k212 W (fun k => L.Not k ∧ some k ≠ (Value.slice none 0 0).ownBlock) A (pitP Y i).length (pitP Y i) from Kd.F_mono hF (fun k hk => ⟨hk,by simp [Value.ownBlock]⟩) )
 have HP0:=am p1
 have HAD:=am had
 have HH:=am hh
 have HLE:=am hle
 have HL0:=am (show (pitP Y i).length ≤ 4096 by have:=held_ge p1;omega)
 obtain ⟨i0,hi,_,hsz,_⟩:=info_parts info212
 have hu:=Tryz.underlying212
 clear hY hw p1 p2 p3 p4 hc hF hfz had hh hle
 go_enter Tryz.func244,Tryz.ntmps244
 go_wp2
 go_loopw [2,7,8] (fun v2 v7 v8 wr => ∃ (a rest : List S212) (r : Int) (A : Option Addr) (c : Nat) (v : Value),v2 = .int .i64 r ∧ v7 = .slice A rest.length c ∧ v8 = v ∧ Aside0 (rest.length ≤ c) ∧ Aside0 (0 ≤ r ∧ r ≤ heldP rest ∧ (a.length : Int) + r ≤ n ∧ rest.length ≤ 4096) ∧ Aside0 (∀ p ∈ rest,ParcelOk Y.pours p) ∧ Aside0 (Below W.heap.size W wr) ∧ Aside0 (Kd.N k212 212 wr W.heap.size L.Not v a) ∧ Aside0 (Kd.F k212 wr (fun k => L.Not k ∧ some k ≠ v.ownBlock) A rest.length rest) ∧ Aside0 (aheadP (pitP Y i) n = (aheadP rest r).map (fun x => (a ++ x.1,x.2)))) (fun v2 _ _ _ => (intOf v2).toNat)
 case atStart => exact ⟨[],pitP Y i,n,A,c,.slice none 0 0,rfl,rfl,rfl,HLE,⟨by omega,HH.out,by simp,HL0.out⟩,HP0,⟨Below.refl _ _⟩,⟨Kd.N_nil _ _ _ _ _⟩,HF0,⟨by simp⟩⟩
 case round =>
  clear HF0 HP0 HLE hc' hcg
  obtain ⟨a,rest,r,A,c,v,rfl,rfl,rfl,HLE,HI,HP,HB,HV,HF,HA⟩:=hrel
  obtain ⟨Av,cv,rfl⟩:=Kd.N_slice HV.out
  by_cases hr : 0 < r
  ·have hlen : 0 < rest.length:=by
    rcases Nat.eq_zero_or_pos rest.length with h|h
    ·have:=List.eq_nil_of_length_eq_zero h
     have h2:=HI.out.2.1
     rw [this] at h2
     simp only [heldP] at h2
     omega
    ·exact h
   obtain ⟨ae,cs,e,_,hK,hcell,_⟩:=Kd.F_get HF.out z212 0 (Int.le_refl 0) (by omega)
   cases e
   have hK' : Kd.FK k212 wr (fun k => L.Not k ∧ some k ≠ (Value.slice Av a.length cv).ownBlock) (rd_T212 rest 0) cs:=hK
   obtain ⟨A1,c1,rfl,hl1,hF1⟩:=k212_openF hK'
   have hx0 : wr.cell? ae = some (.int .i64 (rd_T212 rest 0).f0):=by have h:=hcell 0 _ rfl;rw [show (0 : Int).toNat * k212.sz + 0 = 0 from rfl,Addr.add_zero'] at h;exact h
   have hx1 : wr.cell? ⟨ae.block,ae.off + 1,none⟩ = some (.slice A1 (rd_T212 rest 0).f1.length c1):=by have h:=hcell 1 _ rfl;rw [show (0 : Int).toNat * k212.sz + 1 = 0 + 1 from rfl,add_field _ _ 1 (by omega),Addr.add_zero'] at h;exact h
   have hsp:=head_rd212 hlen
   have hpm : rd_T212 rest 0 ∈ rest:=by rw [hsp];exact List.mem_cons_self
   have hpo:=HP.out _ hpm
   rw [hsp] at HA
   have htl : (rest.drop 1).length = rest.length - 1:=List.length_drop
   obtain ⟨p,hp⟩ : ∃ p,p = rd_T212 rest 0:=⟨_,rfl⟩
   rw [← hp] at hx0 hx1 HA hpo hK' hF1 hl1 hsp
   have HSP:=am hsp
   have HPO:=am hpo
   have HK:=am hK'
   have HF1:=am hF1
   have HL1:=am hl1
   have HTL:=am htl
   clear hsp hpo hK hK' hF1 hpm hp hl1 htl hcell
   obtain ⟨tl,htl⟩ : ∃ tl,tl = rest.drop 1:=⟨_,rfl⟩
   obtain ⟨A2,hA2⟩ : ∃ A2,A2 = (if rest.length = 1 then some ae else (some ae).map (·.add (1 * 2))):=⟨_,rfl⟩
   have hFt:=Kd.F_cut (m:=1) (c:=rest.length) HF.out (by omega) (Nat.le_refl _)
   have hFc:=Kd.F_cut (m:=1) (c:=c) HF.out (by omega) HLE.out
   rw [← htl] at hFt hFc HTL HSP HA
   have hFt' : Kd.F k212 wr (fun k => L.Not k ∧ some k ≠ (Value.slice Av a.length cv).ownBlock) A2 tl.length tl:=by rw [hA2];exact hFt
   have hcut : ∀ W : World,(Instr.slice 131 (.slice (some ae) rest.length c) (some (.int .i64 1)) (some (.int .i64 (rest.length : Int))) (some (.int .i64 (rest.length : Int)))).run Tryz.prog W = .ok (.slice A2 tl.length tl.length) W:=fun W => by
    rw [cut_midM 131 212 Tryz.underlying131 hi 2 hsz (some ae) rest.length c 1 (rest.length : Int) (by omega) (by omega) (by omega) HLE.out W,HTL.out,hA2]
    rfl
   have HPt:=am (fun q hq => HP.out q (by rw [HSP.out];exact List.mem_cons_of_mem _ hq) : ∀ q ∈ tl,ParcelOk Y.pours q)
   have HHt:=am (show heldP rest = p.f0 + heldP tl by rw [HSP.out];rfl)
   have HFt:=am hFt'
   have hplo:=HPO.out.lo
   have hphi:=HPO.out.hi
   have hri : r ≤ 1000:=by have:=HI.out;omega
   have NEv:=am (show ∀ k,wr.heap.size ≤ k → some k ≠ (Value.slice Av a.length cv).ownBlock from fun k hk e => by have:=Kd.N_lt HV.out _ e.symm;omega)
   clear hA2 hFt hFt' hFc htl
   by_cases hle : p.f0 ≤ r
   ·have hws : IntKind.i64.wrap (r - p.f0) = r - p.f0:=IntWalk.i64_in _ (by omega)
    rw [aheadP_whole hr hle] at HA
    have BX:=am (blk_drew (blk_new wr (.cells #[.int .i64 p.f0,.slice A1 p.f1.length c1] 212)))
    have HVd:=am (Kd.N_drew (Kd.N_alloc HV.out (.cells #[.int .i64 p.f0,.slice A1 p.f1.length c1] 212)))
    have HFd:=am (Kd.F_drew (Kd.F_alloc HFt.out (.cells #[.int .i64 p.f0,.slice A1 p.f1.length c1] 212)))
    have HKd:=am (Kd.FK_below (Kd.FK_below HK.out (below_alloc (Below.refl _ _) (.cells #[.int .i64 p.f0,.slice A1 p.f1.length c1] 212))) (below_drew (Below.refl _ _)))
    have HBd:=am (below_drew (below_alloc HB.out (.cells #[.int .i64 p.f0,.slice A1 p.f1.length c1] 212)))
    go_wp2
    refine start_ (n:=17) (S:=fun w' => w'.cell? ⟨wr.heap.size,0,none⟩ = some (.int .i64 p.f0) ∧ w'.cell? ⟨wr.heap.size,1,none⟩ = some (.slice A1 p.f1.length c1)) (ds:=[]) (ab 17 0) kr rfl kr ⟨(blk_cell BX.out 0).trans rfl,(blk_cell BX.out 1).trans rfl⟩ (fun hHeld => ?_);refine with_tabW R244_6.tab R244_6.bits (fun HT_ HW_ => ?_)
    generalize ((wr.alloc (.cells #[.int .i64 p.f0,.slice A1 p.f1.length c1] 212))).drew = wd at BX HVd HFd HKd HBd hHeld ⊢
    refine qA 0 (some 26) ?_;refine qT 1 (some 27) ?_;refine qA 4 (some 30) ?_;refine qA 5 (some 31) ?_;refine qA 6 (some 32) ?_;refine qA 7 (some 33) ?_;refine qA 8 (some 34) ?_;refine qA 9 (some 35) ?_;refine qA 10 (some 36) ?_;refine qA 11 (some 37) ?_;refine qT 12 (some 38) ?_;refine qA 13 (some 39) ?_
    refine qE 2 (some 28) fun K hK => ?_
    refine value_ (w1:=?_) (v:=?_) (by rfl) rfl ?_ ?_
    rotate_left 2
    ·go_simp
     constructor
     ·rfl
     ·rfl
    refine hK.out _ _ ⟨(blk_cell (blk_alloc BX.out _) 0).trans rfl,(blk_cell (blk_alloc BX.out _) 1).trans rfl⟩ (fun hHeld => ?_)
    clear hK K
    refine qN (some 28) ?_
    refine qE 3 (some 29) fun K hK => ?_
    refine Kd.N_append_step k212 (w0:=W) W.heap.size (by rfl) (.tmp 26) (.tmp 28) 131 212 (.agg #[.int .i64 0,.slice none 0 0]) 32 rfl Tryz.underlying131 info212 rfl (by decide) (by decide) (.slice Av a.length cv) a p [.int .i64 p.f0,.slice A1 p.f1.length c1] L.Not (fun k => L.Not k ∧ some k ≠ (Value.slice Av a.length cv).ownBlock) rfl rfl HKd.out (fun k hk => hk) ?aF HVd.out HBd.out (below_size HBd.out) ?aL ?_
    case aF => exact fun k hk => HN.out k (Nat.le_trans (below_size HBd.out) hk)
    case aL => have:=HI.out.2.2;omega
    intro v1 w3 ho hb hg hat
    obtain ⟨A3,c3,rfl⟩:=Kd.N_slice ho
    rw [List.length_append,List.length_singleton] at ho hat ⊢
    have HF3:=am (Kd.F_after HFd.out hg hat)
    have BX3:=am (blk_grown BX.out hg (NEv.out _ (Nat.le_refl _)))
    have HV3:=am ho
    have HB3:=am hb
    clear ho hb hg hat
    refine hK.out _ _ ⟨(blk_cell BX3.out 0).trans rfl,(blk_cell BX3.out 1).trans rfl⟩ (fun hHeld => ?_)
    clear hK K
    refine qN (some 29) ?_
    refine qA 14 (some 8) ?_;refine qA 15 (some 7) ?_;refine qA 16 (some 2) ?_
    refine done_ (done_of HT_.out kr) ?_
    go_wp2
    go_roundw
    case rel =>
     refine ⟨a ++ [p],tl,r - p.f0,A2,tl.length,.slice A3 (a.length + 1) c3,rfl,rfl,rfl,⟨Nat.le_refl _⟩,⟨by omega,by have:=HI.out.2.1;have:=HHt.out;omega,by have:=HI.out.2.2;simp only [List.length_append,List.length_singleton];omega,by have:=HI.out.2.2.2;have:=HTL.out;omega⟩,HPt,HB3,HV3,HF3,⟨?_⟩⟩
     rw [HA.out,Option.map_map]
     congr 1
     funext y
     simp
    case measure => simp [intOf];omega
   ·have hle' : r < p.f0:=by omega
    have hws : IntKind.i64.wrap (p.f0 - r) = p.f0 - r:=IntWalk.i64_in _ (by omega)
    rw [aheadP_part hr hle] at HA
    have BX:=am (blk_new wr (.cells #[.int .i64 p.f0,.slice A1 p.f1.length c1] 212))
    have Ba:=am (below_alloc (Below.refl wr.heap.size wr) (.cells #[.int .i64 p.f0,.slice A1 p.f1.length c1] 212))
    obtain ⟨i1,hi1,_,hsz1,_⟩:=info_parts info212
    obtain ⟨A4,hA4⟩ : ∃ A4,A4 = (if c = 1 then some ae else (some ae).map (·.add (1 * 2))):=⟨_,rfl⟩
    have hcutf : ∀ W : World,(Instr.slice 131 (.slice (some ae) rest.length c) (some (.int .i64 1)) none none).run Tryz.prog W = .ok (.slice A4 tl.length (c - 1)) W:=fun W => by
     rw [cut_from 131 212 .i64 Tryz.underlying131 hi1 2 hsz1 (some ae) rest.length c 1 (by omega) (by omega) W,HTL.out,hA4]
     rfl
    have hFc : Kd.F k212 wr (fun k => L.Not k ∧ some k ≠ (Value.slice Av a.length cv).ownBlock) A4 tl.length tl:=by
     have h:=Kd.F_cut (m:=1) (c:=c) HF.out (by omega) HLE.out
     rw [show rest.drop 1 = tl by rw [HSP.out];rfl] at h
     rw [hA4]
     exact h
    have HFc:=am hFc
    clear hA4 hFc hcut
    go_wp2_with fail
    refine (divided_calls p A1 c1 _ r ?hr HL1.out HPO.out (by omega) (by omega)).mono ?_
    case hr => exact Kd.C_below (Kd.F_now HF1.out) Ba.out
    rintro e w1 ⟨hB1,h⟩
    have HB1:=am (below_then Ba.out (below_size Ba.out) hB1)
    have HBW:=am (below_then HB.out (below_size HB.out) HB1.out)
    have BX1:=am (blk_below BX.out hB1)
    clear hB1
    rcases h with ⟨hn,rfl⟩|⟨q,Aq,cq,hq,rfl,hlq,hFq⟩
    ·unfold Pan
     go_wp2
     refine ⟨rfl,HBW.out.mono (by have:=HBB.out;omega),.inl ⟨?_,rfl,HBW.out⟩⟩
     rw [HA.out,hn]
     rfl
    ·have HV1:=am (Kd.N_below HV.out HB1.out)
     have HFc1:=am (Kd.F_below HFc.out HB1.out)
     have HFp1:=am (Kd.F_below HF1.out HB1.out)
     have HQ1:=am (k212_mkF w1 (fun k => wr.heap.size ≤ k) q hlq (Kd.F_mono hFq (fun k hk => by simp at hk;omega)))
     have HQ:=am hq
     have HSZ:=am (below_size HB.out)
     clear hq hlq hFq
     go_wp2_with (at_builtin;refine Kd.N_append k212 (w0:=W) W.heap.size rfl _ _ 131 212 (.agg #[.int .i64 0,.slice none 0 0]) 32 rfl Tryz.underlying131 info212 rfl (by decide) (by decide) (.slice Av a.length cv) a q [.int .i64 q.f0,.slice Aq q.f1.length cq] L.Not (fun k => wr.heap.size ≤ k) rfl rfl HQ1.out (fun k hk => ⟨HN.out k (Nat.le_trans HSZ.out hk),NEv.out k hk⟩) (fun k hk => HN.out k (Nat.le_trans (below_size HBW.out) hk)) HV1.out HBW.out (below_size HBW.out) (by have:=HI.out.2.2;omega) ?_;intro v3 w3 ho hb hg hat;obtain ⟨A3,c3,rfl⟩:=Kd.N_slice ho;rw [List.length_append,List.length_singleton] at ho hat ⊢;have HF3:=am (Kd.F_after HFc1.out hg hat);have HP3:=am (Kd.F_after HFp1.out hg hat);have BX3:=am (blk_grown BX1.out hg (NEv.out _ (Nat.le_refl _)));have HV3:=am ho;have HB3:=am hb;clear ho hb hg hat)
     obtain ⟨v3,hv3⟩ : ∃ v3,v3 = Value.slice A3 (a.length + 1) c3:=⟨_,rfl⟩
     have HVl:=am (show ∀ k,v3.ownBlock = some k → k < w3.heap.size by rw [hv3];exact Kd.N_lt HV3.out)
     have HV3d:=am (show Kd.N k212 212 w3.drew W.heap.size L.Not v3 (a ++ [q]) by rw [hv3];exact Kd.N_drew HV3.out)
     have HF3d:=am (show Kd.F k212 w3.drew (fun k => L.Not k ∧ some k ≠ v3.ownBlock) A4 tl.length tl by rw [hv3];exact Kd.F_drew HF3.out)
     have HP3d:=am (Kd.F_drew HP3.out)
     have BX3d:=am (blk_drew BX3.out)
     have HB3d:=am (below_drew HB3.out)
     have HVLd:=am (show ∀ k,v3.ownBlock = some k → k < w3.drew.heap.size from HVl.out)
     have HV3v:=am hv3
     clear hv3
     cases hy : dividedP p (p.f0 - r) with
    |none =>
      have HYn:=am hy
      clear hy
      refine start_ (n:=11) (S:=fun w' => w'.cell? ⟨wr.heap.size,0,none⟩ = some (.int .i64 p.f0) ∧ w'.cell? ⟨wr.heap.size,1,none⟩ = some (.slice A1 p.f1.length c1)) (ds:=[]) (ab 11 0) kr rfl kr ⟨(blk_cell BX3d.out 0).trans rfl,(blk_cell BX3d.out 1).trans rfl⟩ (fun hHeld => ?_);refine with_tabW R244_8.tab R244_8.bits (fun HT_ HW_ => ?_)
      generalize (w3).drew = wd at HV3d HF3d HP3d BX3d HB3d HVLd hHeld ⊢
      refine qT 0 (some 46) ?_;refine qA 1 (some 47) ?_;refine qT 2 (some 48) ?_;refine qA 3 (some 49) ?_;refine qA 4 (some 50) ?_;refine qA 7 (some 53) ?_;refine qA 8 (some 54) ?_
      refine qE 5 (some 51) fun K hK => ?_
      refine goesP_ Tryz.func253 kr rfl #[.agg #[.int .i64 p.f0,.slice A1 p.f1.length c1],.int .i64 (p.f0 - r)] (by rfl) rfl vn ?_
      refine (divided_calls p A1 c1 _ (p.f0 - r) (Kd.F_now HP3d.out) HL1.out HPO.out (by omega) (by omega)).mono ?_
      rintro e w5 ⟨hB5,h⟩
      rcases h with ⟨_,rfl⟩|⟨y,Ay,cy,hy,_⟩
      ·refine ⟨_,rfl,rfl,(below_then HB3d.out (below_size HB3d.out) hB5).mono (by have:=HBB.out;omega),.inl ⟨?_,rfl,below_then HB3d.out (below_size HB3d.out) hB5⟩⟩
       rw [HA.out,HQ.out,HYn.out]
       rfl
      ·rw [HYn.out] at hy;cases hy
    |some y =>
      have HYs:=am hy
      clear hy
      refine start_ (n:=11) (S:=fun w' => w'.cell? ⟨wr.heap.size,0,none⟩ = some (.int .i64 p.f0) ∧ w'.cell? ⟨wr.heap.size,1,none⟩ = some (.slice A1 p.f1.length c1)) (ds:=[]) (ab 11 0) kr rfl kr ⟨(blk_cell BX3d.out 0).trans rfl,(blk_cell BX3d.out 1).trans rfl⟩ (fun hHeld => ?_);refine with_tabW R244_8.tab R244_8.bits (fun HT_ HW_ => ?_)
      generalize (w3).drew = wd at HV3d HF3d HP3d BX3d HB3d HVLd hHeld ⊢
      refine qT 0 (some 46) ?_;refine qA 1 (some 47) ?_;refine qT 2 (some 48) ?_;refine qA 3 (some 49) ?_;refine qA 4 (some 50) ?_;refine qA 7 (some 53) ?_;refine qA 8 (some 54) ?_
      refine qE 5 (some 51) fun K hK => ?_
      refine gC Tryz.func253 #[.agg #[.int .i64 p.f0,.slice A1 p.f1.length c1],.int .i64 (p.f0 - r)] ?_
      refine (divided_calls p A1 c1 _ (p.f0 - r) (Kd.F_now HP3d.out) HL1.out HPO.out (by omega) (by omega)).mono ?_
      rintro e w5 ⟨hB5,h⟩
      rcases h with ⟨hn5,_⟩|⟨y',Ay,cy,hy',rfl,hly,hFy⟩
      ·rw [HYs.out] at hn5;cases hn5
      obtain rfl : y = y':=Option.some.inj (HYs.out.symm.trans hy')
      have HSd:=am (below_size HB3d.out)
      have HB5:=am (below_then HB3d.out HSd.out hB5)
      have HV5:=am (Kd.N_below HV3d.out hB5)
      have HF5:=am (Kd.F_below HF3d.out hB5)
      have BX5:=am (blk_below BX3d.out hB5)
      have HY5:=am (k212_mkF w5 (fun k => wd.heap.size ≤ k) y hly hFy)
      have HS5:=am (below_size hB5)
      clear hB5 hy' hly hFy
      refine ⟨_,rfl,?_⟩
      refine hK.out _ _ ⟨(blk_cell BX5.out 0).trans rfl,(blk_cell BX5.out 1).trans rfl⟩ (fun hHeld => ?_)
      clear hK K
      refine qN (some 51) ?_
      refine qE 6 (some 52) fun K hK => ?_
      refine Kd.N_lit_step k212 (w0:=W) W.heap.size 212 (by rfl) rfl (xs:=[y]) (inner:=[.int .i64 y.f0,.slice Ay y.f1.length cy]) (ok:=fun k => L.Not k ∧ some k ≠ v3.ownBlock) (okp:=fun k => wd.heap.size ≤ k) ?run ?rep ?ok ?fr HB5.out (below_size HB5.out) (by simp) ?_
      case run =>
       go_simp
      case rep => exact (Reps.none _ _).snoc HY5.out rfl
      case ok => exact fun k hk => ⟨HN.out k (Nat.le_trans HSd.out hk),fun e => by have:=HVLd.out k e.symm;omega⟩
      case fr => exact ⟨HN.out _ (below_size HB5.out),fun e => by have:=HVLd.out _ e.symm;have:=HS5.out;omega⟩
      intro v6 w6 hn6 hb6 hg6 hat6
      obtain ⟨A6,c6,rfl⟩:=Kd.N_slice hn6
      have hb56 : Below w5.heap.size w5 w6:=⟨hg6.os,hg6.tape,hg6.output,hg6.size,fun k hk => hg6.block k hk (by simp)⟩
      have HV6:=am (Kd.N_elder' HV5.out (u:=.slice A6 [y].length c6) (fun k hk => by obtain ⟨b,h1,h2⟩:=hat6;rw [h1] at hk;injection hk with hk;omega) hb56)
      have HF6:=am (Kd.F_elder' HF5.out (fun k hk => by obtain ⟨b,h1,h2⟩:=hat6;rw [h1] at hk;injection hk with hk;omega) hb56)
      have BX6:=am (blk_below BX5.out hb56)
      have HN6:=am hn6
      have HB6:=am hb6
      have HS6:=am (below_size hb56)
      have NE6:=am (show some wr.heap.size ≠ (Value.slice A6 [y].length c6).ownBlock from fun e => by obtain ⟨b,h1,h2⟩:=hat6;rw [h1] at e;injection e with e;have:=blk_lt BX5.out;omega)
      clear hn6 hb6 hg6 hat6 hb56
      refine hK.out _ _ ⟨(blk_cell BX6.out 0).trans rfl,(blk_cell BX6.out 1).trans rfl⟩ (fun hHeld => ?_)
      clear hK K
      refine qN (some 52) ?_
      refine qE 9 (some 55) fun K hK => ?_
      refine Kd.N_append_rows_step k212 (w0:=W) W.heap.size (by rfl) (.tmp 52) (.tmp 54) 131 212 (.agg #[.int .i64 0,.slice none 0 0]) 32 rfl Tryz.underlying131 info212 rfl (by decide) (by decide) (.slice A6 [y].length c6) [y] tl A4 tl.length (c - 1) (fun k => L.Not k ∧ some k ≠ v3.ownBlock) (fun k => (L.Not k ∧ some k ≠ v3.ownBlock) ∧ some k ≠ (Value.slice A6 [y].length c6).ownBlock) rfl rfl HN6.out HF6.out (fun k hk => hk) ?aF HB6.out (below_size HB6.out) ?aL ?_
      case aF => exact fun k hk => ⟨HN.out k (Nat.le_trans (below_size HB6.out) hk),fun e => by have:=HVLd.out k e.symm;have:=HS5.out;have:=HS6.out;omega⟩
      case aL => have:=HI.out.2.2.2;have:=HTL.out;simp only [List.length_singleton];omega
      intro v9 w9 ho hb hg hat
      obtain ⟨A9,c9,rfl⟩:=Kd.N_slice ho
      have BX9:=am (blk_grown BX6.out hg NE6.out)
      have HV9:=am (Kd.N_drop (Kd.N_grown HV6.out hg (fun k hk => hk.2)))
      have HN9:=am ho
      have HB9:=am hb
      clear ho hb hg hat
      refine hK.out _ _ ⟨(blk_cell BX9.out 0).trans rfl,(blk_cell BX9.out 1).trans rfl⟩ (fun hHeld => ?_)
      clear hK K
      refine qN (some 55) ?_
      refine qA 10 (some 7) ?_
      refine done_ (done_of HT_.out kr) ?_
      have HD9:=am (dividedP_ok HPO.out (n:=p.f0 - r) (by omega) (by omega) HYs.out)
      go_wp2
      go_roundw
      case rel =>
       refine ⟨a ++ [q],y :: tl,0,A9,c9,v3,rfl,rfl,HV3v.out.symm,⟨(Kd.N_reads' HN9.out).2.1⟩,⟨by omega,?_,by have:=HI.out.2.2;simp only [List.length_append,List.length_singleton];omega,by have:=HI.out.2.2.2;have:=HTL.out;simp only [List.length_cons];omega⟩,⟨?_⟩,HB9,HV9,⟨Kd.N_F HN9.out⟩,⟨?_⟩⟩
       ·have:=HD9.out.2.1
        have h2:=held_ge HPt.out
        show 0 ≤ y.f0 + heldP tl
        omega
       ·intro z hz
        rcases List.mem_cons.1 hz with rfl|hz
        ·exact HD9.out.1
        ·exact HPt.out z hz
       ·rw [HA.out,HQ.out,HYs.out,aheadP_zero]
        simp
      case measure => simp [intOf];omega
  ·have hr0 : r = 0:=by have:=HI.out.1;omega
   subst hr0
   have hYr:=HY.out.move HB.out
   obtain ⟨A0,c0,k1,k2,k3,k4⟩:=hYr.pit_at h0 h1
   have hcg : wr.cell? ⟨L.g,1,none⟩ = some (.slice (some ad) Y.rooms.length Y.rooms.length):=(blk_cell hYr.blk 1).trans (by rw [HAD.out];rfl)
   have hc' : wr.cell? (ad.add i.toNat) = some (.slice A0 (pitP Y i).length c0):=by rw [HAD.out,add_plain];exact k1
   have hf' : wr.frozen? (ad.add i.toNat) = false:=by rw [HAD.out,add_plain];exact k4
   have HYr:=am hYr
   clear hYr k1 k2 k3 k4
   go_wp2
   go_ret
   have hA:=HA.out
   rw [aheadP_zero] at hA
   have hFr : Kd.F k212 wr L.Not A rest.length rest:=Kd.F_mono HF.out (fun k hk => hk.1)
   obtain ⟨s1,s2,s3⟩:=HYr.out.set_pit h0 h1 HLE.out hFr
   have e : ad.add i.toNat = ⟨L.gp,i.toNat,none⟩:=by rw [HAD.out,add_plain]
   rw [e]
   have hb0 : base ≤ W.heap.size:=by have:=HBB.out;omega
   refine ⟨(HB.out.mono hb0).trans s3,.inr ⟨a,rest,Av,cv,by rw [hA];simp,rfl,(Kd.N_reads' HV.out).2.1,s1,(Fr.of_below L HB.out).trans s2,?_⟩⟩
   exact Foot_fr (Kd.N_F HV.out) s2
end Go.Proofs.YtjjfpmapjjemcaaGreat.B
end

section
namespace Go.Proofs.YtjjfpmapjjemcaaGreat.B
open Go.RowKit Go.MapKept Go.ChangeMaps
open Go.Maps (Keyed)
open Go.WideElems (Fit rd rg pl rd_val rd_key rg_of rd_mk)
def anyR (_ : Value) : Option (DataW Unit × List MemPlace):=some (.lit (.bool true),[])
def MapIs (P : Program) (k : TypeId) {κ ν : Type} (ek : κ → Value) (ev : ν → Value) (w : World) (b n : Nat) (M : κ → Option ν) : Prop :=
 ∃ es clock,w.heap[b]? = some (.map es clock) ∧ Fit P k anyR es clock ∧ es.size ≤ n ∧ (∀ x ∈ es.toList,∃ c,x.key = ek c) ∧
  (∀ c y,M c = some y → ∃ x ∈ es.toList,x.key = ek c) ∧ ∀ c,∀ x ∈ es.toList,x.key = ek c → ∃ y,M c = some y ∧ x.val = ev y
section
variable {P : Program} {k : TypeId} {κ ν : Type} {ek : κ → Value} {ev : ν → Value} {w : World} {b n : Nat} {M : κ → Option ν}
theorem MapIs.made (w : World) (P : Program) (k : TypeId) (ek : κ → Value) (ev : ν → Value) : MapIs P k ek ev (w.alloc (.map #[] 0)) w.heap.size 0 (fun _ => none) :=
 ⟨#[],0,(MapKept.heap_alloc w _).1,⟨by simp,stamped_empty 0,by simp⟩,Nat.le_refl _,by simp,by simp,by simp⟩
theorem MapIs.lt (h : MapIs P k ek ev w b n M) : b < w.heap.size:=by
 obtain ⟨es,clock,hb,_⟩:=h
 exact (Array.getElem?_eq_some_iff.1 hb).1
theorem MapIs.keep {w' : World} (h : MapIs P k ek ev w b n M) (hb : w'.heap[b]? = w.heap[b]?) : MapIs P k ek ev w' b n M:=by
 obtain ⟨es,clock,h1,h2⟩:=h
 exact ⟨es,clock,hb.trans h1,h2⟩
theorem MapIs.alloc (h : MapIs P k ek ev w b n M) (o : Obj) : MapIs P k ek ev (w.alloc o) b n M:=by
 refine h.keep ?_
 have hlt:=h.lt
 exact (World.grownBy_alloc w o none).block b hlt (by simp)
theorem MapIs.below {w' : World} {base : Nat} (h : MapIs P k ek ev w b n M) (hd : Below base w w') (hb : b < base) : MapIs P k ek ev w' b n M:=by
 refine h.keep ?_
 exact hd.block b hb
theorem MapIs.mono (h : MapIs P k ek ev w b n M) {n' : Nat} (hn : n ≤ n') : MapIs P k ek ev w b n' M:=by
 obtain ⟨es,clock,h1,h2,h3,h4⟩:=h
 exact ⟨es,clock,h1,h2,Nat.le_trans h3 hn,h4⟩
theorem rg_fst {es : Array MapEntry} {clock : Nat} (F : Fit P k anyR es clock) {x : MapEntry} (hx : x ∈ es.toList) : keyOf P k x.key = some (rg P k anyR x).1:=by
 obtain ⟨y,hy⟩:=F.reads x hx
 rw [rg_of hy]
 exact rd_key hy
theorem MapIs.lookup {t e : TypeId} (h : MapIs P k ek ev w b n M) (ok : Bool) (K : Keyed P k) (ht : P.underlying t = some (.map k e)) {z : Value} (hz : (zeroValue e).run P w = .ok z w) {c : κ} {kl : Lit} (hkey : keyOf P k (ek c) = some kl) :
  (Instr.lookup t (.map (some b)) (ek c) ok).run P w = .ok (match M c with
  |some y => if ok then .tuple #[ev y,.bool true] else ev y
  |none => if ok then .tuple #[z,.bool false] else z) w:=by
 obtain ⟨es,clock,hb,F,_,_,h1,h2⟩:=h
 rcases Maps.fit_look ok K ht hz hb F hkey with ⟨hrun,hno,_⟩|⟨e0,y,hm,hk,hrun,_⟩
 ·cases hM : M c with
 |none => exact hrun
 |some y =>
   obtain ⟨x,hx,hxk⟩:=h1 c y hM
   exact absurd hxk (hno x hx)
 ·obtain ⟨y,hM,hv⟩:=h2 c e0 hm hk
  rw [hM,hrun,hv]
theorem MapIs.update {t e : TypeId} [DecidableEq κ] (h : MapIs P k ek ev w b n M) (K : Keyed P k) (ht : P.underlying t = some (.map k e)) (hn : n < maxLen) {c : κ} (y : ν) {kl : Lit} (hkey : keyOf P k (ek c) = some kl) (hinj : ∀ c',ek c' = ek c → c' = c) :
  ∃ w',(Instr.mapUpdate t (.map (some b)) (ek c) (ev y)).run P w = .ok () w' ∧ MapIs P k ek ev w' b (n + 1) (fun c' => if c' = c then some y else M c') ∧ w.grownBy w' (some b):=by
 obtain ⟨es,clock,hb,F,hs,hks,h1,h2⟩:=h
 obtain ⟨es',clock',hrun,F',hput,_,_,hwho⟩:=Maps.fit_store (R':=anyR) (val:=ev y) K ht hb F (Nat.lt_of_le_of_lt hs hn) (fun _ _ _ _ hz => hz) hkey rfl
 have hin : ∀ q,q ∈ putKey kl (DataW.lit (.bool true) : DataW Unit) ((es.toList.map (rg P k anyR)).foldr DataW.insert []) → ∃ x' ∈ es'.toList,rg P k anyR x' = q:=by
  intro q hq
  rw [← hput] at hq
  obtain ⟨x',hx',e1⟩:=List.mem_map.1 ((WideShapes.sorted_perm _).mem_iff.1 hq)
  exact ⟨x',hx',e1⟩
 have hnew : ∃ x' ∈ es'.toList,x'.key = ek c:=by
  obtain ⟨x',hx',e1⟩:=hin (kl,.lit (.bool true)) (mem_insert_iff.2 (Or.inl rfl))
  refine ⟨x',hx',K.inj (rg_fst F' hx') ?_⟩
  rw [e1]
  exact hkey
 have hold : ∀ x ∈ es.toList,x.key ≠ ek c → ∃ x' ∈ es'.toList,x'.key = x.key:=by
  intro x hx hne
  obtain ⟨x',hx',e1⟩:=hin (rg P k anyR x) (mem_insert_iff.2 (Or.inr (List.mem_filter.2 ⟨(WideShapes.sorted_perm _).mem_iff.2 (List.mem_map.2 ⟨x,hx,rfl⟩),(Maps.notKey_iff (K.key hkey)).2 (fun e2 => hne (K.inj (rg_fst F hx) (by rw [e2];exact hkey)))⟩)))
  refine ⟨x',hx',K.inj (rg_fst F' hx') ?_⟩
  rw [e1]
  exact rg_fst F hx
 refine ⟨_,hrun,⟨es',clock',heap_setBlock_same hb _,F',?_,?_,?_,?_⟩,⟨rfl,rfl,rfl,by simp [setBlock],fun i _ hi => heap_setBlock_other hb _ (fun e => hi (by rw [e]))⟩⟩
 ·have e1 : es'.size = ((es'.toList.map (rg P k anyR)).foldr DataW.insert []).length:=by rw [length_sorted];simp
  rw [e1,hput]
  unfold putKey
  rw [length_insert]
  have e2:=List.length_filter_le (notKey kl) ((es.toList.map (rg P k anyR)).foldr DataW.insert [])
  rw [length_sorted] at e2
  simp at e2
  omega
 ·intro x hx
  rcases hwho x hx with ⟨hx',_⟩|⟨hx',_⟩
  ·exact hks x hx'
  ·exact ⟨c,hx'⟩
 ·intro c' y' hM
  replace hM : (if c' = c then some y else M c') = some y':=hM
  by_cases hc : c' = c
  ·subst hc
   exact hnew
  ·rw [if_neg hc] at hM
   obtain ⟨x,hx,hxk⟩:=h1 c' y' hM
   obtain ⟨x',hx',e1⟩:=hold x hx (fun e2 => hc (hinj c' (hxk.symm.trans e2)))
   exact ⟨x',hx',e1.trans hxk⟩
 ·intro c' x hx hxk
  rcases hwho x hx with ⟨hx',hne⟩|⟨hk',hv⟩
  ·have hc : c' ≠ c:=fun e2 => hne (by rw [hxk,e2])
   show ∃ y_1,(if c' = c then some y else M c') = some y_1 ∧ x.val = ev y_1
   rw [if_neg hc]
   exact h2 c' x hx' hxk
  ·have hc : c' = c:=hinj c' (hxk.symm.trans hk')
   show ∃ y_1,(if c' = c then some y else M c') = some y_1 ∧ x.val = ev y_1
   rw [if_pos hc]
   exact ⟨y,rfl,hv⟩
end
theorem wpList_lookup_map {P : Program} (w : World) {ops : Array Oper} {rest : List Oper} {o : Oper} {a : Act} {Q : Exit → Act → World → Prop}
  (hg : o.guard = none) (m x : Operand) (t : TypeId) (ok : Bool) (hop : o.op = Op.lookup t m x ok)
  (k e : TypeId) (K : Keyed P k) (ht : P.underlying t = some (.map k e)) (z : Value) (hz : (zeroValue e).run P w = .ok z w) {κ ν : Type} (ek : κ → Value) (ev : ν → Value) (b n : Nat) (M : κ → Option ν)
  (hm : a.eval m = .map (some b)) (h : MapIs P k ek ev w b n M) (c : κ) (kl : Lit) (hx : a.eval x = ek c) (hkey : keyOf P k (ek c) = some kl)
  (v : Value) (hv : (match M c with
  |some y => if ok then .tuple #[ev y,.bool true] else ev y
  |none => if ok then .tuple #[z,.bool false] else z) = v)
  (hK : wpList P ops Q rest (a.put o.dst v) w) :
  wpList P ops Q (o :: rest) a w:=by
 refine wpList_plain hg fun K' hK' => ?_
 have hrun:=h.lookup ok K ht hz hkey
 rw [hv] at hrun
 unfold Oper.wp
 simp [execOp,hop,hm,hx,hrun,Result.andThen]
 exact hK' _ _ hK
theorem wpListIn_lookup_map {F : Fence} {N : Nat} {P : Program} (w : World) {ops : Array Oper} {rest : List Oper} {o : Oper} {a : Act} {Q : Exit → Act → World → Prop}
  (hg : o.guard = none) (m x : Operand) (t : TypeId) (ok : Bool) (hop : o.op = Op.lookup t m x ok)
  (k e : TypeId) (K : Keyed P k) (ht : P.underlying t = some (.map k e)) (z : Value) (hz : (zeroValue e).run P w = .ok z w) {κ ν : Type} (ek : κ → Value) (ev : ν → Value) (b n : Nat) (M : κ → Option ν)
  (hm : a.eval m = .map (some b)) (h : MapIs P k ek ev w b n M) (c : κ) (kl : Lit) (hx : a.eval x = ek c) (hkey : keyOf P k (ek c) = some kl)
  (v : Value) (hv : (match M c with
  |some y => if ok then .tuple #[ev y,.bool true] else ev y
  |none => if ok then .tuple #[z,.bool false] else z) = v)
  (hK : wpListIn F N P ops Q rest (a.put o.dst v) w) :
  wpListIn F N P ops Q (o :: rest) a w:=by
 refine wpListIn_plain hg fun K' hK' => ?_
 have hrun:=h.lookup ok K ht hz hkey
 rw [hv] at hrun
 unfold Oper.wpIn
 refine ⟨?_,?_⟩
 ·simp [Oper.about,hop]
 ·rw [Oper.semAt_plain F _ _ (by rw [hop];intro c hc';cases hc')]
  simp [execOp,hop,hm,hx,hrun,Result.andThen]
  exact hK' _ _ hK
theorem wpListIn_update_map {F : Fence} {N : Nat} {P : Program} (w : World) {ops : Array Oper} {rest : List Oper} {o : Oper} {a : Act} {Q : Exit → Act → World → Prop}
  (hg : o.guard = none) (m x v : Operand) (t : TypeId) (hop : o.op = Op.mapUpdate t m x v)
  (k e : TypeId) (K : Keyed P k) (ht : P.underlying t = some (.map k e)) {κ ν : Type} [DecidableEq κ] (ek : κ → Value) (ev : ν → Value) (b n : Nat) (M : κ → Option ν)
  (hm : a.eval m = .map (some b)) (h : MapIs P k ek ev w b n M) (hn : n < maxLen) (c : κ) (y : ν) (kl : Lit) (hx : a.eval x = ek c) (hv : a.eval v = ev y) (hkey : keyOf P k (ek c) = some kl) (hinj : ∀ c',ek c' = ek c → c' = c)
  (hK : ∀ w',MapIs P k ek ev w' b (n + 1) (fun c' => if c' = c then some y else M c') → w.grownBy w' (some b) → wpListIn F N P ops Q rest (a.put o.dst undef) w') :
  wpListIn F N P ops Q (o :: rest) a w:=by
 refine wpListIn_plain hg fun K' hK' => ?_
 obtain ⟨w',hrun,r1,r2⟩:=h.update K ht hn y hkey hinj
 unfold Oper.wpIn
 refine ⟨?_,?_⟩
 ·simp [Oper.about,hop]
 ·rw [Oper.semAt_plain F _ _ (by rw [hop];intro c hc';cases hc')]
  simp [execOp,hop,hm,hx,hv,hrun,Result.andThen]
  exact hK' _ _ (hK w' r1 r2)
section
variable {P : Program} {k : TypeId} {κ ν : Type} {ek : κ → Value} {ev : ν → Value} {w : World} {b n : Nat} {M : κ → Option ν}
def Walks (P : Program) (k : TypeId) {κ ν : Type} (ek : κ → Value) (ev : ν → Value) (w : World) (b r n : Nat) (M : κ → Option ν) (Done : κ → ν → Prop) (cnt : Nat) : Prop :=
 ∃ es clock since seen c0,w.heap[b]? = some (.map es clock) ∧ Fit P k anyR es clock ∧ (∀ x ∈ es.toList,∃ c y,x.key = ek c ∧ x.val = ev y ∧ M c = some y) ∧
  w.heap[r]? = some (.mapIter (some b) since seen c0) ∧ (∀ x ∈ es.toList,x.born < since) ∧ (leftOf es seen).size = cnt ∧ since ≤ c0 ∧ since ≤ clock ∧
  (∀ c y,M c = some y → Done c y ∨ ∃ x ∈ es.toList,x.key = ek c ∧ seen.contains x.born = false) ∧ MapIs P k ek ev w b n M
theorem Walks.kept {w' : World} {row : Option Nat} {r cnt : Nat} {Done : κ → ν → Prop} (h : Walks P k ek ev w b r n M Done cnt) (hg : w.grownBy w' row) (hb' : some b ≠ row) (hr' : some r ≠ row) : Walks P k ek ev w' b r n M Done cnt:=by
 obtain ⟨es,clock,since,seen,c0,hb,F,hks,hr,hold,hc,hsc,hsk,hl,hM⟩:=h
 have h1:=(Array.getElem?_eq_some_iff.1 hb).1
 have h2:=(Array.getElem?_eq_some_iff.1 hr).1
 exact ⟨es,clock,since,seen,c0,(hg.block b h1 hb').trans hb,F,hks,(hg.block r h2 hr').trans hr,hold,hc,hsc,hsk,hl,hM.keep (hg.block b h1 hb')⟩
end
end Go.Proofs.YtjjfpmapjjemcaaGreat.B
end

section
namespace Go.Proofs.YtjjfpmapjjemcaaGreat.B
open Go.RowKit Go.Proofs.YtjjfpmapjjemcaaGreatW.PrintWords Go.Proofs.YtjjfpmapjjemcaaGreatW.PrintLast Go.Proofs.YtjjfpmapjjemcaaGreatW.PrintMore
attribute [local go_sem] max2_int min2_int max_two min_two max_three min_three max_four min_four
theorem parts_calls (A : Option Addr) (c : Nat) (n : Nat) (w : World) : Calls Tryz.prog 170 #[.slice A n c] w fun e w' => e = .returned (.func (.func 213) #[] #[.pointer (some ⟨w.heap.size,0,none⟩)]) ∧ w' = w.alloc (.cells #[.slice A n c] 131):=by
 have hmf : ∀ (fn : Fn) (first cap : Array Value) (w : World),(Instr.makeFunc fn first cap).run Tryz.prog w = .ok (.func fn first cap) w:=fun _ _ _ _ => rfl
 go_enter Tryz.func170,Tryz.ntmps170
 go_wp2
 go_ret
 exact ⟨rfl,rfl⟩
theorem partsP_take (l : List S212) (j : Nat) (h : j < l.length) : partsP l = partsP (l.take j) ++ ((rd_T212 l (j : Int)).f1 ++ partsP (l.drop (j + 1))):=by
 have e : rd_T212 l (j : Int) = l[j]:=by unfold rd_T212;rw [Int.toNat_natCast,List.getD_eq_getElem?_getD,List.getElem?_eq_getElem h];rfl
 rw [e]
 conv => lhs;rw [← List.take_append_drop j l]
 rw [partsP_append,List.drop_eq_getElem_cons h]
 rfl
theorem partsP_snoc (l : List S212) (j : Nat) (h : j < l.length) : partsP (l.take (j + 1)) = partsP (l.take j) ++ (rd_T212 l (j : Int)).f1:=by
 have e : rd_T212 l (j : Int) = l[j]:=by unfold rd_T212;rw [Int.toNat_natCast,List.getD_eq_getElem?_getD,List.getElem?_eq_getElem h];rfl
 rw [List.take_succ_eq_append_getElem h,partsP_append,e]
 simp [partsP]
set_option maxRecDepth 100000 in
set_option maxHeartbeats 4000000 in
theorem parts1_in (n : Nat) (hn : 1 ≤ n) (rl : Nat) (A : Option Addr) (c : Nat) (l : List S212) (Bl : Nat) (St : List S89 → World → Prop) (Bad : Ending → World → Prop) (hbad : ∀ e W,Bad e W → ∃ ch,e = .panicked ch)
  (W0 : World) (hF : Kd.C k212 W0 A l.length l) (hK : ∀ pre W,St pre W → Below W0.heap.size W0 W) (hM : ∀ pre W W',St pre W → Below W.heap.size W W' → St pre W')
  (hY : ∀ pre x suf W,partsP l = pre ++ x :: suf → St pre W → YieldAt Fence.wide (n - 1) Tryz.prog rl #[.agg #[.int .i64 x.f0,.int .i64 x.f1.f0,.int .i64 x.f1.f1]] W fun e W' => (e = .returned (.bool true) ∧ St (pre ++ [x]) W') ∨ Bad e W')
  (W : World) (hS : St [] W) (hB : W.heap[Bl]? = some (.cells #[.slice A l.length c] 131 (0,0))) :
  CallsIn Fence.wide n Tryz.prog 213 #[.func (.yield rl) #[] #[],.pointer (some ⟨Bl,0,none⟩)] W fun e W' => ((∃ v,e = .returned v) ∧ St (partsP l) W') ∨ Bad e W':=by
 have hu212:=Tryz.underlying212
 have hu89:=Tryz.underlying89
 have hu43:=Tryz.underlying43
 have hcm:=bd hB 0
 have hlm:=hF.2.1
 have HS:=am hS
 have HYY:=am hY
 have HF:=am hF
 have HM:=am hM
 have HK:=am hK
 have HBad:=am hbad
 clear hS hB hY hF hM hK hbad
 refine callsIn_of_wp Tryz.func213 rfl trivial ?_ rfl
 simp only [Tryz.ntmps213,List.size_toArray,List.length_cons,List.length_nil,Nat.reduceAdd,Nat.reduceSub,Array.replicate_succ,Array.replicate_zero,List.push_toArray,List.append_toArray,List.nil_append,List.cons_append]
 gi_wp2
 gi_loopw [9] (fun v9 wr => ∃ j : Nat,j ≤ l.length ∧ v9 = .int .i64 (j : Int) ∧ Aside0 (St (partsP (l.take j)) wr)) (fun v9 _ => l.length - (intOf v9).toNat)
 case atStart => exact ⟨0,Nat.zero_le _,rfl,⟨by simpa [partsP] using HS.out⟩⟩
 case round =>
  clear HS hcm
  obtain ⟨j,hj,rfl,HS⟩:=hrel
  by_cases hlt : j < l.length
  ·obtain ⟨ae,A1,c1,e,hy0,hy1,hl1,hC1⟩:=at_T212 HF.out (j : Int) (by omega) (by omega)
   cases e
   rw [Int.toNat_natCast] at hy0 hy1
   have hx0:=pw_cell_below (HK.out _ _ HS.out) hy0
   have hx1:=pw_cell_below (HK.out _ _ HS.out) hy1
   clear hy0 hy1
   have HSN:=am (partsP_snoc l j hlt)
   have HPT:=am (partsP_take l j hlt)
   have hlm1:=hC1.2.1
   obtain ⟨p,hp⟩ : ∃ p,p = rd_T212 l (j : Int):=⟨_,rfl⟩
   rw [← hp] at hx0 hx1 HSN HPT hl1 hC1 hlm1
   have HC1:=am hC1
   clear hC1 hl1
   have HPE:=am hp
   clear hp
   gi_wp2
   gi_loopw [16] (fun v16 wi => ∃ i : Nat,i ≤ p.f1.length ∧ v16 = .int .i64 (i : Int) ∧ Aside0 (St (partsP (l.take j) ++ p.f1.take i) wi)) (fun v16 _ => p.f1.length - (intOf v16).toNat)
   case atStart => exact ⟨0,Nat.zero_le _,rfl,⟨by simpa using HM.out _ _ _ HS.out (below_alloc (Below.refl _ _) _)⟩⟩
   case round =>
    rename World => wi
    obtain ⟨i,hi,rfl,HSi⟩:=hrel
    by_cases hlti : i < p.f1.length
    ·obtain ⟨af,e,hz0,hz1,hz2⟩:=at_T89 (Kd.C_below HC1.out (HK.out _ _ HSi.out)) (i : Int) (by omega) (by omega)
     cases e
     rw [Int.toNat_natCast] at hz0 hz1 hz2
     have hsp : partsP l = (partsP (l.take j) ++ p.f1.take i) ++ rd_T89 p.f1 (i : Int) :: (p.f1.drop (i + 1) ++ partsP (l.drop (j + 1))):=by
      rw [HPT.out,List.append_assoc]
      congr 1
      conv => lhs;rw [← List.take_append_drop i p.f1]
      rw [drop_rd89 hlti,List.append_assoc]
      rfl
     obtain ⟨fn,tmps,assign,body,hy,hR⟩:=HYY.out (partsP (l.take j) ++ p.f1.take i) (rd_T89 p.f1 (i : Int)) _ (wi.alloc (.cells #[.int .i64 (rd_T89 p.f1 (i : Int)).f0,.int .i64 (rd_T89 p.f1 (i : Int)).f1.f0,.int .i64 (rd_T89 p.f1 (i : Int)).f1.f1] 89)) hsp (HM.out _ _ _ HSi.out (below_alloc (Below.refl _ _) _))
     have HR:=am hR
     have HSX:=am (show p.f1.take (i + 1) = p.f1.take i ++ [rd_T89 p.f1 (i : Int)] by rw [List.take_succ_eq_append_getElem hlti];unfold rd_T89;rw [Int.toNat_natCast,List.getD_eq_getElem?_getD,List.getElem?_eq_getElem hlti];rfl)
     clear hR hsp
     gi_wp2
     refine HR.out.mono ?_
     rintro e W3 (⟨rfl,hs3⟩|hb)
     ·have HS3:=am hs3
      clear hs3 hy
      gi_wp2
      go_roundw
      case rel => exact ⟨i + 1,by omega,by go_num,⟨by rw [HSX.out,← List.append_assoc];exact HS3.out⟩⟩
      case measure => simp [intOf];omega
     ·obtain ⟨ch,rfl⟩:=HBad.out _ _ hb
      have HBx:=am hb
      clear hb hy
      gi_wp2
      exact ⟨rfl,.inr HBx.out⟩
    ·have hii : i = p.f1.length:=by omega
     have HSf:=am (show St (partsP (l.take (j + 1))) wi by have h:=HSi.out;rw [hii,List.take_length] at h;rw [HSN.out];exact h)
     clear hii
     gi_wp2
     go_roundw
     case rel => exact ⟨j + 1,by omega,by go_num,HSf⟩
     case measure => simp [intOf];omega
  ·gi_wp2
   go_end0
   refine .inl ⟨⟨_,rfl⟩,?_⟩
   have h:=HS.out
   rw [List.take_of_length_le (by omega)] at h
   exact h
section
open Go
def roundPostP (P : Program) (l : Nat) (R : Ending → World → Prop) : Exit → Act → World → Prop
|.normal,_,w => ∃ v w',(Instr.endRound l none).run P w = .ok v w' ∧ R (.returned v) w'
|.panic chain,a,w => a.defers = [] ∧ R (.panicked chain) w
|_,_,_ => False
theorem roundInP_of_wpIn {F : Fence} {n : Nat} {P : Program} {l : Nat} {f : FuncId} {tmps : Array Value} {assign body : Code} {w : World} {R : Ending → World → Prop} (hF : F.fn f) {fn : Func} (hfn : P.funcs[f]? = some fn)
  (h : assign.wpIn (F.inRound l) n P (Exit.then (fun a₁ w₁ => ∃ w₂,(Instr.beginRound l).run P w₁ = .ok () w₂ ∧ body.wpIn (F.inRound l) n P (roundPostP P l R) a₁ w₂) (fun _ _ _ => False))
   { tmps:=tmps,defers:=[] } w) :
  RoundIn F n P l f tmps assign body w R:=by
 refine ⟨hF,fun c cs hr => ?_⟩
 let b : Frame:={ (default : Frame) with fn:=f,kind:=.normal,roundOf:=some l }
 have hb0 : Frame.round l f tmps assign body .normal = b.atR { tmps:=tmps,defers:=[] } [.code assign,.beginRound,.code body]:=by
  simp [Frame.round,Frame.atR,b]
 have hr' : (F.inRound l).room ((c :: cs).length + 1 + n):=hr
 have hF' : (F.inRound l).fn b.fn:=hF
 obtain ⟨e,a₁,w₁,hq,harr⟩:=h b [.beginRound,.code body] (c :: cs) rfl hF' hr'
 rw [← hb0] at harr
 cases e with
|normal =>
  obtain ⟨w₂,hbr,hbody⟩:=hq
  have s1 : StepsIn (Machine.fenced P (F.inRound l)) P (lone (b.atR a₁ [.beginRound,.code body]) (c :: cs) w₁) (lone (b.atR a₁ [.code body]) (c :: cs) w₂) :=
   .one (fenced_calm (fr:=b.atR a₁ [.beginRound,.code body]) hF' hr' rfl) (stepR_beginRound rfl hbr)
  obtain ⟨e₂,a₂,w₃,hq₂,harr₂⟩:=hbody b [] (c :: cs) rfl hF' hr'
  cases e₂ with
 |normal =>
   obtain ⟨v,w₄,hend,hR⟩:=hq₂
   exact ⟨.returned v,w₄,hR,(StepsIn.trans harr s1).trans (StepsIn.trans harr₂ (.one (fenced_calm (fr:=b.atR a₂ []) hF' hr' rfl) (stepR_round_end rfl rfl hend)))⟩
 |panic chain =>
   obtain ⟨hd,hR⟩:=hq₂
   obtain ⟨todo,hs⟩:=harr₂
   exact ⟨.panicked chain,w₃,hR,(StepsIn.trans harr s1).trans (StepsIn.trans hs (.one (fenced_calm (fr:={ b.atR a₂ todo with mode:=.panicking chain }) hF' hr' (by simp [Frame.about,Frame.atR,hd])) (step_leave_panicked ⟨rfl,hd,fn,hfn⟩)))⟩
 |ret => exact hq₂.elim
 |exit id => exact hq₂.elim
 |goto t => exact hq₂.elim
 |outgrown => exact hq₂.elim
|exit id => exact hq.elim
|goto t => exact hq.elim
|ret => exact hq.elim
|panic chain => exact hq.elim
|outgrown => exact hq.elim
def wpAt (f0 : FuncId) (F : Fence) (n : Nat) (P : Program) (c : Code) (Q : Exit → Act → World → Prop) (a : Act) (w : World) : Prop :=
 ∀ (b : Frame) (k : List Item) (cs : List Frame),b.fn = f0 → b.roundOf = F.round → F.fn b.fn → F.room (cs.length + 1 + n) →
  ∃ e a' w',Q e a' w' ∧ ArrivesIn (Machine.fenced P F) P (lone (b.atR a (.code c :: k)) cs w) b k cs e a' w'
section
variable {f0 : FuncId} {F : Fence} {n : Nat} {P : Program} {Q : Exit → Act → World → Prop} {a : Act} {w : World}
theorem wpAt_of {c : Code} (h : c.wpIn F n P Q a w) : wpAt f0 F n P c Q a w:=fun b k cs _ hro hb hr => h b k cs hro hb hr
theorem wpAt_seq {x y : Code} (h : wpAt f0 F n P x (Exit.then (wpAt f0 F n P y Q) Q) a w) : wpAt f0 F n P (Code.seq x y) Q a w:=by
 intro b k cs hf hro hb hr
 have h0 : (lone (b.atR a (.code (.seq x y) :: k)) cs w).fenced P F:=fenced_calm hb hr rfl
 obtain ⟨e,a₁,w₁,hq,harr⟩:=h b (.code y :: k) cs hf hro hb hr
 cases e with
|normal =>
  obtain ⟨e₂,a₂,w₂,hq₂,harr₂⟩:=hq b k cs hf hro hb hr
  exact ⟨e₂,a₂,w₂,hq₂,.of_steps (.head h0 stepR_seq harr) harr₂⟩
|exit id => exact ⟨_,a₁,w₁,hq,.of_steps (.one h0 stepR_seq) (.pass (x:=.code y) rfl (fun _ _ => .inl (by simp)) harr)⟩
|goto l => exact ⟨_,a₁,w₁,hq,.of_steps (.one h0 stepR_seq) (.pass (x:=.code y) rfl (fun _ _ => .inl (by simp)) harr)⟩
|ret => exact ⟨_,a₁,w₁,hq,.of_steps (.one h0 stepR_seq) (.pass (x:=.code y) rfl (fun _ _ => .inl (by simp)) harr)⟩
|panic ch => exact ⟨_,a₁,w₁,hq,.of_steps (.one h0 stepR_seq) (.pass (x:=.code y) rfl (fun _ _ => .inl (by simp)) harr)⟩
|outgrown => exact ⟨_,a₁,w₁,hq,.of_steps (.one h0 stepR_seq) (.pass (x:=.code y) rfl (fun _ _ => .inl (by simp)) harr)⟩
theorem wpAt_seqL {x y : Code} (h : x.wpIn F n P (Exit.then (wpAt f0 F n P y Q) Q) a w) : wpAt f0 F n P (Code.seq x y) Q a w:=wpAt_seq (wpAt_of h)
theorem wpAt_mono {c : Code} {Q' : Exit → Act → World → Prop} (h : wpAt f0 F n P c Q a w) (hq : ∀ e a w,Q e a w → Q' e a w) : wpAt f0 F n P c Q' a w:=fun b k cs hf hro hb hr => let ⟨e,a',w',q,r⟩:=h b k cs hf hro hb hr;⟨e,a',w',hq _ _ _ q,r⟩
theorem wpAt_seqR {x y : Code} (h : wpAt f0 F n P x (Exit.then (y.wpIn F n P Q) Q) a w) : wpAt f0 F n P (Code.seq x y) Q a w:=wpAt_seq (wpAt_mono h fun e a w hq => by
 cases e with
|normal => exact wpAt_of hq
|_ => exact hq)
theorem wpAt_block {id : Nat} {c : Code} (h : wpAt f0 F n P c (Exit.inBlock id Q) a w) : wpAt f0 F n P (Code.block id c) Q a w:=by
 intro b k cs hf hro hb hr
 have h0 : (lone (b.atR a (.code (.block id c) :: k)) cs w).fenced P F:=fenced_calm hb hr rfl
 obtain ⟨e,a₁,w₁,hq,harr⟩:=h b (.inBlock id :: k) cs hf hro hb hr
 cases e with
|normal => exact ⟨.normal,a₁,w₁,hq,.head h0 stepR_block (StepsIn.trans harr (.one (fenced_calm hb hr rfl) stepR_inBlock))⟩
|exit id' =>
  by_cases hid : id' = id
  ·simp only [Exit.inBlock,hid,if_true] at hq
   exact ⟨.normal,a₁,w₁,hq,.head h0 stepR_block (harr.1 k (by simp [exitTo,hid]))⟩
  ·simp only [Exit.inBlock,hid,if_false] at hq
   have this : (id == id') = false:=by simp;exact fun h => hid h.symm
   have hx : exitTo id' (.inBlock id :: k) = exitTo id' k:=by simp [exitTo,this]
   exact ⟨.exit id',a₁,w₁,hq,fun k' hk => .head h0 stepR_block (harr.1 k' (by rw [hx];exact hk)),
    fun hr' hk => let ⟨k₁,h1,h2⟩:=harr.2 hr' (by rw [hx];exact hk);⟨k₁,h1,.head h0 stepR_block h2⟩⟩
|goto l =>
  have hx : gotoIn l (.inBlock id :: k) = gotoIn l k:=by simp [gotoIn]
  exact ⟨_,a₁,w₁,hq,fun k' hk => .head h0 stepR_block (harr.1 k' (by rw [hx];exact hk)),
   fun hr' hk => let ⟨k₁,h1,h2⟩:=harr.2 hr' (by rw [hx];exact hk);⟨k₁,h1,.head h0 stepR_block h2⟩⟩
|ret => exact ⟨_,a₁,w₁,hq,.of_steps (.one h0 stepR_block) harr⟩
|panic ch => exact ⟨_,a₁,w₁,hq,.of_steps (.one h0 stepR_block) harr⟩
|outgrown => exact ⟨_,a₁,w₁,hq,.of_steps (.one h0 stepR_block) harr⟩
theorem wpAt_range {g : Operand} {ps : Array Tmp} {assign body : Code} (hro : F.round = none) (h1 : 1 ≤ n)
  {gf : Nat} {lb : Array Value} (hg : a.eval g = .func (.func gf) #[] lb) (hFg : F.fn gf) (eg : ∀ args w,(callFunc gf args).run P w = .ok (.enter gf args) w)
  (h : ∀ rec : Loop,rec = { state:=.ready,pending:=none,fn:=f0,tmps:=a.tmps,params:=ps,assign,body,defers:=w.heap.size } → CallsIn F (n - 1) P gf (#[.func (.yield (w.heap.size + 1)) #[] #[]] ++ lb) ((w.alloc (.deferred (some []))).alloc (.loop rec))
   (rangePost F n P (w.heap.size + 1) Q { a with defers:=[{ target:=.collected w.heap.size,args:=#[] }] ++ a.defers })) :
  wpAt f0 F n P (Code.rangeFunc g ps assign body) Q a w:=by
 intro b k cs hf hro' hb hr
 have h':=h _ rfl
 obtain ⟨W1,hW1⟩ : ∃ W1,(w.alloc (.deferred (some []))).alloc (.loop { state:=.ready,pending:=none,fn:=f0,tmps:=a.tmps,params:=ps,assign,body,defers:=w.heap.size }) = W1:=⟨_,rfl⟩
 rw [hW1] at h'
 have he : (Instr.enterLoop b.fn a.tmps ps assign body b.roundOf).run P w = .ok (w.heap.size + 1,[{ target:=.collected w.heap.size,args:=#[] }]) W1:=by rw [← hW1,hro',hro,hf];exact run_enterLoop_outer _ _ _ _ _
 have hres : (resolve a.eval (rangeCall g (w.heap.size + 1)) 0).run P W1 = .ok { target:=.fn (.func gf) lb,args:=#[.func (.yield (w.heap.size + 1)) #[] #[]] } W1:=by
  simp only [resolve,hg]
  simp [go_sem]
 have hlead : ∀ f',Target.leads P W1 (.fn (.func gf) lb) #[.func (.yield (w.heap.size + 1)) #[] #[]] = some f' → F.fn f':=by
  intro f' hf';simp [Target.leads] at hf';subst hf';exact hFg
 have hinv : (invoke (.fn (.func gf) lb) #[.func (.yield (w.heap.size + 1)) #[] #[]]).run P W1 = .ok (.enter gf (#[.func (.yield (w.heap.size + 1)) #[] #[]] ++ lb)) W1:=by simp [invoke,go_sem,eg]
 obtain ⟨hF,hcall⟩:=h'
 have h0 : (lone (b.atR a (.code (.rangeFunc g ps assign body) :: k)) cs w).fenced P F:=by
  refine fenced_lone (.inl hb) (fun f' hf' => hlead f' ?_) (Fence.room_le hr (by omega))
  have hev:=Frame.eval_atR b a (.code (.rangeFunc g ps assign body) :: k)
  simp only [Frame.atR] at hev
  simp only [Frame.about,Frame.atR,he,hev,hres] at hf'
  exact hf'
 have henter:=stepR_rangeFunc (P:=P) (b:=b) (a:=a) (k:=k) (cs:=cs) (w:=w) he hres hinv
 have hroom : F.room ((b.atR { a with defers:=[{ target:=.collected w.heap.size,args:=#[] }] ++ a.defers } (.inRangeFunc (w.heap.size + 1) :: k) :: cs).length + 1 + (n - 1)):=Fence.room_enter hr (fun _ => h1)
 obtain ⟨e,w₃,fr,hR,hsteps,hfn,hleave⟩:=hcall (b.atR { a with defers:=[{ target:=.collected w.heap.size,args:=#[] }] ++ a.defers } (.inRangeFunc (w.heap.size + 1) :: k) :: cs) hroom
 cases e with
|outgrown =>
  obtain ⟨a₀,w₀,hq⟩:=hR
  exact ⟨.outgrown,a₀,w₀,hq,.inr (Outgrown.of_steps (.one henter) hsteps)⟩
|returned v =>
  have hl : (lone fr (b.atR { a with defers:=[{ target:=.collected w.heap.size,args:=#[] }] ++ a.defers } (.inRangeFunc (w.heap.size + 1) :: k) :: cs) w₃).fenced P F:=fenced_leaving (hfn ▸ hF) hroom hleave
  obtain ⟨jump,w₄,hend,hj⟩:=hR
  have sback : StepsIn (Machine.fenced P F) P (lone (b.atR a (.code (.rangeFunc g ps assign body) :: k)) cs w) (lone (b.atR { a with defers:=[{ target:=.collected w.heap.size,args:=#[] }] ++ a.defers } ((jump.map Item.code).toList ++ k)) cs w₄):=by
   refine .head h0 henter (StepsIn.trans hsteps (.head hl ?_ (.one (fenced_calm (fr:=b.atR { a with defers:=[{ target:=.collected w.heap.size,args:=#[] }] ++ a.defers } (.endRangeFunc (w.heap.size + 1) :: k)) hb hr rfl) (stepR_endRangeFunc hend))))
   rw [← finish_atR_inRangeFunc (w.heap.size + 1) v];exact step_leave_returned hleave
  cases jump with
 |none => exact ⟨.normal,_,w₄,hj,sback⟩
 |some c =>
   obtain ⟨e',a'',w₅,hq,harr⟩:=hj b k cs hro' hb hr
   exact ⟨e',a'',w₅,hq,.of_steps sback harr⟩
|panicked chain =>
  have hl : (lone fr (b.atR { a with defers:=[{ target:=.collected w.heap.size,args:=#[] }] ++ a.defers } (.inRangeFunc (w.heap.size + 1) :: k) :: cs) w₃).fenced P F:=fenced_leaving (hfn ▸ hF) hroom hleave
  refine ⟨.panic chain,_,w₃,hR,.inRangeFunc (w.heap.size + 1) :: k,.head h0 henter (StepsIn.trans hsteps (.one hl ?_))⟩
  rw [← Frame.raise_atR];exact step_leave_panicked hleave
theorem callsIn_of_wpAt_marks {fn : Func} {c : Code} {args : Array Value} {R : Ending → World → Prop}
  (hf : P.funcs[f0]? = some fn) (hb : fn.body = some c) (hF : F.fn f0)
  (h : wpAt f0 F n P c (bodyPostM F n P fn R) { tmps:=args ++ Array.replicate (fn.ntmps - args.size) undef,defers:=[] } w) (hro : F.round = none:=by rfl) : CallsIn F n P f0 args w R:=by
 refine ⟨hF,fun cs hr => ?_⟩
 let b : Frame:={ (default : Frame) with fn:=f0,kind:=.normal,roundOf:=none }
 have henter : Frame.enter P f0 args .normal =
   b.atR { tmps:=args ++ Array.replicate (fn.ntmps - args.size) undef,defers:=[] } [.code c]:=by
  simp [Frame.enter,Frame.atR,hf,hb,b]
 obtain ⟨e,a',w',hq,harr⟩:=h b [] cs rfl hro.symm hF hr
 rw [← henter] at harr
 cases e with
|normal =>
  obtain ⟨e',w'',fr',hR,hs,hfn,hl⟩:=leaves_stepsInM a'.defers .returning w' { b.atR a' [] with mode:=.returning } cs rfl rfl rfl hf rfl hF hr hq
  exact ⟨e',w'',fr',hR,ComesIn.of_steps (StepsIn.trans harr (.one (fenced_calm (fr:=b.atR a' []) hF hr rfl) (stepR_end rfl))) hs,hfn,hl⟩
|ret =>
  obtain ⟨todo,hs₀⟩:=harr.1 rfl
  obtain ⟨e',w'',fr',hR,hs,hfn,hl⟩:=leaves_stepsInM a'.defers .returning w' { b.atR a' todo with mode:=.returning } cs rfl rfl rfl hf rfl hF hr hq
  exact ⟨e',w'',fr',hR,ComesIn.of_steps hs₀ hs,hfn,hl⟩
|panic chain =>
  obtain ⟨todo,hs₀⟩:=harr
  obtain ⟨e',w'',fr',hR,hs,hfn,hl⟩:=leaves_stepsInM a'.defers (.panicking chain) w' { b.atR a' todo with mode:=.panicking chain } cs rfl rfl rfl hf rfl hF hr hq
  exact ⟨e',w'',fr',hR,ComesIn.of_steps hs₀ hs,hfn,hl⟩
|exit id => exact hq.elim
|goto l => exact hq.elim
|outgrown => exact ⟨.outgrown,w',b,hq,harr.resolve_left (by simp [b]),rfl,trivial⟩
end
end
theorem law3 : Go.Maps.Keyed Tryz.prog 3:=Go.Maps.int_keyed Tryz.underlying3
def ekI (i : Int) : Value:=.int .i64 i
def ev43 (x : S43) : Value:=.agg #[.int .i64 x.f0,.int .i64 x.f1]
theorem zero43 (w : World) : (zeroValue 43).run Tryz.prog w = .ok (.agg #[.int .i64 0,.int .i64 0]) w:=by kernel_rfl
theorem ekI_inj {c c' : Int} (h : ekI c' = ekI c) : c' = c:=by unfold ekI at h;injection h
theorem keyI (i : Int) (h0 : -9223372036854775808 ≤ i) (h1 : i < 9223372036854775808) : keyOf Tryz.prog 3 (ekI i) = some (.int .i64 i):=Go.Maps.keyOf_int_mk Tryz.underlying3 (by have e:=wrap_in h0 h1;rw [← e];exact wrap64_wf _)
def pit_whole.f (a0 : Int) : Option (Int × Int):=some (a0,1)
set_option maxHeartbeats 8000000 in
set_option maxRecDepth 100000 in
theorem pit_whole.calls (a0 : Int) (r1 : Int) (r2 : Int) (w : World) (h : pit_whole.f a0 = some (r1,r2)) :
  Calls Tryz.prog 156 #[.int .i64 a0] w fun e w' => e = .returned (.agg #[.int .i64 r1,.int .i64 r2]) ∧ Below w.heap.size w w':=by
 have hu43:=Tryz.underlying43
 have HB:=am (Below.refl w.heap.size w)
 have H : (some (a0,1)) = some (r1,r2):=h
 clear h
 simp only [Option.some.injEq,Prod.mk.injEq] at H
 obtain ⟨rfl,rfl⟩:=H
 go_enter Tryz.func156,Tryz.ntmps156
 go_wp2_with (first|(refine bE 2 #[.int .i64 0,.int .i64 0] 43 ?_;intro gb101 hg w2 hbox hb;have BK101:=am (hbox);have GW101:=am (lg hg (below_size (v0 HB.out)) : w.heap.size ≤ gb101);have GE101:=GW101;replace HB:=am (below_step (v0 HB.out) hb);clear hb hbox hg;have hcz3_0:=bd BK101.out 0;have hcz3_1:=bd BK101.out 1;have hfz3_0:=blk_frozen BK101.out 0;have hfz3_1:=blk_frozen BK101.out 1))
 refine bodyPost_ret (results_cell_row rfl _ _ gb101 43 #[.int .i64 a0,.int .i64 1] (0,0) _ rfl (by (with_reducible repeat (first|refine blk_drewN ?_ _|refine blk_drew ?_|refine blk_alloc ?_ _));refine blk_put (cs:=#[.int .i64 a0,.int .i64 0]) ?_ 1 _ rfl;(with_reducible repeat (first|refine blk_drewN ?_ _|refine blk_drew ?_|refine blk_alloc ?_ _));refine blk_put (cs:=#[.int .i64 0,.int .i64 0]) ?_ 0 _ rfl;(with_reducible repeat (first|refine blk_drewN ?_ _|refine blk_drew ?_|refine blk_alloc ?_ _));exact BK101.out) Tryz.underlying43 rfl kr) rfl ?_
 exact ⟨vf,v1 HB.out GE101.out⟩
end Go.Proofs.YtjjfpmapjjemcaaGreat.B
end
