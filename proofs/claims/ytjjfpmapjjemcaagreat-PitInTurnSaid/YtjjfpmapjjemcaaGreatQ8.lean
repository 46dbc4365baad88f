import Derived.Test.YtjjfpmapjjemcaaGreatQ6
set_option linter.unusedVariables false
set_option linter.unusedSimpArgs false
section
namespace Go.Proofs.YtjjfpmapjjemcaaGreat.B
open Go.RowKit Go.Proofs.YtjjfpmapjjemcaaGreatW.PrintWords Go.Proofs.YtjjfpmapjjemcaaGreatW.PrintLast Go.Proofs.YtjjfpmapjjemcaaGreatW.PrintMore
attribute [local go_sem] max2_int min2_int max_two min_two max_three min_three max_four min_four
def val (r : S43) : Rat:=(r.f0 : Rat) / (r.f1 : Rat)
theorem cast_ne {n : Int} (h : 1 ≤ n) : (n : Rat) ≠ 0:=by
 intro e
 have : n = 0:=by exact_mod_cast e
 omega
theorem cast_pos {n : Int} (h : 1 ≤ n) : (0 : Rat) < (n : Rat):=by exact_mod_cast (show (0 : Int) < n by omega)
theorem div_eq_of {a b c d : Rat} (hb : b ≠ 0) (hd : d ≠ 0) (h : a * d = c * b) : a / b = c / d:=by grind
theorem mul_of_div_eq {a b c d : Rat} (hb : b ≠ 0) (hd : d ≠ 0) (h : a / b = c / d) : a * d = c * b:=by grind
theorem val_ratioP {n d : Int} (hn : 0 ≤ n) (hd : 1 ≤ d) : val (ratioP n d) = (n : Rat) / (d : Rat):=by
 have h1:=ratioP_ok hn hd
 have h2:=ratioP_cross hn hd
 unfold val
 refine div_eq_of (cast_ne h1.2.1) (cast_ne hd) ?_
 exact_mod_cast h2
theorem val_mul {r : S43} (h : Rok r) : val r * (r.f1 : Rat) = (r.f0 : Rat):=by
 have:=cast_ne h.2.1
 unfold val
 grind
theorem val_addP {a b : S43} (ha : Rok a) (hb : Rok b) : val (addP a b) = val a + val b:=by
 unfold addP
 rw [val_ratioP (Int.add_nonneg (mul_nonneg_ ha.1 (by have:=hb.2.1;omega)) (mul_nonneg_ hb.1 (by have:=ha.2.1;omega))) (mul_pos_ ha.2.1 hb.2.1)]
 have h1:=cast_ne ha.2.1
 have h2:=cast_ne hb.2.1
 unfold val
 simp only [Rat.intCast_add,Rat.intCast_mul]
 grind
theorem val_timesP {a : S43} {n m : Int} (ha : Rok a) (hn : 0 ≤ n) (hm : 1 ≤ m) : val (timesP a n m) = val a * (n : Rat) / (m : Rat):=by
 unfold timesP
 rw [val_ratioP (mul_nonneg_ ha.1 hn) (mul_pos_ ha.2.1 hm)]
 have h1:=cast_ne ha.2.1
 have h2:=cast_ne hm
 unfold val
 simp only [Rat.intCast_mul]
 grind
theorem val_wholeP (n : Int) : val (wholeP n) = (n : Rat):=by
 unfold val wholeP
 simp only
 grind
theorem val_inj {a b : S43} (ha : Rok a) (hb : Rok b) (h : val a = val b) : a = b:=by
 refine ha.uniq hb ?_
 have:=mul_of_div_eq (cast_ne ha.2.1) (cast_ne hb.2.1) h
 exact_mod_cast this
theorem val_le {a b : S43} (ha : Rok a) (hb : Rok b) : val a ≤ val b ↔ a.f0 * b.f1 ≤ b.f0 * a.f1:=by
 have p1:=cast_pos ha.2.1
 have p2:=cast_pos hb.2.1
 have e1:=val_mul ha
 have e2:=val_mul hb
 have k : ((a.f0 * b.f1 : Int) : Rat) ≤ ((b.f0 * a.f1 : Int) : Rat) ↔ a.f0 * b.f1 ≤ b.f0 * a.f1:=by norm_cast
 rw [← k]
 simp only [Rat.intCast_mul]
 rw [← e1,← e2]
 have q:=Rat.mul_pos p1 p2
 constructor
 ·intro h
  have:=Rat.mul_le_mul_of_nonneg_right h (Rat.le_of_lt q)
  grind
 ·intro h
  refine Rat.not_lt.mp fun hlt => ?_
  have:=Rat.mul_lt_mul_of_pos_right hlt q
  grind
theorem val_nonneg {a : S43} (ha : Rok a) : 0 ≤ val a:=by
 have:=(val_le (a:=wholeP 0) (b:=a) (wholeP_ok (Int.le_refl 0)) ha).2 (by show 0 * a.f1 ≤ a.f0 * 1;have:=ha.1;omega)
 rw [val_wholeP] at this
 simpa using this
theorem val_le_int {a : S43} {n : Int} (ha : Rok a) (hn : 0 ≤ n) : val a ≤ (n : Rat) ↔ a.f0 ≤ n * a.f1:=by
 have:=val_le ha (wholeP_ok hn)
 rw [val_wholeP] at this
 rw [this]
 show a.f0 * 1 ≤ n * a.f1 ↔ _
 rw [Int.mul_one]
theorem val_pos {a : S43} (ha : Rok a) : 0 < val a ↔ 1 ≤ a.f0:=by
 have h:=val_le_int (n:=0) ha (Int.le_refl 0)
 have:=ha.1
 constructor
 ·intro hp
  refine Int.not_lt.mp fun hlt => ?_
  have:=h.2 (by omega)
  simp at this
  grind
 ·intro hp
  refine Rat.not_le.mp fun hle => ?_
  have:=h.1 (by simpa using hle)
  omega
def sumV : List S89 → Rat
|[] => 0
|x :: r => val x.f1 + sumV r
def sumOf (id : Int) : List S89 → Rat
|[] => 0
|x :: r => (if x.f0 = id then val x.f1 else 0) + sumOf id r
def PartOk (pours : List Int) (x : S89) : Prop:=fineP x.f1 = true ∧ 1 ≤ x.f1.f0 ∧ x.f0 ∈ pours
theorem PartOk.ok {pours : List Int} {x : S89} (h : PartOk pours x) : Rok x.f1:=by
 have:=h.1
 unfold fineP at this
 exact (validP_ok (Bool.and_eq_true_iff.1 this).1).1
theorem fineP_of {r : S43} (h : fineP r = true) : Rok r ∧ r.f0 ≤ 68719476736 ∧ r.f1 ≤ 16384:=by
 unfold fineP at h
 obtain ⟨h1,h2⟩:=Bool.and_eq_true_iff.1 h
 obtain ⟨h3,h4,_⟩:=validP_ok h1
 exact ⟨h3,h4,of_decide_eq_true h2⟩
structure ParcelOk (pours : List Int) (p : S212) : Prop where
 lo : 1 ≤ p.f0
 hi : p.f0 ≤ 4096
 len : p.f1.length ≤ 60
 parts : ∀ x ∈ p.f1,PartOk pours x
 all : sumV p.f1 = (p.f0 : Rat)
theorem sumV_append (a b : List S89) : sumV (a ++ b) = sumV a + sumV b:=by
 induction a with
|nil => simp [sumV];grind
|cons x r ih => simp only [List.cons_append,sumV,ih];grind
theorem sumOf_append (id : Int) (a b : List S89) : sumOf id (a ++ b) = sumOf id a + sumOf id b:=by
 induction a with
|nil => simp [sumOf];grind
|cons x r ih => simp only [List.cons_append,sumOf,ih];grind
theorem sumV_nonneg {l : List S89} (h : ∀ x ∈ l,Rok x.f1) : 0 ≤ sumV l:=by
 induction l with
|nil => simp [sumV]
|cons x r ih =>
  have h1:=val_nonneg (h x List.mem_cons_self)
  have h2:=ih fun y hy => h y (List.mem_cons_of_mem _ hy)
  simp only [sumV]
  grind
theorem val_le_sumV {l : List S89} (h : ∀ x ∈ l,Rok x.f1) {x : S89} (hx : x ∈ l) : val x.f1 ≤ sumV l:=by
 induction l with
|nil => simp at hx
|cons y r ih =>
  have h2:=sumV_nonneg fun y hy => h y (List.mem_cons_of_mem _ hy)
  have h1:=val_nonneg (h y List.mem_cons_self)
  simp only [sumV]
  rcases List.mem_cons.1 hx with rfl|hx
  ·grind
  ·have:=ih (fun y hy => h y (List.mem_cons_of_mem _ hy)) hx
   grind
theorem ParcelOk.part_le {pours : List Int} {p : S212} (h : ParcelOk pours p) {x : S89} (hx : x ∈ p.f1) : x.f1.f0 ≤ p.f0 * x.f1.f1:=by
 have h1:=val_le_sumV (fun y hy => (h.parts y hy).ok) hx
 rw [h.all] at h1
 exact (val_le_int (h.parts x hx).ok (by have:=h.lo;omega)).1 h1
theorem divParts_spec (pours : List Int) (n m : Int) (hn : 1 ≤ n) (hm : 1 ≤ m) : ∀ (l r : List S89),(∀ x ∈ l,PartOk pours x) → divParts l n m = some r →
  r.length = l.length ∧ (∀ x ∈ r,PartOk pours x) ∧ sumV r = sumV l * (n : Rat) / (m : Rat) ∧ ∀ id,sumOf id r = sumOf id l * (n : Rat) / (m : Rat)
|[],r,_,h => by
  simp only [divParts,Option.some.injEq] at h
  subst h
  refine ⟨rfl,by simp,?_,fun id => ?_⟩ <;> simp [sumV,sumOf] <;> grind
|x :: l,r,hl,h => by
  simp only [divParts] at h
  by_cases hf : fineP (timesP x.f1 n m) = true
  ·rw [if_pos hf] at h
   obtain ⟨r',hr',rfl⟩:=Option.map_eq_some_iff.1 h
   obtain ⟨h1,h2,h3,h4⟩:=divParts_spec pours n m hn hm l r' (fun y hy => hl y (List.mem_cons_of_mem _ hy)) hr'
   have hx:=hl x List.mem_cons_self
   have hok:=hx.ok
   have hv:=val_timesP hok (show 0 ≤ n by omega) hm
   refine ⟨by simp [h1],fun y hy => ?_,?_,fun id => ?_⟩
   ·rcases List.mem_cons.1 hy with rfl|hy
    ·refine ⟨hf,?_,hx.2.2⟩
     refine (val_pos (timesP_ok hok (by omega) hm)).1 ?_
     rw [hv]
     have p1:=(val_pos hok).2 hx.2.1
     have p2:=cast_pos hn
     have p3:=cast_pos hm
     rw [Rat.div_def]
     exact Rat.mul_pos (Rat.mul_pos p1 p2) (Rat.inv_pos.2 p3)
    ·exact h2 y hy
   ·simp only [sumV,h3,hv]
    have:=cast_ne hm
    grind
   ·simp only [sumOf,h4]
    have:=cast_ne hm
    split <;> grind
  ·rw [if_neg hf] at h
   cases h
theorem dividedP_ok {pours : List Int} {p q : S212} (hp : ParcelOk pours p) {n : Int} (h1 : 1 ≤ n) (h2 : n ≤ p.f0) (h : dividedP p n = some q) :
  ParcelOk pours q ∧ q.f0 = n ∧ ∀ id,sumOf id q.f1 = sumOf id p.f1 * (n : Rat) / (p.f0 : Rat):=by
 unfold dividedP at h
 obtain ⟨r,hr,rfl⟩:=Option.map_eq_some_iff.1 h
 obtain ⟨e1,e2,e3,e4⟩:=divParts_spec pours n p.f0 h1 hp.lo p.f1 r hp.parts hr
 refine ⟨⟨h1,by have:=hp.hi;show n ≤ 4096;omega,by show r.length ≤ 60;rw [e1];exact hp.len,e2,?_⟩,rfl,e4⟩
 show sumV r = (n : Rat)
 rw [e3,hp.all]
 have:=cast_ne hp.lo
 grind
theorem heldP_append (a b : List S212) : heldP (a ++ b) = heldP a + heldP b:=by
 induction a with
|nil => simp [heldP]
|cons x r ih => simp only [List.cons_append,heldP,ih];omega
theorem heldP_nonneg {l : List S212} (h : ∀ p ∈ l,1 ≤ p.f0) : (l.length : Int) ≤ heldP l:=by
 induction l with
|nil => simp [heldP]
|cons x r ih =>
  have h1:=h x List.mem_cons_self
  have h2:=ih fun y hy => h y (List.mem_cons_of_mem _ hy)
  simp only [heldP,List.length_cons]
  omega
def ofP (id : Int) (l : List S212) : Rat:=sumOf id (partsP l)
theorem partsP_append (a b : List S212) : partsP (a ++ b) = partsP a ++ partsP b:=by
 induction a with
|nil => rfl
|cons x r ih => simp only [List.cons_append,partsP,ih,List.append_assoc]
theorem ofP_append (id : Int) (a b : List S212) : ofP id (a ++ b) = ofP id a + ofP id b:=by
 unfold ofP
 rw [partsP_append,sumOf_append]
theorem ofP_cons (id : Int) (p : S212) (l : List S212) : ofP id (p :: l) = sumOf id p.f1 + ofP id l:=by
 unfold ofP
 rw [partsP,sumOf_append]
theorem aheadP_spec (pours : List Int) : ∀ (l : List S212) (n : Int),(∀ p ∈ l,ParcelOk pours p) → 0 ≤ n → n ≤ heldP l → ∀ a b,aheadP l n = some (a,b) →
  (∀ p ∈ a,ParcelOk pours p) ∧ (∀ p ∈ b,ParcelOk pours p) ∧ heldP a = n ∧ heldP b = heldP l - n ∧ ∀ id,ofP id a + ofP id b = ofP id l
|[],n,_,h0,h1,a,b,h => by
  simp only [aheadP,Option.some.injEq,Prod.mk.injEq] at h
  obtain ⟨rfl,rfl⟩:=h
  simp only [heldP] at h1
  refine ⟨by simp,by simp,by simp [heldP];omega,by simp [heldP];omega,fun id => by simp [ofP,partsP,sumOf];grind⟩
|p :: l,n,hl,h0,h1,a,b,h => by
  have hp:=hl p List.mem_cons_self
  have hl' : ∀ q ∈ l,ParcelOk pours q:=fun q hq => hl q (List.mem_cons_of_mem _ hq)
  simp only [heldP] at h1
  simp only [aheadP] at h
  by_cases c1 : 0 < n
  ·rw [if_pos c1] at h
   by_cases c2 : p.f0 ≤ n
   ·rw [if_pos c2] at h
    obtain ⟨⟨a',b'⟩,h',e⟩:=Option.map_eq_some_iff.1 h
    simp only [Prod.mk.injEq] at e
    obtain ⟨rfl,rfl⟩:=e
    obtain ⟨k1,k2,k3,k4,k5⟩:=aheadP_spec pours l (n - p.f0) hl' (by omega) (by omega) a' b' h'
    refine ⟨fun q hq => ?_,k2,by simp only [heldP];omega,by simp only [heldP];omega,fun id => ?_⟩
    ·rcases List.mem_cons.1 hq with rfl|hq
     ·exact hp
     ·exact k1 q hq
    ·have:=k5 id
     rw [ofP_cons,ofP_cons]
     grind
   ·rw [if_neg c2] at h
    obtain ⟨x,hx,h⟩:=Option.bind_eq_some_iff.1 h
    obtain ⟨y,hy,e⟩:=Option.map_eq_some_iff.1 h
    simp only [Prod.mk.injEq] at e
    obtain ⟨rfl,rfl⟩:=e
    obtain ⟨x1,x2,x3⟩:=dividedP_ok hp (by omega) (by omega) hx
    obtain ⟨y1,y2,y3⟩:=dividedP_ok hp (n:=p.f0 - n) (by omega) (by omega) hy
    refine ⟨fun q hq => ?_,fun q hq => ?_,by simp only [heldP];omega,by simp only [heldP];omega,fun id => ?_⟩
    ·rw [List.mem_singleton.1 hq];exact x1
    ·rcases List.mem_cons.1 hq with rfl|hq
     ·exact y1
     ·exact hl' q hq
    ·rw [ofP_cons,ofP_cons,ofP_cons,x3,y3,show ofP id [] = 0 from rfl,Rat.intCast_sub]
     have:=cast_ne hp.lo
     grind
  ·rw [if_neg c1] at h
   simp only [Option.some.injEq,Prod.mk.injEq] at h
   obtain ⟨rfl,rfl⟩:=h
   refine ⟨by simp,hl,by simp [heldP];omega,by simp only [heldP];omega,fun id => by rw [show ofP id [] = 0 from rfl];grind⟩
def valM (M : ByPour) (id : Int) : Rat:=match M id with
|some r => val r
|none => 0
def MOk (M : ByPour) : Prop:=∀ id r,M id = some r → fineP r = true ∧ 1 ≤ r.f0
theorem putBy_same (M : ByPour) (i : Int) (r : S43) : putBy M i r i = some r:=if_pos rfl
theorem putBy_other (M : ByPour) {i k : Int} (r : S43) (h : k ≠ i) : putBy M i r k = M k:=if_neg h
theorem valM_put (M : ByPour) (i : Int) (r : S43) (k : Int) : valM (putBy M i r) k = if i = k then val r else valM M k:=by
 unfold valM
 by_cases h : i = k
 ·subst h;rw [putBy_same,if_pos rfl]
 ·rw [putBy_other M r (Ne.symm h),if_neg h]
theorem getD_ok {M : ByPour} (hM : MOk M) (id : Int) : Rok ((M id).getD (wholeP 0)) ∧ val ((M id).getD (wholeP 0)) = valM M id:=by
 unfold valM
 cases h : M id with
|none => exact ⟨wholeP_ok (Int.le_refl _),by simp [val_wholeP]⟩
|some r => exact ⟨(fineP_of (hM id r h).1).1,rfl⟩
theorem sumAll_spec (pours : List Int) : ∀ (l : List S89) (M M' : ByPour),MOk M → (∀ x ∈ l,PartOk pours x) → sumAll M l = some M' →
  MOk M' ∧ (∀ id,valM M' id = valM M id + sumOf id l) ∧ ∀ id,((M' id).isSome = true ↔ ((M id).isSome = true ∨ ∃ x ∈ l,x.f0 = id))
|[],M,M',hM,_,h => by
  simp only [sumAll,Option.some.injEq] at h
  subst h
  exact ⟨hM,fun id => by simp [sumOf];grind,fun id => by simp⟩
|x :: l,M,M',hM,hl,h => by
  simp only [sumAll] at h
  by_cases hf : fineP (addP ((M x.f0).getD (wholeP 0)) x.f1) = true
  ·rw [if_pos hf] at h
   have hx:=hl x List.mem_cons_self
   obtain ⟨g1,g2⟩:=getD_ok hM x.f0
   have hv:=val_addP g1 hx.ok
   rw [g2] at hv
   have hok:=addP_ok g1 hx.ok
   have hpos : 1 ≤ (addP ((M x.f0).getD (wholeP 0)) x.f1).f0:=by
    refine (val_pos hok).1 ?_
    rw [hv]
    have p1:=(val_pos hx.ok).2 hx.2.1
    have p2:=val_nonneg g1
    rw [g2] at p2
    grind
   generalize addP ((M x.f0).getD (wholeP 0)) x.f1 = z at *
   have hM1 : MOk (putBy M x.f0 z):=fun id r hr => by
    by_cases e : id = x.f0
    ·subst e;rw [putBy_same] at hr;injection hr with hr;subst hr;exact ⟨hf,hpos⟩
    ·rw [putBy_other M z e] at hr;exact hM id r hr
   obtain ⟨k1,k2,k3⟩:=sumAll_spec pours l _ M' hM1 (fun y hy => hl y (List.mem_cons_of_mem _ hy)) h
   refine ⟨k1,fun id => ?_,fun id => ?_⟩
   ·rw [k2,valM_put]
    simp only [sumOf]
    split
    ·rename_i e;subst e;rw [hv];grind
    ·grind
   ·rw [k3]
    by_cases e : id = x.f0
    ·subst e;simp [putBy_same]
    ·rw [putBy_other M z e];simp [Ne.symm e]
  ·rw [if_neg hf] at h
   cases h
def sumPours (f : Int → Rat) : List Int → Rat
|[] => 0
|id :: r => f id + sumPours f r
theorem sumPours_congr {f g : Int → Rat} : ∀ {l : List Int},(∀ id ∈ l,f id = g id) → sumPours f l = sumPours g l
|[],_ => rfl
|id :: r,h => by simp only [sumPours];rw [h id List.mem_cons_self,sumPours_congr fun i hi => h i (List.mem_cons_of_mem _ hi)]
theorem sumPours_add (f g : Int → Rat) : ∀ l : List Int,sumPours (fun i => f i + g i) l = sumPours f l + sumPours g l
|[] => by simp [sumPours];grind
|id :: r => by simp only [sumPours,sumPours_add f g r];grind
theorem sumPours_zero : ∀ l : List Int,sumPours (fun _ => 0) l = 0
|[] => rfl
|id :: r => by simp only [sumPours,sumPours_zero r];grind
theorem sumPours_one (v : Rat) (x : Int) : ∀ l : List Int,l.Nodup → sumPours (fun id => if x = id then v else 0) l = if x ∈ l then v else 0
|[],_ => by simp [sumPours]
|id :: r,h => by
  obtain ⟨h1,h2⟩:=List.nodup_cons.1 h
  simp only [sumPours,sumPours_one v x r h2]
  by_cases e : x = id
  ·subst e;simp [h1];grind
  ·simp [e];grind
theorem sumPours_all {pours : List Int} (hn : pours.Nodup) : ∀ l : List S89,(∀ x ∈ l,x.f0 ∈ pours) → sumPours (fun id => sumOf id l) pours = sumV l
|[],_ => by simp only [sumOf,sumV];exact sumPours_zero _
|x :: l,h => by
  simp only [sumOf,sumV]
  rw [sumPours_add,sumPours_one _ _ _ hn,if_pos (h x List.mem_cons_self),sumPours_all hn l fun y hy => h y (List.mem_cons_of_mem _ hy)]
theorem outOf_length (M : ByPour) : ∀ l,(outOf M l).length ≤ l.length
|[] => by simp [outOf]
|id :: r => by simp only [outOf];have:=outOf_length M r;split <;> simp <;> omega
theorem outOf_mem (M : ByPour) : ∀ (l : List Int) (x : S89),x ∈ outOf M l → M x.f0 = some x.f1 ∧ x.f0 ∈ l
|[],x,h => by simp [outOf] at h
|id :: r,x,h => by
  simp only [outOf] at h
  split at h
  ·rename_i n hn
   rcases List.mem_cons.1 h with rfl|h
   ·exact ⟨hn,List.mem_cons_self⟩
   ·have:=outOf_mem M r x h;exact ⟨this.1,List.mem_cons_of_mem _ this.2⟩
  ·have:=outOf_mem M r x h;exact ⟨this.1,List.mem_cons_of_mem _ this.2⟩
theorem outOf_ids (M : ByPour) : ∀ l : List Int,((outOf M l).map (·.f0)).Sublist l
|[] => by simp [outOf]
|id :: r => by
  simp only [outOf]
  split
  ·exact (outOf_ids M r).cons_cons _
  ·exact (outOf_ids M r).cons _
theorem outOf_sumV (M : ByPour) : ∀ l : List Int,sumV (outOf M l) = sumPours (valM M) l
|[] => by simp [outOf,sumV,sumPours]
|id :: r => by
  simp only [outOf,sumPours]
  cases h : M id with
 |some n => simp only [sumV,outOf_sumV M r,show valM M id = val n by unfold valM;rw [h]]
 |none => simp only [outOf_sumV M r,show valM M id = 0 by unfold valM;rw [h]];grind
theorem outOf_sumOf (M : ByPour) (i : Int) : ∀ l : List Int,l.Nodup → sumOf i (outOf M l) = if i ∈ l then valM M i else 0
|[],_ => by simp [outOf,sumOf]
|id :: r,hn => by
  obtain ⟨h1,h2⟩:=List.nodup_cons.1 hn
  have ih:=outOf_sumOf M i r h2
  simp only [outOf]
  by_cases e : id = i
  ·subst e
   rw [if_neg h1] at ih
   rw [if_pos List.mem_cons_self]
   cases h : M id with
  |some n => simp only [sumOf,if_true,ih,show valM M id = val n by unfold valM;rw [h]];grind
  |none => simp only [ih,show valM M id = 0 by unfold valM;rw [h]]
  ·have e2 : (i ∈ id :: r) ↔ i ∈ r:=by simp [Ne.symm e]
   cases h : M id with
  |some n => simp only [sumOf,if_neg e,ih,e2];grind
  |none => simp only [ih,e2]
theorem parts_ok {pours : List Int} {l : List S212} (h : ∀ p ∈ l,ParcelOk pours p) : (∀ x ∈ partsP l,PartOk pours x) ∧ sumV (partsP l) = (heldP l : Rat):=by
 induction l with
|nil => exact ⟨by simp [partsP],by simp [partsP,sumV,heldP]⟩
|cons p r ih =>
  have hp:=h p List.mem_cons_self
  obtain ⟨h1,h2⟩:=ih fun q hq => h q (List.mem_cons_of_mem _ hq)
  refine ⟨fun x hx => ?_,?_⟩
  ·rcases List.mem_append.1 (show x ∈ p.f1 ++ partsP r from hx) with hx|hx
   ·exact hp.parts x hx
   ·exact h1 x hx
  ·rw [partsP,sumV_append,hp.all,h2,heldP,Rat.intCast_add]
theorem summedP_ok {pours : List Int} (hn : pours.Nodup) {l : List S212} (hl : ∀ p ∈ l,ParcelOk pours p) {ps : List S89} (h : summedP pours l = some ps) :
  (∀ x ∈ ps,PartOk pours x) ∧ ps.length ≤ pours.length ∧ sumV ps = (heldP l : Rat) ∧ (ps.map (·.f0)).Sublist pours ∧ ∀ id,sumOf id ps = ofP id l:=by
 unfold summedP at h
 obtain ⟨M,hM,rfl⟩:=Option.map_eq_some_iff.1 h
 obtain ⟨h1,h2⟩:=parts_ok hl
 obtain ⟨k1,k2,k3⟩:=sumAll_spec pours (partsP l) _ M (fun id r hr => by cases hr) h1 hM
 have kv : ∀ id,valM M id = sumOf id (partsP l):=fun id => by rw [k2,show valM (fun _ => none) id = 0 from rfl];grind
 have hz : ∀ id,id ∉ pours → sumOf id (partsP l) = 0:=by
  intro id hid
  generalize partsP l = q at h1
  induction q with
 |nil => rfl
 |cons x r ih =>
   have hx:=h1 x List.mem_cons_self
   simp only [sumOf]
   rw [if_neg (fun e => hid (by rw [← e];exact hx.2.2)),ih fun y hy => h1 y (List.mem_cons_of_mem _ hy)]
   grind
 refine ⟨fun x hx => ?_,outOf_length M pours,?_,outOf_ids M pours,fun id => ?_⟩
 ·obtain ⟨e1,e2⟩:=outOf_mem M pours x hx
  exact ⟨(k1 _ _ e1).1,(k1 _ _ e1).2,e2⟩
 ·rw [outOf_sumV,sumPours_congr (g:=fun id => sumOf id (partsP l)) fun id _ => kv id,sumPours_all hn _ fun x hx => (h1 x hx).2.2,h2]
 ·rw [outOf_sumOf M id pours hn]
  by_cases hid : id ∈ pours
  ·rw [if_pos hid,kv];rfl
  ·rw [if_neg hid];exact (hz id hid).symm
structure BarrowOk (n : Nat) (pours : List Int) (b : S167) : Prop where
 lo : 1 ≤ b.f2
 hi : b.f2 ≤ 1000
 step0 : 0 ≤ b.f1
 step1 : b.f1 < n
 id0 : 1 ≤ b.f0
 id1 : b.f0 ≤ 1099511627776
 ids : (b.f3.map (·.f0)).Sublist pours
 par : ParcelOk pours ⟨b.f2,b.f3⟩
structure Wf (n : Nat) (Y : Yd) : Prop where
 r1 : 1 ≤ Y.rooms.length
 r6 : Y.rooms.length ≤ 6
 rooms : ∀ r ∈ Y.rooms,1 ≤ r ∧ r ≤ 4096
 plen : Y.pits.length = Y.rooms.length
 parcels : ∀ l ∈ Y.pits,∀ p ∈ l,ParcelOk Y.pours p
 held : ∀ i,i < Y.rooms.length → heldP (Y.pits.getD i []) ≤ Y.rooms.getD i 0
 pours : Y.pours.Nodup
 pid : ∀ i ∈ Y.pours,1 ≤ i ∧ i ≤ 1099511627776
 npours : Y.pours.length ≤ n
 days : Y.days.length = Y.pours.length
 dayok : ∀ d ∈ Y.days,0 ≤ d ∧ d ≤ 682
 nbarrows : Y.barrows.length ≤ n
 barrows : ∀ b ∈ Y.barrows,BarrowOk n Y.pours b
 bnodup : (Y.barrows.map (·.f0)).Nodup
 apart : ∀ b ∈ Y.barrows,b.f0 ∉ Y.pours
 nlost : Y.lost.length ≤ 1000 * n
 lost : ∀ p ∈ Y.lost,ParcelOk Y.pours p
theorem PartOk.mono {pours pours' : List Int} (hs : ∀ x ∈ pours,x ∈ pours') {x : S89} (h : PartOk pours x) : PartOk pours' x:=⟨h.1,h.2.1,hs _ h.2.2⟩
theorem ParcelOk.mono {pours pours' : List Int} (hs : ∀ x ∈ pours,x ∈ pours') {p : S212} (h : ParcelOk pours p) : ParcelOk pours' p :=
 ⟨h.lo,h.hi,h.len,fun x hx => (h.parts x hx).mono hs,h.all⟩
theorem getD_mem_ {α : Type} {l : List α} {i : Nat} {d : α} (h : i < l.length) : l.getD i d ∈ l:=by
 rw [List.getD_eq_getElem?_getD,List.getElem?_eq_getElem h];exact List.getElem_mem h
theorem getD_set_ {α : Type} (l : List α) (i t : Nat) (x d : α) (hi : i < l.length) : (l.set i x).getD t d = if t = i then x else l.getD t d:=by
 simp only [List.getD_eq_getElem?_getD,List.getElem?_set]
 by_cases h : t = i
 ·subst h;simp [hi]
 ·rw [if_neg (fun e => h e.symm),if_neg h]
structure Formed (rooms : Nat) (s : S84) : Prop where
 day : 0 ≤ s.f2 ∧ s.f2 ≤ 682
 pit : 0 ≤ s.f3 ∧ s.f3 < rooms
 id : s.f1 = 1 ∨ s.f1 = 2 → 1 ≤ s.f0 ∧ s.f0 ≤ 1099511627776
 amount : s.f1 ≠ 3 → 1 ≤ s.f5 ∧ s.f5 ≤ 1000
 dest : s.f1 = 4 → 0 ≤ s.f4 ∧ s.f4 < rooms ∧ s.f4 ≠ s.f3
 kind : 1 ≤ s.f1 ∧ s.f1 ≤ 5
theorem formed_of {rooms : Nat} {s : S84} {day : Int} (hd : 0 ≤ day) (h : formedP rooms s day = true) : Formed rooms s ∧ day ≤ s.f2:=by
 unfold formedP inP at h
 simp only [Bool.and_eq_true,decide_eq_true_eq] at h
 obtain ⟨⟨h1,h2⟩,h3⟩:=h
 by_cases c1 : s.f1 = 1 ∨ s.f1 = 2
 ·rw [if_pos c1] at h3
  simp only [Bool.and_eq_true,decide_eq_true_eq] at h3
  exact ⟨⟨by omega,by omega,fun _ => h3.1.1,fun _ => h3.1.2,fun e => by omega,by omega⟩,h1.1⟩
 ·rw [if_neg c1] at h3
  by_cases c3 : s.f1 = 3
  ·exact ⟨⟨by omega,by omega,fun e => absurd e c1,fun e => absurd c3 e,fun e => by omega,by omega⟩,h1.1⟩
  ·rw [if_neg c3] at h3
   by_cases c4 : s.f1 = 4
   ·rw [if_pos c4] at h3
    simp only [Bool.and_eq_true,decide_eq_true_eq] at h3
    exact ⟨⟨by omega,by omega,fun e => absurd e c1,fun _ => h3.1.1.2,fun _ => by omega,by omega⟩,h1.1⟩
   ·rw [if_neg c4] at h3
    by_cases c5 : s.f1 = 5
    ·rw [if_pos c5] at h3
     simp only [Bool.and_eq_true,decide_eq_true_eq] at h3
     exact ⟨⟨by omega,by omega,fun e => absurd e c1,fun _ => h3.1.2,fun e => absurd e c4,by omega⟩,h1.1⟩
    ·rw [if_neg c5] at h3;cases h3
end Go.Proofs.YtjjfpmapjjemcaaGreat.B
end
