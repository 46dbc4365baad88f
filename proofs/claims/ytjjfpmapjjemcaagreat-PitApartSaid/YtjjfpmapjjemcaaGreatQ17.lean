import Derived.Test.YtjjfpmapjjemcaaGreatQ10
import Derived.Test.YtjjfpmapjjemcaaGreatQ14
import Derived.Test.YtjjfpmapjjemcaaGreatQ7
set_option linter.unusedVariables false
set_option linter.unusedSimpArgs false
section
namespace Go.Proofs.YtjjfpmapjjemcaaGreat.B
open Go.RowKit Go.Proofs.YtjjfpmapjjemcaaGreatW.PrintWords Go.Proofs.YtjjfpmapjjemcaaGreatW.PrintLast Go.Proofs.YtjjfpmapjjemcaaGreatW.PrintMore
attribute [local go_sem] max2_int min2_int max_two min_two max_three min_three max_four min_four
def val (r : S43) : Rat:=(r.f0 : Rat) / (r.f1 : Rat)
theorem cast_ne {n : Int} (h : 1 ≤ n) : (n : Rat) ≠ 0:=by
 intro e
 have : n = 0:=by exact_mod_cast e
 omega
theorem cast_pos {n : Int} (h : 1 ≤ n) : (0 : Rat) < (n : Rat):=by exact_mod_cast (show (0 : Int) < n by omega)
theorem div_eq_of {a b c d : Rat} (hb : b ≠ 0) (hd : d ≠ 0) (h : a * d = c * b) : a / b = c / d:=by grind
theorem val_ratioP {n d : Int} (hn : 0 ≤ n) (hd : 1 ≤ d) : val (ratioP n d) = (n : Rat) / (d : Rat):=by
 have h1:=ratioP_ok hn hd
 have h2:=ratioP_cross hn hd
 unfold val
 refine div_eq_of (cast_ne h1.2.1) (cast_ne hd) ?_
 exact_mod_cast h2
theorem val_mul {r : S43} (h : Rok r) : val r * (r.f1 : Rat) = (r.f0 : Rat):=by
 have:=cast_ne h.2.1
 unfold val
 grind
theorem val_addP {a b : S43} (ha : Rok a) (hb : Rok b) : val (addP a b) = val a + val b:=by
 unfold addP
 rw [val_ratioP (Int.add_nonneg (mul_nonneg_ ha.1 (by have:=hb.2.1;omega)) (mul_nonneg_ hb.1 (by have:=ha.2.1;omega))) (mul_pos_ ha.2.1 hb.2.1)]
 have h1:=cast_ne ha.2.1
 have h2:=cast_ne hb.2.1
 unfold val
 simp only [Rat.intCast_add,Rat.intCast_mul]
 grind
theorem val_timesP {a : S43} {n m : Int} (ha : Rok a) (hn : 0 ≤ n) (hm : 1 ≤ m) : val (timesP a n m) = val a * (n : Rat) / (m : Rat):=by
 unfold timesP
 rw [val_ratioP (mul_nonneg_ ha.1 hn) (mul_pos_ ha.2.1 hm)]
 have h1:=cast_ne ha.2.1
 have h2:=cast_ne hm
 unfold val
 simp only [Rat.intCast_mul]
 grind
theorem val_wholeP (n : Int) : val (wholeP n) = (n : Rat):=by
 unfold val wholeP
 simp only
 grind
theorem val_le {a b : S43} (ha : Rok a) (hb : Rok b) : val a ≤ val b ↔ a.f0 * b.f1 ≤ b.f0 * a.f1:=by
 have p1:=cast_pos ha.2.1
 have p2:=cast_pos hb.2.1
 have e1:=val_mul ha
 have e2:=val_mul hb
 have k : ((a.f0 * b.f1 : Int) : Rat) ≤ ((b.f0 * a.f1 : Int) : Rat) ↔ a.f0 * b.f1 ≤ b.f0 * a.f1:=by norm_cast
 rw [← k]
 simp only [Rat.intCast_mul]
 rw [← e1,← e2]
 have q:=Rat.mul_pos p1 p2
 constructor
 ·intro h
  have:=Rat.mul_le_mul_of_nonneg_right h (Rat.le_of_lt q)
  grind
 ·intro h
  refine Rat.not_lt.mp fun hlt => ?_
  have:=Rat.mul_lt_mul_of_pos_right hlt q
  grind
theorem val_nonneg {a : S43} (ha : Rok a) : 0 ≤ val a:=by
 have:=(val_le (a:=wholeP 0) (b:=a) (wholeP_ok (Int.le_refl 0)) ha).2 (by show 0 * a.f1 ≤ a.f0 * 1;have:=ha.1;omega)
 rw [val_wholeP] at this
 simpa using this
theorem val_le_int {a : S43} {n : Int} (ha : Rok a) (hn : 0 ≤ n) : val a ≤ (n : Rat) ↔ a.f0 ≤ n * a.f1:=by
 have:=val_le ha (wholeP_ok hn)
 rw [val_wholeP] at this
 rw [this]
 show a.f0 * 1 ≤ n * a.f1 ↔ _
 rw [Int.mul_one]
theorem val_pos {a : S43} (ha : Rok a) : 0 < val a ↔ 1 ≤ a.f0:=by
 have h:=val_le_int (n:=0) ha (Int.le_refl 0)
 have:=ha.1
 constructor
 ·intro hp
  refine Int.not_lt.mp fun hlt => ?_
  have:=h.2 (by omega)
  simp at this
  grind
 ·intro hp
  refine Rat.not_le.mp fun hle => ?_
  have:=h.1 (by simpa using hle)
  omega
def sumV : List S89 → Rat
|[] => 0
|x :: r => val x.f1 + sumV r
def sumOf (id : Int) : List S89 → Rat
|[] => 0
|x :: r => (if x.f0 = id then val x.f1 else 0) + sumOf id r
def PartOk (pours : List Int) (x : S89) : Prop:=fineP x.f1 = true ∧ 1 ≤ x.f1.f0 ∧ x.f0 ∈ pours
theorem PartOk.ok {pours : List Int} {x : S89} (h : PartOk pours x) : Rok x.f1:=by
 have:=h.1
 unfold fineP at this
 exact (validP_ok (Bool.and_eq_true_iff.1 this).1).1
theorem fineP_of {r : S43} (h : fineP r = true) : Rok r ∧ r.f0 ≤ 68719476736 ∧ r.f1 ≤ 16384:=by
 unfold fineP at h
 obtain ⟨h1,h2⟩:=Bool.and_eq_true_iff.1 h
 obtain ⟨h3,h4,_⟩:=validP_ok h1
 exact ⟨h3,h4,of_decide_eq_true h2⟩
structure ParcelOk (pours : List Int) (p : S212) : Prop where
 lo : 1 ≤ p.f0
 hi : p.f0 ≤ 4096
 len : p.f1.length ≤ 60
 parts : ∀ x ∈ p.f1,PartOk pours x
 all : sumV p.f1 = (p.f0 : Rat)
theorem sumV_append (a b : List S89) : sumV (a ++ b) = sumV a + sumV b:=by
 induction a with
|nil => simp [sumV];grind
|cons x r ih => simp only [List.cons_append,sumV,ih];grind
theorem sumOf_append (id : Int) (a b : List S89) : sumOf id (a ++ b) = sumOf id a + sumOf id b:=by
 induction a with
|nil => simp [sumOf];grind
|cons x r ih => simp only [List.cons_append,sumOf,ih];grind
theorem sumV_nonneg {l : List S89} (h : ∀ x ∈ l,Rok x.f1) : 0 ≤ sumV l:=by
 induction l with
|nil => simp [sumV]
|cons x r ih =>
  have h1:=val_nonneg (h x List.mem_cons_self)
  have h2:=ih fun y hy => h y (List.mem_cons_of_mem _ hy)
  simp only [sumV]
  grind
theorem val_le_sumV {l : List S89} (h : ∀ x ∈ l,Rok x.f1) {x : S89} (hx : x ∈ l) : val x.f1 ≤ sumV l:=by
 induction l with
|nil => simp at hx
|cons y r ih =>
  have h2:=sumV_nonneg fun y hy => h y (List.mem_cons_of_mem _ hy)
  have h1:=val_nonneg (h y List.mem_cons_self)
  simp only [sumV]
  rcases List.mem_cons.1 hx with rfl|hx
  ·grind
  ·have:=ih (fun y hy => h y (List.mem_cons_of_mem _ hy)) hx
   grind
theorem ParcelOk.part_le {pours : List Int} {p : S212} (h : ParcelOk pours p) {x : S89} (hx : x ∈ p.f1) : x.f1.f0 ≤ p.f0 * x.f1.f1:=by
 have h1:=val_le_sumV (fun y hy => (h.parts y hy).ok) hx
 rw [h.all] at h1
 exact (val_le_int (h.parts x hx).ok (by have:=h.lo;omega)).1 h1
theorem divParts_spec (pours : List Int) (n m : Int) (hn : 1 ≤ n) (hm : 1 ≤ m) : ∀ (l r : List S89),(∀ x ∈ l,PartOk pours x) → divParts l n m = some r →
  r.length = l.length ∧ (∀ x ∈ r,PartOk pours x) ∧ sumV r = sumV l * (n : Rat) / (m : Rat) ∧ ∀ id,sumOf id r = sumOf id l * (n : Rat) / (m : Rat)
|[],r,_,h => by
  simp only [divParts,Option.some.injEq] at h
  subst h
  refine ⟨rfl,by simp,?_,fun id => ?_⟩ <;> simp [sumV,sumOf] <;> grind
|x :: l,r,hl,h => by
  simp only [divParts] at h
  by_cases hf : fineP (timesP x.f1 n m) = true
  ·rw [if_pos hf] at h
   obtain ⟨r',hr',rfl⟩:=Option.map_eq_some_iff.1 h
   obtain ⟨h1,h2,h3,h4⟩:=divParts_spec pours n m hn hm l r' (fun y hy => hl y (List.mem_cons_of_mem _ hy)) hr'
   have hx:=hl x List.mem_cons_self
   have hok:=hx.ok
   have hv:=val_timesP hok (show 0 ≤ n by omega) hm
   refine ⟨by simp [h1],fun y hy => ?_,?_,fun id => ?_⟩
   ·rcases List.mem_cons.1 hy with rfl|hy
    ·refine ⟨hf,?_,hx.2.2⟩
     refine (val_pos (timesP_ok hok (by omega) hm)).1 ?_
     rw [hv]
     have p1:=(val_pos hok).2 hx.2.1
     have p2:=cast_pos hn
     have p3:=cast_pos hm
     rw [Rat.div_def]
     exact Rat.mul_pos (Rat.mul_pos p1 p2) (Rat.inv_pos.2 p3)
    ·exact h2 y hy
   ·simp only [sumV,h3,hv]
    have:=cast_ne hm
    grind
   ·simp only [sumOf,h4]
    have:=cast_ne hm
    split <;> grind
  ·rw [if_neg hf] at h
   cases h
theorem dividedP_ok {pours : List Int} {p q : S212} (hp : ParcelOk pours p) {n : Int} (h1 : 1 ≤ n) (h2 : n ≤ p.f0) (h : dividedP p n = some q) :
  ParcelOk pours q ∧ q.f0 = n ∧ ∀ id,sumOf id q.f1 = sumOf id p.f1 * (n : Rat) / (p.f0 : Rat):=by
 unfold dividedP at h
 obtain ⟨r,hr,rfl⟩:=Option.map_eq_some_iff.1 h
 obtain ⟨e1,e2,e3,e4⟩:=divParts_spec pours n p.f0 h1 hp.lo p.f1 r hp.parts hr
 refine ⟨⟨h1,by have:=hp.hi;show n ≤ 4096;omega,by show r.length ≤ 60;rw [e1];exact hp.len,e2,?_⟩,rfl,e4⟩
 show sumV r = (n : Rat)
 rw [e3,hp.all]
 have:=cast_ne hp.lo
 grind
theorem heldP_append (a b : List S212) : heldP (a ++ b) = heldP a + heldP b:=by
 induction a with
|nil => simp [heldP]
|cons x r ih => simp only [List.cons_append,heldP,ih];omega
theorem heldP_nonneg {l : List S212} (h : ∀ p ∈ l,1 ≤ p.f0) : (l.length : Int) ≤ heldP l:=by
 induction l with
|nil => simp [heldP]
|cons x r ih =>
  have h1:=h x List.mem_cons_self
  have h2:=ih fun y hy => h y (List.mem_cons_of_mem _ hy)
  simp only [heldP,List.length_cons]
  omega
def ofP (id : Int) (l : List S212) : Rat:=sumOf id (partsP l)
theorem partsP_append (a b : List S212) : partsP (a ++ b) = partsP a ++ partsP b:=by
 induction a with
|nil => rfl
|cons x r ih => simp only [List.cons_append,partsP,ih,List.append_assoc]
theorem ofP_cons (id : Int) (p : S212) (l : List S212) : ofP id (p :: l) = sumOf id p.f1 + ofP id l:=by
 unfold ofP
 rw [partsP,sumOf_append]
theorem aheadP_spec (pours : List Int) : ∀ (l : List S212) (n : Int),(∀ p ∈ l,ParcelOk pours p) → 0 ≤ n → n ≤ heldP l → ∀ a b,aheadP l n = some (a,b) →
  (∀ p ∈ a,ParcelOk pours p) ∧ (∀ p ∈ b,ParcelOk pours p) ∧ heldP a = n ∧ heldP b = heldP l - n ∧ ∀ id,ofP id a + ofP id b = ofP id l
|[],n,_,h0,h1,a,b,h => by
  simp only [aheadP,Option.some.injEq,Prod.mk.injEq] at h
  obtain ⟨rfl,rfl⟩:=h
  simp only [heldP] at h1
  refine ⟨by simp,by simp,by simp [heldP];omega,by simp [heldP];omega,fun id => by simp [ofP,partsP,sumOf];grind⟩
|p :: l,n,hl,h0,h1,a,b,h => by
  have hp:=hl p List.mem_cons_self
  have hl' : ∀ q ∈ l,ParcelOk pours q:=fun q hq => hl q (List.mem_cons_of_mem _ hq)
  simp only [heldP] at h1
  simp only [aheadP] at h
  by_cases c1 : 0 < n
  ·rw [if_pos c1] at h
   by_cases c2 : p.f0 ≤ n
   ·rw [if_pos c2] at h
    obtain ⟨⟨a',b'⟩,h',e⟩:=Option.map_eq_some_iff.1 h
    simp only [Prod.mk.injEq] at e
    obtain ⟨rfl,rfl⟩:=e
    obtain ⟨k1,k2,k3,k4,k5⟩:=aheadP_spec pours l (n - p.f0) hl' (by omega) (by omega) a' b' h'
    refine ⟨fun q hq => ?_,k2,by simp only [heldP];omega,by simp only [heldP];omega,fun id => ?_⟩
    ·rcases List.mem_cons.1 hq with rfl|hq
     ·exact hp
     ·exact k1 q hq
    ·have:=k5 id
     rw [ofP_cons,ofP_cons]
     grind
   ·rw [if_neg c2] at h
    obtain ⟨x,hx,h⟩:=Option.bind_eq_some_iff.1 h
    obtain ⟨y,hy,e⟩:=Option.map_eq_some_iff.1 h
    simp only [Prod.mk.injEq] at e
    obtain ⟨rfl,rfl⟩:=e
    obtain ⟨x1,x2,x3⟩:=dividedP_ok hp (by omega) (by omega) hx
    obtain ⟨y1,y2,y3⟩:=dividedP_ok hp (n:=p.f0 - n) (by omega) (by omega) hy
    refine ⟨fun q hq => ?_,fun q hq => ?_,by simp only [heldP];omega,by simp only [heldP];omega,fun id => ?_⟩
    ·rw [List.mem_singleton.1 hq];exact x1
    ·rcases List.mem_cons.1 hq with rfl|hq
     ·exact y1
     ·exact hl' q hq
    ·rw [ofP_cons,ofP_cons,ofP_cons,x3,y3,show ofP id [] = 0 from rfl,Rat.intCast_sub]
     have:=cast_ne hp.lo
     grind
  ·rw [if_neg c1] at h
   simp only [Option.some.injEq,Prod.mk.injEq] at h
   obtain ⟨rfl,rfl⟩:=h
   refine ⟨by simp,hl,by simp [heldP];omega,by simp only [heldP];omega,fun id => by rw [show ofP id [] = 0 from rfl];grind⟩
def pit_compare.f (a0_0 : Int) (a0_1 : Int) (a1_0 : Int) (a1_1 : Int) : Option (Int):=(cmp_Compare_int.f (wrap64 (a0_0 * a1_1)) (wrap64 (a1_0 * a0_1))).bind fun t103 => (some t103)
set_option maxHeartbeats 8000000 in
set_option maxRecDepth 100000 in
theorem pit_compare.calls (a0_0 : Int) (a0_1 : Int) (a1_0 : Int) (a1_1 : Int) (r : Int) (w : World) (h : pit_compare.f a0_0 a0_1 a1_0 a1_1 = some r) :
  Calls Tryz.prog 91 #[.agg #[ii a0_0,ii a0_1],.agg #[ii a1_0,ii a1_1]] w fun e w' => e = .returned (ii r) ∧ Below w.heap.size w w':=by
 have hu43:=Tryz.underlying43
 have HB:=am (Below.refl w.heap.size w)
 have H : ((cmp_Compare_int.f (wrap64 (a0_0 * a1_1)) (wrap64 (a1_0 * a0_1))).bind fun t103 => (some t103)) = some r:=h
 clear h
 replace H:=Option.bind_eq_some_iff.mp H
 obtain ⟨t103,A30,H⟩:=H
 replace H : (some t103) = some r:=H
 have A3:=am A30
 clear A30
 obtain rfl:=Option.some.inj H
 go_enter Tryz.func91,Tryz.ntmps91
 go_wp2_with (first|(refine bE 2 #[ii a0_0,ii a0_1] 43 ?_;intro gb101 hg w4 hbox hb;have BK101:=am (hbox);have GW101:=am (lg hg (below_size (v0 HB.out)) : w.heap.size ≤ gb101);have GE101:=GW101;replace HB:=am (below_step (v0 HB.out) hb);clear hb hbox hg)|(refine bE 3 #[ii a1_0,ii a1_1] 43 ?_;intro gb102 hg w5 hbox hb;have BK102:=am (hbox);have GW102:=am (lg hg (below_size (v1 HB.out GE101.out)) : w.heap.size ≤ gb102);have GE102:=GW102;have NB101_102:=am (nl hg (vb BK101.out));have NB102_101:=am ((nl hg (vb BK101.out)).symm);replace BK101:=am (blk_below (vb BK101.out) hb);replace HB:=am (below_step (v1 HB.out GE101.out) hb);clear hb hbox hg;have hnb6:=NB101_102.out;have hnc6:=NB102_101.out;have hcz7_0:=bd BK101.out 0;have hcz7_1:=bd BK101.out 1;have hfz7_0:=blk_frozen BK101.out 0;have hfz7_1:=blk_frozen BK101.out 1;have hcz8_0:=bd BK102.out 0;have hcz8_1:=bd BK102.out 1;have hfz8_0:=blk_frozen BK102.out 0;have hfz8_1:=blk_frozen BK102.out 1)|(refine cE (some 15) Tryz.func159 #[ii (wrap64 (a0_0 * a1_1)),ii (wrap64 (a1_0 * a0_1))] ?_;(with_reducible refine (cmp_Compare_int.calls (wrap64 (a0_0 * a1_1)) (wrap64 (a1_0 * a0_1)) t103 _ A3.out).mono ?_);rintro e w' ⟨rfl,⟨nd,rfl⟩⟩;refine ⟨_,rfl,?_⟩))
 go_ret
 exact ⟨vf,v2 HB.out GE101.out GE102.out⟩
end Go.Proofs.YtjjfpmapjjemcaaGreat.B
end
