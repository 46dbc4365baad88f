import Derived.Test.YtjjfpmapjjemcaaGreatQ10
import Derived.Test.YtjjfpmapjjemcaaGreatQ15
import Derived.Test.YtjjfpmapjjemcaaGreatQ17
import Derived.Test.YtjjfpmapjjemcaaGreatQ18
import Derived.Test.YtjjfpmapjjemcaaGreatQ20
import Derived.Test.YtjjfpmapjjemcaaGreatQ38
import Derived.Test.YtjjfpmapjjemcaaGreatQ42
import Derived.Test.YtjjfpmapjjemcaaGreatQ44
import Derived.Test.YtjjfpmapjjemcaaGreatQ45
import Derived.Test.YtjjfpmapjjemcaaGreatQ7
import Derived.Test.YtjjfpmapjjemcaaGreatQ8
set_option linter.unusedVariables false
set_option linter.unusedSimpArgs false
section
namespace Go.Proofs.YtjjfpmapjjemcaaGreat.B
open Go.RowKit Go.Proofs.YtjjfpmapjjemcaaGreatW.PrintWords Go.Proofs.YtjjfpmapjjemcaaGreatW.PrintLast Go.Proofs.YtjjfpmapjjemcaaGreatW.PrintMore
attribute [local go_sem] max2_int min2_int max_two min_two max_three min_three max_four min_four
theorem Compare_at (a b : S43) : ∀ d,pit_Compare.f (FU + 1 + d) a.f0 a.f1 b.f0 b.f1 = some ((CompareP a b).1,(CompareP a b).2)
|0 => CompareP_prog a b
|d + 1 => pit_Compare.mono _ _ _ _ _ _ (Compare_at a b d)
def blameR : Option S139 → Int × Int × Int × Int × Int × Bool
|some b => (b.f0,b.f1.f0,b.f1.f1,b.f2.f0,b.f2.f1,true)
|none => (0,0,0,0,0,false)
def isP (id : Int) (b : S139) : Bool:=decide (b.f0 = id)
theorem blame_l0 : ∀ (d k : Nat) (l : List S139) (id : Int) (i : Nat),i + d = l.length → d < k → l.length < 9223372036854775807 → calxlaw04_blame.l0 k id l (l.length : Int) (i : Int) = some (blameR ((l.drop i).find? (isP id)))
|d,0,l,id,i,_,hk,_ => by omega
|0,k + 1,l,id,i,hd,hk,hl => by
  simp only [calxlaw04_blame.l0]
  rw [if_neg (by omega),List.drop_eq_nil_of_le (by omega)]
  rfl
|d + 1,k + 1,l,id,i,hd,hk,hl => by
  have hi : i < l.length:=by omega
  simp only [calxlaw04_blame.l0]
  rw [if_pos (by omega),if_pos (by omega),if_pos (by omega)]
  have hrd : rd_T139 l (i : Int) = l[i]:=by unfold rd_T139;rw [Int.toNat_natCast,List.getD_eq_getElem?_getD,List.getElem?_eq_getElem hi];rfl
  have ih:=blame_l0 d k l id (i + 1) (by omega) (by omega) hl
  rw [hrd,List.drop_eq_getElem_cons hi,List.find?_cons,wrap_in (by omega) (by omega),show ((i : Int) + 1) = ((i + 1 : Nat) : Int) by omega,ih]
  by_cases h1 : l[i].f0 = id
  ·rw [if_pos h1,show isP id l[i] = true from decide_eq_true h1];rfl
  ·rw [if_neg h1,show isP id l[i] = false from decide_eq_false h1]
theorem blame_at (l : List S139) (id : Int) {k : Nat} (hk : l.length < k) (hl : l.length < 9223372036854775807) : calxlaw04_blame.f k l id = some (blameR (l.find? (isP id))):=by
 unfold calxlaw04_blame.f
 have:=blame_l0 l.length k l id 0 (by omega) hk hl
 simpa using this
theorem culp_find {n : Nat} {Y : Yd} (hw : Wf n Y) {l : List S137} (hp : ∀ x ∈ l,Y.barrows.any (isId x.f0) = true ∧ milleP x.f1 = true) (id : Int) : ∀ ps : List Int,
  (culpP Y l ps).find? (isP id) = if id ∈ ps ∧ (blamedP Y l id).2.2 = true then some (blamedP Y l id).1 else none
|[] => by simp [culpP]
|p :: r => by
  have ih:=culp_find hw hp id r
  unfold culpP at ih ⊢
  rw [List.filter_cons]
  by_cases hb : (blamedP Y l p).2.2 = true
  ·rw [if_pos hb,List.map_cons,List.find?_cons]
   have h0:=(blamedP_ok hw hp hb).1
   by_cases e : p = id
   ·subst e
    rw [show isP p (blamedP Y l p).1 = true from decide_eq_true h0,if_pos ⟨List.mem_cons_self,hb⟩]
   ·rw [show isP id (blamedP Y l p).1 = false from decide_eq_false (by rw [h0];exact e),ih]
    have : (id ∈ p :: r) ↔ id ∈ r:=by simp [Ne.symm e]
    simp only [this]
  ·rw [if_neg hb,ih]
   by_cases e : p = id
   ·subst e
    rw [if_neg fun c => hb c.2,if_neg fun c => hb c.2]
   ·have : (id ∈ p :: r) ↔ id ∈ r:=by simp [Ne.symm e]
    simp only [this]
theorem culpP_len (Y : Yd) (l : List S137) (ps : List Int) : (culpP Y l ps).length ≤ ps.length:=by unfold culpP;rw [List.length_map];exact List.length_filter_le _ _
theorem blameL_prefix (Y : Yd) (pour : Int) (m : List S137) : ∀ (l : List S137) (lo hi : S43) (i : Int),(blameL Y pour lo hi i (l ++ m)).2.2 = true → (blameL Y pour lo hi i l).2.2 = true
|[],lo,hi,i,_ => rfl
|x :: r,lo,hi,i,h => by
  simp only [List.cons_append,blameL] at h ⊢
  split
  ·rename_i hz
   rw [if_pos hz] at h
   split
   ·rename_i hm;rw [if_pos hm] at h;exact h
   ·rename_i hm;rw [if_neg hm] at h;exact blameL_prefix Y pour m r _ _ _ h
  ·rename_i hz
   rw [if_neg hz] at h
   split
   ·rename_i hm;rw [if_pos hm] at h;exact h
   ·rename_i hm;rw [if_neg hm] at h;exact blameL_prefix Y pour m r _ _ _ h
theorem cmp_le {a b : S43} (ha : Rok a) (hb : Rok b) : ¬ cmpP a b > 0 ↔ val a ≤ val b:=by
 rw [val_le ha hb]
 unfold cmpP
 split
 ·rename_i h;exact ⟨fun _ => by omega,fun _ => by omega⟩
 ·split
  ·rename_i h1 h;exact ⟨fun c => absurd (by omega) c,fun c => by omega⟩
  ·rename_i h1 h;exact ⟨fun _ => by omega,fun _ => by omega⟩
theorem cmp_ge {a b : S43} (ha : Rok a) (hb : Rok b) : ¬ cmpP a b < 0 ↔ val b ≤ val a:=by
 rw [val_le hb ha]
 unfold cmpP
 split
 ·rename_i h;exact ⟨fun c => absurd (by omega) c,fun c => by omega⟩
 ·split
  ·rename_i h1 h;exact ⟨fun _ => by omega,fun _ => by omega⟩
  ·rename_i h1 h;exact ⟨fun _ => by omega,fun _ => by omega⟩
theorem minR_le {a hi : S43} (ha : Rok a) (hh : Rok hi) : val (minR a hi) ≤ val hi:=by
 unfold minR
 split
 ·rename_i h
  have:=fun c => (cmp_ge ha hh).2 c h
  exact Rat.le_of_lt (Rat.not_le.1 this)
 ·exact Rat.le_refl
theorem blameL_ends {n : Nat} {Y : Yd} (hw : Wf n Y) (pour : Int) : ∀ (l : List S137) (lo hi : S43) (i : Int),(∀ x ∈ l,Y.barrows.any (isId x.f0) = true ∧ milleP x.f1 = true) → EndOk lo → EndOk hi → val lo ≤ val hi → val hi ≤ 1000 →
  (blameL Y pour lo hi i l).2.2 = true → val (blameL Y pour lo hi i l).1.f1 ≤ val (blameL Y pour lo hi i l).1.f2 ∧ val (blameL Y pour lo hi i l).1.f2 ≤ 1000
|[],lo,hi,i,_,h1,h2,h3,h4,_ => ⟨h3,h4⟩
|x :: r,lo,hi,i,hp,h1,h2,h3,h4,h => by
  have hx:=hp x List.mem_cons_self
  have hr : ∀ y ∈ r,Y.barrows.any (isId y.f0) = true ∧ milleP y.f1 = true:=fun y hy => hp y (List.mem_cons_of_mem _ hy)
  obtain ⟨s1,s2,s3⟩:=shareP_bnd (barrowD_ok hw hx.1) pour
  simp only [blameL] at h ⊢
  split at h
  ·rename_i hz
   rw [if_pos hz]
   split at h
   ·cases h
   ·rename_i hm
    rw [if_neg hm]
    exact blameL_ends hw pour r lo hi (i + 1) hr h1 h2 h3 h4 h
  ·rename_i hz
   rw [if_neg hz]
   obtain ⟨m0,m1,m2,m3⟩:=milleP_of hx.2
   have hs1 : 1 ≤ (shareP (barrowD Y x.f0) pour).f0:=by have:=s1.1;omega
   have e1:=(endP_ok m0 m1 s1 s2 s3 hs1).1
   have e2:=(endP_ok m2 m3 s1 s2 s3 hs1).1
   split at h
   ·cases h
   ·rename_i hc
    rw [if_neg hc]
    have k1:=maxR_ok e1 h1
    have k2:=minR_ok e2 h2
    exact blameL_ends hw pour r _ _ (i + 1) hr k1 k2 ((cmp_le k1.1 k2.1).1 hc) (Rat.le_trans (minR_le e2.1 h2.1) h4) h
theorem blamedP_ends {n : Nat} {Y : Yd} (hw : Wf n Y) {pour : Int} {l : List S137} (hp : ∀ x ∈ l,Y.barrows.any (isId x.f0) = true ∧ milleP x.f1 = true) (h : (blamedP Y l pour).2.2 = true) :
  val (blamedP Y l pour).1.f1 ≤ val (blamedP Y l pour).1.f2 ∧ val (blamedP Y l pour).1.f2 ≤ 1000 :=
 blameL_ends hw pour l _ _ 0 hp ⟨wholeP_ok (by decide),by decide,by decide⟩ ⟨wholeP_ok (by decide),by decide,by decide⟩ (by rw [val_wholeP,val_wholeP];decide) (by rw [val_wholeP];exact Rat.le_refl) h
theorem le1000 {a : S43} (ha : Rok a) (h : val a ≤ 1000) : ¬ a.f0 > 1000 * a.f1:=by
 have:=(val_le_int (n:=1000) ha (by omega)).1 (by simpa using h)
 omega
theorem culps_l0 {lA : List Int} {lB : List S84} {Y : Yd} (hp : playedP lA lB lB.length = .ok Y) (hs : calxlaw04_sanity.f = some true) {l : List S137} (hl : probesE Y l = 0) {more : S137} (T : List S139) (g : Int) (hTl : T.length ≤ 60)
  (hT : g = 0 → T = culpP Y (l ++ [more]) Y.pours ∧ probesE Y (l ++ [more]) = 0) (x : S43) :
  ∀ (m d j : Nat),j + m = Y.pours.length → 3 * m + 100 ≤ d → calxlaw04_PitCulprits.l0 (FU + 1 + d) l (culpP Y l Y.pours) T g Y.pours (Y.pours.length : Int) (j : Int) lA lB x.f0 x.f1 = some true
|0,d,j,hj,hd => by
  obtain ⟨d,rfl⟩ : ∃ d',d = d' + 1:=⟨d - 1,by omega⟩
  show calxlaw04_PitCulprits.l0 ((FU + 1 + d) + 1) _ _ _ _ _ _ _ _ _ _ _ = some true
  simp only [calxlaw04_PitCulprits.l0]
  rw [if_neg (by omega),hs]
  rfl
|m + 1,d,j,hj,hd => by
  have hw:=played_wf hp
  have hn:=hw.npours
  have hl60:=(played_ok hp).2.1
  have hPK:=(probesE_ok hl).2
  have hcl:=culpP_len Y l Y.pours
  have hjl : j < Y.pours.length:=by omega
  obtain ⟨d,rfl⟩ : ∃ d',d = d' + 3:=⟨d - 3,by omega⟩
  have hnext:=culps_l0 hp hs hl T g hTl hT x m d (j + 1) (by omega) (by omega)
  show calxlaw04_PitCulprits.l0 ((FU + 1 + (d + 2)) + 1) _ _ _ _ _ _ _ _ _ _ _ = some true
  simp only [calxlaw04_PitCulprits.l0]
  rw [if_pos (by omega),if_pos (by omega),if_pos (by omega)]
  have hrd : rd Y.pours (j : Int) = Y.pours[j]:=by unfold rd;rw [Int.toNat_natCast,List.getD_eq_getElem?_getD,List.getElem?_eq_getElem hjl];rfl
  have hm : Y.pours[j] ∈ Y.pours:=List.getElem_mem hjl
  rw [hrd]
  obtain ⟨id,hid⟩ : ∃ id,id = Y.pours[j]:=⟨_,rfl⟩
  rw [← hid] at hm ⊢
  rw [blame_at _ id (by omega) (by omega),culp_find hw hPK]
  unfold pit_Clears.f clearsE
  rw [hp]
  simp only [Option.bind_some]
  rw [if_pos hl,if_pos hm]
  simp only [if_true]
  -- the step behind the first two tests
  have hj3 : ∀ (is : Bool) (b : S139),(is = true → (blamedP Y l id).2.2 = true ∧ b = (blamedP Y l id).1) → (is = false → (blamedP Y l id).2.2 = false) →
    calxlaw04_PitCulprits.j3 ((FU + 1 + d) + 1) l (culpP Y l Y.pours) T g id is Y.pours (Y.pours.length : Int) (j : Int) false lA lB x.f0 x.f1 b.f0 b.f1.f0 b.f1.f1 b.f2.f0 b.f2.f1 = some true:=by
   intro is b h1 h2
   simp only [calxlaw04_PitCulprits.j3,Bool.false_eq_true,if_false]
   rw [wrap_in (n:=(j : Int) + 1) (by omega) (by omega),show ((j : Int) + 1) = ((j + 1 : Nat) : Int) by omega,hnext]
   unfold pit_CheckBlame.f checkE
   rw [hp]
   simp only [Option.bind_some]
   rw [if_pos hl,if_pos hm]
   by_cases hv : validP x = true
   ·rw [if_pos hv]
    by_cases hx : x.f0 > 1000 * x.f1
    ·rw [if_pos hx];rfl
    ·rw [if_neg hx]
     cases is with
    |false =>
      have hb:=h2 rfl
      rw [hb]
      rfl
    |true =>
      obtain ⟨hb,rfl⟩:=h1 rfl
      obtain ⟨k0,k1,k2⟩:=blamedP_ok hw hPK hb
      obtain ⟨q1,q2⟩:=blamedP_ends hw hPK hb
      rw [if_pos hb,if_pos hb,if_pos hb]
      have hvx:=(validP_ok hv).1
      have hlo:=endOk_valid k1
      have hhi:=endOk_valid k2
      generalize (blamedP Y l id).1.f1 = lo at *
      generalize (blamedP Y l id).1.f2 = hi at *
      have c1 : pit_Compare.f (FU + 1 + d) lo.f0 lo.f1 x.f0 x.f1 = some (cmpP lo x,0):=by rw [Compare_at];unfold CompareP;rw [hlo,hv];rfl
      have c2 : pit_Compare.f (FU + 1 + d) x.f0 x.f1 hi.f0 hi.f1 = some (cmpP x hi,0):=by rw [Compare_at];unfold CompareP;rw [hv,hhi];rfl
      rw [c1,c2]
      have r1 : validP (⟨lo.f0,lo.f1⟩ : S43) = true:=hlo
      have r2 : validP (⟨hi.f0,hi.f1⟩ : S43) = true:=hhi
      have u1:=le1000 k1.1 (Rat.le_trans q1 q2)
      have u2:=le1000 k2.1 q2
      have v1 : ¬ cmpP lo lo < 0:=(cmp_ge k1.1 k1.1).2 Rat.le_refl
      have v2 : ¬ cmpP lo hi > 0:=(cmp_le k1.1 k2.1).2 q1
      have v3 : ¬ cmpP hi lo < 0:=(cmp_ge k2.1 k1.1).2 q1
      have v4 : ¬ cmpP hi hi > 0:=(cmp_le k2.1 k2.1).2 Rat.le_refl
      have w1 : (if validP (⟨lo.f0,lo.f1⟩ : S43) = true then (if lo.f0 > 1000 * lo.f1 then (1 : Int) else if cmpP ⟨lo.f0,lo.f1⟩ lo < 0 then 8 else if cmpP ⟨lo.f0,lo.f1⟩ hi > 0 then 8 else 0) else 1) = 0:=by
       rw [if_pos r1,if_neg u1,if_neg v1,if_neg v2]
      have w2 : (if validP (⟨hi.f0,hi.f1⟩ : S43) = true then (if hi.f0 > 1000 * hi.f1 then (1 : Int) else if cmpP ⟨hi.f0,hi.f1⟩ lo < 0 then 8 else if cmpP ⟨hi.f0,hi.f1⟩ hi > 0 then 8 else 0) else 1) = 0:=by
       rw [if_pos r2,if_neg u2,if_neg v3,if_neg v4]
      have f1 : cmpP x lo < 0 ↔ ¬ cmpP lo x ≤ 0:=by
       have a1:=cmp_ge hvx k1.1
       have a2:=cmp_le k1.1 hvx
       constructor
       ·intro h c;exact (a1.2 (a2.1 (by omega))) h
       ·intro h
        refine Decidable.not_not.1 fun c => ?_
        exact (a2.2 (a1.1 c)) (by omega)
      have e1 : ((if cmpP x lo < 0 then (8 : Int) else if cmpP x hi > 0 then 8 else 0) = 1) = False:=by
       simp only [eq_iff_iff,iff_false];split;omega;split <;> omega
      simp only [Option.bind_some,if_true,w1,w2,e1,if_false]
      by_cases g1 : cmpP lo x ≤ 0
      ·have g2 : ¬ cmpP x lo < 0:=fun c => f1.1 c g1
       simp only [if_pos g1,if_neg g2]
       by_cases g3 : cmpP x hi > 0
       ·have g4 : ¬ cmpP x hi ≤ 0:=by omega
        simp [g3,g4,hl,hm]
       ·have g4 : cmpP x hi ≤ 0:=by omega
        simp [g3,g4,hl,hm]
      ·have g2 : cmpP x lo < 0:=f1.2 g1
       simp only [if_neg g1,if_pos g2]
       simp [hl,hm]
   ·rw [if_neg hv];rfl
  have hj2 : ∀ (is : Bool) (b : S139),(is = true → (blamedP Y l id).2.2 = true ∧ b = (blamedP Y l id).1) → (is = false → (blamedP Y l id).2.2 = false) →
    calxlaw04_PitCulprits.j2 ((FU + 1 + (d + 1)) + 1) l (culpP Y l Y.pours) T g id is Y.pours (Y.pours.length : Int) (j : Int) false lA lB x.f0 x.f1 b.f0 b.f1.f0 b.f1.f1 b.f2.f0 b.f2.f1 = some true:=by
   intro is b h1 h2
   simp only [calxlaw04_PitCulprits.j2,Bool.false_eq_true,if_false]
   rw [blame_at T id (by omega) (by omega)]
   simp only [Option.bind_some]
   have h3:=hj3 is b h1 h2
   by_cases hg : g = 0
   ·rw [if_pos hg]
    obtain ⟨hTT,hPP⟩:=hT hg
    by_cases hst : (blameR (T.find? (isP id))).2.2.2.2.2 = true
    ·rw [if_pos hst]
     rw [hTT,culp_find hw (probesE_ok hPP).2] at hst
     have hb2 : (blamedP Y (l ++ [more]) id).2.2 = true:=by
      by_cases c : id ∈ Y.pours ∧ (blamedP Y (l ++ [more]) id).2.2 = true
      ·exact c.2
      ·rw [if_neg c] at hst;exact absurd hst (by simp [blameR])
     have hb:=blameL_prefix Y id [more] l _ _ 0 hb2
     cases is with
    |true => exact h3
    |false => exact absurd (h2 rfl) (by rw [show (blamedP Y l id).2.2 = true from hb];simp)
    ·rw [if_neg hst];exact h3
   ·rw [if_neg hg];exact h3
  cases hb : (blamedP Y l id).2.2 with
 |true =>
   rw [if_pos ⟨hm,rfl⟩]
   exact hj2 true (blamedP Y l id).1 (fun _ => ⟨hb,rfl⟩) (fun c => by cases c)
 |false =>
   rw [if_neg (by simp)]
   exact hj2 false ⟨0,⟨0,0⟩,⟨0,0⟩⟩ (fun c => by cases c) (fun _ => hb)
theorem purePitCulprits (lA : List Int) (_ : lA.length ≤ 9223372036854775807) (_ : ∀ x ∈ lA,W64 x) (lB : List S84) (_ : lB.length ≤ 9223372036854775807) (_ : ∀ x ∈ lB,Wf6 x) (l : List S137) (_ : l.length ≤ 9223372036854775807) (_ : ∀ x ∈ l,Wf137 x) (more : S137) (_ : Wf137 more) (x : S43) :
  ∃ k,calxlaw04_PitCulprits.f k lA lB l more.f0 more.f1.f0 more.f1.f1 x.f0 x.f1 = some true:=by
 have hs : calxlaw04_sanity.f = some true:=rfl
 have hf : ∃ t,calxlaw04_few.f lA lB = some t:=by unfold calxlaw04_few.f;split;(· split;exact ⟨_,rfl⟩;split <;> exact ⟨_,rfl⟩);exact ⟨_,rfl⟩
 obtain ⟨t,ht⟩:=hf
 obtain ⟨D,hD⟩ : ∃ D : Nat,D = 999:=⟨_,rfl⟩
 refine ⟨(FU + 1 + D) + 1,?_⟩
 unfold calxlaw04_PitCulprits.f
 rw [ht]
 simp only [Option.bind_some]
 have hj : ∀ k,calxlaw04_PitCulprits.j0 (k + 1) l true lA lB more.f0 more.f1.f0 more.f1.f1 x.f0 x.f1 = some true:=by
  intro k
  simp only [calxlaw04_PitCulprits.j0,if_true,hs,Option.bind_some]
 cases t
 ·rw [if_neg (by simp)];exact hj _
 rw [if_pos rfl]
 by_cases h6 : (l.length : Int) > 6
 ·rw [decide_eq_true h6];exact hj _
 rw [decide_eq_false h6]
 simp only [calxlaw04_PitCulprits.j0,Bool.false_eq_true,if_false,List.nil_append,Option.bind_some]
 unfold pit_Culprits.f pit_Pours.f culpE idsE
 cases hp : playedP lA lB lB.length with
|error e =>
  have hx:=playedP_code hp
  simp only [Option.bind_some]
  show (if e.1 = 0 then _ else calxlaw04_sanity.f.bind fun t => some t) = some true
  rw [if_neg hx,hs]
  rfl
|ok Y =>
  have hw:=played_wf hp
  have hn:=hw.npours
  have hl60:=(played_ok hp).2.1
  simp only [Option.bind_some]
  by_cases hl : probesE Y l = 0
  ·rw [if_pos hl]
   simp only [if_true]
   rw [if_pos (by simp only [List.length_nil];omega),if_pos (by simp only [List.length_cons,List.length_nil];omega)]
   by_cases hl2 : probesE Y (l ++ [(⟨more.f0,⟨more.f1.f0,more.f1.f1⟩⟩ : S137)]) = 0
   ·rw [if_pos hl2]
    exact culps_l0 hp hs hl (more:=⟨more.f0,⟨more.f1.f0,more.f1.f1⟩⟩) _ 0 (by have:=culpP_len Y (l ++ [(⟨more.f0,⟨more.f1.f0,more.f1.f1⟩⟩ : S137)]) Y.pours;omega) (fun _ => ⟨rfl,hl2⟩) x Y.pours.length D 0 (by omega) (by omega)
   ·rw [if_neg hl2]
    exact culps_l0 hp hs hl (more:=⟨more.f0,⟨more.f1.f0,more.f1.f1⟩⟩) [] _ (by simp) (fun c => absurd c hl2) x Y.pours.length D 0 (by omega) (by omega)
  ·rw [if_neg hl]
   show (if probesE Y l = 0 then _ else calxlaw04_sanity.f.bind fun t => some t) = some true
   rw [if_neg hl,hs]
   rfl
end Go.Proofs.YtjjfpmapjjemcaaGreat.B
end
