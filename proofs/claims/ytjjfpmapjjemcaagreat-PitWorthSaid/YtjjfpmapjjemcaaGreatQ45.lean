import Derived.Test.YtjjfpmapjjemcaaGreatQ36
import Derived.Test.YtjjfpmapjjemcaaGreatQ44
import Derived.Test.YtjjfpmapjjemcaaGreatQ7
set_option linter.unusedVariables false
set_option linter.unusedSimpArgs false
section
namespace Go.Proofs.YtjjfpmapjjemcaaGreat.B
open Go.RowKit Go.Proofs.YtjjfpmapjjemcaaGreatW.PrintWords Go.Proofs.YtjjfpmapjjemcaaGreatW.PrintLast Go.Proofs.YtjjfpmapjjemcaaGreatW.PrintMore
attribute [local go_sem] max2_int min2_int max_two min_two max_three min_three max_four min_four
def lastL : List S113 → Int → S66 → S66
|[],_,s => s
|g :: r,q,s => lastL r q (if g.f0 = q then g.f1 else s)
theorem lastL_snoc (q : Int) (g : S113) : ∀ (l : List S113) (s : S66),lastL (l ++ [g]) q s = if g.f0 = q then g.f1 else lastL l q s
|[],s => rfl
|x :: r,s => lastL_snoc q g r _
theorem lastL_take {l : List S113} {j : Nat} (h : j < l.length) (q : Int) (s : S66) : lastL (l.take (j + 1)) q s = if (rd_T113 l (j : Int)).f0 = q then (rd_T113 l (j : Int)).f1 else lastL (l.take j) q s:=by
 have hrd : rd_T113 l (j : Int) = l[j]:=by unfold rd_T113;rw [Int.toNat_natCast,List.getD_eq_getElem?_getD,List.getElem?_eq_getElem h];rfl
 rw [List.take_succ_eq_append_getElem h,lastL_snoc,hrd]
theorem lastL_none (q : Int) : ∀ (l : List S113) (s : S66),(∀ g ∈ l,g.f0 ≠ q) → lastL l q s = s
|[],_,_ => rfl
|g :: r,s,h => by
  simp only [lastL]
  rw [if_neg (h g List.mem_cons_self)]
  exact lastL_none q r s fun x hx => h x (List.mem_cons_of_mem _ hx)
theorem lastL_grade (q : Int) : ∀ (l : List S113),l.Pairwise (fun x y => x.f0 ≠ y.f0) → lastL l q ⟨0,1000⟩ = gradeL l q
|[],_ => rfl
|g :: r,h => by
  obtain ⟨h1,h2⟩:=List.pairwise_cons.1 h
  simp only [lastL]
  rw [gradeL_cons]
  by_cases e : g.f0 = q
  ·rw [if_pos e,if_pos e]
   exact lastL_none q r _ fun x hx => fun c => h1 x hx (e.trans c.symm)
  ·rw [if_neg e,if_neg e]
   exact lastL_grade q r h2
theorem askL_apart {α : Type} {a : α → Int} {m : α → S66} {known : Int → Bool} : ∀ (r done : List α),askL a m known done r = 0 → r.Pairwise (fun x y => a x ≠ a y) ∧ ∀ x ∈ done,∀ y ∈ r,a x ≠ a y
|[],_,_ => ⟨List.Pairwise.nil,by simp⟩
|g :: r,done,h => by
  simp only [askL] at h
  split at h
  ·split at h
   ·split at h
    ·cases h
    ·rename_i hn
     obtain ⟨k1,k2⟩:=askL_apart r (done ++ [g]) h
     have hd : ∀ x ∈ done,a x ≠ a g:=fun x hx e => hn (List.any_eq_true.2 ⟨x,hx,decide_eq_true e⟩)
     refine ⟨List.pairwise_cons.2 ⟨fun y hy => k2 g (by simp) y hy,k1⟩,fun x hx y hy => ?_⟩
     rcases List.mem_cons.1 hy with rfl|hy
     ·exact hd x hx
     ·exact k2 x (List.mem_append_left _ hx) y hy
   ·cases h
  ·cases h
theorem grades_last {Y : Yd} {l : List S113} (h : gradesE Y l = 0) (q : Int) : lastL l q ⟨0,1000⟩ = gradeL l q:=by
 unfold gradesE at h
 split at h
 ·exact lastL_grade q l (askL_apart l [] h).1
 ·cases h
def midV (s : S66) (i : Nat) (ss : List Int) : Int:=if i < ss.length then s.f0 + Int.tmod (rd ss (i : Int)) (s.f1 - s.f0 + 1) else s.f0
theorem midV_in {s : S66} (h : milleP s = true) {i : Nat} {ss : List Int} (hs : ∀ x ∈ ss,0 ≤ x ∧ x ≤ 65535) : s.f0 ≤ midV s i ss ∧ midV s i ss ≤ s.f1:=by
 obtain ⟨m0,m1,m2,m3⟩:=milleP_of h
 have m4 : s.f0 ≤ s.f1:=(of_decide_eq_true h).2.1
 unfold midV
 split
 ·rename_i hi
  have hx : rd ss (i : Int) ∈ ss:=by unfold rd;rw [Int.toNat_natCast];exact getD_mem_ hi
  rw [Int.tmod_eq_emod_of_nonneg (hs _ hx).1]
  have h1:=Int.emod_nonneg (rd ss (i : Int)) (show s.f1 - s.f0 + 1 ≠ 0 by omega)
  have h2:=Int.emod_lt_of_pos (rd ss (i : Int)) (show 0 < s.f1 - s.f0 + 1 by omega)
  omega
 ·omega
theorem atG_take {pours : List Int} {v : Int → Int} {i : Nat} (h : i < pours.length) : atG (pours.take (i + 1)) v = atG (pours.take i) v ++ [⟨rd pours (i : Int),⟨v (rd pours (i : Int)),v (rd pours (i : Int))⟩⟩]:=by
 unfold atG
 rw [List.take_succ_eq_append_getElem h,List.map_append,rd_nat h]
 rfl
def midF (l : List S113) (pours ss : List Int) (q : Int) : Int:=midV (gradeL l q) (pours.idxOf q) ss
theorem midF_at {l : List S113} {pours ss : List Int} (hn : pours.Nodup) {i : Nat} (h : i < pours.length) : midF l pours ss (rd pours (i : Int)) = midV (gradeL l (rd pours (i : Int))) i ss:=by
 unfold midF
 rw [rd_nat h,List.Nodup.idxOf_getElem hn]
theorem grades_mille {Y : Yd} {l : List S113} (h : gradesE Y l = 0) (q : Int) : milleP (gradeL l q) = true:=by
 unfold gradesE at h
 split at h
 ·exact gradeL_mille (fun g hg => (askL_mille h g hg).2) q
 ·cases h
def vrF (l : List S113) (pours ss : List Int) (r : Nat) (q : Int) : Int:=if r = 0 then (gradeL l q).f0 else if r = 1 then midF l pours ss q else (gradeL l q).f1
theorem vrF_in {Y : Yd} {l : List S113} (hl : gradesE Y l = 0) {pours ss : List Int} (hs : ∀ x ∈ ss,0 ≤ x ∧ x ≤ 65535) (r : Nat) (q : Int) : (gradeL l q).f0 ≤ vrF l pours ss r q ∧ vrF l pours ss r q ≤ (gradeL l q).f1:=by
 have hm:=grades_mille hl q
 have m4 : (gradeL l q).f0 ≤ (gradeL l q).f1:=(of_decide_eq_true hm).2.1
 unfold vrF
 split
 ·exact ⟨Int.le_refl _,m4⟩
 ·split
  ·exact midV_in hm hs
  ·exact ⟨m4,Int.le_refl _⟩
theorem worth_round {rooms : List Int} {stirs : List S84} {Y : Yd} (hq : playedP rooms stirs stirs.length = .ok Y) {b : S167} (hb : b ∈ Y.barrows) {l : List S113} (hl : gradesE Y l = 0) {lo hi : S43} (hB : worthB b l = (lo,hi,0)) {ss : List Int} (hs : ∀ x ∈ ss,0 ≤ x ∧ x ≤ 65535) (r : Nat) :
  (worthE (playedP rooms stirs stirs.length) b.f0 (atG Y.pours (vrF l Y.pours ss r))).2.2 = 3 ∨ ∃ a,worthE (playedP rooms stirs stirs.length) b.f0 (atG Y.pours (vrF l Y.pours ss r)) = (a,a,0) ∧ validP lo = true ∧ validP a = true ∧ validP hi = true ∧ cmpP lo a ≤ 0 ∧ cmpP a hi ≤ 0 ∧ (r = 0 → a = lo) ∧ (r = 2 → a = hi):=by
 have hW:=(played_ok hq).2.2.1
 obtain ⟨k1,k2⟩:=worth_at hW (Nat.le_refl 60) hb hl hB (v:=vrF l Y.pours ss r) fun q _ => vrF_in hl hs r q
 have e : worthE (playedP rooms stirs stirs.length) b.f0 (atG Y.pours (vrF l Y.pours ss r)) = worthB b (atG Y.pours (vrF l Y.pours ss r)):=by
  rw [hq]
  unfold worthE
  simp only [find_self hW.bnodup b hb]
  rw [if_pos k1]
 rw [e]
 rcases k2 with k2|⟨a,h1,h2,h3,h4,h5,h6,h7,h8⟩
 ·exact .inl k2
 ·exact .inr ⟨a,h1,h2,h3,h4,h5,h6,fun c => h7 fun q _ => by rw [c];rfl,fun c => h8 fun q _ => by rw [c];rfl⟩
end Go.Proofs.YtjjfpmapjjemcaaGreat.B
end
