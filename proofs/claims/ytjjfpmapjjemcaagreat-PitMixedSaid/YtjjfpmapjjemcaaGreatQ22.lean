import Derived.Test.YtjjfpmapjjemcaaGreatQ10
import Derived.Test.YtjjfpmapjjemcaaGreatQ11
import Derived.Test.YtjjfpmapjjemcaaGreatQ14
import Derived.Test.YtjjfpmapjjemcaaGreatQ15
import Derived.Test.YtjjfpmapjjemcaaGreatQ16
import Derived.Test.YtjjfpmapjjemcaaGreatQ19
import Derived.Test.YtjjfpmapjjemcaaGreatQ20
import Derived.Test.YtjjfpmapjjemcaaGreatQ21
import Derived.Test.YtjjfpmapjjemcaaGreatQ6
import Derived.Test.YtjjfpmapjjemcaaGreatQ7
set_option linter.unusedVariables false
set_option linter.unusedSimpArgs false
section
namespace Go.Proofs.YtjjfpmapjjemcaaGreat.B
open Go.RowKit Go.Proofs.YtjjfpmapjjemcaaGreatW.PrintWords Go.Proofs.YtjjfpmapjjemcaaGreatW.PrintLast Go.Proofs.YtjjfpmapjjemcaaGreatW.PrintMore
attribute [local go_sem] max2_int min2_int max_two min_two max_three min_three max_four min_four
theorem share_valid {n : Nat} {pours : List Int} {b : S167} (h : BarrowOk n pours b) (pour : Int) : validP (shareP b pour) = true:=by
 obtain ⟨h1,h2,h3⟩:=partP_ok h pour
 have h4:=h.lo
 have h5:=h.hi
 have q:=ratioP_le (mul_nonneg_ h1.1 (show (0 : Int) ≤ 1 by omega)) (mul_pos_ h1.2.1 h4)
 have q2:=mul_bound (show 0 ≤ (partP b pour).f1 by have:=h1.2.1;omega) (show 0 ≤ b.f2 by omega) h3 h5
 exact validP_of (timesP_ok h1 (by omega) h4) (by show (ratioP _ _).f0 ≤ _;omega) (by show (ratioP _ _).f1 ≤ _;omega)
theorem share_val {n : Nat} {pours : List Int} {b : S167} (h : BarrowOk n pours b) (hp : pours.Nodup) (pour : Int) : val (shareP b pour) = sumOf pour b.f3 / (b.f2 : Rat):=by
 have h4:=cast_ne h.lo
 rw [show shareP b pour = timesP (partP b pour) 1 b.f2 from rfl,val_timesP (partP_ok h pour).1 (by omega) h.lo,partP_val h hp]
 simp only [Rat.intCast_one]
 grind
theorem shareE_ok {rooms : List Int} {stirs : List S84} {Y : Yd} (hp : playedP rooms stirs stirs.length = .ok Y) {b : S167} (hf : Y.barrows.find? (isId b.f0) = some b) (hb : b ∈ Y.barrows) {q : Int} (hq : q ∈ Y.pours) :
  shareE (playedP rooms stirs stirs.length) b.f0 q = (shareP b q,0):=by
 rw [hp]
 unfold shareE
 simp only [hf]
 rw [if_pos hq]
 unfold resultP
 rw [if_pos (share_valid ((played_wf hp).barrows b hb) q)]
theorem find_self : ∀ {l : List S167},(l.map (·.f0)).Nodup → ∀ b ∈ l,l.find? (isId b.f0) = some b
|[],_,b,h => by simp at h
|x :: r,hn,b,h => by
  obtain ⟨h1,h2⟩:=List.nodup_cons.1 (by simpa using hn : (x.f0 :: r.map (·.f0)).Nodup)
  rw [List.find?_cons]
  rcases List.mem_cons.1 h with rfl|h
  ·simp [isId]
  ·have hne : x.f0 ≠ b.f0:=fun e => h1 (by rw [e];exact List.mem_map_of_mem h)
   rw [show isId b.f0 x = false from decide_eq_false hne]
   exact find_self h2 b h
theorem rd_nat {l : List Int} {j : Nat} (h : j < l.length) : rd l (j : Int) = l[j]:=by
 unfold rd;rw [Int.toNat_natCast,List.getD_eq_getElem?_getD,List.getElem?_eq_getElem h];rfl
def usedP (l : List S84) (id : Int) : Bool:=l.any fun s => s.f0 == id
theorem fresh_l1 (A : List Int) (id : Int) : ∀ (d e i : Nat) (l : List S84) (x : Bool),i + d = l.length → l.length < 9223372036854775807 →
  calxlaw04_fresh.l1 (e + d + 1) id x l (l.length : Int) (i : Int) A l = if (x || usedP (l.drop i) id) = true then calxlaw04_fresh.l0 e (wrap64 (id + 1)) A l else some id
|0,e,i,l,x,hd,hl => by
  simp only [calxlaw04_fresh.l1,Nat.add_zero]
  rw [if_neg (by omega),List.drop_eq_nil_of_le (by omega)]
  simp only [usedP,List.any_nil,Bool.or_false]
|d + 1,e,i,l,x,hd,hl => by
  have hi : i < l.length:=by omega
  have hrd : rd_T84 l (i : Int) = l[i]:=by unfold rd_T84;rw [Int.toNat_natCast,List.getD_eq_getElem?_getD,List.getElem?_eq_getElem hi];rfl
  have ih1:=fresh_l1 A id d e (i + 1) l true (by omega) hl
  have ih2:=fresh_l1 A id d e (i + 1) l (l[i].f0 == id) (by omega) hl
  show calxlaw04_fresh.l1 ((e + d + 1) + 1) _ _ _ _ _ _ _ = _
  generalize e + d + 1 = K at ih1 ih2 ⊢
  simp only [calxlaw04_fresh.l1]
  rw [if_pos (by omega),if_pos (by omega),if_pos (by omega)]
  rw [hrd,List.drop_eq_getElem_cons hi,wrap_in (n:=(i : Int) + 1) (by omega) (by omega),show ((i : Int) + 1) = ((i + 1 : Nat) : Int) by omega,ih1,ih2]
  simp only [usedP,List.any_cons]
  cases x
  ·simp only [Bool.false_eq_true,if_false,Bool.false_or];try rfl
  ·simp only [if_true,Bool.true_or]
theorem fresh_l0 (A : List Int) (l : List S84) (hl : l.length ≤ 60) : ∀ (n e : Nat) (id : Int),(∃ j : Nat,j ≤ n ∧ usedP l (id + j) = false) → 0 ≤ id → id + n ≤ 1000000 → (n + 1) * (l.length + 2) ≤ e →
  ∃ r,calxlaw04_fresh.l0 e id A l = some r ∧ id ≤ r ∧ r ≤ id + n ∧ usedP l r = false
|n,e,id,hj,h0,h1,he => by
  obtain ⟨e,rfl⟩ : ∃ e',e = e' + l.length + 2:=⟨e - (l.length + 2),by have : l.length + 2 ≤ (n + 1) * (l.length + 2):=Nat.le_mul_of_pos_left _ (by omega);omega⟩
  have hs : calxlaw04_fresh.l0 (e + l.length + 2) id A l = if usedP l id = true then calxlaw04_fresh.l0 e (wrap64 (id + 1)) A l else some id:=by
   show calxlaw04_fresh.l0 ((e + l.length + 1) + 1) id A l = _
   simp only [calxlaw04_fresh.l0]
   have:=fresh_l1 A id l.length e 0 l false (by omega) (by omega)
   simpa using this
  rw [hs]
  by_cases c : usedP l id = true
  ·rw [if_pos c,wrap_in (n:=id + 1) (by omega) (by omega)]
   obtain ⟨j,hj1,hj2⟩:=hj
   match n,j,hj1,hj2 with
  |n,0,_,hj2 => exact absurd (show usedP l id = false by simpa using hj2) (by rw [c];simp)
  |0,j + 1,hj1,_ => omega
  |n + 1,j + 1,hj1,hj2 =>
    have hm : (n + 1 + 1) * (l.length + 2) = (n + 1) * (l.length + 2) + (l.length + 2):=Nat.succ_mul _ _
    obtain ⟨r,k1,k2,k3,k4⟩:=fresh_l0 A l hl n e (id + 1) ⟨j,by omega,by rw [show id + 1 + (j : Int) = id + ((j + 1 : Nat) : Int) by omega];exact hj2⟩ (by omega) (by omega) (by omega)
    exact ⟨r,k1,by omega,by omega,k4⟩
  ·rw [if_neg c]
   exact ⟨id,rfl,Int.le_refl _,by omega,by simpa using c⟩
theorem pig : ∀ (m : Nat) (id : Int) (ids : List Int),(∀ j : Nat,j < m → id + j ∈ ids) → m ≤ ids.length
|0,_,_,_ => Nat.zero_le _
|m + 1,id,ids,h => by
  have hx:=h m (by omega)
  have:=pig m id (ids.erase (id + m)) fun j hj => (List.mem_erase_of_ne (by omega)).2 (h j (by omega))
  have hp:=List.length_pos_of_mem hx
  rw [List.length_erase_of_mem hx] at this
  omega
theorem some_free (l : List S84) (id : Int) : ∃ j : Nat,j ≤ l.length ∧ usedP l (id + j) = false:=by
 refine Decidable.not_not.1 fun h => ?_
 have:=pig (l.length + 1) id (l.map (·.f0)) fun j hj => by
  have hu : usedP l (id + j) = true:=by
   cases hc : usedP l (id + j) with
  |true => rfl
  |false => exact absurd ⟨j,by omega,hc⟩ h
  obtain ⟨s,hs,e⟩:=List.any_eq_true.1 hu
  rw [← beq_iff_eq.1 e]
  exact List.mem_map_of_mem hs
 rw [List.length_map] at this
 omega
theorem fresh_at (A : List Int) (l : List S84) (hl : l.length ≤ 60) (than : Int) (h0 : 0 ≤ than) (h1 : than ≤ 1000) {e : Nat} (he : 4000 ≤ e) :
  ∃ r,calxlaw04_fresh.f e A l than = some r ∧ than < r ∧ r ≤ than + 61 ∧ usedP l r = false:=by
 unfold calxlaw04_fresh.f
 rw [wrap_in (by omega) (by omega)]
 have hm : (l.length + 1) * (l.length + 2) ≤ 61 * 62:=Nat.mul_le_mul (by omega) (by omega)
 obtain ⟨r,k1,k2,k3,k4⟩:=fresh_l0 A l hl l.length e (than + 1) (some_free l _) (by omega) (by omega) (by omega)
 exact ⟨r,k1,by omega,by omega,k4⟩
theorem unused_new {l : List S84} {Y : Yd} {id : Int} (h1 : ∀ x ∈ Y.pours,∃ s ∈ l,s.f0 = x) (h2 : ∀ b ∈ Y.barrows,∃ s ∈ l,s.f0 = b.f0) (h : usedP l id = false) : isNew Y id = true:=by
 have hn : ∀ s ∈ l,s.f0 ≠ id:=fun s hs e => by
  have:=List.any_eq_false.1 h s hs
  exact this (beq_iff_eq.2 e)
 refine isNew_iff (fun hx => ?_) (fun b hb e => ?_)
 ·obtain ⟨s,hs,e⟩:=h1 id hx
  exact hn s hs e
 ·obtain ⟨s,hs,e2⟩:=h2 b hb
  exact hn s hs (e2.trans e)
theorem share_eq {n : Nat} {pours : List Int} {b c : S167} (hb : BarrowOk n pours b) (hc : BarrowOk n pours c) (hp : pours.Nodup) (q : Int) (h : sumOf q b.f3 / (b.f2 : Rat) = sumOf q c.f3 / (c.f2 : Rat)) : shareP b q = shareP c q :=
 val_inj (validP_ok (share_valid hb q)).1 (validP_ok (share_valid hc q)).1 (by rw [share_val hb hp,share_val hc hp,h])
theorem mixed_l0 {lA : List Int} {lB : List S84} {Y : Yd} (hp : playedP lA lB lB.length = .ok Y) (hs : calxlaw04_sanity.f = some true) {b1 b2 : S167} (h1 : b1 ∈ Y.barrows) (h2 : b2 ∈ Y.barrows) (he : ∀ q,sumOf q b1.f3 / (b1.f2 : Rat) = sumOf q b2.f3 / (b2.f2 : Rat)) :
  ∀ (m k j : Nat),j + m = Y.pours.length → m < k → calxlaw04_PitMixed.l0 k b1.f0 b2.f0 Y.pours (Y.pours.length : Int) (j : Int) lA lB = some true
|m,0,j,_,hd => by omega
|0,k + 1,j,hj,hd => by
  simp only [calxlaw04_PitMixed.l0]
  rw [if_neg (by omega),hs]
  rfl
|m + 1,k + 1,j,hj,hd => by
  have hw:=played_wf hp
  have hlen:=hw.npours
  have hl60:=(played_ok hp).2.1
  have hjl : j < Y.pours.length:=by omega
  simp only [calxlaw04_PitMixed.l0]
  rw [if_pos (by omega),if_pos (by omega),if_pos (by omega),rd_nat hjl]
  unfold pit_Share.f
  rw [shareE_ok hp (find_self hw.bnodup b1 h1) h1 (List.getElem_mem hjl),shareE_ok hp (find_self hw.bnodup b2 h2) h2 (List.getElem_mem hjl),share_eq (hw.barrows b1 h1) (hw.barrows b2 h2) hw.pours _ (he _)]
  simp only [Option.bind_some,if_true,beq_self_eq_true,Bool.not_true,Bool.or_self,Bool.false_eq_true,if_false]
  rw [wrap_in (by omega) (by omega),show ((j : Int) + 1) = ((j + 1 : Nat) : Int) by omega]
  exact mixed_l0 hp hs h1 h2 he m k (j + 1) (by omega) (by omega)
theorem mn_le (a b : Int) : mn a b ≤ a ∧ mn a b ≤ b ∧ (mn a b = a ∨ mn a b = b):=by unfold mn;split <;> omega
theorem lastD_rd : ∀ (l : List S84) (d : Int),0 < l.length → (rd_T84 l ((l.length : Int) - 1)).f2 = lastD d l
|[],_,h => by simp at h
|[s],d,_ => rfl
|s :: t :: r,d,_ => by
  have ih:=lastD_rd (t :: r) s.f2 (by simp)
  have e : ((s :: t :: r).length : Int) - 1 = (((t :: r).length : Nat) : Int):=by simp only [List.length_cons];omega
  have e2 : ((t :: r).length : Int) - 1 = ((r.length : Nat) : Int):=by simp only [List.length_cons];omega
  show (rd_T84 (s :: t :: r) _).f2 = lastD s.f2 (t :: r)
  rw [← ih,e,e2]
  unfold rd_T84
  rw [Int.toNat_natCast,Int.toNat_natCast]
  simp
theorem purePitMixed (lA : List Int) (_ : lA.length ≤ 9223372036854775807) (_ : ∀ x ∈ lA,W64 x) (lB : List S84) (_ : lB.length ≤ 9223372036854775807) (_ : ∀ x ∈ lB,Wf6 x) (a1 : Int) (w1 : (Lit.int .u8 a1).wf = true) (a2 : Int) (w2 : (Lit.int .u16 a2).wf = true) (a3 : Int) (w3 : (Lit.int .u16 a3).wf = true) :
  ∃ k,calxlaw04_PitMixed.f k lA lB a1 a2 a3 = some true:=by
 have ha : 0 ≤ a1 ∧ a1 ≤ 255:=by
  have h1 : IntKind.u8.min = 0:=rfl
  have h2 : IntKind.u8.max = 255:=rfl
  simp only [Lit.wf,Bool.and_eq_true,decide_eq_true_eq] at w1
  omega
 have u16 : ∀ x : Int,(Lit.int .u16 x).wf = true → 0 ≤ x ∧ x ≤ 65535:=by
  intro x hx
  have h1 : IntKind.u16.min = 0:=rfl
  have h2 : IntKind.u16.max = 65535:=rfl
  simp only [Lit.wf,Bool.and_eq_true,decide_eq_true_eq] at hx
  omega
 have hb:=u16 a2 w2
 have hc:=u16 a3 w3
 clear w1 w2 w3 u16
 have hs : calxlaw04_sanity.f = some true:=rfl
 have hf : ∃ t,calxlaw04_few.f lA lB = some t:=by unfold calxlaw04_few.f;split;(· split;exact ⟨_,rfl⟩;split <;> exact ⟨_,rfl⟩);exact ⟨_,rfl⟩
 obtain ⟨t,ht⟩:=hf
 obtain ⟨D,hD⟩ : ∃ D : Nat,D = 5000:=⟨_,rfl⟩
 refine ⟨(D + 1) + 1,?_⟩
 unfold calxlaw04_PitMixed.f
 rw [ht]
 simp only [Option.bind_some]
 have hj : calxlaw04_PitMixed.j0 ((D + 1) + 1) a1 a2 a3 true lA lB = some true:=by
  simp only [calxlaw04_PitMixed.j0,if_true,hs,Option.bind_some]
 cases t
 ·rw [if_neg (by simp)];exact hj
 rw [if_pos rfl]
 by_cases hz : (lA.length : Int) = 0
 ·rw [if_pos hz];exact hj
 rw [if_neg hz]
 by_cases h16 : (lB.length : Int) > 16
 ·rw [decide_eq_true h16];exact hj
 rw [decide_eq_false h16]
 simp only [calxlaw04_PitMixed.j0]
 rw [if_neg (by simp),if_neg hz,wrap_in (n:=a1) (by omega) (by omega),wrap_in (n:=a2) (by omega) (by omega),wrap_in (n:=a3) (by omega) (by omega),Int.tmod_eq_emod_of_nonneg ha.1]
 have g1:=Int.emod_nonneg a1 hz
 have g2:=Int.emod_lt_of_pos a1 (show 0 < (lA.length : Int) by omega)
 obtain ⟨at_,hat⟩ : ∃ at_,at_ = a1 % (lA.length : Int):=⟨_,rfl⟩
 rw [← hat] at g1 g2 ⊢
 unfold pit_Free.f freeE
 cases hp : playedP lA lB lB.length with
|error e =>
  have hx:=playedP_code hp
  simp only [Option.bind_some]
  rw [if_neg hx,hs]
  rfl
|ok Y =>
  have hw:=played_wf hp
  obtain ⟨c1,hl60,_,hrm⟩:=played_ok hp
  have hin : (inP at_ 0 ((lA.length : Int) - 1) && inP (lB.length : Int) 0 (lB.length : Int)) = true:=by
   unfold inP
   simp only [Bool.and_eq_true,decide_eq_true_eq]
   omega
  simp only [Option.bind_some]
  rw [if_pos hin,Int.toNat_natCast,hp]
  simp only [if_true]
  rw [if_pos g1,if_pos g2]
  have g3 : at_ < (Y.rooms.length : Int):=by rw [hrm];exact g2
  obtain ⟨p1,p2,p3,p4⟩:=hw.pitOk g1 g3
  have p5:=held_ge p1
  have p6 : roomP Y at_ = rd lA at_:=by unfold roomP rd;rw [hrm]
  obtain ⟨H,hH⟩ : ∃ H,H = heldP (pitP Y at_):=⟨_,rfl⟩
  rw [← hH] at p2 p5 ⊢
  rw [p6] at p2 p3
  have eH : rd lA at_ - (rd lA at_ - H) = H:=by omega
  rw [eH,wrap_in (n:=H) (by omega) (by omega)]
  by_cases h2 : H < 2
  ·rw [if_pos h2,hs];rfl
  rw [if_neg h2,wrap_in (n:=H - 1) (by omega) (by omega)]
  obtain ⟨m1,m2,m3⟩:=mn_le 1000 (H - 1)
  obtain ⟨M,hM⟩ : ∃ M,M = mn 1000 (H - 1):=⟨_,rfl⟩
  rw [← hM] at m1 m2 m3 ⊢
  rw [if_neg (by omega),Int.tmod_eq_emod_of_nonneg hb.1]
  have q1:=Int.emod_nonneg a2 (show M ≠ 0 by omega)
  have q2:=Int.emod_lt_of_pos a2 (show 0 < M by omega)
  rw [wrap_in (n:=1 + a2 % M) (by omega) (by omega)]
  obtain ⟨one,hone⟩ : ∃ one,one = 1 + a2 % M:=⟨_,rfl⟩
  rw [← hone,wrap_in (n:=H - one) (by omega) (by omega)]
  obtain ⟨r1,r2,r3⟩:=mn_le 1000 (H - one)
  obtain ⟨R,hR⟩ : ∃ R,R = mn 1000 (H - one):=⟨_,rfl⟩
  rw [← hR] at r1 r2 r3 ⊢
  rw [if_neg (by omega),Int.tmod_eq_emod_of_nonneg hc.1]
  have q3:=Int.emod_nonneg a3 (show R ≠ 0 by omega)
  have q4:=Int.emod_lt_of_pos a3 (show 0 < R by omega)
  rw [wrap_in (n:=1 + a3 % R) (by omega) (by omega)]
  obtain ⟨two,htwo⟩ : ∃ two,two = 1 + a3 % R:=⟨_,rfl⟩
  rw [← htwo]
  obtain ⟨first,f1,f2,f3,f4⟩:=fresh_at lA lB hl60 0 (by omega) (by omega) (e:=D + 1) (by omega)
  obtain ⟨second,s1,s2,s3,s4⟩:=fresh_at lA lB hl60 first (by omega) (by omega) (e:=D + 1) (by omega)
  rw [f1]
  simp only [Option.bind_some]
  rw [s1]
  simp only [Option.bind_some]
  -- the play of the pits,and of three more steps
  have hg:=hp
  unfold playedP at hg
  rw [if_pos c1,if_pos hl60,List.take_length] at hg
  obtain ⟨i1,i2,i3⟩:=go_info lB _ Y 0 0 (Int.le_refl 0) (by omega) hg
  have i2' : ∀ x ∈ Y.pours,∃ s ∈ lB,s.f0 = x:=fun x hx => (i2 x hx).resolve_left (by simp [emptyP])
  have i3' : ∀ b ∈ Y.barrows,∃ s ∈ lB,s.f0 = b.f0:=fun b hb => (i3 b hb).resolve_left (by simp [emptyP])
  have hn1:=unused_new i2' i3' f4
  have hn2:=unused_new i2' i3' s4
  have hk : ∀ day,day = lastD 0 lB → calxlaw04_PitMixed.j1 (D + 1) at_ one two first second day lA lB = some true:=by
   intro day hday
   simp only [calxlaw04_PitMixed.j1,Option.bind_some,List.nil_append]
   rw [if_pos (by simp only [List.length_nil];omega),if_pos (by simp only [List.length_cons,List.length_nil];omega)]
   have hmix:=mixed_go hw (by omega) (at_:=at_) (day:=day) (one:=one) (two:=two) (first:=first) (second:=second) g1 g3 (by rw [hday];exact i1) ⟨by omega,by omega⟩ ⟨by omega,by omega⟩ (by omega) ⟨by omega,by omega,by omega⟩ hn1 hn2
   obtain ⟨q,hq⟩ : ∃ q,q = lB ++ [(⟨0,3,day,at_,0,0⟩ : S84),⟨first,2,day,at_,0,one⟩,⟨second,2,day,at_,0,two⟩]:=⟨_,rfl⟩
   have hql : q.length ≤ 60:=by rw [hq];simp only [List.length_append,List.length_cons,List.length_nil];omega
   have hpq : playedP lA q q.length = goP Y day (lB.length : Int) [(⟨0,3,day,at_,0,0⟩ : S84),⟨first,2,day,at_,0,one⟩,⟨second,2,day,at_,0,two⟩]:=by
    unfold playedP
    rw [if_pos c1,if_pos hql,List.take_length,hq,go_append,hg]
    show goP Y (lastD 0 lB) (0 + (lB.length : Int)) _ = _
    rw [← hday,Int.zero_add]
   rw [← hq]
   unfold pit_Check.f
   rcases hmix with ⟨x,hx⟩|⟨Y',b1,b2,hY',hb1,hb2,e1,e2,he⟩
   ·rw [hpq,hx]
    simp only [codeOf,Option.bind_some]
    rw [if_neg (by simp),hs]
    rfl
   ·have hpY:=hpq.trans hY'
    rw [hpY]
    simp only [codeOf,Option.bind_some,if_true]
    unfold pit_Pours.f
    rw [hpY]
    simp only [idsE,Option.bind_some,if_true]
    rw [← e1,← e2]
    have hw':=played_wf hpY
    have:=hw'.npours
    exact mixed_l0 hpY hs hb1 hb2 he Y'.pours.length D 0 (by omega) (by omega)
  by_cases hlen : (lB.length : Int) > 0
  ·rw [if_pos hlen,wrap_in (n:=(lB.length : Int) - 1) (by omega) (by omega),if_pos (by omega),if_pos (by omega)]
   exact hk _ (lastD_rd lB 0 (by omega))
  ·rw [if_neg hlen]
   refine hk 0 ?_
   have : lB = []:=List.eq_nil_of_length_eq_zero (by omega)
   subst this
   rfl
end Go.Proofs.YtjjfpmapjjemcaaGreat.B
end
