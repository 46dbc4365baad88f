import Derived.Test.YtmfphlfakmnbmaaQ1
import Derived.Test.YtmfphlfakmnbmaaQ2
import Derived.Test.YtmfphlfakmnbmaaQ3
import Derived.Test.YtmfphlfakmnbmaaQ4
import Derived.Test.YtmfphlfakmnbmaaQ5
import Derived.Test.YtmfphlfakmnbmaaQ6
set_option linter.unusedVariables false
set_option linter.unusedSimpArgs false
section
namespace Go.Proofs.Ytmfphlfakmnbmaa.B
open Go.RowKit Go.Proofs.YtmfphlfakmnbmaaW.PrintWords Go.Proofs.YtmfphlfakmnbmaaW.PrintLast Go.Proofs.YtmfphlfakmnbmaaW.PrintMore
attribute [local go_sem] max2_int min2_int max_two min_two max_three min_three max_four min_four
def nodeOf (s : S190) : List Int:=[1,s.f0,s.f1,s.f2]
def sidesOk (a : Int) : S164 → List S129 → Prop
|_,[] => True
|t,y :: r => (y.f0 ≤ a ↔ ¬ y.f0 > t.f0) ∧ sidesOk a (joinT t y) r
theorem sides_append (a : Int) (y : S129) : ∀ (p : List S129) (t : S164),sidesOk a t p → (y.f0 ≤ a ↔ ¬ y.f0 > (p.foldl joinT t).f0) → sidesOk a t (p ++ [y])
|[],t,_,h => ⟨h,trivial⟩
|z :: p,t,h1,h => ⟨h1.1,sides_append a y p (joinT t z) h1.2 h⟩
theorem joinT_long (t : S164) (y : S129) : (joinT t y).f1 = wrap64 (t.f1 + y.f1):=by unfold joinT;split <;> rfl
theorem climb1_is {a d : Int} {t : S164} {y : S129} (h : y.f0 ≤ a ↔ ¬ y.f0 > t.f0) : nodeOf (climb1 a t.f1 d y) = joinN t d y:=by
 unfold climb1 joinN nodeOf
 by_cases hy : y.f0 ≤ a
 ·rw [if_pos hy,if_neg (h.1 hy)]
 ·rw [if_neg hy,if_pos (Classical.byContradiction fun hn => hy (h.2 hn))]
theorem climb_up (a : Int) : ∀ (p : List S129) (t : S164) (d : Int),sidesOk a t p → (climbFrom a p t.f1 d).map nodeOf = upFrom p t d
|[],_,_,_ => rfl
|y :: r,t,d,h => by
  have h1:=climb1_is (d:=d) h.1
  have ih:=climb_up a r (joinT t y) (dig (joinN t d y)) h.2
  rw [climbFrom,List.map_cons,upFrom,h1]
  rw [joinT_long] at ih
  have e : dig [1,(climb1 a t.f1 d y).f0,(climb1 a t.f1 d y).f1,(climb1 a t.f1 d y).f2] = dig (joinN t d y):=congrArg dig h1
  rw [e,ih]
theorem placed_sides (a : Nat) : ∀ (n g f : Nat),g ≤ n → g ≤ 64 → f + g ≤ 64 → f ≤ a → a < f + g → ∀ p : List S129,p.map placeOf = (outsF g f g a).reverse →
  sidesOk (a : Int) ⟨(a : Int),1⟩ p ∧ p.foldl joinT ⟨(a : Int),1⟩ = ⟨(f : Int),(g : Int)⟩:=by
 intro n
 induction n with
|zero => intro g f hg _ _ h1 h2;omega
|succ n ih =>
  intro g f hg hg64 hfg h1 h2 p hp
  by_cases hg1 : 1 < g
  ·have hb:=halfP_bounds (n:=g) (by omega) hg64
   obtain ⟨h,hh⟩ : ∃ h,h = halfP g:=⟨_,rfl⟩
   rw [← hh] at hb
   by_cases hin : a < f + h
   ·rw [outs_in hg1 hg64 hh hin,List.reverse_append] at hp
    obtain ⟨p',q,rfl,hp',hq⟩:=List.map_eq_append_iff.1 hp
    obtain ⟨y,rfl,hy⟩:=List.map_eq_singleton_iff.1 hq
    obtain ⟨i1,i2⟩:=ih h f (by omega) (by omega) (by omega) h1 hin p' hp'
    have y0 : y.f0 = (f : Int) + (h : Int):=congrArg S164.f0 hy
    have y1 : y.f1 = (g : Int) - (h : Int):=congrArg S164.f1 hy
    refine ⟨sides_append _ y p' _ i1 ?_,?_⟩
    ·rw [i2];dsimp only;constructor <;> intro <;> omega
    ·rw [List.foldl_append,i2,List.foldl_cons,List.foldl_nil]
     unfold joinT
     dsimp only
     rw [if_pos (by omega),y1,show wrap64 ((h : Int) + ((g : Int) - (h : Int))) = (g : Int) by unfold wrap64;omega]
   ·rw [outs_out hg1 hg64 hh hin,List.reverse_append] at hp
    obtain ⟨p',q,rfl,hp',hq⟩:=List.map_eq_append_iff.1 hp
    obtain ⟨y,rfl,hy⟩:=List.map_eq_singleton_iff.1 hq
    obtain ⟨i1,i2⟩:=ih (g - h) (f + h) (by omega) (by omega) (by omega) (by omega) (by omega) p' hp'
    have y0 : y.f0 = (f : Int):=congrArg S164.f0 hy
    have y1 : y.f1 = (h : Int):=congrArg S164.f1 hy
    refine ⟨sides_append _ y p' _ i1 ?_,?_⟩
    ·rw [i2];dsimp only;constructor <;> intro <;> omega
    ·rw [List.foldl_append,i2,List.foldl_cons,List.foldl_nil]
     unfold joinT
     dsimp only
     rw [if_neg (by omega),y0,y1,show wrap64 (((g - h : Nat) : Int) + (h : Int)) = (g : Int) by unfold wrap64;omega]
  ·obtain rfl : g = 1:=by omega
   obtain rfl : a = f:=by omega
   have : outsF 1 a 1 a = []:=by unfold outsF;rw [if_neg (by omega)]
   rw [this] at hp
   have : p = []:=List.map_eq_nil_iff.1 hp
   rw [this]
   exact ⟨trivial,rfl⟩
theorem climb_is {many a : Nat} (h64 : many ≤ 64) (ha : a < many) {p : List S129} (hp : placedP p (outsP many a).reverse = true) (d : Int) : (climbP p (a : Int) d).map nodeOf = upFrom p ⟨(a : Int),1⟩ d :=
 climb_up (a : Int) p ⟨(a : Int),1⟩ d (placed_sides a many many 0 (Nat.le_refl _) h64 (by omega) (by omega) (by omega) p (placed_iff.1 hp)).1
theorem placed_short2 {many a : Nat} (h64 : many ≤ 64) {p : List S129} (h : placedP p (outsP many a).reverse = true) : p.length ≤ 64:=by
 rw [placed_len h,List.length_reverse]
 unfold outsP
 have:=outsF_length many 0 many a
 omega
theorem nodeOf_at {T : List S190} {i : Nat} (h : i < T.length) : (T.map nodeOf).getD i [] = nodeOf T[i]:=by
 simp [List.getD_eq_getElem?_getD,List.getElem?_eq_getElem h]
theorem rd190_getElem {l : List S190} {i : Nat} (h : i < l.length) : rd_T190 l (i : Int) = l[i]:=by unfold rd_T190;simp [List.getD_eq_getElem?_getD,List.getElem?_eq_getElem h]
theorem ref_top_is {many a : Nat} (h64 : many ≤ 64) (ha : a < many) {p : List S129} (hp : placedP p (outsP many a).reverse = true) (x : S29) {k : Nat} (hk : 10 ≤ k) :
  calxref08_top.f k p (a : Int) (leafP x) = some (upTop (a : Int) x p).2:=by
 have hs:=placed_short2 h64 hp
 have hc:=climb_is h64 ha hp (leafP x)
 have hl : (climbP p (a : Int) (leafP x)).length = p.length:=by
  have:=congrArg List.length hc
  rwa [List.length_map,upFrom_length] at this
 have hlast:=up_last p ⟨(a : Int),1⟩ (leafP x) (nums5 x.f0 x.f1 x.f2 x.f3) rfl
 rw [upFrom_length,← hc] at hlast
 unfold calxref08_top.f calxref08_climb.f
 rw [if_pos (by omega),Option.bind_some]
 generalize climbP p (a : Int) (leafP x) = T at hl hlast ⊢
 cases hp0 : p.length with
|zero =>
  rw [if_pos (by omega)]
  rw [hp0] at hlast
  exact congrArg some hlast
|succ m =>
  have hm : m < T.length:=by omega
  have hw : wrap64 ((T.length : Int) - 1) = (m : Int):=by unfold wrap64;omega
  rw [if_neg (by omega),hw,if_pos (by omega),if_pos (by omega),rd190_getElem hm,ref_node_any hk,Option.bind_some]
  rw [hp0,List.getD_cons_succ,nodeOf_at hm] at hlast
  exact congrArg some hlast
theorem shaped_placed {many a : Nat} (h64 : many ≤ 64) {p : List S129} (l : List S29) : decide (p.map placeOf = (((outsF many 0 many a).reverse).map (rtwigP l)).map placeOf) = placedP p (outsP many a).reverse:=by
 rw [rtwig_place]
 rw [Bool.eq_iff_iff,decide_eq_true_eq,placed_iff]
 exact Iff.rfl
theorem ref_twigged2 {p : List S129} (hl : p.length ≤ 9223372036854775807) {k : Nat} (hk : p.length < k) : calxref08_twigged.f k p = some (digestsP p):=by
 have h : ∀ (d k i : Nat),i + d = p.length → d < k → calxref08_twigged.l0 k p (i : Int) = some (digestsP (p.drop i)):=by
  intro d
  induction d with
 |zero =>
   intro k i hi hk
   obtain ⟨k,rfl⟩ : ∃ m,k = m + 1:=⟨k - 1,by omega⟩
   simp only [calxref08_twigged.l0]
   rw [if_neg (by omega),List.drop_eq_nil_of_le (by omega)]
   rfl
 |succ d ih =>
   intro k i hi hk
   obtain ⟨k,rfl⟩ : ∃ m,k = m + 1:=⟨k - 1,by omega⟩
   have h1 : i < p.length:=by omega
   simp only [calxref08_twigged.l0]
   rw [if_pos (by omega),if_pos (by omega),ref_isDigest,Option.bind_some,rd129_getElem h1,show wrap64 ((i : Int) + 1) = ((i + 1 : Nat) : Int) by unfold wrap64;omega,ih k (i + 1) (by omega) (by omega),List.drop_eq_getElem_cons h1]
   unfold digestsP
   rw [List.all_cons]
   cases isDigP p[i].f2 <;> rfl
 unfold calxref08_twigged.f
 have:=h p.length k 0 (by omega) hk
 simpa using this
theorem ref_shaped2 {p q : List S129} (hl : p.length ≤ 9223372036854775807) {k : Nat} (hk : p.length < k) : calxref08_shaped.f k p q = some (decide (p.map placeOf = q.map placeOf)):=by
 have h : p.length = q.length → ∀ (d k i : Nat),i + d = p.length → d < k → calxref08_shaped.l0 k p q (i : Int) = some (decide ((p.drop i).map placeOf = (q.drop i).map placeOf)):=by
  intro hpq d
  induction d with
 |zero =>
   intro k i hi hk
   obtain ⟨k,rfl⟩ : ∃ m,k = m + 1:=⟨k - 1,by omega⟩
   simp only [calxref08_shaped.l0]
   rw [if_neg (by omega),List.drop_eq_nil_of_le (by omega),List.drop_eq_nil_of_le (by omega)]
   rfl
 |succ d ih =>
   intro k i hi hk
   obtain ⟨k,rfl⟩ : ∃ m,k = m + 1:=⟨k - 1,by omega⟩
   have h1 : i < p.length:=by omega
   have h2 : i < q.length:=by omega
   simp only [calxref08_shaped.l0]
   rw [if_pos (by omega),if_pos (by omega),if_pos (by omega),rd129_getElem h1,rd129_getElem h2,show wrap64 ((i : Int) + 1) = ((i + 1 : Nat) : Int) by unfold wrap64;omega,ih k (i + 1) (by omega) (by omega),List.drop_eq_getElem_cons h1,List.drop_eq_getElem_cons h2,List.map_cons,List.map_cons]
   by_cases e0 : p[i].f0 = q[i].f0
   ·rw [if_pos e0]
    by_cases e1 : p[i].f1 = q[i].f1
    ·rw [if_pos e1]
     have : placeOf p[i] = placeOf q[i]:=by unfold placeOf;rw [e0,e1]
     simp only [List.cons.injEq,this,true_and]
    ·rw [if_neg e1]
     have : placeOf p[i] ≠ placeOf q[i]:=fun e => e1 (congrArg S164.f1 e)
     simp only [List.cons.injEq,this,false_and,decide_false]
   ·rw [if_neg e0]
    have : placeOf p[i] ≠ placeOf q[i]:=fun e => e0 (congrArg S164.f0 e)
    simp only [List.cons.injEq,this,false_and,decide_false]
 unfold calxref08_shaped.f
 by_cases hpq : p.length = q.length
 ·rw [if_pos (by omega)]
  have:=h hpq p.length k 0 (by omega) hk
  simpa using this
 ·rw [if_neg (by omega)]
  have : p.map placeOf ≠ q.map placeOf:=fun e => hpq (by have:=congrArg List.length e;simpa using this)
  simp [this]
theorem ref_cs_is (r many a : Int) (x : S29) {p : List S129} (hl : p.length ≤ 9223372036854775807) {k : Nat} (hk : 1200 + p.length ≤ k) : calxref08_CheckStands.f k r many a x.f0 x.f1 x.f2 x.f3 p = some (csP r many a x p):=by
 obtain ⟨k,rfl⟩ : ∃ m,k = m + 1:=⟨k - 1,by omega⟩
 unfold calxref08_CheckStands.f csP
 have hj : calxref08_CheckStands.j0 (k + 1) r many a p true x.f0 x.f1 x.f2 x.f3 = some 1:=by
  simp only [calxref08_CheckStands.j0]
  rw [if_pos trivial]
 rw [ref_entry,Option.bind_some,ref_within,Option.bind_some,ref_within,Option.bind_some,ref_isDigest,Option.bind_some,ref_twigged2 hl (by omega),Option.bind_some]
 cases h1 : rightP x with
|false => rw [if_neg (by decide),hj,if_neg (fun h => by cases h.1)]
|true =>
  rw [if_pos rfl]
  by_cases h2 : 1 ≤ many ∧ many ≤ 64
  ·have hw : wrap64 (many - 1) = many - 1:=by unfold wrap64;omega
   rw [decide_eq_true h2,if_pos rfl,hw]
   by_cases h3 : 0 ≤ a ∧ a ≤ many - 1
   ·rw [decide_eq_true h3,if_pos rfl]
    cases h4 : isDigP r with
   |false => rw [if_neg (by decide),hj,if_neg (fun h => by cases h.2.2.2.1)]
   |true =>
     rw [if_pos rfl]
     cases h5 : digestsP p with
    |false => rw [show (!false) = true from rfl,hj,if_neg (fun h => by cases h.2.2.2.2)]
    |true =>
      rw [if_pos ⟨rfl,h2,h3,rfl,rfl⟩]
      simp only [calxref08_CheckStands.j0]
      rw [if_neg (by decide)]
      obtain ⟨m,rfl⟩:=Int.eq_ofNat_of_zero_le (show 0 ≤ many by omega)
      obtain ⟨b,rfl⟩:=Int.eq_ofNat_of_zero_le h3.1
      have hm64 : m ≤ 64:=by omega
      have hbm : b < m:=by omega
      rw [show calxref08_beside.f k [] 0 (m : Int) (b : Int) = some (((outsF m 0 m b).reverse).map (rtwigP [])) from beside_is [] (by decide) b m m 0 k (Nat.le_refl _) hm64 (by omega) (by omega),Option.bind_some,
       ref_shaped2 hl (by omega),Option.bind_some,shaped_placed hm64,Int.toNat_natCast,Int.toNat_natCast]
      unfold standsB
      cases h6 : placedP p (outsP m b).reverse with
     |false => rw [if_neg (by decide),if_neg (by simp)]
     |true =>
       have hleaf : calxref08_leaf.f k x.f0 x.f1 x.f2 x.f3 = some (leafP x):=at_rounds (g:=fun k => calxref08_leaf.f k x.f0 x.f1 x.f2 x.f3) (fun k => calxref08_leaf.mono _ _ _ _ k) (show 10 ≤ k by omega) (ref_leaf10 x)
       rw [if_pos rfl,hleaf,Option.bind_some,ref_top_is hm64 hbm h6 x (by omega),Option.bind_some,Bool.true_and]
       by_cases hr : (upTop (b : Int) x p).2 = r
       ·rw [if_pos hr,if_pos (beq_iff_eq.2 hr)]
       ·rw [if_neg hr,if_neg (fun h => hr (beq_iff_eq.1 h))]
   ·rw [decide_eq_false h3,if_neg (by decide),hj,if_neg (fun h => h3 h.2.2.1)]
  ·rw [decide_eq_false h2,if_neg (by decide),hj,if_neg (fun h => h2 h.2.1)]
theorem fixed_is {α : Type} {g : Nat → Option α} (hm : ∀ k,LeO (g k) (g (k + 1))) {k : Nat} {x y : α} (h1 : g k = some x) {k0 : Nat} (h2 : ∀ k,k0 ≤ k → g k = some y) : x = y:=by
 have h3:=at_rounds (g:=g) hm (Nat.le_max_left k k0) h1
 exact Option.some.inj (h3.symm.trans (h2 _ (Nat.le_max_right k k0)))
theorem ne190_bool (x y : S190) : (!(x.f0 == y.f0) || (!(x.f1 == y.f1) || (!(x.f2 == y.f2)))) = true ↔ nodeOf x ≠ nodeOf y:=by
 constructor
 ·intro h e
  simp only [nodeOf,List.cons.injEq] at e
  obtain ⟨_,e0,e1,e2,_⟩:=e
  simp [e0,e1,e2] at h
 ·intro h
  by_cases e0 : x.f0 = y.f0
  ·by_cases e1 : x.f1 = y.f1
   ·by_cases e2 : x.f2 = y.f2
    ·exact absurd (by unfold nodeOf;rw [e0,e1,e2]) h
    ·simp [e2]
   ·simp [e1]
  ·simp [e0]
theorem ne29_nums (x y : S29) : (!(x.f0 == y.f0) || (!(x.f1 == y.f1) || (!(x.f2 == y.f2) || (!(x.f3 == y.f3))))) = true ↔ nums5 x.f0 x.f1 x.f2 x.f3 ≠ nums5 y.f0 y.f1 y.f2 y.f3:=by
 constructor
 ·intro h e
  simp only [nums5,List.cons.injEq] at e
  obtain ⟨_,e0,e1,e2,e3,_⟩:=e
  simp [e0,e1,e2,e3] at h
 ·intro h
  by_cases e0 : x.f0 = y.f0
  ·by_cases e1 : x.f1 = y.f1
   ·by_cases e2 : x.f2 = y.f2
    ·by_cases e3 : x.f3 = y.f3
     ·exact absurd (by rw [e0,e1,e2,e3]) h
     ·simp [e3]
    ·simp [e2]
   ·simp [e1]
  ·simp [e0]
theorem gap_loop {T O : List S190} (hTO : T.length = O.length) (h1000 : T.length ≤ 1000) : ∀ (d k i : Nat),i + d = T.length → d + 12 ≤ k →
  calxref08_Gap.l0 k T O (i : Int) = some (gapRes (gapFind ((T.drop i).map nodeOf) ((O.drop i).map nodeOf))):=by
 intro d
 induction d with
|zero =>
  intro k i hi hk
  obtain ⟨k,rfl⟩ : ∃ m,k = m + 1:=⟨k - 1,by omega⟩
  simp only [calxref08_Gap.l0]
  rw [if_neg (by omega),List.drop_eq_nil_of_le (by omega)]
  rfl
|succ d ih =>
  intro k i hi hk
  obtain ⟨k,rfl⟩ : ∃ m,k = m + 1:=⟨k - 1,by omega⟩
  have h1 : i < T.length:=by omega
  have h2 : i < O.length:=by omega
  simp only [calxref08_Gap.l0]
  rw [if_pos (by omega),if_pos (by omega),if_pos (by omega),rd190_getElem h1,rd190_getElem h2,wrap_nat (by omega),ih k (i + 1) (by omega) (by omega),List.drop_eq_getElem_cons h1,List.drop_eq_getElem_cons h2,List.map_cons,List.map_cons,gapFind,
   ref_node_any (by omega),ref_node_any (by omega),Option.bind_some,Option.bind_some]
  by_cases hne : (!(T[i].f0 == O[i].f0) || (!(T[i].f1 == O[i].f1) || (!(T[i].f2 == O[i].f2)))) = true
  ·rw [if_pos hne]
   by_cases hd : dig [1,T[i].f0,T[i].f1,T[i].f2] = dig [1,O[i].f0,O[i].f1,O[i].f2]
   ·rw [if_pos hd,if_pos ⟨(ne190_bool _ _).1 hne,hd⟩]
    rfl
   ·rw [if_neg hd,if_neg (fun h => hd h.2)]
  ·rw [if_neg hne,if_neg (fun h => hne ((ne190_bool _ _).2 h.1))]
theorem ref_gap_is {l : List S29} {a : Int} {x : S29} {p : List S129} (hl : p.length ≤ 9223372036854775807) {k : Nat} (hk : 1500 + p.length ≤ k) : calxref08_Gap.f k l a x.f0 x.f1 x.f2 x.f3 p = some (gapAns l a x p):=by
 obtain ⟨k,rfl⟩ : ∃ m,k = m + 2:=⟨k - 2,by omega⟩
 unfold calxref08_Gap.f gapAns
 rw [ref_check l (by omega),Option.bind_some]
 by_cases hc : checkP l = 0
 ·have h64:=check_len hc
  rw [if_pos hc,if_neg (fun h => h hc)]
  have hw : wrap64 ((l.length : Int) - 1) = (l.length : Int) - 1:=by unfold wrap64;omega
  rw [ref_within,Option.bind_some,ref_entry,Option.bind_some,ref_twigged2 hl (by omega),Option.bind_some,hw]
  have hj : calxref08_Gap.j0 (k + 2) l a p true x.f0 x.f1 x.f2 x.f3 = some ([],[],false,1):=by
   simp only [calxref08_Gap.j0]
   rw [if_pos trivial]
  by_cases ha : 0 ≤ a ∧ a ≤ (l.length : Int) - 1
  ·rw [decide_eq_true ha,if_pos (show true = true from rfl),if_neg (show ¬ ¬ (0 ≤ a ∧ a ≤ (l.length : Int) - 1) from fun h => h ha)]
   cases hx : rightP x with
  |false => rw [if_neg (show ¬ (false = true) by decide),hj,if_pos (show false = false from rfl)]
  |true =>
    rw [if_pos (show true = true from rfl),if_neg (show ¬ (true = false) by decide)]
    cases hp : digestsP p with
   |false => rw [show (!false) = true from rfl,hj,if_pos (show false = false from rfl)]
   |true =>
     rw [if_neg (show ¬ (true = false) by decide)]
     obtain ⟨n,rfl⟩:=Int.eq_ofNat_of_zero_le ha.1
     have hn : n < l.length:=by omega
     simp only [calxref08_Gap.j0]
     rw [ref_root_is l h64,Option.bind_some,ref_cs_is (rootP l) (l.length : Int) (n : Int) x hl (show 1200 + p.length ≤ k + 1 by omega),Option.bind_some,Int.toNat_natCast]
     have hcs : csP (rootP l) (l.length : Int) (n : Int) x p = if standsB (rootP l) l.length n x p = true then 0 else 8:=by
      unfold csP
      rw [if_pos ⟨hx,by omega,by omega,root_isDig hc,hp⟩,Int.toNat_natCast,Int.toNat_natCast]
     rw [hcs]
     cases hs : standsB (rootP l) l.length n x p with
    |false => rw [if_neg (show ¬ (!true) = true by decide),if_neg (show ¬ ((if false = true then (0 : Int) else 8) = 0) by decide),if_pos (show false = false from rfl)]
    |true =>
      rw [if_neg (show ¬ (!true) = true by decide),if_pos (show (if true = true then (0 : Int) else 8) = 0 by decide),if_neg (show ¬ (true = false) by decide),if_pos (by omega),if_pos (by omega)]
      have hpl : placedP p (outsP l.length n).reverse = true:=by unfold standsB at hs;rw [Bool.and_eq_true] at hs;exact hs.1
      have hsh:=placed_short2 h64 hpl
      have hpl2 : placedP (standsP l n) (outsP l.length n).reverse = true:=own_placed l _
      have hsh2:=placed_short2 h64 hpl2
      have hrd : rd_T29 l (n : Int) = l.getD n z29:=rfl
      rw [hrd]
      obtain ⟨y,hy⟩ : ∃ y,y = l.getD n z29:=⟨_,rfl⟩
      rw [← hy]
      have hleaf : ∀ (z : S29) (k : Nat),10 ≤ k → calxref08_leaf.f k z.f0 z.f1 z.f2 z.f3 = some (leafP z):=fun z k hk => at_rounds (g:=fun k => calxref08_leaf.f k z.f0 z.f1 z.f2 z.f3) (fun k => calxref08_leaf.mono _ _ _ _ k) hk (ref_leaf10 z)
      have hloop : calxref08_Gap.j1 (k + 1) l (n : Int) p false x.f0 x.f1 x.f2 x.f3 = some (gapRes (gapFind (upFrom p ⟨(n : Int),1⟩ (leafP x)) (upFrom (standsP l n) ⟨(n : Int),1⟩ (leafP y)))):=by
       simp only [calxref08_Gap.j1]
       rw [if_neg (by decide),hleaf x k (by omega),Option.bind_some]
       unfold calxref08_climb.f
       rw [if_pos (by omega),Option.bind_some,beside_own l h64 n k (by omega),Option.bind_some,if_pos (by omega),if_pos (by omega),hrd,← hy,hleaf y k (by omega),Option.bind_some,if_pos (by omega),Option.bind_some]
       have e1:=climb_is h64 hn hpl (leafP x)
       have e2:=climb_is h64 hn hpl2 (leafP y)
       have g1:=congrArg List.length e1
       have g2:=congrArg List.length e2
       rw [List.length_map,upFrom_length] at g1 g2
       have g3 : p.length = (standsP l n).length:=by rw [placed_len hpl,placed_len hpl2]
       have:=gap_loop (T:=climbP p (n : Int) (leafP x)) (O:=climbP (standsP l n) (n : Int) (leafP y)) (by omega) (by omega) (climbP p (n : Int) (leafP x)).length k 0 (by omega) (by omega)
       rw [List.drop_zero,List.drop_zero,e1,e2] at this
       exact this
      have hup : gapFind (upP (n : Int) x p) (upP (n : Int) y (standsP l n)) = if nums5 x.f0 x.f1 x.f2 x.f3 ≠ nums5 y.f0 y.f1 y.f2 y.f3 ∧ leafP x = leafP y then some (nums5 x.f0 x.f1 x.f2 x.f3,nums5 y.f0 y.f1 y.f2 y.f3) else gapFind (upFrom p ⟨(n : Int),1⟩ (leafP x)) (upFrom (standsP l n) ⟨(n : Int),1⟩ (leafP y)):=by
       unfold upP
       rw [gapFind]
       rfl
      rw [hup]
      by_cases hne : (!(x.f0 == y.f0) || (!(x.f1 == y.f1) || (!(x.f2 == y.f2) || (!(x.f3 == y.f3))))) = true
      ·rw [if_pos hne,hleaf x (k + 1) (by omega),Option.bind_some,hleaf y (k + 1) (by omega),Option.bind_some]
       by_cases hd : leafP x = leafP y
       ·rw [if_pos ⟨(ne29_nums x y).1 hne,hd⟩,beq_iff_eq.2 hd]
        simp only [calxref08_Gap.j1]
        rw [if_pos trivial]
        unfold calxref08_parts.f
        rw [Option.bind_some,if_pos (by omega),if_pos (by omega),Option.bind_some,hrd,← hy]
        rfl
       ·rw [if_neg (fun h => hd h.2),beq_eq_false_iff_ne.2 hd]
        exact hloop
      ·rw [if_neg hne,if_neg (fun h => hne ((ne29_nums x y).2 h.1))]
       exact hloop
  ·rw [decide_eq_false ha,if_neg (show ¬ (false = true) by decide),hj,if_pos (show ¬ (0 ≤ a ∧ a ≤ (l.length : Int) - 1) from ha)]
 ·rw [if_neg hc,if_pos hc]
def stA (l : List S29) (a : Int) : List S129 × Int:=if checkP l = 0 then (if 0 ≤ a ∧ a ≤ (l.length : Int) - 1 then (standsP l a.toNat,0) else ([],1)) else ([],checkP l)
theorem stA_len (l : List S29) (a : Int) : (stA l a).1.length ≤ 64:=by
 unfold stA
 by_cases hc : checkP l = 0
 ·rw [if_pos hc]
  by_cases ha : 0 ≤ a ∧ a ≤ (l.length : Int) - 1
  ·rw [if_pos ha]
   exact placed_short2 (check_len hc) (own_placed l (outsP l.length a.toNat).reverse)
  ·rw [if_neg ha];exact Nat.zero_le _
 ·rw [if_neg hc];exact Nat.zero_le _
theorem book_Stands_is (l : List S29) (a : Int) {k : Nat} (hk : 300 ≤ k) : book_Stands.f k l a = some (stA l a):=by
 unfold stA
 by_cases hc : checkP l = 0
 ·have h64:=check_len hc
  rw [if_pos hc]
  by_cases ha : 0 ≤ a ∧ a ≤ (l.length : Int) - 1
  ·obtain ⟨n,rfl⟩:=Int.eq_ofNat_of_zero_le ha.1
   rw [if_pos ha,Int.toNat_natCast]
   exact Stands_own hc (by omega) hk
  ·rw [if_neg ha]
   unfold book_Stands.f book_Check.f
   rw [Option.bind_some,if_pos hc,within_some,Option.bind_some,show wrap64 ((l.length : Int) - 1) = (l.length : Int) - 1 by unfold wrap64;omega,decide_eq_false ha,if_neg (by decide)]
 ·rw [if_neg hc]
  unfold book_Stands.f book_Check.f
  rw [Option.bind_some,if_neg hc]
theorem ref_Stands_is (l : List S29) (a : Int) {k : Nat} (hk : 300 ≤ k) : calxref08_Stands.f k l a = some (stA l a):=by
 unfold stA calxref08_Stands.f
 rw [ref_check l (by omega),Option.bind_some]
 by_cases hc : checkP l = 0
 ·have h64:=check_len hc
  rw [if_pos hc,if_pos hc,ref_within,Option.bind_some,show wrap64 ((l.length : Int) - 1) = (l.length : Int) - 1 by unfold wrap64;omega]
  by_cases ha : 0 ≤ a ∧ a ≤ (l.length : Int) - 1
  ·obtain ⟨n,rfl⟩:=Int.eq_ofNat_of_zero_le ha.1
   rw [decide_eq_true ha,if_pos rfl,if_pos ha,beside_own l h64 n k (by omega),Option.bind_some,Int.toNat_natCast]
  ·rw [decide_eq_false ha,if_neg (show ¬ (false = true) by decide),if_neg ha]
 ·rw [if_neg hc,if_neg hc]
theorem upP_len5 (a : Int) (x : S29) (p : List S129) : ∀ n ∈ upP a x p,n.length ≤ 5:=by
 intro n h
 unfold upP at h
 rcases List.mem_cons.1 h with rfl|h
 ·exact Nat.le_refl 5
 ·exact up_short p _ _ n h
theorem gapAns_len (l : List S29) (a : Int) (x : S29) (p : List S129) : (gapAns l a x p).1.length ≤ 12 ∧ (gapAns l a x p).2.1.length ≤ 12:=by
 unfold gapAns
 repeat' split
 all_goals first|exact ⟨Nat.zero_le _,Nat.zero_le _⟩|skip
 cases hg : gapFind (upP a x p) (upP a (l.getD a.toNat z29) (standsP l a.toNat)) with
|none => exact ⟨Nat.zero_le _,Nat.zero_le _⟩
|some nm =>
  obtain ⟨n,m⟩:=nm
  obtain ⟨h1,h2,_,_⟩:=gapFind_spec _ _ n m hg
  have g1:=upP_len5 _ _ _ n h1
  have g2:=upP_len5 _ _ _ m h2
  show n.length ≤ 12 ∧ m.length ≤ 12
  omega
theorem same_ints_own {a : List Int} (h12 : a.length ≤ 12) {k : Nat} (hk : 90 ≤ k) : calxref08_SameInts.f k a a = some true:=by
 refine at_rounds (g:=fun k => calxref08_SameInts.f k a a) (fun k => calxref08_SameInts.mono _ _ k) (show 89 ≤ k by omega) ?_
 show calxref08_SameInts.f 89 a a = some true
 unfold calxref08_SameInts.f
 rw [if_pos rfl,same_ints2 rfl h12,decide_eq_true rfl]
theorem ref_Root_any2 (l : List S29) {k : Nat} (hk : 100 ≤ k) : calxref08_Root.f k l = some (rootA l) :=
 at_rounds (g:=fun k => calxref08_Root.f k l) (fun k => calxref08_Root.mono _ k) hk (ref_Root_is l)
def calxlaw08_short.f (l0 : List (S129)) : Option (Bool):=some (decide ((l0.length : Int) ≤ 40))
set_option maxHeartbeats 8000000 in
set_option maxRecDepth 100000 in
theorem calxlaw08_short.calls (A0 : Option Addr) (c0 : Nat) (l0 : List (S129)) (r : Bool) (w : World) (hr0 : Kd.C k129 w A0 l0.length l0) (hc0 : l0.length ≤ c0) (h : calxlaw08_short.f l0 = some r) :
  Calls Try.prog 71 #[.slice A0 l0.length c0] w fun e w' => e = .returned (.bool r) ∧ Drawn0 w w':=by
 have HR0:=am hr0
 have HC0:=am hc0
 clear hr0 hc0
 have H : (some (decide ((l0.length : Int) ≤ 40))) = some r:=h
 clear h
 obtain rfl:=Option.some.inj H
 go_enter Try.func71,Try.ntmps71
 go_wp2
 go_ret
 exact ⟨ve,by repeat (first|exact Drawn0.refl _|apply Drawn0.step)⟩
theorem gaps_same {k : Nat} {l : List S29} {a x0 x1 x2 x3 : Int} {p : List S129} (hl : p.length ≤ 9223372036854775807) {u v : List Int × List Int × Bool × Int} (h1 : book_Gap.f l a x0 x1 x2 x3 p = some u) (h2 : calxref08_Gap.f k l a x0 x1 x2 x3 p = some v) : u = v ∧ u.1.length ≤ 12 ∧ u.2.1.length ≤ 12:=by
 have e1 : u = gapAns l a ⟨x0,x1,x2,x3⟩ p:=(Option.some.inj h1).symm
 have e2 : v = gapAns l a ⟨x0,x1,x2,x3⟩ p:=fixed_is (g:=fun k => calxref08_Gap.f k l a x0 x1 x2 x3 p) (fun k => calxref08_Gap.mono _ _ _ _ _ _ _ k) h2 (fun k hk => ref_gap_is (x:=⟨x0,x1,x2,x3⟩) hl hk)
 rw [e1,e2]
 exact ⟨rfl,gapAns_len _ _ _ _⟩
theorem stands_same {k : Nat} {l : List S29} {a : Int} {u v : List S129 × Int} (h1 : book_Stands.f k l a = some u) (h2 : calxref08_Stands.f k l a = some v) : u = v ∧ u.1.length ≤ 64:=by
 have e1 : u = stA l a:=fixed_is (g:=fun k => book_Stands.f k l a) (fun k => book_Stands.mono _ _ k) h1 (fun k hk => book_Stands_is l a hk)
 have e2 : v = stA l a:=fixed_is (g:=fun k => calxref08_Stands.f k l a) (fun k => calxref08_Stands.mono _ _ k) h2 (fun k hk => ref_Stands_is l a hk)
 rw [e1,e2]
 exact ⟨rfl,stA_len l a⟩
theorem css_same {k : Nat} {r many a x0 x1 x2 x3 : Int} {p : List S129} (hl : p.length ≤ 9223372036854775807) {t s : Int} (h1 : book_CheckStands.f k r many a x0 x1 x2 x3 p = some t) (h2 : calxref08_CheckStands.f k r many a x0 x1 x2 x3 p = some s) : t = s:=by
 have e1 : t = csP r many a ⟨x0,x1,x2,x3⟩ p:=by
  cases k with
 |zero =>
   refine fixed_is (g:=fun k => book_CheckStands.f k r many a x0 x1 x2 x3 p) (fun k => book_CheckStands.mono _ _ _ _ _ _ _ _ k) h1 (k0:=1) (fun k hk => ?_)
   obtain ⟨k,rfl⟩ : ∃ m,k = m + 1:=⟨k - 1,by omega⟩
   exact cs_is r many a ⟨x0,x1,x2,x3⟩ p k
 |succ k => exact (Option.some.inj ((cs_is r many a ⟨x0,x1,x2,x3⟩ p k).symm.trans h1)).symm
 have e2 : s = csP r many a ⟨x0,x1,x2,x3⟩ p:=fixed_is (g:=fun k => calxref08_CheckStands.f k r many a x0 x1 x2 x3 p) (fun k => calxref08_CheckStands.mono _ _ _ _ _ _ _ _ k) h2 (fun k hk => ref_cs_is r many a ⟨x0,x1,x2,x3⟩ hl hk)
 rw [e1,e2]
theorem ints_true {k : Nat} {a b : List Int} {t : Bool} (he : a = b) (h12 : a.length ≤ 12) (h : calxref08_SameInts.f k a b = some t) : t = true:=by
 subst he
 exact fixed_is (g:=fun k => calxref08_SameInts.f k a a) (fun k => calxref08_SameInts.mono _ _ k) h (fun k hk => same_ints_own h12 hk)
mutual
def calxlaw08_BookStands.j0 : Nat → List (S29) → Int → Int → Int → List (S129) → Bool → Int → Int → Int → Int → Option (Bool)
|0,_,_,_,_,_,_,_,_,_,_ => none
|k + 1,x0,x1,x3,x4,x5,x29,x102000,x102001,x102002,x102003 => if x29 = true then ((calxlaw08_sanity.f).bind fun t104 => (some t104)) else ((book_Stands.f k x0 x1).bind fun bt105 => ((calxref08_Stands.f k x0 x1).bind fun bt109 => ((calxref08_SameTwigs.f k bt105.1 bt109.1).bind fun t114 => (if t114 = true then (if bt105.2 = bt109.2 then ((book_CheckStands.f k x3 x4 x1 x102000 x102001 x102002 x102003 x5).bind fun t115 => ((calxref08_CheckStands.f k x3 x4 x1 x102000 x102001 x102002 x102003 x5).bind fun t116 => (calxlaw08_BookStands.j1 k x0 x1 x5 (t115 != t116) x102000 x102001 x102002 x102003 bt109.1 bt109.2))) else (calxlaw08_BookStands.j1 k x0 x1 x5 true x102000 x102001 x102002 x102003 bt109.1 bt109.2)) else (calxlaw08_BookStands.j1 k x0 x1 x5 true x102000 x102001 x102002 x102003 bt109.1 bt109.2)))))
def calxlaw08_BookStands.j1 : Nat → List (S29) → Int → List (S129) → Bool → Int → Int → Int → Int → List (S129) → Int → Option (Bool)
|0,_,_,_,_,_,_,_,_,_,_ => none
|k + 1,x0,x1,x5,x65,x102000,x102001,x102002,x102003,x114000,x114001 => if x65 = true then (some false) else ((calxref08_Root.f k x0).bind fun bt117 => ((book_CheckStands.f k bt117.1 (x0.length : Int) x1 x102000 x102001 x102002 x102003 x5).bind fun t119 => ((calxref08_CheckStands.f k bt117.1 (x0.length : Int) x1 x102000 x102001 x102002 x102003 x5).bind fun t120 => (if t119 = t120 then ((book_CheckStands.f k bt117.1 (x0.length : Int) x1 x102000 x102001 x102002 x102003 x114000).bind fun t121 => ((calxref08_CheckStands.f k bt117.1 (x0.length : Int) x1 x102000 x102001 x102002 x102003 x114000).bind fun t122 => (calxlaw08_BookStands.j2 k x0 x1 x5 (t121 != t122) x102000 x102001 x102002 x102003))) else (calxlaw08_BookStands.j2 k x0 x1 x5 true x102000 x102001 x102002 x102003)))))
def calxlaw08_BookStands.j2 : Nat → List (S29) → Int → List (S129) → Bool → Int → Int → Int → Int → Option (Bool)
|0,_,_,_,_,_,_,_,_ => none
|k + 1,x0,x1,x5,x104,x102000,x102001,x102002,x102003 => if x104 = true then (some false) else ((book_Gap.f x0 x1 x102000 x102001 x102002 x102003 x5).bind fun bt123 => ((calxref08_Gap.f k x0 x1 x102000 x102001 x102002 x102003 x5).bind fun bt132 => ((calxlaw08_sanity.f).bind fun t141 => (if t141 = true then ((calxref08_SameInts.f k bt123.1 bt132.1).bind fun t142 => (if t142 = true then ((calxref08_SameInts.f k bt123.2.1 bt132.2.1).bind fun t143 => (if t143 = true then (if (bt123.2.2.1 == bt132.2.2.1) = true then (some (bt123.2.2.2 == bt132.2.2.2)) else (some false)) else (some false))) else (some false))) else (some false)))))
end
def calxlaw08_BookStands.f (k : Nat) (l0 : List (S29)) (a1 : Int) (a2_0 : Int) (a2_1 : Int) (a2_2 : Int) (a2_3 : Int) (a3 : Int) (a4 : Int) (l5 : List (S129)) : Option (Bool):=(calxlaw08_few.f l0).bind fun t102 => (if t102 = true then ((calxlaw08_short.f l5).bind fun t103 => (calxlaw08_BookStands.j0 k l0 a1 a3 a4 l5 (!t103) a2_0 a2_1 a2_2 a2_3)) else (calxlaw08_BookStands.j0 k l0 a1 a3 a4 l5 true a2_0 a2_1 a2_2 a2_3))
def calxlaw08_BookStands.T5 : Bool × List (List Nat × List Nat):=(true,[([],[]),([],[]),([1],[1]),([0,2],[0,2]),([3],[3]),([4,3],[4]),([5],[5]),([5],[5]),([7,5],[5,7]),([6,8,5],[5,6,8]),([5,9],[5,9]),([10,5],[10]),([11],[11]),([11],[11]),([11],[11]),([11],[11]),([11],[11]),([12,13,14,15,16,11,11],[11,12,13,14,15,16]),([11],[11]),([11],[11]),([11],[11]),([11],[11]),([11],[11]),([18,19,20,21,22,17,11],[11,18,19,20,21,22]),([17,23,11],[11,17,23]),([11,24],[11,24])])
def calxlaw08_BookStands.B5 : List Nat:=[0,0,2,7,15,31,63,63,191,511,1023,2047,4095,4095,4095,4095,4095,131071,4095,4095,4095,4095,4095,8388607,16777215,33554431]
theorem calxlaw08_BookStands.tab5 : rtab .any (opsOf Try.f18 5) = calxlaw08_BookStands.T5:=by kernel_rfl
theorem calxlaw08_BookStands.bits5 : waitsOk calxlaw08_BookStands.T5.2 calxlaw08_BookStands.B5 = true:=by kernel_rfl
def calxlaw08_BookStands.T8 : Bool × List (List Nat × List Nat):=(true,[([],[]),([],[]),([1],[1]),([],[]),([],[]),([],[]),([0,2,3,4,5],[0,2,3,4,5]),([],[]),([],[]),([8],[8]),([],[]),([],[]),([],[]),([7,9,10,11,12,6],[7,9,10,11,12]),([6,13],[6,13]),([14,13],[14]),([15],[15]),([15],[15]),([17,15],[15,17]),([15],[15]),([15],[15]),([15],[15]),([21,15],[15,21]),([16,18,19,20,22,15,15],[15,16,18,19,20,22]),([15],[15]),([15],[15]),([25,15],[15,25]),([15],[15]),([15],[15]),([15],[15]),([29,15],[15,29]),([24,26,27,28,30,23,15],[15,24,26,27,28,30]),([23,31,15],[15,23,31]),([15,32],[15,32])])
def calxlaw08_BookStands.B8 : List Nat:=[0,0,2,0,0,0,63,0,0,256,0,0,0,8191,16383,32767,65535,65535,196607,65535,65535,65535,2162687,8388607,65535,65535,33619967,65535,65535,65535,536936447,2147483647,4294967295,8589934591]
theorem calxlaw08_BookStands.tab8 : rtab .any (opsOf Try.f18 8) = calxlaw08_BookStands.T8:=by kernel_rfl
theorem calxlaw08_BookStands.bits8 : waitsOk calxlaw08_BookStands.T8.2 calxlaw08_BookStands.B8 = true:=by kernel_rfl
set_option maxHeartbeats 8000000 in
set_option maxRecDepth 100000 in
theorem calxlaw08_BookStands.calls (k : Nat) (A0 : Option Addr) (c0 : Nat) (l0 : List (S29)) (a1 : Int) (a2_0 : Int) (a2_1 : Int) (a2_2 : Int) (a2_3 : Int) (a3 : Int) (a4 : Int) (A5 : Option Addr) (c5 : Nat) (l5 : List (S129)) (r : Bool) (w : World) (hr0 : Kd.C k29 w A0 l0.length l0) (hc0 : l0.length ≤ c0) (hr5 : Kd.C k129 w A5 l5.length l5) (hc5 : l5.length ≤ c5) (h : calxlaw08_BookStands.f k l0 a1 a2_0 a2_1 a2_2 a2_3 a3 a4 l5 = some r) :
  Calls Try.prog 18 #[.slice A0 l0.length c0,.int .i64 a1,.agg #[.int .i64 a2_0,.int .i64 a2_1,.int .i64 a2_2,.int .i64 a2_3],.int .i64 a3,.int .i64 a4,.slice A5 l5.length c5] w fun e w' => e = .returned (.bool r) ∧ Below w.heap.size w w':=by
 have hu29:=Try.underlying29
 have hu111:=Try.underlying111
 have hu67:=Try.underlying67
 have hu118:=Try.underlying118
 have HR0:=am hr0
 have HC0:=am hc0
 clear hr0 hc0
 have HR5:=am hr5
 have HC5:=am hc5
 clear hr5 hc5
 have HB:=am (Below.refl w.heap.size w)
 have H : ((calxlaw08_few.f l0).bind fun t102 => (if t102 = true then ((calxlaw08_short.f l5).bind fun t103 => (calxlaw08_BookStands.j0 k l0 a1 a3 a4 l5 (!t103) a2_0 a2_1 a2_2 a2_3)) else (calxlaw08_BookStands.j0 k l0 a1 a3 a4 l5 true a2_0 a2_1 a2_2 a2_3))) = some r:=h
 clear h
 have HC7:=am H
 clear H
 go_enter Try.func18,Try.ntmps18
 go_upto_region 1 with (first|((with_reducible refine gate_dst (N:=8) rfl ?_);(try (refine gate_guard (by rfl) ?_;dsimp only));refine box_event ?hg (N:=8) ?hd (cs:=#[.int .i64 a2_0,.int .i64 a2_1,.int .i64 a2_2,.int .i64 a2_3]) (t:=29) ?hr ?_;(case hd => rfl);(case hg => rfl);(case hr => first|(go_simp;done)|(go_simp;rfl));intro gb101 hg w8 hbox hb;have n0_:=am (below_step (v0 HB.out) hb);have n1_:=am (hbox);have n2_:=am ((by rw [hg];exact (below_size (v0 HB.out)) : w.heap.size ≤ gb101));have n3_:=am ((by rw [hg];exact (below_size (v0 HB.out)) : w.heap.size ≤ gb101));clear HB;have HB:=n0_;have BK101:=n1_;have GW101:=n2_;have GE101:=n3_;clear n0_ n1_ n2_ n3_;clear hb hbox hg))
 (try simp only [Act.put,List.setIfInBounds_toArray,List.set_cons_zero,List.set_cons_succ])
 go_cut [29] (fun v29 wc => ∃ (kq : Nat) (x29_6 : Bool),v29 = .bool x29_6 ∧ Aside0 (calxlaw08_BookStands.j0 kq l0 a1 a3 a4 l5 x29_6 a2_0 a2_1 a2_2 a2_3 = some r) ∧ Aside0 (kq ≤ k) ∧ Aside0 (wc.heap[gb101]? = some (.cells #[.int .i64 a2_0,.int .i64 a2_1,.int .i64 a2_2,.int .i64 a2_3] 29 (0,0))) ∧ Aside0 (Below w.heap.size w wc))
 case first =>
  have H:=HC7.out
  clear HC7
  replace H:=Option.bind_eq_some_iff.mp H
  obtain ⟨t102,A90,H⟩:=H
  replace H : (if t102 = true then ((calxlaw08_short.f l5).bind fun t103 => (calxlaw08_BookStands.j0 k l0 a1 a3 a4 l5 (!t103) a2_0 a2_1 a2_2 a2_3)) else (calxlaw08_BookStands.j0 k l0 a1 a3 a4 l5 true a2_0 a2_1 a2_2 a2_3)) = some r:=H
  have A9:=am A90
  clear A90
  by_cases c10 : t102 = true
  ·subst c10
   rw [if_pos rfl] at H
   replace H:=Option.bind_eq_some_iff.mp H
   obtain ⟨t103,A110,H⟩:=H
   replace H : (calxlaw08_BookStands.j0 k l0 a1 a3 a4 l5 (!t103) a2_0 a2_1 a2_2 a2_3) = some r:=H
   have A11:=am A110
   clear A110
   have H':=am H
   clear H
   go_wp2_with (first|((with_reducible refine gate_callee (f:=27) rfl ?_);refine goesL_ (some 23) rfl rfl Try.func27 kr rfl #[.slice A0 l0.length c0] rfl (by (try simp only [List.map_toArray,List.map_cons,List.map_nil]);first|done|rfl|(simp only [List.length_drop,List.length_take];rfl)) ?_;(with_reducible refine (calxlaw08_few.calls _ _ l0 true _ ?side1 ?side2 A9.out).mono ?_);(case side1 => repeat (first|exact (Kd.C_below HR0.out HB.out)|(with_reducible refine Kd.C_alloc ?_ _)|(with_reducible refine Kd.C_drewN ?_ _)|(with_reducible refine Kd.C_drew ?_)));(case side2 => exact HC0.out);rintro e w' ⟨rfl,⟨nd,rfl⟩⟩;refine ⟨_,rfl,?_⟩)|(go_at_call 71;(with_reducible refine (calxlaw08_short.calls _ _ l5 t103 _ ?side1 ?side2 A11.out).mono ?_);(case side1 => repeat (first|exact (Kd.C_below HR5.out (v1 HB.out GE101.out))|(with_reducible refine Kd.C_alloc ?_ _)|(with_reducible refine Kd.C_drewN ?_ _)|(with_reducible refine Kd.C_drew ?_)));(case side2 => exact HC5.out);rintro e w' ⟨rfl,⟨nd,rfl⟩⟩))
   go_meet
   case rel => exact ⟨_,(!t103),ve,H',⟨by first|omega|exact Nat.le_refl _⟩,⟨vb BK101.out⟩,⟨v1 HB.out GE101.out⟩⟩
  ·replace c10:=Bool.eq_false_iff.mpr c10
   subst c10
   rw [if_neg (show ¬ (false = true) by decide)] at H
   have H':=am H
   clear H
   go_wp2_with (first|((with_reducible refine gate_callee (f:=27) rfl ?_);refine goesL_ (some 23) rfl rfl Try.func27 kr rfl #[.slice A0 l0.length c0] rfl (by (try simp only [List.map_toArray,List.map_cons,List.map_nil]);first|done|rfl|(simp only [List.length_drop,List.length_take];rfl)) ?_;(with_reducible refine (calxlaw08_few.calls _ _ l0 false _ ?side1 ?side2 A9.out).mono ?_);(case side1 => repeat (first|exact (Kd.C_below HR0.out HB.out)|(with_reducible refine Kd.C_alloc ?_ _)|(with_reducible refine Kd.C_drewN ?_ _)|(with_reducible refine Kd.C_drew ?_)));(case side2 => exact HC0.out);rintro e w' ⟨rfl,⟨nd,rfl⟩⟩;refine ⟨_,rfl,?_⟩))
   go_meet
   case rel => exact ⟨_,(true),ve,H',⟨by first|omega|exact Nat.le_refl _⟩,⟨vb BK101.out⟩,⟨v1 HB.out GE101.out⟩⟩
 case rest =>
  clear HC7
  obtain ⟨kq,x29_6,rfl,HA,HJ6,BK101,HB⟩:=hcut
  cases kq with
 |zero => exact absurd HA.out (by simp [calxlaw08_BookStands.j0])
 |succ kj6 =>
   have H:=HA.out
   clear HA
   simp only [calxlaw08_BookStands.j0] at H
   by_cases c12 : x29_6 = true
   ·subst c12
    rw [if_pos rfl] at H
    replace H:=Option.bind_eq_some_iff.mp H
    obtain ⟨t104,A130,H⟩:=H
    replace H : (some t104) = some r:=H
    have A13:=am A130
    clear A130
    obtain rfl:=Option.some.inj H
    go_wp2_with (first|((with_reducible refine gate_callee (f:=22) rfl ?_);refine goesL_ (some 30) rfl rfl Try.func22 kr rfl #[] rfl (by (try simp only [List.map_toArray,List.map_cons,List.map_nil]);first|done|rfl|(simp only [List.length_drop,List.length_take];rfl)) ?_;(with_reducible refine (calxlaw08_sanity.calls  t104 _ A13.out).mono ?_);rintro e w14 ⟨rfl,hb⟩;refine ⟨_,rfl,?_⟩;have n0_:=am (blk_below (g:=gb101) (o:=.cells #[.int .i64 a2_0,.int .i64 a2_1,.int .i64 a2_2,.int .i64 a2_3] 29 (0,0)) (vb BK101.out) hb);have n1_:=am (below_step (v1 HB.out GE101.out) hb);clear BK101;clear HB;have BK101:=n0_;have HB:=n1_;clear n0_ n1_;(try clear hb);(try clear hb2);(try clear hk);(try clear hi)))
    go_ret
    exact ⟨vf,v1 HB.out GE101.out⟩
   ·replace c12:=Bool.eq_false_iff.mpr c12
    subst c12
    rw [if_neg (show ¬ (false = true) by decide)] at H
    replace H:=Option.bind_eq_some_iff.mp H
    obtain ⟨⟨t105,t106⟩,A150,H⟩:=H
    dsimp only at H
    have A15:=am A150
    clear A150
    replace H:=Option.bind_eq_some_iff.mp H
    obtain ⟨⟨t109,t112⟩,A160,H⟩:=H
    dsimp only at H
    have A16:=am A160
    clear A160
    have HC17:=am H
    clear H
    go_upto_region 5 with (first|((with_reducible refine gate_callee (f:=53) rfl ?_);refine goesL_ (some 34) rfl rfl Try.func53 kr rfl #[.slice A0 l0.length c0,.int .i64 a1] rfl (by (try simp only [List.map_toArray,List.map_cons,List.map_nil]);first|done|rfl|(simp only [List.length_drop,List.length_take];rfl)) ?_;(with_reducible refine (book_Stands.calls kj6 _ _ l0 a1 t105 t106 _ ?side1 ?side2 A15.out).mono ?_);(case side1 => repeat (first|exact (Kd.C_below HR0.out HB.out)|(with_reducible refine Kd.C_alloc ?_ _)|(with_reducible refine Kd.C_drewN ?_ _)|(with_reducible refine Kd.C_drew ?_)));(case side2 => exact HC0.out);rintro e w18 ⟨v107,rfl,ho0,hb⟩;refine ⟨_,rfl,?_⟩;have n0_:=am (Kd.R_lower ho0 (below_size (v1 HB.out GE101.out)));have n1_:=am (blk_below (g:=gb101) (o:=.cells #[.int .i64 a2_0,.int .i64 a2_1,.int .i64 a2_2,.int .i64 a2_3] 29 (0,0)) (vb BK101.out) hb);have n2_:=am (below_step (v1 HB.out GE101.out) hb);clear BK101;clear HB;have HO108:=n0_;have BK101:=n1_;have HB:=n2_;clear n0_ n1_ n2_;(try clear hb);(try clear hb2);(try clear hk);(try clear hi);(try clear ho0))|((with_reducible refine gate_callee (f:=74) rfl ?_);refine goesL_ (some 39) rfl rfl Try.func74 kr rfl #[.slice A0 l0.length c0,.int .i64 a1] rfl (by (try simp only [List.map_toArray,List.map_cons,List.map_nil]);first|done|rfl|(simp only [List.length_drop,List.length_take];rfl)) ?_;(with_reducible refine (calxref08_Stands.calls kj6 _ _ l0 a1 t109 t112 _ ?side1 ?side2 A16.out).mono ?_);(case side1 => repeat (first|exact (Kd.C_below HR0.out HB.out)|(with_reducible refine Kd.C_alloc ?_ _)|(with_reducible refine Kd.C_drewN ?_ _)|(with_reducible refine Kd.C_drew ?_)));(case side2 => exact HC0.out);rintro e w19 ⟨v110,rfl,ho0,hb⟩;refine ⟨_,rfl,?_⟩;have n0_:=am (Kd.R_elder' (by (with_reducible repeat (first|apply Kd.R_alloc|apply Kd.R_drewN|apply Kd.R_drew));exact HO108.out) (Kd.R_base ho0) hb);have n1_:=am (Kd.R_lower (Kd.R_new' ho0 (Kd.R_lt (by (with_reducible repeat (first|apply Kd.R_alloc|apply Kd.R_drewN|apply Kd.R_drew));exact HO108.out))) (below_size (v1 HB.out GE101.out)));have n2_:=am (blk_below (g:=gb101) (o:=.cells #[.int .i64 a2_0,.int .i64 a2_1,.int .i64 a2_2,.int .i64 a2_3] 29 (0,0)) (vb BK101.out) hb);have n3_:=am (below_step (v1 HB.out GE101.out) hb);clear HO108;clear BK101;clear HB;have HO108:=n0_;have HO111:=n1_;have BK101:=n2_;have HB:=n3_;clear n0_ n1_ n2_ n3_;(try clear hb);(try clear hb2);(try clear hk);(try clear hi);(try clear ho0))|((with_reducible refine gate_dst (N:=15) rfl ?_);(try (refine gate_guard (by rfl) ?_;dsimp only));refine box_event ?hg (N:=15) ?hd (cs:=#[.slice none 0 0,.int .i64 0]) (t:=111) ?hr ?_;(case hd => rfl);(case hg => rfl);(case hr => first|(go_simp;done)|(go_simp;rfl));intro gb113 hg w20 hbox hb;have n0_:=am (Kd.R_below (by (with_reducible repeat (first|apply Kd.R_alloc|apply Kd.R_drewN|apply Kd.R_drew));exact HO108.out) hb);have n1_:=am (Kd.R_below (by (with_reducible repeat (first|apply Kd.R_alloc|apply Kd.R_drewN|apply Kd.R_drew));exact HO111.out) hb);have n2_:=am (blk_below (g:=gb101) (o:=.cells #[.int .i64 a2_0,.int .i64 a2_1,.int .i64 a2_2,.int .i64 a2_3] 29 (0,0)) (vb BK101.out) hb);have n3_:=am (below_step (v1 HB.out GE101.out) hb);have n4_:=am (hbox);have n5_:=am ((by rw [hg];exact (below_size (v1 HB.out GE101.out)) : w.heap.size ≤ gb113));have n6_:=am ((by rw [hg];exact (below_size (v1 HB.out GE101.out)) : w.heap.size ≤ gb113));have n7_:=am ((by rw [hg];exact Nat.ne_of_lt (blk_lt (g:=gb101) (o:=.cells #[.int .i64 a2_0,.int .i64 a2_1,.int .i64 a2_2,.int .i64 a2_3] 29 (0,0)) (vb BK101.out)) : gb101 ≠ gb113));have n8_:=am ((by rw [hg];exact Nat.ne_of_gt (blk_lt (g:=gb101) (o:=.cells #[.int .i64 a2_0,.int .i64 a2_1,.int .i64 a2_2,.int .i64 a2_3] 29 (0,0)) (vb BK101.out)) : gb113 ≠ gb101));clear HO108;clear HO111;clear BK101;clear HB;have HO108:=n0_;have HO111:=n1_;have BK101:=n2_;have HB:=n3_;have BK113:=n4_;have GW113:=n5_;have GE113:=n6_;have NB101_113:=n7_;have NB113_101:=n8_;clear n0_ n1_ n2_ n3_ n4_ n5_ n6_ n7_ n8_;clear hb hbox hg;obtain ⟨Ao21,co21,eo21⟩:=Kd.R_slice HO111.out;subst eo21;have hnb22:=NB113_101.out;have hnc22:=NB101_113.out;have hcz23_0 : w20.cell? ⟨gb113,0,none⟩ = some (.slice none 0 0):=(blk_cell BK113.out 0).trans rfl;have hcz23_1 : w20.cell? ⟨gb113,1,none⟩ = some (.int .i64 0):=(blk_cell BK113.out 1).trans rfl;have hfz23_0:=blk_frozen BK113.out 0;have hfz23_1:=blk_frozen BK113.out 1))
    (try simp only [Act.put,List.setIfInBounds_toArray,List.set_cons_zero,List.set_cons_succ])
    go_cut [65] (fun v65 wc => ∃ (kq : Nat) (x65_16 : Bool),v65 = .bool x65_16 ∧ Aside0 (calxlaw08_BookStands.j1 kq l0 a1 l5 x65_16 a2_0 a2_1 a2_2 a2_3 t109 t112 = some r) ∧ Aside0 (kq ≤ kj6) ∧ Aside0 (Kd.R k129 129 wc w.heap.size (fun _ => True) (.slice Ao21 t109.length co21) t109) ∧ Aside0 (wc.heap[gb101]? = some (.cells #[.int .i64 a2_0,.int .i64 a2_1,.int .i64 a2_2,.int .i64 a2_3] 29 (0,0))) ∧ Aside0 (wc.heap[gb113]? = some (.cells #[(.slice Ao21 t109.length co21),.int .i64 t112] 111 (0,0))) ∧ Aside0 (Below w.heap.size w wc))
    case first =>
     have H:=HC17.out
     clear HC17
     replace H:=Option.bind_eq_some_iff.mp H
     obtain ⟨t114,A240,H⟩:=H
     replace H : (if t114 = true then (if t106 = t112 then ((book_CheckStands.f kj6 a3 a4 a1 a2_0 a2_1 a2_2 a2_3 l5).bind fun t115 => ((calxref08_CheckStands.f kj6 a3 a4 a1 a2_0 a2_1 a2_2 a2_3 l5).bind fun t116 => (calxlaw08_BookStands.j1 kj6 l0 a1 l5 (t115 != t116) a2_0 a2_1 a2_2 a2_3 t109 t112))) else (calxlaw08_BookStands.j1 kj6 l0 a1 l5 true a2_0 a2_1 a2_2 a2_3 t109 t112)) else (calxlaw08_BookStands.j1 kj6 l0 a1 l5 true a2_0 a2_1 a2_2 a2_3 t109 t112)) = some r:=H
     have A24:=am A240
     clear A240
     have e_:=stands_same A15.out A16.out
     simp only [Prod.mk.injEq] at e_
     obtain ⟨⟨e1_,e2_⟩,e3_⟩:=e_
     have E1:=am e1_
     have E2:=am e2_
     have E3:=am e3_
     clear e1_ e2_ e3_
     by_cases c25 : t114 = true
     ·subst c25
      rw [if_pos rfl] at H
      by_cases c26 : t106 = t112
      ·rw [if_pos c26] at H
       have c26b0 : (t106 == t112) = true:=beq_iff_eq.mpr c26
       have c26b1 : (t106 != t112) = false:=bne_eq_false_iff_eq.mpr c26
       clear c26
       (first|rw [c26b0]|(simp only [i64_w,i32_w];rw [c26b0])|skip)
       replace H:=Option.bind_eq_some_iff.mp H
       obtain ⟨t115,A270,H⟩:=H
       replace H : ((calxref08_CheckStands.f kj6 a3 a4 a1 a2_0 a2_1 a2_2 a2_3 l5).bind fun t116 => (calxlaw08_BookStands.j1 kj6 l0 a1 l5 (t115 != t116) a2_0 a2_1 a2_2 a2_3 t109 t112)) = some r:=H
       have A27:=am A270
       clear A270
       replace H:=Option.bind_eq_some_iff.mp H
       obtain ⟨t116,A280,H⟩:=H
       replace H : (calxlaw08_BookStands.j1 kj6 l0 a1 l5 (t115 != t116) a2_0 a2_1 a2_2 a2_3 t109 t112) = some r:=H
       have A28:=am A280
       clear A280
       have H':=am H
       clear H
       try go_wp2
       have n0_ : Aside0 (Kd.R k129 129 ((w20.setCell ⟨gb113,0,none⟩ (.slice Ao21 t109.length co21)).setCell ⟨gb113,1,none⟩ (.int .i64 t112)) w.heap.size (fun k_ => some k_ ≠ (.slice Ao21 t109.length co21 : Value).ownBlock) v107 t105):=⟨by (with_reducible repeat (first|apply Kd.R_alloc|apply Kd.R_drewN|apply Kd.R_drew));exact Kd.R_mono (Kd.R_far (p:=⟨gb113,1,none⟩) (Kd.R_far (p:=⟨gb113,0,none⟩) (Kd.R_types HO108.out BK113.out (by decide)) (fun _ hk => hk.2) (.slice Ao21 t109.length co21)) (fun _ hk => hk.2) (.int .i64 t112)) (fun _ hk => hk.1.2)⟩
       have n1_ : Aside0 (Kd.R k129 129 ((w20.setCell ⟨gb113,0,none⟩ (.slice Ao21 t109.length co21)).setCell ⟨gb113,1,none⟩ (.int .i64 t112)) w.heap.size (fun k_ => some k_ ≠ (v107 : Value).ownBlock) (.slice Ao21 t109.length co21) t109):=⟨by (with_reducible repeat (first|apply Kd.R_alloc|apply Kd.R_drewN|apply Kd.R_drew));exact Kd.R_mono (Kd.R_far (p:=⟨gb113,1,none⟩) (Kd.R_far (p:=⟨gb113,0,none⟩) (Kd.R_types HO111.out BK113.out (by decide)) (fun _ hk => hk.2) (.slice Ao21 t109.length co21)) (fun _ hk => hk.2) (.int .i64 t112)) (fun _ hk => hk.1.2)⟩
       have n2_ : Aside0 (((w20.setCell ⟨gb113,0,none⟩ (.slice Ao21 t109.length co21)).setCell ⟨gb113,1,none⟩ (.int .i64 t112)).heap[gb101]? = some (.cells #[.int .i64 a2_0,.int .i64 a2_1,.int .i64 a2_2,.int .i64 a2_3] 29 (0,0))):=⟨by (with_reducible repeat (first|refine blk_drewN ?_ _|refine blk_drew ?_|refine blk_alloc ?_ _));refine blk_far ?_ NB101_113.out _;(with_reducible repeat (first|refine blk_drewN ?_ _|refine blk_drew ?_|refine blk_alloc ?_ _));refine blk_far ?_ NB101_113.out _;(with_reducible repeat (first|refine blk_drewN ?_ _|refine blk_drew ?_|refine blk_alloc ?_ _));exact BK101.out⟩
       have n3_ : Aside0 (((w20.setCell ⟨gb113,0,none⟩ (.slice Ao21 t109.length co21)).setCell ⟨gb113,1,none⟩ (.int .i64 t112)).heap[gb113]? = some (.cells #[.slice Ao21 t109.length co21,.int .i64 t112] 111 (0,0))):=⟨by (with_reducible repeat (first|refine blk_drewN ?_ _|refine blk_drew ?_|refine blk_alloc ?_ _));refine blk_put (cs:=#[.slice Ao21 t109.length co21,.int .i64 0]) ?_ 1 _ rfl;(with_reducible repeat (first|refine blk_drewN ?_ _|refine blk_drew ?_|refine blk_alloc ?_ _));refine blk_put (cs:=#[.slice none 0 0,.int .i64 0]) ?_ 0 _ rfl;(with_reducible repeat (first|refine blk_drewN ?_ _|refine blk_drew ?_|refine blk_alloc ?_ _));exact BK113.out⟩
       have n4_ : Aside0 (Below w.heap.size w ((w20.setCell ⟨gb113,0,none⟩ (.slice Ao21 t109.length co21)).setCell ⟨gb113,1,none⟩ (.int .i64 t112))):=⟨v2 HB.out GE101.out GE113.out⟩
       (try clear HO108)
       (try clear HO111)
       (try clear BK101)
       (try clear BK113)
       (try clear HB)
       generalize ((w20.setCell ⟨gb113,0,none⟩ (.slice Ao21 t109.length co21)).setCell ⟨gb113,1,none⟩ (.int .i64 t112)) = w29 at n0_ n1_ n2_ n3_ n4_ ⊢
       have HO108:=n0_
       have HO111:=n1_
       have BK101:=n2_
       have BK113:=n3_
       have HB:=n4_
       clear n0_ n1_ n2_ n3_ n4_
       have n0_:=am (Kd.R_drew HO108.out)
       have n1_:=am (Kd.R_drew HO111.out)
       have n2_:=am (blk_drew BK101.out)
       have n3_:=am (blk_drew BK113.out)
       have n4_:=am (below_drew1 HB.out)
       clear HO108
       clear HO111
       clear BK101
       clear BK113
       clear HB
       have HO108:=n0_
       have HO111:=n1_
       have BK101:=n2_
       have BK113:=n3_
       have HB:=n4_
       clear n0_ n1_ n2_ n3_ n4_
       obtain ⟨Ao31,co31,eo31⟩:=Kd.R_slice HO108.out
       (first|subst eo31|(injection eo31 with f1_ f2_ f3_;have f4_:=f1_.symm;have f5_:=f3_.symm;clear f1_ f2_ f3_;subst f4_;subst f5_))
       refine start_ (n:=26) (S:=fun w' => w'.cell? ⟨gb113,0,none⟩ = some (.slice Ao21 t109.length co21) ∧ w'.cell? ⟨gb113,1,none⟩ = some (.int .i64 t112) ∧ w'.cell? ⟨gb101,0,none⟩ = some (.int .i64 a2_0) ∧ w'.cell? ⟨gb101,1,none⟩ = some (.int .i64 a2_1) ∧ w'.cell? ⟨gb101,2,none⟩ = some (.int .i64 a2_2) ∧ w'.cell? ⟨gb101,3,none⟩ = some (.int .i64 a2_3)) (ds:=[]) #[false,false,false,false,false,false,false,false,false,false,false,false,false,false,false,false,false,false,false,false,false,false,false,false,false,false] kr rfl rfl ⟨(blk_cell BK113.out 0).trans rfl,(blk_cell BK113.out 1).trans rfl,(blk_cell BK101.out 0).trans rfl,(blk_cell BK101.out 1).trans rfl,(blk_cell BK101.out 2).trans rfl,(blk_cell BK101.out 3).trans rfl⟩ (fun hHeld => ?_);refine with_tabW calxlaw08_BookStands.tab5 calxlaw08_BookStands.bits5 (fun HT_ HW_ => ?_)
       generalize w29.drew = w30 at HO108 HO111 BK101 BK113 HB hHeld ⊢
       refine pure_ (i:=0) (N:=some 40) (v:=?_) (a':=?_) #[true,false,false,false,false,false,false,false,false,false,false,false,false,false,false,false,false,false,false,false,false,false,false,false,false,false] rfl rfl (any_of HT_.out kr) (fun _ _ _ h => h) (Or.inl ⟨by rfl,?_⟩) ?_ ?_
       rotate_left
       ·intro w'
        go_simp
        with_reducible rfl
       rotate_left
       ·exact vs
       refine pure_ (i:=1) (N:=some 41) (v:=?_) (a':=?_) #[true,true,false,false,false,false,false,false,false,false,false,false,false,false,false,false,false,false,false,false,false,false,false,false,false,false] rfl rfl (any_of HT_.out kr) (fun _ _ _ h => h) (Or.inl ⟨by rfl,?_⟩) ?_ ?_
       rotate_left
       ·intro w'
        go_simp
        with_reducible rfl
       rotate_left
       ·exact vs
       refine take_ (i:=2) (N:=some 42) (v:=?_) (a':=?_) #[true,true,true,false,false,false,false,false,false,false,false,false,false,false,false,false,false,false,false,false,false,false,false,false,false,false] rfl rfl (take_ofW HT_.out HW_.out kr) (fun _ _ _ h => h) (Or.inl ⟨by rfl,?_⟩) hHeld ?_ ?_
       rotate_left
       ·rintro w' ⟨s0,s1,s2,s3,s4,s5⟩
        go_simp
        with_reducible rfl
       rotate_left
       ·exact vs
       refine one_ (i:=3) (N:=some 43) #[true,true,true,true,false,false,false,false,false,false,false,false,false,false,false,false,false,false,false,false,false,false,false,false,false,false] rfl rfl (one_of HT_.out kr) (by decide) (fun K hK => ?_)
       refine goes_ Try.func70 kr rfl #[.slice Ao31 t105.length co31,.slice Ao21 t109.length co21] (by rfl) rfl rfl (by (try simp only [List.map_toArray,List.map_cons,List.map_nil]);first|done|rfl|(simp only [List.length_drop,List.length_take];rfl)) ?_
       with_reducible refine (calxref08_SameTwigs.calls kj6 _ _ t105 _ _ t109 true _ ?side1 ?side2 ?side3 ?side4 A24.out).mono ?_
       (case side1 => repeat (first|exact (Kd.R_reads' HO108.out).2.2|(with_reducible refine Kd.C_alloc ?_ _)|(with_reducible refine Kd.C_drewN ?_ _)|(with_reducible refine Kd.C_drew ?_)))
       (case side2 => exact (Kd.R_reads' HO108.out).2.1)
       (case side3 => repeat (first|exact (Kd.R_reads' HO111.out).2.2|(with_reducible refine Kd.C_alloc ?_ _)|(with_reducible refine Kd.C_drewN ?_ _)|(with_reducible refine Kd.C_drew ?_)))
       (case side4 => exact (Kd.R_reads' HO111.out).2.1)
       rintro e w' ⟨rfl,⟨nd,rfl⟩⟩
       refine ⟨_,rfl,?_⟩
       refine hK.out _ _ ⟨(blk_cell BK113.out 0).trans rfl,(blk_cell BK113.out 1).trans rfl,(blk_cell BK101.out 0).trans rfl,(blk_cell BK101.out 1).trans rfl,(blk_cell BK101.out 2).trans rfl,(blk_cell BK101.out 3).trans rfl⟩ (fun hHeld => ?_)
       clear hK K
       refine norm_ (a':=?_) ?_ ?_
       rotate_left
       ·show Act.put _ (some 43) _ = _
        simp only [Act.put,List.setIfInBounds_toArray,List.set_cons_zero,List.set_cons_succ,i64_w,i32_w]
        rfl
       refine pure_ (i:=4) (N:=some 44) (v:=?_) (a':=?_) #[true,true,true,true,true,false,false,false,false,false,false,false,false,false,false,false,false,false,false,false,false,false,false,false,false,false] rfl rfl (any_of HT_.out kr) (fun _ _ _ h => h) (Or.inl ⟨by rfl,?_⟩) ?_ ?_
       rotate_left
       ·intro w'
        go_simp
        with_reducible rfl
       rotate_left
       ·exact vs
       refine pure_ (i:=5) (N:=some 45) (v:=?_) (a':=?_) #[true,true,true,true,true,true,false,false,false,false,false,false,false,false,false,false,false,false,false,false,false,false,false,false,false,false] rfl rfl (any_of HT_.out kr) (fun _ _ _ h => h) (Or.inl ⟨by rfl,?_⟩) ?_ ?_
       rotate_left
       ·intro w'
        go_simp
        with_reducible rfl
       rotate_left
       ·exact vs
       refine pure_ (i:=6) (N:=some 46) (v:=?_) (a':=?_) #[true,true,true,true,true,true,true,false,false,false,false,false,false,false,false,false,false,false,false,false,false,false,false,false,false,false] rfl rfl (any_of HT_.out kr) (fun _ _ _ h => h) (Or.inl ⟨by rfl,?_⟩) ?_ ?_
       rotate_left
       ·intro w'
        go_simp
        with_reducible rfl
       rotate_left
       ·exact vs
       refine pure_ (i:=7) (N:=some 47) (v:=?_) (a':=?_) #[true,true,true,true,true,true,true,true,false,false,false,false,false,false,false,false,false,false,false,false,false,false,false,false,false,false] rfl rfl (any_of HT_.out kr) (fun _ _ _ h => h) (Or.inl ⟨by rfl,?_⟩) ?_ ?_
       rotate_left
       ·intro w'
        go_simp
        with_reducible rfl
       rotate_left
       ·exact vs
       refine take_ (i:=8) (N:=some 48) (v:=?_) (a':=?_) #[true,true,true,true,true,true,true,true,true,false,false,false,false,false,false,false,false,false,false,false,false,false,false,false,false,false] rfl rfl (take_ofW HT_.out HW_.out kr) (fun _ _ _ h => h) (Or.inl ⟨by rfl,?_⟩) hHeld ?_ ?_
       rotate_left
       ·rintro w' ⟨s0,s1,s2,s3,s4,s5⟩
        go_simp
        with_reducible rfl
       rotate_left
       ·exact vs
       refine pure_ (i:=9) (N:=some 49) (v:=?_) (a':=?_) #[true,true,true,true,true,true,true,true,true,true,false,false,false,false,false,false,false,false,false,false,false,false,false,false,false,false] rfl rfl (any_of HT_.out kr) (fun _ _ _ h => h) (Or.inl ⟨by rfl,?_⟩) ?_ ?_
       rotate_left
       ·intro w'
        go_simp
        with_reducible rfl
       rotate_left
       ·exact vs
       refine pure_ (i:=10) (N:=some 50) (v:=?_) (a':=?_) #[true,true,true,true,true,true,true,true,true,true,true,false,false,false,false,false,false,false,false,false,false,false,false,false,false,false] rfl rfl (any_of HT_.out kr) (fun _ _ _ h => h) (Or.inl ⟨by rfl,?_⟩) ?_ ?_
       rotate_left
       ·intro w'
        go_simp
        with_reducible rfl
       rotate_left
       ·exact vs
       refine pure_ (i:=11) (N:=some 51) (v:=?_) (a':=?_) #[true,true,true,true,true,true,true,true,true,true,true,true,false,false,false,false,false,false,false,false,false,false,false,false,false,false] rfl rfl (any_of HT_.out kr) (fun _ _ _ h => h) (Or.inl ⟨by rfl,?_⟩) ?_ ?_
       rotate_left
       ·intro w'
        go_simp
        with_reducible rfl
       rotate_left
       ·exact vs
       refine pure_ (i:=12) (N:=some 52) (v:=?_) (a':=?_) #[true,true,true,true,true,true,true,true,true,true,true,true,true,false,false,false,false,false,false,false,false,false,false,false,false,false] rfl rfl (any_of HT_.out kr) (fun _ _ _ h => h) (Or.inl ⟨by rfl,?_⟩) ?_ ?_
       rotate_left
       ·intro w'
        go_simp
        with_reducible rfl
       rotate_left
       ·exact vs
       refine pure_ (i:=13) (N:=some 53) (v:=?_) (a':=?_) #[true,true,true,true,true,true,true,true,true,true,true,true,true,true,false,false,false,false,false,false,false,false,false,false,false,false] rfl rfl (any_of HT_.out kr) (fun _ _ _ h => h) (Or.inl ⟨by rfl,?_⟩) ?_ ?_
       rotate_left
       ·intro w'
        go_simp
        with_reducible rfl
       rotate_left
       ·exact vs
       refine pure_ (i:=14) (N:=some 54) (v:=?_) (a':=?_) #[true,true,true,true,true,true,true,true,true,true,true,true,true,true,true,false,false,false,false,false,false,false,false,false,false,false] rfl rfl (any_of HT_.out kr) (fun _ _ _ h => h) (Or.inl ⟨by rfl,?_⟩) ?_ ?_
       rotate_left
       ·intro w'
        go_simp
        with_reducible rfl
       rotate_left
       ·exact vs
       refine pure_ (i:=16) (N:=some 56) (v:=?_) (a':=?_) #[true,true,true,true,true,true,true,true,true,true,true,true,true,true,true,false,true,false,false,false,false,false,false,false,false,false] rfl rfl (any_of HT_.out kr) (fun _ _ _ h => h) (Or.inl ⟨by rfl,?_⟩) ?_ ?_
       rotate_left
       ·intro w'
        go_simp
        with_reducible rfl
       rotate_left
       ·exact vs
       refine pure_ (i:=18) (N:=some 58) (v:=?_) (a':=?_) #[true,true,true,true,true,true,true,true,true,true,true,true,true,true,true,false,true,false,true,false,false,false,false,false,false,false] rfl rfl (any_of HT_.out kr) (fun _ _ _ h => h) (Or.inl ⟨by rfl,?_⟩) ?_ ?_
       rotate_left
       ·intro w'
        go_simp
        with_reducible rfl
       rotate_left
       ·exact vs
       refine pure_ (i:=19) (N:=some 59) (v:=?_) (a':=?_) #[true,true,true,true,true,true,true,true,true,true,true,true,true,true,true,false,true,false,true,true,false,false,false,false,false,false] rfl rfl (any_of HT_.out kr) (fun _ _ _ h => h) (Or.inl ⟨by rfl,?_⟩) ?_ ?_
       rotate_left
       ·intro w'
        go_simp
        with_reducible rfl
       rotate_left
       ·exact vs
       refine pure_ (i:=20) (N:=some 60) (v:=?_) (a':=?_) #[true,true,true,true,true,true,true,true,true,true,true,true,true,true,true,false,true,false,true,true,true,false,false,false,false,false] rfl rfl (any_of HT_.out kr) (fun _ _ _ h => h) (Or.inl ⟨by rfl,?_⟩) ?_ ?_
       rotate_left
       ·intro w'
        go_simp
        with_reducible rfl
       rotate_left
       ·exact vs
       refine pure_ (i:=22) (N:=some 62) (v:=?_) (a':=?_) #[true,true,true,true,true,true,true,true,true,true,true,true,true,true,true,false,true,false,true,true,true,false,true,false,false,false] rfl rfl (any_of HT_.out kr) (fun _ _ _ h => h) (Or.inl ⟨by rfl,?_⟩) ?_ ?_
       rotate_left
       ·intro w'
        go_simp
        with_reducible rfl
       rotate_left
       ·exact vs
       refine take_ (i:=15) (N:=some 55) (v:=?_) (a':=?_) #[true,true,true,true,true,true,true,true,true,true,true,true,true,true,true,true,true,false,true,true,true,false,true,false,false,false] rfl rfl (take_ofW HT_.out HW_.out kr) (fun _ _ _ h => h) (Or.inl ⟨by rfl,?_⟩) hHeld ?_ ?_
       rotate_left
       ·rintro w' ⟨s0,s1,s2,s3,s4,s5⟩
        go_simp
        with_reducible rfl
       rotate_left
       ·exact vs
       refine take_ (i:=21) (N:=some 61) (v:=?_) (a':=?_) #[true,true,true,true,true,true,true,true,true,true,true,true,true,true,true,true,true,false,true,true,true,true,true,false,false,false] rfl rfl (take_ofW HT_.out HW_.out kr) (fun _ _ _ h => h) (Or.inl ⟨by rfl,?_⟩) hHeld ?_ ?_
       rotate_left
       ·rintro w' ⟨s0,s1,s2,s3,s4,s5⟩
        go_simp
        with_reducible rfl
       rotate_left
       ·exact vs
       refine one_ (i:=17) (N:=some 57) #[true,true,true,true,true,true,true,true,true,true,true,true,true,true,true,true,true,true,true,true,true,true,true,false,false,false] rfl rfl (one_of HT_.out kr) (by decide) (fun K hK => ?_)
       refine goes_ Try.func54 kr rfl #[.int .i64 a3,.int .i64 a4,.int .i64 a1,.agg #[.int .i64 a2_0,.int .i64 a2_1,.int .i64 a2_2,.int .i64 a2_3],.slice A5 l5.length c5] (by rfl) rfl rfl (by (try simp only [List.map_toArray,List.map_cons,List.map_nil]);first|done|rfl|(simp only [List.length_drop,List.length_take];rfl)) ?_
       with_reducible refine (book_CheckStands.calls kj6 a3 a4 a1 a2_0 a2_1 a2_2 a2_3 _ _ l5 t115 _ ?side1 ?side2 A27.out).mono ?_
       (case side1 => repeat (first|exact (Kd.C_below HR5.out (v2 HB.out GE101.out GE113.out))|(with_reducible refine Kd.C_alloc ?_ _)|(with_reducible refine Kd.C_drewN ?_ _)|(with_reducible refine Kd.C_drew ?_)))
       (case side2 => exact HC5.out)
       rintro e w32 ⟨rfl,hb⟩
       refine ⟨_,rfl,?_⟩
       have n0_:=am (Kd.R_below (by (with_reducible repeat (first|apply Kd.R_alloc|apply Kd.R_drewN|apply Kd.R_drew));exact HO108.out) hb)
       have n1_:=am (Kd.R_below (by (with_reducible repeat (first|apply Kd.R_alloc|apply Kd.R_drewN|apply Kd.R_drew));exact HO111.out) hb)
       have n2_:=am (blk_below (g:=gb101) (o:=.cells #[.int .i64 a2_0,.int .i64 a2_1,.int .i64 a2_2,.int .i64 a2_3] 29 (0,0)) (vb BK101.out) hb)
       have n3_:=am (blk_below (g:=gb113) (o:=.cells #[.slice Ao21 t109.length co21,.int .i64 t112] 111 (0,0)) (vb BK113.out) hb)
       have n4_:=am (below_step (v2 HB.out GE101.out GE113.out) hb)
       clear HO108
       clear HO111
       clear BK101
       clear BK113
       clear HB
       have HO108:=n0_
       have HO111:=n1_
       have BK101:=n2_
       have BK113:=n3_
       have HB:=n4_
       clear n0_ n1_ n2_ n3_ n4_
       (try clear hb)
       (try clear hb2)
       (try clear hk)
       (try clear hi)
       refine hK.out _ _ ⟨(blk_cell BK113.out 0).trans rfl,(blk_cell BK113.out 1).trans rfl,(blk_cell BK101.out 0).trans rfl,(blk_cell BK101.out 1).trans rfl,(blk_cell BK101.out 2).trans rfl,(blk_cell BK101.out 3).trans rfl⟩ (fun hHeld => ?_)
       clear hK K
       refine norm_ (a':=?_) ?_ ?_
       rotate_left
       ·show Act.put _ (some 57) _ = _
        simp only [Act.put,List.setIfInBounds_toArray,List.set_cons_zero,List.set_cons_succ,i64_w,i32_w]
        rfl
       refine one_ (i:=23) (N:=some 63) #[true,true,true,true,true,true,true,true,true,true,true,true,true,true,true,true,true,true,true,true,true,true,true,true,false,false] rfl rfl (one_of HT_.out kr) (by decide) (fun K hK => ?_)
       refine goes_ Try.func75 kr rfl #[.int .i64 a3,.int .i64 a4,.int .i64 a1,.agg #[.int .i64 a2_0,.int .i64 a2_1,.int .i64 a2_2,.int .i64 a2_3],.slice A5 l5.length c5] (by rfl) rfl rfl (by (try simp only [List.map_toArray,List.map_cons,List.map_nil]);first|done|rfl|(simp only [List.length_drop,List.length_take];rfl)) ?_
       with_reducible refine (calxref08_CheckStands.calls kj6 a3 a4 a1 a2_0 a2_1 a2_2 a2_3 _ _ l5 t116 _ ?side1 ?side2 A28.out).mono ?_
       (case side1 => repeat (first|exact (Kd.C_below HR5.out HB.out)|(with_reducible refine Kd.C_alloc ?_ _)|(with_reducible refine Kd.C_drewN ?_ _)|(with_reducible refine Kd.C_drew ?_)))
       (case side2 => exact HC5.out)
       rintro e w33 ⟨rfl,hb⟩
       refine ⟨_,rfl,?_⟩
       have n0_:=am (Kd.R_below (by (with_reducible repeat (first|apply Kd.R_alloc|apply Kd.R_drewN|apply Kd.R_drew));exact HO108.out) hb)
       have n1_:=am (Kd.R_below (by (with_reducible repeat (first|apply Kd.R_alloc|apply Kd.R_drewN|apply Kd.R_drew));exact HO111.out) hb)
       have n2_:=am (blk_below (g:=gb101) (o:=.cells #[.int .i64 a2_0,.int .i64 a2_1,.int .i64 a2_2,.int .i64 a2_3] 29 (0,0)) (vb BK101.out) hb)
       have n3_:=am (blk_below (g:=gb113) (o:=.cells #[.slice Ao21 t109.length co21,.int .i64 t112] 111 (0,0)) (vb BK113.out) hb)
       have n4_:=am (below_step (v2 HB.out GE101.out GE113.out) hb)
       clear HO108
       clear HO111
       clear BK101
       clear BK113
       clear HB
       have HO108:=n0_
       have HO111:=n1_
       have BK101:=n2_
       have BK113:=n3_
       have HB:=n4_
       clear n0_ n1_ n2_ n3_ n4_
       (try clear hb)
       (try clear hb2)
       (try clear hk)
       (try clear hi)
       refine hK.out _ _ ⟨(blk_cell BK113.out 0).trans rfl,(blk_cell BK113.out 1).trans rfl,(blk_cell BK101.out 0).trans rfl,(blk_cell BK101.out 1).trans rfl,(blk_cell BK101.out 2).trans rfl,(blk_cell BK101.out 3).trans rfl⟩ (fun hHeld => ?_)
       clear hK K
       refine norm_ (a':=?_) ?_ ?_
       rotate_left
       ·show Act.put _ (some 63) _ = _
        simp only [Act.put,List.setIfInBounds_toArray,List.set_cons_zero,List.set_cons_succ,i64_w,i32_w]
        rfl
       refine pure_ (i:=24) (N:=some 64) (v:=?_) (a':=?_) #[true,true,true,true,true,true,true,true,true,true,true,true,true,true,true,true,true,true,true,true,true,true,true,true,true,false] rfl rfl (any_of HT_.out kr) (fun _ _ _ h => h) (Or.inl ⟨by rfl,?_⟩) ?_ ?_
       rotate_left
       ·intro w'
        go_simp
        with_reducible rfl
       rotate_left
       ·exact vs
       refine pure_ (i:=25) (N:=some 65) (v:=?_) (a':=?_) #[true,true,true,true,true,true,true,true,true,true,true,true,true,true,true,true,true,true,true,true,true,true,true,true,true,true] rfl rfl (any_of HT_.out kr) (fun _ _ _ h => h) (Or.inl ⟨by rfl,?_⟩) ?_ ?_
       rotate_left
       ·intro w'
        go_simp
        with_reducible rfl
       rotate_left
       ·exact vs
       refine done_ (done_of HT_.out kr) ?_
       try go_wp2
       go_meet
       case rel => exact ⟨_,((t115 != t116)),ve,H',⟨by have:=HJ6.out;first|omega|exact Nat.le_refl _⟩,⟨by (with_reducible repeat (first|apply Kd.R_alloc|apply Kd.R_drewN|apply Kd.R_drew));exact Kd.R_mono HO111.out (fun _ hk => trivial)⟩,⟨vb BK101.out⟩,⟨vb BK113.out⟩,⟨v2 HB.out GE101.out GE113.out⟩⟩
      ·exact absurd (E2.out) c26
     ·exact absurd (twigs_eq E1.out (Nat.le_trans E3.out (by decide)) A24.out) c25
    case rest =>
     clear HC17
     obtain ⟨kq,x65_16,rfl,HA,HJ16,HO_114000,BK101,BK113,HB⟩:=hcut
     cases kq with
    |zero => exact absurd HA.out (by simp [calxlaw08_BookStands.j1])
    |succ kj16 =>
      have H:=HA.out
      clear HA
      simp only [calxlaw08_BookStands.j1] at H
      by_cases c40 : x65_16 = true
      ·subst c40
       rw [if_pos rfl] at H
       obtain rfl:=Option.some.inj H
       go_wp2
       go_ret
       exact ⟨vf,v2 HB.out GE101.out GE113.out⟩
      ·replace c40:=Bool.eq_false_iff.mpr c40
       subst c40
       rw [if_neg (show ¬ (false = true) by decide)] at H
       replace H:=Option.bind_eq_some_iff.mp H
       obtain ⟨⟨t117,t118⟩,A410,H⟩:=H
       dsimp only at H
       have A41:=am A410
       clear A410
       have HC42:=am H
       clear H
       go_upto_region 8 with (first|((with_reducible refine gate_callee (f:=40) rfl ?_);refine goesL_ (some 68) rfl rfl Try.func40 kr rfl #[.slice A0 l0.length c0] rfl (by (try simp only [List.map_toArray,List.map_cons,List.map_nil]);first|done|rfl|(simp only [List.length_drop,List.length_take];rfl)) ?_;(with_reducible refine (calxref08_Root.calls kj16 _ _ l0 t117 t118 _ ?side1 ?side2 A41.out).mono ?_);(case side1 => repeat (first|exact (Kd.C_below HR0.out HB.out)|(with_reducible refine Kd.C_alloc ?_ _)|(with_reducible refine Kd.C_drewN ?_ _)|(with_reducible refine Kd.C_drew ?_)));(case side2 => exact HC0.out);rintro e w43 ⟨rfl,hb⟩;refine ⟨_,rfl,?_⟩;have n0_:=am (Kd.R_below (by (with_reducible repeat (first|apply Kd.R_alloc|apply Kd.R_drewN|apply Kd.R_drew));exact HO_114000.out) hb);have n1_:=am (blk_below (g:=gb101) (o:=.cells #[.int .i64 a2_0,.int .i64 a2_1,.int .i64 a2_2,.int .i64 a2_3] 29 (0,0)) (vb BK101.out) hb);have n2_:=am (blk_below (g:=gb113) (o:=.cells #[.slice Ao21 t109.length co21,.int .i64 t112] 111 (0,0)) (vb BK113.out) hb);have n3_:=am (below_step (v2 HB.out GE101.out GE113.out) hb);clear HO_114000;clear BK101;clear BK113;clear HB;have HO_114000:=n0_;have BK101:=n1_;have BK113:=n2_;have HB:=n3_;clear n0_ n1_ n2_ n3_;(try clear hb);(try clear hb2);(try clear hk);(try clear hi)))
       (try simp only [Act.put,List.setIfInBounds_toArray,List.set_cons_zero,List.set_cons_succ])
       go_cut [104] (fun v104 wc => ∃ (kq : Nat) (x104_41 : Bool),v104 = .bool x104_41 ∧ Aside0 (calxlaw08_BookStands.j2 kq l0 a1 l5 x104_41 a2_0 a2_1 a2_2 a2_3 = some r) ∧ Aside0 (kq ≤ kj16) ∧ Aside0 (Kd.R k129 129 wc w.heap.size (fun _ => True) (.slice Ao21 t109.length co21) t109) ∧ Aside0 (wc.heap[gb101]? = some (.cells #[.int .i64 a2_0,.int .i64 a2_1,.int .i64 a2_2,.int .i64 a2_3] 29 (0,0))) ∧ Aside0 (wc.heap[gb113]? = some (.cells #[(.slice Ao21 t109.length co21),.int .i64 t112] 111 (0,0))) ∧ Aside0 (Below w.heap.size w wc))
       case first =>
        have H:=HC42.out
        clear HC42
        replace H:=Option.bind_eq_some_iff.mp H
        obtain ⟨t119,A440,H⟩:=H
        replace H : ((calxref08_CheckStands.f kj16 t117 (l0.length : Int) a1 a2_0 a2_1 a2_2 a2_3 l5).bind fun t120 => (if t119 = t120 then ((book_CheckStands.f kj16 t117 (l0.length : Int) a1 a2_0 a2_1 a2_2 a2_3 t109).bind fun t121 => ((calxref08_CheckStands.f kj16 t117 (l0.length : Int) a1 a2_0 a2_1 a2_2 a2_3 t109).bind fun t122 => (calxlaw08_BookStands.j2 kj16 l0 a1 l5 (t121 != t122) a2_0 a2_1 a2_2 a2_3))) else (calxlaw08_BookStands.j2 kj16 l0 a1 l5 true a2_0 a2_1 a2_2 a2_3))) = some r:=H
        have A44:=am A440
        clear A440
        replace H:=Option.bind_eq_some_iff.mp H
        obtain ⟨t120,A450,H⟩:=H
        replace H : (if t119 = t120 then ((book_CheckStands.f kj16 t117 (l0.length : Int) a1 a2_0 a2_1 a2_2 a2_3 t109).bind fun t121 => ((calxref08_CheckStands.f kj16 t117 (l0.length : Int) a1 a2_0 a2_1 a2_2 a2_3 t109).bind fun t122 => (calxlaw08_BookStands.j2 kj16 l0 a1 l5 (t121 != t122) a2_0 a2_1 a2_2 a2_3))) else (calxlaw08_BookStands.j2 kj16 l0 a1 l5 true a2_0 a2_1 a2_2 a2_3)) = some r:=H
        have A45:=am A450
        clear A450
        have E1:=am (css_same HR5.out.2.1 A44.out A45.out)
        by_cases c46 : t119 = t120
        ·rw [if_pos c46] at H
         have c46b0 : (t119 == t120) = true:=beq_iff_eq.mpr c46
         have c46b1 : (t119 != t120) = false:=bne_eq_false_iff_eq.mpr c46
         clear c46
         (first|rw [c46b0]|(simp only [i64_w,i32_w];rw [c46b0])|skip)
         replace H:=Option.bind_eq_some_iff.mp H
         obtain ⟨t121,A470,H⟩:=H
         replace H : ((calxref08_CheckStands.f kj16 t117 (l0.length : Int) a1 a2_0 a2_1 a2_2 a2_3 t109).bind fun t122 => (calxlaw08_BookStands.j2 kj16 l0 a1 l5 (t121 != t122) a2_0 a2_1 a2_2 a2_3)) = some r:=H
         have A47:=am A470
         clear A470
         replace H:=Option.bind_eq_some_iff.mp H
         obtain ⟨t122,A480,H⟩:=H
         replace H : (calxlaw08_BookStands.j2 kj16 l0 a1 l5 (t121 != t122) a2_0 a2_1 a2_2 a2_3) = some r:=H
         have A48:=am A480
         clear A480
         have H':=am H
         clear H
         try go_wp2
         have n0_:=am (Kd.R_drew HO_114000.out)
         have n1_:=am (blk_drew BK101.out)
         have n2_:=am (blk_drew BK113.out)
         have n3_:=am (below_drew1 HB.out)
         clear HO_114000
         clear BK101
         clear BK113
         clear HB
         have HO_114000:=n0_
         have BK101:=n1_
         have BK113:=n2_
         have HB:=n3_
         clear n0_ n1_ n2_ n3_
         refine start_ (n:=34) (S:=fun w' => w'.cell? ⟨gb101,0,none⟩ = some (.int .i64 a2_0) ∧ w'.cell? ⟨gb101,1,none⟩ = some (.int .i64 a2_1) ∧ w'.cell? ⟨gb101,2,none⟩ = some (.int .i64 a2_2) ∧ w'.cell? ⟨gb101,3,none⟩ = some (.int .i64 a2_3) ∧ w'.cell? ⟨gb113,0,none⟩ = some (.slice Ao21 t109.length co21) ∧ w'.cell? ⟨gb113,1,none⟩ = some (.int .i64 t112)) (ds:=[]) #[false,false,false,false,false,false,false,false,false,false,false,false,false,false,false,false,false,false,false,false,false,false,false,false,false,false,false,false,false,false,false,false,false,false] kr rfl rfl ⟨(blk_cell BK101.out 0).trans rfl,(blk_cell BK101.out 1).trans rfl,(blk_cell BK101.out 2).trans rfl,(blk_cell BK101.out 3).trans rfl,(blk_cell BK113.out 0).trans rfl,(blk_cell BK113.out 1).trans rfl⟩ (fun hHeld => ?_);refine with_tabW calxlaw08_BookStands.tab8 calxlaw08_BookStands.bits8 (fun HT_ HW_ => ?_)
         generalize w43.drew = w49 at HO_114000 BK101 BK113 HB hHeld ⊢
         refine pure_ (i:=0) (N:=some 71) (v:=?_) (a':=?_) #[true,false,false,false,false,false,false,false,false,false,false,false,false,false,false,false,false,false,false,false,false,false,false,false,false,false,false,false,false,false,false,false,false,false] rfl rfl (any_of HT_.out kr) (fun _ _ _ h => h) (Or.inl ⟨by rfl,?_⟩) ?_ ?_
         rotate_left
         ·intro w'
          go_simp
          with_reducible rfl
         rotate_left
         ·exact vs
         refine pure_ (i:=1) (N:=some 72) (v:=?_) (a':=?_) #[true,true,false,false,false,false,false,false,false,false,false,false,false,false,false,false,false,false,false,false,false,false,false,false,false,false,false,false,false,false,false,false,false,false] rfl rfl (any_of HT_.out kr) (fun _ _ _ h => h) (Or.inl ⟨by rfl,?_⟩) ?_ ?_
         rotate_left
         ·intro w'
          go_simp
          with_reducible rfl
         rotate_left
         ·exact vs
         refine pure_ (i:=2) (N:=some 73) (v:=?_) (a':=?_) #[true,true,true,false,false,false,false,false,false,false,false,false,false,false,false,false,false,false,false,false,false,false,false,false,false,false,false,false,false,false,false,false,false,false] rfl rfl (any_of HT_.out kr) (fun _ _ _ h => h) (Or.inl ⟨by rfl,?_⟩) ?_ ?_
         rotate_left
         ·intro w'
          go_simp
          with_reducible rfl
         rotate_left
         ·exact vs
         refine pure_ (i:=3) (N:=some 74) (v:=?_) (a':=?_) #[true,true,true,true,false,false,false,false,false,false,false,false,false,false,false,false,false,false,false,false,false,false,false,false,false,false,false,false,false,false,false,false,false,false] rfl rfl (any_of HT_.out kr) (fun _ _ _ h => h) (Or.inl ⟨by rfl,?_⟩) ?_ ?_
         rotate_left
         ·intro w'
          go_simp
          with_reducible rfl
         rotate_left
         ·exact vs
         refine pure_ (i:=5) (N:=some 76) (v:=?_) (a':=?_) #[true,true,true,true,false,true,false,false,false,false,false,false,false,false,false,false,false,false,false,false,false,false,false,false,false,false,false,false,false,false,false,false,false,false] rfl rfl (any_of HT_.out kr) (fun _ _ _ h => h) (Or.inl ⟨by rfl,?_⟩) ?_ ?_
         rotate_left
         ·intro w'
          go_simp
          with_reducible rfl
         rotate_left
         ·exact vs
         refine pure_ (i:=7) (N:=some 78) (v:=?_) (a':=?_) #[true,true,true,true,false,true,false,true,false,false,false,false,false,false,false,false,false,false,false,false,false,false,false,false,false,false,false,false,false,false,false,false,false,false] rfl rfl (any_of HT_.out kr) (fun _ _ _ h => h) (Or.inl ⟨by rfl,?_⟩) ?_ ?_
         rotate_left
         ·intro w'
          go_simp
          with_reducible rfl
         rotate_left
         ·exact vs
         refine pure_ (i:=8) (N:=some 79) (v:=?_) (a':=?_) #[true,true,true,true,false,true,false,true,true,false,false,false,false,false,false,false,false,false,false,false,false,false,false,false,false,false,false,false,false,false,false,false,false,false] rfl rfl (any_of HT_.out kr) (fun _ _ _ h => h) (Or.inl ⟨by rfl,?_⟩) ?_ ?_
         rotate_left
         ·intro w'
          go_simp
          with_reducible rfl
         rotate_left
         ·exact vs
         refine pure_ (i:=9) (N:=some 80) (v:=?_) (a':=?_) #[true,true,true,true,false,true,false,true,true,true,false,false,false,false,false,false,false,false,false,false,false,false,false,false,false,false,false,false,false,false,false,false,false,false] rfl rfl (any_of HT_.out kr) (fun _ _ _ h => h) (Or.inl ⟨by rfl,?_⟩) ?_ ?_
         rotate_left
         ·intro w'
          go_simp
          with_reducible rfl
         rotate_left
         ·exact vs
         refine pure_ (i:=10) (N:=some 81) (v:=?_) (a':=?_) #[true,true,true,true,false,true,false,true,true,true,true,false,false,false,false,false,false,false,false,false,false,false,false,false,false,false,false,false,false,false,false,false,false,false] rfl rfl (any_of HT_.out kr) (fun _ _ _ h => h) (Or.inl ⟨by rfl,?_⟩) ?_ ?_
         rotate_left
         ·intro w'
          go_simp
          with_reducible rfl
         rotate_left
         ·exact vs
         refine pure_ (i:=12) (N:=some 83) (v:=?_) (a':=?_) #[true,true,true,true,false,true,false,true,true,true,true,false,true,false,false,false,false,false,false,false,false,false,false,false,false,false,false,false,false,false,false,false,false,false] rfl rfl (any_of HT_.out kr) (fun _ _ _ h => h) (Or.inl ⟨by rfl,?_⟩) ?_ ?_
         rotate_left
         ·intro w'
          go_simp
          with_reducible rfl
         rotate_left
         ·exact vs
         refine take_ (i:=4) (N:=some 75) (v:=?_) (a':=?_) #[true,true,true,true,true,true,false,true,true,true,true,false,true,false,false,false,false,false,false,false,false,false,false,false,false,false,false,false,false,false,false,false,false,false] rfl rfl (take_ofW HT_.out HW_.out kr) (fun _ _ _ h => h) (Or.inl ⟨by rfl,?_⟩) hHeld ?_ ?_
         rotate_left
         ·rintro w' ⟨s0,s1,s2,s3,s4,s5⟩
          go_simp
          with_reducible rfl
         rotate_left
         ·exact vs
         refine take_ (i:=11) (N:=some 82) (v:=?_) (a':=?_) #[true,true,true,true,true,true,false,true,true,true,true,true,true,false,false,false,false,false,false,false,false,false,false,false,false,false,false,false,false,false,false,false,false,false] rfl rfl (take_ofW HT_.out HW_.out kr) (fun _ _ _ h => h) (Or.inl ⟨by rfl,?_⟩) hHeld ?_ ?_
         rotate_left
         ·rintro w' ⟨s0,s1,s2,s3,s4,s5⟩
          go_simp
          with_reducible rfl
         rotate_left
         ·exact vs
         refine one_ (i:=6) (N:=some 77) #[true,true,true,true,true,true,true,true,true,true,true,true,true,false,false,false,false,false,false,false,false,false,false,false,false,false,false,false,false,false,false,false,false,false] rfl rfl (one_of HT_.out kr) (by decide) (fun K hK => ?_)
         refine goes_ Try.func54 kr rfl #[.int .i64 t117,.int .i64 (l0.length : Int),.int .i64 a1,.agg #[.int .i64 a2_0,.int .i64 a2_1,.int .i64 a2_2,.int .i64 a2_3],.slice A5 l5.length c5] (by rfl) rfl rfl (by (try simp only [List.map_toArray,List.map_cons,List.map_nil]);first|done|rfl|(simp only [List.length_drop,List.length_take];rfl)) ?_
         with_reducible refine (book_CheckStands.calls kj16 t117 (l0.length : Int) a1 a2_0 a2_1 a2_2 a2_3 _ _ l5 t119 _ ?side1 ?side2 A44.out).mono ?_
         (case side1 => repeat (first|exact (Kd.C_below HR5.out HB.out)|(with_reducible refine Kd.C_alloc ?_ _)|(with_reducible refine Kd.C_drewN ?_ _)|(with_reducible refine Kd.C_drew ?_)))
         (case side2 => exact HC5.out)
         rintro e w50 ⟨rfl,hb⟩
         refine ⟨_,rfl,?_⟩
         have n0_:=am (Kd.R_below (by (with_reducible repeat (first|apply Kd.R_alloc|apply Kd.R_drewN|apply Kd.R_drew));exact HO_114000.out) hb)
         have n1_:=am (blk_below (g:=gb101) (o:=.cells #[.int .i64 a2_0,.int .i64 a2_1,.int .i64 a2_2,.int .i64 a2_3] 29 (0,0)) (vb BK101.out) hb)
         have n2_:=am (blk_below (g:=gb113) (o:=.cells #[.slice Ao21 t109.length co21,.int .i64 t112] 111 (0,0)) (vb BK113.out) hb)
         have n3_:=am (below_step (v2 HB.out GE101.out GE113.out) hb)
         clear HO_114000
         clear BK101
         clear BK113
         clear HB
         have HO_114000:=n0_
         have BK101:=n1_
         have BK113:=n2_
         have HB:=n3_
         clear n0_ n1_ n2_ n3_
         (try clear hb)
         (try clear hb2)
         (try clear hk)
         (try clear hi)
         refine hK.out _ _ ⟨(blk_cell BK101.out 0).trans rfl,(blk_cell BK101.out 1).trans rfl,(blk_cell BK101.out 2).trans rfl,(blk_cell BK101.out 3).trans rfl,(blk_cell BK113.out 0).trans rfl,(blk_cell BK113.out 1).trans rfl⟩ (fun hHeld => ?_)
         clear hK K
         refine norm_ (a':=?_) ?_ ?_
         rotate_left
         ·show Act.put _ (some 77) _ = _
          simp only [Act.put,List.setIfInBounds_toArray,List.set_cons_zero,List.set_cons_succ,i64_w,i32_w]
          rfl
         refine one_ (i:=13) (N:=some 84) #[true,true,true,true,true,true,true,true,true,true,true,true,true,true,false,false,false,false,false,false,false,false,false,false,false,false,false,false,false,false,false,false,false,false] rfl rfl (one_of HT_.out kr) (by decide) (fun K hK => ?_)
         refine goes_ Try.func75 kr rfl #[.int .i64 t117,.int .i64 (l0.length : Int),.int .i64 a1,.agg #[.int .i64 a2_0,.int .i64 a2_1,.int .i64 a2_2,.int .i64 a2_3],.slice A5 l5.length c5] (by rfl) rfl rfl (by (try simp only [List.map_toArray,List.map_cons,List.map_nil]);first|done|rfl|(simp only [List.length_drop,List.length_take];rfl)) ?_
         with_reducible refine (calxref08_CheckStands.calls kj16 t117 (l0.length : Int) a1 a2_0 a2_1 a2_2 a2_3 _ _ l5 t120 _ ?side1 ?side2 A45.out).mono ?_
         (case side1 => repeat (first|exact (Kd.C_below HR5.out HB.out)|(with_reducible refine Kd.C_alloc ?_ _)|(with_reducible refine Kd.C_drewN ?_ _)|(with_reducible refine Kd.C_drew ?_)))
         (case side2 => exact HC5.out)
         rintro e w51 ⟨rfl,hb⟩
         refine ⟨_,rfl,?_⟩
         have n0_:=am (Kd.R_below (by (with_reducible repeat (first|apply Kd.R_alloc|apply Kd.R_drewN|apply Kd.R_drew));exact HO_114000.out) hb)
         have n1_:=am (blk_below (g:=gb101) (o:=.cells #[.int .i64 a2_0,.int .i64 a2_1,.int .i64 a2_2,.int .i64 a2_3] 29 (0,0)) (vb BK101.out) hb)
         have n2_:=am (blk_below (g:=gb113) (o:=.cells #[.slice Ao21 t109.length co21,.int .i64 t112] 111 (0,0)) (vb BK113.out) hb)
         have n3_:=am (below_step (v2 HB.out GE101.out GE113.out) hb)
         clear HO_114000
         clear BK101
         clear BK113
         clear HB
         have HO_114000:=n0_
         have BK101:=n1_
         have BK113:=n2_
         have HB:=n3_
         clear n0_ n1_ n2_ n3_
         (try clear hb)
         (try clear hb2)
         (try clear hk)
         (try clear hi)
         refine hK.out _ _ ⟨(blk_cell BK101.out 0).trans rfl,(blk_cell BK101.out 1).trans rfl,(blk_cell BK101.out 2).trans rfl,(blk_cell BK101.out 3).trans rfl,(blk_cell BK113.out 0).trans rfl,(blk_cell BK113.out 1).trans rfl⟩ (fun hHeld => ?_)
         clear hK K
         refine norm_ (a':=?_) ?_ ?_
         rotate_left
         ·show Act.put _ (some 84) _ = _
          simp only [Act.put,List.setIfInBounds_toArray,List.set_cons_zero,List.set_cons_succ,i64_w,i32_w]
          rfl
         refine pure_ (i:=14) (N:=some 85) (v:=?_) (a':=?_) #[true,true,true,true,true,true,true,true,true,true,true,true,true,true,true,false,false,false,false,false,false,false,false,false,false,false,false,false,false,false,false,false,false,false] rfl rfl (any_of HT_.out kr) (fun _ _ _ h => h) (Or.inl ⟨by rfl,?_⟩) ?_ ?_
         rotate_left
         ·intro w'
          go_simp
          with_reducible rfl
         rotate_left
         ·exact vs
         refine pure_ (i:=15) (N:=some 86) (v:=?_) (a':=?_) #[true,true,true,true,true,true,true,true,true,true,true,true,true,true,true,true,false,false,false,false,false,false,false,false,false,false,false,false,false,false,false,false,false,false] rfl rfl (any_of HT_.out kr) (fun _ _ _ h => h) (Or.inl ⟨by rfl,?_⟩) ?_ ?_
         rotate_left
         ·intro w'
          go_simp
          with_reducible rfl
         rotate_left
         ·exact vs
         refine pure_ (i:=16) (N:=some 87) (v:=?_) (a':=?_) #[true,true,true,true,true,true,true,true,true,true,true,true,true,true,true,true,true,false,false,false,false,false,false,false,false,false,false,false,false,false,false,false,false,false] rfl rfl (any_of HT_.out kr) (fun _ _ _ h => h) (Or.inl ⟨by rfl,?_⟩) ?_ ?_
         rotate_left
         ·intro w'
          go_simp
          with_reducible rfl
         rotate_left
         ·exact vs
         refine pure_ (i:=17) (N:=some 88) (v:=?_) (a':=?_) #[true,true,true,true,true,true,true,true,true,true,true,true,true,true,true,true,true,true,false,false,false,false,false,false,false,false,false,false,false,false,false,false,false,false] rfl rfl (any_of HT_.out kr) (fun _ _ _ h => h) (Or.inl ⟨by rfl,?_⟩) ?_ ?_
         rotate_left
         ·intro w'
          go_simp
          with_reducible rfl
         rotate_left
         ·exact vs
         refine pure_ (i:=18) (N:=some 89) (v:=?_) (a':=?_) #[true,true,true,true,true,true,true,true,true,true,true,true,true,true,true,true,true,true,true,false,false,false,false,false,false,false,false,false,false,false,false,false,false,false] rfl rfl (any_of HT_.out kr) (fun _ _ _ h => h) (Or.inl ⟨by rfl,?_⟩) ?_ ?_
         rotate_left
         ·intro w'
          go_simp
          with_reducible rfl
         rotate_left
         ·exact vs
         refine pure_ (i:=19) (N:=some 90) (v:=?_) (a':=?_) #[true,true,true,true,true,true,true,true,true,true,true,true,true,true,true,true,true,true,true,true,false,false,false,false,false,false,false,false,false,false,false,false,false,false] rfl rfl (any_of HT_.out kr) (fun _ _ _ h => h) (Or.inl ⟨by rfl,?_⟩) ?_ ?_
         rotate_left
         ·intro w'
          go_simp
          with_reducible rfl
         rotate_left
         ·exact vs
         refine pure_ (i:=21) (N:=some 92) (v:=?_) (a':=?_) #[true,true,true,true,true,true,true,true,true,true,true,true,true,true,true,true,true,true,true,true,false,true,false,false,false,false,false,false,false,false,false,false,false,false] rfl rfl (any_of HT_.out kr) (fun _ _ _ h => h) (Or.inl ⟨by rfl,?_⟩) ?_ ?_
         rotate_left
         ·intro w'
          go_simp
          with_reducible rfl
         rotate_left
         ·exact vs
         refine pure_ (i:=24) (N:=some 95) (v:=?_) (a':=?_) #[true,true,true,true,true,true,true,true,true,true,true,true,true,true,true,true,true,true,true,true,false,true,false,false,true,false,false,false,false,false,false,false,false,false] rfl rfl (any_of HT_.out kr) (fun _ _ _ h => h) (Or.inl ⟨by rfl,?_⟩) ?_ ?_
         rotate_left
         ·intro w'
          go_simp
          with_reducible rfl
         rotate_left
         ·exact vs
         refine pure_ (i:=25) (N:=some 96) (v:=?_) (a':=?_) #[true,true,true,true,true,true,true,true,true,true,true,true,true,true,true,true,true,true,true,true,false,true,false,false,true,true,false,false,false,false,false,false,false,false] rfl rfl (any_of HT_.out kr) (fun _ _ _ h => h) (Or.inl ⟨by rfl,?_⟩) ?_ ?_
         rotate_left
         ·intro w'
          go_simp
          with_reducible rfl
         rotate_left
         ·exact vs
         refine pure_ (i:=26) (N:=some 97) (v:=?_) (a':=?_) #[true,true,true,true,true,true,true,true,true,true,true,true,true,true,true,true,true,true,true,true,false,true,false,false,true,true,true,false,false,false,false,false,false,false] rfl rfl (any_of HT_.out kr) (fun _ _ _ h => h) (Or.inl ⟨by rfl,?_⟩) ?_ ?_
         rotate_left
         ·intro w'
          go_simp
          with_reducible rfl
         rotate_left
         ·exact vs
         refine pure_ (i:=27) (N:=some 98) (v:=?_) (a':=?_) #[true,true,true,true,true,true,true,true,true,true,true,true,true,true,true,true,true,true,true,true,false,true,false,false,true,true,true,true,false,false,false,false,false,false] rfl rfl (any_of HT_.out kr) (fun _ _ _ h => h) (Or.inl ⟨by rfl,?_⟩) ?_ ?_
         rotate_left
         ·intro w'
          go_simp
          with_reducible rfl
         rotate_left
         ·exact vs
         refine pure_ (i:=29) (N:=some 100) (v:=?_) (a':=?_) #[true,true,true,true,true,true,true,true,true,true,true,true,true,true,true,true,true,true,true,true,false,true,false,false,true,true,true,true,false,true,false,false,false,false] rfl rfl (any_of HT_.out kr) (fun _ _ _ h => h) (Or.inl ⟨by rfl,?_⟩) ?_ ?_
         rotate_left
         ·intro w'
          go_simp
          with_reducible rfl
         rotate_left
         ·exact vs
         refine take_ (i:=20) (N:=some 91) (v:=?_) (a':=?_) #[true,true,true,true,true,true,true,true,true,true,true,true,true,true,true,true,true,true,true,true,true,true,false,false,true,true,true,true,false,true,false,false,false,false] rfl rfl (take_ofW HT_.out HW_.out kr) (fun _ _ _ h => h) (Or.inl ⟨by rfl,?_⟩) hHeld ?_ ?_
         rotate_left
         ·rintro w' ⟨s0,s1,s2,s3,s4,s5⟩
          go_simp
          with_reducible rfl
         rotate_left
         ·exact vs
         refine take_ (i:=22) (N:=some 93) (v:=?_) (a':=?_) #[true,true,true,true,true,true,true,true,true,true,true,true,true,true,true,true,true,true,true,true,true,true,true,false,true,true,true,true,false,true,false,false,false,false] rfl rfl (take_ofW HT_.out HW_.out kr) (fun _ _ _ h => h) (Or.inl ⟨by rfl,?_⟩) hHeld ?_ ?_
         rotate_left
         ·rintro w' ⟨s0,s1,s2,s3,s4,s5⟩
          go_simp
          with_reducible rfl
         rotate_left
         ·exact vs
         refine take_ (i:=28) (N:=some 99) (v:=?_) (a':=?_) #[true,true,true,true,true,true,true,true,true,true,true,true,true,true,true,true,true,true,true,true,true,true,true,false,true,true,true,true,true,true,false,false,false,false] rfl rfl (take_ofW HT_.out HW_.out kr) (fun _ _ _ h => h) (Or.inl ⟨by rfl,?_⟩) hHeld ?_ ?_
         rotate_left
         ·rintro w' ⟨s0,s1,s2,s3,s4,s5⟩
          go_simp
          with_reducible rfl
         rotate_left
         ·exact vs
         refine take_ (i:=30) (N:=some 101) (v:=?_) (a':=?_) #[true,true,true,true,true,true,true,true,true,true,true,true,true,true,true,true,true,true,true,true,true,true,true,false,true,true,true,true,true,true,true,false,false,false] rfl rfl (take_ofW HT_.out HW_.out kr) (fun _ _ _ h => h) (Or.inl ⟨by rfl,?_⟩) hHeld ?_ ?_
         rotate_left
         ·rintro w' ⟨s0,s1,s2,s3,s4,s5⟩
          go_simp
          with_reducible rfl
         rotate_left
         ·exact vs
         refine one_ (i:=23) (N:=some 94) #[true,true,true,true,true,true,true,true,true,true,true,true,true,true,true,true,true,true,true,true,true,true,true,true,true,true,true,true,true,true,true,false,false,false] rfl rfl (one_of HT_.out kr) (by decide) (fun K hK => ?_)
         refine goes_ Try.func54 kr rfl #[.int .i64 t117,.int .i64 (l0.length : Int),.int .i64 a1,.agg #[.int .i64 a2_0,.int .i64 a2_1,.int .i64 a2_2,.int .i64 a2_3],.slice Ao21 t109.length co21] (by rfl) rfl rfl (by (try simp only [List.map_toArray,List.map_cons,List.map_nil]);first|done|rfl|(simp only [List.length_drop,List.length_take];rfl)) ?_
         with_reducible refine (book_CheckStands.calls kj16 t117 (l0.length : Int) a1 a2_0 a2_1 a2_2 a2_3 _ _ t109 t121 _ ?side1 ?side2 A47.out).mono ?_
         (case side1 => repeat (first|exact (Kd.R_reads' HO_114000.out).2.2|(with_reducible refine Kd.C_alloc ?_ _)|(with_reducible refine Kd.C_drewN ?_ _)|(with_reducible refine Kd.C_drew ?_)))
         (case side2 => exact (Kd.R_reads' HO_114000.out).2.1)
         rintro e w52 ⟨rfl,hb⟩
         refine ⟨_,rfl,?_⟩
         have n0_:=am (Kd.R_below (by (with_reducible repeat (first|apply Kd.R_alloc|apply Kd.R_drewN|apply Kd.R_drew));exact HO_114000.out) hb)
         have n1_:=am (blk_below (g:=gb101) (o:=.cells #[.int .i64 a2_0,.int .i64 a2_1,.int .i64 a2_2,.int .i64 a2_3] 29 (0,0)) (vb BK101.out) hb)
         have n2_:=am (blk_below (g:=gb113) (o:=.cells #[.slice Ao21 t109.length co21,.int .i64 t112] 111 (0,0)) (vb BK113.out) hb)
         have n3_:=am (below_step (v2 HB.out GE101.out GE113.out) hb)
         clear HO_114000
         clear BK101
         clear BK113
         clear HB
         have HO_114000:=n0_
         have BK101:=n1_
         have BK113:=n2_
         have HB:=n3_
         clear n0_ n1_ n2_ n3_
         (try clear hb)
         (try clear hb2)
         (try clear hk)
         (try clear hi)
         refine hK.out _ _ ⟨(blk_cell BK101.out 0).trans rfl,(blk_cell BK101.out 1).trans rfl,(blk_cell BK101.out 2).trans rfl,(blk_cell BK101.out 3).trans rfl,(blk_cell BK113.out 0).trans rfl,(blk_cell BK113.out 1).trans rfl⟩ (fun hHeld => ?_)
         clear hK K
         refine norm_ (a':=?_) ?_ ?_
         rotate_left
         ·show Act.put _ (some 94) _ = _
          simp only [Act.put,List.setIfInBounds_toArray,List.set_cons_zero,List.set_cons_succ,i64_w,i32_w]
          rfl
         refine one_ (i:=31) (N:=some 102) #[true,true,true,true,true,true,true,true,true,true,true,true,true,true,true,true,true,true,true,true,true,true,true,true,true,true,true,true,true,true,true,true,false,false] rfl rfl (one_of HT_.out kr) (by decide) (fun K hK => ?_)
         refine goes_ Try.func75 kr rfl #[.int .i64 t117,.int .i64 (l0.length : Int),.int .i64 a1,.agg #[.int .i64 a2_0,.int .i64 a2_1,.int .i64 a2_2,.int .i64 a2_3],.slice Ao21 t109.length co21] (by rfl) rfl rfl (by (try simp only [List.map_toArray,List.map_cons,List.map_nil]);first|done|rfl|(simp only [List.length_drop,List.length_take];rfl)) ?_
         with_reducible refine (calxref08_CheckStands.calls kj16 t117 (l0.length : Int) a1 a2_0 a2_1 a2_2 a2_3 _ _ t109 t122 _ ?side1 ?side2 A48.out).mono ?_
         (case side1 => repeat (first|exact (Kd.R_reads' HO_114000.out).2.2|(with_reducible refine Kd.C_alloc ?_ _)|(with_reducible refine Kd.C_drewN ?_ _)|(with_reducible refine Kd.C_drew ?_)))
         (case side2 => exact (Kd.R_reads' HO_114000.out).2.1)
         rintro e w53 ⟨rfl,hb⟩
         refine ⟨_,rfl,?_⟩
         have n0_:=am (Kd.R_below (by (with_reducible repeat (first|apply Kd.R_alloc|apply Kd.R_drewN|apply Kd.R_drew));exact HO_114000.out) hb)
         have n1_:=am (blk_below (g:=gb101) (o:=.cells #[.int .i64 a2_0,.int .i64 a2_1,.int .i64 a2_2,.int .i64 a2_3] 29 (0,0)) (vb BK101.out) hb)
         have n2_:=am (blk_below (g:=gb113) (o:=.cells #[.slice Ao21 t109.length co21,.int .i64 t112] 111 (0,0)) (vb BK113.out) hb)
         have n3_:=am (below_step (v2 HB.out GE101.out GE113.out) hb)
         clear HO_114000
         clear BK101
         clear BK113
         clear HB
         have HO_114000:=n0_
         have BK101:=n1_
         have BK113:=n2_
         have HB:=n3_
         clear n0_ n1_ n2_ n3_
         (try clear hb)
         (try clear hb2)
         (try clear hk)
         (try clear hi)
         refine hK.out _ _ ⟨(blk_cell BK101.out 0).trans rfl,(blk_cell BK101.out 1).trans rfl,(blk_cell BK101.out 2).trans rfl,(blk_cell BK101.out 3).trans rfl,(blk_cell BK113.out 0).trans rfl,(blk_cell BK113.out 1).trans rfl⟩ (fun hHeld => ?_)
         clear hK K
         refine norm_ (a':=?_) ?_ ?_
         rotate_left
         ·show Act.put _ (some 102) _ = _
          simp only [Act.put,List.setIfInBounds_toArray,List.set_cons_zero,List.set_cons_succ,i64_w,i32_w]
          rfl
         refine pure_ (i:=32) (N:=some 103) (v:=?_) (a':=?_) #[true,true,true,true,true,true,true,true,true,true,true,true,true,true,true,true,true,true,true,true,true,true,true,true,true,true,true,true,true,true,true,true,true,false] rfl rfl (any_of HT_.out kr) (fun _ _ _ h => h) (Or.inl ⟨by rfl,?_⟩) ?_ ?_
         rotate_left
         ·intro w'
          go_simp
          with_reducible rfl
         rotate_left
         ·exact vs
         refine pure_ (i:=33) (N:=some 104) (v:=?_) (a':=?_) #[true,true,true,true,true,true,true,true,true,true,true,true,true,true,true,true,true,true,true,true,true,true,true,true,true,true,true,true,true,true,true,true,true,true] rfl rfl (any_of HT_.out kr) (fun _ _ _ h => h) (Or.inl ⟨by rfl,?_⟩) ?_ ?_
         rotate_left
         ·intro w'
          go_simp
          with_reducible rfl
         rotate_left
         ·exact vs
         refine done_ (done_of HT_.out kr) ?_
         try go_wp2
         go_meet
         case rel => exact ⟨_,((t121 != t122)),ve,H',⟨by have:=HJ6.out;have:=HJ16.out;first|omega|exact Nat.le_refl _⟩,⟨by (with_reducible repeat (first|apply Kd.R_alloc|apply Kd.R_drewN|apply Kd.R_drew));exact HO_114000.out⟩,⟨vb BK101.out⟩,⟨vb BK113.out⟩,⟨v2 HB.out GE101.out GE113.out⟩⟩
        ·exact absurd (E1.out) c46
       case rest =>
        clear HC42
        obtain ⟨kq,x104_41,rfl,HA,HJ41,HO_114000,BK101,BK113,HB⟩:=hcut
        cases kq with
       |zero => exact absurd HA.out (by simp [calxlaw08_BookStands.j2])
       |succ kj41 =>
         have H:=HA.out
         clear HA
         simp only [calxlaw08_BookStands.j2] at H
         by_cases c57 : x104_41 = true
         ·subst c57
          rw [if_pos rfl] at H
          obtain rfl:=Option.some.inj H
          go_wp2
          go_ret
          exact ⟨vf,v2 HB.out GE101.out GE113.out⟩
         ·replace c57:=Bool.eq_false_iff.mpr c57
          subst c57
          rw [if_neg (show ¬ (false = true) by decide)] at H
          replace H:=Option.bind_eq_some_iff.mp H
          obtain ⟨⟨t123,t126,t129,t130⟩,A580,H⟩:=H
          dsimp only at H
          have A58:=am A580
          clear A580
          replace H:=Option.bind_eq_some_iff.mp H
          obtain ⟨⟨t132,t135,t138,t139⟩,A590,H⟩:=H
          dsimp only at H
          have A59:=am A590
          clear A590
          replace H:=Option.bind_eq_some_iff.mp H
          obtain ⟨t141,A600,H⟩:=H
          replace H : (if t141 = true then ((calxref08_SameInts.f kj41 t123 t132).bind fun t142 => (if t142 = true then ((calxref08_SameInts.f kj41 t126 t135).bind fun t143 => (if t143 = true then (if (t129 == t138) = true then (some (t130 == t139)) else (some false)) else (some false))) else (some false))) else (some false)) = some r:=H
          have A60:=am A600
          clear A600
          have e_:=gaps_same HR5.out.2.1 A58.out A59.out
          simp only [Prod.mk.injEq] at e_
          obtain ⟨⟨e1_,e2_,e3_,e4_⟩,e5_,e6_⟩:=e_
          have E1:=am e1_
          have E2:=am e2_
          have E3:=am e3_
          have E4:=am e4_
          have E5:=am e5_
          have E6:=am e6_
          clear e1_ e2_ e3_ e4_ e5_ e6_
          by_cases c61 : t141 = true
          ·subst c61
           rw [if_pos rfl] at H
           replace H:=Option.bind_eq_some_iff.mp H
           obtain ⟨t142,A620,H⟩:=H
           replace H : (if t142 = true then ((calxref08_SameInts.f kj41 t126 t135).bind fun t143 => (if t143 = true then (if (t129 == t138) = true then (some (t130 == t139)) else (some false)) else (some false))) else (some false)) = some r:=H
           have A62:=am A620
           clear A620
           by_cases c63 : t142 = true
           ·subst c63
            rw [if_pos rfl] at H
            replace H:=Option.bind_eq_some_iff.mp H
            obtain ⟨t143,A640,H⟩:=H
            replace H : (if t143 = true then (if (t129 == t138) = true then (some (t130 == t139)) else (some false)) else (some false)) = some r:=H
            have A64:=am A640
            clear A640
            by_cases c65 : t143 = true
            ·subst c65
             rw [if_pos rfl] at H
             by_cases c66 : (t129 == t138) = true
             ·rw [if_pos c66] at H
              have c66b0 : (t129 == t138) = true:=c66
              (try (have c66b1 : decide (t129 = t138) = true:=by simpa using c66))
              (try (have c66b2 : (t129 == t138) = true:=by simpa using c66))
              clear c66
              obtain rfl:=Option.some.inj H
              have hnb67:=NB101_113.out
              have hnc67:=NB113_101.out
              have hcz68_0 : wc.cell? ⟨gb101,0,none⟩ = some (.int .i64 a2_0):=(blk_cell BK101.out 0).trans rfl
              have hcz68_1 : wc.cell? ⟨gb101,1,none⟩ = some (.int .i64 a2_1):=(blk_cell BK101.out 1).trans rfl
              have hcz68_2 : wc.cell? ⟨gb101,2,none⟩ = some (.int .i64 a2_2):=(blk_cell BK101.out 2).trans rfl
              have hcz68_3 : wc.cell? ⟨gb101,3,none⟩ = some (.int .i64 a2_3):=(blk_cell BK101.out 3).trans rfl
              have hfz68_0:=blk_frozen BK101.out 0
              have hfz68_1:=blk_frozen BK101.out 1
              have hfz68_2:=blk_frozen BK101.out 2
              have hfz68_3:=blk_frozen BK101.out 3
              go_wp2_with (first|((with_reducible refine gate_callee (f:=76) rfl ?_);refine goesL_ (some 110) rfl rfl Try.func76 kr rfl #[.slice A0 l0.length c0,.int .i64 a1,.agg #[.int .i64 a2_0,.int .i64 a2_1,.int .i64 a2_2,.int .i64 a2_3],.slice A5 l5.length c5] rfl (by (try simp only [List.map_toArray,List.map_cons,List.map_nil]);first|done|rfl|(simp only [List.length_drop,List.length_take];rfl)) ?_;(with_reducible refine (book_Gap.calls _ _ l0 a1 a2_0 a2_1 a2_2 a2_3 _ _ l5 t123 t126 t129 t130 _ ?side1 ?side2 ?side3 ?side4 A58.out).mono ?_);(case side1 => repeat (first|exact (Kd.C_below HR0.out HB.out)|(with_reducible refine Kd.C_alloc ?_ _)|(with_reducible refine Kd.C_drewN ?_ _)|(with_reducible refine Kd.C_drew ?_)));(case side2 => exact HC0.out);(case side3 => repeat (first|exact (Kd.C_below HR5.out HB.out)|(with_reducible refine Kd.C_alloc ?_ _)|(with_reducible refine Kd.C_drewN ?_ _)|(with_reducible refine Kd.C_drew ?_)));(case side4 => exact HC5.out);rintro e w69 ⟨v124,v127,rfl,ho0,ho1,hb⟩;refine ⟨_,rfl,?_⟩;have n0_:=am (Kd.R_below (by (with_reducible repeat (first|apply Kd.R_alloc|apply Kd.R_drewN|apply Kd.R_drew));exact HO_114000.out) hb);have n1_:=am (Kd.V_lower (Kd.V_mono (ok':=fun k_ => some k_ ≠ (.slice Ao21 t109.length co21 : Value).ownBlock ∧ k_ ≠ gb101 ∧ k_ ≠ gb113) ho0 (fun k_ hk_ => ⟨(Kd.fresh' (Kd.R_lt (by (with_reducible repeat (first|apply Kd.R_alloc|apply Kd.R_drewN|apply Kd.R_drew));exact HO_114000.out)) k_ hk_),(Kd.freshB (g:=gb101) (o:=.cells #[.int .i64 a2_0,.int .i64 a2_1,.int .i64 a2_2,.int .i64 a2_3] 29 (0,0)) (vb BK101.out) k_ hk_),(Kd.freshB (g:=gb113) (o:=.cells #[.slice Ao21 t109.length co21,.int .i64 t112] 111 (0,0)) (vb BK113.out) k_ hk_)⟩)) (below_size (v2 HB.out GE101.out GE113.out)));have n2_:=am (Kd.V_lower (Kd.V_mono (ok':=fun k_ => some k_ ≠ (.slice Ao21 t109.length co21 : Value).ownBlock ∧ k_ ≠ gb101 ∧ k_ ≠ gb113) ho1 (fun k_ hk_ => ⟨(Kd.fresh' (Kd.R_lt (by (with_reducible repeat (first|apply Kd.R_alloc|apply Kd.R_drewN|apply Kd.R_drew));exact HO_114000.out)) k_ hk_),(Kd.freshB (g:=gb101) (o:=.cells #[.int .i64 a2_0,.int .i64 a2_1,.int .i64 a2_2,.int .i64 a2_3] 29 (0,0)) (vb BK101.out) k_ hk_),(Kd.freshB (g:=gb113) (o:=.cells #[.slice Ao21 t109.length co21,.int .i64 t112] 111 (0,0)) (vb BK113.out) k_ hk_)⟩)) (below_size (v2 HB.out GE101.out GE113.out)));have n3_:=am (blk_below (g:=gb101) (o:=.cells #[.int .i64 a2_0,.int .i64 a2_1,.int .i64 a2_2,.int .i64 a2_3] 29 (0,0)) (vb BK101.out) hb);have n4_:=am (blk_below (g:=gb113) (o:=.cells #[.slice Ao21 t109.length co21,.int .i64 t112] 111 (0,0)) (vb BK113.out) hb);have n5_:=am (below_step (v2 HB.out GE101.out GE113.out) hb);clear HO_114000;clear BK101;clear BK113;clear HB;have HO_114000:=n0_;have HO125:=n1_;have HO128:=n2_;have BK101:=n3_;have BK113:=n4_;have HB:=n5_;clear n0_ n1_ n2_ n3_ n4_ n5_;(try clear hb);(try clear hb2);(try clear hk);(try clear hi);(try clear ho0);(try clear ho1))|((with_reducible refine gate_dst (N:=18) rfl ?_);(try (refine gate_guard (by rfl) ?_;dsimp only));refine box_event ?hg (N:=18) ?hd (cs:=#[.slice none 0 0,.slice none 0 0]) (t:=67) ?hr ?_;(case hd => rfl);(case hg => rfl);(case hr => first|(go_simp;done)|(go_simp;rfl));intro gb131 hg w70 hbox hb;have n0_:=am (Kd.R_below (by (with_reducible repeat (first|apply Kd.R_alloc|apply Kd.R_drewN|apply Kd.R_drew));exact HO_114000.out) hb);have n1_:=am (Kd.V_below (Kd.V_elderB (by (with_reducible repeat (first|apply Kd.V_alloc|apply Kd.V_drewN|apply Kd.V_drew));exact HO125.out) gb131 (Nat.le_of_eq hg.symm)) hb);have n2_:=am (Kd.V_below (Kd.V_elderB (by (with_reducible repeat (first|apply Kd.V_alloc|apply Kd.V_drewN|apply Kd.V_drew));exact HO128.out) gb131 (Nat.le_of_eq hg.symm)) hb);have n3_:=am (blk_below (g:=gb101) (o:=.cells #[.int .i64 a2_0,.int .i64 a2_1,.int .i64 a2_2,.int .i64 a2_3] 29 (0,0)) (vb BK101.out) hb);have n4_:=am (blk_below (g:=gb113) (o:=.cells #[.slice Ao21 t109.length co21,.int .i64 t112] 111 (0,0)) (vb BK113.out) hb);have n5_:=am (below_step (v2 HB.out GE101.out GE113.out) hb);have n6_:=am (hbox);have n7_:=am ((by rw [hg];exact (below_size (v2 HB.out GE101.out GE113.out)) : w.heap.size ≤ gb131));have n8_:=am ((by rw [hg];exact (below_size (v2 HB.out GE101.out GE113.out)) : w.heap.size ≤ gb131));have n9_:=am ((by rw [hg];exact Nat.ne_of_lt (blk_lt (g:=gb101) (o:=.cells #[.int .i64 a2_0,.int .i64 a2_1,.int .i64 a2_2,.int .i64 a2_3] 29 (0,0)) (vb BK101.out)) : gb101 ≠ gb131));have n10_:=am ((by rw [hg];exact Nat.ne_of_gt (blk_lt (g:=gb101) (o:=.cells #[.int .i64 a2_0,.int .i64 a2_1,.int .i64 a2_2,.int .i64 a2_3] 29 (0,0)) (vb BK101.out)) : gb131 ≠ gb101));have n11_:=am ((by rw [hg];exact Nat.ne_of_lt (blk_lt (g:=gb113) (o:=.cells #[.slice Ao21 t109.length co21,.int .i64 t112] 111 (0,0)) (vb BK113.out)) : gb113 ≠ gb131));have n12_:=am ((by rw [hg];exact Nat.ne_of_gt (blk_lt (g:=gb113) (o:=.cells #[.slice Ao21 t109.length co21,.int .i64 t112] 111 (0,0)) (vb BK113.out)) : gb131 ≠ gb113));clear HO_114000;clear HO125;clear HO128;clear BK101;clear BK113;clear HB;have HO_114000:=n0_;have HO125:=n1_;have HO128:=n2_;have BK101:=n3_;have BK113:=n4_;have HB:=n5_;have BK131:=n6_;have GW131:=n7_;have GE131:=n8_;have NB101_131:=n9_;have NB131_101:=n10_;have NB113_131:=n11_;have NB131_113:=n12_;clear n0_ n1_ n2_ n3_ n4_ n5_ n6_ n7_ n8_ n9_ n10_ n11_ n12_;clear hb hbox hg;obtain ⟨Ao71,co71,eo71⟩:=Kd.V_slice HO125.out;subst eo71;have hnb72:=NB131_101.out;have hnc72:=NB101_131.out;have hnb73:=NB131_113.out;have hnc73:=NB113_131.out;have hcz74_0 : w70.cell? ⟨gb131,0,none⟩ = some (.slice none 0 0):=(blk_cell BK131.out 0).trans rfl;have hcz74_1 : w70.cell? ⟨gb131,1,none⟩ = some (.slice none 0 0):=(blk_cell BK131.out 1).trans rfl;have hfz74_0:=blk_frozen BK131.out 0;have hfz74_1:=blk_frozen BK131.out 1;obtain ⟨Ao75,co75,eo75⟩:=Kd.V_slice HO128.out;subst eo75;have hcz76_0 : w70.cell? ⟨gb101,0,none⟩ = some (.int .i64 a2_0):=(blk_cell BK101.out 0).trans rfl;have hcz76_1 : w70.cell? ⟨gb101,1,none⟩ = some (.int .i64 a2_1):=(blk_cell BK101.out 1).trans rfl;have hcz76_2 : w70.cell? ⟨gb101,2,none⟩ = some (.int .i64 a2_2):=(blk_cell BK101.out 2).trans rfl;have hcz76_3 : w70.cell? ⟨gb101,3,none⟩ = some (.int .i64 a2_3):=(blk_cell BK101.out 3).trans rfl;have hfz76_0:=blk_frozen BK101.out 0;have hfz76_1:=blk_frozen BK101.out 1;have hfz76_2:=blk_frozen BK101.out 2;have hfz76_3:=blk_frozen BK101.out 3)|((with_reducible refine gate_callee (f:=77) rfl ?_);refine goesL_ (some 118) rfl rfl Try.func77 kr rfl #[.slice A0 l0.length c0,.int .i64 a1,.agg #[.int .i64 a2_0,.int .i64 a2_1,.int .i64 a2_2,.int .i64 a2_3],.slice A5 l5.length c5] rfl (by (try simp only [List.map_toArray,List.map_cons,List.map_nil]);first|done|rfl|(simp only [List.length_drop,List.length_take];rfl)) ?_;(with_reducible refine (calxref08_Gap.calls kj41 _ _ l0 a1 a2_0 a2_1 a2_2 a2_3 _ _ l5 t132 t135 t138 t139 _ ?side1 ?side2 ?side3 ?side4 A59.out).mono ?_);(case side1 => exact Kd.C_below HR0.out (v3 HB.out GE101.out GE113.out GE131.out));(case side2 => exact HC0.out);(case side3 => exact Kd.C_below HR5.out (v3 HB.out GE101.out GE113.out GE131.out));(case side4 => exact HC5.out);rintro e w77 ⟨v133,v136,rfl,ho0,ho1,hb⟩;refine ⟨_,rfl,?_⟩;have n0_:=am (Kd.R_below (by (with_reducible repeat (first|apply Kd.R_alloc|apply Kd.R_drewN|apply Kd.R_drew));exact (Kd.R_mono (Kd.R_far (p:=⟨gb131,1,none⟩) (Kd.R_far (p:=⟨gb131,0,none⟩) (Kd.R_types HO_114000.out BK131.out (by decide)) (fun _ hk => hk.2) (.slice Ao71 t123.length co71)) (fun _ hk => hk.2) (.slice Ao75 t126.length co75)) (fun _ h_ => h_.1))) hb);have n1_:=am (Kd.V_mono (Kd.V_told (Kd.V_told (Kd.V_old (by (with_reducible repeat (first|apply Kd.V_alloc|apply Kd.V_drewN|apply Kd.V_drew));exact (Kd.V_mono (Kd.V_far (p:=⟨gb131,1,none⟩) (Kd.V_far (p:=⟨gb131,0,none⟩) (Kd.V_mono HO125.out (fun k_ hk => (⟨hk,hk.2⟩ : _ ∧ k_ ≠ gb131))) (fun _ hk => hk.2) (.slice Ao71 t123.length co71)) (fun _ hk => hk.2) (.slice Ao75 t126.length co75)) (fun _ h_ => h_.1))) hb) (Kd.R_base ho0)) (Kd.R_base ho1)) (fun _ h_ => h_.1));have n2_:=am (Kd.V_mono (Kd.V_told (Kd.V_told (Kd.V_old (by (with_reducible repeat (first|apply Kd.V_alloc|apply Kd.V_drewN|apply Kd.V_drew));exact (Kd.V_mono (Kd.V_far (p:=⟨gb131,1,none⟩) (Kd.V_far (p:=⟨gb131,0,none⟩) (Kd.V_mono HO128.out (fun k_ hk => (⟨hk,hk.2⟩ : _ ∧ k_ ≠ gb131))) (fun _ hk => hk.2) (.slice Ao71 t123.length co71)) (fun _ hk => hk.2) (.slice Ao75 t126.length co75)) (fun _ h_ => h_.1))) hb) (Kd.R_base ho0)) (Kd.R_base ho1)) (fun _ h_ => h_.1));have n3_:=am (Kd.R_lower ho0 (below_size (v3 HB.out GE101.out GE113.out GE131.out)));have n4_:=am (Kd.R_lower ho1 (below_size (v3 HB.out GE101.out GE113.out GE131.out)));have n5_:=am (blk_below (g:=gb101) (o:=.cells #[.int .i64 a2_0,.int .i64 a2_1,.int .i64 a2_2,.int .i64 a2_3] 29 (0,0)) (by (with_reducible repeat (first|refine blk_drewN ?_ _|refine blk_drew ?_|refine blk_alloc ?_ _));refine blk_far ?_ NB101_131.out _;(with_reducible repeat (first|refine blk_drewN ?_ _|refine blk_drew ?_|refine blk_alloc ?_ _));refine blk_far ?_ NB101_131.out _;(with_reducible repeat (first|refine blk_drewN ?_ _|refine blk_drew ?_|refine blk_alloc ?_ _));exact BK101.out) hb);have n6_:=am (blk_below (g:=gb113) (o:=.cells #[.slice Ao21 t109.length co21,.int .i64 t112] 111 (0,0)) (by (with_reducible repeat (first|refine blk_drewN ?_ _|refine blk_drew ?_|refine blk_alloc ?_ _));refine blk_far ?_ NB113_131.out _;(with_reducible repeat (first|refine blk_drewN ?_ _|refine blk_drew ?_|refine blk_alloc ?_ _));refine blk_far ?_ NB113_131.out _;(with_reducible repeat (first|refine blk_drewN ?_ _|refine blk_drew ?_|refine blk_alloc ?_ _));exact BK113.out) hb);have n7_:=am (blk_below (g:=gb131) (o:=.cells #[.slice Ao71 t123.length co71,.slice Ao75 t126.length co75] 67 (0,0)) (by (with_reducible repeat (first|refine blk_drewN ?_ _|refine blk_drew ?_|refine blk_alloc ?_ _));refine blk_put (cs:=#[.slice Ao71 t123.length co71,.slice none 0 0]) ?_ 1 _ rfl;(with_reducible repeat (first|refine blk_drewN ?_ _|refine blk_drew ?_|refine blk_alloc ?_ _));refine blk_put (cs:=#[.slice none 0 0,.slice none 0 0]) ?_ 0 _ rfl;(with_reducible repeat (first|refine blk_drewN ?_ _|refine blk_drew ?_|refine blk_alloc ?_ _));exact BK131.out) hb);have n8_:=am (below_step (v3 HB.out GE101.out GE113.out GE131.out) hb);clear HO_114000;clear HO125;clear HO128;clear BK101;clear BK113;clear BK131;clear HB;have HO_114000:=n0_;have HO125:=n1_;have HO128:=n2_;have HO134:=n3_;have HO137:=n4_;have BK101:=n5_;have BK113:=n6_;have BK131:=n7_;have HB:=n8_;clear n0_ n1_ n2_ n3_ n4_ n5_ n6_ n7_ n8_;(try clear hb);(try clear hb2);(try clear hk);(try clear hi);(try clear ho0);(try clear ho1))|((with_reducible refine gate_dst (N:=21) rfl ?_);(try (refine gate_guard (by rfl) ?_;dsimp only));refine box_event ?hg (N:=21) ?hd (cs:=#[.slice none 0 0,.slice none 0 0,.bool false,.int .i64 0]) (t:=118) ?hr ?_;(case hd => rfl);(case hg => rfl);(case hr => first|(go_simp;done)|(go_simp;rfl));intro gb140 hg w78 hbox hb;have n0_:=am (Kd.R_below (by (with_reducible repeat (first|apply Kd.R_alloc|apply Kd.R_drewN|apply Kd.R_drew));exact HO_114000.out) hb);have n1_:=am (Kd.V_below (Kd.V_elderB (by (with_reducible repeat (first|apply Kd.V_alloc|apply Kd.V_drewN|apply Kd.V_drew));exact HO125.out) gb140 (Nat.le_of_eq hg.symm)) hb);have n2_:=am (Kd.V_below (Kd.V_elderB (by (with_reducible repeat (first|apply Kd.V_alloc|apply Kd.V_drewN|apply Kd.V_drew));exact HO128.out) gb140 (Nat.le_of_eq hg.symm)) hb);have n3_:=am (Kd.R_below (by (with_reducible repeat (first|apply Kd.R_alloc|apply Kd.R_drewN|apply Kd.R_drew));exact HO134.out) hb);have n4_:=am (Kd.R_below (by (with_reducible repeat (first|apply Kd.R_alloc|apply Kd.R_drewN|apply Kd.R_drew));exact HO137.out) hb);have n5_:=am (blk_below (g:=gb101) (o:=.cells #[.int .i64 a2_0,.int .i64 a2_1,.int .i64 a2_2,.int .i64 a2_3] 29 (0,0)) (vb BK101.out) hb);have n6_:=am (blk_below (g:=gb113) (o:=.cells #[.slice Ao21 t109.length co21,.int .i64 t112] 111 (0,0)) (vb BK113.out) hb);have n7_:=am (blk_below (g:=gb131) (o:=.cells #[.slice Ao71 t123.length co71,.slice Ao75 t126.length co75] 67 (0,0)) (vb BK131.out) hb);have n8_:=am (below_step (v3 HB.out GE101.out GE113.out GE131.out) hb);have n9_:=am (hbox);have n10_:=am ((by rw [hg];exact (below_size (v3 HB.out GE101.out GE113.out GE131.out)) : w.heap.size ≤ gb140));have n11_:=am ((by rw [hg];exact (below_size (v3 HB.out GE101.out GE113.out GE131.out)) : w.heap.size ≤ gb140));have n12_:=am ((by rw [hg];exact Nat.ne_of_lt (blk_lt (g:=gb101) (o:=.cells #[.int .i64 a2_0,.int .i64 a2_1,.int .i64 a2_2,.int .i64 a2_3] 29 (0,0)) (vb BK101.out)) : gb101 ≠ gb140));have n13_:=am ((by rw [hg];exact Nat.ne_of_gt (blk_lt (g:=gb101) (o:=.cells #[.int .i64 a2_0,.int .i64 a2_1,.int .i64 a2_2,.int .i64 a2_3] 29 (0,0)) (vb BK101.out)) : gb140 ≠ gb101));have n14_:=am ((by rw [hg];exact Nat.ne_of_lt (blk_lt (g:=gb113) (o:=.cells #[.slice Ao21 t109.length co21,.int .i64 t112] 111 (0,0)) (vb BK113.out)) : gb113 ≠ gb140));have n15_:=am ((by rw [hg];exact Nat.ne_of_gt (blk_lt (g:=gb113) (o:=.cells #[.slice Ao21 t109.length co21,.int .i64 t112] 111 (0,0)) (vb BK113.out)) : gb140 ≠ gb113));have n16_:=am ((by rw [hg];exact Nat.ne_of_lt (blk_lt (g:=gb131) (o:=.cells #[.slice Ao71 t123.length co71,.slice Ao75 t126.length co75] 67 (0,0)) (vb BK131.out)) : gb131 ≠ gb140));have n17_:=am ((by rw [hg];exact Nat.ne_of_gt (blk_lt (g:=gb131) (o:=.cells #[.slice Ao71 t123.length co71,.slice Ao75 t126.length co75] 67 (0,0)) (vb BK131.out)) : gb140 ≠ gb131));clear HO_114000;clear HO125;clear HO128;clear HO134;clear HO137;clear BK101;clear BK113;clear BK131;clear HB;have HO_114000:=n0_;have HO125:=n1_;have HO128:=n2_;have HO134:=n3_;have HO137:=n4_;have BK101:=n5_;have BK113:=n6_;have BK131:=n7_;have HB:=n8_;have BK140:=n9_;have GW140:=n10_;have GE140:=n11_;have NB101_140:=n12_;have NB140_101:=n13_;have NB113_140:=n14_;have NB140_113:=n15_;have NB131_140:=n16_;have NB140_131:=n17_;clear n0_ n1_ n2_ n3_ n4_ n5_ n6_ n7_ n8_ n9_ n10_ n11_ n12_ n13_ n14_ n15_ n16_ n17_;clear hb hbox hg;obtain ⟨Ao79,co79,eo79⟩:=Kd.R_slice HO134.out;subst eo79;have hnb80:=NB140_101.out;have hnc80:=NB101_140.out;have hnb81:=NB140_113.out;have hnc81:=NB113_140.out;have hnb82:=NB140_131.out;have hnc82:=NB131_140.out;have hcz83_0 : w78.cell? ⟨gb140,0,none⟩ = some (.slice none 0 0):=(blk_cell BK140.out 0).trans rfl;have hcz83_1 : w78.cell? ⟨gb140,1,none⟩ = some (.slice none 0 0):=(blk_cell BK140.out 1).trans rfl;have hcz83_2 : w78.cell? ⟨gb140,2,none⟩ = some (.bool false):=(blk_cell BK140.out 2).trans rfl;have hcz83_3 : w78.cell? ⟨gb140,3,none⟩ = some (.int .i64 0):=(blk_cell BK140.out 3).trans rfl;have hfz83_0:=blk_frozen BK140.out 0;have hfz83_1:=blk_frozen BK140.out 1;have hfz83_2:=blk_frozen BK140.out 2;have hfz83_3:=blk_frozen BK140.out 3;obtain ⟨Ao84,co84,eo84⟩:=Kd.R_slice HO137.out;subst eo84)|((with_reducible refine gate_callee (f:=22) rfl ?_);refine goesL_ (some 119) rfl rfl Try.func22 kr rfl #[] rfl (by (try simp only [List.map_toArray,List.map_cons,List.map_nil]);first|done|rfl|(simp only [List.length_drop,List.length_take];rfl)) ?_;(with_reducible refine (calxlaw08_sanity.calls  true _ A60.out).mono ?_);rintro e w85 ⟨rfl,hb⟩;refine ⟨_,rfl,?_⟩;have n0_:=am (Kd.R_below (by (with_reducible repeat (first|apply Kd.R_alloc|apply Kd.R_drewN|apply Kd.R_drew));exact (Kd.R_mono (Kd.R_far (p:=⟨gb140,3,none⟩) (Kd.R_far (p:=⟨gb140,2,none⟩) (Kd.R_far (p:=⟨gb140,1,none⟩) (Kd.R_far (p:=⟨gb140,0,none⟩) (Kd.R_types HO_114000.out BK140.out (by decide)) (fun _ hk => hk.2) (.slice Ao79 t132.length co79)) (fun _ hk => hk.2) (.slice Ao84 t135.length co84)) (fun _ hk => hk.2) (.bool t138)) (fun _ hk => hk.2) (.int .i64 t139)) (fun _ h_ => h_.1))) hb);have n1_:=am (Kd.V_below (by (with_reducible repeat (first|apply Kd.V_alloc|apply Kd.V_drewN|apply Kd.V_drew));exact (Kd.V_mono (Kd.V_far (p:=⟨gb140,3,none⟩) (Kd.V_far (p:=⟨gb140,2,none⟩) (Kd.V_far (p:=⟨gb140,1,none⟩) (Kd.V_far (p:=⟨gb140,0,none⟩) (Kd.V_mono HO125.out (fun k_ hk => (⟨hk,hk.2⟩ : _ ∧ k_ ≠ gb140))) (fun _ hk => hk.2) (.slice Ao79 t132.length co79)) (fun _ hk => hk.2) (.slice Ao84 t135.length co84)) (fun _ hk => hk.2) (.bool t138)) (fun _ hk => hk.2) (.int .i64 t139)) (fun _ h_ => h_.1))) hb);have n2_:=am (Kd.V_below (by (with_reducible repeat (first|apply Kd.V_alloc|apply Kd.V_drewN|apply Kd.V_drew));exact (Kd.V_mono (Kd.V_far (p:=⟨gb140,3,none⟩) (Kd.V_far (p:=⟨gb140,2,none⟩) (Kd.V_far (p:=⟨gb140,1,none⟩) (Kd.V_far (p:=⟨gb140,0,none⟩) (Kd.V_mono HO128.out (fun k_ hk => (⟨hk,hk.2⟩ : _ ∧ k_ ≠ gb140))) (fun _ hk => hk.2) (.slice Ao79 t132.length co79)) (fun _ hk => hk.2) (.slice Ao84 t135.length co84)) (fun _ hk => hk.2) (.bool t138)) (fun _ hk => hk.2) (.int .i64 t139)) (fun _ h_ => h_.1))) hb);have n3_:=am (Kd.R_below (by (with_reducible repeat (first|apply Kd.R_alloc|apply Kd.R_drewN|apply Kd.R_drew));exact (Kd.R_mono (Kd.R_far (p:=⟨gb140,3,none⟩) (Kd.R_far (p:=⟨gb140,2,none⟩) (Kd.R_far (p:=⟨gb140,1,none⟩) (Kd.R_far (p:=⟨gb140,0,none⟩) (Kd.R_types HO134.out BK140.out (by decide)) (fun _ hk => hk.2) (.slice Ao79 t132.length co79)) (fun _ hk => hk.2) (.slice Ao84 t135.length co84)) (fun _ hk => hk.2) (.bool t138)) (fun _ hk => hk.2) (.int .i64 t139)) (fun _ h_ => h_.1))) hb);have n4_:=am (Kd.R_below (by (with_reducible repeat (first|apply Kd.R_alloc|apply Kd.R_drewN|apply Kd.R_drew));exact (Kd.R_mono (Kd.R_far (p:=⟨gb140,3,none⟩) (Kd.R_far (p:=⟨gb140,2,none⟩) (Kd.R_far (p:=⟨gb140,1,none⟩) (Kd.R_far (p:=⟨gb140,0,none⟩) (Kd.R_types HO137.out BK140.out (by decide)) (fun _ hk => hk.2) (.slice Ao79 t132.length co79)) (fun _ hk => hk.2) (.slice Ao84 t135.length co84)) (fun _ hk => hk.2) (.bool t138)) (fun _ hk => hk.2) (.int .i64 t139)) (fun _ h_ => h_.1))) hb);have n5_:=am (blk_below (g:=gb101) (o:=.cells #[.int .i64 a2_0,.int .i64 a2_1,.int .i64 a2_2,.int .i64 a2_3] 29 (0,0)) (by (with_reducible repeat (first|refine blk_drewN ?_ _|refine blk_drew ?_|refine blk_alloc ?_ _));refine blk_far ?_ NB101_140.out _;(with_reducible repeat (first|refine blk_drewN ?_ _|refine blk_drew ?_|refine blk_alloc ?_ _));refine blk_far ?_ NB101_140.out _;(with_reducible repeat (first|refine blk_drewN ?_ _|refine blk_drew ?_|refine blk_alloc ?_ _));refine blk_far ?_ NB101_140.out _;(with_reducible repeat (first|refine blk_drewN ?_ _|refine blk_drew ?_|refine blk_alloc ?_ _));refine blk_far ?_ NB101_140.out _;(with_reducible repeat (first|refine blk_drewN ?_ _|refine blk_drew ?_|refine blk_alloc ?_ _));exact BK101.out) hb);have n6_:=am (blk_below (g:=gb113) (o:=.cells #[.slice Ao21 t109.length co21,.int .i64 t112] 111 (0,0)) (by (with_reducible repeat (first|refine blk_drewN ?_ _|refine blk_drew ?_|refine blk_alloc ?_ _));refine blk_far ?_ NB113_140.out _;(with_reducible repeat (first|refine blk_drewN ?_ _|refine blk_drew ?_|refine blk_alloc ?_ _));refine blk_far ?_ NB113_140.out _;(with_reducible repeat (first|refine blk_drewN ?_ _|refine blk_drew ?_|refine blk_alloc ?_ _));refine blk_far ?_ NB113_140.out _;(with_reducible repeat (first|refine blk_drewN ?_ _|refine blk_drew ?_|refine blk_alloc ?_ _));refine blk_far ?_ NB113_140.out _;(with_reducible repeat (first|refine blk_drewN ?_ _|refine blk_drew ?_|refine blk_alloc ?_ _));exact BK113.out) hb);have n7_:=am (blk_below (g:=gb131) (o:=.cells #[.slice Ao71 t123.length co71,.slice Ao75 t126.length co75] 67 (0,0)) (by (with_reducible repeat (first|refine blk_drewN ?_ _|refine blk_drew ?_|refine blk_alloc ?_ _));refine blk_far ?_ NB131_140.out _;(with_reducible repeat (first|refine blk_drewN ?_ _|refine blk_drew ?_|refine blk_alloc ?_ _));refine blk_far ?_ NB131_140.out _;(with_reducible repeat (first|refine blk_drewN ?_ _|refine blk_drew ?_|refine blk_alloc ?_ _));refine blk_far ?_ NB131_140.out _;(with_reducible repeat (first|refine blk_drewN ?_ _|refine blk_drew ?_|refine blk_alloc ?_ _));refine blk_far ?_ NB131_140.out _;(with_reducible repeat (first|refine blk_drewN ?_ _|refine blk_drew ?_|refine blk_alloc ?_ _));exact BK131.out) hb);have n8_:=am (blk_below (g:=gb140) (o:=.cells #[.slice Ao79 t132.length co79,.slice Ao84 t135.length co84,.bool t138,.int .i64 t139] 118 (0,0)) (by (with_reducible repeat (first|refine blk_drewN ?_ _|refine blk_drew ?_|refine blk_alloc ?_ _));refine blk_put (cs:=#[.slice Ao79 t132.length co79,.slice Ao84 t135.length co84,.bool t138,.int .i64 0]) ?_ 3 _ rfl;(with_reducible repeat (first|refine blk_drewN ?_ _|refine blk_drew ?_|refine blk_alloc ?_ _));refine blk_put (cs:=#[.slice Ao79 t132.length co79,.slice Ao84 t135.length co84,.bool false,.int .i64 0]) ?_ 2 _ rfl;(with_reducible repeat (first|refine blk_drewN ?_ _|refine blk_drew ?_|refine blk_alloc ?_ _));refine blk_put (cs:=#[.slice Ao79 t132.length co79,.slice none 0 0,.bool false,.int .i64 0]) ?_ 1 _ rfl;(with_reducible repeat (first|refine blk_drewN ?_ _|refine blk_drew ?_|refine blk_alloc ?_ _));refine blk_put (cs:=#[.slice none 0 0,.slice none 0 0,.bool false,.int .i64 0]) ?_ 0 _ rfl;(with_reducible repeat (first|refine blk_drewN ?_ _|refine blk_drew ?_|refine blk_alloc ?_ _));exact BK140.out) hb);have n9_:=am (below_step (by repeat (first|(with_reducible first|exact HB.out|apply below_alloc|apply pw_below_drewN|apply below_drew1|refine below_set ?_ GE101.out|refine below_set ?_ GE113.out|refine below_set ?_ GE131.out|refine below_set ?_ GE140.out)|exact HB.out)) hb);clear HO_114000;clear HO125;clear HO128;clear HO134;clear HO137;clear BK101;clear BK113;clear BK131;clear BK140;clear HB;have HO_114000:=n0_;have HO125:=n1_;have HO128:=n2_;have HO134:=n3_;have HO137:=n4_;have BK101:=n5_;have BK113:=n6_;have BK131:=n7_;have BK140:=n8_;have HB:=n9_;clear n0_ n1_ n2_ n3_ n4_ n5_ n6_ n7_ n8_ n9_;(try clear hb);(try clear hb2);(try clear hk);(try clear hi);have hcz86_0 : w85.cell? ⟨gb131,0,none⟩ = some (.slice Ao71 t123.length co71):=(blk_cell BK131.out 0).trans rfl;have hcz86_1 : w85.cell? ⟨gb131,1,none⟩ = some (.slice Ao75 t126.length co75):=(blk_cell BK131.out 1).trans rfl;have hfz86_0:=blk_frozen BK131.out 0;have hfz86_1:=blk_frozen BK131.out 1;have hcz87_0 : w85.cell? ⟨gb140,0,none⟩ = some (.slice Ao79 t132.length co79):=(blk_cell BK140.out 0).trans rfl;have hcz87_1 : w85.cell? ⟨gb140,1,none⟩ = some (.slice Ao84 t135.length co84):=(blk_cell BK140.out 1).trans rfl;have hcz87_2 : w85.cell? ⟨gb140,2,none⟩ = some (.bool t138):=(blk_cell BK140.out 2).trans rfl;have hcz87_3 : w85.cell? ⟨gb140,3,none⟩ = some (.int .i64 t139):=(blk_cell BK140.out 3).trans rfl;have hfz87_0:=blk_frozen BK140.out 0;have hfz87_1:=blk_frozen BK140.out 1;have hfz87_2:=blk_frozen BK140.out 2;have hfz87_3:=blk_frozen BK140.out 3)|(go_at_call 78;(with_reducible refine (calxref08_SameInts.calls kj41 _ _ t123 _ _ t132 true _ ?side1 ?side2 ?side3 ?side4 A62.out).mono ?_);(case side1 => repeat (first|exact (Kd.V_reads' HO125.out).2.2|(with_reducible refine Kd.C_alloc ?_ _)|(with_reducible refine Kd.C_drewN ?_ _)|(with_reducible refine Kd.C_drew ?_)));(case side2 => exact (Kd.V_reads' HO125.out).2.1);(case side3 => repeat (first|exact (Kd.R_reads' HO134.out).2.2|(with_reducible refine Kd.C_alloc ?_ _)|(with_reducible refine Kd.C_drewN ?_ _)|(with_reducible refine Kd.C_drew ?_)));(case side4 => exact (Kd.R_reads' HO134.out).2.1);rintro e w' ⟨rfl,⟨nd,rfl⟩⟩)|(go_at_call 78;(with_reducible refine (calxref08_SameInts.calls kj41 _ _ t126 _ _ t135 true _ ?side1 ?side2 ?side3 ?side4 A64.out).mono ?_);(case side1 => repeat (first|exact (Kd.V_reads' HO128.out).2.2|(with_reducible refine Kd.C_alloc ?_ _)|(with_reducible refine Kd.C_drewN ?_ _)|(with_reducible refine Kd.C_drew ?_)));(case side2 => exact (Kd.V_reads' HO128.out).2.1);(case side3 => repeat (first|exact (Kd.R_reads' HO137.out).2.2|(with_reducible refine Kd.C_alloc ?_ _)|(with_reducible refine Kd.C_drewN ?_ _)|(with_reducible refine Kd.C_drew ?_)));(case side4 => exact (Kd.R_reads' HO137.out).2.1);rintro e w' ⟨rfl,⟨nd,rfl⟩⟩))
              go_ret
              exact ⟨vf,by repeat (first|(with_reducible first|exact HB.out|apply below_alloc|apply pw_below_drewN|apply below_drew1|refine below_set ?_ GE101.out|refine below_set ?_ GE113.out|refine below_set ?_ GE131.out|refine below_set ?_ GE140.out)|exact HB.out)⟩
             ·exact absurd (beq_iff_eq.2 E3.out) c66
            ·exact absurd (ints_true E2.out E6.out A64.out) c65
           ·exact absurd (ints_true E1.out E5.out A62.out) c63
          ·exact absurd ((Option.some.inj A60.out).symm) c61
theorem pureBookStands (l : List S29) (_ : l.length ≤ 9223372036854775807) (_ : ∀ x ∈ l,Wf4 x) (a : Int) (_ : (Lit.int .i64 a).wf = true) (x : S29) (_ : Wf4 x) (r : Int) (_ : (Lit.int .i64 r).wf = true) (many : Int) (_ : (Lit.int .i64 many).wf = true) (p : List S129) (_ : p.length ≤ 9223372036854775807) (_ : ∀ y ∈ p,W64 y.f0 ∧ W64 y.f1 ∧ W64 y.f2) : ∃ k,calxlaw08_BookStands.f k l a x.f0 x.f1 x.f2 x.f3 r many p = some true:=by
 refine ⟨2003,?_⟩
 have hf : ∃ t,calxlaw08_few.f l = some t:=by unfold calxlaw08_few.f;split;exact ⟨_,rfl⟩;split <;> exact ⟨_,rfl⟩
 obtain ⟨t,ht⟩:=hf
 have htrue : calxlaw08_BookStands.j0 2003 l a r many p true x.f0 x.f1 x.f2 x.f3 = some true:=by
  simp only [calxlaw08_BookStands.j0]
  rfl
 unfold calxlaw08_BookStands.f
 rw [ht,Option.bind_some]
 cases t with
|false => rw [if_neg (by decide),htrue]
|true =>
  have hs : calxlaw08_short.f p = some (decide ((p.length : Int) ≤ 40)):=rfl
  rw [if_pos rfl,hs,Option.bind_some]
  by_cases h40 : p.length ≤ 40
  ·rw [decide_eq_true (show (p.length : Int) ≤ 40 by omega),show (!true) = false from rfl]
   have hst:=stA_len l a
   obtain ⟨g1,g2⟩:=gapAns_len l a x p
   simp only [calxlaw08_BookStands.j0]
   rw [if_neg (by decide),book_Stands_is l a (by omega),Option.bind_some,ref_Stands_is l a (by omega),Option.bind_some,same_twigs (by omega) (by omega),Option.bind_some,if_pos (by simp),if_pos rfl,
    cs_is r many a x p,Option.bind_some,ref_cs_is r many a x (by omega) (by omega),Option.bind_some]
   simp only [calxlaw08_BookStands.j1]
   rw [if_neg (by simp),ref_Root_any2 l (by omega),Option.bind_some,cs_is,Option.bind_some,ref_cs_is _ _ _ x (p:=p) (by omega) (by omega),Option.bind_some,if_pos rfl,
    cs_is,Option.bind_some,ref_cs_is _ _ _ x (p:=(stA l a).1) (by omega) (by omega),Option.bind_some]
   simp only [calxlaw08_BookStands.j2]
   rw [if_neg (by simp)]
   unfold book_Gap.f
   rw [Option.bind_some,ref_gap_is (by omega) (by omega),Option.bind_some]
   show ((some true).bind fun t141 => _) = _
   rw [Option.bind_some,if_pos rfl,show gapAns l a ⟨x.f0,x.f1,x.f2,x.f3⟩ p = gapAns l a x p from rfl,same_ints_own g1 (by omega),Option.bind_some,if_pos rfl,same_ints_own g2 (by omega),Option.bind_some,if_pos rfl,if_pos (by simp)]
   simp
  ·rw [decide_eq_false (show ¬ (p.length : Int) ≤ 40 by omega),show (!false) = true from rfl,htrue]
end Go.Proofs.Ytmfphlfakmnbmaa.B
end
