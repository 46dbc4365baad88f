import Derived.Test.YtjjfpmapjjemcaaGreatProg
import Derived.Below
import Derived.Deep.Draws
import Derived.Deep.AppendLies
import Derived.Maps.AppendAt
import Derived.OwnWalk
import Derived.Laws.BytesArg
import Derived.Laws.MakeOwn
import Derived.Laws.OwnMore
import Derived.Deep.OwnRows
import Derived.Tactics
import Derived.Lib.ConvBytes
import Derived.Laws.Slices
import Derived.WalkKit
import Derived.KernelRfl
import Derived.RowKit3
import Derived.Deep.LoopGhost
import Derived.Deep.QuietTactic
import Derived.BigQuiet
import Derived.WideLaws
import Derived.Deep.DeepCutAuto
import Derived.Deep.CutBlock
import Derived.Deep.RegionHeld3
import Derived.Laws.Rows
import Derived.Lib.AppendStr
import Derived.ArgAppend
import Derived.Laws.IdiomCopy
import Derived.OrdersHeld
import Derived.Laws.BitsLemmas
import Derived.RowKit
import Derived.ProofKit
import Derived.OpenShut
import Derived.ChangeOld
import Derived.Deep.Slices
import Derived.Carry
import Derived.Test.YtjjfpmapjjemcaaGreatQ1
import Derived.Test.YtjjfpmapjjemcaaGreatQ2
import Derived.Test.YtjjfpmapjjemcaaGreatQ3
import Derived.Test.YtjjfpmapjjemcaaGreatQ4
import Derived.Test.YtjjfpmapjjemcaaGreatQ5
import Derived.Test.YtjjfpmapjjemcaaGreatQ6
set_option linter.unusedVariables false
set_option linter.unusedSimpArgs false
section
namespace Go.Proofs.YtjjfpmapjjemcaaGreat.B
open Go.RowKit Go.Proofs.YtjjfpmapjjemcaaGreatW.PrintWords Go.Proofs.YtjjfpmapjjemcaaGreatW.PrintLast Go.Proofs.YtjjfpmapjjemcaaGreatW.PrintMore
attribute [local go_sem] max2_int min2_int max_two min_two max_three min_three max_four min_four
section
def errW : Option Int → Value
 | none => .nilIface
 | some c => .iface 0 (.int .i64 c)
theorem errW_none : errW none = .nilIface := rfl
theorem errW_some (c : Int) : errW (some c) = .iface 0 (.int .i64 c) := rfl
theorem info3 : (Tryz.prog.info? 3).map (fun i => (i.zero, i.size, i.bytes)) = some (some (.int .i64 0), 1, 8) := by kernel_rfl
theorem info89 : (Tryz.prog.info? 89).map (fun i => (i.zero, i.size, i.bytes)) = some (some (.agg #[(.int .i64 0), (.int .i64 0), (.int .i64 0)]), 3, 24) := by kernel_rfl
theorem info212 : (Tryz.prog.info? 212).map (fun i => (i.zero, i.size, i.bytes)) = some (some (.agg #[(.int .i64 0), (.slice none 0 0)]), 2, 32) := by kernel_rfl
structure S84 where
 f0 : Int
 f1 : Int
 f2 : Int
 f3 : Int
 f4 : Int
 f5 : Int
def z84 : S84 := ⟨(0 : Int), (0 : Int), (0 : Int), (0 : Int), (0 : Int), (0 : Int)⟩
def k84 : Kd S84 := Kd.iso (Kd.pair (Kd.int .i64) (Kd.pair (Kd.int .i64) (Kd.pair (Kd.int .i64) (Kd.pair (Kd.int .i64) (Kd.pair (Kd.int .i64) (Kd.int .i64)))))) (fun x : S84 => (x.f0, x.f1, x.f2, x.f3, x.f4, x.f5))
theorem k84_open {w : World} {x : S84} {cs : List Value} (h : k84.K w x cs) : cs = [.int .i64 x.f0, .int .i64 x.f1, .int .i64 x.f2, .int .i64 x.f3, .int .i64 x.f4, .int .i64 x.f5] := by
 obtain ⟨_, _, rfl, rfl, ⟨_, _, rfl, rfl, ⟨_, _, rfl, rfl, ⟨_, _, rfl, rfl, ⟨_, _, rfl, rfl, rfl⟩⟩⟩⟩⟩ := h
 exact rfl
theorem k84_openM {w : World} {base : Nat} {ok : Nat → Prop} {x : S84} {cs : List Value} (h : k84.M w base ok x cs) : cs = [.int .i64 x.f0, .int .i64 x.f1, .int .i64 x.f2, .int .i64 x.f3, .int .i64 x.f4, .int .i64 x.f5] := by
 obtain ⟨_, _, rfl, rfl, ⟨_, _, rfl, rfl, ⟨_, _, rfl, rfl, ⟨_, _, rfl, rfl, ⟨_, _, rfl, rfl, rfl⟩⟩⟩⟩⟩ := h
 exact rfl
theorem k84_mk (w : World) (x : S84)  : k84.K w x [.int .i64 x.f0, .int .i64 x.f1, .int .i64 x.f2, .int .i64 x.f3, .int .i64 x.f4, .int .i64 x.f5] := ⟨[.int .i64 x.f0], [.int .i64 x.f1, .int .i64 x.f2, .int .i64 x.f3, .int .i64 x.f4, .int .i64 x.f5], rfl, rfl, ⟨[.int .i64 x.f1], [.int .i64 x.f2, .int .i64 x.f3, .int .i64 x.f4, .int .i64 x.f5], rfl, rfl, ⟨[.int .i64 x.f2], [.int .i64 x.f3, .int .i64 x.f4, .int .i64 x.f5], rfl, rfl, ⟨[.int .i64 x.f3], [.int .i64 x.f4, .int .i64 x.f5], rfl, rfl, ⟨[.int .i64 x.f4], [.int .i64 x.f5], rfl, rfl, rfl⟩⟩⟩⟩⟩
theorem k84_mkM (w : World) (base : Nat) (ok : Nat → Prop) (x : S84)  : k84.M w base ok x [.int .i64 x.f0, .int .i64 x.f1, .int .i64 x.f2, .int .i64 x.f3, .int .i64 x.f4, .int .i64 x.f5] := ⟨[.int .i64 x.f0], [.int .i64 x.f1, .int .i64 x.f2, .int .i64 x.f3, .int .i64 x.f4, .int .i64 x.f5], rfl, rfl, ⟨[.int .i64 x.f1], [.int .i64 x.f2, .int .i64 x.f3, .int .i64 x.f4, .int .i64 x.f5], rfl, rfl, ⟨[.int .i64 x.f2], [.int .i64 x.f3, .int .i64 x.f4, .int .i64 x.f5], rfl, rfl, ⟨[.int .i64 x.f3], [.int .i64 x.f4, .int .i64 x.f5], rfl, rfl, ⟨[.int .i64 x.f4], [.int .i64 x.f5], rfl, rfl, rfl⟩⟩⟩⟩⟩
def rd_T84 (xs : List S84) (i : Int) : S84 := xs.getD i.toNat z84
theorem at_T84 {w : World} {A : Option Addr} {n : Nat} {xs : List S84} (h : Kd.C k84 w A n xs) (i : Int) (h0 : 0 ≤ i) (h1 : i < n) : ∃ ad , A = some ad ∧ w.cell? (ad.add (i.toNat * 6)) = some (.int .i64 (rd_T84 xs i).f0) ∧ w.cell? ⟨(ad.add (i.toNat * 6)).block, (ad.add (i.toNat * 6)).off + 1, none⟩ = some (.int .i64 (rd_T84 xs i).f1) ∧ w.cell? ⟨(ad.add (i.toNat * 6)).block, (ad.add (i.toNat * 6)).off + 2, none⟩ = some (.int .i64 (rd_T84 xs i).f2) ∧ w.cell? ⟨(ad.add (i.toNat * 6)).block, (ad.add (i.toNat * 6)).off + 3, none⟩ = some (.int .i64 (rd_T84 xs i).f3) ∧ w.cell? ⟨(ad.add (i.toNat * 6)).block, (ad.add (i.toNat * 6)).off + 4, none⟩ = some (.int .i64 (rd_T84 xs i).f4) ∧ w.cell? ⟨(ad.add (i.toNat * 6)).block, (ad.add (i.toNat * 6)).off + 5, none⟩ = some (.int .i64 (rd_T84 xs i).f5) := by
 obtain ⟨ad, c, e, _, hK, hc0⟩ := Kd.C_get h z84 i h0 h1
 have hc : ∀ j u, c[j]? = some u → w.cell? (ad.add (i.toNat * 6 + j)) = some u := hc0
 obtain rfl := k84_open hK
 exact ⟨ad, e, hc 0 _ rfl, by rw [← add_field _ _ 1 (by omega)]; exact hc 1 _ rfl, by rw [← add_field _ _ 2 (by omega)]; exact hc 2 _ rfl, by rw [← add_field _ _ 3 (by omega)]; exact hc 3 _ rfl, by rw [← add_field _ _ 4 (by omega)]; exact hc 4 _ rfl, by rw [← add_field _ _ 5 (by omega)]; exact hc 5 _ rfl⟩
structure S43 where
 f0 : Int
 f1 : Int
def z43 : S43 := ⟨(0 : Int), (0 : Int)⟩
def k43 : Kd S43 := Kd.iso (Kd.pair (Kd.int .i64) (Kd.int .i64)) (fun x : S43 => (x.f0, x.f1))
theorem k43_open {w : World} {x : S43} {cs : List Value} (h : k43.K w x cs) : cs = [.int .i64 x.f0, .int .i64 x.f1] := by
 obtain ⟨_, _, rfl, rfl, rfl⟩ := h
 exact rfl
theorem k43_openM {w : World} {base : Nat} {ok : Nat → Prop} {x : S43} {cs : List Value} (h : k43.M w base ok x cs) : cs = [.int .i64 x.f0, .int .i64 x.f1] := by
 obtain ⟨_, _, rfl, rfl, rfl⟩ := h
 exact rfl
theorem k43_mkM (w : World) (base : Nat) (ok : Nat → Prop) (x : S43)  : k43.M w base ok x [.int .i64 x.f0, .int .i64 x.f1] := ⟨[.int .i64 x.f0], [.int .i64 x.f1], rfl, rfl, rfl⟩
def rd_T43 (xs : List S43) (i : Int) : S43 := xs.getD i.toNat z43
theorem at_T43 {w : World} {A : Option Addr} {n : Nat} {xs : List S43} (h : Kd.C k43 w A n xs) (i : Int) (h0 : 0 ≤ i) (h1 : i < n) : ∃ ad , A = some ad ∧ w.cell? (ad.add (i.toNat * 2)) = some (.int .i64 (rd_T43 xs i).f0) ∧ w.cell? ⟨(ad.add (i.toNat * 2)).block, (ad.add (i.toNat * 2)).off + 1, none⟩ = some (.int .i64 (rd_T43 xs i).f1) := by
 obtain ⟨ad, c, e, _, hK, hc0⟩ := Kd.C_get h z43 i h0 h1
 have hc : ∀ j u, c[j]? = some u → w.cell? (ad.add (i.toNat * 2 + j)) = some u := hc0
 obtain rfl := k43_open hK
 exact ⟨ad, e, hc 0 _ rfl, by rw [← add_field _ _ 1 (by omega)]; exact hc 1 _ rfl⟩
structure S89 where
 f0 : Int
 f1 : S43
def z89 : S89 := ⟨(0 : Int), z43⟩
def k89 : Kd S89 := Kd.iso (Kd.pair (Kd.int .i64) k43) (fun x : S89 => (x.f0, x.f1))
theorem k89_open {w : World} {x : S89} {cs : List Value} (h : k89.K w x cs) : cs = [.int .i64 x.f0, .int .i64 x.f1.f0, .int .i64 x.f1.f1] := by
 obtain ⟨_, _, rfl, rfl, s1⟩ := h
 obtain rfl := k43_open s1
 exact rfl
theorem k89_mkM (w : World) (base : Nat) (ok : Nat → Prop) (x : S89)  : k89.M w base ok x [.int .i64 x.f0, .int .i64 x.f1.f0, .int .i64 x.f1.f1] := ⟨[.int .i64 x.f0], [.int .i64 x.f1.f0, .int .i64 x.f1.f1], rfl, rfl, (k43_mkM w base ok x.f1 )⟩
def rd_T89 (xs : List S89) (i : Int) : S89 := xs.getD i.toNat z89
theorem at_T89 {w : World} {A : Option Addr} {n : Nat} {xs : List S89} (h : Kd.C k89 w A n xs) (i : Int) (h0 : 0 ≤ i) (h1 : i < n) : ∃ ad , A = some ad ∧ w.cell? (ad.add (i.toNat * 3)) = some (.int .i64 (rd_T89 xs i).f0) ∧ w.cell? ⟨(ad.add (i.toNat * 3)).block, (ad.add (i.toNat * 3)).off + 1, none⟩ = some (.int .i64 (rd_T89 xs i).f1.f0) ∧ w.cell? ⟨(ad.add (i.toNat * 3)).block, (ad.add (i.toNat * 3)).off + 2, none⟩ = some (.int .i64 (rd_T89 xs i).f1.f1) := by
 obtain ⟨ad, c, e, _, hK, hc0⟩ := Kd.C_get h z89 i h0 h1
 have hc : ∀ j u, c[j]? = some u → w.cell? (ad.add (i.toNat * 3 + j)) = some u := hc0
 obtain rfl := k89_open hK
 exact ⟨ad, e, hc 0 _ rfl, by rw [← add_field _ _ 1 (by omega)]; exact hc 1 _ rfl, by rw [← add_field _ _ 2 (by omega)]; exact hc 2 _ rfl⟩
structure S212 where
 f0 : Int
 f1 : (List S89)
def z212 : S212 := ⟨(0 : Int), ([] : List S89)⟩
def k212 : Kd S212 := Kd.iso (Kd.pair (Kd.int .i64) (Kd.slice 89 k89)) (fun x : S212 => (x.f0, x.f1))
theorem k212_open {w : World} {x : S212} {cs : List Value} (h : k212.K w x cs) : ∃ A1 c1, cs = [.int .i64 x.f0, .slice A1 x.f1.length c1] ∧ x.f1.length ≤ c1 ∧ k89.C w A1 x.f1.length x.f1 := by
 obtain ⟨_, _, rfl, rfl, ⟨A1, c1, rfl, l1, g1⟩⟩ := h
 exact ⟨A1, c1, rfl, l1, g1⟩
theorem k212_mk (w : World) (x : S212) {A1 : Option Addr} {c1 : Nat} (l1 : x.f1.length ≤ c1) (g1 : k89.C w A1 x.f1.length x.f1) : k212.K w x [.int .i64 x.f0, .slice A1 x.f1.length c1] := ⟨[.int .i64 x.f0], [.slice A1 x.f1.length c1], rfl, rfl, ⟨A1, c1, rfl, l1, g1⟩⟩
theorem k212_mkM (w : World) (base : Nat) (ok : Nat → Prop) (x : S212) {v1 : Value} (g1 : k89.R 89 w base ok v1 x.f1) : k212.M w base ok x [.int .i64 x.f0, v1] := ⟨[.int .i64 x.f0], [v1], rfl, rfl, ⟨v1, rfl, g1⟩⟩
theorem k212_openF {W : World} {ok : Nat → Prop} {x : S212} {cs : List Value} (h : Kd.FK k212 W ok x cs) : ∃ A1 c1, cs = [.int .i64 x.f0, .slice A1 x.f1.length c1] ∧ x.f1.length ≤ c1 ∧ Kd.F k89 W ok A1 x.f1.length x.f1 := by
 obtain ⟨A1, c1, rfl, l1, _⟩ := k212_open (Kd.FK_now h)
 exact ⟨A1, c1, rfl, l1, (fun W' hW => by obtain ⟨A1_, c1_, he, l1_, g1_⟩ := k212_open (h W' hW); injection (Option.some.inj (show some (Value.slice A1 x.f1.length c1) = some (Value.slice A1_ x.f1.length c1_) from congrArg (fun l => l[1]?) he)) with ha_ _ _; rw [ha_]; exact g1_)⟩
theorem k212_mkF (W : World) (ok : Nat → Prop) (x : S212) {A1 : Option Addr} {c1 : Nat} (l1 : x.f1.length ≤ c1) (g1 : Kd.F k89 W ok A1 x.f1.length x.f1) : Kd.FK k212 W ok x [.int .i64 x.f0, .slice A1 x.f1.length c1] := fun W2 hW => k212_mk W2 x l1 (g1 W2 hW)
def rd_T212 (xs : List S212) (i : Int) : S212 := xs.getD i.toNat z212
theorem at_T212 {w : World} {A : Option Addr} {n : Nat} {xs : List S212} (h : Kd.C k212 w A n xs) (i : Int) (h0 : 0 ≤ i) (h1 : i < n) : ∃ ad A1 c1, A = some ad ∧ w.cell? (ad.add (i.toNat * 2)) = some (.int .i64 (rd_T212 xs i).f0) ∧ w.cell? ⟨(ad.add (i.toNat * 2)).block, (ad.add (i.toNat * 2)).off + 1, none⟩ = some (.slice A1 (rd_T212 xs i).f1.length c1) ∧ (rd_T212 xs i).f1.length ≤ c1 ∧ k89.C w A1 (rd_T212 xs i).f1.length (rd_T212 xs i).f1 := by
 obtain ⟨ad, c, e, _, hK, hc0⟩ := Kd.C_get h z212 i h0 h1
 have hc : ∀ j u, c[j]? = some u → w.cell? (ad.add (i.toNat * 2 + j)) = some u := hc0
 obtain ⟨A1, c1, rfl, l1, g1⟩ := k212_open hK
 exact ⟨ad, A1, c1, e, hc 0 _ rfl, by rw [← add_field _ _ 1 (by omega)]; exact hc 1 _ rfl, l1, g1⟩
structure S167 where
 f0 : Int
 f1 : Int
 f2 : Int
 f3 : (List S89)
def z167 : S167 := ⟨(0 : Int), (0 : Int), (0 : Int), ([] : List S89)⟩
def k167 : Kd S167 := Kd.iso (Kd.pair (Kd.int .i64) (Kd.pair (Kd.int .i64) (Kd.pair (Kd.int .i64) (Kd.slice 89 k89)))) (fun x : S167 => (x.f0, x.f1, x.f2, x.f3))
theorem k167_open {w : World} {x : S167} {cs : List Value} (h : k167.K w x cs) : ∃ A3 c3, cs = [.int .i64 x.f0, .int .i64 x.f1, .int .i64 x.f2, .slice A3 x.f3.length c3] ∧ x.f3.length ≤ c3 ∧ k89.C w A3 x.f3.length x.f3 := by
 obtain ⟨_, _, rfl, rfl, ⟨_, _, rfl, rfl, ⟨_, _, rfl, rfl, ⟨A3, c3, rfl, l3, g3⟩⟩⟩⟩ := h
 exact ⟨A3, c3, rfl, l3, g3⟩
theorem k167_mk (w : World) (x : S167) {A3 : Option Addr} {c3 : Nat} (l3 : x.f3.length ≤ c3) (g3 : k89.C w A3 x.f3.length x.f3) : k167.K w x [.int .i64 x.f0, .int .i64 x.f1, .int .i64 x.f2, .slice A3 x.f3.length c3] := ⟨[.int .i64 x.f0], [.int .i64 x.f1, .int .i64 x.f2, .slice A3 x.f3.length c3], rfl, rfl, ⟨[.int .i64 x.f1], [.int .i64 x.f2, .slice A3 x.f3.length c3], rfl, rfl, ⟨[.int .i64 x.f2], [.slice A3 x.f3.length c3], rfl, rfl, ⟨A3, c3, rfl, l3, g3⟩⟩⟩⟩
theorem k167_openF {W : World} {ok : Nat → Prop} {x : S167} {cs : List Value} (h : Kd.FK k167 W ok x cs) : ∃ A3 c3, cs = [.int .i64 x.f0, .int .i64 x.f1, .int .i64 x.f2, .slice A3 x.f3.length c3] ∧ x.f3.length ≤ c3 ∧ Kd.F k89 W ok A3 x.f3.length x.f3 := by
 obtain ⟨A3, c3, rfl, l3, _⟩ := k167_open (Kd.FK_now h)
 exact ⟨A3, c3, rfl, l3, (fun W' hW => by obtain ⟨A3_, c3_, he, l3_, g3_⟩ := k167_open (h W' hW); injection (Option.some.inj (show some (Value.slice A3 x.f3.length c3) = some (Value.slice A3_ x.f3.length c3_) from congrArg (fun l => l[3]?) he)) with ha_ _ _; rw [ha_]; exact g3_)⟩
theorem k167_mkF (W : World) (ok : Nat → Prop) (x : S167) {A3 : Option Addr} {c3 : Nat} (l3 : x.f3.length ≤ c3) (g3 : Kd.F k89 W ok A3 x.f3.length x.f3) : Kd.FK k167 W ok x [.int .i64 x.f0, .int .i64 x.f1, .int .i64 x.f2, .slice A3 x.f3.length c3] := fun W2 hW => k167_mk W2 x l3 (g3 W2 hW)
def rd_T167 (xs : List S167) (i : Int) : S167 := xs.getD i.toNat z167
theorem at_T167 {w : World} {A : Option Addr} {n : Nat} {xs : List S167} (h : Kd.C k167 w A n xs) (i : Int) (h0 : 0 ≤ i) (h1 : i < n) : ∃ ad A3 c3, A = some ad ∧ w.cell? (ad.add (i.toNat * 4)) = some (.int .i64 (rd_T167 xs i).f0) ∧ w.cell? ⟨(ad.add (i.toNat * 4)).block, (ad.add (i.toNat * 4)).off + 1, none⟩ = some (.int .i64 (rd_T167 xs i).f1) ∧ w.cell? ⟨(ad.add (i.toNat * 4)).block, (ad.add (i.toNat * 4)).off + 2, none⟩ = some (.int .i64 (rd_T167 xs i).f2) ∧ w.cell? ⟨(ad.add (i.toNat * 4)).block, (ad.add (i.toNat * 4)).off + 3, none⟩ = some (.slice A3 (rd_T167 xs i).f3.length c3) ∧ (rd_T167 xs i).f3.length ≤ c3 ∧ k89.C w A3 (rd_T167 xs i).f3.length (rd_T167 xs i).f3 := by
 obtain ⟨ad, c, e, _, hK, hc0⟩ := Kd.C_get h z167 i h0 h1
 have hc : ∀ j u, c[j]? = some u → w.cell? (ad.add (i.toNat * 4 + j)) = some u := hc0
 obtain ⟨A3, c3, rfl, l3, g3⟩ := k167_open hK
 exact ⟨ad, A3, c3, e, hc 0 _ rfl, by rw [← add_field _ _ 1 (by omega)]; exact hc 1 _ rfl, by rw [← add_field _ _ 2 (by omega)]; exact hc 2 _ rfl, by rw [← add_field _ _ 3 (by omega)]; exact hc 3 _ rfl, l3, g3⟩
structure S66 where
 f0 : Int
 f1 : Int
def z66 : S66 := ⟨(0 : Int), (0 : Int)⟩
def k66 : Kd S66 := Kd.iso (Kd.pair (Kd.int .i64) (Kd.int .i64)) (fun x : S66 => (x.f0, x.f1))
theorem k66_open {w : World} {x : S66} {cs : List Value} (h : k66.K w x cs) : cs = [.int .i64 x.f0, .int .i64 x.f1] := by
 obtain ⟨_, _, rfl, rfl, rfl⟩ := h
 exact rfl
theorem k66_mkM (w : World) (base : Nat) (ok : Nat → Prop) (x : S66)  : k66.M w base ok x [.int .i64 x.f0, .int .i64 x.f1] := ⟨[.int .i64 x.f0], [.int .i64 x.f1], rfl, rfl, rfl⟩
structure S113 where
 f0 : Int
 f1 : S66
def z113 : S113 := ⟨(0 : Int), z66⟩
def k113 : Kd S113 := Kd.iso (Kd.pair (Kd.int .i64) k66) (fun x : S113 => (x.f0, x.f1))
theorem k113_open {w : World} {x : S113} {cs : List Value} (h : k113.K w x cs) : cs = [.int .i64 x.f0, .int .i64 x.f1.f0, .int .i64 x.f1.f1] := by
 obtain ⟨_, _, rfl, rfl, s1⟩ := h
 obtain rfl := k66_open s1
 exact rfl
theorem k113_mkM (w : World) (base : Nat) (ok : Nat → Prop) (x : S113)  : k113.M w base ok x [.int .i64 x.f0, .int .i64 x.f1.f0, .int .i64 x.f1.f1] := ⟨[.int .i64 x.f0], [.int .i64 x.f1.f0, .int .i64 x.f1.f1], rfl, rfl, (k66_mkM w base ok x.f1 )⟩
def rd_T113 (xs : List S113) (i : Int) : S113 := xs.getD i.toNat z113
theorem at_T113 {w : World} {A : Option Addr} {n : Nat} {xs : List S113} (h : Kd.C k113 w A n xs) (i : Int) (h0 : 0 ≤ i) (h1 : i < n) : ∃ ad , A = some ad ∧ w.cell? (ad.add (i.toNat * 3)) = some (.int .i64 (rd_T113 xs i).f0) ∧ w.cell? ⟨(ad.add (i.toNat * 3)).block, (ad.add (i.toNat * 3)).off + 1, none⟩ = some (.int .i64 (rd_T113 xs i).f1.f0) ∧ w.cell? ⟨(ad.add (i.toNat * 3)).block, (ad.add (i.toNat * 3)).off + 2, none⟩ = some (.int .i64 (rd_T113 xs i).f1.f1) := by
 obtain ⟨ad, c, e, _, hK, hc0⟩ := Kd.C_get h z113 i h0 h1
 have hc : ∀ j u, c[j]? = some u → w.cell? (ad.add (i.toNat * 3 + j)) = some u := hc0
 obtain rfl := k113_open hK
 exact ⟨ad, e, hc 0 _ rfl, by rw [← add_field _ _ 1 (by omega)]; exact hc 1 _ rfl, by rw [← add_field _ _ 2 (by omega)]; exact hc 2 _ rfl⟩
structure S137 where
 f0 : Int
 f1 : S66
def z137 : S137 := ⟨(0 : Int), z66⟩
def k137 : Kd S137 := Kd.iso (Kd.pair (Kd.int .i64) k66) (fun x : S137 => (x.f0, x.f1))
theorem k137_open {w : World} {x : S137} {cs : List Value} (h : k137.K w x cs) : cs = [.int .i64 x.f0, .int .i64 x.f1.f0, .int .i64 x.f1.f1] := by
 obtain ⟨_, _, rfl, rfl, s1⟩ := h
 obtain rfl := k66_open s1
 exact rfl
theorem k137_mkM (w : World) (base : Nat) (ok : Nat → Prop) (x : S137)  : k137.M w base ok x [.int .i64 x.f0, .int .i64 x.f1.f0, .int .i64 x.f1.f1] := ⟨[.int .i64 x.f0], [.int .i64 x.f1.f0, .int .i64 x.f1.f1], rfl, rfl, (k66_mkM w base ok x.f1 )⟩
def rd_T137 (xs : List S137) (i : Int) : S137 := xs.getD i.toNat z137
theorem at_T137 {w : World} {A : Option Addr} {n : Nat} {xs : List S137} (h : Kd.C k137 w A n xs) (i : Int) (h0 : 0 ≤ i) (h1 : i < n) : ∃ ad , A = some ad ∧ w.cell? (ad.add (i.toNat * 3)) = some (.int .i64 (rd_T137 xs i).f0) ∧ w.cell? ⟨(ad.add (i.toNat * 3)).block, (ad.add (i.toNat * 3)).off + 1, none⟩ = some (.int .i64 (rd_T137 xs i).f1.f0) ∧ w.cell? ⟨(ad.add (i.toNat * 3)).block, (ad.add (i.toNat * 3)).off + 2, none⟩ = some (.int .i64 (rd_T137 xs i).f1.f1) := by
 obtain ⟨ad, c, e, _, hK, hc0⟩ := Kd.C_get h z137 i h0 h1
 have hc : ∀ j u, c[j]? = some u → w.cell? (ad.add (i.toNat * 3 + j)) = some u := hc0
 obtain rfl := k137_open hK
 exact ⟨ad, e, hc 0 _ rfl, by rw [← add_field _ _ 1 (by omega)]; exact hc 1 _ rfl, by rw [← add_field _ _ 2 (by omega)]; exact hc 2 _ rfl⟩
structure S139 where
 f0 : Int
 f1 : S43
 f2 : S43
def z139 : S139 := ⟨(0 : Int), z43, z43⟩
def k139 : Kd S139 := Kd.iso (Kd.pair (Kd.int .i64) (Kd.pair k43 k43)) (fun x : S139 => (x.f0, x.f1, x.f2))
theorem k139_open {w : World} {x : S139} {cs : List Value} (h : k139.K w x cs) : cs = [.int .i64 x.f0, .int .i64 x.f1.f0, .int .i64 x.f1.f1, .int .i64 x.f2.f0, .int .i64 x.f2.f1] := by
 obtain ⟨_, _, rfl, rfl, ⟨_, _, rfl, s1, s3⟩⟩ := h
 obtain rfl := k43_open s1
 obtain rfl := k43_open s3
 exact rfl
theorem k139_mkM (w : World) (base : Nat) (ok : Nat → Prop) (x : S139)  : k139.M w base ok x [.int .i64 x.f0, .int .i64 x.f1.f0, .int .i64 x.f1.f1, .int .i64 x.f2.f0, .int .i64 x.f2.f1] := ⟨[.int .i64 x.f0], [.int .i64 x.f1.f0, .int .i64 x.f1.f1, .int .i64 x.f2.f0, .int .i64 x.f2.f1], rfl, rfl, ⟨[.int .i64 x.f1.f0, .int .i64 x.f1.f1], [.int .i64 x.f2.f0, .int .i64 x.f2.f1], rfl, (k43_mkM w base ok x.f1 ), (k43_mkM w base ok x.f2 )⟩⟩
def rd_T139 (xs : List S139) (i : Int) : S139 := xs.getD i.toNat z139
theorem at_T139 {w : World} {A : Option Addr} {n : Nat} {xs : List S139} (h : Kd.C k139 w A n xs) (i : Int) (h0 : 0 ≤ i) (h1 : i < n) : ∃ ad , A = some ad ∧ w.cell? (ad.add (i.toNat * 5)) = some (.int .i64 (rd_T139 xs i).f0) ∧ w.cell? ⟨(ad.add (i.toNat * 5)).block, (ad.add (i.toNat * 5)).off + 1, none⟩ = some (.int .i64 (rd_T139 xs i).f1.f0) ∧ w.cell? ⟨(ad.add (i.toNat * 5)).block, (ad.add (i.toNat * 5)).off + 2, none⟩ = some (.int .i64 (rd_T139 xs i).f1.f1) ∧ w.cell? ⟨(ad.add (i.toNat * 5)).block, (ad.add (i.toNat * 5)).off + 3, none⟩ = some (.int .i64 (rd_T139 xs i).f2.f0) ∧ w.cell? ⟨(ad.add (i.toNat * 5)).block, (ad.add (i.toNat * 5)).off + 4, none⟩ = some (.int .i64 (rd_T139 xs i).f2.f1) := by
 obtain ⟨ad, c, e, _, hK, hc0⟩ := Kd.C_get h z139 i h0 h1
 have hc : ∀ j u, c[j]? = some u → w.cell? (ad.add (i.toNat * 5 + j)) = some u := hc0
 obtain rfl := k139_open hK
 exact ⟨ad, e, hc 0 _ rfl, by rw [← add_field _ _ 1 (by omega)]; exact hc 1 _ rfl, by rw [← add_field _ _ 2 (by omega)]; exact hc 2 _ rfl, by rw [← add_field _ _ 3 (by omega)]; exact hc 3 _ rfl, by rw [← add_field _ _ 4 (by omega)]; exact hc 4 _ rfl⟩
theorem vb {P Q : Prop} (h : P) (q : P → Q := by intro h; (with_reducible repeat (first | refine blk_drewN ?_ _ | refine blk_drew ?_ | refine blk_alloc ?_ _)); exact h) : Q := q h
theorem v0 {P Q : Prop} (h : P) (q : P → Q := by intro h ; repeat (first | (with_reducible first | exact h | apply below_alloc | apply pw_below_drewN | apply below_drew1) | exact h)) : Q := q h 
theorem v1 {P G0 Q : Prop} (h : P) (g0 : G0) (q : P → G0 → Q := by intro h g0; repeat (first | (with_reducible first | exact h | apply below_alloc | apply pw_below_drewN | apply below_drew1 | refine below_set ?_ g0) | exact h)) : Q := q h g0
theorem v2 {P G0 G1 Q : Prop} (h : P) (g0 : G0) (g1 : G1) (q : P → G0 → G1 → Q := by intro h g0 g1; repeat (first | (with_reducible first | exact h | apply below_alloc | apply pw_below_drewN | apply below_drew1 | refine below_set ?_ g0 | refine below_set ?_ g1) | exact h)) : Q := q h g0 g1
theorem v3 {P G0 G1 G2 Q : Prop} (h : P) (g0 : G0) (g1 : G1) (g2 : G2) (q : P → G0 → G1 → G2 → Q := by intro h g0 g1 g2; repeat (first | (with_reducible first | exact h | apply below_alloc | apply pw_below_drewN | apply below_drew1 | refine below_set ?_ g0 | refine below_set ?_ g1 | refine below_set ?_ g2) | exact h)) : Q := q h g0 g1 g2
theorem v4 {P G0 G1 G2 G3 Q : Prop} (h : P) (g0 : G0) (g1 : G1) (g2 : G2) (g3 : G3) (q : P → G0 → G1 → G2 → G3 → Q := by intro h g0 g1 g2 g3; repeat (first | (with_reducible first | exact h | apply below_alloc | apply pw_below_drewN | apply below_drew1 | refine below_set ?_ g0 | refine below_set ?_ g1 | refine below_set ?_ g2 | refine below_set ?_ g3) | exact h)) : Q := q h g0 g1 g2 g3
theorem v5 {P G0 G1 G2 G3 G4 Q : Prop} (h : P) (g0 : G0) (g1 : G1) (g2 : G2) (g3 : G3) (g4 : G4) (q : P → G0 → G1 → G2 → G3 → G4 → Q := by intro h g0 g1 g2 g3 g4; repeat (first | (with_reducible first | exact h | apply below_alloc | apply pw_below_drewN | apply below_drew1 | refine below_set ?_ g0 | refine below_set ?_ g1 | refine below_set ?_ g2 | refine below_set ?_ g3 | refine below_set ?_ g4) | exact h)) : Q := q h g0 g1 g2 g3 g4
theorem v6 {P G0 G1 G2 G3 G4 G5 Q : Prop} (h : P) (g0 : G0) (g1 : G1) (g2 : G2) (g3 : G3) (g4 : G4) (g5 : G5) (q : P → G0 → G1 → G2 → G3 → G4 → G5 → Q := by intro h g0 g1 g2 g3 g4 g5; repeat (first | (with_reducible first | exact h | apply below_alloc | apply pw_below_drewN | apply below_drew1 | refine below_set ?_ g0 | refine below_set ?_ g1 | refine below_set ?_ g2 | refine below_set ?_ g3 | refine below_set ?_ g4 | refine below_set ?_ g5) | exact h)) : Q := q h g0 g1 g2 g3 g4 g5
theorem v7 {P G0 G1 G2 G3 G4 G5 G6 Q : Prop} (h : P) (g0 : G0) (g1 : G1) (g2 : G2) (g3 : G3) (g4 : G4) (g5 : G5) (g6 : G6) (q : P → G0 → G1 → G2 → G3 → G4 → G5 → G6 → Q := by intro h g0 g1 g2 g3 g4 g5 g6; repeat (first | (with_reducible first | exact h | apply below_alloc | apply pw_below_drewN | apply below_drew1 | refine below_set ?_ g0 | refine below_set ?_ g1 | refine below_set ?_ g2 | refine below_set ?_ g3 | refine below_set ?_ g4 | refine below_set ?_ g5 | refine below_set ?_ g6) | exact h)) : Q := q h g0 g1 g2 g3 g4 g5 g6
theorem v8 {P G0 G1 G2 G3 G4 G5 G6 G7 Q : Prop} (h : P) (g0 : G0) (g1 : G1) (g2 : G2) (g3 : G3) (g4 : G4) (g5 : G5) (g6 : G6) (g7 : G7) (q : P → G0 → G1 → G2 → G3 → G4 → G5 → G6 → G7 → Q := by intro h g0 g1 g2 g3 g4 g5 g6 g7; repeat (first | (with_reducible first | exact h | apply below_alloc | apply pw_below_drewN | apply below_drew1 | refine below_set ?_ g0 | refine below_set ?_ g1 | refine below_set ?_ g2 | refine below_set ?_ g3 | refine below_set ?_ g4 | refine below_set ?_ g5 | refine below_set ?_ g6 | refine below_set ?_ g7) | exact h)) : Q := q h g0 g1 g2 g3 g4 g5 g6 g7
theorem v9 {P G0 G1 G2 G3 G4 G5 G6 G7 G8 Q : Prop} (h : P) (g0 : G0) (g1 : G1) (g2 : G2) (g3 : G3) (g4 : G4) (g5 : G5) (g6 : G6) (g7 : G7) (g8 : G8) (q : P → G0 → G1 → G2 → G3 → G4 → G5 → G6 → G7 → G8 → Q := by intro h g0 g1 g2 g3 g4 g5 g6 g7 g8; repeat (first | (with_reducible first | exact h | apply below_alloc | apply pw_below_drewN | apply below_drew1 | refine below_set ?_ g0 | refine below_set ?_ g1 | refine below_set ?_ g2 | refine below_set ?_ g3 | refine below_set ?_ g4 | refine below_set ?_ g5 | refine below_set ?_ g6 | refine below_set ?_ g7 | refine below_set ?_ g8) | exact h)) : Q := q h g0 g1 g2 g3 g4 g5 g6 g7 g8
theorem vs {Q : Prop} (q : Q := by simp only [Act.put, List.setIfInBounds_toArray, List.set_cons_zero, List.set_cons_succ, i64_w, i32_w]; rfl) : Q := q
theorem va {Q : Prop} (q : Q := by first | (with_reducible assumption) | assumption) : Q := q
theorem ve {Q : Prop} (q : Q := by first | rfl | (simp; done) | (simp [*]; done)) : Q := q
theorem vf {Q : Prop} (q : Q := by first | rfl | (simp [errW_none, errW_some] <;> rfl) | (simp [*, errW_none, errW_some] <;> rfl)) : Q := q
theorem am {p : Prop} (h : p) : Aside0 p := Aside0.mk h
theorem wb (w : World) (a : Addr) {u : Value} (h : w.cell? a = some u) : a.block < w.heap.size := World.block_lt_of_cell? w a h
theorem kr {Q : Prop} (q : Q := by kernel_rfl) : Q := q
def ab (n m : Nat) : Array Bool := ⟨(List.range n).map m.testBit⟩
theorem bc {w : World} {g : Nat} {t : TypeId} {cs : Array Value} (h : w.heap[g]? = some (.cells cs t (0, 0))) (i : Nat) (v : Value) (q : cs[i]? = some v := by rfl) : w.cell? ⟨g, i, none⟩ = some v := (blk_cell h i).trans q
theorem vm {Q : Prop} (q : Q := by (try simp only [List.map_toArray, List.map_cons, List.map_nil]); first | done | rfl | (simp only [List.length_drop, List.length_take]; rfl)) : Q := q
theorem vn {Q : Prop} (q : Q := by (try simp only [List.map_toArray, List.map_cons, List.map_nil]); first | done | rfl) : Q := q
theorem vh {w : World} {g : Nat} {t : TypeId} {cs : Array Value} {p p' : Addr} {u u' : Value} (h : w.heap[g]? = some (.cells cs t (0, 0))) (n : g ≠ p.block) (e : p'.block = p.block := by rfl) : ((w.setCell p u).setCell p' u').heap[g]? = some (.cells cs t (0, 0)) := blk_far (blk_far h n _) (e ▸ n) _
theorem vi {w : World} {g : Nat} {t : TypeId} {cs : Array Value} {p p' p'' : Addr} {u u' u'' : Value} (h : w.heap[g]? = some (.cells cs t (0, 0))) (n : g ≠ p.block) (e : p'.block = p.block := by rfl) (e' : p''.block = p.block := by rfl) : (((w.setCell p u).setCell p' u').setCell p'' u'').heap[g]? = some (.cells cs t (0, 0)) := blk_far (blk_far (blk_far h n _) (e ▸ n) _) (e' ▸ n) _
section
variable {P : Program} {ops : Array Oper} {Q : Exit → Act → World → Prop} {md : Region.Mode} {S : World → Prop} {ds : List Nat} {T : Bool × List (List Nat × List Nat)}
theorem pA {oi : Oper} {fuel : Nat} {l : Array Bool} {a : Act} {w : World} (i : Nat) (N : Option Tmp) (v : Value) (n m : Nat) (hT : rtab md ops = T)
    (hy : ∀ w, (execOp a.eval oi).run P w = .ok (.value v) w) (a' : Act) (ha : a.put N v = a') (h : wpAnyLast P md ops Q S ds fuel (ab n m) a' w)
    (hi : ops[i]? = some oi := by rfl) (hN : oi.dst = N := by rfl) (hc : anyT T l.toList (ab n m).toList i = true := by kernel_rfl)
    (hQ : ∀ c a w, Q (.panic c) (a.put oi.dst v) w → Q (.panic c) a w := by intro _ _ _ h; exact h) (hy1 : Region.wanted oi (yielded ops a.tmps) = true := by rfl) : wpAnyLast P md ops Q S ds (fuel + 1) l a w :=
  pure_ (ab n m) hi hN (any_of hT hc) hQ (Or.inl ⟨hy1, hy⟩) ha h
theorem tA {B : List Nat} {oi : Oper} {fuel : Nat} {l : Array Bool} {a : Act} {w : World} (i : Nat) (N : Option Tmp) (v : Value) (n m : Nat) (hT : rtab md ops = T) (hB : waitsOk T.2 B = true)
    (hy : ∀ w, S w → (execOp a.eval oi).run P w = .ok (.value v) w) (hS : S w) (a' : Act) (ha : a.put N v = a') (h : wpAnyLast P md ops Q S ds fuel (ab n m) a' w)
    (hi : ops[i]? = some oi := by rfl) (hN : oi.dst = N := by rfl) (hc : takeW T B ds l.toList (ab n m).toList i = true := by kernel_rfl)
    (hQ : ∀ c a w, Q (.panic c) (a.put oi.dst v) w → Q (.panic c) a w := by intro _ _ _ h; exact h) (hy1 : Region.wanted oi (yielded ops a.tmps) = true := by rfl) : wpAnyLast P md ops Q S ds (fuel + 1) l a w :=
  take_ (ab n m) hi hN (take_ofW hT hB hc) hQ (Or.inl ⟨hy1, hy⟩) hS ha h
end
section
variable {P : Program} {ops : Array Oper} {Q : Exit → Act → World → Prop} {md : Region.Mode} {S : World → Prop} {ds : List Nat}
theorem qA {oi : Oper} {fuel n k : Nat} {v : Value} {a a' : Act} {w : World} (i : Nat) (N : Option Tmp) (h : wpAnyLast P md ops Q S ds fuel (ab n (Nat.lor k (Nat.shiftLeft 1 i))) a' w)
    (hi : ops[i]? = some oi := by rfl) (hN : oi.dst = N := by rfl) (hc : anyB md ops (ab n k) (ab n (Nat.lor k (Nat.shiftLeft 1 i))) i = true := by first | exact any_of HT_.out (by kernel_rfl) | kernel_rfl) (h1 : Region.wanted oi (yielded ops a.tmps) = true := by rfl)
    (hy : ∀ w, (execOp a.eval oi).run P w = .ok (.value v) w := by intro w'; go_simp; with_reducible rfl) (ha : a.put N v = a' := by exact vs)
    (hQ : ∀ c a w, Q (.panic c) (a.put oi.dst v) w → Q (.panic c) a w := by exact fun _ _ _ h => h) : wpAnyLast P md ops Q S ds (fuel + 1) (ab n k) a w :=
  pure_ _ hi hN hc hQ (Or.inl ⟨h1, hy⟩) ha h
theorem qO {oi : Oper} {fuel n k : Nat} {a a' : Act} {w : World} (i : Nat) (N : Option Tmp) (h : wpAnyLast P md ops Q S ds fuel (ab n (Nat.lor k (Nat.shiftLeft 1 i))) a' w)
    (hi : ops[i]? = some oi := by rfl) (hN : oi.dst = N := by rfl) (hc : anyB md ops (ab n k) (ab n (Nat.lor k (Nat.shiftLeft 1 i))) i = true := by first | exact any_of HT_.out (by kernel_rfl) | kernel_rfl) (h1 : Region.wanted oi (yielded ops a.tmps) = false := by rfl)
    (ha : a.put N undef = a' := by exact vs)
    (hQ : ∀ c a w, Q (.panic c) (a.put oi.dst undef) w → Q (.panic c) a w := by exact fun _ _ _ h => h) : wpAnyLast P md ops Q S ds (fuel + 1) (ab n k) a w :=
  pure_ _ hi hN hc hQ (Or.inr ⟨h1, rfl⟩) ha h
theorem qT {oi : Oper} {fuel n k : Nat} {v : Value} {a a' : Act} {w : World} (i : Nat) (N : Option Tmp) (h : wpAnyLast P md ops Q S ds fuel (ab n (Nat.lor k (Nat.shiftLeft 1 i))) a' w)
    (hi : ops[i]? = some oi := by rfl) (hN : oi.dst = N := by rfl) (hc : takeB md ops ds (ab n k) (ab n (Nat.lor k (Nat.shiftLeft 1 i))) i = true := by first | exact take_ofW HT_.out HW_.out (by kernel_rfl) | kernel_rfl) (h1 : Region.wanted oi (yielded ops a.tmps) = true := by rfl)
    (hy : ∀ w, S w → (execOp a.eval oi).run P w = .ok (.value v) w := by intro w' hA_; (try dsimp only at hA_); repeat (have hB_ := And.left hA_; replace hA_ := And.right hA_); go_simp; with_reducible rfl) (hS : S w := by exact hHeld) (ha : a.put N v = a' := by exact vs)
    (hQ : ∀ c a w, Q (.panic c) (a.put oi.dst v) w → Q (.panic c) a w := by exact fun _ _ _ h => h) : wpAnyLast P md ops Q S ds (fuel + 1) (ab n k) a w :=
  take_ _ hi hN hc hQ (Or.inl ⟨h1, hy⟩) hS ha h
theorem qE {oi : Oper} {fuel n k : Nat} {a : Act} {w : World} (i : Nat) (N : Option Tmp)
    (h : ∀ K : Act → World → Prop, Shut (∀ a' w', S w' → (S w' → wpAnyLast P md ops Q S ds fuel (ab n (Nat.lor k (Nat.shiftLeft 1 i))) a' w') → K a' w') → if Region.wanted oi (yielded ops a.tmps) = true then Oper.wp P oi a w K Q else K (a.put N undef) w)
    (hi : ops[i]? = some oi := by rfl) (hN : oi.dst = N := by rfl) (hc : readyB md ops (ab n k) (ab n (Nat.lor k (Nat.shiftLeft 1 i))) i = true := by first | exact one_of HT_.out (by kernel_rfl) | kernel_rfl) (hd : i ∉ ds := by decide) : wpAnyLast P md ops Q S ds (fuel + 1) (ab n k) a w :=
  one_ _ hi hN hc hd h
theorem qL {oi : Oper} {fuel n k : Nat} {a : Act} {w : World} (i : Nat) (N : Option Tmp)
    (h : ∀ K : Act → World → Prop, Shut (∀ a' w', wpAnyLast P md ops Q S ds fuel (ab n (Nat.lor k (Nat.shiftLeft 1 i))) a' w' → K a' w') → if Region.wanted oi (yielded ops a.tmps) = true then Oper.wp P oi a w K Q else K (a.put N undef) w)
    (hi : ops[i]? = some oi := by rfl) (hN : oi.dst = N := by rfl) (hc : readyB md ops (ab n k) (ab n (Nat.lor k (Nat.shiftLeft 1 i))) i = true := by first | exact one_of HT_.out (by kernel_rfl) | kernel_rfl) (hd : i ∈ ds := by decide) : wpAnyLast P md ops Q S ds (fuel + 1) (ab n k) a w :=
  last_ _ hi hN hc hd h
theorem qN {fuel : Nat} {l : Array Bool} {a a' : Act} {v : Value} {w : World} (N : Option Tmp) (h : wpAnyLast P md ops Q S ds fuel l a' w) (ha : a.put N v = a' := by exact vs) : wpAnyLast P md ops Q S ds fuel l (a.put N v) w := norm_ ha h
theorem gC {oi : Oper} {N : Option Tmp} {a : Act} {w : World} {K : Act → World → Prop} {f : FuncId} {fn : Func} {xs : Array Operand} {ts : Array TypeId} (hf : P.funcs[f]? = some fn) (args : Array Value)
    (h : Calls P f args w fun e w' => ∃ v, e = .returned v ∧ K (a.put N v) w') (hop : oi.op = .call { callee := .value (.func f), args := xs, argTypes := ts } := by rfl) (hN : oi.dst = N := by rfl) (hw : Region.wanted oi (yielded ops a.tmps) = true := by rfl)
    (hname : (fn.name == "runtime.NumGoroutine") = false := by kernel_rfl) (hb : fn.body.isSome = true := by rfl) (hargs : xs.map a.eval = args := by exact vm) : if Region.wanted oi (yielded ops a.tmps) = true then Oper.wp P oi a w K Q else K (a.put N undef) w :=
  goes_ hf hname hb args hw hN hop hargs h
theorem cE {rest : List Oper} {oi : Oper} {a : Act} {w : World} (N : Option Tmp) {f : FuncId} {fn : Func} {xs : Array Operand} {ts : Array TypeId} (hf : P.funcs[f]? = some fn) (args : Array Value)
    (h : Calls P f args w fun e w' => ∃ v, e = .returned v ∧ wpList P ops Q rest (a.put N v) w') (hop : oi.op = .call { callee := .value (.func f), args := xs, argTypes := ts } := by with_reducible rfl) (hd : oi.dst = N := by rfl) (hg : oi.guard = none := by rfl)
    (hname : (fn.name == "runtime.NumGoroutine") = false := by kernel_rfl) (hb : fn.body.isSome = true := by rfl) (hargs : xs.map a.eval = args := by exact vm) : wpList P ops Q (oi :: rest) a w := goesL_ N hd hg hf hname hb args hop hargs h
theorem bE {o : Oper} {rest : List Oper} {a : Act} {W : World} (N : Tmp) (cs : Array Value) (t : TypeId)
    (h : ∀ g, g = W.heap.size → ∀ w1, w1.heap[g]? = some (.cells cs t (0, 0)) → Below W.heap.size W w1 → wpList P ops Q rest (a.put o.dst (.pointer (some ⟨g, 0, none⟩))) w1) (hd : o.dst = some N := by with_reducible rfl) (hg : o.guard = none := by rfl)
    (hrun : (execOp a.eval o).run P W = .ok (.value (.pointer (some ⟨W.heap.size, 0, none⟩))) (W.alloc (.cells cs t (0, 0))) := by first | (go_simp; done) | (go_simp; rfl)) : wpList P ops Q (o :: rest) a W := box_event hg hd hrun h
end
abbrev ii : Int → Value := Value.int .i64
theorem g_ {P : Program} {ops : Array Oper} {Q : Exit → Act → World → Prop} {l : List Oper} {a : Act} {w : World} (h : wpList P ops Q l a w) : wpList P ops Q l a w := h
theorem nP {P : Program} {ops : Array Oper} {Q : Exit → Act → World → Prop} {md : Region.Mode} {S : World → Prop} {ds : List Nat} {fuel : Nat} {l : Array Bool} {a a' : Act} {w : World} (h : wpAnyLast P md ops Q S ds fuel l a' w)
    (ha : a = a' := by first | (simp only [Go.Proofs.YtjjfpmapjjemcaaGreatW.PrintLast.putAll, Act.put, List.setIfInBounds_toArray, List.set_cons_zero, List.set_cons_succ]; done) | (simp only [Go.Proofs.YtjjfpmapjjemcaaGreatW.PrintLast.putAll, Act.put, List.setIfInBounds_toArray, List.set_cons_zero, List.set_cons_succ]; rfl)) : wpAnyLast P md ops Q S ds fuel l a w := norm_ ha h
theorem nI {P : Program} {ops : Array Oper} {Q : Exit → Act → World → Prop} {md : Region.Mode} {S : World → Prop} {ds : List Nat} {fuel : Nat} {l : Array Bool} {a a' : Act} {w : World} (h : wpAnyLast P md ops Q S ds fuel l a' w)
    (ha : a = a' := by first | (simp only [Go.Proofs.YtjjfpmapjjemcaaGreatW.PrintLast.putAll, Act.put, List.setIfInBounds_toArray, List.set_cons_zero, List.set_cons_succ, i64_w, i32_w]; done) | (simp only [Go.Proofs.YtjjfpmapjjemcaaGreatW.PrintLast.putAll, Act.put, List.setIfInBounds_toArray, List.set_cons_zero, List.set_cons_succ, i64_w, i32_w]; rfl)) : wpAnyLast P md ops Q S ds fuel l a w := norm_ ha h
theorem wV {P Q : Prop} (h : P) (q : P → Q := by intro h; (with_reducible repeat (first | apply Kd.V_alloc | apply Kd.V_drewN | apply Kd.V_drew)); exact h) : Q := q h
theorem wR {P Q : Prop} (h : P) (q : P → Q := by intro h; (with_reducible repeat (first | apply Kd.R_alloc | apply Kd.R_drewN | apply Kd.R_drew)); exact h) : Q := q h
theorem lg {a b g : Nat} (hg : g = b) (h : a ≤ b) : a ≤ g := hg ▸ h
theorem nl {w : World} {g g' : Nat} {o : Obj} (hg : g' = w.heap.size) (h : w.heap[g]? = some o) : g ≠ g' := hg ▸ Nat.ne_of_lt (blk_lt h)
theorem dz {w' w : World} {g : Nat} {o : Obj} (hq : w' = w) (h : w'.heap[g]? = some o) : w.heap[g]? = some o := hq ▸ h
theorem dy {w' w u : World} {b : Nat} (hq : w' = w) (h : Below b u w') : Below b u w := hq ▸ h
theorem bd {w : World} {g : Nat} {t : TypeId} {cs : Array Value} {v : Value} (h : w.heap[g]? = some (.cells cs t (0, 0))) (i : Nat) (q : cs[i]? = some v := by rfl) : w.cell? ⟨g, i, none⟩ = some v := (blk_cell h i).trans q
end
section
open Go.ChangeShapes Go.WideShapes
theorem collect {α : Type} {p : Nat → α → Prop} : ∀ n : Nat,(∀ i,i < n → ∃ x,p i x) → ∃ ps : List α,ps.length = n ∧ ∀ i x,ps[i]? = some x → p i x
|0,_ => ⟨[],rfl,fun i p h => by simp at h⟩
|n + 1,h => by
  obtain ⟨ps,h1,h2⟩:=collect n (fun i hi => h i (by omega))
  obtain ⟨x,hx⟩:=h n (by omega)
  refine ⟨ps ++ [x],by simp [h1],fun i q hq => ?_⟩
  by_cases hi : i < ps.length
  ·rw [List.getElem?_append_left hi] at hq
   exact h2 i q hq
  ·rw [List.getElem?_append_right (by omega)] at hq
   have : i = n:=by
    have:=(List.getElem?_eq_some_iff.1 hq).1
    simp at this
    omega
   subst this
   rw [h1,Nat.sub_self] at hq
   simp at hq
   subst hq
   exact hx
def Opens {α : Type} (d : Kd α) (t : TypeId) (Ok : α → Prop) : Prop :=
 ∀ {H : Type} {enc : TypeId × Value → H} {w : World} {base : Nat} {spare : Nat → Bool} {held : Bool} {fuel : Nat} {cs : List Value} {x : DataW H × List MemPlace},
  DataW.trod enc Tryz.prog w base spare held fuel t cs = some x → ∃ a,d.K w a cs ∧ Ok a
theorem opens_int {k : IntKind} {t : TypeId} (ht : Tryz.prog.underlying t = some (.int k)) : Opens (Kd.int k) t (fun n => (Lit.int k n).wf = true):=by
 intro H enc w base spare held fuel cs x h
 obtain ⟨n,rfl,_,hw⟩:=DataW.trod_int ht h
 exact ⟨n,rfl,hw⟩
theorem opens_slice {α : Type} {d : Kd α} {e t : TypeId} {Ok : α → Prop} (hd : Opens d e Ok) (hsz : Tryz.prog.cellsOf e = d.sz) (ht : Tryz.prog.underlying t = some (.slice e)) : Opens (Kd.slice e d) t (fun xs => ∀ x ∈ xs,Ok x):=by
 intro H enc w base spare held fuel cs x h
 rcases Go.Deep.open_slice ht h with ⟨rfl,_⟩|⟨a,len,cap,m,n,D,Pl,rfl,hb,hl,hm,hmm,_,hx⟩
 ·exact ⟨[],⟨none,0,rfl,Nat.le_refl _,rfl,by simp,fun h => absurd h (by simp)⟩,by simp⟩
 ·have hle : len ≤ m:=by rw [hmm];split <;> omega
  have each : ∀ i,i < len → ∃ p : α,(∃ c,c.length = d.sz ∧ d.K w p c ∧ ∀ j u,c[j]? = some u → w.cell? (a.add (i * d.sz + j)) = some u) ∧ Ok p:=by
   intro i hi
   obtain ⟨cs',h1,h2⟩:=hx i (by omega)
   obtain ⟨p,hk,ho⟩:=hd h2
   obtain ⟨_,hlen,hc⟩:=World.cells?_some h1
   rw [hsz] at hlen hc
   refine ⟨p,⟨cs',hlen,hk,fun j u hu => ?_⟩,ho⟩
   have hj : j < d.sz:=by have:=(List.getElem?_eq_some_iff.1 hu).1;omega
   rw [← Go.Deep.add_add,hc j hj,hu]
  obtain ⟨ps,h1,h2⟩:=collect len each
  subst h1
  refine ⟨ps,⟨some a,cap,rfl,hl,rfl,by have : maxLen ≤ 9223372036854775807:=by {unfold maxLen;omega};omega,fun _ => ⟨a,rfl,fun j p hp => (h2 j p hp).1⟩⟩,fun x hx => ?_⟩
  obtain ⟨i,hi⟩:=List.mem_iff_getElem?.1 hx
  exact (h2 i x hi).2
def W64 (n : Int) : Prop:=(Lit.int .i64 n).wf = true
theorem cell_take {cs : List Value} {i : Nat} {v : Value} (h : (cs.drop i).take 1 = [v]) : cs[i]? = some v:=by
 have h1:=congrArg (fun l => l[0]?) h
 simpa [List.getElem?_take,List.getElem?_drop] using h1
theorem list2 {cs : List Value} {a b : Value} (hl : cs.length = 2) (h0 : cs[0]? = some a) (h1 : cs[1]? = some b) : cs = [a,b]:=by
 match cs,hl with
|[x,y],_ => simp at h0 h1;simp [h0,h1]
theorem agg_of {cs : Array Value} {l : List Value} (h : cs.toList = l) : Value.agg cs = .agg l.toArray:=by
 subst h
 simp
theorem cellsOf3 : Tryz.prog.cellsOf 3 = 1:=by kernel_rfl
end
def ratioP (n d : Int) : S43:=⟨n / (Int.gcd n d : Int),d / (Int.gcd n d : Int)⟩
def Rok (r : S43) : Prop:=0 ≤ r.f0 ∧ 1 ≤ r.f1 ∧ Int.gcd r.f0 r.f1 = 1
theorem ratioP_ok {n d : Int} (hn : 0 ≤ n) (hd : 1 ≤ d) : Rok (ratioP n d):=by
 obtain ⟨n,rfl⟩:=Int.eq_ofNat_of_zero_le hn
 obtain ⟨d,rfl⟩:=Int.eq_ofNat_of_zero_le (show 0 ≤ d by omega)
 have hd' : 0 < d:=by omega
 have hg : 0 < Nat.gcd n d:=Nat.gcd_pos_of_pos_right _ hd'
 unfold Rok ratioP
 simp only [Int.gcd_natCast_natCast]
 refine ⟨Int.ediv_nonneg (Int.natCast_nonneg _) (Int.natCast_nonneg _),?_,?_⟩
 ·have h1 : 1 ≤ d / Nat.gcd n d:=Nat.div_pos (Nat.le_of_dvd hd' (Nat.gcd_dvd_right _ _)) hg
  have h2 : ((d / Nat.gcd n d : Nat) : Int) = (d : Int) / (Nat.gcd n d : Int):=Int.natCast_ediv _ _
  omega
 ·rw [← Int.natCast_ediv,← Int.natCast_ediv,Int.gcd_natCast_natCast]
  exact Nat.coprime_div_gcd_div_gcd hg
theorem ratioP_cross {n d : Int} (hn : 0 ≤ n) (hd : 1 ≤ d) : (ratioP n d).f0 * d = n * (ratioP n d).f1:=by
 obtain ⟨n,rfl⟩:=Int.eq_ofNat_of_zero_le hn
 obtain ⟨d,rfl⟩:=Int.eq_ofNat_of_zero_le (show 0 ≤ d by omega)
 unfold ratioP
 simp only [Int.gcd_natCast_natCast]
 obtain ⟨a,ha⟩:=Nat.gcd_dvd_left n d
 obtain ⟨b,hb⟩:=Nat.gcd_dvd_right n d
 have hg : 0 < Nat.gcd n d:=Nat.gcd_pos_of_pos_right _ (by omega)
 obtain ⟨g,hgg⟩ : ∃ g,g = Nat.gcd n d:=⟨_,rfl⟩
 rw [← hgg] at ha hb hg ⊢
 have e1 : n / g = a:=by rw [ha];exact Nat.mul_div_cancel_left _ hg
 have e2 : d / g = b:=by rw [hb];exact Nat.mul_div_cancel_left _ hg
 rw [← Int.natCast_ediv,← Int.natCast_ediv,e1,e2,ha,hb,← Int.natCast_mul,← Int.natCast_mul]
 congr 1
 ac_rfl
theorem nat_uniq {a b c d : Nat} (hb : 0 < b) (hd : 0 < d) (h1 : Nat.Coprime a b) (h2 : Nat.Coprime c d) (h : a * d = c * b) : a = c ∧ b = d:=by
 have k1 : b ∣ d:=h1.symm.dvd_of_dvd_mul_left (show b ∣ a * d by rw [h];exact Nat.dvd_mul_left _ _)
 have k2 : d ∣ b:=h2.symm.dvd_of_dvd_mul_left (show d ∣ c * b by rw [← h];exact Nat.dvd_mul_left _ _)
 have e:=Nat.dvd_antisymm k1 k2
 subst e
 exact ⟨Nat.eq_of_mul_eq_mul_right hb h,rfl⟩
theorem Rok.uniq {a b : S43} (ha : Rok a) (hb : Rok b) (h : a.f0 * b.f1 = b.f0 * a.f1) : a = b:=by
 obtain ⟨a0,a1⟩:=a
 obtain ⟨b0,b1⟩:=b
 obtain ⟨h1,h2,h3⟩:=ha
 obtain ⟨h4,h5,h6⟩:=hb
 simp only at h1 h2 h3 h4 h5 h6 h
 obtain ⟨a0,rfl⟩:=Int.eq_ofNat_of_zero_le h1
 obtain ⟨a1,rfl⟩:=Int.eq_ofNat_of_zero_le (show 0 ≤ a1 by omega)
 obtain ⟨b0,rfl⟩:=Int.eq_ofNat_of_zero_le h4
 obtain ⟨b1,rfl⟩:=Int.eq_ofNat_of_zero_le (show 0 ≤ b1 by omega)
 rw [Int.gcd_natCast_natCast] at h3 h6
 obtain ⟨rfl,rfl⟩:=nat_uniq (by omega) (by omega) h3 h6 (by exact_mod_cast h)
 rfl
theorem mul_cancel {a b c : Int} (hc : 1 ≤ c) (h : a * c = b * c) : a = b:=Int.eq_of_mul_eq_mul_right (by omega) h
theorem ratioP_eq {n d n' d' : Int} (hn : 0 ≤ n) (hd : 1 ≤ d) (hn' : 0 ≤ n') (hd' : 1 ≤ d') (h : n * d' = n' * d) : ratioP n d = ratioP n' d':=by
 have o1:=ratioP_ok hn hd
 have o2:=ratioP_ok hn' hd'
 have c1:=ratioP_cross hn hd
 have c2:=ratioP_cross hn' hd'
 refine o1.uniq o2 ?_
 generalize ratioP n d = x at *
 generalize ratioP n' d' = y at *
 refine mul_cancel (c:=d * d') (by have:=Int.mul_le_mul hd hd' (by omega) (by omega);omega) ?_
 calc x.f0 * y.f1 * (d * d') = (x.f0 * d) * (y.f1 * d'):=by ac_rfl
  _ = (n * x.f1) * (y.f1 * d'):=by rw [c1]
  _ = (n * d') * (x.f1 * y.f1):=by ac_rfl
  _ = (n' * d) * (x.f1 * y.f1):=by rw [h]
  _ = (n' * y.f1) * (x.f1 * d):=by ac_rfl
  _ = (y.f0 * d') * (x.f1 * d):=by rw [c2]
  _ = y.f0 * x.f1 * (d * d'):=by ac_rfl
def addP (a b : S43) : S43:=ratioP (a.f0 * b.f1 + b.f0 * a.f1) (a.f1 * b.f1)
def timesP (a : S43) (n m : Int) : S43:=ratioP (a.f0 * n) (a.f1 * m)
def wholeP (n : Int) : S43:=⟨n,1⟩
def validP (r : S43) : Bool:=decide ((0 ≤ r.f0 ∧ r.f0 ≤ 68719476736) ∧ (1 ≤ r.f1 ∧ r.f1 ≤ 16777216) ∧ Int.gcd r.f0 r.f1 = 1)
def fineP (r : S43) : Bool:=validP r && decide (r.f1 ≤ 16384)
def cmpP (a b : S43) : Int:=if a.f0 * b.f1 < b.f0 * a.f1 then -1 else if a.f0 * b.f1 > b.f0 * a.f1 then 1 else 0
theorem validP_ok {r : S43} (h : validP r = true) : Rok r ∧ r.f0 ≤ 68719476736 ∧ r.f1 ≤ 16777216:=by
 unfold validP at h
 have:=of_decide_eq_true h
 exact ⟨⟨this.1.1,this.2.1.1,this.2.2⟩,this.1.2,this.2.1.2⟩
theorem validP_of {r : S43} (h : Rok r) (h1 : r.f0 ≤ 68719476736) (h2 : r.f1 ≤ 16777216) : validP r = true:=decide_eq_true ⟨⟨h.1,h1⟩,⟨h.2.1,h2⟩,h.2.2⟩
theorem mul_nonneg_ {a b : Int} (h1 : 0 ≤ a) (h2 : 0 ≤ b) : 0 ≤ a * b:=Int.mul_nonneg h1 h2
theorem mul_pos_ {a b : Int} (h1 : 1 ≤ a) (h2 : 1 ≤ b) : 1 ≤ a * b:=by have:=Int.mul_le_mul h1 h2 (by omega) (by omega);omega
theorem addP_ok {a b : S43} (ha : Rok a) (hb : Rok b) : Rok (addP a b) :=
 ratioP_ok (Int.add_nonneg (mul_nonneg_ ha.1 (by have:=hb.2.1;omega)) (mul_nonneg_ hb.1 (by have:=ha.2.1;omega))) (mul_pos_ ha.2.1 hb.2.1)
theorem timesP_ok {a : S43} {n m : Int} (ha : Rok a) (hn : 0 ≤ n) (hm : 1 ≤ m) : Rok (timesP a n m):=ratioP_ok (mul_nonneg_ ha.1 hn) (mul_pos_ ha.2.1 hm)
theorem wholeP_ok {n : Int} (h : 0 ≤ n) : Rok (wholeP n):=⟨h,Int.le_refl _,by simp [wholeP]⟩
theorem add_impl {a b : S43} (ha : Rok a) (hb : Rok b) :
  ratioP (a.f0 * (b.f1 / (Int.gcd a.f1 b.f1 : Int)) + b.f0 * (a.f1 / (Int.gcd a.f1 b.f1 : Int))) (a.f1 / (Int.gcd a.f1 b.f1 : Int) * b.f1) = addP a b:=by
 obtain ⟨a0,a1⟩:=a
 obtain ⟨b0,b1⟩:=b
 obtain ⟨h1,h2,_⟩:=ha
 obtain ⟨h4,h5,_⟩:=hb
 simp only at h1 h2 h4 h5 ⊢
 obtain ⟨a0,rfl⟩:=Int.eq_ofNat_of_zero_le h1
 obtain ⟨a1,rfl⟩:=Int.eq_ofNat_of_zero_le (show 0 ≤ a1 by omega)
 obtain ⟨b0,rfl⟩:=Int.eq_ofNat_of_zero_le h4
 obtain ⟨b1,rfl⟩:=Int.eq_ofNat_of_zero_le (show 0 ≤ b1 by omega)
 rw [Int.gcd_natCast_natCast]
 have hg : 0 < Nat.gcd a1 b1:=Nat.gcd_pos_of_pos_right _ (by omega)
 obtain ⟨x,hx⟩:=Nat.gcd_dvd_left a1 b1
 obtain ⟨y,hy⟩:=Nat.gcd_dvd_right a1 b1
 obtain ⟨g,hgg⟩ : ∃ g,g = Nat.gcd a1 b1:=⟨_,rfl⟩
 rw [← hgg] at hx hy hg ⊢
 clear hgg
 subst hx hy
 have e1 : (g * x) / g = x:=Nat.mul_div_cancel_left _ hg
 have e2 : (g * y) / g = y:=Nat.mul_div_cancel_left _ hg
 rw [← Int.natCast_ediv,← Int.natCast_ediv,e1,e2]
 have hx0 : 1 ≤ x:=by rcases x with _|x <;> simp at h2 ⊢
 have hy0 : 1 ≤ y:=by rcases y with _|y <;> simp at h5 ⊢
 unfold addP
 simp only
 refine ratioP_eq (by exact_mod_cast Nat.zero_le _) (by have:=Nat.mul_le_mul hx0 (show 1 ≤ g * y by have:=Nat.mul_le_mul hg hy0;omega);exact_mod_cast (by omega : 1 ≤ x * (g * y))) (by exact_mod_cast Nat.zero_le _) (by exact_mod_cast (by have:=Nat.mul_le_mul (show 1 ≤ g * x by have:=Nat.mul_le_mul hg hx0;omega) (show 1 ≤ g * y by have:=Nat.mul_le_mul hg hy0;omega);omega : 1 ≤ g * x * (g * y))) ?_
 simp only [Int.natCast_mul]
 simp only [Int.add_mul]
 congr 1 <;> ac_rfl
def pit_divisor.l0 : Nat → Int → Int → Option (Int)
|0,_,_ => none
|k + 1,x0,x1 => if x1 > 0 then (if x1 = 0 then (none) else (pit_divisor.l0 k x1 (Int.tmod x0 x1))) else (some x0)
def pit_divisor.f (k : Nat) (a0 : Int) (a1 : Int) : Option (Int):=pit_divisor.l0 k a0 a1
set_option maxHeartbeats 8000000 in
set_option maxRecDepth 100000 in
theorem pit_divisor.calls (k : Nat) (a0 : Int) (a1 : Int) (r : Int) (w : World) (h : pit_divisor.f k a0 a1 = some r) :
  Calls Tryz.prog 158 #[ii a0,ii a1] w fun e w' => e = .returned (ii r) ∧ Drawn0 w w':=by
 have H : (pit_divisor.l0 k a0 a1) = some r:=h
 clear h
 have H':=am H
 clear H
 go_enter Tryz.func158,Tryz.ntmps158
 go_wp2
 repeat (go_quiet (fail);try go_wp2)
 go_loopg [0,1] k (fun kq v0 v1 w' => ∃ (x0_1 : Int) (x1_1 : Int),v0 = ii x0_1 ∧ v1 = ii x1_1 ∧ Aside0 (pit_divisor.l0 kq x0_1 x1_1 = some r) ∧ Aside0 (kq ≤ k) ∧ Drawn0 w w')
 case atStart => exact ⟨(a0),(a1),ve,ve,H',⟨Nat.le_refl _⟩,by repeat (first|exact Drawn0.refl _|apply Drawn0.step)⟩
 case round =>
  clear H'
  try clear c1;try clear p2
  obtain ⟨x0_1,x1_1,rfl,rfl,HA,HK1,⟨m1,rfl⟩⟩:=hrel
  cases gk with
 |zero => exact absurd HA.out (by simp [pit_divisor.l0])
 |succ k1 =>
   have H:=HA.out
   clear HA
   simp only [pit_divisor.l0] at H
   by_cases c3 : x1_1 > 0
   ·rw [if_pos c3] at H
    have c3b0 : decide (0 < x1_1) = true:=decide_eq_true c3
    clear c3
    by_cases c4 : x1_1 = 0
    ·rw [if_pos c4] at H
     exact absurd H (by simp)
    ·rw [if_neg c4] at H
     have c4b0 : (x1_1 == 0) = false:=beq_eq_false_iff_ne.mpr c4
     have c4b1 : (x1_1 != 0) = true:=bne_iff_ne.mpr c4
     have H':=am H
     clear H
     go_wp2
     repeat (go_quiet (fail);try go_wp2)
     go_roundg k1
     case measure => have:=HK1.out;omega
     case rel => exact ⟨(x1_1),(Int.tmod x0_1 x1_1),ve,ve,H',⟨by have:=HK1.out;omega⟩,by repeat (first|exact Drawn0.refl _|apply Drawn0.step)⟩
   ·rw [if_neg c3] at H
    have c3b0 : decide (0 < x1_1) = false:=decide_eq_false c3
    clear c3
    obtain rfl:=Option.some.inj H
    go_wp2
    repeat (go_quiet (fail);try go_wp2)
    go_ret
    exact ⟨ve,by repeat (first|exact Drawn0.refl _|apply Drawn0.step)⟩
def pit_within.f (a0 : Int) (a1 : Int) (a2 : Int) : Option (Bool):=if a1 ≤ a0 then (some (decide (a0 ≤ a2))) else (some false)
set_option maxHeartbeats 8000000 in
set_option maxRecDepth 100000 in
theorem pit_within.calls (a0 : Int) (a1 : Int) (a2 : Int) (r : Bool) (w : World) (h : pit_within.f a0 a1 a2 = some r) :
  Calls Tryz.prog 106 #[ii a0,ii a1,ii a2] w fun e w' => e = .returned (.bool r) ∧ Drawn0 w w':=by
 have H : (if a1 ≤ a0 then (some (decide (a0 ≤ a2))) else (some false)) = some r:=h
 clear h
 by_cases c4 : a1 ≤ a0
 ·rw [if_pos c4] at H
  have c4b0 : decide (a1 ≤ a0) = true:=decide_eq_true c4
  clear c4
  obtain rfl:=Option.some.inj H
  go_enter Tryz.func106,Tryz.ntmps106
  go_wp2
  go_ret
  exact ⟨ve,by repeat (first|exact Drawn0.refl _|apply Drawn0.step)⟩
 ·rw [if_neg c4] at H
  have c4b0 : decide (a1 ≤ a0) = false:=decide_eq_false c4
  clear c4
  obtain rfl:=Option.some.inj H
  go_enter Tryz.func106,Tryz.ntmps106
  go_wp2
  go_ret
  exact ⟨ve,by repeat (first|exact Drawn0.refl _|apply Drawn0.step)⟩
def cmp_isNaN_int.f (a0 : Int) : Option (Bool):=some (a0 != a0)
set_option maxHeartbeats 8000000 in
set_option maxRecDepth 100000 in
theorem cmp_isNaN_int.calls (a0 : Int) (r : Bool) (w : World) (h : cmp_isNaN_int.f a0 = some r) :
  Calls Tryz.prog 210 #[ii a0] w fun e w' => e = .returned (.bool r) ∧ Drawn0 w w':=by
 have H : (some (a0 != a0)) = some r:=h
 clear h
 obtain rfl:=Option.some.inj H
 go_enter Tryz.func210,Tryz.ntmps210
 go_wp2
 go_ret
 exact ⟨ve,by repeat (first|exact Drawn0.refl _|apply Drawn0.step)⟩
def slices_Index_int_int.l0 : Nat → List Int → Int → Int → Int → Option (Int)
|0,_,_,_,_ => none
|k + 1,x0,x1,x7,x8 => if x8 < x7 then (if 0 ≤ x8 then (if x8 < (x0.length : Int) then (if x1 = (rd x0 x8) then (some x8) else (slices_Index_int_int.l0 k x0 x1 x7 (wrap64 (x8 + 1)))) else (none)) else (none)) else (some (-1))
def slices_Index_int_int.f (k : Nat) (l0 : List Int) (a1 : Int) : Option (Int):=slices_Index_int_int.l0 k l0 a1 (l0.length : Int) 0
set_option maxHeartbeats 8000000 in
set_option maxRecDepth 100000 in
theorem slices_Index_int_int.calls (k : Nat) (A0 : Option Addr) (c0 : Nat) (l0 : List Int) (a1 : Int) (r : Int) (w : World) (hr0 : Kd.C (Kd.int .i64) w A0 l0.length l0) (hc0 : l0.length ≤ c0) (h : slices_Index_int_int.f k l0 a1 = some r) :
  Calls Tryz.prog 166 #[.slice A0 l0.length c0,ii a1] w fun e w' => e = .returned (ii r) ∧ Drawn0 w w':=by
 have HR0:=am hr0
 have HC0:=am hc0
 clear hr0 hc0
 have H : (slices_Index_int_int.l0 k l0 a1 (l0.length : Int) 0) = some r:=h
 clear h
 have H':=am H
 clear H
 go_enter Tryz.func166,Tryz.ntmps166
 go_wp2
 go_loopg [8] k (fun kq v8 w' => ∃ (x8_1 : Int),v8 = ii x8_1 ∧ Aside0 (slices_Index_int_int.l0 kq l0 a1 (l0.length : Int) x8_1 = some r) ∧ Aside0 (kq ≤ k) ∧ Drawn0 w w')
 case atStart => exact ⟨(0),ve,H',⟨Nat.le_refl _⟩,by repeat (first|exact Drawn0.refl _|apply Drawn0.step)⟩
 case round =>
  clear H'
  try clear c1;try clear p2
  obtain ⟨x8_1,rfl,HA,HK1,⟨m1,rfl⟩⟩:=hrel
  cases gk with
 |zero => exact absurd HA.out (by simp [slices_Index_int_int.l0])
 |succ k1 =>
   have H:=HA.out
   clear HA
   simp only [slices_Index_int_int.l0] at H
   by_cases c3 : x8_1 < (l0.length : Int)
   ·rw [if_pos c3] at H
    have c3b0 : decide (x8_1 < (l0.length : Int)) = true:=decide_eq_true c3
    clear c3
    by_cases c4 : 0 ≤ x8_1
    ·rw [if_pos c4] at H
     have c4b0 : decide (0 ≤ x8_1) = true:=decide_eq_true c4
     clear c4
     by_cases c5 : x8_1 < (l0.length : Int)
     ·rw [if_pos c5] at H
      have c5b0 : decide (x8_1 < (l0.length : Int)) = true:=decide_eq_true c5
      clear c5
      by_cases c6 : a1 = (rd l0 x8_1)
      ·rw [if_pos c6] at H
       have c6b0 : (a1 == (rd l0 x8_1)) = true:=beq_iff_eq.mpr c6
       have c6b1 : (a1 != (rd l0 x8_1)) = false:=bne_eq_false_iff_eq.mpr c6
       clear c6
       obtain rfl:=Option.some.inj H
       have p101 : 0 ≤ (x8_1 : Int):=of_decide_eq_true va
       have q101 : x8_1 < (l0.length : Int):=of_decide_eq_true va
       obtain ⟨ad101,e101,hx101_0⟩:=Kd.at_int HR0.out x8_1 p101 q101
       cases e101
       replace p101:=eq_true p101
       replace q101:=eq_true q101
       go_wp2
       go_ret
       exact ⟨ve,by repeat (first|exact Drawn0.refl _|apply Drawn0.step)⟩
      ·rw [if_neg c6] at H
       have c6b0 : (a1 == (rd l0 x8_1)) = false:=beq_eq_false_iff_ne.mpr c6
       have c6b1 : (a1 != (rd l0 x8_1)) = true:=bne_iff_ne.mpr c6
       have H':=am H
       clear H
       have p101 : 0 ≤ (x8_1 : Int):=of_decide_eq_true va
       have q101 : x8_1 < (l0.length : Int):=of_decide_eq_true va
       obtain ⟨ad101,e101,hx101_0⟩:=Kd.at_int HR0.out x8_1 p101 q101
       cases e101
       replace p101:=eq_true p101
       replace q101:=eq_true q101
       go_wp2
       go_roundg k1
       case measure => have:=HK1.out;omega
       case rel => exact ⟨(wrap64 (x8_1 + 1)),ve,H',⟨by have:=HK1.out;omega⟩,by repeat (first|exact Drawn0.refl _|apply Drawn0.step)⟩
     ·rw [if_neg c5] at H
      exact absurd H (by simp)
    ·rw [if_neg c4] at H
     exact absurd H (by simp)
   ·rw [if_neg c3] at H
    have c3b0 : decide (x8_1 < (l0.length : Int)) = false:=decide_eq_false c3
    clear c3
    obtain rfl:=Option.some.inj H
    go_wp2
    go_ret
    exact ⟨ve,by repeat (first|exact Drawn0.refl _|apply Drawn0.step)⟩
end Go.Proofs.YtjjfpmapjjemcaaGreat.B
end
