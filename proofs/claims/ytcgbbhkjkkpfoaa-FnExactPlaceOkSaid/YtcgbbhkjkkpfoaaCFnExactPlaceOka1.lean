/- FnExactPlaceOk: for every argument the law returns true, and each argument reads behind the call as it read before; no condition. Part 2 of 6: written together by a program out of the session's texts and what the print wrote. -/
import Derived.Test.YtcgbbhkjkkpfoaaProg
import Derived.Below
import Derived.Deep.Draws
import Derived.Deep.AppendLies
import Derived.Maps.AppendAt
import Derived.OwnWalk
import Derived.Laws.BytesArg
import Derived.Laws.MakeOwn
import Derived.Laws.OwnMore
import Derived.Deep.OwnRows
import Derived.Tactics
import Derived.Lib.ConvBytes
import Derived.Laws.Slices
import Derived.WalkKit
import Derived.KernelRfl
import Derived.RowKit3
import Derived.Deep.LoopGhost
import Derived.Deep.QuietTactic
import Derived.BigQuiet
import Derived.WideLaws
import Derived.Deep.DeepCutAuto
import Derived.Deep.CutBlock
import Derived.Deep.RegionHeld3
import Derived.Laws.Rows
import Derived.Lib.AppendStr
import Derived.ArgAppend
import Derived.Laws.IdiomCopy
import Derived.OrdersHeld
import Derived.Laws.BitsLemmas
import Derived.RowKit
import Derived.Test.YtcgbbhkjkkpfoaaCFnExactPlaceOka0
set_option linter.unusedVariables false
set_option linter.unusedSimpArgs false
set_option maxHeartbeats 16000000
set_option maxRecDepth 100000
namespace Go.Proofs.Ytcgbbhkjkkpfoaa.P
open Go.RowKit Go.Proofs.YtcgbbhkjkkpfoaaW.PrintWords Go.Proofs.YtcgbbhkjkkpfoaaW.PrintLast Go.Proofs.YtcgbbhkjkkpfoaaW.PrintMore
attribute [local go_sem] max2_int min2_int max_two min_two max_three min_three max_four min_four
def errW : Option Int → Value
 | none => .nilIface
 | some c => .iface 0 (.int .i64 c)
theorem errW_none : errW none = .nilIface := rfl
theorem errW_some (c : Int) : errW (some c) = .iface 0 (.int .i64 c) := rfl
theorem info3 : (Try.prog.info? 3).map (fun i => (i.zero, i.size, i.bytes)) = some (some (.int .i64 0), 1, 8) := by kernel_rfl
theorem info4 : (Try.prog.info? 4).map (fun i => (i.zero, i.size, i.bytes)) = some (some (.bool false), 1, 1) := by kernel_rfl
theorem info32 : (Try.prog.info? 32).map (fun i => (i.zero, i.size, i.bytes)) = some (some (.slice none 0 0), 1, 24) := by kernel_rfl
theorem info77 : (Try.prog.info? 77).map (fun i => (i.zero, i.size, i.bytes)) = some (some (.agg #[(.int .i64 0), (.int .i64 0), (.int .i64 0), (.int .i64 0), (.int .i64 0), (.int .i64 0), (.int .i64 0), (.slice none 0 0)]), 8, 80) := by kernel_rfl
structure S26 where
 f0 : Int
 f1 : Int
def z26 : S26 := ⟨(0 : Int), (0 : Int)⟩
def k26 : Kd S26 := Kd.iso (Kd.pair (Kd.int .i64) (Kd.int .i64)) (fun x : S26 => (x.f0, x.f1))
theorem k26_open {w : World} {x : S26} {cs : List Value} (h : k26.K w x cs) : cs = [.int .i64 x.f0, .int .i64 x.f1] := by
 obtain ⟨_, _, rfl, rfl, rfl⟩ := h
 exact rfl
theorem k26_mk (w : World) (x : S26)  : k26.K w x [.int .i64 x.f0, .int .i64 x.f1] := ⟨[.int .i64 x.f0], [.int .i64 x.f1], rfl, rfl, rfl⟩
def rd_L2 (xs : List (List Int)) (i : Int) : (List Int) := xs.getD i.toNat ([] : List Int)
theorem at_L2 {w : World} {A : Option Addr} {n : Nat} {xs : List (List Int)} (h : Kd.C (Kd.slice 3 (Kd.int .i64)) w A n xs) (i : Int) (h0 : 0 ≤ i) (h1 : i < n) : ∃ ad A0 c0, A = some ad ∧ w.cell? (ad.add i.toNat) = some (.slice A0 (rd_L2 xs i).length c0) ∧ (rd_L2 xs i).length ≤ c0 ∧ (Kd.int .i64).C w A0 (rd_L2 xs i).length (rd_L2 xs i) := by
 obtain ⟨ad, c, e, _, hK, hc0⟩ := Kd.C_get h ([] : List Int) i h0 h1
 have hc : ∀ j u, c[j]? = some u → w.cell? (ad.add (i.toNat * 1 + j)) = some u := hc0
 obtain ⟨A0, c0, rfl, l0, g0⟩ := hK
 exact ⟨ad, A0, c0, e, by have hq := hc 0 _ rfl; rwa [Nat.mul_one, Nat.add_zero] at hq, l0, g0⟩
structure S90 where
 f0 : Int
 f1 : Int
 f2 : Int
 f3 : S26
 f4 : S26
 f5 : (List Int)
def z90 : S90 := ⟨(0 : Int), (0 : Int), (0 : Int), z26, z26, ([] : List Int)⟩
def k90 : Kd S90 := Kd.iso (Kd.pair (Kd.int .i64) (Kd.pair (Kd.int .i64) (Kd.pair (Kd.int .i64) (Kd.pair k26 (Kd.pair k26 (Kd.slice 3 (Kd.int .i64))))))) (fun x : S90 => (x.f0, x.f1, x.f2, x.f3, x.f4, x.f5))
theorem k90_open {w : World} {x : S90} {cs : List Value} (h : k90.K w x cs) : ∃ A7 c7, cs = [.int .i64 x.f0, .int .i64 x.f1, .int .i64 x.f2, .int .i64 x.f3.f0, .int .i64 x.f3.f1, .int .i64 x.f4.f0, .int .i64 x.f4.f1, .slice A7 x.f5.length c7] ∧ x.f5.length ≤ c7 ∧ (Kd.int .i64).C w A7 x.f5.length x.f5 := by
 obtain ⟨_, _, rfl, rfl, ⟨_, _, rfl, rfl, ⟨_, _, rfl, rfl, ⟨_, _, rfl, s3, ⟨_, _, rfl, s5, ⟨A7, c7, rfl, l7, g7⟩⟩⟩⟩⟩⟩ := h
 obtain rfl := k26_open s3
 obtain rfl := k26_open s5
 exact ⟨A7, c7, rfl, l7, g7⟩
theorem k90_mk (w : World) (x : S90) {A7 : Option Addr} {c7 : Nat} (l7 : x.f5.length ≤ c7) (g7 : (Kd.int .i64).C w A7 x.f5.length x.f5) : k90.K w x [.int .i64 x.f0, .int .i64 x.f1, .int .i64 x.f2, .int .i64 x.f3.f0, .int .i64 x.f3.f1, .int .i64 x.f4.f0, .int .i64 x.f4.f1, .slice A7 x.f5.length c7] := ⟨[.int .i64 x.f0], [.int .i64 x.f1, .int .i64 x.f2, .int .i64 x.f3.f0, .int .i64 x.f3.f1, .int .i64 x.f4.f0, .int .i64 x.f4.f1, .slice A7 x.f5.length c7], rfl, rfl, ⟨[.int .i64 x.f1], [.int .i64 x.f2, .int .i64 x.f3.f0, .int .i64 x.f3.f1, .int .i64 x.f4.f0, .int .i64 x.f4.f1, .slice A7 x.f5.length c7], rfl, rfl, ⟨[.int .i64 x.f2], [.int .i64 x.f3.f0, .int .i64 x.f3.f1, .int .i64 x.f4.f0, .int .i64 x.f4.f1, .slice A7 x.f5.length c7], rfl, rfl, ⟨[.int .i64 x.f3.f0, .int .i64 x.f3.f1], [.int .i64 x.f4.f0, .int .i64 x.f4.f1, .slice A7 x.f5.length c7], rfl, (k26_mk w x.f3 ), ⟨[.int .i64 x.f4.f0, .int .i64 x.f4.f1], [.slice A7 x.f5.length c7], rfl, (k26_mk w x.f4 ), ⟨A7, c7, rfl, l7, g7⟩⟩⟩⟩⟩⟩
def rd_T90 (xs : List S90) (i : Int) : S90 := xs.getD i.toNat z90
theorem at_T90 {w : World} {A : Option Addr} {n : Nat} {xs : List S90} (h : Kd.C k90 w A n xs) (i : Int) (h0 : 0 ≤ i) (h1 : i < n) : ∃ ad A7 c7, A = some ad ∧ w.cell? (ad.add (i.toNat * 8)) = some (.int .i64 (rd_T90 xs i).f0) ∧ w.cell? ⟨(ad.add (i.toNat * 8)).block, (ad.add (i.toNat * 8)).off + 1, none⟩ = some (.int .i64 (rd_T90 xs i).f1) ∧ w.cell? ⟨(ad.add (i.toNat * 8)).block, (ad.add (i.toNat * 8)).off + 2, none⟩ = some (.int .i64 (rd_T90 xs i).f2) ∧ w.cell? ⟨(ad.add (i.toNat * 8)).block, (ad.add (i.toNat * 8)).off + 3, none⟩ = some (.int .i64 (rd_T90 xs i).f3.f0) ∧ w.cell? ⟨(ad.add (i.toNat * 8)).block, (ad.add (i.toNat * 8)).off + 4, none⟩ = some (.int .i64 (rd_T90 xs i).f3.f1) ∧ w.cell? ⟨(ad.add (i.toNat * 8)).block, (ad.add (i.toNat * 8)).off + 5, none⟩ = some (.int .i64 (rd_T90 xs i).f4.f0) ∧ w.cell? ⟨(ad.add (i.toNat * 8)).block, (ad.add (i.toNat * 8)).off + 6, none⟩ = some (.int .i64 (rd_T90 xs i).f4.f1) ∧ w.cell? ⟨(ad.add (i.toNat * 8)).block, (ad.add (i.toNat * 8)).off + 7, none⟩ = some (.slice A7 (rd_T90 xs i).f5.length c7) ∧ (rd_T90 xs i).f5.length ≤ c7 ∧ (Kd.int .i64).C w A7 (rd_T90 xs i).f5.length (rd_T90 xs i).f5 := by
 obtain ⟨ad, c, e, _, hK, hc0⟩ := Kd.C_get h z90 i h0 h1
 have hc : ∀ j u, c[j]? = some u → w.cell? (ad.add (i.toNat * 8 + j)) = some u := hc0
 obtain ⟨A7, c7, rfl, l7, g7⟩ := k90_open hK
 exact ⟨ad, A7, c7, e, hc 0 _ rfl, by rw [← add_field _ _ 1 (by omega)]; exact hc 1 _ rfl, by rw [← add_field _ _ 2 (by omega)]; exact hc 2 _ rfl, by rw [← add_field _ _ 3 (by omega)]; exact hc 3 _ rfl, by rw [← add_field _ _ 4 (by omega)]; exact hc 4 _ rfl, by rw [← add_field _ _ 5 (by omega)]; exact hc 5 _ rfl, by rw [← add_field _ _ 6 (by omega)]; exact hc 6 _ rfl, by rw [← add_field _ _ 7 (by omega)]; exact hc 7 _ rfl, l7, g7⟩
structure S40 where
 f0 : Int
 f1 : Int
def z40 : S40 := ⟨(0 : Int), (0 : Int)⟩
def k40 : Kd S40 := Kd.iso (Kd.pair (Kd.int .i64) (Kd.int .i64)) (fun x : S40 => (x.f0, x.f1))
theorem k40_open {w : World} {x : S40} {cs : List Value} (h : k40.K w x cs) : cs = [.int .i64 x.f0, .int .i64 x.f1] := by
 obtain ⟨_, _, rfl, rfl, rfl⟩ := h
 exact rfl
theorem k40_openM {w : World} {base : Nat} {ok : Nat → Prop} {x : S40} {cs : List Value} (h : k40.M w base ok x cs) : cs = [.int .i64 x.f0, .int .i64 x.f1] := by
 obtain ⟨_, _, rfl, rfl, rfl⟩ := h
 exact rfl
theorem k40_mkM (w : World) (base : Nat) (ok : Nat → Prop) (x : S40)  : k40.M w base ok x [.int .i64 x.f0, .int .i64 x.f1] := ⟨[.int .i64 x.f0], [.int .i64 x.f1], rfl, rfl, rfl⟩
structure S77 where
 f0 : Int
 f1 : Int
 f2 : Int
 f3 : S40
 f4 : S40
 f5 : (List Int)
def z77 : S77 := ⟨(0 : Int), (0 : Int), (0 : Int), z40, z40, ([] : List Int)⟩
def k77 : Kd S77 := Kd.iso (Kd.pair (Kd.int .i64) (Kd.pair (Kd.int .i64) (Kd.pair (Kd.int .i64) (Kd.pair k40 (Kd.pair k40 (Kd.slice 3 (Kd.int .i64))))))) (fun x : S77 => (x.f0, x.f1, x.f2, x.f3, x.f4, x.f5))
theorem k77_open {w : World} {x : S77} {cs : List Value} (h : k77.K w x cs) : ∃ A7 c7, cs = [.int .i64 x.f0, .int .i64 x.f1, .int .i64 x.f2, .int .i64 x.f3.f0, .int .i64 x.f3.f1, .int .i64 x.f4.f0, .int .i64 x.f4.f1, .slice A7 x.f5.length c7] ∧ x.f5.length ≤ c7 ∧ (Kd.int .i64).C w A7 x.f5.length x.f5 := by
 obtain ⟨_, _, rfl, rfl, ⟨_, _, rfl, rfl, ⟨_, _, rfl, rfl, ⟨_, _, rfl, s3, ⟨_, _, rfl, s5, ⟨A7, c7, rfl, l7, g7⟩⟩⟩⟩⟩⟩ := h
 obtain rfl := k40_open s3
 obtain rfl := k40_open s5
 exact ⟨A7, c7, rfl, l7, g7⟩
theorem k77_openM {w : World} {base : Nat} {ok : Nat → Prop} {x : S77} {cs : List Value} (h : k77.M w base ok x cs) : ∃ v7, cs = [.int .i64 x.f0, .int .i64 x.f1, .int .i64 x.f2, .int .i64 x.f3.f0, .int .i64 x.f3.f1, .int .i64 x.f4.f0, .int .i64 x.f4.f1, v7] ∧ (Kd.int .i64).R 3 w base ok v7 x.f5 := by
 obtain ⟨_, _, rfl, rfl, ⟨_, _, rfl, rfl, ⟨_, _, rfl, rfl, ⟨_, _, rfl, s3, ⟨_, _, rfl, s5, ⟨v7, rfl, g7⟩⟩⟩⟩⟩⟩ := h
 obtain rfl := k40_openM s3
 obtain rfl := k40_openM s5
 exact ⟨v7, rfl, g7⟩
theorem k77_mkM (w : World) (base : Nat) (ok : Nat → Prop) (x : S77) {v7 : Value} (g7 : (Kd.int .i64).R 3 w base ok v7 x.f5) : k77.M w base ok x [.int .i64 x.f0, .int .i64 x.f1, .int .i64 x.f2, .int .i64 x.f3.f0, .int .i64 x.f3.f1, .int .i64 x.f4.f0, .int .i64 x.f4.f1, v7] := ⟨[.int .i64 x.f0], [.int .i64 x.f1, .int .i64 x.f2, .int .i64 x.f3.f0, .int .i64 x.f3.f1, .int .i64 x.f4.f0, .int .i64 x.f4.f1, v7], rfl, rfl, ⟨[.int .i64 x.f1], [.int .i64 x.f2, .int .i64 x.f3.f0, .int .i64 x.f3.f1, .int .i64 x.f4.f0, .int .i64 x.f4.f1, v7], rfl, rfl, ⟨[.int .i64 x.f2], [.int .i64 x.f3.f0, .int .i64 x.f3.f1, .int .i64 x.f4.f0, .int .i64 x.f4.f1, v7], rfl, rfl, ⟨[.int .i64 x.f3.f0, .int .i64 x.f3.f1], [.int .i64 x.f4.f0, .int .i64 x.f4.f1, v7], rfl, (k40_mkM w base ok x.f3 ), ⟨[.int .i64 x.f4.f0, .int .i64 x.f4.f1], [v7], rfl, (k40_mkM w base ok x.f4 ), ⟨v7, rfl, g7⟩⟩⟩⟩⟩⟩
def rd_T77 (xs : List S77) (i : Int) : S77 := xs.getD i.toNat z77
theorem at_T77 {w : World} {A : Option Addr} {n : Nat} {xs : List S77} (h : Kd.C k77 w A n xs) (i : Int) (h0 : 0 ≤ i) (h1 : i < n) : ∃ ad A7 c7, A = some ad ∧ w.cell? (ad.add (i.toNat * 8)) = some (.int .i64 (rd_T77 xs i).f0) ∧ w.cell? ⟨(ad.add (i.toNat * 8)).block, (ad.add (i.toNat * 8)).off + 1, none⟩ = some (.int .i64 (rd_T77 xs i).f1) ∧ w.cell? ⟨(ad.add (i.toNat * 8)).block, (ad.add (i.toNat * 8)).off + 2, none⟩ = some (.int .i64 (rd_T77 xs i).f2) ∧ w.cell? ⟨(ad.add (i.toNat * 8)).block, (ad.add (i.toNat * 8)).off + 3, none⟩ = some (.int .i64 (rd_T77 xs i).f3.f0) ∧ w.cell? ⟨(ad.add (i.toNat * 8)).block, (ad.add (i.toNat * 8)).off + 4, none⟩ = some (.int .i64 (rd_T77 xs i).f3.f1) ∧ w.cell? ⟨(ad.add (i.toNat * 8)).block, (ad.add (i.toNat * 8)).off + 5, none⟩ = some (.int .i64 (rd_T77 xs i).f4.f0) ∧ w.cell? ⟨(ad.add (i.toNat * 8)).block, (ad.add (i.toNat * 8)).off + 6, none⟩ = some (.int .i64 (rd_T77 xs i).f4.f1) ∧ w.cell? ⟨(ad.add (i.toNat * 8)).block, (ad.add (i.toNat * 8)).off + 7, none⟩ = some (.slice A7 (rd_T77 xs i).f5.length c7) ∧ (rd_T77 xs i).f5.length ≤ c7 ∧ (Kd.int .i64).C w A7 (rd_T77 xs i).f5.length (rd_T77 xs i).f5 := by
 obtain ⟨ad, c, e, _, hK, hc0⟩ := Kd.C_get h z77 i h0 h1
 have hc : ∀ j u, c[j]? = some u → w.cell? (ad.add (i.toNat * 8 + j)) = some u := hc0
 obtain ⟨A7, c7, rfl, l7, g7⟩ := k77_open hK
 exact ⟨ad, A7, c7, e, hc 0 _ rfl, by rw [← add_field _ _ 1 (by omega)]; exact hc 1 _ rfl, by rw [← add_field _ _ 2 (by omega)]; exact hc 2 _ rfl, by rw [← add_field _ _ 3 (by omega)]; exact hc 3 _ rfl, by rw [← add_field _ _ 4 (by omega)]; exact hc 4 _ rfl, by rw [← add_field _ _ 5 (by omega)]; exact hc 5 _ rfl, by rw [← add_field _ _ 6 (by omega)]; exact hc 6 _ rfl, by rw [← add_field _ _ 7 (by omega)]; exact hc 7 _ rfl, l7, g7⟩
end Go.Proofs.Ytcgbbhkjkkpfoaa.P
namespace Go.Proofs.Ytcgbbhkjkkpfoaa.P
open Go.RowKit Go.Proofs.YtcgbbhkjkkpfoaaW.PrintWords Go.Proofs.YtcgbbhkjkkpfoaaW.PrintLast Go.Proofs.YtcgbbhkjkkpfoaaW.PrintMore
section
variable {α β : Type} {f g : Nat → Option α} {r : α} {c : Prop} [Decidable c]
theorem Ev.pos (h : c) (k : Ev f r) : Ev (fun n => if c then f n else g n) r := Ev.congr (fun _ => if_pos h) k
theorem Ev.neg (h : ¬ c) (k : Ev g r) : Ev (fun n => if c then f n else g n) r := Ev.congr (fun _ => if_neg h) k
theorem Ev.put {β : Type} {f : Nat → β → Option α} {a : β} (k : Ev (fun n => f n a) r) : Ev (fun n => (some a).bind (f n)) r := k
theorem Ev.eq {g : Nat → Option α} {r r' : α} (h : Ev g r) (e : r = r') : Ev g r' := e ▸ h
theorem Ev.const {o : Option α} (h : o = some r) : Ev (fun _ => o) r := h ▸ Ev.now r
theorem Ev.cases (hp : c → Ev f r) (hn : ¬ c → Ev g r) : Ev (fun n => if c then f n else g n) r := by
 by_cases h : c
 ·exact Ev.pos h (hp h)
 ·exact Ev.neg h (hn h)
end
theorem wrapN {n : Nat} (h : n < 9223372036854775807) : wrap64 ((n : Int) + 1) = ((n + 1 : Nat) : Int) := by unfold wrap64; omega
theorem wrapI {x : Int} (h0 : -9223372036854775808 ≤ x) (h1 : x ≤ 9223372036854775807) : wrap64 x = x := by unfold wrap64; omega
theorem rdN {l : List Int} {i : Nat} (h : i < l.length) : rd l (i : Int) = l[i] := by
 unfold rd; rw [List.getD_eq_getElem?_getD, Int.toNat_natCast, List.getElem?_eq_getElem h, Option.getD_some]
theorem rdB {l : List Bool} {i : Nat} (h : i < l.length) : rdOf false l (i : Int) = l[i] := by
 unfold rdOf; rw [List.getD_eq_getElem?_getD, Int.toNat_natCast, List.getElem?_eq_getElem h, Option.getD_some]
theorem drop_at {α : Type} {l : List α} {i : Nat} (h : i < l.length) : l.drop i = l[i] :: l.drop (i + 1) := List.drop_eq_getElem_cons h
abbrev Stp := S77
theorem rdS {l : List Stp} {i : Nat} (h : i < l.length) : rd_T77 l (i : Int) = l[i] := by
 unfold rd_T77; rw [List.getD_eq_getElem?_getD, Int.toNat_natCast, List.getElem?_eq_getElem h, Option.getD_some]
end Go.Proofs.Ytcgbbhkjkkpfoaa.P
namespace Go.Proofs.Ytcgbbhkjkkpfoaa.P
open Go.RowKit Go.Proofs.YtcgbbhkjkkpfoaaW.PrintWords Go.Proofs.YtcgbbhkjkkpfoaaW.PrintLast Go.Proofs.YtcgbbhkjkkpfoaaW.PrintMore
attribute [local go_sem] max2_int min2_int max_two min_two max_three min_three max_four min_four
def laws_szIntS.f (l0 : List Int) (a1 : Int) : Option (Int) := if (wrap64 (a1 - (l0.length : Int))) < 0 then (some (-1)) else (some (wrap64 (a1 - (l0.length : Int))))
theorem laws_szIntS.calls (A0 : Option Addr) (c0 : Nat) (l0 : List Int) (a1 : Int) (r : Int) (w : World) (hr0 : Kd.C (Kd.int .i64) w A0 l0.length l0) (hc0 : l0.length ≤ c0) (h : laws_szIntS.f l0 a1 = some r) :
  Calls Try.prog 109 #[.slice A0 l0.length c0, .int .i64 a1] w fun e w' => e = .returned (.int .i64 r) ∧ Drawn0 w w' := by
 have HR0 := Aside0.mk hr0
 have HC0 := Aside0.mk hc0
 clear hr0 hc0
 have H : (if (wrap64 (a1 - (l0.length : Int))) < 0 then (some (-1)) else (some (wrap64 (a1 - (l0.length : Int))))) = some r := h
 clear h
 by_cases c3 : (wrap64 (a1 - (l0.length : Int))) < 0
 ·rw [if_pos c3] at H
  have c3b0 : decide ((wrap64 (a1 - (l0.length : Int))) < 0) = true := decide_eq_true c3
  clear c3
  obtain rfl := Option.some.inj H
  go_enter Try.func109, Try.ntmps109
  go_wp2
  go_ret
  exact ⟨by first | rfl | (simp; done) | (simp [*]; done), by repeat (first | exact Drawn0.refl _ | apply Drawn0.step)⟩
 ·rw [if_neg c3] at H
  have c3b0 : decide ((wrap64 (a1 - (l0.length : Int))) < 0) = false := decide_eq_false c3
  clear c3
  obtain rfl := Option.some.inj H
  go_enter Try.func109, Try.ntmps109
  go_wp2
  go_ret
  exact ⟨by first | rfl | (simp; done) | (simp [*]; done), by repeat (first | exact Drawn0.refl _ | apply Drawn0.step)⟩
def laws_szStep.f (a0_0 : Int) (a0_1 : Int) (a0_2 : Int) (a0_3 : Int) (a0_4 : Int) (a0_5 : Int) (a0_6 : Int) (l0_7 : List Int) (a1 : Int) : Option (Int) := (laws_szIntS.f l0_7 a1).bind fun t102 => (if t102 < 0 then (some (-1)) else (some t102))
theorem laws_szStep.calls (a0_0 : Int) (a0_1 : Int) (a0_2 : Int) (a0_3 : Int) (a0_4 : Int) (a0_5 : Int) (a0_6 : Int) (A0_7 : Option Addr) (c0_7 : Nat) (l0_7 : List Int) (a1 : Int) (r : Int) (w : World) (hr0_7 : Kd.C (Kd.int .i64) w A0_7 l0_7.length l0_7) (hc0_7 : l0_7.length ≤ c0_7) (h : laws_szStep.f a0_0 a0_1 a0_2 a0_3 a0_4 a0_5 a0_6 l0_7 a1 = some r) :
  Calls Try.prog 75 #[.agg #[.int .i64 a0_0, .int .i64 a0_1, .int .i64 a0_2, .int .i64 a0_3, .int .i64 a0_4, .int .i64 a0_5, .int .i64 a0_6, .slice A0_7 l0_7.length c0_7], .int .i64 a1] w fun e w' => e = .returned (.int .i64 r) ∧ Below w.heap.size w w' := by
 have hu90 := Try.underlying90
 have HR0_7 := Aside0.mk hr0_7
 have HC0_7 := Aside0.mk hc0_7
 clear hr0_7 hc0_7
 have HB := Aside0.mk (Below.refl w.heap.size w)
 have H : ((laws_szIntS.f l0_7 a1).bind fun t102 => (if t102 < 0 then (some (-1)) else (some t102))) = some r := h
 clear h
 replace H := Option.bind_eq_some_iff.mp H
 obtain ⟨t102, A30, H⟩ := H
 have A3 := Aside0.mk A30
 clear A30
 by_cases c4 : t102 < 0
 ·rw [if_pos c4] at H
  have c4b0 : decide (t102 < 0) = true := decide_eq_true c4
  clear c4
  obtain rfl := Option.some.inj H
  go_enter Try.func75, Try.ntmps75
  go_wp2_with (first | ((with_reducible refine gate_dst (N := 2) rfl ?_); refine bxe (cs := #[.int .i64 a0_0, .int .i64 a0_1, .int .i64 a0_2, .int .i64 a0_3, .int .i64 a0_4, .int .i64 a0_5, .int .i64 a0_6, .slice A0_7 l0_7.length c0_7]) (t := 90) ?_; intro gb101 hg w5 hbox hb; have BK101 := Aside0.mk (hbox); have GW101 := bwz HB hg; have GE101 := bwz HB hg; replace HB := bwb HB hb; clear hb hbox hg; obtain ⟨hcz6, hfz6⟩ := bcf BK101) | ((with_reducible refine gate_callee (f := 109) rfl ?_); refine goesM (some 8) rfl rfl Try.func109 #[.slice A0_7 l0_7.length c0_7, .int .i64 a1] rfl ?_; (with_reducible refine (laws_szIntS.calls _ _ l0_7 a1 t102 _ ?side1 ?side2 A3.out).mono ?_); (case side1 => exact Cq (Kd.C_below HR0_7.out HB.out)); (case side2 => exact HC0_7.out); rintro e w' ⟨rfl, ⟨nd, rfl⟩⟩; refine ⟨_, rfl, ?_⟩))
  go_ret
  exact ⟨by first | rfl | (simp [errW_none, errW_some] <;> rfl) | (simp [*, errW_none, errW_some] <;> rfl), bwq HB⟩
 ·rw [if_neg c4] at H
  have c4b0 : decide (t102 < 0) = false := decide_eq_false c4
  clear c4
  obtain rfl := Option.some.inj H
  go_enter Try.func75, Try.ntmps75
  go_wp2_with (first | ((with_reducible refine gate_dst (N := 2) rfl ?_); refine bxe (cs := #[.int .i64 a0_0, .int .i64 a0_1, .int .i64 a0_2, .int .i64 a0_3, .int .i64 a0_4, .int .i64 a0_5, .int .i64 a0_6, .slice A0_7 l0_7.length c0_7]) (t := 90) ?_; intro gb101 hg w7 hbox hb; have BK101 := Aside0.mk (hbox); have GW101 := bwz HB hg; have GE101 := bwz HB hg; replace HB := bwb HB hb; clear hb hbox hg; obtain ⟨hcz8, hfz8⟩ := bcf BK101) | ((with_reducible refine gate_callee (f := 109) rfl ?_); refine goesM (some 8) rfl rfl Try.func109 #[.slice A0_7 l0_7.length c0_7, .int .i64 a1] rfl ?_; (with_reducible refine (laws_szIntS.calls _ _ l0_7 a1 t102 _ ?side1 ?side2 A3.out).mono ?_); (case side1 => exact Cq (Kd.C_below HR0_7.out HB.out)); (case side2 => exact HC0_7.out); rintro e w' ⟨rfl, ⟨nd, rfl⟩⟩; refine ⟨_, rfl, ?_⟩))
  go_ret
  exact ⟨by first | rfl | (simp [errW_none, errW_some] <;> rfl) | (simp [*, errW_none, errW_some] <;> rfl), bwq HB⟩
def laws_szStepS.l0 : Nat → List (S90) → Int → Int → Option (Int)
 | 0, _, _, _ => none
 | k + 1, x0, x1, x5 => if x5 < (x0.length : Int) then (if 0 ≤ x5 then ((laws_szStep.f ((rd_T90 x0 x5).f0) ((rd_T90 x0 x5).f1) ((rd_T90 x0 x5).f2) ((rd_T90 x0 x5).f3.f0) ((rd_T90 x0 x5).f3.f1) ((rd_T90 x0 x5).f4.f0) ((rd_T90 x0 x5).f4.f1) ((rd_T90 x0 x5).f5) x1).bind fun t104 => (if t104 < 0 then (some (-1)) else (laws_szStepS.l0 k x0 t104 (wrap64 (x5 + 1))))) else (none)) else (some x1)
def laws_szStepS.f (k : Nat) (l0 : List (S90)) (a1 : Int) : Option (Int) := if (wrap64 (a1 - (l0.length : Int))) < 0 then (some (-1)) else (laws_szStepS.l0 k l0 (wrap64 (a1 - (l0.length : Int))) 0)
theorem laws_szStepS.calls (k : Nat) (A0 : Option Addr) (c0 : Nat) (l0 : List (S90)) (a1 : Int) (r : Int) (w : World) (hr0 : Kd.C k90 w A0 l0.length l0) (hc0 : l0.length ≤ c0) (h : laws_szStepS.f k l0 a1 = some r) :
  Calls Try.prog 42 #[.slice A0 l0.length c0, .int .i64 a1] w fun e w' => e = .returned (.int .i64 r) ∧ Below w.heap.size w w' := by
 have hu90 := Try.underlying90
 have HR0 := Aside0.mk hr0
 have HC0 := Aside0.mk hc0
 clear hr0 hc0
 have HB := Aside0.mk (Below.refl w.heap.size w)
 have H : (if (wrap64 (a1 - (l0.length : Int))) < 0 then (some (-1)) else (laws_szStepS.l0 k l0 (wrap64 (a1 - (l0.length : Int))) 0)) = some r := h
 clear h
 by_cases c3 : (wrap64 (a1 - (l0.length : Int))) < 0
 ·rw [if_pos c3] at H
  have c3b0 : decide ((wrap64 (a1 - (l0.length : Int))) < 0) = true := decide_eq_true c3
  clear c3
  obtain rfl := Option.some.inj H
  go_enter Try.func42, Try.ntmps42
  go_wp2
  go_ret
  exact ⟨by first | rfl | (simp [errW_none, errW_some] <;> rfl) | (simp [*, errW_none, errW_some] <;> rfl), bwq HB⟩
 ·rw [if_neg c3] at H
  have c3b0 : decide ((wrap64 (a1 - (l0.length : Int))) < 0) = false := decide_eq_false c3
  clear c3
  have H' := Aside0.mk H
  clear H
  go_enter Try.func42, Try.ntmps42
  go_wp2
  go_loopg [1, 5] k (fun kq v1 v5 w' => ∃ (x1_1 : Int) (x5_1 : Int), v1 = .int .i64 x1_1 ∧ v5 = .int .i64 x5_1 ∧ Aside0 (laws_szStepS.l0 kq l0 x1_1 x5_1 = some r) ∧ Aside0 (kq ≤ k) ∧ Aside0 (Below w.heap.size w w'))
  case atStart => exact ⟨(wrap64 (a1 - (l0.length : Int))), (0), (by first | rfl | (simp; done) | (simp [*]; done)), (by first | rfl | (simp; done) | (simp [*]; done)), H', ⟨Nat.le_refl _⟩, ⟨bwq HB⟩⟩
  case round =>
   clear H'
   try clear p2
   try clear c3
   try clear c3b0
   obtain ⟨x1_1, x5_1, rfl, rfl, HA, HK1, HB⟩ := hrel
   cases gk with
   | zero => exact absurd HA.out (by intro h_; first | (cases h_; done) | (simp [laws_szStepS.l0] at h_))
   | succ k1 =>
    have H := HA.out
    clear HA
    simp only [laws_szStepS.l0] at H
    by_cases c4 : x5_1 < (l0.length : Int)
    ·rw [if_pos c4] at H
     have c4b0 : decide (x5_1 < (l0.length : Int)) = true := decide_eq_true c4
     clear c4
     by_cases c5 : 0 ≤ x5_1
     ·rw [if_pos c5] at H
      have c5b0 : decide (0 ≤ x5_1) = true := decide_eq_true c5
      clear c5
      replace H := Option.bind_eq_some_iff.mp H
      obtain ⟨t104, A60, H⟩ := H
      have A6 := Aside0.mk A60
      clear A60
      by_cases c7 : t104 < 0
      ·rw [if_pos c7] at H
       have c7b0 : decide (t104 < 0) = true := decide_eq_true c7
       clear c7
       obtain rfl := Option.some.inj H
       have p103 : 0 ≤ (x5_1 : Int) := oda
       have q103 : x5_1 < (l0.length : Int) := oda
       obtain ⟨ad103, A103_7, c103_7, e103, hx103_0, hx103_1, hx103_2, hx103_3, hx103_4, hx103_5, hx103_6, hx103_7, hl103_7, hi103_7⟩ := at_T90 HR0.out x5_1 p103 q103
       cases e103
       replace hx103_0 := hxb HB hx103_0
       replace hx103_1 := hxb HB hx103_1
       replace hx103_2 := hxb HB hx103_2
       replace hx103_3 := hxb HB hx103_3
       replace hx103_4 := hxb HB hx103_4
       replace hx103_5 := hxb HB hx103_5
       replace hx103_6 := hxb HB hx103_6
       replace hx103_7 := hxb HB hx103_7
       have HR103_7 := Aside0.mk hi103_7
       have HC103_7 := Aside0.mk hl103_7
       clear hi103_7 hl103_7
       replace p103 := eq_true p103
       replace q103 := eq_true q103
       go_wp2_with (first | ((with_reducible refine gate_callee (f := 75) rfl ?_); refine goesM (some 23) rfl rfl Try.func75 #[.agg #[.int .i64 ((rd_T90 l0 x5_1).f0), .int .i64 ((rd_T90 l0 x5_1).f1), .int .i64 ((rd_T90 l0 x5_1).f2), .int .i64 ((rd_T90 l0 x5_1).f3.f0), .int .i64 ((rd_T90 l0 x5_1).f3.f1), .int .i64 ((rd_T90 l0 x5_1).f4.f0), .int .i64 ((rd_T90 l0 x5_1).f4.f1), .slice A103_7 ((rd_T90 l0 x5_1).f5).length c103_7], .int .i64 x1_1] rfl ?_; (with_reducible refine (laws_szStep.calls ((rd_T90 l0 x5_1).f0) ((rd_T90 l0 x5_1).f1) ((rd_T90 l0 x5_1).f2) ((rd_T90 l0 x5_1).f3.f0) ((rd_T90 l0 x5_1).f3.f1) ((rd_T90 l0 x5_1).f4.f0) ((rd_T90 l0 x5_1).f4.f1) _ _ ((rd_T90 l0 x5_1).f5) x1_1 t104 _ ?side1 ?side2 A6.out).mono ?_); (case side1 => exact Cq (Kd.C_below HR103_7.out HB.out)); (case side2 => exact HC103_7.out); rintro e w8 ⟨rfl, hb⟩; refine ⟨_, rfl, ?_⟩; replace HB := bwb HB hb; (try clear hb); (try clear hb2); (try clear hk); (try clear hi)))
       go_ret
       exact ⟨by first | rfl | (simp [errW_none, errW_some] <;> rfl) | (simp [*, errW_none, errW_some] <;> rfl), bwq HB⟩
      ·rw [if_neg c7] at H
       have c7b0 : decide (t104 < 0) = false := decide_eq_false c7
       clear c7
       have H' := Aside0.mk H
       clear H
       have p103 : 0 ≤ (x5_1 : Int) := oda
       have q103 : x5_1 < (l0.length : Int) := oda
       obtain ⟨ad103, A103_7, c103_7, e103, hx103_0, hx103_1, hx103_2, hx103_3, hx103_4, hx103_5, hx103_6, hx103_7, hl103_7, hi103_7⟩ := at_T90 HR0.out x5_1 p103 q103
       cases e103
       replace hx103_0 := hxb HB hx103_0
       replace hx103_1 := hxb HB hx103_1
       replace hx103_2 := hxb HB hx103_2
       replace hx103_3 := hxb HB hx103_3
       replace hx103_4 := hxb HB hx103_4
       replace hx103_5 := hxb HB hx103_5
       replace hx103_6 := hxb HB hx103_6
       replace hx103_7 := hxb HB hx103_7
       have HR103_7 := Aside0.mk hi103_7
       have HC103_7 := Aside0.mk hl103_7
       clear hi103_7 hl103_7
       replace p103 := eq_true p103
       replace q103 := eq_true q103
       go_wp2_with (first | ((with_reducible refine gate_callee (f := 75) rfl ?_); refine goesM (some 23) rfl rfl Try.func75 #[.agg #[.int .i64 ((rd_T90 l0 x5_1).f0), .int .i64 ((rd_T90 l0 x5_1).f1), .int .i64 ((rd_T90 l0 x5_1).f2), .int .i64 ((rd_T90 l0 x5_1).f3.f0), .int .i64 ((rd_T90 l0 x5_1).f3.f1), .int .i64 ((rd_T90 l0 x5_1).f4.f0), .int .i64 ((rd_T90 l0 x5_1).f4.f1), .slice A103_7 ((rd_T90 l0 x5_1).f5).length c103_7], .int .i64 x1_1] rfl ?_; (with_reducible refine (laws_szStep.calls ((rd_T90 l0 x5_1).f0) ((rd_T90 l0 x5_1).f1) ((rd_T90 l0 x5_1).f2) ((rd_T90 l0 x5_1).f3.f0) ((rd_T90 l0 x5_1).f3.f1) ((rd_T90 l0 x5_1).f4.f0) ((rd_T90 l0 x5_1).f4.f1) _ _ ((rd_T90 l0 x5_1).f5) x1_1 t104 _ ?side1 ?side2 A6.out).mono ?_); (case side1 => exact Cq (Kd.C_below HR103_7.out HB.out)); (case side2 => exact HC103_7.out); rintro e w9 ⟨rfl, hb⟩; refine ⟨_, rfl, ?_⟩; replace HB := bwb HB hb; (try clear hb); (try clear hb2); (try clear hk); (try clear hi)))
       go_roundg k1
       case measure => have := HK1.out; omega
       case rel => exact ⟨(t104), (wrap64 (x5_1 + 1)), (by first | rfl | (simp; done) | (simp [*]; done)), (by first | rfl | (simp; done) | (simp [*]; done)), H', ⟨by have := HK1.out; omega⟩, ⟨bwq HB⟩⟩
     ·rw [if_neg c5] at H
      exact absurd H (by simp)
    ·rw [if_neg c4] at H
     have c4b0 : decide (x5_1 < (l0.length : Int)) = false := decide_eq_false c4
     clear c4
     obtain rfl := Option.some.inj H
     go_wp2
     go_ret
     exact ⟨by first | rfl | (simp [errW_none, errW_some] <;> rfl) | (simp [*, errW_none, errW_some] <;> rfl), bwq HB⟩
def laws_szProg.f (k : Nat) (l0_0 : List (S90)) (a1 : Int) : Option (Int) := (laws_szStepS.f k l0_0 a1).bind fun t106 => (if t106 < 0 then (some (-1)) else (some t106))
theorem laws_szProg.calls (k : Nat) (A0_0 : Option Addr) (c0_0 : Nat) (l0_0 : List (S90)) (a1 : Int) (r : Int) (w : World) (hr0_0 : Kd.C k90 w A0_0 l0_0.length l0_0) (hc0_0 : l0_0.length ≤ c0_0) (h : laws_szProg.f k l0_0 a1 = some r) :
  Calls Try.prog 11 #[.agg #[.slice A0_0 l0_0.length c0_0], .int .i64 a1] w fun e w' => e = .returned (.int .i64 r) ∧ Below w.heap.size w w' := by
 have hu24 := Try.underlying24
 have HR0_0 := Aside0.mk hr0_0
 have HC0_0 := Aside0.mk hc0_0
 clear hr0_0 hc0_0
 have HB := Aside0.mk (Below.refl w.heap.size w)
 have H : ((laws_szStepS.f k l0_0 a1).bind fun t106 => (if t106 < 0 then (some (-1)) else (some t106))) = some r := h
 clear h
 replace H := Option.bind_eq_some_iff.mp H
 obtain ⟨t106, A30, H⟩ := H
 have A3 := Aside0.mk A30
 clear A30
 by_cases c4 : t106 < 0
 ·rw [if_pos c4] at H
  have c4b0 : decide (t106 < 0) = true := decide_eq_true c4
  clear c4
  obtain rfl := Option.some.inj H
  go_enter Try.func11, Try.ntmps11
  go_wp2_with (first | ((with_reducible refine gate_dst (N := 2) rfl ?_); refine bxe (cs := #[.slice A0_0 l0_0.length c0_0]) (t := 24) ?_; intro gb105 hg w5 hbox hb; have BK105 := Aside0.mk (hbox); have GW105 := bwz HB hg; have GE105 := bwz HB hg; replace HB := bwb HB hb; clear hb hbox hg; obtain ⟨hcz6, hfz6⟩ := bcf BK105) | ((with_reducible refine gate_callee (f := 42) rfl ?_); refine goesM (some 8) rfl rfl Try.func42 #[.slice A0_0 l0_0.length c0_0, .int .i64 a1] rfl ?_; (with_reducible refine (laws_szStepS.calls k _ _ l0_0 a1 t106 _ ?side1 ?side2 A3.out).mono ?_); (case side1 => exact Cq (Kd.C_below HR0_0.out HB.out)); (case side2 => exact HC0_0.out); rintro e w7 ⟨rfl, hb⟩; refine ⟨_, rfl, ?_⟩; replace BK105 := bkb BK105 hb; replace HB := bwb HB hb; (try clear hb); (try clear hb2); (try clear hk); (try clear hi)))
  go_ret
  exact ⟨by first | rfl | (simp [errW_none, errW_some] <;> rfl) | (simp [*, errW_none, errW_some] <;> rfl), bwq HB⟩
 ·rw [if_neg c4] at H
  have c4b0 : decide (t106 < 0) = false := decide_eq_false c4
  clear c4
  obtain rfl := Option.some.inj H
  go_enter Try.func11, Try.ntmps11
  go_wp2_with (first | ((with_reducible refine gate_dst (N := 2) rfl ?_); refine bxe (cs := #[.slice A0_0 l0_0.length c0_0]) (t := 24) ?_; intro gb105 hg w8 hbox hb; have BK105 := Aside0.mk (hbox); have GW105 := bwz HB hg; have GE105 := bwz HB hg; replace HB := bwb HB hb; clear hb hbox hg; obtain ⟨hcz9, hfz9⟩ := bcf BK105) | ((with_reducible refine gate_callee (f := 42) rfl ?_); refine goesM (some 8) rfl rfl Try.func42 #[.slice A0_0 l0_0.length c0_0, .int .i64 a1] rfl ?_; (with_reducible refine (laws_szStepS.calls k _ _ l0_0 a1 t106 _ ?side1 ?side2 A3.out).mono ?_); (case side1 => exact Cq (Kd.C_below HR0_0.out HB.out)); (case side2 => exact HC0_0.out); rintro e w10 ⟨rfl, hb⟩; refine ⟨_, rfl, ?_⟩; replace BK105 := bkb BK105 hb; replace HB := bwb HB hb; (try clear hb); (try clear hb2); (try clear hk); (try clear hi)))
  go_ret
  exact ⟨by first | rfl | (simp [errW_none, errW_some] <;> rfl) | (simp [*, errW_none, errW_some] <;> rfl), bwq HB⟩
def laws_toIntS.l0 : Nat → List Int → List Int → Int → Option (List Int)
 | 0, _, _, _ => none
 | k + 1, x0, x3, x4 => if x4 < (x0.length : Int) then (if 0 ≤ x4 then (if x4 < (x3.length : Int) then (laws_toIntS.l0 k x0 (x3.set (x4 : Int).toNat (rd x0 x4)) (wrap64 (x4 + 1))) else (none)) else (none)) else (some x3)
def laws_toIntS.f (k : Nat) (l0 : List Int) : Option (List Int) := if 0 ≤ (l0.length : Int) then (if ((l0.length : Int) : Int).toNat ≤ 35184372088832 then (laws_toIntS.l0 k l0 (List.replicate ((l0.length : Int) : Int).toNat 0) 0) else (none)) else (none)
theorem laws_toIntS.calls (k : Nat) (A0 : Option Addr) (c0 : Nat) (l0 : List Int) (r : List Int) (w : World) (hr0 : Kd.C (Kd.int .i64) w A0 l0.length l0) (hc0 : l0.length ≤ c0) (h : laws_toIntS.f k l0 = some r) :
  Calls Try.prog 17 #[.slice A0 l0.length c0] w fun e w' => ∃ v0_ : Value, e = .returned (v0_) ∧ Kd.R (Kd.int .i64) 3 w' w.heap.size (fun _ => True) v0_ r ∧ Below w.heap.size w w' := by
 have HR0 := Aside0.mk hr0
 have HC0 := Aside0.mk hc0
 clear hr0 hc0
 have HB := Aside0.mk (Below.refl w.heap.size w)
 have H : (if 0 ≤ (l0.length : Int) then (if ((l0.length : Int) : Int).toNat ≤ 35184372088832 then (laws_toIntS.l0 k l0 (List.replicate ((l0.length : Int) : Int).toNat 0) 0) else (none)) else (none)) = some r := h
 clear h
 by_cases c2 : 0 ≤ (l0.length : Int)
 ·rw [if_pos c2] at H
  have c2b0 := eq_true c2
  have c2b1 : decide (0 ≤ (l0.length : Int)) = true := decide_eq_true c2
  clear c2
  by_cases c3 : ((l0.length : Int) : Int).toNat ≤ 35184372088832
  ·rw [if_pos c3] at H
   have c3b0 := eq_true c3
   have c3b1 : decide (((l0.length : Int) : Int).toNat ≤ 35184372088832) = true := decide_eq_true c3
   clear c3
   obtain ⟨y193, hy193⟩ : ∃ y_ : List Int, y_ = (List.replicate ((l0.length : Int) : Int).toNat 0) := ⟨_, rfl⟩
   replace H : (laws_toIntS.l0 k l0 y193 0) = some r := by first | (rw [hy193]; with_reducible exact H) | (have H2_ := (Option.bind_some _ _).symm.trans H; rw [hy193]; with_reducible exact H2_) | (have H2_ := (Option.bind_some _ _).symm.trans H; with_reducible exact H2_) | with_reducible exact H | (rw [hy193]; exact H) | exact H
   have Ny193 := Aside0.mk hy193
   clear hy193
   have H' := Aside0.mk H
   clear H
   go_enter Try.func17, Try.ntmps17
   go_wp2_with (first | ((with_reducible refine gate_dst (N := 7) rfl ?_); refine Kd.R_make (Kd.int .i64) _ 3 rfl (N := 7) rfl 32 _ _ rfl (l0.length : Int) rfl rfl Try.underlying32 (.int .i64 0) 8 info3 rfl (by decide) (by omega) 0 (ok := fun _ => True) (okp := fun _ => True) rfl (fun _ hk => hk) trivial (oda) (Nat.le_trans (Nat.mul_le_mul_right _ (oda : (l0.length : Int).toNat ≤ 35184372088832)) (by omega)) (Below.refl _ _) (Nat.le_refl _) ?_; intro v194 w4 ho5 hb hg_ hnew_; clear hg_ hnew_; (first | rw [← Ny193.out] at ho5 | (simp only [Int.reduceToNat] at ho5; rw [← Ny193.out] at ho5)); have HO195 := Aside0.mk (Kd.R_lower ho5 (below_size (bwq HB))); replace HB := bwb HB hb; clear hb ho5))
   go_loopg [4] k (fun kq v4 w' => ∃ (x3_1 : List Int) (x4_1 : Int), v4 = .int .i64 x4_1 ∧ Aside0 (laws_toIntS.l0 kq l0 x3_1 x4_1 = some r) ∧ Aside0 (kq ≤ k) ∧ Aside0 (Kd.R (Kd.int .i64) 3 w' w.heap.size (fun _ => True) v194 x3_1) ∧ Aside0 (Below w.heap.size w w'))
   case atStart => exact ⟨(y193), (0), (by first | rfl | (simp; done) | (simp [*]; done)), H', ⟨Nat.le_refl _⟩, ⟨Rq HO195.out⟩, ⟨bwq HB⟩⟩
   case round =>
    clear H'
    try clear c1
    try clear c2
    try clear c2b0
    try clear c2b1
    try clear p2
    try clear c3
    try clear c3b0
    try clear c3b1
    obtain ⟨x3_1, x4_1, rfl, HA, HK1, HO_3, HB⟩ := hrel
    cases gk with
    | zero => exact absurd HA.out (by intro h_; first | (cases h_; done) | (simp [laws_toIntS.l0] at h_))
    | succ k1 =>
     have H := HA.out
     clear HA
     simp only [laws_toIntS.l0] at H
     by_cases c6 : x4_1 < (l0.length : Int)
     ·rw [if_pos c6] at H
      have c6b0 : decide (x4_1 < (l0.length : Int)) = true := decide_eq_true c6
      clear c6
      by_cases c7 : 0 ≤ x4_1
      ·rw [if_pos c7] at H
       have c7b0 : decide (0 ≤ x4_1) = true := decide_eq_true c7
       clear c7
       by_cases c8 : x4_1 < (x3_1.length : Int)
       ·rw [if_pos c8] at H
        have c8b0 : decide (x4_1 < (x3_1.length : Int)) = true := decide_eq_true c8
        clear c8
        obtain ⟨y197, hy197⟩ : ∃ y_ : List Int, y_ = (x3_1.set (x4_1 : Int).toNat (rd l0 x4_1)) := ⟨_, rfl⟩
        replace H : (laws_toIntS.l0 k1 l0 y197 (wrap64 (x4_1 + 1))) = some r := by first | (rw [hy197]; with_reducible exact H) | (have H2_ := (Option.bind_some _ _).symm.trans H; rw [hy197]; with_reducible exact H2_) | (have H2_ := (Option.bind_some _ _).symm.trans H; with_reducible exact H2_) | with_reducible exact H | (rw [hy197]; exact H) | exact H
        have Ny197 := Aside0.mk hy197
        clear hy197
        have H' := Aside0.mk H
        clear H
        have p196 : 0 ≤ (x4_1 : Int) := oda
        have q196 : x4_1 < (l0.length : Int) := oda
        obtain ⟨ad196, e196, hx196_0⟩ := Kd.at_int HR0.out x4_1 p196 q196
        cases e196
        replace hx196_0 := hxb HB hx196_0
        replace p196 := eq_true p196
        replace q196 := eq_true q196
        have p9 : 0 ≤ (x4_1 : Int) := oda
        have q9 : (x4_1 : Int) < ((x3_1.length : Int) : Int) := oda
        obtain ⟨go9, co9, eo9, gb9, gl9, cl9, HG9⟩ := Kd.R_form HO_3.out (by omega)
        (first | cases eo9 | (injection eo9 with ea_ en_ ec_; (first | subst ea_ | (injection ea_ with ea_; subst ea_)); subst ec_; clear en_))
        have GB9 := Aside0.mk gb9
        have GG9 := Aside0.mk HG9
        clear gb9 gl9 HG9
        obtain ⟨hx9_0, hf9_0⟩ := Kd.R_celln 0 HO_3.out (x4_1 : Int) p9 q9
        replace p9 := eq_true p9
        replace q9 := eq_true q9
        have HP10 := Kd.R_putg HO_3.out (x4_1 : Int) (rd l0 x4_1)
        go_wp2_with (first | ((with_reducible refine gate_store (t := 3) (p := 20) rfl ?_); refine store_event (t := 3) (p := 20) (v := ?vo_w11) (w1 := (wr.setCell ⟨go9, (x4_1 : Int).toNat, none⟩ (.int .i64 (rd l0 x4_1)))) ?hg ?ho ?hn ?hr ?_; (case ho => rfl); (case hg => rfl); (case hn => rfl); (case hr => first | (go_simp; done) | (go_simp; rfl) | (go_simp; rfl)); intro w11 hw; have hg : wr.grownBy w11 (some go9) := (by rw [hw]; exact HP10.2); have hp_ : Kd.R (Kd.int .i64) 3 w11 w.heap.size (fun _ => True) (.slice (some ⟨go9, 0, none⟩) x3_1.length co9) y197 := (by rw [hw, Ny197.out]; exact HP10.1); clear HP10; replace HO_3 := Aside0.mk (hp_); replace HB := Aside0.mk ((by rw [hw]; exact below_set (HB.out) GB9.out : Below w.heap.size w w11)); clear hg hw hp_))
        go_roundg k1
        case measure => have := HK1.out; omega
        case rel => exact ⟨(y197), (wrap64 (x4_1 + 1)), (by first | rfl | (simp; done) | (simp [*]; done)), H', ⟨by have := HK1.out; omega⟩, ⟨Rq HO_3.out⟩, ⟨bwq HB⟩⟩
       ·rw [if_neg c8] at H
        exact absurd H (by simp)
      ·rw [if_neg c7] at H
       exact absurd H (by simp)
     ·rw [if_neg c6] at H
      have c6b0 : decide (x4_1 < (l0.length : Int)) = false := decide_eq_false c6
      clear c6
      obtain rfl := Option.some.inj H
      go_wp2
      go_ret
      exact ⟨_, by first | rfl | (simp [errW_none, errW_some] <;> rfl) | (simp [*, errW_none, errW_some] <;> rfl), Rq HO_3.out, bwq HB⟩
  ·rw [if_neg c3] at H
   exact absurd H (by simp)
 ·rw [if_neg c2] at H
  exact absurd H (by simp)
def laws_toOpnd.f (a0_0 : Int) (a0_1 : Int) : Option (Int × Int) := some (a0_0, a0_1)
theorem laws_toOpnd.calls (a0_0 : Int) (a0_1 : Int) (r1 : Int) (r2 : Int) (w : World) (h : laws_toOpnd.f a0_0 a0_1 = some (r1, r2)) :
  Calls Try.prog 48 #[.agg #[.int .i64 a0_0, .int .i64 a0_1]] w fun e w' => e = .returned (.agg #[.int .i64 r1, .int .i64 r2]) ∧ Below w.heap.size w w' := by
 have hu26 := Try.underlying26
 have hu40 := Try.underlying40
 have HB := Aside0.mk (Below.refl w.heap.size w)
 have H : (some (a0_0, a0_1)) = some (r1, r2) := h
 clear h
 simp only [Option.some.injEq, Prod.mk.injEq] at H
 obtain ⟨rfl, rfl⟩ := H
 go_enter Try.func48, Try.ntmps48
 go_wp2_with (first | ((with_reducible refine gate_dst (N := 1) rfl ?_); refine bxe (cs := #[.int .i64 a0_0, .int .i64 a0_1]) (t := 26) ?_; intro gb198 hg w2 hbox hb; have BK198 := Aside0.mk (hbox); have GW198 := bwz HB hg; have GE198 := bwz HB hg; replace HB := bwb HB hb; clear hb hbox hg) | ((with_reducible refine gate_dst (N := 2) rfl ?_); refine bxe (cs := #[.int .i64 0, .int .i64 0]) (t := 40) ?_; intro gb199 hg w3 hbox hb; have BK199 := Aside0.mk (hbox); have GW199 := bwz HB hg; have GE199 := bwz HB hg; replace HB := bwb HB hb; have NB198_199 := bkl BK198 hg; have NB199_198 := bkg BK198 hg; replace BK198 := bkb BK198 hb; clear hb hbox hg) | ((with_reducible refine gate_dst (N := 3) rfl ?_); refine bxe (cs := #[.int .i64 0, .int .i64 0]) (t := 40) ?_; intro gb200 hg w4 hbox hb; have BK200 := Aside0.mk (hbox); have GW200 := bwz HB hg; have GE200 := bwz HB hg; replace HB := bwb HB hb; have NB198_200 := bkl BK198 hg; have NB200_198 := bkg BK198 hg; replace BK198 := bkb BK198 hb; have NB199_200 := bkl BK199 hg; have NB200_199 := bkg BK199 hg; replace BK199 := bkb BK199 hb; clear hb hbox hg; have hnb5 := NB198_199.out; have hnc5 := NB199_198.out; have hnb6 := NB198_200.out; have hnc6 := NB200_198.out; obtain ⟨hcz7, hfz7⟩ := bcf BK198; have hnb8 := NB200_199.out; have hnc8 := NB199_200.out; obtain ⟨hcz9, hfz9⟩ := bcf BK200; obtain ⟨hcz10, hfz10⟩ := bcf BK199))
 refine bodyPost_ret (results_cell_row rfl _ _ gb199 40 #[.int .i64 a0_0, .int .i64 a0_1] (0, 0) _ rfl (by (with_reducible repeat (first | refine blk_drewN ?_ _ | refine blk_drew ?_ | refine blk_alloc ?_ _)); refine blk_put (cs := #[.int .i64 a0_0, .int .i64 0]) ?_ 1 _ rfl; (with_reducible repeat (first | refine blk_drewN ?_ _ | refine blk_drew ?_ | refine blk_alloc ?_ _)); refine blk_put (cs := #[.int .i64 0, .int .i64 0]) ?_ 0 _ rfl; (with_reducible repeat (first | refine blk_drewN ?_ _ | refine blk_drew ?_ | refine blk_alloc ?_ _)); refine blk_far ?_ NB199_200.out _; (with_reducible repeat (first | refine blk_drewN ?_ _ | refine blk_drew ?_ | refine blk_alloc ?_ _)); refine blk_far ?_ NB199_200.out _; exact bkq BK199) Try.underlying40 rfl (by kernel_rfl)) rfl ?_
 exact ⟨by first | rfl | (simp [errW_none, errW_some] <;> rfl) | (simp [*, errW_none, errW_some] <;> rfl), bwq HB⟩
def laws_toStep.f (k : Nat) (a0_0 : Int) (a0_1 : Int) (a0_2 : Int) (a0_3 : Int) (a0_4 : Int) (a0_5 : Int) (a0_6 : Int) (l0_7 : List Int) : Option (Int × Int × Int × Int × Int × Int × Int × List Int) := (laws_toOpnd.f a0_3 a0_4).bind fun bt204 => ((laws_toOpnd.f a0_5 a0_6).bind fun bt206 => ((laws_toIntS.f k l0_7).bind fun t208 => (some (a0_0, a0_1, a0_2, bt204.1, bt204.2, bt206.1, bt206.2, t208))))
theorem laws_toStep.calls (k : Nat) (a0_0 : Int) (a0_1 : Int) (a0_2 : Int) (a0_3 : Int) (a0_4 : Int) (a0_5 : Int) (a0_6 : Int) (A0_7 : Option Addr) (c0_7 : Nat) (l0_7 : List Int) (r1 : Int) (r2 : Int) (r3 : Int) (r4 : Int) (r5 : Int) (r6 : Int) (r7 : Int) (r8 : List Int) (w : World) (hr0_7 : Kd.C (Kd.int .i64) w A0_7 l0_7.length l0_7) (hc0_7 : l0_7.length ≤ c0_7) (h : laws_toStep.f k a0_0 a0_1 a0_2 a0_3 a0_4 a0_5 a0_6 l0_7 = some (r1, r2, r3, r4, r5, r6, r7, r8)) :
  Calls Try.prog 81 #[.agg #[.int .i64 a0_0, .int .i64 a0_1, .int .i64 a0_2, .int .i64 a0_3, .int .i64 a0_4, .int .i64 a0_5, .int .i64 a0_6, .slice A0_7 l0_7.length c0_7]] w fun e w' => ∃ v7_ : Value, e = .returned (.agg #[.int .i64 r1, .int .i64 r2, .int .i64 r3, .int .i64 r4, .int .i64 r5, .int .i64 r6, .int .i64 r7, v7_]) ∧ Kd.R (Kd.int .i64) 3 w' w.heap.size (fun _ => True) v7_ r8 ∧ Below w.heap.size w w' := by
 have hu90 := Try.underlying90
 have hu77 := Try.underlying77
 have hu26 := Try.underlying26
 have hu40 := Try.underlying40
 have HR0_7 := Aside0.mk hr0_7
 have HC0_7 := Aside0.mk hc0_7
 clear hr0_7 hc0_7
 have HB := Aside0.mk (Below.refl w.heap.size w)
 have H : ((laws_toOpnd.f a0_3 a0_4).bind fun bt204 => ((laws_toOpnd.f a0_5 a0_6).bind fun bt206 => ((laws_toIntS.f k l0_7).bind fun t208 => (some (a0_0, a0_1, a0_2, bt204.1, bt204.2, bt206.1, bt206.2, t208))))) = some (r1, r2, r3, r4, r5, r6, r7, r8) := h
 clear h
 replace H := Option.bind_eq_some_iff.mp H
 obtain ⟨⟨t204, t205⟩, A20, H⟩ := H
 have A2 := Aside0.mk A20
 clear A20
 replace H := Option.bind_eq_some_iff.mp H
 obtain ⟨⟨t206, t207⟩, A30, H⟩ := H
 have A3 := Aside0.mk A30
 clear A30
 replace H := Option.bind_eq_some_iff.mp H
 obtain ⟨t208, A40, H⟩ := H
 have A4 := Aside0.mk A40
 clear A40
 simp only [Option.some.injEq, Prod.mk.injEq] at H
 obtain ⟨rfl, rfl, rfl, rfl, rfl, rfl, rfl, rfl⟩ := H
 go_enter Try.func81, Try.ntmps81
 go_wp2_with (first | ((with_reducible refine gate_dst (N := 1) rfl ?_); refine bxe (cs := #[.int .i64 a0_0, .int .i64 a0_1, .int .i64 a0_2, .int .i64 a0_3, .int .i64 a0_4, .int .i64 a0_5, .int .i64 a0_6, .slice A0_7 l0_7.length c0_7]) (t := 90) ?_; intro gb201 hg w5 hbox hb; have BK201 := Aside0.mk (hbox); have GW201 := bwz HB hg; have GE201 := bwz HB hg; replace HB := bwb HB hb; clear hb hbox hg) | ((with_reducible refine gate_dst (N := 2) rfl ?_); refine bxe (cs := #[.int .i64 0, .int .i64 0, .int .i64 0, .int .i64 0, .int .i64 0, .int .i64 0, .int .i64 0, .slice none 0 0]) (t := 77) ?_; intro gb202 hg w6 hbox hb; have BK202 := Aside0.mk (hbox); have GW202 := bwz HB hg; have GE202 := bwz HB hg; replace HB := bwb HB hb; have NB201_202 := bkl BK201 hg; have NB202_201 := bkg BK201 hg; replace BK201 := bkb BK201 hb; clear hb hbox hg) | ((with_reducible refine gate_dst (N := 3) rfl ?_); refine bxe (cs := #[.int .i64 0, .int .i64 0, .int .i64 0, .int .i64 0, .int .i64 0, .int .i64 0, .int .i64 0, .slice none 0 0]) (t := 77) ?_; intro gb203 hg w7 hbox hb; have BK203 := Aside0.mk (hbox); have GW203 := bwz HB hg; have GE203 := bwz HB hg; replace HB := bwb HB hb; have NB201_203 := bkl BK201 hg; have NB203_201 := bkg BK201 hg; replace BK201 := bkb BK201 hb; have NB202_203 := bkl BK202 hg; have NB203_202 := bkg BK202 hg; replace BK202 := bkb BK202 hb; clear hb hbox hg; have hnb8 := NB201_202.out; have hnc8 := NB202_201.out; have hnb9 := NB201_203.out; have hnc9 := NB203_201.out; obtain ⟨hcz10, hfz10⟩ := bcf BK201; have hnb11 := NB203_202.out; have hnc11 := NB202_203.out; obtain ⟨hcz12, hfz12⟩ := bcf BK203) | ((with_reducible refine gate_callee (f := 48) rfl ?_); refine goesM (some 15) rfl rfl Try.func48 #[.agg #[.int .i64 a0_3, .int .i64 a0_4]] rfl ?_; (with_reducible refine (laws_toOpnd.calls a0_3 a0_4 t204 t205 _ A2.out).mono ?_); rintro e w13 ⟨rfl, hb⟩; refine ⟨_, rfl, ?_⟩; replace BK201 := Aside0.mk (blk_below (g := gb201) (o := .cells #[.int .i64 a0_0, .int .i64 a0_1, .int .i64 a0_2, .int .i64 a0_3, .int .i64 a0_4, .int .i64 a0_5, .int .i64 a0_6, .slice A0_7 l0_7.length c0_7] 90 (0, 0)) (by (with_reducible repeat (first | refine blk_drewN ?_ _ | refine blk_drew ?_ | refine blk_alloc ?_ _)); refine blk_far ?_ NB201_203.out _; (with_reducible repeat (first | refine blk_drewN ?_ _ | refine blk_drew ?_ | refine blk_alloc ?_ _)); refine blk_far ?_ NB201_203.out _; (with_reducible repeat (first | refine blk_drewN ?_ _ | refine blk_drew ?_ | refine blk_alloc ?_ _)); refine blk_far ?_ NB201_203.out _; exact bkq BK201) hb); replace BK202 := Aside0.mk (blk_below (g := gb202) (o := .cells #[.int .i64 0, .int .i64 0, .int .i64 0, .int .i64 0, .int .i64 0, .int .i64 0, .int .i64 0, .slice none 0 0] 77 (0, 0)) (by (with_reducible repeat (first | refine blk_drewN ?_ _ | refine blk_drew ?_ | refine blk_alloc ?_ _)); refine blk_far ?_ NB202_203.out _; (with_reducible repeat (first | refine blk_drewN ?_ _ | refine blk_drew ?_ | refine blk_alloc ?_ _)); refine blk_far ?_ NB202_203.out _; (with_reducible repeat (first | refine blk_drewN ?_ _ | refine blk_drew ?_ | refine blk_alloc ?_ _)); refine blk_far ?_ NB202_203.out _; exact bkq BK202) hb); replace BK203 := Aside0.mk (blk_below (g := gb203) (o := .cells #[.int .i64 a0_0, .int .i64 a0_1, .int .i64 a0_2, .int .i64 0, .int .i64 0, .int .i64 0, .int .i64 0, .slice none 0 0] 77 (0, 0)) (by (with_reducible repeat (first | refine blk_drewN ?_ _ | refine blk_drew ?_ | refine blk_alloc ?_ _)); refine blk_put (cs := #[.int .i64 a0_0, .int .i64 a0_1, .int .i64 0, .int .i64 0, .int .i64 0, .int .i64 0, .int .i64 0, .slice none 0 0]) ?_ 2 _ rfl; (with_reducible repeat (first | refine blk_drewN ?_ _ | refine blk_drew ?_ | refine blk_alloc ?_ _)); refine blk_put (cs := #[.int .i64 a0_0, .int .i64 0, .int .i64 0, .int .i64 0, .int .i64 0, .int .i64 0, .int .i64 0, .slice none 0 0]) ?_ 1 _ rfl; (with_reducible repeat (first | refine blk_drewN ?_ _ | refine blk_drew ?_ | refine blk_alloc ?_ _)); refine blk_put (cs := #[.int .i64 0, .int .i64 0, .int .i64 0, .int .i64 0, .int .i64 0, .int .i64 0, .int .i64 0, .slice none 0 0]) ?_ 0 _ rfl; exact bkq BK203) hb); replace HB := bwb HB hb; (try clear hb); (try clear hb2); (try clear hk); (try clear hi); obtain ⟨hcz14, hfz14⟩ := bcf BK203; obtain ⟨hcz15, hfz15⟩ := bcf BK201) | ((with_reducible refine gate_callee (f := 48) rfl ?_); refine goesM (some 19) rfl rfl Try.func48 #[.agg #[.int .i64 a0_5, .int .i64 a0_6]] rfl ?_; (with_reducible refine (laws_toOpnd.calls a0_5 a0_6 t206 t207 _ A3.out).mono ?_); rintro e w16 ⟨rfl, hb⟩; refine ⟨_, rfl, ?_⟩; replace BK201 := Aside0.mk (blk_below (g := gb201) (o := .cells #[.int .i64 a0_0, .int .i64 a0_1, .int .i64 a0_2, .int .i64 a0_3, .int .i64 a0_4, .int .i64 a0_5, .int .i64 a0_6, .slice A0_7 l0_7.length c0_7] 90 (0, 0)) (by (with_reducible repeat (first | refine blk_drewN ?_ _ | refine blk_drew ?_ | refine blk_alloc ?_ _)); refine blk_far ?_ NB201_203.out _; (with_reducible repeat (first | refine blk_drewN ?_ _ | refine blk_drew ?_ | refine blk_alloc ?_ _)); refine blk_far ?_ NB201_203.out _; exact bkq BK201) hb); replace BK202 := Aside0.mk (blk_below (g := gb202) (o := .cells #[.int .i64 0, .int .i64 0, .int .i64 0, .int .i64 0, .int .i64 0, .int .i64 0, .int .i64 0, .slice none 0 0] 77 (0, 0)) (by (with_reducible repeat (first | refine blk_drewN ?_ _ | refine blk_drew ?_ | refine blk_alloc ?_ _)); refine blk_far ?_ NB202_203.out _; (with_reducible repeat (first | refine blk_drewN ?_ _ | refine blk_drew ?_ | refine blk_alloc ?_ _)); refine blk_far ?_ NB202_203.out _; exact bkq BK202) hb); replace BK203 := Aside0.mk (blk_below (g := gb203) (o := .cells #[.int .i64 a0_0, .int .i64 a0_1, .int .i64 a0_2, .int .i64 t204, .int .i64 t205, .int .i64 0, .int .i64 0, .slice none 0 0] 77 (0, 0)) (by (with_reducible repeat (first | refine blk_drewN ?_ _ | refine blk_drew ?_ | refine blk_alloc ?_ _)); refine blk_put (cs := #[.int .i64 a0_0, .int .i64 a0_1, .int .i64 a0_2, .int .i64 t204, .int .i64 0, .int .i64 0, .int .i64 0, .slice none 0 0]) ?_ 4 _ rfl; (with_reducible repeat (first | refine blk_drewN ?_ _ | refine blk_drew ?_ | refine blk_alloc ?_ _)); refine blk_put (cs := #[.int .i64 a0_0, .int .i64 a0_1, .int .i64 a0_2, .int .i64 0, .int .i64 0, .int .i64 0, .int .i64 0, .slice none 0 0]) ?_ 3 _ rfl; exact bkq BK203) hb); replace HB := bwb HB hb; (try clear hb); (try clear hb2); (try clear hk); (try clear hi); obtain ⟨hcz17, hfz17⟩ := bcf BK203; obtain ⟨hcz18, hfz18⟩ := bcf BK201) | ((with_reducible refine gate_callee (f := 17) rfl ?_); refine goesM (some 23) rfl rfl Try.func17 #[.slice A0_7 l0_7.length c0_7] rfl ?_; (with_reducible refine (laws_toIntS.calls k _ _ l0_7 t208 _ ?side1 ?side2 A4.out).mono ?_); (case side1 => exact Kd.C_below HR0_7.out (bwq HB)); (case side2 => exact HC0_7.out); rintro e w19 ⟨v209, rfl, ho0, hb⟩; refine ⟨_, rfl, ?_⟩; have HO210 := Aside0.mk (Kd.R_lower ho0 (below_size (bwq HB))); replace BK201 := Aside0.mk (blk_below (g := gb201) (o := .cells #[.int .i64 a0_0, .int .i64 a0_1, .int .i64 a0_2, .int .i64 a0_3, .int .i64 a0_4, .int .i64 a0_5, .int .i64 a0_6, .slice A0_7 l0_7.length c0_7] 90 (0, 0)) (by (with_reducible repeat (first | refine blk_drewN ?_ _ | refine blk_drew ?_ | refine blk_alloc ?_ _)); refine blk_far ?_ NB201_203.out _; (with_reducible repeat (first | refine blk_drewN ?_ _ | refine blk_drew ?_ | refine blk_alloc ?_ _)); refine blk_far ?_ NB201_203.out _; exact bkq BK201) hb); replace BK202 := Aside0.mk (blk_below (g := gb202) (o := .cells #[.int .i64 0, .int .i64 0, .int .i64 0, .int .i64 0, .int .i64 0, .int .i64 0, .int .i64 0, .slice none 0 0] 77 (0, 0)) (by (with_reducible repeat (first | refine blk_drewN ?_ _ | refine blk_drew ?_ | refine blk_alloc ?_ _)); refine blk_far ?_ NB202_203.out _; (with_reducible repeat (first | refine blk_drewN ?_ _ | refine blk_drew ?_ | refine blk_alloc ?_ _)); refine blk_far ?_ NB202_203.out _; exact bkq BK202) hb); replace BK203 := Aside0.mk (blk_below (g := gb203) (o := .cells #[.int .i64 a0_0, .int .i64 a0_1, .int .i64 a0_2, .int .i64 t204, .int .i64 t205, .int .i64 t206, .int .i64 t207, .slice none 0 0] 77 (0, 0)) (by (with_reducible repeat (first | refine blk_drewN ?_ _ | refine blk_drew ?_ | refine blk_alloc ?_ _)); refine blk_put (cs := #[.int .i64 a0_0, .int .i64 a0_1, .int .i64 a0_2, .int .i64 t204, .int .i64 t205, .int .i64 t206, .int .i64 0, .slice none 0 0]) ?_ 6 _ rfl; (with_reducible repeat (first | refine blk_drewN ?_ _ | refine blk_drew ?_ | refine blk_alloc ?_ _)); refine blk_put (cs := #[.int .i64 a0_0, .int .i64 a0_1, .int .i64 a0_2, .int .i64 t204, .int .i64 t205, .int .i64 0, .int .i64 0, .slice none 0 0]) ?_ 5 _ rfl; exact bkq BK203) hb); replace HB := bwb HB hb; (try clear hb); (try clear hb2); (try clear hk); (try clear hi); (try clear ho0); obtain ⟨Ao20, co20, eo20⟩ := Kd.R_slice HO210.out; subst eo20; obtain ⟨hcz21, hfz21⟩ := bcf BK203; obtain ⟨hcz22, hfz22⟩ := bcf BK202))
 refine bodyPost_ret (results_cell_row rfl _ _ gb202 77 #[.int .i64 a0_0, .int .i64 a0_1, .int .i64 a0_2, .int .i64 t204, .int .i64 t205, .int .i64 t206, .int .i64 t207, .slice Ao20 t208.length co20] (0, 0) _ rfl (by (with_reducible repeat (first | refine blk_drewN ?_ _ | refine blk_drew ?_ | refine blk_alloc ?_ _)); refine blk_put (cs := #[.int .i64 a0_0, .int .i64 a0_1, .int .i64 a0_2, .int .i64 t204, .int .i64 t205, .int .i64 t206, .int .i64 t207, .slice none 0 0]) ?_ 7 _ rfl; (with_reducible repeat (first | refine blk_drewN ?_ _ | refine blk_drew ?_ | refine blk_alloc ?_ _)); refine blk_put (cs := #[.int .i64 a0_0, .int .i64 a0_1, .int .i64 a0_2, .int .i64 t204, .int .i64 t205, .int .i64 t206, .int .i64 0, .slice none 0 0]) ?_ 6 _ rfl; (with_reducible repeat (first | refine blk_drewN ?_ _ | refine blk_drew ?_ | refine blk_alloc ?_ _)); refine blk_put (cs := #[.int .i64 a0_0, .int .i64 a0_1, .int .i64 a0_2, .int .i64 t204, .int .i64 t205, .int .i64 0, .int .i64 0, .slice none 0 0]) ?_ 5 _ rfl; (with_reducible repeat (first | refine blk_drewN ?_ _ | refine blk_drew ?_ | refine blk_alloc ?_ _)); refine blk_put (cs := #[.int .i64 a0_0, .int .i64 a0_1, .int .i64 a0_2, .int .i64 t204, .int .i64 0, .int .i64 0, .int .i64 0, .slice none 0 0]) ?_ 4 _ rfl; (with_reducible repeat (first | refine blk_drewN ?_ _ | refine blk_drew ?_ | refine blk_alloc ?_ _)); refine blk_put (cs := #[.int .i64 a0_0, .int .i64 a0_1, .int .i64 a0_2, .int .i64 0, .int .i64 0, .int .i64 0, .int .i64 0, .slice none 0 0]) ?_ 3 _ rfl; (with_reducible repeat (first | refine blk_drewN ?_ _ | refine blk_drew ?_ | refine blk_alloc ?_ _)); refine blk_put (cs := #[.int .i64 a0_0, .int .i64 a0_1, .int .i64 0, .int .i64 0, .int .i64 0, .int .i64 0, .int .i64 0, .slice none 0 0]) ?_ 2 _ rfl; (with_reducible repeat (first | refine blk_drewN ?_ _ | refine blk_drew ?_ | refine blk_alloc ?_ _)); refine blk_put (cs := #[.int .i64 a0_0, .int .i64 0, .int .i64 0, .int .i64 0, .int .i64 0, .int .i64 0, .int .i64 0, .slice none 0 0]) ?_ 1 _ rfl; (with_reducible repeat (first | refine blk_drewN ?_ _ | refine blk_drew ?_ | refine blk_alloc ?_ _)); refine blk_put (cs := #[.int .i64 0, .int .i64 0, .int .i64 0, .int .i64 0, .int .i64 0, .int .i64 0, .int .i64 0, .slice none 0 0]) ?_ 0 _ rfl; (with_reducible repeat (first | refine blk_drewN ?_ _ | refine blk_drew ?_ | refine blk_alloc ?_ _)); refine blk_far ?_ NB202_203.out _; exact bkq BK202) Try.underlying77 rfl (by kernel_rfl)) rfl ?_
 exact ⟨_, by first | rfl | (simp [errW_none, errW_some] <;> rfl) | (simp [*, errW_none, errW_some] <;> rfl), by (with_reducible repeat (first | apply Kd.R_alloc | apply Kd.R_drewN | apply Kd.R_drew)); exact Kd.R_mono (Kd.R_far (p := ⟨gb202, 7, none⟩) (Kd.R_far (p := ⟨gb202, 6, none⟩) (Kd.R_far (p := ⟨gb202, 5, none⟩) (Kd.R_far (p := ⟨gb202, 4, none⟩) (Kd.R_far (p := ⟨gb202, 3, none⟩) (Kd.R_far (p := ⟨gb202, 2, none⟩) (Kd.R_far (p := ⟨gb202, 1, none⟩) (Kd.R_far (p := ⟨gb202, 0, none⟩) (Kd.R_far (p := ⟨gb203, 7, none⟩) (Kd.R_types (Kd.R_types HO210.out BK203.out (by decide)) BK202.out (by decide)) (fun _ hk => hk.1.2) (.slice Ao20 t208.length co20)) (fun _ hk => hk.2) (.int .i64 a0_0)) (fun _ hk => hk.2) (.int .i64 a0_1)) (fun _ hk => hk.2) (.int .i64 a0_2)) (fun _ hk => hk.2) (.int .i64 t204)) (fun _ hk => hk.2) (.int .i64 t205)) (fun _ hk => hk.2) (.int .i64 t206)) (fun _ hk => hk.2) (.int .i64 t207)) (fun _ hk => hk.2) (.slice Ao20 t208.length co20)) (fun _ hk => trivial), bwq HB⟩
def laws_toStepS.l0 : Nat → List (S90) → List (S77) → Int → Option ((List (S77)))
 | 0, _, _, _ => none
 | k + 1, x0, x3, x4 => if x4 < (x0.length : Int) then (if 0 ≤ x4 then ((laws_toStep.f k ((rd_T90 x0 x4).f0) ((rd_T90 x0 x4).f1) ((rd_T90 x0 x4).f2) ((rd_T90 x0 x4).f3.f0) ((rd_T90 x0 x4).f3.f1) ((rd_T90 x0 x4).f4.f0) ((rd_T90 x0 x4).f4.f1) ((rd_T90 x0 x4).f5)).bind fun bt215 => (if x4 < (x3.length : Int) then (laws_toStepS.l0 k x0 (x3.set (x4 : Int).toNat (⟨bt215.1, bt215.2.1, bt215.2.2.1, (⟨bt215.2.2.2.1, bt215.2.2.2.2.1⟩ : S40), (⟨bt215.2.2.2.2.2.1, bt215.2.2.2.2.2.2.1⟩ : S40), bt215.2.2.2.2.2.2.2⟩ : S77)) (wrap64 (x4 + 1))) else (none))) else (none)) else (some x3)
def laws_toStepS.f (k : Nat) (l0 : List (S90)) : Option ((List (S77))) := if 0 ≤ (l0.length : Int) then (if ((l0.length : Int) : Int).toNat ≤ 3518437208883 then (laws_toStepS.l0 k l0 (List.replicate ((l0.length : Int) : Int).toNat z77) 0) else (none)) else (none)
theorem laws_toStepS.calls (k : Nat) (A0 : Option Addr) (c0 : Nat) (l0 : List (S90)) (r : List (S77)) (w : World) (hr0 : Kd.C k90 w A0 l0.length l0) (hc0 : l0.length ≤ c0) (h : laws_toStepS.f k l0 = some r) :
  Calls Try.prog 47 #[.slice A0 l0.length c0] w fun e w' => ∃ v0_ : Value, e = .returned (v0_) ∧ Kd.S k77 77 w' w.heap.size (fun _ => True) v0_ r ∧ Below w.heap.size w w' := by
 have hu90 := Try.underlying90
 have hu77 := Try.underlying77
 have HR0 := Aside0.mk hr0
 have HC0 := Aside0.mk hc0
 clear hr0 hc0
 have HB := Aside0.mk (Below.refl w.heap.size w)
 have H : (if 0 ≤ (l0.length : Int) then (if ((l0.length : Int) : Int).toNat ≤ 3518437208883 then (laws_toStepS.l0 k l0 (List.replicate ((l0.length : Int) : Int).toNat z77) 0) else (none)) else (none)) = some r := h
 clear h
 by_cases c2 : 0 ≤ (l0.length : Int)
 ·rw [if_pos c2] at H
  have c2b0 := eq_true c2
  have c2b1 : decide (0 ≤ (l0.length : Int)) = true := decide_eq_true c2
  clear c2
  by_cases c3 : ((l0.length : Int) : Int).toNat ≤ 3518437208883
  ·rw [if_pos c3] at H
   have c3b0 := eq_true c3
   have c3b1 : decide (((l0.length : Int) : Int).toNat ≤ 3518437208883) = true := decide_eq_true c3
   clear c3
   obtain ⟨y211, hy211⟩ : ∃ y_ : List (S77), y_ = (List.replicate ((l0.length : Int) : Int).toNat z77) := ⟨_, rfl⟩
   replace H : (laws_toStepS.l0 k l0 y211 0) = some r := by first | (rw [hy211]; with_reducible exact H) | (have H2_ := (Option.bind_some _ _).symm.trans H; rw [hy211]; with_reducible exact H2_) | (have H2_ := (Option.bind_some _ _).symm.trans H; with_reducible exact H2_) | with_reducible exact H | (rw [hy211]; exact H) | exact H
   have Ny211 := Aside0.mk hy211
   clear hy211
   have H' := Aside0.mk H
   clear H
   go_enter Try.func47, Try.ntmps47
   go_wp2_with (first | ((with_reducible refine gate_dst (N := 7) rfl ?_); refine Kd.S_make k77 _ 77 rfl (N := 7) rfl 36 _ _ rfl (l0.length : Int) rfl rfl Try.underlying36 (.agg #[(.int .i64 0), (.int .i64 0), (.int .i64 0), (.int .i64 0), (.int .i64 0), (.int .i64 0), (.int .i64 0), (.slice none 0 0)]) 80 info77 rfl (by decide) (by omega) z77 (ok := fun _ => True) (okp := fun _ => True) (k77_mkM _ _ _ z77 (Kd.R_nil _ _ _ _ _)) (fun _ hk => hk) trivial (oda) (Nat.le_trans (Nat.mul_le_mul_right _ (oda : (l0.length : Int).toNat ≤ 3518437208883)) (by omega)) (Below.refl _ _) (Nat.le_refl _) ?_; intro v212 w4 ho5 hb hg_ hnew_; clear hg_ hnew_; (first | rw [← Ny211.out] at ho5 | (simp only [Int.reduceToNat] at ho5; rw [← Ny211.out] at ho5)); have HO213 := Aside0.mk (Kd.S_lower ho5 (below_size (bwq HB))); replace HB := bwb HB hb; clear hb ho5))
   go_loopg [4] k (fun kq v4 w' => ∃ (x3_1 : List (S77)) (x4_1 : Int), v4 = .int .i64 x4_1 ∧ Aside0 (laws_toStepS.l0 kq l0 x3_1 x4_1 = some r) ∧ Aside0 (kq ≤ k) ∧ Aside0 (Kd.S k77 77 w' w.heap.size (fun _ => True) v212 x3_1) ∧ Aside0 (Below w.heap.size w w'))
   case atStart => exact ⟨(y211), (0), (by first | rfl | (simp; done) | (simp [*]; done)), H', ⟨Nat.le_refl _⟩, ⟨Sq HO213.out⟩, ⟨bwq HB⟩⟩
   case round =>
    clear H'
    try clear c2
    try clear c2b0
    try clear c2b1
    try clear p2
    try clear c3
    try clear c3b0
    try clear c3b1
    try clear c4
    obtain ⟨x3_1, x4_1, rfl, HA, HK1, HO_3, HB⟩ := hrel
    cases gk with
    | zero => exact absurd HA.out (by intro h_; first | (cases h_; done) | (simp [laws_toStepS.l0] at h_))
    | succ k1 =>
     have H := HA.out
     clear HA
     simp only [laws_toStepS.l0] at H
     by_cases c6 : x4_1 < (l0.length : Int)
     ·rw [if_pos c6] at H
      have c6b0 : decide (x4_1 < (l0.length : Int)) = true := decide_eq_true c6
      clear c6
      by_cases c7 : 0 ≤ x4_1
      ·rw [if_pos c7] at H
       have c7b0 : decide (0 ≤ x4_1) = true := decide_eq_true c7
       clear c7
       replace H := Option.bind_eq_some_iff.mp H
       obtain ⟨⟨t215, t216, t217, t218, t219, t220, t221, t222⟩, A80, H⟩ := H
       have A8 := Aside0.mk A80
       clear A80
       by_cases c9 : x4_1 < (x3_1.length : Int)
       ·rw [if_pos c9] at H
        have c9b0 : decide (x4_1 < (x3_1.length : Int)) = true := decide_eq_true c9
        clear c9
        obtain ⟨y225, hy225⟩ : ∃ y_ : List (S77), y_ = (x3_1.set (x4_1 : Int).toNat (⟨t215, t216, t217, (⟨t218, t219⟩ : S40), (⟨t220, t221⟩ : S40), t222⟩ : S77)) := ⟨_, rfl⟩
        replace H : (laws_toStepS.l0 k1 l0 y225 (wrap64 (x4_1 + 1))) = some r := by first | (rw [hy225]; with_reducible exact H) | (have H2_ := (Option.bind_some _ _).symm.trans H; rw [hy225]; with_reducible exact H2_) | (have H2_ := (Option.bind_some _ _).symm.trans H; with_reducible exact H2_) | with_reducible exact H | (rw [hy225]; exact H) | exact H
        have Ny225 := Aside0.mk hy225
        clear hy225
        have H' := Aside0.mk H
        clear H
        have p214 : 0 ≤ (x4_1 : Int) := oda
        have q214 : x4_1 < (l0.length : Int) := oda
        obtain ⟨ad214, A214_7, c214_7, e214, hx214_0, hx214_1, hx214_2, hx214_3, hx214_4, hx214_5, hx214_6, hx214_7, hl214_7, hi214_7⟩ := at_T90 HR0.out x4_1 p214 q214
        cases e214
        replace hx214_0 := hxb HB hx214_0
        replace hx214_1 := hxb HB hx214_1
        replace hx214_2 := hxb HB hx214_2
        replace hx214_3 := hxb HB hx214_3
        replace hx214_4 := hxb HB hx214_4
        replace hx214_5 := hxb HB hx214_5
        replace hx214_6 := hxb HB hx214_6
        replace hx214_7 := hxb HB hx214_7
        have HR214_7 := Aside0.mk hi214_7
        have HC214_7 := Aside0.mk hl214_7
        clear hi214_7 hl214_7
        replace p214 := eq_true p214
        replace q214 := eq_true q214
        go_wp2_with (first | ((with_reducible refine gate_callee (f := 81) rfl ?_); refine goesM (some 20) rfl rfl Try.func81 #[.agg #[.int .i64 ((rd_T90 l0 x4_1).f0), .int .i64 ((rd_T90 l0 x4_1).f1), .int .i64 ((rd_T90 l0 x4_1).f2), .int .i64 ((rd_T90 l0 x4_1).f3.f0), .int .i64 ((rd_T90 l0 x4_1).f3.f1), .int .i64 ((rd_T90 l0 x4_1).f4.f0), .int .i64 ((rd_T90 l0 x4_1).f4.f1), .slice A214_7 ((rd_T90 l0 x4_1).f5).length c214_7]] rfl ?_; (with_reducible refine (laws_toStep.calls k1 ((rd_T90 l0 x4_1).f0) ((rd_T90 l0 x4_1).f1) ((rd_T90 l0 x4_1).f2) ((rd_T90 l0 x4_1).f3.f0) ((rd_T90 l0 x4_1).f3.f1) ((rd_T90 l0 x4_1).f4.f0) ((rd_T90 l0 x4_1).f4.f1) _ _ ((rd_T90 l0 x4_1).f5) t215 t216 t217 t218 t219 t220 t221 t222 _ ?side1 ?side2 A8.out).mono ?_); (case side1 => exact Cq (Kd.C_below HR214_7.out HB.out)); (case side2 => exact HC214_7.out); rintro e w11 ⟨v223, rfl, ho0, hb⟩; refine ⟨_, rfl, ?_⟩; replace HO_3 := Aside0.mk (Kd.S_elder' (Sq HO_3.out) (Kd.R_base ho0) hb); have HO224 := Aside0.mk (Kd.R_lower ho0 (below_size (bwq HB))); replace HB := bwb HB hb; (try clear hb); (try clear hb2); (try clear hk); (try clear hi); (try clear ho0); have p10 : 0 ≤ (x4_1 : Int) := oda; have q10 : (x4_1 : Int) < ((x3_1.length : Int) : Int) := oda; obtain ⟨go10, co10, eo10, gb10, gl10, cl10, HG10⟩ := Kd.S_form HO_3.out (by omega); (first | cases eo10 | (injection eo10 with ea_ en_ ec_; (first | subst ea_ | (injection ea_ with ea_; subst ea_)); subst ec_; clear en_)); have GB10 := Aside0.mk gb10; have GG10 := Aside0.mk HG10; clear gb10 gl10 HG10; obtain ⟨_, ce10, hcl10, hM10, hcc10, hfr10, _, _⟩ := Kd.S_elem HO_3.out z77 (x4_1 : Int) p10 q10; obtain ⟨ve10_7, rfl, ge10_7⟩ := k77_openM hM10; have hx10_0 : w11.cell? ⟨go10, (x4_1 : Int).toNat * 8, none⟩ = some (.int .i64 ((rd_T77 x3_1 x4_1).f0)) := hcc10 0 _ rfl; have hx10_1 : w11.cell? ⟨go10, (x4_1 : Int).toNat * 8 + 1, none⟩ = some (.int .i64 ((rd_T77 x3_1 x4_1).f1)) := hcc10 1 _ rfl; have hx10_2 : w11.cell? ⟨go10, (x4_1 : Int).toNat * 8 + 2, none⟩ = some (.int .i64 ((rd_T77 x3_1 x4_1).f2)) := hcc10 2 _ rfl; have hx10_3 : w11.cell? ⟨go10, (x4_1 : Int).toNat * 8 + 3, none⟩ = some (.int .i64 ((rd_T77 x3_1 x4_1).f3.f0)) := hcc10 3 _ rfl; have hx10_4 : w11.cell? ⟨go10, (x4_1 : Int).toNat * 8 + 4, none⟩ = some (.int .i64 ((rd_T77 x3_1 x4_1).f3.f1)) := hcc10 4 _ rfl; have hx10_5 : w11.cell? ⟨go10, (x4_1 : Int).toNat * 8 + 5, none⟩ = some (.int .i64 ((rd_T77 x3_1 x4_1).f4.f0)) := hcc10 5 _ rfl; have hx10_6 : w11.cell? ⟨go10, (x4_1 : Int).toNat * 8 + 6, none⟩ = some (.int .i64 ((rd_T77 x3_1 x4_1).f4.f1)) := hcc10 6 _ rfl; have hx10_7 : w11.cell? ⟨go10, (x4_1 : Int).toNat * 8 + 7, none⟩ = some (ve10_7) := hcc10 7 _ rfl; have hf10_0 : w11.frozen? ⟨go10, (x4_1 : Int).toNat * 8, none⟩ = false := hfr10 0; have hf10_1 : w11.frozen? ⟨go10, (x4_1 : Int).toNat * 8 + 1, none⟩ = false := hfr10 1; have hf10_2 : w11.frozen? ⟨go10, (x4_1 : Int).toNat * 8 + 2, none⟩ = false := hfr10 2; have hf10_3 : w11.frozen? ⟨go10, (x4_1 : Int).toNat * 8 + 3, none⟩ = false := hfr10 3; have hf10_4 : w11.frozen? ⟨go10, (x4_1 : Int).toNat * 8 + 4, none⟩ = false := hfr10 4; have hf10_5 : w11.frozen? ⟨go10, (x4_1 : Int).toNat * 8 + 5, none⟩ = false := hfr10 5; have hf10_6 : w11.frozen? ⟨go10, (x4_1 : Int).toNat * 8 + 6, none⟩ = false := hfr10 6; have hf10_7 : w11.frozen? ⟨go10, (x4_1 : Int).toNat * 8 + 7, none⟩ = false := hfr10 7; clear hcl10 hcc10 hfr10 hM10; replace p10 := eq_true p10; replace q10 := eq_true q10; have n_ := Aside0.mk (Kd.S_mono (ok' := (fun k_ => some k_ ≠ (v223 : Value).ownBlock)) HO_3.out (fun k_ hk => hk.2)); clear HO_3; have HO_3 := n_; clear n_; have HX12 := Aside0.mk (show Kd.S k77 77 w11 w.heap.size (fun k_ => ((fun _ => True)) k_ ∧ ¬ ((fun k_ => some k_ = (v223 : Value).ownBlock)) k_) (.slice (some ⟨go10, 0, none⟩) x3_1.length co10) x3_1 from (by (with_reducible repeat (first | apply Kd.S_alloc | apply Kd.S_drewN | apply Kd.S_drew)); exact Kd.S_mono HO_3.out (fun k_ hk => ⟨trivial, fun e_ => hk e_⟩))); obtain ⟨oki12, ce12, hcl12, hM12, hcc12, hfr12, hoki12, hH12⟩ := Kd.S_elem HX12.out z77 (x4_1 : Int) (oda) (by have h_ : (x4_1 : Int) < ((x3_1.length : Int) : Int) := oda; first | exact h_ | (have e_ := (Kd.S_reads' HO_3.out).1; omega) | simpa using h_); obtain ⟨ve12_7, rfl, ge12_7⟩ := k77_openM hM12; have HP12 := Kd.S_seg hH12 (oda) (by have h_ : (x4_1 : Int) < ((x3_1.length : Int) : Int) := oda; first | exact h_ | (have e_ := (Kd.S_reads' HO_3.out).1; omega) | simpa using h_) (seg := [.int .i64 t215, .int .i64 t216, .int .i64 t217, .int .i64 t218, .int .i64 t219, .int .i64 t220, .int .i64 t221, v223]) (j := 0) (show 8 ≤ 8 from by decide) (x' := (⟨t215, t216, t217, (⟨t218, t219⟩ : S40), (⟨t220, t221⟩ : S40), t222⟩ : S77)) (k77_mkM _ _ _ (⟨t215, t216, t217, (⟨t218, t219⟩ : S40), (⟨t220, t221⟩ : S40), t222⟩ : S77) (Kd.R_mono (Kd.R_tight rfl (Kd.R_mono (ok' := fun k_ => ((fun _ => True)) k_ ∧ k_ ≠ go10) (Kd.R_apart' (HO224.out) (Kd.S_typed HO_3.out) (by decide)) (fun k_ hk => ⟨trivial, fun e_ => (hk.2) (by rw [e_]; rfl)⟩))) (fun _ h_ => Or.inr (h_)))) (fun _ hk => hk) (fun k_ hk_ => ((Kd.R_mono (ok' := fun k_ => ((fun _ => True)) k_ ∧ k_ ≠ go10) (Kd.R_apart' (HO224.out) (Kd.S_typed HO_3.out) (by decide)) (fun k_ hk => ⟨trivial, fun e_ => (hk.2) (by rw [e_]; rfl)⟩))).1 k_ hk_.symm); have hx12_0 := hcc12 0 _ rfl; (try simp only [show (k77).sz = 8 from rfl, Nat.mul_one, Nat.add_zero] at hx12_0); have hf12_0 := hfr12 0; (try simp only [show (k77).sz = 8 from rfl, Nat.mul_one, Nat.add_zero] at hf12_0); have hx12_1 := hcc12 1 _ rfl; (try simp only [show (k77).sz = 8 from rfl, Nat.mul_one, Nat.add_zero] at hx12_1); have hf12_1 := hfr12 1; (try simp only [show (k77).sz = 8 from rfl, Nat.mul_one, Nat.add_zero] at hf12_1); have hx12_2 := hcc12 2 _ rfl; (try simp only [show (k77).sz = 8 from rfl, Nat.mul_one, Nat.add_zero] at hx12_2); have hf12_2 := hfr12 2; (try simp only [show (k77).sz = 8 from rfl, Nat.mul_one, Nat.add_zero] at hf12_2); have hx12_3 := hcc12 3 _ rfl; (try simp only [show (k77).sz = 8 from rfl, Nat.mul_one, Nat.add_zero] at hx12_3); have hf12_3 := hfr12 3; (try simp only [show (k77).sz = 8 from rfl, Nat.mul_one, Nat.add_zero] at hf12_3); have hx12_4 := hcc12 4 _ rfl; (try simp only [show (k77).sz = 8 from rfl, Nat.mul_one, Nat.add_zero] at hx12_4); have hf12_4 := hfr12 4; (try simp only [show (k77).sz = 8 from rfl, Nat.mul_one, Nat.add_zero] at hf12_4); have hx12_5 := hcc12 5 _ rfl; (try simp only [show (k77).sz = 8 from rfl, Nat.mul_one, Nat.add_zero] at hx12_5); have hf12_5 := hfr12 5; (try simp only [show (k77).sz = 8 from rfl, Nat.mul_one, Nat.add_zero] at hf12_5); have hx12_6 := hcc12 6 _ rfl; (try simp only [show (k77).sz = 8 from rfl, Nat.mul_one, Nat.add_zero] at hx12_6); have hf12_6 := hfr12 6; (try simp only [show (k77).sz = 8 from rfl, Nat.mul_one, Nat.add_zero] at hf12_6); have hx12_7 := hcc12 7 _ rfl; (try simp only [show (k77).sz = 8 from rfl, Nat.mul_one, Nat.add_zero] at hx12_7); have hf12_7 := hfr12 7; (try simp only [show (k77).sz = 8 from rfl, Nat.mul_one, Nat.add_zero] at hf12_7); clear hcl12 hcc12 hfr12 hM12 hoki12 hH12) | ((with_reducible refine gate_store (t := 77) (p := 21) rfl ?_); refine store_event (t := 77) (p := 21) (v := ?vo_w13) (w1 := ((((((((w11.setCell ⟨go10, (x4_1 : Int).toNat * 8, none⟩ (.int .i64 t215)).setCell ⟨go10, (x4_1 : Int).toNat * 8 + 1, none⟩ (.int .i64 t216)).setCell ⟨go10, (x4_1 : Int).toNat * 8 + 2, none⟩ (.int .i64 t217)).setCell ⟨go10, (x4_1 : Int).toNat * 8 + 3, none⟩ (.int .i64 t218)).setCell ⟨go10, (x4_1 : Int).toNat * 8 + 4, none⟩ (.int .i64 t219)).setCell ⟨go10, (x4_1 : Int).toNat * 8 + 5, none⟩ (.int .i64 t220)).setCell ⟨go10, (x4_1 : Int).toNat * 8 + 6, none⟩ (.int .i64 t221)).setCell ⟨go10, (x4_1 : Int).toNat * 8 + 7, none⟩ (v223))) ?hg ?ho ?hn ?hr ?_; (case ho => rfl); (case hg => rfl); (case hn => rfl); (case hr => first | (go_simp; done) | (go_simp; rfl) | ((obtain ⟨_, _, _, e_⟩ := Kd.own_slice_of (v := v223) (by assumption); subst e_); first | (go_simp; done) | (go_simp; rfl))); intro w13 hw; have hg : w11.grownBy w13 (some go10) := (by rw [hw]; exact HP12.2); have hp_ : Kd.S k77 77 w13 w.heap.size (fun _ => True) (.slice (some ⟨go10, 0, none⟩) x3_1.length co10) y225 := (by rw [hw, Ny225.out]; exact HP12.1); clear HP12; have n0_ := Aside0.mk (hp_); have n1_ := Aside0.mk ((by rw [hw]; exact below_set (below_set (below_set (below_set (below_set (below_set (below_set (below_set (HB.out) GB10.out) GB10.out) GB10.out) GB10.out) GB10.out) GB10.out) GB10.out) GB10.out : Below w.heap.size w w13)); clear HO_3; clear HB; clear HO224; have HO_3 := n0_; have HB := n1_; clear n0_ n1_; clear hg hw hp_))
        go_roundg k1
        case measure => have := HK1.out; omega
        case rel => exact ⟨(y225), (wrap64 (x4_1 + 1)), (by first | rfl | (simp; done) | (simp [*]; done)), H', ⟨by have := HK1.out; omega⟩, ⟨Sq HO_3.out⟩, ⟨bwq HB⟩⟩
       ·rw [if_neg c9] at H
        exact absurd H (by simp)
      ·rw [if_neg c7] at H
       exact absurd H (by simp)
     ·rw [if_neg c6] at H
      have c6b0 : decide (x4_1 < (l0.length : Int)) = false := decide_eq_false c6
      clear c6
      obtain rfl := Option.some.inj H
      go_wp2
      go_ret
      exact ⟨_, by first | rfl | (simp [errW_none, errW_some] <;> rfl) | (simp [*, errW_none, errW_some] <;> rfl), Sq HO_3.out, bwq HB⟩
  ·rw [if_neg c3] at H
   exact absurd H (by simp)
 ·rw [if_neg c2] at H
  exact absurd H (by simp)
def laws_toProg.f (k : Nat) (l0_0 : List (S90)) : Option ((List (S77))) := (laws_toStepS.f k l0_0).bind fun t229 => (some t229)
theorem laws_toProg.calls (k : Nat) (A0_0 : Option Addr) (c0_0 : Nat) (l0_0 : List (S90)) (r : List (S77)) (w : World) (hr0_0 : Kd.C k90 w A0_0 l0_0.length l0_0) (hc0_0 : l0_0.length ≤ c0_0) (h : laws_toProg.f k l0_0 = some r) :
  Calls Try.prog 14 #[.agg #[.slice A0_0 l0_0.length c0_0]] w fun e w' => ∃ v0_ : Value, e = .returned (.agg #[v0_]) ∧ Kd.S k77 77 w' w.heap.size (fun _ => True) v0_ r ∧ Below w.heap.size w w' := by
 have hu24 := Try.underlying24
 have hu38 := Try.underlying38
 have HR0_0 := Aside0.mk hr0_0
 have HC0_0 := Aside0.mk hc0_0
 clear hr0_0 hc0_0
 have HB := Aside0.mk (Below.refl w.heap.size w)
 have H : ((laws_toStepS.f k l0_0).bind fun t229 => (some t229)) = some r := h
 clear h
 replace H := Option.bind_eq_some_iff.mp H
 obtain ⟨t229, A20, H⟩ := H
 have A2 := Aside0.mk A20
 clear A20
 obtain rfl := Option.some.inj H
 go_enter Try.func14, Try.ntmps14
 go_wp2_with (first | ((with_reducible refine gate_dst (N := 1) rfl ?_); refine bxe (cs := #[.slice A0_0 l0_0.length c0_0]) (t := 24) ?_; intro gb226 hg w3 hbox hb; have BK226 := Aside0.mk (hbox); have GW226 := bwz HB hg; have GE226 := bwz HB hg; replace HB := bwb HB hb; clear hb hbox hg) | ((with_reducible refine gate_dst (N := 2) rfl ?_); refine bxe (cs := #[.slice none 0 0]) (t := 38) ?_; intro gb227 hg w4 hbox hb; have BK227 := Aside0.mk (hbox); have GW227 := bwz HB hg; have GE227 := bwz HB hg; replace HB := bwb HB hb; have NB226_227 := bkl BK226 hg; have NB227_226 := bkg BK226 hg; replace BK226 := bkb BK226 hb; clear hb hbox hg) | ((with_reducible refine gate_dst (N := 3) rfl ?_); refine bxe (cs := #[.slice none 0 0]) (t := 38) ?_; intro gb228 hg w5 hbox hb; have BK228 := Aside0.mk (hbox); have GW228 := bwz HB hg; have GE228 := bwz HB hg; replace HB := bwb HB hb; have NB226_228 := bkl BK226 hg; have NB228_226 := bkg BK226 hg; replace BK226 := bkb BK226 hb; have NB227_228 := bkl BK227 hg; have NB228_227 := bkg BK227 hg; replace BK227 := bkb BK227 hb; clear hb hbox hg; have hnb6 := NB226_227.out; have hnc6 := NB227_226.out; have hnb7 := NB226_228.out; have hnc7 := NB228_226.out; obtain ⟨hcz8, hfz8⟩ := bcf BK226) | ((with_reducible refine gate_callee (f := 47) rfl ?_); refine goesM (some 6) rfl rfl Try.func47 #[.slice A0_0 l0_0.length c0_0] rfl ?_; (with_reducible refine (laws_toStepS.calls k _ _ l0_0 t229 _ ?side1 ?side2 A2.out).mono ?_); (case side1 => exact Cq (Kd.C_below HR0_0.out HB.out)); (case side2 => exact HC0_0.out); rintro e w9 ⟨v230, rfl, ho0, hb⟩; refine ⟨_, rfl, ?_⟩; have HO231 := Aside0.mk (Kd.S_lower ho0 (below_size (bwq HB))); replace BK226 := bkb BK226 hb; replace BK227 := bkb BK227 hb; replace BK228 := bkb BK228 hb; replace HB := bwb HB hb; (try clear hb); (try clear hb2); (try clear hk); (try clear hi); (try clear ho0); obtain ⟨Ao10, co10, eo10⟩ := Kd.S_slice HO231.out; subst eo10; have hnb11 := NB228_227.out; have hnc11 := NB227_228.out; obtain ⟨hcz12, hfz12⟩ := bcf BK228; obtain ⟨hcz13, hfz13⟩ := bcf BK227))
 refine bodyPost_ret (results_cell_row rfl _ _ gb227 38 #[.slice Ao10 t229.length co10] (0, 0) _ rfl (by (with_reducible repeat (first | refine blk_drewN ?_ _ | refine blk_drew ?_ | refine blk_alloc ?_ _)); refine blk_put (cs := #[.slice none 0 0]) ?_ 0 _ rfl; (with_reducible repeat (first | refine blk_drewN ?_ _ | refine blk_drew ?_ | refine blk_alloc ?_ _)); refine blk_far ?_ NB227_228.out _; exact bkq BK227) Try.underlying38 rfl (by kernel_rfl)) rfl ?_
 exact ⟨_, by first | rfl | (simp [errW_none, errW_some] <;> rfl) | (simp [*, errW_none, errW_some] <;> rfl), by (with_reducible repeat (first | apply Kd.S_alloc | apply Kd.S_drewN | apply Kd.S_drew)); exact Kd.S_mono (Kd.S_far (p := ⟨gb227, 0, none⟩) (Kd.S_far (p := ⟨gb228, 0, none⟩) (Kd.S_types (Kd.S_types HO231.out BK228.out (by decide)) BK227.out (by decide)) (fun _ hk => hk.1.2) (.slice Ao10 t229.length co10)) (fun _ hk => hk.2) (.slice Ao10 t229.length co10)) (fun _ hk => trivial), bwq HB⟩
def laws_eqIntS.l0 : Nat → List Int → List Int → Int → Option (Bool)
 | 0, _, _, _ => none
 | k + 1, x0, x1, x5 => if x5 < (x0.length : Int) then (if 0 ≤ x5 then (if x5 < (x1.length : Int) then (if (rd x0 x5) = (rd x1 x5) then (laws_eqIntS.l0 k x0 x1 (wrap64 (x5 + 1))) else (some false)) else (none)) else (none)) else (some true)
def laws_eqIntS.f (k : Nat) (l0 : List Int) (l1 : List Int) : Option (Bool) := if (l0.length : Int) = (l1.length : Int) then (laws_eqIntS.l0 k l0 l1 0) else (some false)
theorem laws_eqIntS.calls (k : Nat) (A0 : Option Addr) (c0 : Nat) (l0 : List Int) (A1 : Option Addr) (c1 : Nat) (l1 : List Int) (r : Bool) (w : World) (hr0 : Kd.C (Kd.int .i64) w A0 l0.length l0) (hc0 : l0.length ≤ c0) (hr1 : Kd.C (Kd.int .i64) w A1 l1.length l1) (hc1 : l1.length ≤ c1) (h : laws_eqIntS.f k l0 l1 = some r) :
  Calls Try.prog 21 #[.slice A0 l0.length c0, .slice A1 l1.length c1] w fun e w' => e = .returned (.bool r) ∧ Drawn0 w w' := by
 have HR0 := Aside0.mk hr0
 have HC0 := Aside0.mk hc0
 clear hr0 hc0
 have HR1 := Aside0.mk hr1
 have HC1 := Aside0.mk hc1
 clear hr1 hc1
 have H : (if (l0.length : Int) = (l1.length : Int) then (laws_eqIntS.l0 k l0 l1 0) else (some false)) = some r := h
 clear h
 by_cases c3 : (l0.length : Int) = (l1.length : Int)
 ·rw [if_pos c3] at H
  have c3b0 : ((l0.length : Int) == (l1.length : Int)) = true := beq_iff_eq.mpr c3
  have c3b1 : ((l0.length : Int) != (l1.length : Int)) = false := bne_eq_false_iff_eq.mpr c3
  have c3b2 : (l0.length == l1.length) = true := by first | simpa using c3 | (simp at c3 ⊢; omega)
  clear c3
  have H' := Aside0.mk H
  clear H
  go_enter Try.func21, Try.ntmps21
  go_wp2
  repeat (go_quiet (fail); try go_wp2)
  go_loopg [5] k (fun kq v5 w' => ∃ (x5_1 : Int), v5 = .int .i64 x5_1 ∧ Aside0 (laws_eqIntS.l0 kq l0 l1 x5_1 = some r) ∧ Aside0 (kq ≤ k) ∧ Drawn0 w w')
  case atStart => exact ⟨(0), (by first | rfl | (simp; done) | (simp [*]; done)), H', ⟨Nat.le_refl _⟩, by repeat (first | exact Drawn0.refl _ | apply Drawn0.step)⟩
  case round =>
   clear H'
   try clear c1
   try clear c2
   try clear p2
   try clear c3
   try clear c3b0
   try clear c3b1
   try clear c3b2
   obtain ⟨x5_1, rfl, HA, HK1, ⟨m1, rfl⟩⟩ := hrel
   cases gk with
   | zero => exact absurd HA.out (by intro h_; first | (cases h_; done) | (simp [laws_eqIntS.l0] at h_))
   | succ k1 =>
    have H := HA.out
    clear HA
    simp only [laws_eqIntS.l0] at H
    by_cases c4 : x5_1 < (l0.length : Int)
    ·rw [if_pos c4] at H
     have c4b0 : decide (x5_1 < (l0.length : Int)) = true := decide_eq_true c4
     clear c4
     by_cases c5 : 0 ≤ x5_1
     ·rw [if_pos c5] at H
      have c5b0 : decide (0 ≤ x5_1) = true := decide_eq_true c5
      clear c5
      by_cases c6 : x5_1 < (l1.length : Int)
      ·rw [if_pos c6] at H
       have c6b0 : decide (x5_1 < (l1.length : Int)) = true := decide_eq_true c6
       clear c6
       by_cases c7 : (rd l0 x5_1) = (rd l1 x5_1)
       ·rw [if_pos c7] at H
        have c7b0 : ((rd l0 x5_1) == (rd l1 x5_1)) = true := beq_iff_eq.mpr c7
        have c7b1 : ((rd l0 x5_1) != (rd l1 x5_1)) = false := bne_eq_false_iff_eq.mpr c7
        clear c7
        have H' := Aside0.mk H
        clear H
        have p317 : 0 ≤ (x5_1 : Int) := oda
        have q317 : x5_1 < (l0.length : Int) := oda
        obtain ⟨ad317, e317, hx317_0⟩ := Kd.at_int HR0.out x5_1 p317 q317
        cases e317
        replace p317 := eq_true p317
        replace q317 := eq_true q317
        have p318 : 0 ≤ (x5_1 : Int) := oda
        have q318 : x5_1 < (l1.length : Int) := oda
        obtain ⟨ad318, e318, hx318_0⟩ := Kd.at_int HR1.out x5_1 p318 q318
        cases e318
        replace p318 := eq_true p318
        replace q318 := eq_true q318
        go_wp2
        repeat (go_quiet (fail); try go_wp2)
        go_roundg k1
        case measure => have := HK1.out; omega
        case rel => exact ⟨(wrap64 (x5_1 + 1)), (by first | rfl | (simp; done) | (simp [*]; done)), H', ⟨by have := HK1.out; omega⟩, by repeat (first | exact Drawn0.refl _ | apply Drawn0.step)⟩
       ·rw [if_neg c7] at H
        have c7b0 : ((rd l0 x5_1) == (rd l1 x5_1)) = false := beq_eq_false_iff_ne.mpr c7
        have c7b1 : ((rd l0 x5_1) != (rd l1 x5_1)) = true := bne_iff_ne.mpr c7
        obtain rfl := Option.some.inj H
        have p317 : 0 ≤ (x5_1 : Int) := oda
        have q317 : x5_1 < (l0.length : Int) := oda
        obtain ⟨ad317, e317, hx317_0⟩ := Kd.at_int HR0.out x5_1 p317 q317
        cases e317
        replace p317 := eq_true p317
        replace q317 := eq_true q317
        have p318 : 0 ≤ (x5_1 : Int) := oda
        have q318 : x5_1 < (l1.length : Int) := oda
        obtain ⟨ad318, e318, hx318_0⟩ := Kd.at_int HR1.out x5_1 p318 q318
        cases e318
        replace p318 := eq_true p318
        replace q318 := eq_true q318
        go_wp2
        repeat (go_quiet (fail); try go_wp2)
        go_ret
        exact ⟨by first | rfl | (simp; done) | (simp [*]; done), by repeat (first | exact Drawn0.refl _ | apply Drawn0.step)⟩
      ·rw [if_neg c6] at H
       exact absurd H (by simp)
     ·rw [if_neg c5] at H
      exact absurd H (by simp)
    ·rw [if_neg c4] at H
     have c4b0 : decide (x5_1 < (l0.length : Int)) = false := decide_eq_false c4
     clear c4
     obtain rfl := Option.some.inj H
     go_wp2
     repeat (go_quiet (fail); try go_wp2)
     go_ret
     exact ⟨by first | rfl | (simp; done) | (simp [*]; done), by repeat (first | exact Drawn0.refl _ | apply Drawn0.step)⟩
 ·rw [if_neg c3] at H
  have c3b0 : ((l0.length : Int) == (l1.length : Int)) = false := beq_eq_false_iff_ne.mpr c3
  have c3b1 : ((l0.length : Int) != (l1.length : Int)) = true := bne_iff_ne.mpr c3
  have c3b2 : (l0.length == l1.length) = false := by first | simpa using c3 | (simp at c3 ⊢; omega)
  obtain rfl := Option.some.inj H
  go_enter Try.func21, Try.ntmps21
  go_wp2
  repeat (go_quiet (fail); try go_wp2)
  go_ret
  exact ⟨by first | rfl | (simp; done) | (simp [*]; done), by repeat (first | exact Drawn0.refl _ | apply Drawn0.step)⟩
def laws_eqOpnd.f (a0_0 : Int) (a0_1 : Int) (a1_0 : Int) (a1_1 : Int) : Option (Bool) := if a0_0 = a1_0 then (if a0_1 = a1_1 then (some true) else (some false)) else (some false)
theorem laws_eqOpnd.calls (a0_0 : Int) (a0_1 : Int) (a1_0 : Int) (a1_1 : Int) (r : Bool) (w : World) (h : laws_eqOpnd.f a0_0 a0_1 a1_0 a1_1 = some r) :
  Calls Try.prog 124 #[.agg #[.int .i64 a0_0, .int .i64 a0_1], .agg #[.int .i64 a1_0, .int .i64 a1_1]] w fun e w' => e = .returned (.bool r) ∧ Below w.heap.size w w' := by
 have hu40 := Try.underlying40
 have HB := Aside0.mk (Below.refl w.heap.size w)
 have H : (if a0_0 = a1_0 then (if a0_1 = a1_1 then (some true) else (some false)) else (some false)) = some r := h
 clear h
 by_cases c3 : a0_0 = a1_0
 ·rw [if_pos c3] at H
  have c3b0 : (a0_0 == a1_0) = true := beq_iff_eq.mpr c3
  have c3b1 : (a0_0 != a1_0) = false := bne_eq_false_iff_eq.mpr c3
  clear c3
  by_cases c4 : a0_1 = a1_1
  ·rw [if_pos c4] at H
   have c4b0 : (a0_1 == a1_1) = true := beq_iff_eq.mpr c4
   have c4b1 : (a0_1 != a1_1) = false := bne_eq_false_iff_eq.mpr c4
   clear c4
   obtain rfl := Option.some.inj H
   go_enter Try.func124, Try.ntmps124
   go_wp2_with (first | ((with_reducible refine gate_dst (N := 2) rfl ?_); refine bxe (cs := #[.int .i64 a0_0, .int .i64 a0_1]) (t := 40) ?_; intro gb319 hg w5 hbox hb; have BK319 := Aside0.mk (hbox); have GW319 := bwz HB hg; have GE319 := bwz HB hg; replace HB := bwb HB hb; clear hb hbox hg) | ((with_reducible refine gate_dst (N := 3) rfl ?_); refine bxe (cs := #[.int .i64 a1_0, .int .i64 a1_1]) (t := 40) ?_; intro gb320 hg w6 hbox hb; have BK320 := Aside0.mk (hbox); have GW320 := bwz HB hg; have GE320 := bwz HB hg; replace HB := bwb HB hb; have NB319_320 := bkl BK319 hg; have NB320_319 := bkg BK319 hg; replace BK319 := bkb BK319 hb; clear hb hbox hg; have hnb7 := NB319_320.out; have hnc7 := NB320_319.out; obtain ⟨hcz8, hfz8⟩ := bcf BK319; obtain ⟨hcz9, hfz9⟩ := bcf BK320))
   go_ret
   exact ⟨by first | rfl | (simp [errW_none, errW_some] <;> rfl) | (simp [*, errW_none, errW_some] <;> rfl), bwq HB⟩
  ·rw [if_neg c4] at H
   have c4b0 : (a0_1 == a1_1) = false := beq_eq_false_iff_ne.mpr c4
   have c4b1 : (a0_1 != a1_1) = true := bne_iff_ne.mpr c4
   obtain rfl := Option.some.inj H
   go_enter Try.func124, Try.ntmps124
   go_wp2_with (first | ((with_reducible refine gate_dst (N := 2) rfl ?_); refine bxe (cs := #[.int .i64 a0_0, .int .i64 a0_1]) (t := 40) ?_; intro gb319 hg w10 hbox hb; have BK319 := Aside0.mk (hbox); have GW319 := bwz HB hg; have GE319 := bwz HB hg; replace HB := bwb HB hb; clear hb hbox hg) | ((with_reducible refine gate_dst (N := 3) rfl ?_); refine bxe (cs := #[.int .i64 a1_0, .int .i64 a1_1]) (t := 40) ?_; intro gb320 hg w11 hbox hb; have BK320 := Aside0.mk (hbox); have GW320 := bwz HB hg; have GE320 := bwz HB hg; replace HB := bwb HB hb; have NB319_320 := bkl BK319 hg; have NB320_319 := bkg BK319 hg; replace BK319 := bkb BK319 hb; clear hb hbox hg; have hnb12 := NB319_320.out; have hnc12 := NB320_319.out; obtain ⟨hcz13, hfz13⟩ := bcf BK319; obtain ⟨hcz14, hfz14⟩ := bcf BK320))
   go_ret
   exact ⟨by first | rfl | (simp [errW_none, errW_some] <;> rfl) | (simp [*, errW_none, errW_some] <;> rfl), bwq HB⟩
 ·rw [if_neg c3] at H
  have c3b0 : (a0_0 == a1_0) = false := beq_eq_false_iff_ne.mpr c3
  have c3b1 : (a0_0 != a1_0) = true := bne_iff_ne.mpr c3
  obtain rfl := Option.some.inj H
  go_enter Try.func124, Try.ntmps124
  go_wp2_with (first | ((with_reducible refine gate_dst (N := 2) rfl ?_); refine bxe (cs := #[.int .i64 a0_0, .int .i64 a0_1]) (t := 40) ?_; intro gb319 hg w15 hbox hb; have BK319 := Aside0.mk (hbox); have GW319 := bwz HB hg; have GE319 := bwz HB hg; replace HB := bwb HB hb; clear hb hbox hg) | ((with_reducible refine gate_dst (N := 3) rfl ?_); refine bxe (cs := #[.int .i64 a1_0, .int .i64 a1_1]) (t := 40) ?_; intro gb320 hg w16 hbox hb; have BK320 := Aside0.mk (hbox); have GW320 := bwz HB hg; have GE320 := bwz HB hg; replace HB := bwb HB hb; have NB319_320 := bkl BK319 hg; have NB320_319 := bkg BK319 hg; replace BK319 := bkb BK319 hb; clear hb hbox hg; have hnb17 := NB319_320.out; have hnc17 := NB320_319.out; obtain ⟨hcz18, hfz18⟩ := bcf BK319; obtain ⟨hcz19, hfz19⟩ := bcf BK320))
  go_ret
  exact ⟨by first | rfl | (simp [errW_none, errW_some] <;> rfl) | (simp [*, errW_none, errW_some] <;> rfl), bwq HB⟩
def laws_eqStep.f (k : Nat) (a0_0 : Int) (a0_1 : Int) (a0_2 : Int) (a0_3 : Int) (a0_4 : Int) (a0_5 : Int) (a0_6 : Int) (l0_7 : List Int) (a1_0 : Int) (a1_1 : Int) (a1_2 : Int) (a1_3 : Int) (a1_4 : Int) (a1_5 : Int) (a1_6 : Int) (l1_7 : List Int) : Option (Bool) := if a0_0 = a1_0 then (if a0_1 = a1_1 then (if a0_2 = a1_2 then ((laws_eqOpnd.f a0_3 a0_4 a1_3 a1_4).bind fun t323 => (if t323 = true then ((laws_eqOpnd.f a0_5 a0_6 a1_5 a1_6).bind fun t324 => (if t324 = true then ((laws_eqIntS.f k l0_7 l1_7).bind fun t325 => (if t325 = true then (some true) else (some false))) else (some false))) else (some false))) else (some false)) else (some false)) else (some false)
theorem laws_eqStep.calls (k : Nat) (a0_0 : Int) (a0_1 : Int) (a0_2 : Int) (a0_3 : Int) (a0_4 : Int) (a0_5 : Int) (a0_6 : Int) (A0_7 : Option Addr) (c0_7 : Nat) (l0_7 : List Int) (a1_0 : Int) (a1_1 : Int) (a1_2 : Int) (a1_3 : Int) (a1_4 : Int) (a1_5 : Int) (a1_6 : Int) (A1_7 : Option Addr) (c1_7 : Nat) (l1_7 : List Int) (r : Bool) (w : World) (hr0_7 : Kd.C (Kd.int .i64) w A0_7 l0_7.length l0_7) (hc0_7 : l0_7.length ≤ c0_7) (hr1_7 : Kd.C (Kd.int .i64) w A1_7 l1_7.length l1_7) (hc1_7 : l1_7.length ≤ c1_7) (h : laws_eqStep.f k a0_0 a0_1 a0_2 a0_3 a0_4 a0_5 a0_6 l0_7 a1_0 a1_1 a1_2 a1_3 a1_4 a1_5 a1_6 l1_7 = some r) :
  Calls Try.prog 90 #[.agg #[.int .i64 a0_0, .int .i64 a0_1, .int .i64 a0_2, .int .i64 a0_3, .int .i64 a0_4, .int .i64 a0_5, .int .i64 a0_6, .slice A0_7 l0_7.length c0_7], .agg #[.int .i64 a1_0, .int .i64 a1_1, .int .i64 a1_2, .int .i64 a1_3, .int .i64 a1_4, .int .i64 a1_5, .int .i64 a1_6, .slice A1_7 l1_7.length c1_7]] w fun e w' => e = .returned (.bool r) ∧ Below w.heap.size w w' := by
 have hu77 := Try.underlying77
 have hu40 := Try.underlying40
 have HR0_7 := Aside0.mk hr0_7
 have HC0_7 := Aside0.mk hc0_7
 clear hr0_7 hc0_7
 have HR1_7 := Aside0.mk hr1_7
 have HC1_7 := Aside0.mk hc1_7
 clear hr1_7 hc1_7
 have HB := Aside0.mk (Below.refl w.heap.size w)
 have H : (if a0_0 = a1_0 then (if a0_1 = a1_1 then (if a0_2 = a1_2 then ((laws_eqOpnd.f a0_3 a0_4 a1_3 a1_4).bind fun t323 => (if t323 = true then ((laws_eqOpnd.f a0_5 a0_6 a1_5 a1_6).bind fun t324 => (if t324 = true then ((laws_eqIntS.f k l0_7 l1_7).bind fun t325 => (if t325 = true then (some true) else (some false))) else (some false))) else (some false))) else (some false)) else (some false)) else (some false)) = some r := h
 clear h
 by_cases c3 : a0_0 = a1_0
 ·rw [if_pos c3] at H
  have c3b0 : (a0_0 == a1_0) = true := beq_iff_eq.mpr c3
  have c3b1 : (a0_0 != a1_0) = false := bne_eq_false_iff_eq.mpr c3
  clear c3
  by_cases c4 : a0_1 = a1_1
  ·rw [if_pos c4] at H
   have c4b0 : (a0_1 == a1_1) = true := beq_iff_eq.mpr c4
   have c4b1 : (a0_1 != a1_1) = false := bne_eq_false_iff_eq.mpr c4
   clear c4
   by_cases c5 : a0_2 = a1_2
   ·rw [if_pos c5] at H
    have c5b0 : (a0_2 == a1_2) = true := beq_iff_eq.mpr c5
    have c5b1 : (a0_2 != a1_2) = false := bne_eq_false_iff_eq.mpr c5
    clear c5
    replace H := Option.bind_eq_some_iff.mp H
    obtain ⟨t323, A60, H⟩ := H
    have A6 := Aside0.mk A60
    clear A60
    by_cases c7 : t323 = true
    ·subst c7
     rw [if_pos rfl] at H
     replace H := Option.bind_eq_some_iff.mp H
     obtain ⟨t324, A80, H⟩ := H
     have A8 := Aside0.mk A80
     clear A80
     by_cases c9 : t324 = true
     ·subst c9
      rw [if_pos rfl] at H
      replace H := Option.bind_eq_some_iff.mp H
      obtain ⟨t325, A100, H⟩ := H
      have A10 := Aside0.mk A100
      clear A100
      by_cases c11 : t325 = true
      ·subst c11
       rw [if_pos rfl] at H
       obtain rfl := Option.some.inj H
       go_enter Try.func90, Try.ntmps90
       go_wp2_with (first | ((with_reducible refine gate_dst (N := 2) rfl ?_); refine bxe (cs := #[.int .i64 a0_0, .int .i64 a0_1, .int .i64 a0_2, .int .i64 a0_3, .int .i64 a0_4, .int .i64 a0_5, .int .i64 a0_6, .slice A0_7 l0_7.length c0_7]) (t := 77) ?_; intro gb321 hg w12 hbox hb; have BK321 := Aside0.mk (hbox); have GW321 := bwz HB hg; have GE321 := bwz HB hg; replace HB := bwb HB hb; clear hb hbox hg) | ((with_reducible refine gate_dst (N := 3) rfl ?_); refine bxe (cs := #[.int .i64 a1_0, .int .i64 a1_1, .int .i64 a1_2, .int .i64 a1_3, .int .i64 a1_4, .int .i64 a1_5, .int .i64 a1_6, .slice A1_7 l1_7.length c1_7]) (t := 77) ?_; intro gb322 hg w13 hbox hb; have BK322 := Aside0.mk (hbox); have GW322 := bwz HB hg; have GE322 := bwz HB hg; replace HB := bwb HB hb; have NB321_322 := bkl BK321 hg; have NB322_321 := bkg BK321 hg; replace BK321 := bkb BK321 hb; clear hb hbox hg; have hnb14 := NB321_322.out; have hnc14 := NB322_321.out; obtain ⟨hcz15, hfz15⟩ := bcf BK321; obtain ⟨hcz16, hfz16⟩ := bcf BK322) | ((with_reducible refine gate_callee (f := 124) rfl ?_); refine goesM (some 24) rfl rfl Try.func124 #[.agg #[.int .i64 a0_3, .int .i64 a0_4], .agg #[.int .i64 a1_3, .int .i64 a1_4]] rfl ?_; (with_reducible refine (laws_eqOpnd.calls a0_3 a0_4 a1_3 a1_4 true _ A6.out).mono ?_); rintro e w17 ⟨rfl, hb⟩; refine ⟨_, rfl, ?_⟩; replace BK321 := bkb BK321 hb; replace BK322 := bkb BK322 hb; replace HB := bwb HB hb; (try clear hb); (try clear hb2); (try clear hk); (try clear hi); obtain ⟨hcz18, hfz18⟩ := bcf BK321; obtain ⟨hcz19, hfz19⟩ := bcf BK322) | ((with_reducible refine gate_callee (f := 124) rfl ?_); refine goesM (some 30) rfl rfl Try.func124 #[.agg #[.int .i64 a0_5, .int .i64 a0_6], .agg #[.int .i64 a1_5, .int .i64 a1_6]] rfl ?_; (with_reducible refine (laws_eqOpnd.calls a0_5 a0_6 a1_5 a1_6 true _ A8.out).mono ?_); rintro e w20 ⟨rfl, hb⟩; refine ⟨_, rfl, ?_⟩; replace BK321 := bkb BK321 hb; replace BK322 := bkb BK322 hb; replace HB := bwb HB hb; (try clear hb); (try clear hb2); (try clear hk); (try clear hi); obtain ⟨hcz21, hfz21⟩ := bcf BK321; obtain ⟨hcz22, hfz22⟩ := bcf BK322) | ((with_reducible refine gate_callee (f := 21) rfl ?_); refine goesM (some 36) rfl rfl Try.func21 #[.slice A0_7 l0_7.length c0_7, .slice A1_7 l1_7.length c1_7] rfl ?_; (with_reducible refine (laws_eqIntS.calls k _ _ l0_7 _ _ l1_7 true _ ?side1 ?side2 ?side3 ?side4 A10.out).mono ?_); (case side1 => exact Cq (Kd.C_below HR0_7.out HB.out)); (case side2 => exact HC0_7.out); (case side3 => exact Cq (Kd.C_below HR1_7.out HB.out)); (case side4 => exact HC1_7.out); rintro e w' ⟨rfl, ⟨nd, rfl⟩⟩; refine ⟨_, rfl, ?_⟩))
       go_ret
       exact ⟨by first | rfl | (simp [errW_none, errW_some] <;> rfl) | (simp [*, errW_none, errW_some] <;> rfl), bwq HB⟩
      ·replace c11 := Bool.eq_false_iff.mpr c11
       subst c11
       have H1 : (some false) = some r := by rw [if_neg (show ¬ (false = true) by decide)] at H; exact H
       clear H
       have H := H1
       clear H1
       obtain rfl := Option.some.inj H
       go_enter Try.func90, Try.ntmps90
       go_wp2_with (first | ((with_reducible refine gate_dst (N := 2) rfl ?_); refine bxe (cs := #[.int .i64 a0_0, .int .i64 a0_1, .int .i64 a0_2, .int .i64 a0_3, .int .i64 a0_4, .int .i64 a0_5, .int .i64 a0_6, .slice A0_7 l0_7.length c0_7]) (t := 77) ?_; intro gb321 hg w23 hbox hb; have BK321 := Aside0.mk (hbox); have GW321 := bwz HB hg; have GE321 := bwz HB hg; replace HB := bwb HB hb; clear hb hbox hg) | ((with_reducible refine gate_dst (N := 3) rfl ?_); refine bxe (cs := #[.int .i64 a1_0, .int .i64 a1_1, .int .i64 a1_2, .int .i64 a1_3, .int .i64 a1_4, .int .i64 a1_5, .int .i64 a1_6, .slice A1_7 l1_7.length c1_7]) (t := 77) ?_; intro gb322 hg w24 hbox hb; have BK322 := Aside0.mk (hbox); have GW322 := bwz HB hg; have GE322 := bwz HB hg; replace HB := bwb HB hb; have NB321_322 := bkl BK321 hg; have NB322_321 := bkg BK321 hg; replace BK321 := bkb BK321 hb; clear hb hbox hg; have hnb25 := NB321_322.out; have hnc25 := NB322_321.out; obtain ⟨hcz26, hfz26⟩ := bcf BK321; obtain ⟨hcz27, hfz27⟩ := bcf BK322) | ((with_reducible refine gate_callee (f := 124) rfl ?_); refine goesM (some 24) rfl rfl Try.func124 #[.agg #[.int .i64 a0_3, .int .i64 a0_4], .agg #[.int .i64 a1_3, .int .i64 a1_4]] rfl ?_; (with_reducible refine (laws_eqOpnd.calls a0_3 a0_4 a1_3 a1_4 true _ A6.out).mono ?_); rintro e w28 ⟨rfl, hb⟩; refine ⟨_, rfl, ?_⟩; replace BK321 := bkb BK321 hb; replace BK322 := bkb BK322 hb; replace HB := bwb HB hb; (try clear hb); (try clear hb2); (try clear hk); (try clear hi); obtain ⟨hcz29, hfz29⟩ := bcf BK321; obtain ⟨hcz30, hfz30⟩ := bcf BK322) | ((with_reducible refine gate_callee (f := 124) rfl ?_); refine goesM (some 30) rfl rfl Try.func124 #[.agg #[.int .i64 a0_5, .int .i64 a0_6], .agg #[.int .i64 a1_5, .int .i64 a1_6]] rfl ?_; (with_reducible refine (laws_eqOpnd.calls a0_5 a0_6 a1_5 a1_6 true _ A8.out).mono ?_); rintro e w31 ⟨rfl, hb⟩; refine ⟨_, rfl, ?_⟩; replace BK321 := bkb BK321 hb; replace BK322 := bkb BK322 hb; replace HB := bwb HB hb; (try clear hb); (try clear hb2); (try clear hk); (try clear hi); obtain ⟨hcz32, hfz32⟩ := bcf BK321; obtain ⟨hcz33, hfz33⟩ := bcf BK322) | ((with_reducible refine gate_callee (f := 21) rfl ?_); refine goesM (some 36) rfl rfl Try.func21 #[.slice A0_7 l0_7.length c0_7, .slice A1_7 l1_7.length c1_7] rfl ?_; (with_reducible refine (laws_eqIntS.calls k _ _ l0_7 _ _ l1_7 false _ ?side1 ?side2 ?side3 ?side4 A10.out).mono ?_); (case side1 => exact Cq (Kd.C_below HR0_7.out HB.out)); (case side2 => exact HC0_7.out); (case side3 => exact Cq (Kd.C_below HR1_7.out HB.out)); (case side4 => exact HC1_7.out); rintro e w' ⟨rfl, ⟨nd, rfl⟩⟩; refine ⟨_, rfl, ?_⟩))
       go_ret
       exact ⟨by first | rfl | (simp [errW_none, errW_some] <;> rfl) | (simp [*, errW_none, errW_some] <;> rfl), bwq HB⟩
     ·replace c9 := Bool.eq_false_iff.mpr c9
      subst c9
      have H1 : (some false) = some r := by rw [if_neg (show ¬ (false = true) by decide)] at H; exact H
      clear H
      have H := H1
      clear H1
      obtain rfl := Option.some.inj H
      go_enter Try.func90, Try.ntmps90
      go_wp2_with (first | ((with_reducible refine gate_dst (N := 2) rfl ?_); refine bxe (cs := #[.int .i64 a0_0, .int .i64 a0_1, .int .i64 a0_2, .int .i64 a0_3, .int .i64 a0_4, .int .i64 a0_5, .int .i64 a0_6, .slice A0_7 l0_7.length c0_7]) (t := 77) ?_; intro gb321 hg w34 hbox hb; have BK321 := Aside0.mk (hbox); have GW321 := bwz HB hg; have GE321 := bwz HB hg; replace HB := bwb HB hb; clear hb hbox hg) | ((with_reducible refine gate_dst (N := 3) rfl ?_); refine bxe (cs := #[.int .i64 a1_0, .int .i64 a1_1, .int .i64 a1_2, .int .i64 a1_3, .int .i64 a1_4, .int .i64 a1_5, .int .i64 a1_6, .slice A1_7 l1_7.length c1_7]) (t := 77) ?_; intro gb322 hg w35 hbox hb; have BK322 := Aside0.mk (hbox); have GW322 := bwz HB hg; have GE322 := bwz HB hg; replace HB := bwb HB hb; have NB321_322 := bkl BK321 hg; have NB322_321 := bkg BK321 hg; replace BK321 := bkb BK321 hb; clear hb hbox hg; have hnb36 := NB321_322.out; have hnc36 := NB322_321.out; obtain ⟨hcz37, hfz37⟩ := bcf BK321; obtain ⟨hcz38, hfz38⟩ := bcf BK322) | ((with_reducible refine gate_callee (f := 124) rfl ?_); refine goesM (some 24) rfl rfl Try.func124 #[.agg #[.int .i64 a0_3, .int .i64 a0_4], .agg #[.int .i64 a1_3, .int .i64 a1_4]] rfl ?_; (with_reducible refine (laws_eqOpnd.calls a0_3 a0_4 a1_3 a1_4 true _ A6.out).mono ?_); rintro e w39 ⟨rfl, hb⟩; refine ⟨_, rfl, ?_⟩; replace BK321 := bkb BK321 hb; replace BK322 := bkb BK322 hb; replace HB := bwb HB hb; (try clear hb); (try clear hb2); (try clear hk); (try clear hi); obtain ⟨hcz40, hfz40⟩ := bcf BK321; obtain ⟨hcz41, hfz41⟩ := bcf BK322) | ((with_reducible refine gate_callee (f := 124) rfl ?_); refine goesM (some 30) rfl rfl Try.func124 #[.agg #[.int .i64 a0_5, .int .i64 a0_6], .agg #[.int .i64 a1_5, .int .i64 a1_6]] rfl ?_; (with_reducible refine (laws_eqOpnd.calls a0_5 a0_6 a1_5 a1_6 false _ A8.out).mono ?_); rintro e w42 ⟨rfl, hb⟩; refine ⟨_, rfl, ?_⟩; replace BK321 := bkb BK321 hb; replace BK322 := bkb BK322 hb; replace HB := bwb HB hb; (try clear hb); (try clear hb2); (try clear hk); (try clear hi)))
      go_ret
      exact ⟨by first | rfl | (simp [errW_none, errW_some] <;> rfl) | (simp [*, errW_none, errW_some] <;> rfl), bwq HB⟩
    ·replace c7 := Bool.eq_false_iff.mpr c7
     subst c7
     have H1 : (some false) = some r := by rw [if_neg (show ¬ (false = true) by decide)] at H; exact H
     clear H
     have H := H1
     clear H1
     obtain rfl := Option.some.inj H
     go_enter Try.func90, Try.ntmps90
     go_wp2_with (first | ((with_reducible refine gate_dst (N := 2) rfl ?_); refine bxe (cs := #[.int .i64 a0_0, .int .i64 a0_1, .int .i64 a0_2, .int .i64 a0_3, .int .i64 a0_4, .int .i64 a0_5, .int .i64 a0_6, .slice A0_7 l0_7.length c0_7]) (t := 77) ?_; intro gb321 hg w43 hbox hb; have BK321 := Aside0.mk (hbox); have GW321 := bwz HB hg; have GE321 := bwz HB hg; replace HB := bwb HB hb; clear hb hbox hg) | ((with_reducible refine gate_dst (N := 3) rfl ?_); refine bxe (cs := #[.int .i64 a1_0, .int .i64 a1_1, .int .i64 a1_2, .int .i64 a1_3, .int .i64 a1_4, .int .i64 a1_5, .int .i64 a1_6, .slice A1_7 l1_7.length c1_7]) (t := 77) ?_; intro gb322 hg w44 hbox hb; have BK322 := Aside0.mk (hbox); have GW322 := bwz HB hg; have GE322 := bwz HB hg; replace HB := bwb HB hb; have NB321_322 := bkl BK321 hg; have NB322_321 := bkg BK321 hg; replace BK321 := bkb BK321 hb; clear hb hbox hg; have hnb45 := NB321_322.out; have hnc45 := NB322_321.out; obtain ⟨hcz46, hfz46⟩ := bcf BK321; obtain ⟨hcz47, hfz47⟩ := bcf BK322) | ((with_reducible refine gate_callee (f := 124) rfl ?_); refine goesM (some 24) rfl rfl Try.func124 #[.agg #[.int .i64 a0_3, .int .i64 a0_4], .agg #[.int .i64 a1_3, .int .i64 a1_4]] rfl ?_; (with_reducible refine (laws_eqOpnd.calls a0_3 a0_4 a1_3 a1_4 false _ A6.out).mono ?_); rintro e w48 ⟨rfl, hb⟩; refine ⟨_, rfl, ?_⟩; replace BK321 := bkb BK321 hb; replace BK322 := bkb BK322 hb; replace HB := bwb HB hb; (try clear hb); (try clear hb2); (try clear hk); (try clear hi)))
     go_ret
     exact ⟨by first | rfl | (simp [errW_none, errW_some] <;> rfl) | (simp [*, errW_none, errW_some] <;> rfl), bwq HB⟩
   ·rw [if_neg c5] at H
    have c5b0 : (a0_2 == a1_2) = false := beq_eq_false_iff_ne.mpr c5
    have c5b1 : (a0_2 != a1_2) = true := bne_iff_ne.mpr c5
    obtain rfl := Option.some.inj H
    go_enter Try.func90, Try.ntmps90
    go_wp2_with (first | ((with_reducible refine gate_dst (N := 2) rfl ?_); refine bxe (cs := #[.int .i64 a0_0, .int .i64 a0_1, .int .i64 a0_2, .int .i64 a0_3, .int .i64 a0_4, .int .i64 a0_5, .int .i64 a0_6, .slice A0_7 l0_7.length c0_7]) (t := 77) ?_; intro gb321 hg w49 hbox hb; have BK321 := Aside0.mk (hbox); have GW321 := bwz HB hg; have GE321 := bwz HB hg; replace HB := bwb HB hb; clear hb hbox hg) | ((with_reducible refine gate_dst (N := 3) rfl ?_); refine bxe (cs := #[.int .i64 a1_0, .int .i64 a1_1, .int .i64 a1_2, .int .i64 a1_3, .int .i64 a1_4, .int .i64 a1_5, .int .i64 a1_6, .slice A1_7 l1_7.length c1_7]) (t := 77) ?_; intro gb322 hg w50 hbox hb; have BK322 := Aside0.mk (hbox); have GW322 := bwz HB hg; have GE322 := bwz HB hg; replace HB := bwb HB hb; have NB321_322 := bkl BK321 hg; have NB322_321 := bkg BK321 hg; replace BK321 := bkb BK321 hb; clear hb hbox hg; have hnb51 := NB321_322.out; have hnc51 := NB322_321.out; obtain ⟨hcz52, hfz52⟩ := bcf BK321; obtain ⟨hcz53, hfz53⟩ := bcf BK322))
    go_ret
    exact ⟨by first | rfl | (simp [errW_none, errW_some] <;> rfl) | (simp [*, errW_none, errW_some] <;> rfl), bwq HB⟩
  ·rw [if_neg c4] at H
   have c4b0 : (a0_1 == a1_1) = false := beq_eq_false_iff_ne.mpr c4
   have c4b1 : (a0_1 != a1_1) = true := bne_iff_ne.mpr c4
   obtain rfl := Option.some.inj H
   go_enter Try.func90, Try.ntmps90
   go_wp2_with (first | ((with_reducible refine gate_dst (N := 2) rfl ?_); refine bxe (cs := #[.int .i64 a0_0, .int .i64 a0_1, .int .i64 a0_2, .int .i64 a0_3, .int .i64 a0_4, .int .i64 a0_5, .int .i64 a0_6, .slice A0_7 l0_7.length c0_7]) (t := 77) ?_; intro gb321 hg w54 hbox hb; have BK321 := Aside0.mk (hbox); have GW321 := bwz HB hg; have GE321 := bwz HB hg; replace HB := bwb HB hb; clear hb hbox hg) | ((with_reducible refine gate_dst (N := 3) rfl ?_); refine bxe (cs := #[.int .i64 a1_0, .int .i64 a1_1, .int .i64 a1_2, .int .i64 a1_3, .int .i64 a1_4, .int .i64 a1_5, .int .i64 a1_6, .slice A1_7 l1_7.length c1_7]) (t := 77) ?_; intro gb322 hg w55 hbox hb; have BK322 := Aside0.mk (hbox); have GW322 := bwz HB hg; have GE322 := bwz HB hg; replace HB := bwb HB hb; have NB321_322 := bkl BK321 hg; have NB322_321 := bkg BK321 hg; replace BK321 := bkb BK321 hb; clear hb hbox hg; have hnb56 := NB321_322.out; have hnc56 := NB322_321.out; obtain ⟨hcz57, hfz57⟩ := bcf BK321; obtain ⟨hcz58, hfz58⟩ := bcf BK322))
   go_ret
   exact ⟨by first | rfl | (simp [errW_none, errW_some] <;> rfl) | (simp [*, errW_none, errW_some] <;> rfl), bwq HB⟩
 ·rw [if_neg c3] at H
  have c3b0 : (a0_0 == a1_0) = false := beq_eq_false_iff_ne.mpr c3
  have c3b1 : (a0_0 != a1_0) = true := bne_iff_ne.mpr c3
  obtain rfl := Option.some.inj H
  go_enter Try.func90, Try.ntmps90
  go_wp2_with (first | ((with_reducible refine gate_dst (N := 2) rfl ?_); refine bxe (cs := #[.int .i64 a0_0, .int .i64 a0_1, .int .i64 a0_2, .int .i64 a0_3, .int .i64 a0_4, .int .i64 a0_5, .int .i64 a0_6, .slice A0_7 l0_7.length c0_7]) (t := 77) ?_; intro gb321 hg w59 hbox hb; have BK321 := Aside0.mk (hbox); have GW321 := bwz HB hg; have GE321 := bwz HB hg; replace HB := bwb HB hb; clear hb hbox hg) | ((with_reducible refine gate_dst (N := 3) rfl ?_); refine bxe (cs := #[.int .i64 a1_0, .int .i64 a1_1, .int .i64 a1_2, .int .i64 a1_3, .int .i64 a1_4, .int .i64 a1_5, .int .i64 a1_6, .slice A1_7 l1_7.length c1_7]) (t := 77) ?_; intro gb322 hg w60 hbox hb; have BK322 := Aside0.mk (hbox); have GW322 := bwz HB hg; have GE322 := bwz HB hg; replace HB := bwb HB hb; have NB321_322 := bkl BK321 hg; have NB322_321 := bkg BK321 hg; replace BK321 := bkb BK321 hb; clear hb hbox hg; have hnb61 := NB321_322.out; have hnc61 := NB322_321.out; obtain ⟨hcz62, hfz62⟩ := bcf BK321; obtain ⟨hcz63, hfz63⟩ := bcf BK322))
  go_ret
  exact ⟨by first | rfl | (simp [errW_none, errW_some] <;> rfl) | (simp [*, errW_none, errW_some] <;> rfl), bwq HB⟩
def laws_eqStepS.l0 : Nat → List (S77) → List (S77) → Int → Option (Bool)
 | 0, _, _, _ => none
 | k + 1, x0, x1, x5 => if x5 < (x0.length : Int) then (if 0 ≤ x5 then (if x5 < (x1.length : Int) then ((laws_eqStep.f k ((rd_T77 x0 x5).f0) ((rd_T77 x0 x5).f1) ((rd_T77 x0 x5).f2) ((rd_T77 x0 x5).f3.f0) ((rd_T77 x0 x5).f3.f1) ((rd_T77 x0 x5).f4.f0) ((rd_T77 x0 x5).f4.f1) ((rd_T77 x0 x5).f5) ((rd_T77 x1 x5).f0) ((rd_T77 x1 x5).f1) ((rd_T77 x1 x5).f2) ((rd_T77 x1 x5).f3.f0) ((rd_T77 x1 x5).f3.f1) ((rd_T77 x1 x5).f4.f0) ((rd_T77 x1 x5).f4.f1) ((rd_T77 x1 x5).f5)).bind fun t328 => (if t328 = true then (laws_eqStepS.l0 k x0 x1 (wrap64 (x5 + 1))) else (some false))) else (none)) else (none)) else (some true)
def laws_eqStepS.f (k : Nat) (l0 : List (S77)) (l1 : List (S77)) : Option (Bool) := if (l0.length : Int) = (l1.length : Int) then (laws_eqStepS.l0 k l0 l1 0) else (some false)
def laws_eqStepS.T6 : Bool × List (List Nat × List Nat) := (true, [([], []), ([], []), ([0, 1], [0, 1]), ([2], [2]), ([], []), ([], []), ([4, 5], [4, 5]), ([6], [6]), ([3, 7], [3, 7]), ([8], [8])])
def laws_eqStepS.B6 : List Nat := [0, 0, 3, 7, 0, 0, 48, 112, 255, 511]
theorem laws_eqStepS.tab6 : rtab .any (opsOf Try.f53 6) = laws_eqStepS.T6 := by kernel_rfl
theorem laws_eqStepS.bits6 : waitsOk laws_eqStepS.T6.2 laws_eqStepS.B6 = true := by kernel_rfl
theorem laws_eqStepS.calls (k : Nat) (A0 : Option Addr) (c0 : Nat) (l0 : List (S77)) (A1 : Option Addr) (c1 : Nat) (l1 : List (S77)) (r : Bool) (w : World) (hr0 : Kd.C k77 w A0 l0.length l0) (hc0 : l0.length ≤ c0) (hr1 : Kd.C k77 w A1 l1.length l1) (hc1 : l1.length ≤ c1) (h : laws_eqStepS.f k l0 l1 = some r) :
  Calls Try.prog 53 #[.slice A0 l0.length c0, .slice A1 l1.length c1] w fun e w' => e = .returned (.bool r) ∧ Below w.heap.size w w' := by
 have hu77 := Try.underlying77
 have HR0 := Aside0.mk hr0
 have HC0 := Aside0.mk hc0
 clear hr0 hc0
 have HR1 := Aside0.mk hr1
 have HC1 := Aside0.mk hc1
 clear hr1 hc1
 have HB := Aside0.mk (Below.refl w.heap.size w)
 have H : (if (l0.length : Int) = (l1.length : Int) then (laws_eqStepS.l0 k l0 l1 0) else (some false)) = some r := h
 clear h
 by_cases c3 : (l0.length : Int) = (l1.length : Int)
 ·rw [if_pos c3] at H
  have c3b0 : ((l0.length : Int) == (l1.length : Int)) = true := beq_iff_eq.mpr c3
  have c3b1 : ((l0.length : Int) != (l1.length : Int)) = false := bne_eq_false_iff_eq.mpr c3
  have c3b2 : (l0.length == l1.length) = true := by first | simpa using c3 | (simp at c3 ⊢; omega)
  clear c3
  have H' := Aside0.mk H
  clear H
  go_enter Try.func53, Try.ntmps53
  go_wp2
  go_loopg [5] k (fun kq v5 w' => ∃ (x5_1 : Int), v5 = .int .i64 x5_1 ∧ Aside0 (laws_eqStepS.l0 kq l0 l1 x5_1 = some r) ∧ Aside0 (kq ≤ k) ∧ Aside0 (Below w.heap.size w w'))
  case atStart => exact ⟨(0), (by first | rfl | (simp; done) | (simp [*]; done)), H', ⟨Nat.le_refl _⟩, ⟨bwq HB⟩⟩
  case round =>
   clear H'
   try clear c1
   try clear p2
   try clear c3
   try clear c3b0
   try clear c3b1
   try clear c3b2
   obtain ⟨x5_1, rfl, HA, HK1, HB⟩ := hrel
   cases gk with
   | zero => exact absurd HA.out (by intro h_; first | (cases h_; done) | (simp [laws_eqStepS.l0] at h_))
   | succ k1 =>
    have H := HA.out
    clear HA
    simp only [laws_eqStepS.l0] at H
    by_cases c4 : x5_1 < (l0.length : Int)
    ·rw [if_pos c4] at H
     have c4b0 : decide (x5_1 < (l0.length : Int)) = true := decide_eq_true c4
     clear c4
     by_cases c5 : 0 ≤ x5_1
     ·rw [if_pos c5] at H
      have c5b0 : decide (0 ≤ x5_1) = true := decide_eq_true c5
      clear c5
      by_cases c6 : x5_1 < (l1.length : Int)
      ·rw [if_pos c6] at H
       have c6b0 : decide (x5_1 < (l1.length : Int)) = true := decide_eq_true c6
       clear c6
       replace H := Option.bind_eq_some_iff.mp H
       obtain ⟨t328, A70, H⟩ := H
       have A7 := Aside0.mk A70
       clear A70
       by_cases c8 : t328 = true
       ·subst c8
        rw [if_pos rfl] at H
        have H' := Aside0.mk H
        clear H
        try go_wp2
        replace HB := Aside0.mk (below_drew1 HB.out)
        have p326 : 0 ≤ (x5_1 : Int) := oda
        have q326 : x5_1 < (l0.length : Int) := oda
        obtain ⟨ad326, A326_7, c326_7, e326, hx326_0, hx326_1, hx326_2, hx326_3, hx326_4, hx326_5, hx326_6, hx326_7, hl326_7, hi326_7⟩ := at_T77 HR0.out x5_1 p326 q326
        have hw326_7 := hx326_7
        have hw326_6 := hx326_6
        have hw326_5 := hx326_5
        have hw326_4 := hx326_4
        have hw326_3 := hx326_3
        have hw326_2 := hx326_2
        have hw326_1 := hx326_1
        have hw326_0 := hx326_0
        cases e326
        replace hx326_0 := hxb HB hx326_0
        replace hx326_1 := hxb HB hx326_1
        replace hx326_2 := hxb HB hx326_2
        replace hx326_3 := hxb HB hx326_3
        replace hx326_4 := hxb HB hx326_4
        replace hx326_5 := hxb HB hx326_5
        replace hx326_6 := hxb HB hx326_6
        replace hx326_7 := hxb HB hx326_7
        have HR326_7 := Aside0.mk hi326_7
        have HC326_7 := Aside0.mk hl326_7
        clear hi326_7 hl326_7
        replace p326 := eq_true p326
        replace q326 := eq_true q326
        have p327 : 0 ≤ (x5_1 : Int) := oda
        have q327 : x5_1 < (l1.length : Int) := oda
        obtain ⟨ad327, A327_7, c327_7, e327, hx327_0, hx327_1, hx327_2, hx327_3, hx327_4, hx327_5, hx327_6, hx327_7, hl327_7, hi327_7⟩ := at_T77 HR1.out x5_1 p327 q327
        have hw327_7 := hx327_7
        have hw327_6 := hx327_6
        have hw327_5 := hx327_5
        have hw327_4 := hx327_4
        have hw327_3 := hx327_3
        have hw327_2 := hx327_2
        have hw327_1 := hx327_1
        have hw327_0 := hx327_0
        cases e327
        replace hx327_0 := hxb HB hx327_0
        replace hx327_1 := hxb HB hx327_1
        replace hx327_2 := hxb HB hx327_2
        replace hx327_3 := hxb HB hx327_3
        replace hx327_4 := hxb HB hx327_4
        replace hx327_5 := hxb HB hx327_5
        replace hx327_6 := hxb HB hx327_6
        replace hx327_7 := hxb HB hx327_7
        have HR327_7 := Aside0.mk hi327_7
        have HC327_7 := Aside0.mk hl327_7
        clear hi327_7 hl327_7
        replace p327 := eq_true p327
        replace q327 := eq_true q327
        refine start_ (n := 10) (S := fun w' => w'.cell? (ad326.add ((x5_1).toNat * 8)) = some (.int .i64 ((rd_T77 l0 x5_1).f0)) ∧ w'.cell? ⟨(ad326.add ((x5_1).toNat * 8)).block, (ad326.add ((x5_1).toNat * 8)).off + 1, none⟩ = some (.int .i64 ((rd_T77 l0 x5_1).f1)) ∧ w'.cell? ⟨(ad326.add ((x5_1).toNat * 8)).block, (ad326.add ((x5_1).toNat * 8)).off + 2, none⟩ = some (.int .i64 ((rd_T77 l0 x5_1).f2)) ∧ w'.cell? ⟨(ad326.add ((x5_1).toNat * 8)).block, (ad326.add ((x5_1).toNat * 8)).off + 3, none⟩ = some (.int .i64 ((rd_T77 l0 x5_1).f3.f0)) ∧ w'.cell? ⟨(ad326.add ((x5_1).toNat * 8)).block, (ad326.add ((x5_1).toNat * 8)).off + 4, none⟩ = some (.int .i64 ((rd_T77 l0 x5_1).f3.f1)) ∧ w'.cell? ⟨(ad326.add ((x5_1).toNat * 8)).block, (ad326.add ((x5_1).toNat * 8)).off + 5, none⟩ = some (.int .i64 ((rd_T77 l0 x5_1).f4.f0)) ∧ w'.cell? ⟨(ad326.add ((x5_1).toNat * 8)).block, (ad326.add ((x5_1).toNat * 8)).off + 6, none⟩ = some (.int .i64 ((rd_T77 l0 x5_1).f4.f1)) ∧ w'.cell? ⟨(ad326.add ((x5_1).toNat * 8)).block, (ad326.add ((x5_1).toNat * 8)).off + 7, none⟩ = some (.slice A326_7 ((rd_T77 l0 x5_1).f5).length c326_7) ∧ w'.cell? (ad327.add ((x5_1).toNat * 8)) = some (.int .i64 ((rd_T77 l1 x5_1).f0)) ∧ w'.cell? ⟨(ad327.add ((x5_1).toNat * 8)).block, (ad327.add ((x5_1).toNat * 8)).off + 1, none⟩ = some (.int .i64 ((rd_T77 l1 x5_1).f1)) ∧ w'.cell? ⟨(ad327.add ((x5_1).toNat * 8)).block, (ad327.add ((x5_1).toNat * 8)).off + 2, none⟩ = some (.int .i64 ((rd_T77 l1 x5_1).f2)) ∧ w'.cell? ⟨(ad327.add ((x5_1).toNat * 8)).block, (ad327.add ((x5_1).toNat * 8)).off + 3, none⟩ = some (.int .i64 ((rd_T77 l1 x5_1).f3.f0)) ∧ w'.cell? ⟨(ad327.add ((x5_1).toNat * 8)).block, (ad327.add ((x5_1).toNat * 8)).off + 4, none⟩ = some (.int .i64 ((rd_T77 l1 x5_1).f3.f1)) ∧ w'.cell? ⟨(ad327.add ((x5_1).toNat * 8)).block, (ad327.add ((x5_1).toNat * 8)).off + 5, none⟩ = some (.int .i64 ((rd_T77 l1 x5_1).f4.f0)) ∧ w'.cell? ⟨(ad327.add ((x5_1).toNat * 8)).block, (ad327.add ((x5_1).toNat * 8)).off + 6, none⟩ = some (.int .i64 ((rd_T77 l1 x5_1).f4.f1)) ∧ w'.cell? ⟨(ad327.add ((x5_1).toNat * 8)).block, (ad327.add ((x5_1).toNat * 8)).off + 7, none⟩ = some (.slice A327_7 ((rd_T77 l1 x5_1).f5).length c327_7)) (ds := []) #[false, false, false, false, false, false, false, false, false, false] (by kernel_rfl) rfl rfl ⟨((HB.out.cell (World.block_lt_of_cell? w _ hw326_0)).trans hw326_0), ((HB.out.cell (World.block_lt_of_cell? w _ hw326_1)).trans hw326_1), ((HB.out.cell (World.block_lt_of_cell? w _ hw326_2)).trans hw326_2), ((HB.out.cell (World.block_lt_of_cell? w _ hw326_3)).trans hw326_3), ((HB.out.cell (World.block_lt_of_cell? w _ hw326_4)).trans hw326_4), ((HB.out.cell (World.block_lt_of_cell? w _ hw326_5)).trans hw326_5), ((HB.out.cell (World.block_lt_of_cell? w _ hw326_6)).trans hw326_6), ((HB.out.cell (World.block_lt_of_cell? w _ hw326_7)).trans hw326_7), ((HB.out.cell (World.block_lt_of_cell? w _ hw327_0)).trans hw327_0), ((HB.out.cell (World.block_lt_of_cell? w _ hw327_1)).trans hw327_1), ((HB.out.cell (World.block_lt_of_cell? w _ hw327_2)).trans hw327_2), ((HB.out.cell (World.block_lt_of_cell? w _ hw327_3)).trans hw327_3), ((HB.out.cell (World.block_lt_of_cell? w _ hw327_4)).trans hw327_4), ((HB.out.cell (World.block_lt_of_cell? w _ hw327_5)).trans hw327_5), ((HB.out.cell (World.block_lt_of_cell? w _ hw327_6)).trans hw327_6), ((HB.out.cell (World.block_lt_of_cell? w _ hw327_7)).trans hw327_7)⟩ (fun hHeld => ?_); refine with_tabW laws_eqStepS.tab6 laws_eqStepS.bits6 (fun HT_ HW_ => ?_)
        generalize wr.drew = w9 at HB HR326_7 HR327_7 hx326_0 hx326_1 hx326_2 hx326_3 hx326_4 hx326_5 hx326_6 hx326_7 hx327_0 hx327_1 hx327_2 hx327_3 hx327_4 hx327_5 hx327_6 hx327_7 hHeld ⊢
        refine pure_ (i := 0) (N := some 17) (v := ?_) (a' := ?_) #[true, false, false, false, false, false, false, false, false, false] rfl rfl (any_of HT_.out (by kernel_rfl)) (fun _ _ _ h => h) (Or.inl ⟨by rfl, ?_⟩) ?_ ?_
        rotate_left
        ·intro w'
         go_simp
         with_reducible rfl
        rotate_left
        ·simp only [Act.put, List.setIfInBounds_toArray, List.set_cons_zero, List.set_cons_succ, i64_w, i32_w]
         rfl
        refine pure_ (i := 1) (N := some 18) (v := ?_) (a' := ?_) #[true, true, false, false, false, false, false, false, false, false] rfl rfl (any_of HT_.out (by kernel_rfl)) (fun _ _ _ h => h) (Or.inl ⟨by rfl, ?_⟩) ?_ ?_
        rotate_left
        ·intro w'
         go_simp
         with_reducible rfl
        rotate_left
        ·simp only [Act.put, List.setIfInBounds_toArray, List.set_cons_zero, List.set_cons_succ, i64_w, i32_w]
         rfl
        refine pure_ (i := 2) (N := some 19) (v := ?_) (a' := ?_) #[true, true, true, false, false, false, false, false, false, false] rfl rfl (any_of HT_.out (by kernel_rfl)) (fun _ _ _ h => h) (Or.inl ⟨by rfl, ?_⟩) ?_ ?_
        rotate_left
        ·intro w'
         go_simp
         with_reducible rfl
        rotate_left
        ·simp only [Act.put, List.setIfInBounds_toArray, List.set_cons_zero, List.set_cons_succ, i64_w, i32_w]
         rfl
        refine pure_ (i := 4) (N := some 21) (v := ?_) (a' := ?_) #[true, true, true, false, true, false, false, false, false, false] rfl rfl (any_of HT_.out (by kernel_rfl)) (fun _ _ _ h => h) (Or.inl ⟨by rfl, ?_⟩) ?_ ?_
        rotate_left
        ·intro w'
         go_simp
         with_reducible rfl
        rotate_left
        ·simp only [Act.put, List.setIfInBounds_toArray, List.set_cons_zero, List.set_cons_succ, i64_w, i32_w]
         rfl
        refine pure_ (i := 5) (N := some 22) (v := ?_) (a' := ?_) #[true, true, true, false, true, true, false, false, false, false] rfl rfl (any_of HT_.out (by kernel_rfl)) (fun _ _ _ h => h) (Or.inl ⟨by rfl, ?_⟩) ?_ ?_
        rotate_left
        ·intro w'
         go_simp
         with_reducible rfl
        rotate_left
        ·simp only [Act.put, List.setIfInBounds_toArray, List.set_cons_zero, List.set_cons_succ, i64_w, i32_w]
         rfl
        refine pure_ (i := 6) (N := some 23) (v := ?_) (a' := ?_) #[true, true, true, false, true, true, true, false, false, false] rfl rfl (any_of HT_.out (by kernel_rfl)) (fun _ _ _ h => h) (Or.inl ⟨by rfl, ?_⟩) ?_ ?_
        rotate_left
        ·intro w'
         go_simp
         with_reducible rfl
        rotate_left
        ·simp only [Act.put, List.setIfInBounds_toArray, List.set_cons_zero, List.set_cons_succ, i64_w, i32_w]
         rfl
        refine take_ (i := 3) (N := some 20) (v := ?_) (a' := ?_) #[true, true, true, true, true, true, true, false, false, false] rfl rfl (take_ofW HT_.out HW_.out (by kernel_rfl)) (fun _ _ _ h => h) (Or.inl ⟨by rfl, ?_⟩) hHeld ?_ ?_
        rotate_left
        ·rintro w' ⟨s0, s1, s2, s3, s4, s5, s6, s7, s8, s9, s10, s11, s12, s13, s14, s15⟩
         go_simp
         with_reducible rfl
        rotate_left
        ·simp only [Act.put, List.setIfInBounds_toArray, List.set_cons_zero, List.set_cons_succ, i64_w, i32_w]
         rfl
        refine take_ (i := 7) (N := some 24) (v := ?_) (a' := ?_) #[true, true, true, true, true, true, true, true, false, false] rfl rfl (take_ofW HT_.out HW_.out (by kernel_rfl)) (fun _ _ _ h => h) (Or.inl ⟨by rfl, ?_⟩) hHeld ?_ ?_
        rotate_left
        ·rintro w' ⟨s0, s1, s2, s3, s4, s5, s6, s7, s8, s9, s10, s11, s12, s13, s14, s15⟩
         go_simp
         with_reducible rfl
        rotate_left
        ·simp only [Act.put, List.setIfInBounds_toArray, List.set_cons_zero, List.set_cons_succ, i64_w, i32_w]
         rfl
        refine one_ (i := 8) (N := some 25) #[true, true, true, true, true, true, true, true, true, false] rfl rfl (one_of HT_.out (by kernel_rfl)) (by decide) (fun K hK => ?_)
        refine goesS Try.func90 #[.agg #[.int .i64 ((rd_T77 l0 x5_1).f0), .int .i64 ((rd_T77 l0 x5_1).f1), .int .i64 ((rd_T77 l0 x5_1).f2), .int .i64 ((rd_T77 l0 x5_1).f3.f0), .int .i64 ((rd_T77 l0 x5_1).f3.f1), .int .i64 ((rd_T77 l0 x5_1).f4.f0), .int .i64 ((rd_T77 l0 x5_1).f4.f1), .slice A326_7 ((rd_T77 l0 x5_1).f5).length c326_7], .agg #[.int .i64 ((rd_T77 l1 x5_1).f0), .int .i64 ((rd_T77 l1 x5_1).f1), .int .i64 ((rd_T77 l1 x5_1).f2), .int .i64 ((rd_T77 l1 x5_1).f3.f0), .int .i64 ((rd_T77 l1 x5_1).f3.f1), .int .i64 ((rd_T77 l1 x5_1).f4.f0), .int .i64 ((rd_T77 l1 x5_1).f4.f1), .slice A327_7 ((rd_T77 l1 x5_1).f5).length c327_7]] rfl rfl ?_
        with_reducible refine (laws_eqStep.calls k1 ((rd_T77 l0 x5_1).f0) ((rd_T77 l0 x5_1).f1) ((rd_T77 l0 x5_1).f2) ((rd_T77 l0 x5_1).f3.f0) ((rd_T77 l0 x5_1).f3.f1) ((rd_T77 l0 x5_1).f4.f0) ((rd_T77 l0 x5_1).f4.f1) _ _ ((rd_T77 l0 x5_1).f5) ((rd_T77 l1 x5_1).f0) ((rd_T77 l1 x5_1).f1) ((rd_T77 l1 x5_1).f2) ((rd_T77 l1 x5_1).f3.f0) ((rd_T77 l1 x5_1).f3.f1) ((rd_T77 l1 x5_1).f4.f0) ((rd_T77 l1 x5_1).f4.f1) _ _ ((rd_T77 l1 x5_1).f5) true _ ?side1 ?side2 ?side3 ?side4 A7.out).mono ?_
        (case side1 => exact Cq (Kd.C_below HR326_7.out HB.out))
        (case side2 => exact HC326_7.out)
        (case side3 => exact Cq (Kd.C_below HR327_7.out HB.out))
        (case side4 => exact HC327_7.out)
        rintro e w10 ⟨rfl, hb⟩
        refine ⟨_, rfl, ?_⟩
        replace HB := bwb HB hb
        (try clear hb)
        (try clear hb2)
        (try clear hk)
        (try clear hi)
        refine hK.out _ _ ⟨((HB.out.cell (World.block_lt_of_cell? w _ hw326_0)).trans hw326_0), ((HB.out.cell (World.block_lt_of_cell? w _ hw326_1)).trans hw326_1), ((HB.out.cell (World.block_lt_of_cell? w _ hw326_2)).trans hw326_2), ((HB.out.cell (World.block_lt_of_cell? w _ hw326_3)).trans hw326_3), ((HB.out.cell (World.block_lt_of_cell? w _ hw326_4)).trans hw326_4), ((HB.out.cell (World.block_lt_of_cell? w _ hw326_5)).trans hw326_5), ((HB.out.cell (World.block_lt_of_cell? w _ hw326_6)).trans hw326_6), ((HB.out.cell (World.block_lt_of_cell? w _ hw326_7)).trans hw326_7), ((HB.out.cell (World.block_lt_of_cell? w _ hw327_0)).trans hw327_0), ((HB.out.cell (World.block_lt_of_cell? w _ hw327_1)).trans hw327_1), ((HB.out.cell (World.block_lt_of_cell? w _ hw327_2)).trans hw327_2), ((HB.out.cell (World.block_lt_of_cell? w _ hw327_3)).trans hw327_3), ((HB.out.cell (World.block_lt_of_cell? w _ hw327_4)).trans hw327_4), ((HB.out.cell (World.block_lt_of_cell? w _ hw327_5)).trans hw327_5), ((HB.out.cell (World.block_lt_of_cell? w _ hw327_6)).trans hw327_6), ((HB.out.cell (World.block_lt_of_cell? w _ hw327_7)).trans hw327_7)⟩ (fun hHeld => ?_)
        clear hK K
        refine norm_ (a' := ?_) ?_ ?_
        rotate_left
        ·show Act.put _ (some 25) _ = _
         simp only [Act.put, List.setIfInBounds_toArray, List.set_cons_zero, List.set_cons_succ, i64_w, i32_w]
         rfl
        refine pure_ (i := 9) (N := some 26) (v := ?_) (a' := ?_) #[true, true, true, true, true, true, true, true, true, true] rfl rfl (any_of HT_.out (by kernel_rfl)) (fun _ _ _ h => h) (Or.inl ⟨by rfl, ?_⟩) ?_ ?_
        rotate_left
        ·intro w'
         go_simp
         with_reducible rfl
        rotate_left
        ·simp only [Act.put, List.setIfInBounds_toArray, List.set_cons_zero, List.set_cons_succ, i64_w, i32_w]
         rfl
        refine done_ (done_of HT_.out (by kernel_rfl)) ?_
        try go_wp2
        go_roundg k1
        case measure => have := HK1.out; omega
        case rel => exact ⟨(wrap64 (x5_1 + 1)), (by first | rfl | (simp; done) | (simp [*]; done)), H', ⟨by have := HK1.out; omega⟩, ⟨bwq HB⟩⟩
       ·replace c8 := Bool.eq_false_iff.mpr c8
        subst c8
        have H1 : (some false) = some r := by rw [if_neg (show ¬ (false = true) by decide)] at H; exact H
        clear H
        have H := H1
        clear H1
        obtain rfl := Option.some.inj H
        try go_wp2
        replace HB := Aside0.mk (below_drew1 HB.out)
        have p326 : 0 ≤ (x5_1 : Int) := oda
        have q326 : x5_1 < (l0.length : Int) := oda
        obtain ⟨ad326, A326_7, c326_7, e326, hx326_0, hx326_1, hx326_2, hx326_3, hx326_4, hx326_5, hx326_6, hx326_7, hl326_7, hi326_7⟩ := at_T77 HR0.out x5_1 p326 q326
        have hw326_7 := hx326_7
        have hw326_6 := hx326_6
        have hw326_5 := hx326_5
        have hw326_4 := hx326_4
        have hw326_3 := hx326_3
        have hw326_2 := hx326_2
        have hw326_1 := hx326_1
        have hw326_0 := hx326_0
        cases e326
        replace hx326_0 := hxb HB hx326_0
        replace hx326_1 := hxb HB hx326_1
        replace hx326_2 := hxb HB hx326_2
        replace hx326_3 := hxb HB hx326_3
        replace hx326_4 := hxb HB hx326_4
        replace hx326_5 := hxb HB hx326_5
        replace hx326_6 := hxb HB hx326_6
        replace hx326_7 := hxb HB hx326_7
        have HR326_7 := Aside0.mk hi326_7
        have HC326_7 := Aside0.mk hl326_7
        clear hi326_7 hl326_7
        replace p326 := eq_true p326
        replace q326 := eq_true q326
        have p327 : 0 ≤ (x5_1 : Int) := oda
        have q327 : x5_1 < (l1.length : Int) := oda
        obtain ⟨ad327, A327_7, c327_7, e327, hx327_0, hx327_1, hx327_2, hx327_3, hx327_4, hx327_5, hx327_6, hx327_7, hl327_7, hi327_7⟩ := at_T77 HR1.out x5_1 p327 q327
        have hw327_7 := hx327_7
        have hw327_6 := hx327_6
        have hw327_5 := hx327_5
        have hw327_4 := hx327_4
        have hw327_3 := hx327_3
        have hw327_2 := hx327_2
        have hw327_1 := hx327_1
        have hw327_0 := hx327_0
        cases e327
        replace hx327_0 := hxb HB hx327_0
        replace hx327_1 := hxb HB hx327_1
        replace hx327_2 := hxb HB hx327_2
        replace hx327_3 := hxb HB hx327_3
        replace hx327_4 := hxb HB hx327_4
        replace hx327_5 := hxb HB hx327_5
        replace hx327_6 := hxb HB hx327_6
        replace hx327_7 := hxb HB hx327_7
        have HR327_7 := Aside0.mk hi327_7
        have HC327_7 := Aside0.mk hl327_7
        clear hi327_7 hl327_7
        replace p327 := eq_true p327
        replace q327 := eq_true q327
        refine start_ (n := 10) (S := fun w' => w'.cell? (ad326.add ((x5_1).toNat * 8)) = some (.int .i64 ((rd_T77 l0 x5_1).f0)) ∧ w'.cell? ⟨(ad326.add ((x5_1).toNat * 8)).block, (ad326.add ((x5_1).toNat * 8)).off + 1, none⟩ = some (.int .i64 ((rd_T77 l0 x5_1).f1)) ∧ w'.cell? ⟨(ad326.add ((x5_1).toNat * 8)).block, (ad326.add ((x5_1).toNat * 8)).off + 2, none⟩ = some (.int .i64 ((rd_T77 l0 x5_1).f2)) ∧ w'.cell? ⟨(ad326.add ((x5_1).toNat * 8)).block, (ad326.add ((x5_1).toNat * 8)).off + 3, none⟩ = some (.int .i64 ((rd_T77 l0 x5_1).f3.f0)) ∧ w'.cell? ⟨(ad326.add ((x5_1).toNat * 8)).block, (ad326.add ((x5_1).toNat * 8)).off + 4, none⟩ = some (.int .i64 ((rd_T77 l0 x5_1).f3.f1)) ∧ w'.cell? ⟨(ad326.add ((x5_1).toNat * 8)).block, (ad326.add ((x5_1).toNat * 8)).off + 5, none⟩ = some (.int .i64 ((rd_T77 l0 x5_1).f4.f0)) ∧ w'.cell? ⟨(ad326.add ((x5_1).toNat * 8)).block, (ad326.add ((x5_1).toNat * 8)).off + 6, none⟩ = some (.int .i64 ((rd_T77 l0 x5_1).f4.f1)) ∧ w'.cell? ⟨(ad326.add ((x5_1).toNat * 8)).block, (ad326.add ((x5_1).toNat * 8)).off + 7, none⟩ = some (.slice A326_7 ((rd_T77 l0 x5_1).f5).length c326_7) ∧ w'.cell? (ad327.add ((x5_1).toNat * 8)) = some (.int .i64 ((rd_T77 l1 x5_1).f0)) ∧ w'.cell? ⟨(ad327.add ((x5_1).toNat * 8)).block, (ad327.add ((x5_1).toNat * 8)).off + 1, none⟩ = some (.int .i64 ((rd_T77 l1 x5_1).f1)) ∧ w'.cell? ⟨(ad327.add ((x5_1).toNat * 8)).block, (ad327.add ((x5_1).toNat * 8)).off + 2, none⟩ = some (.int .i64 ((rd_T77 l1 x5_1).f2)) ∧ w'.cell? ⟨(ad327.add ((x5_1).toNat * 8)).block, (ad327.add ((x5_1).toNat * 8)).off + 3, none⟩ = some (.int .i64 ((rd_T77 l1 x5_1).f3.f0)) ∧ w'.cell? ⟨(ad327.add ((x5_1).toNat * 8)).block, (ad327.add ((x5_1).toNat * 8)).off + 4, none⟩ = some (.int .i64 ((rd_T77 l1 x5_1).f3.f1)) ∧ w'.cell? ⟨(ad327.add ((x5_1).toNat * 8)).block, (ad327.add ((x5_1).toNat * 8)).off + 5, none⟩ = some (.int .i64 ((rd_T77 l1 x5_1).f4.f0)) ∧ w'.cell? ⟨(ad327.add ((x5_1).toNat * 8)).block, (ad327.add ((x5_1).toNat * 8)).off + 6, none⟩ = some (.int .i64 ((rd_T77 l1 x5_1).f4.f1)) ∧ w'.cell? ⟨(ad327.add ((x5_1).toNat * 8)).block, (ad327.add ((x5_1).toNat * 8)).off + 7, none⟩ = some (.slice A327_7 ((rd_T77 l1 x5_1).f5).length c327_7)) (ds := []) #[false, false, false, false, false, false, false, false, false, false] (by kernel_rfl) rfl rfl ⟨((HB.out.cell (World.block_lt_of_cell? w _ hw326_0)).trans hw326_0), ((HB.out.cell (World.block_lt_of_cell? w _ hw326_1)).trans hw326_1), ((HB.out.cell (World.block_lt_of_cell? w _ hw326_2)).trans hw326_2), ((HB.out.cell (World.block_lt_of_cell? w _ hw326_3)).trans hw326_3), ((HB.out.cell (World.block_lt_of_cell? w _ hw326_4)).trans hw326_4), ((HB.out.cell (World.block_lt_of_cell? w _ hw326_5)).trans hw326_5), ((HB.out.cell (World.block_lt_of_cell? w _ hw326_6)).trans hw326_6), ((HB.out.cell (World.block_lt_of_cell? w _ hw326_7)).trans hw326_7), ((HB.out.cell (World.block_lt_of_cell? w _ hw327_0)).trans hw327_0), ((HB.out.cell (World.block_lt_of_cell? w _ hw327_1)).trans hw327_1), ((HB.out.cell (World.block_lt_of_cell? w _ hw327_2)).trans hw327_2), ((HB.out.cell (World.block_lt_of_cell? w _ hw327_3)).trans hw327_3), ((HB.out.cell (World.block_lt_of_cell? w _ hw327_4)).trans hw327_4), ((HB.out.cell (World.block_lt_of_cell? w _ hw327_5)).trans hw327_5), ((HB.out.cell (World.block_lt_of_cell? w _ hw327_6)).trans hw327_6), ((HB.out.cell (World.block_lt_of_cell? w _ hw327_7)).trans hw327_7)⟩ (fun hHeld => ?_); refine with_tabW laws_eqStepS.tab6 laws_eqStepS.bits6 (fun HT_ HW_ => ?_)
        generalize wr.drew = w11 at HB HR326_7 HR327_7 hx326_0 hx326_1 hx326_2 hx326_3 hx326_4 hx326_5 hx326_6 hx326_7 hx327_0 hx327_1 hx327_2 hx327_3 hx327_4 hx327_5 hx327_6 hx327_7 hHeld ⊢
        refine pure_ (i := 0) (N := some 17) (v := ?_) (a' := ?_) #[true, false, false, false, false, false, false, false, false, false] rfl rfl (any_of HT_.out (by kernel_rfl)) (fun _ _ _ h => h) (Or.inl ⟨by rfl, ?_⟩) ?_ ?_
        rotate_left
        ·intro w'
         go_simp
         with_reducible rfl
        rotate_left
        ·simp only [Act.put, List.setIfInBounds_toArray, List.set_cons_zero, List.set_cons_succ, i64_w, i32_w]
         rfl
        refine pure_ (i := 1) (N := some 18) (v := ?_) (a' := ?_) #[true, true, false, false, false, false, false, false, false, false] rfl rfl (any_of HT_.out (by kernel_rfl)) (fun _ _ _ h => h) (Or.inl ⟨by rfl, ?_⟩) ?_ ?_
        rotate_left
        ·intro w'
         go_simp
         with_reducible rfl
        rotate_left
        ·simp only [Act.put, List.setIfInBounds_toArray, List.set_cons_zero, List.set_cons_succ, i64_w, i32_w]
         rfl
        refine pure_ (i := 2) (N := some 19) (v := ?_) (a' := ?_) #[true, true, true, false, false, false, false, false, false, false] rfl rfl (any_of HT_.out (by kernel_rfl)) (fun _ _ _ h => h) (Or.inl ⟨by rfl, ?_⟩) ?_ ?_
        rotate_left
        ·intro w'
         go_simp
         with_reducible rfl
        rotate_left
        ·simp only [Act.put, List.setIfInBounds_toArray, List.set_cons_zero, List.set_cons_succ, i64_w, i32_w]
         rfl
        refine pure_ (i := 4) (N := some 21) (v := ?_) (a' := ?_) #[true, true, true, false, true, false, false, false, false, false] rfl rfl (any_of HT_.out (by kernel_rfl)) (fun _ _ _ h => h) (Or.inl ⟨by rfl, ?_⟩) ?_ ?_
        rotate_left
        ·intro w'
         go_simp
         with_reducible rfl
        rotate_left
        ·simp only [Act.put, List.setIfInBounds_toArray, List.set_cons_zero, List.set_cons_succ, i64_w, i32_w]
         rfl
        refine pure_ (i := 5) (N := some 22) (v := ?_) (a' := ?_) #[true, true, true, false, true, true, false, false, false, false] rfl rfl (any_of HT_.out (by kernel_rfl)) (fun _ _ _ h => h) (Or.inl ⟨by rfl, ?_⟩) ?_ ?_
        rotate_left
        ·intro w'
         go_simp
         with_reducible rfl
        rotate_left
        ·simp only [Act.put, List.setIfInBounds_toArray, List.set_cons_zero, List.set_cons_succ, i64_w, i32_w]
         rfl
        refine pure_ (i := 6) (N := some 23) (v := ?_) (a' := ?_) #[true, true, true, false, true, true, true, false, false, false] rfl rfl (any_of HT_.out (by kernel_rfl)) (fun _ _ _ h => h) (Or.inl ⟨by rfl, ?_⟩) ?_ ?_
        rotate_left
        ·intro w'
         go_simp
         with_reducible rfl
        rotate_left
        ·simp only [Act.put, List.setIfInBounds_toArray, List.set_cons_zero, List.set_cons_succ, i64_w, i32_w]
         rfl
        refine take_ (i := 3) (N := some 20) (v := ?_) (a' := ?_) #[true, true, true, true, true, true, true, false, false, false] rfl rfl (take_ofW HT_.out HW_.out (by kernel_rfl)) (fun _ _ _ h => h) (Or.inl ⟨by rfl, ?_⟩) hHeld ?_ ?_
        rotate_left
        ·rintro w' ⟨s0, s1, s2, s3, s4, s5, s6, s7, s8, s9, s10, s11, s12, s13, s14, s15⟩
         go_simp
         with_reducible rfl
        rotate_left
        ·simp only [Act.put, List.setIfInBounds_toArray, List.set_cons_zero, List.set_cons_succ, i64_w, i32_w]
         rfl
        refine take_ (i := 7) (N := some 24) (v := ?_) (a' := ?_) #[true, true, true, true, true, true, true, true, false, false] rfl rfl (take_ofW HT_.out HW_.out (by kernel_rfl)) (fun _ _ _ h => h) (Or.inl ⟨by rfl, ?_⟩) hHeld ?_ ?_
        rotate_left
        ·rintro w' ⟨s0, s1, s2, s3, s4, s5, s6, s7, s8, s9, s10, s11, s12, s13, s14, s15⟩
         go_simp
         with_reducible rfl
        rotate_left
        ·simp only [Act.put, List.setIfInBounds_toArray, List.set_cons_zero, List.set_cons_succ, i64_w, i32_w]
         rfl
        refine one_ (i := 8) (N := some 25) #[true, true, true, true, true, true, true, true, true, false] rfl rfl (one_of HT_.out (by kernel_rfl)) (by decide) (fun K hK => ?_)
        refine goesS Try.func90 #[.agg #[.int .i64 ((rd_T77 l0 x5_1).f0), .int .i64 ((rd_T77 l0 x5_1).f1), .int .i64 ((rd_T77 l0 x5_1).f2), .int .i64 ((rd_T77 l0 x5_1).f3.f0), .int .i64 ((rd_T77 l0 x5_1).f3.f1), .int .i64 ((rd_T77 l0 x5_1).f4.f0), .int .i64 ((rd_T77 l0 x5_1).f4.f1), .slice A326_7 ((rd_T77 l0 x5_1).f5).length c326_7], .agg #[.int .i64 ((rd_T77 l1 x5_1).f0), .int .i64 ((rd_T77 l1 x5_1).f1), .int .i64 ((rd_T77 l1 x5_1).f2), .int .i64 ((rd_T77 l1 x5_1).f3.f0), .int .i64 ((rd_T77 l1 x5_1).f3.f1), .int .i64 ((rd_T77 l1 x5_1).f4.f0), .int .i64 ((rd_T77 l1 x5_1).f4.f1), .slice A327_7 ((rd_T77 l1 x5_1).f5).length c327_7]] rfl rfl ?_
        with_reducible refine (laws_eqStep.calls k1 ((rd_T77 l0 x5_1).f0) ((rd_T77 l0 x5_1).f1) ((rd_T77 l0 x5_1).f2) ((rd_T77 l0 x5_1).f3.f0) ((rd_T77 l0 x5_1).f3.f1) ((rd_T77 l0 x5_1).f4.f0) ((rd_T77 l0 x5_1).f4.f1) _ _ ((rd_T77 l0 x5_1).f5) ((rd_T77 l1 x5_1).f0) ((rd_T77 l1 x5_1).f1) ((rd_T77 l1 x5_1).f2) ((rd_T77 l1 x5_1).f3.f0) ((rd_T77 l1 x5_1).f3.f1) ((rd_T77 l1 x5_1).f4.f0) ((rd_T77 l1 x5_1).f4.f1) _ _ ((rd_T77 l1 x5_1).f5) false _ ?side1 ?side2 ?side3 ?side4 A7.out).mono ?_
        (case side1 => exact Cq (Kd.C_below HR326_7.out HB.out))
        (case side2 => exact HC326_7.out)
        (case side3 => exact Cq (Kd.C_below HR327_7.out HB.out))
        (case side4 => exact HC327_7.out)
        rintro e w12 ⟨rfl, hb⟩
        refine ⟨_, rfl, ?_⟩
        replace HB := bwb HB hb
        (try clear hb)
        (try clear hb2)
        (try clear hk)
        (try clear hi)
        refine hK.out _ _ ⟨((HB.out.cell (World.block_lt_of_cell? w _ hw326_0)).trans hw326_0), ((HB.out.cell (World.block_lt_of_cell? w _ hw326_1)).trans hw326_1), ((HB.out.cell (World.block_lt_of_cell? w _ hw326_2)).trans hw326_2), ((HB.out.cell (World.block_lt_of_cell? w _ hw326_3)).trans hw326_3), ((HB.out.cell (World.block_lt_of_cell? w _ hw326_4)).trans hw326_4), ((HB.out.cell (World.block_lt_of_cell? w _ hw326_5)).trans hw326_5), ((HB.out.cell (World.block_lt_of_cell? w _ hw326_6)).trans hw326_6), ((HB.out.cell (World.block_lt_of_cell? w _ hw326_7)).trans hw326_7), ((HB.out.cell (World.block_lt_of_cell? w _ hw327_0)).trans hw327_0), ((HB.out.cell (World.block_lt_of_cell? w _ hw327_1)).trans hw327_1), ((HB.out.cell (World.block_lt_of_cell? w _ hw327_2)).trans hw327_2), ((HB.out.cell (World.block_lt_of_cell? w _ hw327_3)).trans hw327_3), ((HB.out.cell (World.block_lt_of_cell? w _ hw327_4)).trans hw327_4), ((HB.out.cell (World.block_lt_of_cell? w _ hw327_5)).trans hw327_5), ((HB.out.cell (World.block_lt_of_cell? w _ hw327_6)).trans hw327_6), ((HB.out.cell (World.block_lt_of_cell? w _ hw327_7)).trans hw327_7)⟩ (fun hHeld => ?_)
        clear hK K
        refine norm_ (a' := ?_) ?_ ?_
        rotate_left
        ·show Act.put _ (some 25) _ = _
         simp only [Act.put, List.setIfInBounds_toArray, List.set_cons_zero, List.set_cons_succ, i64_w, i32_w]
         rfl
        refine pure_ (i := 9) (N := some 26) (v := ?_) (a' := ?_) #[true, true, true, true, true, true, true, true, true, true] rfl rfl (any_of HT_.out (by kernel_rfl)) (fun _ _ _ h => h) (Or.inl ⟨by rfl, ?_⟩) ?_ ?_
        rotate_left
        ·intro w'
         go_simp
         with_reducible rfl
        rotate_left
        ·simp only [Act.put, List.setIfInBounds_toArray, List.set_cons_zero, List.set_cons_succ, i64_w, i32_w]
         rfl
        refine done_ (done_of HT_.out (by kernel_rfl)) ?_
        try go_wp2
        go_ret
        exact ⟨by first | rfl | (simp [errW_none, errW_some] <;> rfl) | (simp [*, errW_none, errW_some] <;> rfl), bwq HB⟩
      ·rw [if_neg c6] at H
       exact absurd H (by simp)
     ·rw [if_neg c5] at H
      exact absurd H (by simp)
    ·rw [if_neg c4] at H
     have c4b0 : decide (x5_1 < (l0.length : Int)) = false := decide_eq_false c4
     clear c4
     obtain rfl := Option.some.inj H
     go_wp2
     go_ret
     exact ⟨by first | rfl | (simp [errW_none, errW_some] <;> rfl) | (simp [*, errW_none, errW_some] <;> rfl), bwq HB⟩
 ·rw [if_neg c3] at H
  have c3b0 : ((l0.length : Int) == (l1.length : Int)) = false := beq_eq_false_iff_ne.mpr c3
  have c3b1 : ((l0.length : Int) != (l1.length : Int)) = true := bne_iff_ne.mpr c3
  have c3b2 : (l0.length == l1.length) = false := by first | simpa using c3 | (simp at c3 ⊢; omega)
  obtain rfl := Option.some.inj H
  go_enter Try.func53, Try.ntmps53
  go_wp2
  go_ret
  exact ⟨by first | rfl | (simp [errW_none, errW_some] <;> rfl) | (simp [*, errW_none, errW_some] <;> rfl), bwq HB⟩
def laws_eqProg.f (k : Nat) (l0_0 : List (S77)) (l1_0 : List (S77)) : Option (Bool) := (laws_eqStepS.f k l0_0 l1_0).bind fun t331 => (if t331 = true then (some true) else (some false))
theorem laws_eqProg.calls (k : Nat) (A0_0 : Option Addr) (c0_0 : Nat) (l0_0 : List (S77)) (A1_0 : Option Addr) (c1_0 : Nat) (l1_0 : List (S77)) (r : Bool) (w : World) (hr0_0 : Kd.C k77 w A0_0 l0_0.length l0_0) (hc0_0 : l0_0.length ≤ c0_0) (hr1_0 : Kd.C k77 w A1_0 l1_0.length l1_0) (hc1_0 : l1_0.length ≤ c1_0) (h : laws_eqProg.f k l0_0 l1_0 = some r) :
  Calls Try.prog 19 #[.agg #[.slice A0_0 l0_0.length c0_0], .agg #[.slice A1_0 l1_0.length c1_0]] w fun e w' => e = .returned (.bool r) ∧ Below w.heap.size w w' := by
 have hu38 := Try.underlying38
 have HR0_0 := Aside0.mk hr0_0
 have HC0_0 := Aside0.mk hc0_0
 clear hr0_0 hc0_0
 have HR1_0 := Aside0.mk hr1_0
 have HC1_0 := Aside0.mk hc1_0
 clear hr1_0 hc1_0
 have HB := Aside0.mk (Below.refl w.heap.size w)
 have H : ((laws_eqStepS.f k l0_0 l1_0).bind fun t331 => (if t331 = true then (some true) else (some false))) = some r := h
 clear h
 replace H := Option.bind_eq_some_iff.mp H
 obtain ⟨t331, A30, H⟩ := H
 have A3 := Aside0.mk A30
 clear A30
 by_cases c4 : t331 = true
 ·subst c4
  rw [if_pos rfl] at H
  obtain rfl := Option.some.inj H
  go_enter Try.func19, Try.ntmps19
  go_wp2_with (first | ((with_reducible refine gate_dst (N := 2) rfl ?_); refine bxe (cs := #[.slice A0_0 l0_0.length c0_0]) (t := 38) ?_; intro gb329 hg w5 hbox hb; have BK329 := Aside0.mk (hbox); have GW329 := bwz HB hg; have GE329 := bwz HB hg; replace HB := bwb HB hb; clear hb hbox hg) | ((with_reducible refine gate_dst (N := 3) rfl ?_); refine bxe (cs := #[.slice A1_0 l1_0.length c1_0]) (t := 38) ?_; intro gb330 hg w6 hbox hb; have BK330 := Aside0.mk (hbox); have GW330 := bwz HB hg; have GE330 := bwz HB hg; replace HB := bwb HB hb; have NB329_330 := bkl BK329 hg; have NB330_329 := bkg BK329 hg; replace BK329 := bkb BK329 hb; clear hb hbox hg; have hnb7 := NB329_330.out; have hnc7 := NB330_329.out; obtain ⟨hcz8, hfz8⟩ := bcf BK329; obtain ⟨hcz9, hfz9⟩ := bcf BK330) | ((with_reducible refine gate_callee (f := 53) rfl ?_); refine goesM (some 9) rfl rfl Try.func53 #[.slice A0_0 l0_0.length c0_0, .slice A1_0 l1_0.length c1_0] rfl ?_; (with_reducible refine (laws_eqStepS.calls k _ _ l0_0 _ _ l1_0 true _ ?side1 ?side2 ?side3 ?side4 A3.out).mono ?_); (case side1 => exact Cq (Kd.C_below HR0_0.out HB.out)); (case side2 => exact HC0_0.out); (case side3 => exact Cq (Kd.C_below HR1_0.out HB.out)); (case side4 => exact HC1_0.out); rintro e w10 ⟨rfl, hb⟩; refine ⟨_, rfl, ?_⟩; replace BK329 := bkb BK329 hb; replace BK330 := bkb BK330 hb; replace HB := bwb HB hb; (try clear hb); (try clear hb2); (try clear hk); (try clear hi)))
  go_ret
  exact ⟨by first | rfl | (simp [errW_none, errW_some] <;> rfl) | (simp [*, errW_none, errW_some] <;> rfl), bwq HB⟩
 ·replace c4 := Bool.eq_false_iff.mpr c4
  subst c4
  have H1 : (some false) = some r := by rw [if_neg (show ¬ (false = true) by decide)] at H; exact H
  clear H
  have H := H1
  clear H1
  obtain rfl := Option.some.inj H
  go_enter Try.func19, Try.ntmps19
  go_wp2_with (first | ((with_reducible refine gate_dst (N := 2) rfl ?_); refine bxe (cs := #[.slice A0_0 l0_0.length c0_0]) (t := 38) ?_; intro gb329 hg w11 hbox hb; have BK329 := Aside0.mk (hbox); have GW329 := bwz HB hg; have GE329 := bwz HB hg; replace HB := bwb HB hb; clear hb hbox hg) | ((with_reducible refine gate_dst (N := 3) rfl ?_); refine bxe (cs := #[.slice A1_0 l1_0.length c1_0]) (t := 38) ?_; intro gb330 hg w12 hbox hb; have BK330 := Aside0.mk (hbox); have GW330 := bwz HB hg; have GE330 := bwz HB hg; replace HB := bwb HB hb; have NB329_330 := bkl BK329 hg; have NB330_329 := bkg BK329 hg; replace BK329 := bkb BK329 hb; clear hb hbox hg; have hnb13 := NB329_330.out; have hnc13 := NB330_329.out; obtain ⟨hcz14, hfz14⟩ := bcf BK329; obtain ⟨hcz15, hfz15⟩ := bcf BK330) | ((with_reducible refine gate_callee (f := 53) rfl ?_); refine goesM (some 9) rfl rfl Try.func53 #[.slice A0_0 l0_0.length c0_0, .slice A1_0 l1_0.length c1_0] rfl ?_; (with_reducible refine (laws_eqStepS.calls k _ _ l0_0 _ _ l1_0 false _ ?side1 ?side2 ?side3 ?side4 A3.out).mono ?_); (case side1 => exact Cq (Kd.C_below HR0_0.out HB.out)); (case side2 => exact HC0_0.out); (case side3 => exact Cq (Kd.C_below HR1_0.out HB.out)); (case side4 => exact HC1_0.out); rintro e w16 ⟨rfl, hb⟩; refine ⟨_, rfl, ?_⟩; replace BK329 := bkb BK329 hb; replace BK330 := bkb BK330 hb; replace HB := bwb HB hb; (try clear hb); (try clear hb2); (try clear hk); (try clear hi)))
  go_ret
  exact ⟨by first | rfl | (simp [errW_none, errW_some] <;> rfl) | (simp [*, errW_none, errW_some] <;> rfl), bwq HB⟩
end Go.Proofs.Ytcgbbhkjkkpfoaa.P
namespace Go.Proofs.Ytcgbbhkjkkpfoaa.P
open Go.RowKit Go.Proofs.YtcgbbhkjkkpfoaaW.PrintWords Go.Proofs.YtcgbbhkjkkpfoaaW.PrintLast Go.Proofs.YtcgbbhkjkkpfoaaW.PrintMore
abbrev LStp := S90
theorem rdL {l : List LStp} {i : Nat} (h : i < l.length) : rd_T90 l (i : Int) = l[i] := by
 unfold rd_T90; rw [List.getD_eq_getElem?_getD, Int.toNat_natCast, List.getElem?_eq_getElem h, Option.getD_some]
def szSum : List LStp → Nat
 | [] => 0
 | s :: r => s.f5.length + szSum r
def ml : Nat := 9223372036854775807
theorem szStep_eq (s : LStp) (n : Int) (hn : 0 ≤ n) (hn2 : n ≤ 1048576) (hs : s.f5.length ≤ ml) :
  laws_szStep.f s.f0 s.f1 s.f2 s.f3.f0 s.f3.f1 s.f4.f0 s.f4.f1 s.f5 n = some (if n < (s.f5.length : Int) then -1 else n - s.f5.length) := by
 unfold ml at hs
 unfold laws_szStep.f laws_szIntS.f
 rw [wrapI (by omega) (by omega)]
 by_cases h : n < (s.f5.length : Int)
 ·rw [if_pos h, if_pos (by omega)]; rfl
 ·rw [if_neg h, if_neg (by omega)]; simp only [Option.bind_some]; rw [if_neg (by omega)]
theorem szStepS_ev (l : List LStp) (hl : l.length ≤ 1048576) (hs : ∀ s, s ∈ l → s.f5.length ≤ ml) : ∀ (d i : Nat) (n : Int), i + d = l.length → 0 ≤ n → n ≤ 1048576 →
  Ev (fun k => laws_szStepS.l0 k l n (i : Int)) (if n < (szSum (l.drop i) : Int) then -1 else n - szSum (l.drop i))
 | 0, i, n, hd, h0, h1 => by
  refine Ev.step (fun k => by rw [laws_szStepS.l0]) ?_
  rw [List.drop_eq_nil_of_le (by omega)]
  refine Ev.neg (by omega) (Ev.eq (Ev.now _) ?_)
  unfold szSum; rw [if_neg (by omega)]; omega
 | d + 1, i, n, hd, h0, h1 => by
  have hi : i < l.length := by omega
  refine Ev.step (fun k => by rw [laws_szStepS.l0]) ?_
  refine Ev.pos (by omega) (Ev.pos (by omega) ?_)
  rw [rdL hi]
  have e := szStep_eq l[i] n h0 h1 (hs _ (List.getElem_mem hi))
  refine Ev.bind (Ev.const e) ?_
  rw [drop_at hi]
  unfold szSum
  by_cases h : n < (l[i].f5.length : Int)
  ·rw [if_pos h]
   refine Ev.pos (by omega) (Ev.eq (Ev.now _) ?_)
   rw [if_pos (by omega)]
  ·rw [if_neg h]
   refine Ev.neg (by omega) ?_
   rw [wrapN (by omega)]
   refine Ev.eq (szStepS_ev l hl hs d (i + 1) _ (by omega) (by omega) (by omega)) ?_
   by_cases h2 : n - (l[i].f5.length : Int) < (szSum (l.drop (i + 1)) : Int)
   ·rw [if_pos h2, if_pos (by omega)]
   ·rw [if_neg h2, if_neg (by omega)]; omega
theorem szProg_ev (l : List LStp) (hl : l.length ≤ ml) (hs : ∀ s, s ∈ l → s.f5.length ≤ ml) (n : Int) (h0 : 0 ≤ n) (h1 : n ≤ 1048576) :
  Ev (fun k => laws_szProg.f k l n) (if n < (l.length + szSum l : Int) then -1 else n - (l.length + szSum l)) := by
 unfold ml at hl
 unfold laws_szProg.f laws_szStepS.f
 rw [wrapI (by omega) (by omega)]
 by_cases h : n - (l.length : Int) < 0
 ·refine Ev.bind (Ev.pos h (Ev.now _)) (Ev.pos (by omega) (Ev.eq (Ev.now _) ?_))
  rw [if_pos (by omega)]
 ·refine Ev.bind (Ev.neg h (szStepS_ev l (by omega) hs l.length 0 _ (by omega) (by omega) (by omega))) ?_
  rw [List.drop_zero]
  by_cases h2 : n - (l.length : Int) < (szSum l : Int)
  ·rw [if_pos h2]
   refine Ev.pos (by omega) (Ev.eq (Ev.now _) ?_)
   rw [if_pos (by omega)]
  ·rw [if_neg h2]
   refine Ev.neg (by omega) (Ev.eq (Ev.now _) ?_)
   rw [if_neg (by omega)]; omega
theorem szSum_mem : ∀ {l : List LStp} {s : LStp}, s ∈ l → s.f5.length ≤ szSum l
 | x :: l, s, h => by
  unfold szSum
  rcases List.mem_cons.1 h with rfl | h
  ·omega
  ·have := szSum_mem h; omega
theorem take_set {α : Type} {o : List α} {i : Nat} {x : α} (h : i < o.length) : (o.set i x).take (i + 1) = o.take i ++ [x] := by
 rw [List.take_add_one, List.take_set_of_le (Nat.le_refl i), List.getElem?_set_self h]; rfl
theorem toIntS_ev_l (l : List Int) (hl : l.length ≤ 35184372088832) : ∀ (d i : Nat) (o : List Int), i + d = l.length → o.length = l.length → o.take i = l.take i →
  Ev (fun k => laws_toIntS.l0 k l o (i : Int)) l
 | 0, i, o, hd, ho, ht => by
  refine Ev.step (fun k => by rw [laws_toIntS.l0]) ?_
  refine Ev.neg (by omega) (Ev.eq (Ev.now _) ?_)
  rwa [List.take_of_length_le (by omega), List.take_of_length_le (by omega)] at ht
 | d + 1, i, o, hd, ho, ht => by
  have hi : i < l.length := by omega
  refine Ev.step (fun k => by rw [laws_toIntS.l0]) ?_
  refine Ev.pos (by omega) (Ev.pos (by omega) (Ev.pos (by omega) ?_))
  rw [rdN hi, wrapN (by omega), Int.toNat_natCast]
  refine toIntS_ev_l l hl d (i + 1) _ (by omega) (by rw [List.length_set]; omega) ?_
  rw [take_set (by omega), ht, List.take_add_one, List.getElem?_eq_getElem hi]; rfl
theorem toIntS_ev (l : List Int) (hl : l.length ≤ 35184372088832) : Ev (fun k => laws_toIntS.f k l) l := by
 unfold laws_toIntS.f
 refine Ev.pos (by omega) (Ev.pos (by omega) ?_)
 exact toIntS_ev_l l hl l.length 0 _ (by omega) (by rw [List.length_replicate]; omega) (by simp)
def toS (s : LStp) : Stp := ⟨s.f0, s.f1, s.f2, ⟨s.f3.f0, s.f3.f1⟩, ⟨s.f4.f0, s.f4.f1⟩, s.f5⟩
theorem toStepS_ev_l (l : List LStp) (hl : l.length ≤ 1048576) (hs : ∀ s, s ∈ l → s.f5.length ≤ 1048576) : ∀ (d i : Nat) (o : List Stp), i + d = l.length → o.length = l.length → o.take i = (l.take i).map toS →
  Ev (fun k => laws_toStepS.l0 k l o (i : Int)) (l.map toS)
 | 0, i, o, hd, ho, ht => by
  refine Ev.step (fun k => by rw [laws_toStepS.l0]) ?_
  refine Ev.neg (by omega) (Ev.eq (Ev.now _) ?_)
  rwa [List.take_of_length_le (by omega), List.take_of_length_le (by omega)] at ht
 | d + 1, i, o, hd, ho, ht => by
  have hi : i < l.length := by omega
  refine Ev.step (fun k => by rw [laws_toStepS.l0]) ?_
  refine Ev.pos (by omega) (Ev.pos (by omega) ?_)
  rw [rdL hi, wrapN (by omega), Int.toNat_natCast]
  unfold laws_toStep.f laws_toOpnd.f
  refine Ev.bind (Ev.put (Ev.put (Ev.bind (toIntS_ev _ (by have := hs _ (List.getElem_mem hi); omega)) (Ev.now _)))) (Ev.pos (by omega) ?_)
  refine toStepS_ev_l l hl hs d (i + 1) _ (by omega) (by rw [List.length_set]; omega) ?_
  rw [take_set (by omega), ht, List.take_add_one, List.getElem?_eq_getElem hi, List.map_append]; rfl
theorem toProg_ev (l : List LStp) (hl : l.length ≤ 1048576) (hs : ∀ s, s ∈ l → s.f5.length ≤ 1048576) : Ev (fun k => laws_toProg.f k l) (l.map toS) := by
 unfold laws_toProg.f laws_toStepS.f
 refine Ev.bind (Ev.pos (by omega) (Ev.pos (by omega) ?_)) (Ev.now _)
 exact toStepS_ev_l l hl hs l.length 0 _ (by omega) (by rw [List.length_replicate]; omega) (by simp)
theorem eqIntS_refl_l (l : List Int) (hl : l.length ≤ 35184372088832) : ∀ (d i : Nat), i + d = l.length → Ev (fun k => laws_eqIntS.l0 k l l (i : Int)) true
 | 0, i, hd => by
  refine Ev.step (fun k => by rw [laws_eqIntS.l0]) ?_
  exact Ev.neg (by omega) (Ev.now _)
 | d + 1, i, hd => by
  refine Ev.step (fun k => by rw [laws_eqIntS.l0]) ?_
  refine Ev.pos (by omega) (Ev.pos (by omega) (Ev.pos (by omega) (Ev.pos rfl ?_)))
  rw [wrapN (by omega)]
  exact eqIntS_refl_l l hl d (i + 1) (by omega)
theorem eqIntS_refl (l : List Int) (hl : l.length ≤ 35184372088832) : Ev (fun k => laws_eqIntS.f k l l) true := by
 unfold laws_eqIntS.f
 exact Ev.pos rfl (eqIntS_refl_l l hl l.length 0 (by omega))
theorem eqStep_refl (s : Stp) (hs : s.f5.length ≤ 35184372088832) : Ev (fun k => laws_eqStep.f k s.f0 s.f1 s.f2 s.f3.f0 s.f3.f1 s.f4.f0 s.f4.f1 s.f5 s.f0 s.f1 s.f2 s.f3.f0 s.f3.f1 s.f4.f0 s.f4.f1 s.f5) true := by
 unfold laws_eqStep.f
 have e : ∀ a b, laws_eqOpnd.f a b a b = some true := fun a b => by unfold laws_eqOpnd.f; rw [if_pos rfl, if_pos rfl]
 refine Ev.pos rfl (Ev.pos rfl (Ev.pos rfl (Ev.bind (Ev.const (e _ _)) (Ev.pos rfl (Ev.bind (Ev.const (e _ _)) (Ev.pos rfl (Ev.bind (eqIntS_refl _ hs) (Ev.pos rfl (Ev.now _)))))))))
theorem eqStepS_refl_l (l : List Stp) (hl : l.length ≤ 35184372088832) (hs : ∀ s, s ∈ l → s.f5.length ≤ 35184372088832) : ∀ (d i : Nat), i + d = l.length → Ev (fun k => laws_eqStepS.l0 k l l (i : Int)) true
 | 0, i, hd => by
  refine Ev.step (fun k => by rw [laws_eqStepS.l0]) ?_
  exact Ev.neg (by omega) (Ev.now _)
 | d + 1, i, hd => by
  have hi : i < l.length := by omega
  refine Ev.step (fun k => by rw [laws_eqStepS.l0]) ?_
  refine Ev.pos (by omega) (Ev.pos (by omega) (Ev.pos (by omega) ?_))
  rw [rdS hi, wrapN (by omega)]
  exact Ev.bind (eqStep_refl l[i] (hs _ (List.getElem_mem hi))) (Ev.pos rfl (eqStepS_refl_l l hl hs d (i + 1) (by omega)))
theorem eqProg_refl (l : List Stp) (hl : l.length ≤ 35184372088832) (hs : ∀ s, s ∈ l → s.f5.length ≤ 35184372088832) : Ev (fun k => laws_eqProg.f k l l) true := by
 unfold laws_eqProg.f laws_eqStepS.f
 exact Ev.bind (Ev.pos rfl (eqStepS_refl_l l hl hs l.length 0 (by omega))) (Ev.pos rfl (Ev.now _))
theorem C_len {α : Type} {d : Kd α} {w : World} {A : Option Addr} {n : Nat} {l : List α} (h : d.C w A n l) : l.length ≤ ml := by have := h.1; have := h.2.1; unfold ml; omega
theorem lprog_few {w : World} {A : Option Addr} {l : List LStp} (h : Kd.C k90 w A l.length l) : ∀ s, s ∈ l → s.f5.length ≤ ml := fun s hs => by
 obtain ⟨i, hi, rfl⟩ := List.mem_iff_getElem.1 hs
 obtain ⟨ad, c, _, _, hK, _⟩ := Kd.C_get h z90 (i : Int) (by omega) (by omega)
 obtain ⟨A7, c7, _, _, g7⟩ := k90_open hK
 rw [Int.toNat_natCast, List.getD_eq_getElem?_getD, List.getElem?_eq_getElem hi, Option.getD_some] at g7
 exact C_len g7
theorem small_of {l : List LStp} (h : ¬ (if (1048576 : Int) < (l.length + szSum l : Int) then (-1 : Int) else 1048576 - (l.length + szSum l)) < 0) : l.length ≤ 1048576 ∧ ∀ s, s ∈ l → s.f5.length ≤ 1048576 := by
 by_cases c : (1048576 : Int) < (l.length + szSum l : Int)
 ·rw [if_pos c] at h; omega
 ·exact ⟨by omega, fun s hs => by have := szSum_mem hs; omega⟩
end Go.Proofs.Ytcgbbhkjkkpfoaa.P
namespace Go.Proofs.Ytcgbbhkjkkpfoaa.P
open Go.RowKit Go.Proofs.YtcgbbhkjkkpfoaaW.PrintWords Go.Proofs.YtcgbbhkjkkpfoaaW.PrintLast Go.Proofs.YtcgbbhkjkkpfoaaW.PrintMore
attribute [local go_sem] max2_int min2_int max_two min_two max_three min_three max_four min_four
def laws_toBoolS.l0 : Nat → List Bool → List Bool → Int → Option (List Bool)
 | 0, _, _, _ => none
 | k + 1, x0, x3, x4 => if x4 < (x0.length : Int) then (if 0 ≤ x4 then (if x4 < (x3.length : Int) then (laws_toBoolS.l0 k x0 (x3.set (x4 : Int).toNat (rdOf false x0 x4)) (wrap64 (x4 + 1))) else (none)) else (none)) else (some x3)
def laws_toBoolS.f (k : Nat) (l0 : List Bool) : Option (List Bool) := if 0 ≤ (l0.length : Int) then (if ((l0.length : Int) : Int).toNat ≤ 281474976710656 then (laws_toBoolS.l0 k l0 (List.replicate ((l0.length : Int) : Int).toNat false) 0) else (none)) else (none)
theorem laws_toBoolS.calls (k : Nat) (A0 : Option Addr) (c0 : Nat) (l0 : List Bool) (r : List Bool) (w : World) (hr0 : Kd.C Kd.bool w A0 l0.length l0) (hc0 : l0.length ≤ c0) (h : laws_toBoolS.f k l0 = some r) :
  Calls Try.prog 49 #[.slice A0 l0.length c0] w fun e w' => ∃ v0_ : Value, e = .returned (v0_) ∧ Kd.R Kd.bool 4 w' w.heap.size (fun _ => True) v0_ r ∧ Below w.heap.size w w' := by
 have HR0 := Aside0.mk hr0
 have HC0 := Aside0.mk hc0
 clear hr0 hc0
 have HB := Aside0.mk (Below.refl w.heap.size w)
 have H : (if 0 ≤ (l0.length : Int) then (if ((l0.length : Int) : Int).toNat ≤ 281474976710656 then (laws_toBoolS.l0 k l0 (List.replicate ((l0.length : Int) : Int).toNat false) 0) else (none)) else (none)) = some r := h
 clear h
 by_cases c2 : 0 ≤ (l0.length : Int)
 ·rw [if_pos c2] at H
  have c2b0 := eq_true c2
  have c2b1 : decide (0 ≤ (l0.length : Int)) = true := decide_eq_true c2
  clear c2
  by_cases c3 : ((l0.length : Int) : Int).toNat ≤ 281474976710656
  ·rw [if_pos c3] at H
   have c3b0 := eq_true c3
   have c3b1 : decide (((l0.length : Int) : Int).toNat ≤ 281474976710656) = true := decide_eq_true c3
   clear c3
   obtain ⟨y239, hy239⟩ : ∃ y_ : List Bool, y_ = (List.replicate ((l0.length : Int) : Int).toNat false) := ⟨_, rfl⟩
   replace H : (laws_toBoolS.l0 k l0 y239 0) = some r := by first | (rw [hy239]; with_reducible exact H) | (have H2_ := (Option.bind_some _ _).symm.trans H; rw [hy239]; with_reducible exact H2_) | (have H2_ := (Option.bind_some _ _).symm.trans H; with_reducible exact H2_) | with_reducible exact H | (rw [hy239]; exact H) | exact H
   have Ny239 := Aside0.mk hy239
   clear hy239
   have H' := Aside0.mk H
   clear H
   go_enter Try.func49, Try.ntmps49
   go_wp2_with (first | ((with_reducible refine gate_dst (N := 7) rfl ?_); refine Kd.R_make Kd.bool _ 4 rfl (N := 7) rfl 29 _ _ rfl (l0.length : Int) rfl rfl Try.underlying29 (.bool false) 1 info4 rfl (by decide) (by omega) false (ok := fun _ => True) (okp := fun _ => True) rfl (fun _ hk => hk) trivial (oda) (Nat.le_trans (Nat.mul_le_mul_right _ (oda : (l0.length : Int).toNat ≤ 281474976710656)) (by omega)) (Below.refl _ _) (Nat.le_refl _) ?_; intro v240 w4 ho5 hb hg_ hnew_; clear hg_ hnew_; (first | rw [← Ny239.out] at ho5 | (simp only [Int.reduceToNat] at ho5; rw [← Ny239.out] at ho5)); have HO241 := Aside0.mk (Kd.R_lower ho5 (below_size (bwq HB))); replace HB := bwb HB hb; clear hb ho5))
   go_loopg [4] k (fun kq v4 w' => ∃ (x3_1 : List Bool) (x4_1 : Int), v4 = .int .i64 x4_1 ∧ Aside0 (laws_toBoolS.l0 kq l0 x3_1 x4_1 = some r) ∧ Aside0 (kq ≤ k) ∧ Aside0 (Kd.R Kd.bool 4 w' w.heap.size (fun _ => True) v240 x3_1) ∧ Aside0 (Below w.heap.size w w'))
   case atStart => exact ⟨(y239), (0), (by first | rfl | (simp; done) | (simp [*]; done)), H', ⟨Nat.le_refl _⟩, ⟨Rq HO241.out⟩, ⟨bwq HB⟩⟩
   case round =>
    clear H'
    try clear c2
    try clear c2b0
    try clear c2b1
    try clear p2
    try clear c3
    try clear c3b0
    try clear c3b1
    try clear c4
    obtain ⟨x3_1, x4_1, rfl, HA, HK1, HO_3, HB⟩ := hrel
    cases gk with
    | zero => exact absurd HA.out (by intro h_; first | (cases h_; done) | (simp [laws_toBoolS.l0] at h_))
    | succ k1 =>
     have H := HA.out
     clear HA
     simp only [laws_toBoolS.l0] at H
     by_cases c6 : x4_1 < (l0.length : Int)
     ·rw [if_pos c6] at H
      have c6b0 : decide (x4_1 < (l0.length : Int)) = true := decide_eq_true c6
      clear c6
      by_cases c7 : 0 ≤ x4_1
      ·rw [if_pos c7] at H
       have c7b0 : decide (0 ≤ x4_1) = true := decide_eq_true c7
       clear c7
       by_cases c8 : x4_1 < (x3_1.length : Int)
       ·rw [if_pos c8] at H
        have c8b0 : decide (x4_1 < (x3_1.length : Int)) = true := decide_eq_true c8
        clear c8
        obtain ⟨y243, hy243⟩ : ∃ y_ : List Bool, y_ = (x3_1.set (x4_1 : Int).toNat (rdOf false l0 x4_1)) := ⟨_, rfl⟩
        replace H : (laws_toBoolS.l0 k1 l0 y243 (wrap64 (x4_1 + 1))) = some r := by first | (rw [hy243]; with_reducible exact H) | (have H2_ := (Option.bind_some _ _).symm.trans H; rw [hy243]; with_reducible exact H2_) | (have H2_ := (Option.bind_some _ _).symm.trans H; with_reducible exact H2_) | with_reducible exact H | (rw [hy243]; exact H) | exact H
        have Ny243 := Aside0.mk hy243
        clear hy243
        have H' := Aside0.mk H
        clear H
        have p242 : 0 ≤ (x4_1 : Int) := oda
        have q242 : x4_1 < (l0.length : Int) := oda
        obtain ⟨ad242, e242, hx242_0⟩ := Kd.at_bool HR0.out x4_1 p242 q242
        cases e242
        replace hx242_0 := hxb HB hx242_0
        replace p242 := eq_true p242
        replace q242 := eq_true q242
        have p9 : 0 ≤ (x4_1 : Int) := oda
        have q9 : (x4_1 : Int) < ((x3_1.length : Int) : Int) := oda
        obtain ⟨go9, co9, eo9, gb9, gl9, cl9, HG9⟩ := Kd.R_form HO_3.out (by omega)
        (first | cases eo9 | (injection eo9 with ea_ en_ ec_; (first | subst ea_ | (injection ea_ with ea_; subst ea_)); subst ec_; clear en_))
        have GB9 := Aside0.mk gb9
        have GG9 := Aside0.mk HG9
        clear gb9 gl9 HG9
        obtain ⟨hx9_0, hf9_0⟩ := Kd.R_celln false HO_3.out (x4_1 : Int) p9 q9
        replace p9 := eq_true p9
        replace q9 := eq_true q9
        have HP10 := Kd.R_putg HO_3.out (x4_1 : Int) (rdOf false l0 x4_1)
        go_wp2_with (first | ((with_reducible refine gate_store (t := 4) (p := 20) rfl ?_); refine store_event (t := 4) (p := 20) (v := ?vo_w11) (w1 := (wr.setCell ⟨go9, (x4_1 : Int).toNat, none⟩ (.bool (rdOf false l0 x4_1)))) ?hg ?ho ?hn ?hr ?_; (case ho => rfl); (case hg => rfl); (case hn => rfl); (case hr => first | (go_simp; done) | (go_simp; rfl) | (go_simp; rfl)); intro w11 hw; have hg : wr.grownBy w11 (some go9) := (by rw [hw]; exact HP10.2); have hp_ : Kd.R Kd.bool 4 w11 w.heap.size (fun _ => True) (.slice (some ⟨go9, 0, none⟩) x3_1.length co9) y243 := (by rw [hw, Ny243.out]; exact HP10.1); clear HP10; replace HO_3 := Aside0.mk (hp_); replace HB := Aside0.mk ((by rw [hw]; exact below_set (HB.out) GB9.out : Below w.heap.size w w11)); clear hg hw hp_))
        go_roundg k1
        case measure => have := HK1.out; omega
        case rel => exact ⟨(y243), (wrap64 (x4_1 + 1)), (by first | rfl | (simp; done) | (simp [*]; done)), H', ⟨by have := HK1.out; omega⟩, ⟨Rq HO_3.out⟩, ⟨bwq HB⟩⟩
       ·rw [if_neg c8] at H
        exact absurd H (by simp)
      ·rw [if_neg c7] at H
       exact absurd H (by simp)
     ·rw [if_neg c6] at H
      have c6b0 : decide (x4_1 < (l0.length : Int)) = false := decide_eq_false c6
      clear c6
      obtain rfl := Option.some.inj H
      go_wp2
      go_ret
      exact ⟨_, by first | rfl | (simp [errW_none, errW_some] <;> rfl) | (simp [*, errW_none, errW_some] <;> rfl), Rq HO_3.out, bwq HB⟩
  ·rw [if_neg c3] at H
   exact absurd H (by simp)
 ·rw [if_neg c2] at H
  exact absurd H (by simp)
def laws_eqBoolS.l0 : Nat → List Bool → List Bool → Int → Option (Bool)
 | 0, _, _, _ => none
 | k + 1, x0, x1, x5 => if x5 < (x0.length : Int) then (if 0 ≤ x5 then (if x5 < (x1.length : Int) then (if ((rdOf false x0 x5) != (rdOf false x1 x5)) = true then (some false) else (laws_eqBoolS.l0 k x0 x1 (wrap64 (x5 + 1)))) else (none)) else (none)) else (some true)
def laws_eqBoolS.f (k : Nat) (l0 : List Bool) (l1 : List Bool) : Option (Bool) := if (l0.length : Int) = (l1.length : Int) then (laws_eqBoolS.l0 k l0 l1 0) else (some false)
theorem laws_eqBoolS.calls (k : Nat) (A0 : Option Addr) (c0 : Nat) (l0 : List Bool) (A1 : Option Addr) (c1 : Nat) (l1 : List Bool) (r : Bool) (w : World) (hr0 : Kd.C Kd.bool w A0 l0.length l0) (hc0 : l0.length ≤ c0) (hr1 : Kd.C Kd.bool w A1 l1.length l1) (hc1 : l1.length ≤ c1) (h : laws_eqBoolS.f k l0 l1 = some r) :
  Calls Try.prog 24 #[.slice A0 l0.length c0, .slice A1 l1.length c1] w fun e w' => e = .returned (.bool r) ∧ Drawn0 w w' := by
 have HR0 := Aside0.mk hr0
 have HC0 := Aside0.mk hc0
 clear hr0 hc0
 have HR1 := Aside0.mk hr1
 have HC1 := Aside0.mk hc1
 clear hr1 hc1
 have H : (if (l0.length : Int) = (l1.length : Int) then (laws_eqBoolS.l0 k l0 l1 0) else (some false)) = some r := h
 clear h
 by_cases c3 : (l0.length : Int) = (l1.length : Int)
 ·rw [if_pos c3] at H
  have c3b0 : ((l0.length : Int) == (l1.length : Int)) = true := beq_iff_eq.mpr c3
  have c3b1 : ((l0.length : Int) != (l1.length : Int)) = false := bne_eq_false_iff_eq.mpr c3
  have c3b2 : (l0.length == l1.length) = true := by first | simpa using c3 | (simp at c3 ⊢; omega)
  clear c3
  have H' := Aside0.mk H
  clear H
  go_enter Try.func24, Try.ntmps24
  go_wp2
  repeat (go_quiet (fail); try go_wp2)
  go_loopg [5] k (fun kq v5 w' => ∃ (x5_1 : Int), v5 = .int .i64 x5_1 ∧ Aside0 (laws_eqBoolS.l0 kq l0 l1 x5_1 = some r) ∧ Aside0 (kq ≤ k) ∧ Drawn0 w w')
  case atStart => exact ⟨(0), (by first | rfl | (simp; done) | (simp [*]; done)), H', ⟨Nat.le_refl _⟩, by repeat (first | exact Drawn0.refl _ | apply Drawn0.step)⟩
  case round =>
   clear H'
   try clear c1
   try clear c2
   try clear p2
   try clear c3
   try clear c3b0
   try clear c3b1
   try clear c3b2
   obtain ⟨x5_1, rfl, HA, HK1, ⟨m1, rfl⟩⟩ := hrel
   cases gk with
   | zero => exact absurd HA.out (by intro h_; first | (cases h_; done) | (simp [laws_eqBoolS.l0] at h_))
   | succ k1 =>
    have H := HA.out
    clear HA
    simp only [laws_eqBoolS.l0] at H
    by_cases c4 : x5_1 < (l0.length : Int)
    ·rw [if_pos c4] at H
     have c4b0 : decide (x5_1 < (l0.length : Int)) = true := decide_eq_true c4
     clear c4
     by_cases c5 : 0 ≤ x5_1
     ·rw [if_pos c5] at H
      have c5b0 : decide (0 ≤ x5_1) = true := decide_eq_true c5
      clear c5
      by_cases c6 : x5_1 < (l1.length : Int)
      ·rw [if_pos c6] at H
       have c6b0 : decide (x5_1 < (l1.length : Int)) = true := decide_eq_true c6
       clear c6
       by_cases c7 : ((rdOf false l0 x5_1) != (rdOf false l1 x5_1)) = true
       ·rw [if_pos c7] at H
        have c7b0 : ((rdOf false l0 x5_1) != (rdOf false l1 x5_1)) = true := c7
        (try (have c7b1 : decide ((rdOf false l0 x5_1) = (rdOf false l1 x5_1)) = false := by simpa using c7))
        (try (have c7b2 : ((rdOf false l0 x5_1) == (rdOf false l1 x5_1)) = false := by simpa using c7))
        (try (have c7b3 : ¬ ((rdOf false l0 x5_1) = (rdOf false l1 x5_1)) := by simpa using c7))
        clear c7
        obtain rfl := Option.some.inj H
        have p332 : 0 ≤ (x5_1 : Int) := oda
        have q332 : x5_1 < (l0.length : Int) := oda
        obtain ⟨ad332, e332, hx332_0⟩ := Kd.at_bool HR0.out x5_1 p332 q332
        cases e332
        replace p332 := eq_true p332
        replace q332 := eq_true q332
        have p333 : 0 ≤ (x5_1 : Int) := oda
        have q333 : x5_1 < (l1.length : Int) := oda
        obtain ⟨ad333, e333, hx333_0⟩ := Kd.at_bool HR1.out x5_1 p333 q333
        cases e333
        replace p333 := eq_true p333
        replace q333 := eq_true q333
        go_wp2
        repeat (go_quiet (fail); try go_wp2)
        go_ret
        exact ⟨by first | rfl | (simp; done) | (simp [*]; done), by repeat (first | exact Drawn0.refl _ | apply Drawn0.step)⟩
       ·rw [if_neg c7] at H
        have c7b0 : ((rdOf false l0 x5_1) != (rdOf false l1 x5_1)) = false := by simpa using c7
        (try (have c7b1 : decide ((rdOf false l0 x5_1) = (rdOf false l1 x5_1)) = true := by simpa using c7))
        (try (have c7b2 : ((rdOf false l0 x5_1) == (rdOf false l1 x5_1)) = true := by simpa using c7))
        clear c7
        have H' := Aside0.mk H
        clear H
        have p332 : 0 ≤ (x5_1 : Int) := oda
        have q332 : x5_1 < (l0.length : Int) := oda
        obtain ⟨ad332, e332, hx332_0⟩ := Kd.at_bool HR0.out x5_1 p332 q332
        cases e332
        replace p332 := eq_true p332
        replace q332 := eq_true q332
        have p333 : 0 ≤ (x5_1 : Int) := oda
        have q333 : x5_1 < (l1.length : Int) := oda
        obtain ⟨ad333, e333, hx333_0⟩ := Kd.at_bool HR1.out x5_1 p333 q333
        cases e333
        replace p333 := eq_true p333
        replace q333 := eq_true q333
        go_wp2
        repeat (go_quiet (fail); try go_wp2)
        go_roundg k1
        case measure => have := HK1.out; omega
        case rel => exact ⟨(wrap64 (x5_1 + 1)), (by first | rfl | (simp; done) | (simp [*]; done)), H', ⟨by have := HK1.out; omega⟩, by repeat (first | exact Drawn0.refl _ | apply Drawn0.step)⟩
      ·rw [if_neg c6] at H
       exact absurd H (by simp)
     ·rw [if_neg c5] at H
      exact absurd H (by simp)
    ·rw [if_neg c4] at H
     have c4b0 : decide (x5_1 < (l0.length : Int)) = false := decide_eq_false c4
     clear c4
     obtain rfl := Option.some.inj H
     go_wp2
     repeat (go_quiet (fail); try go_wp2)
     go_ret
     exact ⟨by first | rfl | (simp; done) | (simp [*]; done), by repeat (first | exact Drawn0.refl _ | apply Drawn0.step)⟩
 ·rw [if_neg c3] at H
  have c3b0 : ((l0.length : Int) == (l1.length : Int)) = false := beq_eq_false_iff_ne.mpr c3
  have c3b1 : ((l0.length : Int) != (l1.length : Int)) = true := bne_iff_ne.mpr c3
  have c3b2 : (l0.length == l1.length) = false := by first | simpa using c3 | (simp at c3 ⊢; omega)
  obtain rfl := Option.some.inj H
  go_enter Try.func24, Try.ntmps24
  go_wp2
  repeat (go_quiet (fail); try go_wp2)
  go_ret
  exact ⟨by first | rfl | (simp; done) | (simp [*]; done), by repeat (first | exact Drawn0.refl _ | apply Drawn0.step)⟩
end Go.Proofs.Ytcgbbhkjkkpfoaa.P
namespace Go.Proofs.Ytcgbbhkjkkpfoaa.P
open Go.RowKit Go.Proofs.YtcgbbhkjkkpfoaaW.PrintWords Go.Proofs.YtcgbbhkjkkpfoaaW.PrintLast Go.Proofs.YtcgbbhkjkkpfoaaW.PrintMore
theorem toBoolS_ev_l (l : List Bool) (hl : l.length ≤ 35184372088832) : ∀ (d i : Nat) (o : List Bool), i + d = l.length → o.length = l.length → o.take i = l.take i →
  Ev (fun k => laws_toBoolS.l0 k l o (i : Int)) l
 | 0, i, o, hd, ho, ht => by
  refine Ev.step (fun k => by rw [laws_toBoolS.l0]) ?_
  refine Ev.neg (by omega) (Ev.eq (Ev.now _) ?_)
  rwa [List.take_of_length_le (by omega), List.take_of_length_le (by omega)] at ht
 | d + 1, i, o, hd, ho, ht => by
  have hi : i < l.length := by omega
  refine Ev.step (fun k => by rw [laws_toBoolS.l0]) ?_
  refine Ev.pos (by omega) (Ev.pos (by omega) (Ev.pos (by omega) ?_))
  rw [rdB hi, wrapN (by omega), Int.toNat_natCast]
  refine toBoolS_ev_l l hl d (i + 1) _ (by omega) (by rw [List.length_set]; omega) ?_
  rw [take_set (by omega), ht, List.take_add_one, List.getElem?_eq_getElem hi]; rfl
theorem toBoolS_ev (l : List Bool) (hl : l.length ≤ 35184372088832) : Ev (fun k => laws_toBoolS.f k l) l := by
 unfold laws_toBoolS.f
 refine Ev.pos (by omega) (Ev.pos (by omega) ?_)
 exact toBoolS_ev_l l hl l.length 0 _ (by omega) (by rw [List.length_replicate]; omega) (by simp)
theorem eqBoolS_refl_l (l : List Bool) (hl : l.length ≤ 35184372088832) : ∀ (d i : Nat), i + d = l.length → Ev (fun k => laws_eqBoolS.l0 k l l (i : Int)) true
 | 0, i, hd => Ev.step (fun k => by rw [laws_eqBoolS.l0]) (Ev.neg (by omega) (Ev.now _))
 | d + 1, i, hd => by
  refine Ev.step (fun k => by rw [laws_eqBoolS.l0]) ?_
  refine Ev.pos (by omega) (Ev.pos (by omega) (Ev.pos (by omega) (Ev.neg (by simp) ?_)))
  rw [wrapN (by omega)]
  exact eqBoolS_refl_l l hl d (i + 1) (by omega)
theorem eqBoolS_refl (l : List Bool) (hl : l.length ≤ 35184372088832) : Ev (fun k => laws_eqBoolS.f k l l) true := by
 unfold laws_eqBoolS.f
 exact Ev.pos rfl (eqBoolS_refl_l l hl l.length 0 (by omega))
def Tests1 (q : Int → Bool) (g : FuncId) (cap : Array Value) (l : List Int) (w0 : World) : Prop :=
 ∀ w1, Below w0.heap.size w0 w1 → ∀ x, x ∈ l → CallsV Try.prog (.func (.func g) #[] cap) #[.int .i64 x] w1 fun e w2 => e = .returned (.bool (q x)) ∧ Below w1.heap.size w1 w2
def idxInt (q : Int → Bool) : Nat → List Int → Int → Option Int
 | 0, _, _ => none
 | k + 1, l, i => if i < (l.length : Int) then (if 0 ≤ i then (if q (rd l i) = true then some i else idxInt q k l (wrap64 (i + 1))) else none) else some (-1)
theorem indexFunc_int (q : Int → Bool) (g : FuncId) (cap : Array Value) (k : Nat) (A0 : Option Addr) (c0 : Nat) (l0 : List Int) (r : Int) (w : World) (hr0 : Kd.C (Kd.int .i64) w A0 l0.length l0)
  (hf : Tests1 q g cap l0 w) (h : idxInt q k l0 0 = some r) :
  Calls Try.prog 91 #[.slice A0 l0.length c0, .func (.func g) #[] cap] w fun e w' => e = .returned (.int .i64 r) ∧ Below w.heap.size w w' := by
 have HR0 := Aside0.mk hr0
 have HF := Aside0.mk hf
 clear hr0 hf
 have H' := Aside0.mk h
 clear h
 go_enter Try.func91, Try.ntmps91
 go_wp2
 go_loopg [8] k (fun kq v8 w' => ∃ (x8 : Int), v8 = .int .i64 x8 ∧ Aside0 (idxInt q kq l0 x8 = some r) ∧ Aside0 (Below w.heap.size w w'))
 case atStart => exact ⟨0, rfl, H', ⟨Below.refl _ _⟩⟩
 case round =>
  clear H'
  obtain ⟨x8, rfl, HA, HB⟩ := hrel
  cases gk with
  | zero => exact absurd HA.out (by simp [idxInt])
  | succ k1 =>
   have H := HA.out
   clear HA
   simp only [idxInt] at H
   by_cases c3 : x8 < (l0.length : Int)
   ·rw [if_pos c3] at H
    have c3b0 : decide (x8 < (l0.length : Int)) = true := decide_eq_true c3
    by_cases c4 : 0 ≤ x8
    ·rw [if_pos c4] at H
     have c4b0 : decide (0 ≤ x8) = true := decide_eq_true c4
     obtain ⟨ad, e0, hx⟩ := Kd.at_int HR0.out x8 c4 c3
     cases e0
     replace hx := (HB.out.cell (World.block_lt_of_cell? w _ hx)).trans hx
     have HM : Aside0 (rd l0 x8 ∈ l0) := ⟨by unfold rd; rw [List.getD_eq_getElem?_getD, List.getElem?_eq_getElem (show x8.toNat < l0.length by omega)]; exact List.getElem_mem _⟩
     replace c3 := eq_true c3
     replace c4 := eq_true c4
     have HC := Aside0.mk (HF.out _ HB.out _ HM.out)
     by_cases c5 : q (rd l0 x8) = true
     ·rw [if_pos c5] at H
      rw [c5] at HC
      clear c5
      obtain rfl := Option.some.inj H
      go_wp2_with (first | ((with_reducible refine gate_value (x := 11) rfl ?_); refine goesV_ (some 16) rfl rfl (.func (.func g) #[] cap) #[.int .i64 (rd l0 x8)] rfl rfl (by simp only [List.map_toArray, List.map_cons, List.map_nil]; rfl) ?_; refine HC.out.mono ?_; rintro e w1 ⟨rfl, hb⟩; refine ⟨_, rfl, ?_⟩; have HB1 := Aside0.mk (below_step HB.out hb); clear hb))
      go_ret
      exact ⟨rfl, HB1.out⟩
     ·rw [if_neg c5] at H
      rw [show q (rd l0 x8) = false by simpa using c5] at HC
      have H' := Aside0.mk H
      clear H c5
      go_wp2_with (first | ((with_reducible refine gate_value (x := 11) rfl ?_); refine goesV_ (some 16) rfl rfl (.func (.func g) #[] cap) #[.int .i64 (rd l0 x8)] rfl rfl (by simp only [List.map_toArray, List.map_cons, List.map_nil]; rfl) ?_; refine HC.out.mono ?_; rintro e w1 ⟨rfl, hb⟩; refine ⟨_, rfl, ?_⟩; have HB1 := Aside0.mk (below_step HB.out hb); clear hb))
      go_roundg k1
      case measure => omega
      case rel => exact ⟨wrap64 (x8 + 1), (by first | rfl | (simp; done) | (simp [*]; done)), H', HB1⟩
    ·rw [if_neg c4] at H
     exact absurd H (by simp)
   ·rw [if_neg c3] at H
    have c3b0 : decide (x8 < (l0.length : Int)) = false := decide_eq_false c3
    clear c3
    obtain rfl := Option.some.inj H
    go_wp2
    go_ret
    exact ⟨rfl, HB.out⟩
theorem wrap64_id {x : Int} (h0 : -9223372036854775808 ≤ x) (h1 : x ≤ 9223372036854775807) : wrap64 x = x := by unfold wrap64; omega
def idxI (q : Int → Bool) : List Int → Int → Int
 | [], _ => -1
 | x :: l, i => if q x = true then i else idxI q l (i + 1)
theorem idxInt_eq (q : Int → Bool) (l : List Int) (hl : l.length ≤ 140737488355328) : ∀ (s : List Int) (i : Nat), l.drop i = s → i ≤ l.length → idxInt q (s.length + 1) l (i : Int) = some (idxI q s (i : Int))
 | [], i, hs, hi => by
  have : l.length ≤ i := by simpa [List.drop_eq_nil_iff] using hs
  simp only [idxInt]
  rw [if_neg (by omega)]
  rfl
 | x :: s, i, hs, hi => by
  have hlt : i < l.length := Nat.lt_of_not_le fun c => by rw [List.drop_eq_nil_of_le c] at hs; cases hs
  have hx : l[i] = x := by
   have := List.drop_eq_getElem_cons hlt
   rw [hs] at this
   injection this with h1 _
   exact h1.symm
  have hr : rd l (i : Int) = x := by unfold rd; rw [List.getD_eq_getElem?_getD, Int.toNat_natCast, List.getElem?_eq_getElem hlt, Option.getD_some, hx]
  have ht : l.drop (i + 1) = s := by rw [← List.drop_drop, hs]; rfl
  rw [show (x :: s).length + 1 = (s.length + 1) + 1 from rfl]
  simp only [idxInt, idxI]
  rw [if_pos (by omega), if_pos (by omega), hr]
  by_cases hq : q x = true
  ·rw [if_pos hq, if_pos hq]
  ·rw [if_neg hq, if_neg hq, wrap64_id (by omega) (by omega), show (i : Int) + 1 = ((i + 1 : Nat) : Int) by omega]
   exact idxInt_eq q l hl s (i + 1) ht (by omega)
theorem idxI_any (q : Int → Bool) : ∀ (l : List Int) (i : Int), 0 ≤ i → decide (idxI q l i ≥ 0) = l.any q
 | [], i, _ => rfl
 | x :: l, i, h => by
  unfold idxI
  by_cases hq : q x = true
  ·simp [hq, h]
  ·rw [if_neg hq, idxI_any q l (i + 1) (by omega)]; simp [hq]
theorem containsFunc_int (q : Int → Bool) (g : FuncId) (cap : Array Value) (A0 : Option Addr) (c0 : Nat) (l0 : List Int) (w : World) (hr0 : Kd.C (Kd.int .i64) w A0 l0.length l0) (hl : l0.length ≤ 140737488355328)
  (hf : Tests1 q g cap l0 w) :
  Calls Try.prog 54 #[.slice A0 l0.length c0, .func (.func g) #[] cap] w fun e w' => e = .returned (.bool (l0.any q)) ∧ Below w.heap.size w w' := by
 have HC := Aside0.mk (indexFunc_int q g cap _ A0 c0 l0 _ w hr0 hf (idxInt_eq q l0 hl l0 0 (List.drop_zero) (Nat.zero_le _)))
 have e1 := idxI_any q l0 0 (Int.le_refl 0)
 rw [← e1]
 clear e1 hf hr0 hl
 go_enter Try.func54, Try.ntmps54
 go_wp2_with (first | ((with_reducible refine gate_callee (f := 91) rfl ?_); refine goesM (some 7) rfl rfl Try.func91 #[.slice A0 l0.length c0, .func (.func g) #[] cap] rfl ?_; refine HC.out.mono ?_; rintro e w1 ⟨rfl, hb⟩; refine ⟨_, rfl, ?_⟩; have HB1 := Aside0.mk hb; clear hb))
 go_ret
 exact ⟨by simp, HB1.out⟩
def TestsQ (q : Int → Bool) (g : FuncId) (cap : Array Value) (l : List Int) (w0 : World) : Prop :=
 ∀ n x, x ∈ l → CallsV Try.prog (.func (.func g) #[] cap) #[.int .i64 x] (w0.drewN n) fun e w2 => e = .returned (.bool (q x)) ∧ Drawn0 (w0.drewN n) w2
theorem indexFunc_intQ (q : Int → Bool) (g : FuncId) (cap : Array Value) (k : Nat) (A0 : Option Addr) (c0 : Nat) (l0 : List Int) (r : Int) (w : World) (hr0 : Kd.C (Kd.int .i64) w A0 l0.length l0)
  (hf : TestsQ q g cap l0 w) (h : idxInt q k l0 0 = some r) :
  Calls Try.prog 91 #[.slice A0 l0.length c0, .func (.func g) #[] cap] w fun e w' => e = .returned (.int .i64 r) ∧ Drawn0 w w' := by
 have HR0 := Aside0.mk hr0
 have HF := Aside0.mk hf
 clear hr0 hf
 have H' := Aside0.mk h
 clear h
 go_enter Try.func91, Try.ntmps91
 go_wp2
 go_loopg [8] k (fun kq v8 w' => ∃ (x8 : Int), v8 = .int .i64 x8 ∧ Aside0 (idxInt q kq l0 x8 = some r) ∧ Drawn0 w w')
 case atStart => exact ⟨0, rfl, H', Drawn0.refl _⟩
 case round =>
  clear H'
  obtain ⟨x8, rfl, HA, ⟨m1, rfl⟩⟩ := hrel
  cases gk with
  | zero => exact absurd HA.out (by simp [idxInt])
  | succ k1 =>
   have H := HA.out
   clear HA
   simp only [idxInt] at H
   by_cases c3 : x8 < (l0.length : Int)
   ·rw [if_pos c3] at H
    have c3b0 : decide (x8 < (l0.length : Int)) = true := decide_eq_true c3
    by_cases c4 : 0 ≤ x8
    ·rw [if_pos c4] at H
     have c4b0 : decide (0 ≤ x8) = true := decide_eq_true c4
     obtain ⟨ad, e0, hx⟩ := Kd.at_int HR0.out x8 c4 c3
     cases e0
     have HM : Aside0 (rd l0 x8 ∈ l0) := ⟨by unfold rd; rw [List.getD_eq_getElem?_getD, List.getElem?_eq_getElem (show x8.toNat < l0.length by omega)]; exact List.getElem_mem _⟩
     replace c3 := eq_true c3
     replace c4 := eq_true c4
     have HC := Aside0.mk (HF.out m1 _ HM.out)
     by_cases c5 : q (rd l0 x8) = true
     ·rw [if_pos c5] at H
      rw [c5] at HC
      clear c5
      obtain rfl := Option.some.inj H
      go_wp2_with (first | ((with_reducible refine gate_value (x := 11) rfl ?_); refine goesV_ (some 16) rfl rfl (.func (.func g) #[] cap) #[.int .i64 (rd l0 x8)] rfl rfl (by simp only [List.map_toArray, List.map_cons, List.map_nil]; rfl) ?_; refine HC.out.mono ?_; rintro e w1 ⟨rfl, ⟨m2, rfl⟩⟩; refine ⟨_, rfl, ?_⟩))
      go_ret
      exact ⟨rfl, (by repeat (first | exact Drawn0.refl _ | apply Drawn0.step))⟩
     ·rw [if_neg c5] at H
      rw [show q (rd l0 x8) = false by simpa using c5] at HC
      have H' := Aside0.mk H
      clear H c5
      go_wp2_with (first | ((with_reducible refine gate_value (x := 11) rfl ?_); refine goesV_ (some 16) rfl rfl (.func (.func g) #[] cap) #[.int .i64 (rd l0 x8)] rfl rfl (by simp only [List.map_toArray, List.map_cons, List.map_nil]; rfl) ?_; refine HC.out.mono ?_; rintro e w1 ⟨rfl, ⟨m2, rfl⟩⟩; refine ⟨_, rfl, ?_⟩))
      go_roundg k1
      case measure => omega
      case rel => exact ⟨wrap64 (x8 + 1), (by first | rfl | (simp; done) | (simp [*]; done)), H', (by repeat (first | exact Drawn0.refl _ | apply Drawn0.step))⟩
    ·rw [if_neg c4] at H
     exact absurd H (by simp)
   ·rw [if_neg c3] at H
    have c3b0 : decide (x8 < (l0.length : Int)) = false := decide_eq_false c3
    clear c3
    obtain rfl := Option.some.inj H
    go_wp2
    go_ret
    exact ⟨rfl, (by repeat (first | exact Drawn0.refl _ | apply Drawn0.step))⟩
theorem containsFunc_intQ (q : Int → Bool) (g : FuncId) (cap : Array Value) (A0 : Option Addr) (c0 : Nat) (l0 : List Int) (w : World) (hr0 : Kd.C (Kd.int .i64) w A0 l0.length l0) (hl : l0.length ≤ 140737488355328)
  (hf : TestsQ q g cap l0 w) :
  Calls Try.prog 54 #[.slice A0 l0.length c0, .func (.func g) #[] cap] w fun e w' => e = .returned (.bool (l0.any q)) ∧ Drawn0 w w' := by
 have HC := Aside0.mk (indexFunc_intQ q g cap _ A0 c0 l0 _ w hr0 hf (idxInt_eq q l0 hl l0 0 (List.drop_zero) (Nat.zero_le _)))
 have e1 := idxI_any q l0 0 (Int.le_refl 0)
 rw [← e1]
 clear e1 hf hr0 hl
 go_enter Try.func54, Try.ntmps54
 go_wp2_with (first | ((with_reducible refine gate_callee (f := 91) rfl ?_); refine goesM (some 7) rfl rfl Try.func91 #[.slice A0 l0.length c0, .func (.func g) #[] cap] rfl ?_; refine HC.out.mono ?_; rintro e w1 ⟨rfl, ⟨m2, rfl⟩⟩; refine ⟨_, rfl, ?_⟩))
 go_ret
 exact ⟨by simp, (by repeat (first | exact Drawn0.refl _ | apply Drawn0.step))⟩
end Go.Proofs.Ytcgbbhkjkkpfoaa.P
namespace Go.Proofs.Ytcgbbhkjkkpfoaa.P
open Go.RowKit Go.Proofs.YtcgbbhkjkkpfoaaW.PrintWords Go.Proofs.YtcgbbhkjkkpfoaaW.PrintLast Go.Proofs.YtcgbbhkjkkpfoaaW.PrintMore
attribute [local go_sem] max2_int min2_int max_two min_two max_three min_three max_four min_four
def impl_in.f (a0 : Int) (a1 : Int) (a2 : Int) : Option (Bool) := if a1 ≤ a0 then (some (decide (a0 ≤ a2))) else (some false)
theorem impl_in.calls (a0 : Int) (a1 : Int) (a2 : Int) (r : Bool) (w : World) (h : impl_in.f a0 a1 a2 = some r) :
  Calls Try.prog 88 #[.int .i64 a0, .int .i64 a1, .int .i64 a2] w fun e w' => e = .returned (.bool r) ∧ Drawn0 w w' := by
 have H : (if a1 ≤ a0 then (some (decide (a0 ≤ a2))) else (some false)) = some r := h
 clear h
 by_cases c4 : a1 ≤ a0
 ·rw [if_pos c4] at H
  have c4b0 : decide (a1 ≤ a0) = true := decide_eq_true c4
  clear c4
  obtain rfl := Option.some.inj H
  go_enter Try.func88, Try.ntmps88
  go_wp2
  go_ret
  exact ⟨by first | rfl | (simp; done) | (simp [*]; done), by repeat (first | exact Drawn0.refl _ | apply Drawn0.step)⟩
 ·rw [if_neg c4] at H
  have c4b0 : decide (a1 ≤ a0) = false := decide_eq_false c4
  clear c4
  obtain rfl := Option.some.inj H
  go_enter Try.func88, Try.ntmps88
  go_wp2
  go_ret
  exact ⟨by first | rfl | (simp; done) | (simp [*]; done), by repeat (first | exact Drawn0.refl _ | apply Drawn0.step)⟩
def impl_isOp.f (a0 : Int) : Option (Bool) := (impl_in.f a0 1 4).bind fun t253 => (some t253)
theorem impl_isOp.calls (a0 : Int) (r : Bool) (w : World) (h : impl_isOp.f a0 = some r) :
  Calls Try.prog 115 #[.int .i64 a0] w fun e w' => e = .returned (.bool r) ∧ Drawn0 w w' := by
 have H : ((impl_in.f a0 1 4).bind fun t253 => (some t253)) = some r := h
 clear h
 replace H := Option.bind_eq_some_iff.mp H
 obtain ⟨t253, A20, H⟩ := H
 have A2 := Aside0.mk A20
 clear A20
 obtain rfl := Option.some.inj H
 go_enter Try.func115, Try.ntmps115
 go_wp2_with (first | ((with_reducible refine gate_callee (f := 88) rfl ?_); refine goesM (some 4) rfl rfl Try.func88 #[.int .i64 a0, .int .i64 1, .int .i64 4] rfl ?_; (with_reducible refine (impl_in.calls a0 1 4 t253 _ A2.out).mono ?_); rintro e w' ⟨rfl, ⟨nd, rfl⟩⟩; refine ⟨_, rfl, ?_⟩))
 go_ret
 exact ⟨by first | rfl | (simp; done) | (simp [*]; done), by repeat (first | exact Drawn0.refl _ | apply Drawn0.step)⟩
def impl_isVar.f (a0 : Int) : Option (Bool) := (impl_in.f a0 0 11).bind fun t254 => (some t254)
theorem impl_isVar.calls (a0 : Int) (r : Bool) (w : World) (h : impl_isVar.f a0 = some r) :
  Calls Try.prog 133 #[.int .i64 a0] w fun e w' => e = .returned (.bool r) ∧ Drawn0 w w' := by
 have H : ((impl_in.f a0 0 11).bind fun t254 => (some t254)) = some r := h
 clear h
 replace H := Option.bind_eq_some_iff.mp H
 obtain ⟨t254, A20, H⟩ := H
 have A2 := Aside0.mk A20
 clear A20
 obtain rfl := Option.some.inj H
 go_enter Try.func133, Try.ntmps133
 go_wp2_with (first | ((with_reducible refine gate_callee (f := 88) rfl ?_); refine goesM (some 4) rfl rfl Try.func88 #[.int .i64 a0, .int .i64 0, .int .i64 11] rfl ?_; (with_reducible refine (impl_in.calls a0 0 11 t254 _ A2.out).mono ?_); rintro e w' ⟨rfl, ⟨nd, rfl⟩⟩; refine ⟨_, rfl, ?_⟩))
 go_ret
 exact ⟨by first | rfl | (simp; done) | (simp [*]; done), by repeat (first | exact Drawn0.refl _ | apply Drawn0.step)⟩
def impl_nexts.f (a0 : Int) : Option (Int) := if a0 = 5 then (some 2) else (if a0 = 7 then (some 0) else (some 1))
theorem impl_nexts.calls (a0 : Int) (r : Int) (w : World) (h : impl_nexts.f a0 = some r) :
  Calls Try.prog 131 #[.int .i64 a0] w fun e w' => e = .returned (.int .i64 r) ∧ Drawn0 w w' := by
 have H : (if a0 = 5 then (some 2) else (if a0 = 7 then (some 0) else (some 1))) = some r := h
 clear h
 by_cases c2 : a0 = 5
 ·rw [if_pos c2] at H
  have c2b0 : (a0 == 5) = true := beq_iff_eq.mpr c2
  have c2b1 : (a0 != 5) = false := bne_eq_false_iff_eq.mpr c2
  clear c2
  obtain rfl := Option.some.inj H
  go_enter Try.func131, Try.ntmps131
  go_wp2
  go_ret
  exact ⟨by first | rfl | (simp; done) | (simp [*]; done), by repeat (first | exact Drawn0.refl _ | apply Drawn0.step)⟩
 ·rw [if_neg c2] at H
  have c2b0 : (a0 == 5) = false := beq_eq_false_iff_ne.mpr c2
  have c2b1 : (a0 != 5) = true := bne_iff_ne.mpr c2
  by_cases c3 : a0 = 7
  ·rw [if_pos c3] at H
   have c3b0 : (a0 == 7) = true := beq_iff_eq.mpr c3
   have c3b1 : (a0 != 7) = false := bne_eq_false_iff_eq.mpr c3
   clear c3
   obtain rfl := Option.some.inj H
   go_enter Try.func131, Try.ntmps131
   go_wp2
   go_ret
   exact ⟨by first | rfl | (simp; done) | (simp [*]; done), by repeat (first | exact Drawn0.refl _ | apply Drawn0.step)⟩
  ·rw [if_neg c3] at H
   have c3b0 : (a0 == 7) = false := beq_eq_false_iff_ne.mpr c3
   have c3b1 : (a0 != 7) = true := bne_iff_ne.mpr c3
   obtain rfl := Option.some.inj H
   go_enter Try.func131, Try.ntmps131
   go_wp2
   go_ret
   exact ⟨by first | rfl | (simp; done) | (simp [*]; done), by repeat (first | exact Drawn0.refl _ | apply Drawn0.step)⟩
def impl_isNum.f (a0 : Int) : Option (Bool) := (impl_in.f a0 0 65535).bind fun t255 => (some t255)
theorem impl_isNum.calls (a0 : Int) (r : Bool) (w : World) (h : impl_isNum.f a0 = some r) :
  Calls Try.prog 135 #[.int .i64 a0] w fun e w' => e = .returned (.bool r) ∧ Drawn0 w w' := by
 have H : ((impl_in.f a0 0 65535).bind fun t255 => (some t255)) = some r := h
 clear h
 replace H := Option.bind_eq_some_iff.mp H
 obtain ⟨t255, A20, H⟩ := H
 have A2 := Aside0.mk A20
 clear A20
 obtain rfl := Option.some.inj H
 go_enter Try.func135, Try.ntmps135
 go_wp2_with (first | ((with_reducible refine gate_callee (f := 88) rfl ?_); refine goesM (some 4) rfl rfl Try.func88 #[.int .i64 a0, .int .i64 0, .int .i64 65535] rfl ?_; (with_reducible refine (impl_in.calls a0 0 65535 t255 _ A2.out).mono ?_); rintro e w' ⟨rfl, ⟨nd, rfl⟩⟩; refine ⟨_, rfl, ?_⟩))
 go_ret
 exact ⟨by first | rfl | (simp; done) | (simp [*]; done), by repeat (first | exact Drawn0.refl _ | apply Drawn0.step)⟩
def impl_Opnd_ok.f (a0_0 : Int) (a0_1 : Int) : Option (Bool) := (impl_isVar.f a0_0).bind fun t257 => (if t257 = true then (if a0_1 = 0 then (some true) else (if a0_0 = (-1) then ((impl_isNum.f a0_1).bind fun t258 => (some t258)) else (some false))) else (if a0_0 = (-1) then ((impl_isNum.f a0_1).bind fun t259 => (some t259)) else (some false)))
theorem impl_Opnd_ok.calls (a0_0 : Int) (a0_1 : Int) (r : Bool) (w : World) (h : impl_Opnd_ok.f a0_0 a0_1 = some r) :
  Calls Try.prog 116 #[.agg #[.int .i64 a0_0, .int .i64 a0_1]] w fun e w' => e = .returned (.bool r) ∧ Below w.heap.size w w' := by
 have hu40 := Try.underlying40
 have HB := Aside0.mk (Below.refl w.heap.size w)
 have H : ((impl_isVar.f a0_0).bind fun t257 => (if t257 = true then (if a0_1 = 0 then (some true) else (if a0_0 = (-1) then ((impl_isNum.f a0_1).bind fun t258 => (some t258)) else (some false))) else (if a0_0 = (-1) then ((impl_isNum.f a0_1).bind fun t259 => (some t259)) else (some false)))) = some r := h
 clear h
 replace H := Option.bind_eq_some_iff.mp H
 obtain ⟨t257, A20, H⟩ := H
 have A2 := Aside0.mk A20
 clear A20
 by_cases c3 : t257 = true
 ·subst c3
  rw [if_pos rfl] at H
  by_cases c4 : a0_1 = 0
  ·rw [if_pos c4] at H
   have c4b0 : (a0_1 == 0) = true := beq_iff_eq.mpr c4
   have c4b1 : (a0_1 != 0) = false := bne_eq_false_iff_eq.mpr c4
   clear c4
   obtain rfl := Option.some.inj H
   go_enter Try.func116, Try.ntmps116
   go_wp2_with (first | ((with_reducible refine gate_dst (N := 1) rfl ?_); refine bxe (cs := #[.int .i64 a0_0, .int .i64 a0_1]) (t := 40) ?_; intro gb256 hg w5 hbox hb; have BK256 := Aside0.mk (hbox); have GW256 := bwz HB hg; have GE256 := bwz HB hg; replace HB := bwb HB hb; clear hb hbox hg; obtain ⟨hcz6, hfz6⟩ := bcf BK256) | ((with_reducible refine gate_callee (f := 133) rfl ?_); refine goesM (some 5) rfl rfl Try.func133 #[.int .i64 a0_0] rfl ?_; (with_reducible refine (impl_isVar.calls a0_0 true _ A2.out).mono ?_); rintro e w' ⟨rfl, ⟨nd, rfl⟩⟩; refine ⟨_, rfl, ?_⟩))
   go_ret
   exact ⟨by first | rfl | (simp [errW_none, errW_some] <;> rfl) | (simp [*, errW_none, errW_some] <;> rfl), bwq HB⟩
  ·rw [if_neg c4] at H
   have c4b0 : (a0_1 == 0) = false := beq_eq_false_iff_ne.mpr c4
   have c4b1 : (a0_1 != 0) = true := bne_iff_ne.mpr c4
   by_cases c7 : a0_0 = (-1)
   ·rw [if_pos c7] at H
    have c7b0 : (a0_0 == (-1)) = true := beq_iff_eq.mpr c7
    have c7b1 : (a0_0 != (-1)) = false := bne_eq_false_iff_eq.mpr c7
    clear c7
    replace H := Option.bind_eq_some_iff.mp H
    obtain ⟨t258, A80, H⟩ := H
    have A8 := Aside0.mk A80
    clear A80
    obtain rfl := Option.some.inj H
    go_enter Try.func116, Try.ntmps116
    go_wp2_with (first | ((with_reducible refine gate_dst (N := 1) rfl ?_); refine bxe (cs := #[.int .i64 a0_0, .int .i64 a0_1]) (t := 40) ?_; intro gb256 hg w9 hbox hb; have BK256 := Aside0.mk (hbox); have GW256 := bwz HB hg; have GE256 := bwz HB hg; replace HB := bwb HB hb; clear hb hbox hg; obtain ⟨hcz10, hfz10⟩ := bcf BK256) | ((with_reducible refine gate_callee (f := 133) rfl ?_); refine goesM (some 5) rfl rfl Try.func133 #[.int .i64 a0_0] rfl ?_; (with_reducible refine (impl_isVar.calls a0_0 true _ A2.out).mono ?_); rintro e w' ⟨rfl, ⟨nd, rfl⟩⟩; refine ⟨_, rfl, ?_⟩) | (go_at_call 135; (with_reducible refine (impl_isNum.calls a0_1 t258 _ A8.out).mono ?_); rintro e w' ⟨rfl, ⟨nd, rfl⟩⟩))
    go_ret
    exact ⟨by first | rfl | (simp [errW_none, errW_some] <;> rfl) | (simp [*, errW_none, errW_some] <;> rfl), bwq HB⟩
   ·rw [if_neg c7] at H
    have c7b0 : (a0_0 == (-1)) = false := beq_eq_false_iff_ne.mpr c7
    have c7b1 : (a0_0 != (-1)) = true := bne_iff_ne.mpr c7
    obtain rfl := Option.some.inj H
    go_enter Try.func116, Try.ntmps116
    go_wp2_with (first | ((with_reducible refine gate_dst (N := 1) rfl ?_); refine bxe (cs := #[.int .i64 a0_0, .int .i64 a0_1]) (t := 40) ?_; intro gb256 hg w11 hbox hb; have BK256 := Aside0.mk (hbox); have GW256 := bwz HB hg; have GE256 := bwz HB hg; replace HB := bwb HB hb; clear hb hbox hg; obtain ⟨hcz12, hfz12⟩ := bcf BK256) | ((with_reducible refine gate_callee (f := 133) rfl ?_); refine goesM (some 5) rfl rfl Try.func133 #[.int .i64 a0_0] rfl ?_; (with_reducible refine (impl_isVar.calls a0_0 true _ A2.out).mono ?_); rintro e w' ⟨rfl, ⟨nd, rfl⟩⟩; refine ⟨_, rfl, ?_⟩))
    go_ret
    exact ⟨by first | rfl | (simp [errW_none, errW_some] <;> rfl) | (simp [*, errW_none, errW_some] <;> rfl), bwq HB⟩
 ·replace c3 := Bool.eq_false_iff.mpr c3
  subst c3
  have H1 : (if a0_0 = (-1) then ((impl_isNum.f a0_1).bind fun t259 => (some t259)) else (some false)) = some r := by rw [if_neg (show ¬ (false = true) by decide)] at H; exact H
  clear H
  have H := H1
  clear H1
  by_cases c13 : a0_0 = (-1)
  ·rw [if_pos c13] at H
   have c13b0 : (a0_0 == (-1)) = true := beq_iff_eq.mpr c13
   have c13b1 : (a0_0 != (-1)) = false := bne_eq_false_iff_eq.mpr c13
   clear c13
   replace H := Option.bind_eq_some_iff.mp H
   obtain ⟨t259, A140, H⟩ := H
   have A14 := Aside0.mk A140
   clear A140
   obtain rfl := Option.some.inj H
   go_enter Try.func116, Try.ntmps116
   go_wp2_with (first | ((with_reducible refine gate_dst (N := 1) rfl ?_); refine bxe (cs := #[.int .i64 a0_0, .int .i64 a0_1]) (t := 40) ?_; intro gb256 hg w15 hbox hb; have BK256 := Aside0.mk (hbox); have GW256 := bwz HB hg; have GE256 := bwz HB hg; replace HB := bwb HB hb; clear hb hbox hg; obtain ⟨hcz16, hfz16⟩ := bcf BK256) | ((with_reducible refine gate_callee (f := 133) rfl ?_); refine goesM (some 5) rfl rfl Try.func133 #[.int .i64 a0_0] rfl ?_; (with_reducible refine (impl_isVar.calls a0_0 false _ A2.out).mono ?_); rintro e w' ⟨rfl, ⟨nd, rfl⟩⟩; refine ⟨_, rfl, ?_⟩) | (go_at_call 135; (with_reducible refine (impl_isNum.calls a0_1 t259 _ A14.out).mono ?_); rintro e w' ⟨rfl, ⟨nd, rfl⟩⟩))
   go_ret
   exact ⟨by first | rfl | (simp [errW_none, errW_some] <;> rfl) | (simp [*, errW_none, errW_some] <;> rfl), bwq HB⟩
  ·rw [if_neg c13] at H
   have c13b0 : (a0_0 == (-1)) = false := beq_eq_false_iff_ne.mpr c13
   have c13b1 : (a0_0 != (-1)) = true := bne_iff_ne.mpr c13
   obtain rfl := Option.some.inj H
   go_enter Try.func116, Try.ntmps116
   go_wp2_with (first | ((with_reducible refine gate_dst (N := 1) rfl ?_); refine bxe (cs := #[.int .i64 a0_0, .int .i64 a0_1]) (t := 40) ?_; intro gb256 hg w17 hbox hb; have BK256 := Aside0.mk (hbox); have GW256 := bwz HB hg; have GE256 := bwz HB hg; replace HB := bwb HB hb; clear hb hbox hg; obtain ⟨hcz18, hfz18⟩ := bcf BK256) | ((with_reducible refine gate_callee (f := 133) rfl ?_); refine goesM (some 5) rfl rfl Try.func133 #[.int .i64 a0_0] rfl ?_; (with_reducible refine (impl_isVar.calls a0_0 false _ A2.out).mono ?_); rintro e w' ⟨rfl, ⟨nd, rfl⟩⟩; refine ⟨_, rfl, ?_⟩))
   go_ret
   exact ⟨by first | rfl | (simp [errW_none, errW_some] <;> rfl) | (simp [*, errW_none, errW_some] <;> rfl), bwq HB⟩
def impl_Step_changes.f (a0_0 : Int) (a0_1 : Int) (a0_2 : Int) (a0_3 : Int) (a0_4 : Int) (a0_5 : Int) (a0_6 : Int) (l0_7 : List Int) : Option (Bool) := (impl_in.f a0_0 1 3).bind fun t1001 => (some t1001)
theorem impl_Step_changes.calls (a0_0 : Int) (a0_1 : Int) (a0_2 : Int) (a0_3 : Int) (a0_4 : Int) (a0_5 : Int) (a0_6 : Int) (A0_7 : Option Addr) (c0_7 : Nat) (l0_7 : List Int) (r : Bool) (w : World) (hr0_7 : Kd.C (Kd.int .i64) w A0_7 l0_7.length l0_7) (hc0_7 : l0_7.length ≤ c0_7) (h : impl_Step_changes.f a0_0 a0_1 a0_2 a0_3 a0_4 a0_5 a0_6 l0_7 = some r) :
  Calls Try.prog 121 #[.agg #[.int .i64 a0_0, .int .i64 a0_1, .int .i64 a0_2, .int .i64 a0_3, .int .i64 a0_4, .int .i64 a0_5, .int .i64 a0_6, .slice A0_7 l0_7.length c0_7]] w fun e w' => e = .returned (.bool r) ∧ Below w.heap.size w w' := by
 have hu77 := Try.underlying77
 have HR0_7 := Aside0.mk hr0_7
 have HC0_7 := Aside0.mk hc0_7
 clear hr0_7 hc0_7
 have HB := Aside0.mk (Below.refl w.heap.size w)
 have H : ((impl_in.f a0_0 1 3).bind fun t1001 => (some t1001)) = some r := h
 clear h
 replace H := Option.bind_eq_some_iff.mp H
 obtain ⟨t1001, A20, H⟩ := H
 have A2 := Aside0.mk A20
 clear A20
 obtain rfl := Option.some.inj H
 go_enter Try.func121, Try.ntmps121
 go_wp2_with (first | ((with_reducible refine gate_dst (N := 1) rfl ?_); refine bxe (cs := #[.int .i64 a0_0, .int .i64 a0_1, .int .i64 a0_2, .int .i64 a0_3, .int .i64 a0_4, .int .i64 a0_5, .int .i64 a0_6, .slice A0_7 l0_7.length c0_7]) (t := 77) ?_; intro gb1000 hg w3 hbox hb; have BK1000 := Aside0.mk (hbox); have GW1000 := bwz HB hg; have GE1000 := bwz HB hg; replace HB := bwb HB hb; clear hb hbox hg; obtain ⟨hcz4, hfz4⟩ := bcf BK1000) | ((with_reducible refine gate_callee (f := 88) rfl ?_); refine goesM (some 5) rfl rfl Try.func88 #[.int .i64 a0_0, .int .i64 1, .int .i64 3] rfl ?_; (with_reducible refine (impl_in.calls a0_0 1 3 t1001 _ A2.out).mono ?_); rintro e w' ⟨rfl, ⟨nd, rfl⟩⟩; refine ⟨_, rfl, ?_⟩))
 go_ret
 exact ⟨by first | rfl | (simp [errW_none, errW_some] <;> rfl) | (simp [*, errW_none, errW_some] <;> rfl), bwq HB⟩
def impl_Step_usesA.f (a0_0 : Int) (a0_1 : Int) (a0_2 : Int) (a0_3 : Int) (a0_4 : Int) (a0_5 : Int) (a0_6 : Int) (l0_7 : List Int) : Option (Bool) := if a0_0 = 1 then (some true) else (if a0_0 = 2 then (some true) else (if a0_0 = 4 then (some true) else (some (a0_0 == 5))))
theorem impl_Step_usesA.calls (a0_0 : Int) (a0_1 : Int) (a0_2 : Int) (a0_3 : Int) (a0_4 : Int) (a0_5 : Int) (a0_6 : Int) (A0_7 : Option Addr) (c0_7 : Nat) (l0_7 : List Int) (r : Bool) (w : World) (hr0_7 : Kd.C (Kd.int .i64) w A0_7 l0_7.length l0_7) (hc0_7 : l0_7.length ≤ c0_7) (h : impl_Step_usesA.f a0_0 a0_1 a0_2 a0_3 a0_4 a0_5 a0_6 l0_7 = some r) :
  Calls Try.prog 134 #[.agg #[.int .i64 a0_0, .int .i64 a0_1, .int .i64 a0_2, .int .i64 a0_3, .int .i64 a0_4, .int .i64 a0_5, .int .i64 a0_6, .slice A0_7 l0_7.length c0_7]] w fun e w' => e = .returned (.bool r) ∧ Below w.heap.size w w' := by
 have hu77 := Try.underlying77
 have HR0_7 := Aside0.mk hr0_7
 have HC0_7 := Aside0.mk hc0_7
 clear hr0_7 hc0_7
 have HB := Aside0.mk (Below.refl w.heap.size w)
 have H : (if a0_0 = 1 then (some true) else (if a0_0 = 2 then (some true) else (if a0_0 = 4 then (some true) else (some (a0_0 == 5))))) = some r := h
 clear h
 by_cases c2 : a0_0 = 1
 ·rw [if_pos c2] at H
  have c2b0 : (a0_0 == 1) = true := beq_iff_eq.mpr c2
  have c2b1 : (a0_0 != 1) = false := bne_eq_false_iff_eq.mpr c2
  clear c2
  obtain rfl := Option.some.inj H
  go_enter Try.func134, Try.ntmps134
  go_wp2_with (first | ((with_reducible refine gate_dst (N := 1) rfl ?_); refine bxe (cs := #[.int .i64 a0_0, .int .i64 a0_1, .int .i64 a0_2, .int .i64 a0_3, .int .i64 a0_4, .int .i64 a0_5, .int .i64 a0_6, .slice A0_7 l0_7.length c0_7]) (t := 77) ?_; intro gb1002 hg w3 hbox hb; have BK1002 := Aside0.mk (hbox); have GW1002 := bwz HB hg; have GE1002 := bwz HB hg; replace HB := bwb HB hb; clear hb hbox hg; obtain ⟨hcz4, hfz4⟩ := bcf BK1002))
  go_ret
  exact ⟨by first | rfl | (simp [errW_none, errW_some] <;> rfl) | (simp [*, errW_none, errW_some] <;> rfl), bwq HB⟩
 ·rw [if_neg c2] at H
  have c2b0 : (a0_0 == 1) = false := beq_eq_false_iff_ne.mpr c2
  have c2b1 : (a0_0 != 1) = true := bne_iff_ne.mpr c2
  by_cases c5 : a0_0 = 2
  ·rw [if_pos c5] at H
   have c5b0 : (a0_0 == 2) = true := beq_iff_eq.mpr c5
   have c5b1 : (a0_0 != 2) = false := bne_eq_false_iff_eq.mpr c5
   clear c5
   obtain rfl := Option.some.inj H
   go_enter Try.func134, Try.ntmps134
   go_wp2_with (first | ((with_reducible refine gate_dst (N := 1) rfl ?_); refine bxe (cs := #[.int .i64 a0_0, .int .i64 a0_1, .int .i64 a0_2, .int .i64 a0_3, .int .i64 a0_4, .int .i64 a0_5, .int .i64 a0_6, .slice A0_7 l0_7.length c0_7]) (t := 77) ?_; intro gb1002 hg w6 hbox hb; have BK1002 := Aside0.mk (hbox); have GW1002 := bwz HB hg; have GE1002 := bwz HB hg; replace HB := bwb HB hb; clear hb hbox hg; obtain ⟨hcz7, hfz7⟩ := bcf BK1002))
   go_ret
   exact ⟨by first | rfl | (simp [errW_none, errW_some] <;> rfl) | (simp [*, errW_none, errW_some] <;> rfl), bwq HB⟩
  ·rw [if_neg c5] at H
   have c5b0 : (a0_0 == 2) = false := beq_eq_false_iff_ne.mpr c5
   have c5b1 : (a0_0 != 2) = true := bne_iff_ne.mpr c5
   by_cases c8 : a0_0 = 4
   ·rw [if_pos c8] at H
    have c8b0 : (a0_0 == 4) = true := beq_iff_eq.mpr c8
    have c8b1 : (a0_0 != 4) = false := bne_eq_false_iff_eq.mpr c8
    clear c8
    obtain rfl := Option.some.inj H
    go_enter Try.func134, Try.ntmps134
    go_wp2_with (first | ((with_reducible refine gate_dst (N := 1) rfl ?_); refine bxe (cs := #[.int .i64 a0_0, .int .i64 a0_1, .int .i64 a0_2, .int .i64 a0_3, .int .i64 a0_4, .int .i64 a0_5, .int .i64 a0_6, .slice A0_7 l0_7.length c0_7]) (t := 77) ?_; intro gb1002 hg w9 hbox hb; have BK1002 := Aside0.mk (hbox); have GW1002 := bwz HB hg; have GE1002 := bwz HB hg; replace HB := bwb HB hb; clear hb hbox hg; obtain ⟨hcz10, hfz10⟩ := bcf BK1002))
    go_ret
    exact ⟨by first | rfl | (simp [errW_none, errW_some] <;> rfl) | (simp [*, errW_none, errW_some] <;> rfl), bwq HB⟩
   ·rw [if_neg c8] at H
    have c8b0 : (a0_0 == 4) = false := beq_eq_false_iff_ne.mpr c8
    have c8b1 : (a0_0 != 4) = true := bne_iff_ne.mpr c8
    obtain rfl := Option.some.inj H
    go_enter Try.func134, Try.ntmps134
    go_wp2_with (first | ((with_reducible refine gate_dst (N := 1) rfl ?_); refine bxe (cs := #[.int .i64 a0_0, .int .i64 a0_1, .int .i64 a0_2, .int .i64 a0_3, .int .i64 a0_4, .int .i64 a0_5, .int .i64 a0_6, .slice A0_7 l0_7.length c0_7]) (t := 77) ?_; intro gb1002 hg w11 hbox hb; have BK1002 := Aside0.mk (hbox); have GW1002 := bwz HB hg; have GE1002 := bwz HB hg; replace HB := bwb HB hb; clear hb hbox hg; obtain ⟨hcz12, hfz12⟩ := bcf BK1002))
    go_ret
    exact ⟨by first | rfl | (simp [errW_none, errW_some] <;> rfl) | (simp [*, errW_none, errW_some] <;> rfl), bwq HB⟩
end Go.Proofs.Ytcgbbhkjkkpfoaa.P
namespace Go.Proofs.Ytcgbbhkjkkpfoaa.P
open Go.RowKit Go.Proofs.YtcgbbhkjkkpfoaaW.PrintWords Go.Proofs.YtcgbbhkjkkpfoaaW.PrintLast Go.Proofs.YtcgbbhkjkkpfoaaW.PrintMore
def inB (n lo hi : Int) : Bool := decide (lo ≤ n) && decide (n ≤ hi)
def nextsZ (k : Int) : Int := if k = 5 then 2 else if k = 7 then 0 else 1
def chB (k : Int) : Bool := inB k 1 3
def useAB (k : Int) : Bool := k == 1 || k == 2 || k == 4 || k == 5
def opOkB (v n : Int) : Bool := inB v 0 11 && n == 0 || v == -1 && inB n 0 65535
theorem impl_in_eq (a b c : Int) : impl_in.f a b c = some (inB a b c) := by
 unfold impl_in.f inB
 by_cases h : b ≤ a <;> simp [h]
theorem impl_isVar_eq (a : Int) : impl_isVar.f a = some (inB a 0 11) := by unfold impl_isVar.f; rw [impl_in_eq]; rfl
theorem impl_isNum_eq (a : Int) : impl_isNum.f a = some (inB a 0 65535) := by unfold impl_isNum.f; rw [impl_in_eq]; rfl
theorem impl_isOp_eq (a : Int) : impl_isOp.f a = some (inB a 1 4) := by unfold impl_isOp.f; rw [impl_in_eq]; rfl
theorem impl_nexts_eq (a : Int) : impl_nexts.f a = some (nextsZ a) := by
 unfold impl_nexts.f nextsZ
 by_cases h : a = 5
 ·simp [h]
 ·by_cases h2 : a = 7 <;> simp [h, h2]
theorem impl_Opnd_ok_eq (v n : Int) : impl_Opnd_ok.f v n = some (opOkB v n) := by
 unfold impl_Opnd_ok.f opOkB
 rw [impl_isVar_eq, impl_isNum_eq]
 simp only [Option.bind_some]
 generalize inB v 0 11 = b1
 generalize inB n 0 65535 = b2
 cases b1 <;> cases b2 <;> by_cases h2 : n = 0 <;> by_cases h3 : v = -1 <;> simp [h2, h3]
theorem impl_changes_eq (k a2 a3 a4 a5 a6 a7 : Int) (l : List Int) : impl_Step_changes.f k a2 a3 a4 a5 a6 a7 l = some (chB k) := by unfold impl_Step_changes.f chB; rw [impl_in_eq]; rfl
theorem impl_usesA_eq (k a2 a3 a4 a5 a6 a7 : Int) (l : List Int) : impl_Step_usesA.f k a2 a3 a4 a5 a6 a7 l = some (useAB k) := by
 unfold impl_Step_usesA.f useAB
 by_cases h1 : k = 1
 ·simp [h1]
 ·by_cases h2 : k = 2
  ·simp [h2]
  ·by_cases h3 : k = 4 <;> simp [h1, h2, h3]
def stepOkB (n : Int) (s : S77) : Bool :=
 inB s.f0 1 7 && ((s.f5.length : Int) == nextsZ s.f0 && (!s.f5.any (fun x => !inB x 0 (n - 1)) &&
  ((if chB s.f0 = true then inB s.f1 0 11 else s.f1 == 0) && ((if useAB s.f0 = true then opOkB s.f3.f0 s.f3.f1 else s.f3.f0 == 0 && s.f3.f1 == 0) &&
   (if s.f0 = 1 then inB s.f2 1 4 && opOkB s.f4.f0 s.f4.f1 else s.f2 == 0 && (s.f4.f0 == 0 && s.f4.f1 == 0))))))
def progOkB (l : List S77) : Bool := decide (1 ≤ l.length) && (decide (l.length ≤ 60) && l.all (stepOkB l.length))
theorem quiet_D {f : FuncId} {args : Array Value} {w : World} {n : Nat} {v : Value} (h : Calls Try.prog f args (w.drewN n) fun e w' => e = .returned v ∧ Drawn0 (w.drewN n) w') :
  Calls Try.prog f args (w.drewN n) fun e w'' => e = .returned v ∧ ∃ m, w'' = w.drewN m :=
 Calls.quiet_of (h.mono fun _ _ ⟨a, ⟨b⟩⟩ => ⟨a, b⟩)
theorem ok1_calls (x n : Int) (b : Nat) (w : World) (hc : w.cell? ⟨b, 0, none⟩ = some (.int .i64 n)) (h1 : 0 ≤ n) (h2 : n ≤ 140737488355328) :
  Calls Try.prog 132 #[.int .i64 x, .pointer (some ⟨b, 0, none⟩)] w fun e w' => e = .returned (.bool (!inB x 0 (n - 1))) ∧ Drawn0 w w' := by
 have HC := Aside0.mk (impl_in_eq x 0 (n - 1))
 go_enter Try.func132, Try.ntmps132
 go_wp2_with (first | ((with_reducible refine gate_callee (f := 88) rfl ?_); refine goesM (some 7) rfl rfl Try.func88 #[.int .i64 x, .int .i64 0, .int .i64 (n - 1)] rfl ?_; refine (impl_in.calls _ _ _ _ _ HC.out).mono ?_; rintro e w1 ⟨rfl, ⟨m2, rfl⟩⟩; refine ⟨_, rfl, ?_⟩))
 go_ret
 exact ⟨rfl, by repeat (first | exact Drawn0.refl _ | apply Drawn0.step)⟩
theorem ret_bool {a b : Bool} (h : a = b) : Ending.returned (.bool a) = Ending.returned (.bool b) := by rw [h]
theorem Step_any_ch (s : S77) (A : Option Addr) (c : Nat) (w : World) (hr : Kd.C (Kd.int .i64) w A s.f5.length s.f5) (hc : s.f5.length ≤ c) :
  Calls Try.prog 121 #[.agg #[.int .i64 s.f0, .int .i64 s.f1, .int .i64 s.f2, .int .i64 s.f3.f0, .int .i64 s.f3.f1, .int .i64 s.f4.f0, .int .i64 s.f4.f1, .slice A s.f5.length c]] w fun e w' => e = .returned (.bool (chB s.f0)) ∧ Below w.heap.size w w' :=
 impl_Step_changes.calls _ _ _ _ _ _ _ A c s.f5 _ w hr hc (impl_changes_eq _ _ _ _ _ _ _ _)
theorem Step_any_us (s : S77) (A : Option Addr) (c : Nat) (w : World) (hr : Kd.C (Kd.int .i64) w A s.f5.length s.f5) (hc : s.f5.length ≤ c) :
  Calls Try.prog 134 #[.agg #[.int .i64 s.f0, .int .i64 s.f1, .int .i64 s.f2, .int .i64 s.f3.f0, .int .i64 s.f3.f1, .int .i64 s.f4.f0, .int .i64 s.f4.f1, .slice A s.f5.length c]] w fun e w' => e = .returned (.bool (useAB s.f0)) ∧ Below w.heap.size w w' :=
 impl_Step_usesA.calls _ _ _ _ _ _ _ A c s.f5 _ w hr hc (impl_usesA_eq _ _ _ _ _ _ _ _)
theorem Opnd_any (v n : Int) (w : World) : Calls Try.prog 116 #[.agg #[.int .i64 v, .int .i64 n]] w fun e w' => e = .returned (.bool (opOkB v n)) ∧ Below w.heap.size w w' :=
 impl_Opnd_ok.calls v n _ w (impl_Opnd_ok_eq v n)
theorem isVar_any (v : Int) (w : World) : Calls Try.prog 133 #[.int .i64 v] w fun e w' => e = .returned (.bool (inB v 0 11)) ∧ Drawn0 w w' := impl_isVar.calls v _ w (impl_isVar_eq v)
theorem isOp_any (v : Int) (w : World) : Calls Try.prog 115 #[.int .i64 v] w fun e w' => e = .returned (.bool (inB v 1 4)) ∧ Drawn0 w w' := impl_isOp.calls v _ w (impl_isOp_eq v)
theorem stepOk_calls (s : S77) (A : Option Addr) (c : Nat) (n : Int) (w : World) (hr : Kd.C (Kd.int .i64) w A s.f5.length s.f5) (hc : s.f5.length ≤ c) (h1 : 0 ≤ n) (h2 : n ≤ 140737488355328) :
  Calls Try.prog 114 #[.agg #[.int .i64 s.f0, .int .i64 s.f1, .int .i64 s.f2, .int .i64 s.f3.f0, .int .i64 s.f3.f1, .int .i64 s.f4.f0, .int .i64 s.f4.f1, .slice A s.f5.length c], .int .i64 n] w fun e w' => e = .returned (.bool (stepOkB n s)) ∧ Below w.heap.size w w' := by
 have hmf : ∀ (fn : Fn) (first cap : Array Value) (w : World), (Instr.makeFunc fn first cap).run Try.prog w = .ok (.func fn first cap) w := fun _ _ _ _ => rfl
 have hu1 := Try.underlying77
 have hu2 := Try.underlying40
 have HR := Aside0.mk hr
 have HC := Aside0.mk hc
 have H1 := Aside0.mk h1
 have H2 := Aside0.mk h2
 clear hr hc h1 h2
 have HB := Aside0.mk (Below.refl w.heap.size w)
 by_cases c1 : inB s.f0 1 7 = true
 ·have Q1 := fun w => Aside0.mk (impl_in.calls s.f0 1 7 true w (by rw [impl_in_eq, c1]))
  have Q2 := fun w => Aside0.mk (impl_nexts.calls s.f0 _ w (impl_nexts_eq s.f0))
  by_cases c2 : (s.f5.length : Int) = nextsZ s.f0
  ·have c2b : ((s.f5.length : Int) != nextsZ s.f0) = false := bne_eq_false_iff_eq.mpr c2
   have hz : nextsZ s.f0 ≤ 2 := by unfold nextsZ; split <;> (try split) <;> omega
   have HL : Aside0 (s.f5.length ≤ 140737488355328) := ⟨by omega⟩
   clear hz
   have Q3 : Aside0 (∀ g W m, Below w.heap.size w W → W.cell? ⟨g, 0, none⟩ = some (.int .i64 n) → Calls Try.prog 54 #[.slice A s.f5.length c, .func (.func 132) #[] #[.pointer (some ⟨g, 0, none⟩)]] (W.drewN m) fun e w' => e = .returned (.bool (s.f5.any (fun x => !inB x 0 (n - 1)))) ∧ Drawn0 (W.drewN m) w') := by
    refine ⟨fun g W m hb hc => containsFunc_intQ _ _ _ A c s.f5 _ (Kd.C_drewN (Kd.C_below HR.out hb) m) HL.out fun k x _ => ⟨_, _, _, rfl, Try.func132, by kernel_rfl, rfl, ?_⟩⟩
    exact ok1_calls x n _ _ hc H1.out H2.out
   by_cases c3 : s.f5.any (fun x => !inB x 0 (n - 1)) = true
   ·have e : stepOkB n s = false := by unfold stepOkB; rw [c3]; simp
    rw [e]
    rw [c3] at Q3
    clear e c1 c2 c3
    go_enter Try.func114, Try.ntmps114
    go_wp2_with (first | ((with_reducible refine gate_dst (N := 2) rfl ?_); refine box_event ?hg (N := 2) ?hd (cs := #[.int .i64 s.f0, .int .i64 s.f1, .int .i64 s.f2, .int .i64 s.f3.f0, .int .i64 s.f3.f1, .int .i64 s.f4.f0, .int .i64 s.f4.f1, .slice A s.f5.length c]) (t := 77) ?hr ?_; (case hd => rfl); (case hg => rfl); (case hr => first | (go_simp; done) | (go_simp; rfl)); intro g hg w_ hbox hb; have n1_ := Aside0.mk (below_step HB.out hb); have GWg := Aside0.mk (by rw [hg]; exact below_size HB.out : w.heap.size ≤ g); clear HB; have HB := n1_; have BKg := Aside0.mk hbox; clear n1_ hb hbox hg; obtain ⟨zg_0, zg_1, zg_2, zg_3, zg_4, zg_5, zg_6, zg_7⟩ := blkC8 BKg.out) | ((with_reducible refine gate_dst (N := 3) rfl ?_); refine box_event ?hg (N := 3) ?hd (cs := #[.int .i64 n]) (t := 3) ?hr ?_; (case hd => rfl); (case hg => rfl); (case hr => first | (go_simp; done) | (go_simp; rfl)); intro h hg w_ hbox hb; have n1_ := Aside0.mk (below_step HB.out hb); have GWh := Aside0.mk (by rw [hg]; exact below_size HB.out : w.heap.size ≤ h); have n_ := Aside0.mk (blk_below BKg.out hb); clear BKg; have BKg := n_; clear n_; clear HB; have HB := n1_; have BKh := Aside0.mk hbox; clear n1_ hb hbox hg; obtain ⟨zg_0, zg_1, zg_2, zg_3, zg_4, zg_5, zg_6, zg_7⟩ := blkC8 BKg.out; have zh_0 := blkC1 BKh.out))
    go_quiet (first | (go_at_call 88; exact quiet_D (Q1 _).out) | (go_at_call 131; exact quiet_D (Q2 _).out) | (go_at_call 54; exact quiet_D (Q3.out _ _ _ HB.out zh_0)))
    go_wp2
    go_ret
    exact ⟨rfl, pw_below_drewN HB.out _⟩
   ·have c3' : s.f5.any (fun x => !inB x 0 (n - 1)) = false := by simpa using c3
    have e : stepOkB n s = ((if chB s.f0 = true then inB s.f1 0 11 else s.f1 == 0) && ((if useAB s.f0 = true then opOkB s.f3.f0 s.f3.f1 else s.f3.f0 == 0 && s.f3.f1 == 0) &&
      (if s.f0 = 1 then inB s.f2 1 4 && opOkB s.f4.f0 s.f4.f1 else s.f2 == 0 && (s.f4.f0 == 0 && s.f4.f1 == 0)))) := by unfold stepOkB; rw [c1, c2, c3']; simp
    have E := Aside0.mk e
    rw [c3'] at Q3
    clear e c1 c2 c3 c3'
    go_enter Try.func114, Try.ntmps114
    go_wp2_with (first | ((with_reducible refine gate_dst (N := 2) rfl ?_); refine box_event ?hg (N := 2) ?hd (cs := #[.int .i64 s.f0, .int .i64 s.f1, .int .i64 s.f2, .int .i64 s.f3.f0, .int .i64 s.f3.f1, .int .i64 s.f4.f0, .int .i64 s.f4.f1, .slice A s.f5.length c]) (t := 77) ?hr ?_; (case hd => rfl); (case hg => rfl); (case hr => first | (go_simp; done) | (go_simp; rfl)); intro g hg w_ hbox hb; have n1_ := Aside0.mk (below_step HB.out hb); have GWg := Aside0.mk (by rw [hg]; exact below_size HB.out : w.heap.size ≤ g); clear HB; have HB := n1_; have BKg := Aside0.mk hbox; clear n1_ hb hbox hg; obtain ⟨zg_0, zg_1, zg_2, zg_3, zg_4, zg_5, zg_6, zg_7⟩ := blkC8 BKg.out) | ((with_reducible refine gate_dst (N := 3) rfl ?_); refine box_event ?hg (N := 3) ?hd (cs := #[.int .i64 n]) (t := 3) ?hr ?_; (case hd => rfl); (case hg => rfl); (case hr => first | (go_simp; done) | (go_simp; rfl)); intro h hg w_ hbox hb; have n1_ := Aside0.mk (below_step HB.out hb); have GWh := Aside0.mk (by rw [hg]; exact below_size HB.out : w.heap.size ≤ h); have n_ := Aside0.mk (blk_below BKg.out hb); clear BKg; have BKg := n_; clear n_; clear HB; have HB := n1_; have BKh := Aside0.mk hbox; clear n1_ hb hbox hg; obtain ⟨zg_0, zg_1, zg_2, zg_3, zg_4, zg_5, zg_6, zg_7⟩ := blkC8 BKg.out; have zh_0 := blkC1 BKh.out))
    go_quiet (first | (go_at_call 88; exact quiet_D (Q1 _).out) | (go_at_call 131; exact quiet_D (Q2 _).out) | (go_at_call 54; exact quiet_D (Q3.out _ _ _ HB.out zh_0)))
    have m_ := nq
    have n_ := Aside0.mk (pw_below_drewN HB.out nq)
    clear HB
    have HB := n_
    have n_ := Aside0.mk (blk_drewN BKg.out nq)
    clear BKg
    have BKg := n_
    have n_ := Aside0.mk (blk_drewN BKh.out nq)
    clear BKh
    have BKh := n_
    clear n_ Q1 Q2 Q3 c2b m_
    go_wp2_with (first | ((with_reducible refine gate_callee (f := 121) rfl ?_); refine goesL_ (some 25) rfl rfl Try.func121 (by kernel_rfl) rfl #[.agg #[.int .i64 s.f0, .int .i64 s.f1, .int .i64 s.f2, .int .i64 s.f3.f0, .int .i64 s.f3.f1, .int .i64 s.f4.f0, .int .i64 s.f4.f1, .slice A s.f5.length c]] rfl (by (try simp only [List.map_toArray, List.map_cons, List.map_nil]); first | done | rfl) ?_; refine (Step_any_ch s A c _ (Kd.C_below HR.out HB.out) HC.out).mono ?_; rintro e w_ ⟨rfl, hb⟩; rcases hch : chB s.f0 with _ | _ <;> (refine ⟨_, rfl, ?_⟩; have n_ := Aside0.mk (blk_below BKg.out hb); clear BKg; have BKg := n_; clear n_; have n_ := Aside0.mk (blk_below BKh.out hb); clear BKh; have BKh := n_; clear n_; have n_ := Aside0.mk (below_step HB.out hb); clear HB; have HB := n_; clear n_ hb; obtain ⟨zg_0, zg_1, zg_2, zg_3, zg_4, zg_5, zg_6, zg_7⟩ := blkC8 BKg.out; have zh_0 := blkC1 BKh.out)) | ((with_reducible refine gate_callee (f := 121) rfl ?_); (try (refine gate_guard (by rfl) ?_; dsimp only)); refine goesL_ (some 34) rfl rfl Try.func121 (by kernel_rfl) rfl #[.agg #[.int .i64 s.f0, .int .i64 s.f1, .int .i64 s.f2, .int .i64 s.f3.f0, .int .i64 s.f3.f1, .int .i64 s.f4.f0, .int .i64 s.f4.f1, .slice A s.f5.length c]] rfl (by (try simp only [List.map_toArray, List.map_cons, List.map_nil]); first | done | rfl) ?_; refine (Step_any_ch s A c _ (Kd.C_below HR.out HB.out) HC.out).mono ?_; rintro e w_ ⟨rfl, hb⟩; rw [hch] <;> (refine ⟨_, rfl, ?_⟩; have n_ := Aside0.mk (blk_below BKg.out hb); clear BKg; have BKg := n_; clear n_; have n_ := Aside0.mk (blk_below BKh.out hb); clear BKh; have BKh := n_; clear n_; have n_ := Aside0.mk (below_step HB.out hb); clear HB; have HB := n_; clear n_ hb; obtain ⟨zg_0, zg_1, zg_2, zg_3, zg_4, zg_5, zg_6, zg_7⟩ := blkC8 BKg.out; have zh_0 := blkC1 BKh.out)) | ((with_reducible refine gate_callee (f := 133) rfl ?_); (try (refine gate_guard (by rfl) ?_; dsimp only)); refine goesL_ (some 29) rfl rfl Try.func133 (by kernel_rfl) rfl #[.int .i64 s.f1] rfl (by (try simp only [List.map_toArray, List.map_cons, List.map_nil]); first | done | rfl) ?_; refine (isVar_any s.f1 _).mono ?_; rintro e w_ ⟨rfl, ⟨m_, rfl⟩⟩; rcases hiv : inB s.f1 0 11 with _ | _ <;> (refine ⟨_, rfl, ?_⟩; have n_ := Aside0.mk (pw_below_drewN HB.out m_); clear HB; have HB := n_; clear n_; have n_ := Aside0.mk (blk_drewN BKg.out m_); clear BKg; have BKg := n_; clear n_; have n_ := Aside0.mk (blk_drewN BKh.out m_); clear BKh; have BKh := n_; clear n_; obtain ⟨zg_0, zg_1, zg_2, zg_3, zg_4, zg_5, zg_6, zg_7⟩ := blkC8 BKg.out; have zh_0 := blkC1 BKh.out)) | ((with_reducible refine gate_callee (f := 134) rfl ?_); refine goesL_ (some 43) rfl rfl Try.func134 (by kernel_rfl) rfl #[.agg #[.int .i64 s.f0, .int .i64 s.f1, .int .i64 s.f2, .int .i64 s.f3.f0, .int .i64 s.f3.f1, .int .i64 s.f4.f0, .int .i64 s.f4.f1, .slice A s.f5.length c]] rfl (by (try simp only [List.map_toArray, List.map_cons, List.map_nil]); first | done | rfl) ?_; refine (Step_any_us s A c _ (Kd.C_below HR.out HB.out) HC.out).mono ?_; rintro e w_ ⟨rfl, hb⟩; rcases hus : useAB s.f0 with _ | _ <;> (refine ⟨_, rfl, ?_⟩; have n_ := Aside0.mk (blk_below BKg.out hb); clear BKg; have BKg := n_; clear n_; have n_ := Aside0.mk (blk_below BKh.out hb); clear BKh; have BKh := n_; clear n_; have n_ := Aside0.mk (below_step HB.out hb); clear HB; have HB := n_; clear n_ hb; obtain ⟨zg_0, zg_1, zg_2, zg_3, zg_4, zg_5, zg_6, zg_7⟩ := blkC8 BKg.out; have zh_0 := blkC1 BKh.out)) | ((with_reducible refine gate_callee (f := 134) rfl ?_); (try (refine gate_guard (by rfl) ?_; dsimp only)); refine goesL_ (some 52) rfl rfl Try.func134 (by kernel_rfl) rfl #[.agg #[.int .i64 s.f0, .int .i64 s.f1, .int .i64 s.f2, .int .i64 s.f3.f0, .int .i64 s.f3.f1, .int .i64 s.f4.f0, .int .i64 s.f4.f1, .slice A s.f5.length c]] rfl (by (try simp only [List.map_toArray, List.map_cons, List.map_nil]); first | done | rfl) ?_; refine (Step_any_us s A c _ (Kd.C_below HR.out HB.out) HC.out).mono ?_; rintro e w_ ⟨rfl, hb⟩; rw [hus] <;> (refine ⟨_, rfl, ?_⟩; have n_ := Aside0.mk (blk_below BKg.out hb); clear BKg; have BKg := n_; clear n_; have n_ := Aside0.mk (blk_below BKh.out hb); clear BKh; have BKh := n_; clear n_; have n_ := Aside0.mk (below_step HB.out hb); clear HB; have HB := n_; clear n_ hb; obtain ⟨zg_0, zg_1, zg_2, zg_3, zg_4, zg_5, zg_6, zg_7⟩ := blkC8 BKg.out; have zh_0 := blkC1 BKh.out)) | ((with_reducible refine gate_callee (f := 116) rfl ?_); (try (refine gate_guard (by rfl) ?_; dsimp only)); refine goesL_ (some 47) rfl rfl Try.func116 (by kernel_rfl) rfl #[.agg #[.int .i64 s.f3.f0, .int .i64 s.f3.f1]] rfl (by (try simp only [List.map_toArray, List.map_cons, List.map_nil]); first | done | rfl) ?_; refine (Opnd_any s.f3.f0 s.f3.f1 _).mono ?_; rintro e w_ ⟨rfl, hb⟩; rcases hoa : opOkB s.f3.f0 s.f3.f1 with _ | _ <;> (refine ⟨_, rfl, ?_⟩; have n_ := Aside0.mk (blk_below BKg.out hb); clear BKg; have BKg := n_; clear n_; have n_ := Aside0.mk (blk_below BKh.out hb); clear BKh; have BKh := n_; clear n_; have n_ := Aside0.mk (below_step HB.out hb); clear HB; have HB := n_; clear n_ hb; obtain ⟨zg_0, zg_1, zg_2, zg_3, zg_4, zg_5, zg_6, zg_7⟩ := blkC8 BKg.out; have zh_0 := blkC1 BKh.out)) | ((with_reducible refine gate_callee (f := 115) rfl ?_); refine goesL_ (some 66) rfl rfl Try.func115 (by kernel_rfl) rfl #[.int .i64 s.f2] rfl (by (try simp only [List.map_toArray, List.map_cons, List.map_nil]); first | done | rfl) ?_; refine (isOp_any s.f2 _).mono ?_; rintro e w_ ⟨rfl, ⟨m_, rfl⟩⟩; rcases hio : inB s.f2 1 4 with _ | _ <;> (refine ⟨_, rfl, ?_⟩; have n_ := Aside0.mk (pw_below_drewN HB.out m_); clear HB; have HB := n_; clear n_; have n_ := Aside0.mk (blk_drewN BKg.out m_); clear BKg; have BKg := n_; clear n_; have n_ := Aside0.mk (blk_drewN BKh.out m_); clear BKh; have BKh := n_; clear n_; obtain ⟨zg_0, zg_1, zg_2, zg_3, zg_4, zg_5, zg_6, zg_7⟩ := blkC8 BKg.out; have zh_0 := blkC1 BKh.out)) | ((with_reducible refine gate_callee (f := 116) rfl ?_); (try (refine gate_guard (by rfl) ?_; dsimp only)); refine goesL_ (some 70) rfl rfl Try.func116 (by kernel_rfl) rfl #[.agg #[.int .i64 s.f4.f0, .int .i64 s.f4.f1]] rfl (by (try simp only [List.map_toArray, List.map_cons, List.map_nil]); first | done | rfl) ?_; refine (Opnd_any s.f4.f0 s.f4.f1 _).mono ?_; rintro e w_ ⟨rfl, hb⟩; refine ⟨_, rfl, ?_⟩; have n_ := Aside0.mk (blk_below BKg.out hb); clear BKg; have BKg := n_; clear n_; have n_ := Aside0.mk (blk_below BKh.out hb); clear BKh; have BKh := n_; clear n_; have n_ := Aside0.mk (below_step HB.out hb); clear HB; have HB := n_; clear n_ hb; obtain ⟨zg_0, zg_1, zg_2, zg_3, zg_4, zg_5, zg_6, zg_7⟩ := blkC8 BKg.out; have zh_0 := blkC1 BKh.out))
    all_goals go_ret
    all_goals (refine ⟨?_, HB.out⟩; rw [E.out]; clear E HB; refine ret_bool ?_; first | (simp [*]; done) | (simp_all; done))
  ·have e : stepOkB n s = false := by unfold stepOkB; rw [show ((s.f5.length : Int) == nextsZ s.f0) = false from beq_eq_false_iff_ne.mpr c2]; simp
   have c2b : ((s.f5.length : Int) != nextsZ s.f0) = true := bne_iff_ne.mpr c2
   rw [e]
   clear e c1 c2
   go_enter Try.func114, Try.ntmps114
   go_wp2_with (first | ((with_reducible refine gate_dst (N := 2) rfl ?_); refine box_event ?hg (N := 2) ?hd (cs := #[.int .i64 s.f0, .int .i64 s.f1, .int .i64 s.f2, .int .i64 s.f3.f0, .int .i64 s.f3.f1, .int .i64 s.f4.f0, .int .i64 s.f4.f1, .slice A s.f5.length c]) (t := 77) ?hr ?_; (case hd => rfl); (case hg => rfl); (case hr => first | (go_simp; done) | (go_simp; rfl)); intro g hg w_ hbox hb; have n1_ := Aside0.mk (below_step HB.out hb); have GWg := Aside0.mk (by rw [hg]; exact below_size HB.out : w.heap.size ≤ g); clear HB; have HB := n1_; have BKg := Aside0.mk hbox; clear n1_ hb hbox hg; obtain ⟨zg_0, zg_1, zg_2, zg_3, zg_4, zg_5, zg_6, zg_7⟩ := blkC8 BKg.out) | ((with_reducible refine gate_dst (N := 3) rfl ?_); refine box_event ?hg (N := 3) ?hd (cs := #[.int .i64 n]) (t := 3) ?hr ?_; (case hd => rfl); (case hg => rfl); (case hr => first | (go_simp; done) | (go_simp; rfl)); intro h hg w_ hbox hb; have n1_ := Aside0.mk (below_step HB.out hb); have GWh := Aside0.mk (by rw [hg]; exact below_size HB.out : w.heap.size ≤ h); have n_ := Aside0.mk (blk_below BKg.out hb); clear BKg; have BKg := n_; clear n_; clear HB; have HB := n1_; have BKh := Aside0.mk hbox; clear n1_ hb hbox hg; obtain ⟨zg_0, zg_1, zg_2, zg_3, zg_4, zg_5, zg_6, zg_7⟩ := blkC8 BKg.out; have zh_0 := blkC1 BKh.out))
   go_quiet (first | (go_at_call 88; exact quiet_D (Q1 _).out) | (go_at_call 131; exact quiet_D (Q2 _).out))
   go_wp2
   go_ret
   exact ⟨rfl, pw_below_drewN HB.out _⟩
 ·have e : stepOkB n s = false := by unfold stepOkB; simp [c1]
  rw [e]
  clear e
  have c1' : inB s.f0 1 7 = false := by simpa using c1
  clear c1
  have Q1 := fun w => Aside0.mk (impl_in.calls s.f0 1 7 false w (by rw [impl_in_eq, c1']))
  clear c1'
  go_enter Try.func114, Try.ntmps114
  go_wp2_with (first | ((with_reducible refine gate_dst (N := 2) rfl ?_); refine box_event ?hg (N := 2) ?hd (cs := #[.int .i64 s.f0, .int .i64 s.f1, .int .i64 s.f2, .int .i64 s.f3.f0, .int .i64 s.f3.f1, .int .i64 s.f4.f0, .int .i64 s.f4.f1, .slice A s.f5.length c]) (t := 77) ?hr ?_; (case hd => rfl); (case hg => rfl); (case hr => first | (go_simp; done) | (go_simp; rfl)); intro g hg w_ hbox hb; have n1_ := Aside0.mk (below_step HB.out hb); have GWg := Aside0.mk (by rw [hg]; exact below_size HB.out : w.heap.size ≤ g); clear HB; have HB := n1_; have BKg := Aside0.mk hbox; clear n1_ hb hbox hg; obtain ⟨zg_0, zg_1, zg_2, zg_3, zg_4, zg_5, zg_6, zg_7⟩ := blkC8 BKg.out) | ((with_reducible refine gate_dst (N := 3) rfl ?_); refine box_event ?hg (N := 3) ?hd (cs := #[.int .i64 n]) (t := 3) ?hr ?_; (case hd => rfl); (case hg => rfl); (case hr => first | (go_simp; done) | (go_simp; rfl)); intro h hg w_ hbox hb; have n1_ := Aside0.mk (below_step HB.out hb); have GWh := Aside0.mk (by rw [hg]; exact below_size HB.out : w.heap.size ≤ h); have n_ := Aside0.mk (blk_below BKg.out hb); clear BKg; have BKg := n_; clear n_; clear HB; have HB := n1_; have BKh := Aside0.mk hbox; clear n1_ hb hbox hg; obtain ⟨zg_0, zg_1, zg_2, zg_3, zg_4, zg_5, zg_6, zg_7⟩ := blkC8 BKg.out; have zh_0 := blkC1 BKh.out))
  go_quiet (first | (go_at_call 88; exact quiet_D (Q1 _).out))
  go_wp2
  go_ret
  exact ⟨rfl, pw_below_drewN HB.out _⟩
end Go.Proofs.Ytcgbbhkjkkpfoaa.P
namespace Go.Proofs.Ytcgbbhkjkkpfoaa.P
open Go.RowKit Go.Proofs.YtcgbbhkjkkpfoaaW.PrintWords Go.Proofs.YtcgbbhkjkkpfoaaW.PrintLast Go.Proofs.YtcgbbhkjkkpfoaaW.PrintMore
attribute [local go_sem] max2_int min2_int max_two min_two max_three min_three max_four min_four
theorem eqA40 (d : Nat) (w : World) (x0 y0 : Int) (x1 y1 : Int) :
  (Op.equalIn (d + 2) 40 (.agg #[.int .i64 x0, .int .i64 x1]) (.agg #[.int .i64 y0, .int .i64 y1])).run Try.prog w = .ok (x0 == y0 && (x1 == y1)) w := by
 refine eqA_of Try.underlying40 (by kernel_rfl) ?_
 refine eqf_cons (by rfl) (by go_simp; rfl) (by go_simp; rfl) (by go_simp) ?_
 exact eqf_last (by rfl) (by go_simp; rfl) (by go_simp; rfl) (by go_simp)
def spec_l1Many.f (a0 : Int) : Option (Int) := if a0 = 5 then (some 2) else (if a0 = 7 then (some 0) else (if a0 = 1 then (some 1) else (if a0 = 2 then (some 1) else (if a0 = 3 then (some 1) else (if a0 = 4 then (some 1) else (if a0 = 6 then (some 1) else (some (-1))))))))
theorem spec_l1Many.calls (a0 : Int) (r : Int) (w : World) (h : spec_l1Many.f a0 = some r) :
  Calls Try.prog 129 #[.int .i64 a0] w fun e w' => e = .returned (.int .i64 r) ∧ Drawn0 w w' := by
 have H : (if a0 = 5 then (some 2) else (if a0 = 7 then (some 0) else (if a0 = 1 then (some 1) else (if a0 = 2 then (some 1) else (if a0 = 3 then (some 1) else (if a0 = 4 then (some 1) else (if a0 = 6 then (some 1) else (some (-1))))))))) = some r := h
 clear h
 by_cases c2 : a0 = 5
 ·rw [if_pos c2] at H
  have c2b0 : (a0 == 5) = true := beq_iff_eq.mpr c2
  have c2b1 : (a0 != 5) = false := bne_eq_false_iff_eq.mpr c2
  clear c2
  obtain rfl := Option.some.inj H
  go_enter Try.func129, Try.ntmps129
  go_wp2
  go_ret
  exact ⟨by first | rfl | (simp; done) | (simp [*]; done), by repeat (first | exact Drawn0.refl _ | apply Drawn0.step)⟩
 ·rw [if_neg c2] at H
  have c2b0 : (a0 == 5) = false := beq_eq_false_iff_ne.mpr c2
  have c2b1 : (a0 != 5) = true := bne_iff_ne.mpr c2
  by_cases c3 : a0 = 7
  ·rw [if_pos c3] at H
   have c3b0 : (a0 == 7) = true := beq_iff_eq.mpr c3
   have c3b1 : (a0 != 7) = false := bne_eq_false_iff_eq.mpr c3
   clear c3
   obtain rfl := Option.some.inj H
   go_enter Try.func129, Try.ntmps129
   go_wp2
   go_ret
   exact ⟨by first | rfl | (simp; done) | (simp [*]; done), by repeat (first | exact Drawn0.refl _ | apply Drawn0.step)⟩
  ·rw [if_neg c3] at H
   have c3b0 : (a0 == 7) = false := beq_eq_false_iff_ne.mpr c3
   have c3b1 : (a0 != 7) = true := bne_iff_ne.mpr c3
   by_cases c4 : a0 = 1
   ·rw [if_pos c4] at H
    have c4b0 : (a0 == 1) = true := beq_iff_eq.mpr c4
    have c4b1 : (a0 != 1) = false := bne_eq_false_iff_eq.mpr c4
    clear c4
    obtain rfl := Option.some.inj H
    go_enter Try.func129, Try.ntmps129
    go_wp2
    go_ret
    exact ⟨by first | rfl | (simp; done) | (simp [*]; done), by repeat (first | exact Drawn0.refl _ | apply Drawn0.step)⟩
   ·rw [if_neg c4] at H
    have c4b0 : (a0 == 1) = false := beq_eq_false_iff_ne.mpr c4
    have c4b1 : (a0 != 1) = true := bne_iff_ne.mpr c4
    by_cases c5 : a0 = 2
    ·rw [if_pos c5] at H
     have c5b0 : (a0 == 2) = true := beq_iff_eq.mpr c5
     have c5b1 : (a0 != 2) = false := bne_eq_false_iff_eq.mpr c5
     clear c5
     obtain rfl := Option.some.inj H
     go_enter Try.func129, Try.ntmps129
     go_wp2
     go_ret
     exact ⟨by first | rfl | (simp; done) | (simp [*]; done), by repeat (first | exact Drawn0.refl _ | apply Drawn0.step)⟩
    ·rw [if_neg c5] at H
     have c5b0 : (a0 == 2) = false := beq_eq_false_iff_ne.mpr c5
     have c5b1 : (a0 != 2) = true := bne_iff_ne.mpr c5
     by_cases c6 : a0 = 3
     ·rw [if_pos c6] at H
      have c6b0 : (a0 == 3) = true := beq_iff_eq.mpr c6
      have c6b1 : (a0 != 3) = false := bne_eq_false_iff_eq.mpr c6
      clear c6
      obtain rfl := Option.some.inj H
      go_enter Try.func129, Try.ntmps129
      go_wp2
      go_ret
      exact ⟨by first | rfl | (simp; done) | (simp [*]; done), by repeat (first | exact Drawn0.refl _ | apply Drawn0.step)⟩
     ·rw [if_neg c6] at H
      have c6b0 : (a0 == 3) = false := beq_eq_false_iff_ne.mpr c6
      have c6b1 : (a0 != 3) = true := bne_iff_ne.mpr c6
      by_cases c7 : a0 = 4
      ·rw [if_pos c7] at H
       have c7b0 : (a0 == 4) = true := beq_iff_eq.mpr c7
       have c7b1 : (a0 != 4) = false := bne_eq_false_iff_eq.mpr c7
       clear c7
       obtain rfl := Option.some.inj H
       go_enter Try.func129, Try.ntmps129
       go_wp2
       go_ret
       exact ⟨by first | rfl | (simp; done) | (simp [*]; done), by repeat (first | exact Drawn0.refl _ | apply Drawn0.step)⟩
      ·rw [if_neg c7] at H
       have c7b0 : (a0 == 4) = false := beq_eq_false_iff_ne.mpr c7
       have c7b1 : (a0 != 4) = true := bne_iff_ne.mpr c7
       by_cases c8 : a0 = 6
       ·rw [if_pos c8] at H
        have c8b0 : (a0 == 6) = true := beq_iff_eq.mpr c8
        have c8b1 : (a0 != 6) = false := bne_eq_false_iff_eq.mpr c8
        clear c8
        obtain rfl := Option.some.inj H
        go_enter Try.func129, Try.ntmps129
        go_wp2
        go_ret
        exact ⟨by first | rfl | (simp; done) | (simp [*]; done), by repeat (first | exact Drawn0.refl _ | apply Drawn0.step)⟩
       ·rw [if_neg c8] at H
        have c8b0 : (a0 == 6) = false := beq_eq_false_iff_ne.mpr c8
        have c8b1 : (a0 != 6) = true := bne_iff_ne.mpr c8
        obtain rfl := Option.some.inj H
        go_enter Try.func129, Try.ntmps129
        go_wp2
        go_ret
        exact ⟨by first | rfl | (simp; done) | (simp [*]; done), by repeat (first | exact Drawn0.refl _ | apply Drawn0.step)⟩
def spec_l6In.f (a0 : Int) (a1 : Int) (a2 : Int) : Option (Bool) := if a0 ≥ a1 then (some (decide (a0 ≤ a2))) else (some false)
theorem spec_l6In.calls (a0 : Int) (a1 : Int) (a2 : Int) (r : Bool) (w : World) (h : spec_l6In.f a0 a1 a2 = some r) :
  Calls Try.prog 77 #[.int .i64 a0, .int .i64 a1, .int .i64 a2] w fun e w' => e = .returned (.bool r) ∧ Drawn0 w w' := by
 have H : (if a0 ≥ a1 then (some (decide (a0 ≤ a2))) else (some false)) = some r := h
 clear h
 by_cases c4 : a0 ≥ a1
 ·rw [if_pos c4] at H
  have c4b0 : decide (a1 ≤ a0) = true := decide_eq_true c4
  clear c4
  obtain rfl := Option.some.inj H
  go_enter Try.func77, Try.ntmps77
  go_wp2
  go_ret
  exact ⟨by first | rfl | (simp; done) | (simp [*]; done), by repeat (first | exact Drawn0.refl _ | apply Drawn0.step)⟩
 ·rw [if_neg c4] at H
  have c4b0 : decide (a1 ≤ a0) = false := decide_eq_false c4
  clear c4
  obtain rfl := Option.some.inj H
  go_enter Try.func77, Try.ntmps77
  go_wp2
  go_ret
  exact ⟨by first | rfl | (simp; done) | (simp [*]; done), by repeat (first | exact Drawn0.refl _ | apply Drawn0.step)⟩
def spec_l1Opnd.f (a0_0 : Int) (a0_1 : Int) : Option (Bool) := if a0_0 = (-1) then ((spec_l6In.f a0_1 0 65535).bind fun t111 => (some t111)) else ((spec_l6In.f a0_0 0 11).bind fun t112 => (if t112 = true then (some (a0_1 == 0)) else (some false)))
theorem spec_l1Opnd.calls (a0_0 : Int) (a0_1 : Int) (r : Bool) (w : World) (h : spec_l1Opnd.f a0_0 a0_1 = some r) :
  Calls Try.prog 111 #[.agg #[.int .i64 a0_0, .int .i64 a0_1]] w fun e w' => e = .returned (.bool r) ∧ Below w.heap.size w w' := by
 have hu40 := Try.underlying40
 have HB := Aside0.mk (Below.refl w.heap.size w)
 have H : (if a0_0 = (-1) then ((spec_l6In.f a0_1 0 65535).bind fun t111 => (some t111)) else ((spec_l6In.f a0_0 0 11).bind fun t112 => (if t112 = true then (some (a0_1 == 0)) else (some false)))) = some r := h
 clear h
 by_cases c2 : a0_0 = (-1)
 ·rw [if_pos c2] at H
  have c2b0 : (a0_0 == (-1)) = true := beq_iff_eq.mpr c2
  have c2b1 : (a0_0 != (-1)) = false := bne_eq_false_iff_eq.mpr c2
  clear c2
  replace H := Option.bind_eq_some_iff.mp H
  obtain ⟨t111, A30, H⟩ := H
  have A3 := Aside0.mk A30
  clear A30
  obtain rfl := Option.some.inj H
  go_enter Try.func111, Try.ntmps111
  go_wp2_with (first | ((with_reducible refine gate_dst (N := 1) rfl ?_); refine bxe (cs := #[.int .i64 a0_0, .int .i64 a0_1]) (t := 40) ?_; intro gb110 hg w4 hbox hb; have BK110 := Aside0.mk (hbox); have GW110 := bwz HB hg; have GE110 := bwz HB hg; replace HB := bwb HB hb; clear hb hbox hg; obtain ⟨hcz5, hfz5⟩ := bcf BK110) | ((with_reducible refine gate_callee (f := 77) rfl ?_); refine goesM (some 8) rfl rfl Try.func77 #[.int .i64 a0_1, .int .i64 0, .int .i64 65535] rfl ?_; (with_reducible refine (spec_l6In.calls a0_1 0 65535 t111 _ A3.out).mono ?_); rintro e w' ⟨rfl, ⟨nd, rfl⟩⟩; refine ⟨_, rfl, ?_⟩))
  go_ret
  exact ⟨by first | rfl | (simp [errW_none, errW_some] <;> rfl) | (simp [*, errW_none, errW_some] <;> rfl), bwq HB⟩
 ·rw [if_neg c2] at H
  have c2b0 : (a0_0 == (-1)) = false := beq_eq_false_iff_ne.mpr c2
  have c2b1 : (a0_0 != (-1)) = true := bne_iff_ne.mpr c2
  replace H := Option.bind_eq_some_iff.mp H
  obtain ⟨t112, A60, H⟩ := H
  have A6 := Aside0.mk A60
  clear A60
  by_cases c7 : t112 = true
  ·subst c7
   rw [if_pos rfl] at H
   obtain rfl := Option.some.inj H
   go_enter Try.func111, Try.ntmps111
   go_wp2_with (first | ((with_reducible refine gate_dst (N := 1) rfl ?_); refine bxe (cs := #[.int .i64 a0_0, .int .i64 a0_1]) (t := 40) ?_; intro gb110 hg w8 hbox hb; have BK110 := Aside0.mk (hbox); have GW110 := bwz HB hg; have GE110 := bwz HB hg; replace HB := bwb HB hb; clear hb hbox hg; obtain ⟨hcz9, hfz9⟩ := bcf BK110) | ((with_reducible refine gate_callee (f := 77) rfl ?_); refine goesM (some 11) rfl rfl Try.func77 #[.int .i64 a0_0, .int .i64 0, .int .i64 11] rfl ?_; (with_reducible refine (spec_l6In.calls a0_0 0 11 true _ A6.out).mono ?_); rintro e w' ⟨rfl, ⟨nd, rfl⟩⟩; refine ⟨_, rfl, ?_⟩))
   go_ret
   exact ⟨by first | rfl | (simp [errW_none, errW_some] <;> rfl) | (simp [*, errW_none, errW_some] <;> rfl), bwq HB⟩
  ·replace c7 := Bool.eq_false_iff.mpr c7
   subst c7
   have H1 : (some false) = some r := by rw [if_neg (show ¬ (false = true) by decide)] at H; exact H
   clear H
   have H := H1
   clear H1
   obtain rfl := Option.some.inj H
   go_enter Try.func111, Try.ntmps111
   go_wp2_with (first | ((with_reducible refine gate_dst (N := 1) rfl ?_); refine bxe (cs := #[.int .i64 a0_0, .int .i64 a0_1]) (t := 40) ?_; intro gb110 hg w10 hbox hb; have BK110 := Aside0.mk (hbox); have GW110 := bwz HB hg; have GE110 := bwz HB hg; replace HB := bwb HB hb; clear hb hbox hg; obtain ⟨hcz11, hfz11⟩ := bcf BK110) | ((with_reducible refine gate_callee (f := 77) rfl ?_); refine goesM (some 11) rfl rfl Try.func77 #[.int .i64 a0_0, .int .i64 0, .int .i64 11] rfl ?_; (with_reducible refine (spec_l6In.calls a0_0 0 11 false _ A6.out).mono ?_); rintro e w' ⟨rfl, ⟨nd, rfl⟩⟩; refine ⟨_, rfl, ?_⟩))
   go_ret
   exact ⟨by first | rfl | (simp [errW_none, errW_some] <;> rfl) | (simp [*, errW_none, errW_some] <;> rfl), bwq HB⟩
end Go.Proofs.Ytcgbbhkjkkpfoaa.P
