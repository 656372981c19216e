/- FnExactPlaceOk: for every argument the law returns true, and each argument reads behind the call as it read before; no condition. Part 6 of 6: written together by a program out of the session's texts and what the print wrote. -/
import Derived.Deep.Matrix
import Derived.BigQuiet
import Derived.Deep.RegionHeld3
import Derived.Test.YtcgbbhkjkkpfoaaRows
import Derived.WalkKit
import Derived.ProofKit
import Derived.OpenShut
import Derived.ShutString
import Derived.ChangeOld
import Derived.Below
import Derived.SizedLaws
import Derived.Test.YtcgbbhkjkkpfoaaCFnExactPlaceOka4
set_option linter.unusedVariables false
set_option linter.unusedSimpArgs false
set_option maxHeartbeats 16000000
set_option maxRecDepth 100000
namespace Go.Proofs.Ytcgbbhkjkkpfoaa.P
open Go.RowKit Go.Proofs.YtcgbbhkjkkpfoaaW.PrintWords Go.Proofs.YtcgbbhkjkkpfoaaW.PrintLast Go.Proofs.YtcgbbhkjkkpfoaaW.PrintMore Lcm Lcm.G
def formB (p : List Stp) (e0 e1 e2 e3 e4 : Int) (x1 x2 : List Bool) : Bool := (progOkB p && exOkB e0 e1 e2 e3 e4) && (x1.length == p.length && x2.length == p.length)
theorem form_iff {p : List Stp} {e0 e1 e2 e3 e4 : Int} {x1 x2 : List Bool} : formB p e0 e1 e2 e3 e4 x1 x2 = true ↔ (progOkB p && exOkB e0 e1 e2 e3 e4) = true ∧ x1.length = p.length ∧ x2.length = p.length := by
 unfold formB; simp
def OkP (g : G) (n : Nat) (x1 x2 : List Bool) : Prop := ∀ i, i < n → (on x1 i → g.Down i ∨ g.Up i) ∧ (on x2 i → g.comp i ∧ g.Held (on x1) i)
noncomputable def placeOkL (p : List Stp) (e0 e1 e2 e3 e4 : Int) (x1 x2 : List Bool) : Bool := formB p e0 e1 e2 e3 e4 x1 x2 && yes (OkP (gOf p e0 e1 e2 e3 e4) p.length x1 x2)
theorem l13Form_ev (p : List Stp) (e0 e1 e2 e3 e4 : Int) (x1 x2 : List Bool) : Ev (fun k => spec_l13Form.f k p e0 e1 e2 e3 e4 x1 x2) (formB p e0 e1 e2 e3 e4 x1 x2) := by
 unfold spec_l13Form.f formB
 refine Ev.bind (l12Ok_ev p _ _ _ _ _) (Ev.cases (fun h => ?_) (fun h => ?_))
 ·rw [h, Bool.true_and]
  refine Ev.cases (fun h1 => ?_) (fun h1 => ?_)
  ·rw [show (x1.length == p.length) = true from beq_iff_eq.2 (by omega), Bool.true_and]
   refine Ev.eq (Ev.now _) ?_
   rw [Bool.eq_iff_iff]; simp; omega
  ·rw [show (x1.length == p.length) = false from beq_eq_false_iff_ne.2 (by omega)]
   exact Ev.eq (Ev.now _) (by simp)
 ·rw [show (progOkB p && exOkB e0 e1 e2 e3 e4) = false by simpa using h]
  exact Ev.now _
section
variable {g : G} {p : List Stp}
theorem sheld_in (hf : Fit g p) (x1 x2 r s : List Bool) (a : Bool) (i : Nat) (hi : i < p.length) (hs : s.length = p.length) (hE : ¬ on x1 i) (ho : on s i)
  (K1 : on s i → ¬ g.HeldF (on x1) (on s) i → Ev (fun k => spec_l13Held.l1 k (s.set i false) (bl p.length g.keeps) (prl g p.length) true ((i + 1 : Nat) : Int) x1 x2) r)
  (K2 : (on s i → g.HeldF (on x1) (on s) i) → Ev (fun k => spec_l13Held.l1 k s (bl p.length g.keeps) (prl g p.length) a ((i + 1 : Nat) : Int) x1 x2) r) :
  ∀ (d t : Nat) (b : Bool), t + d = (preds g p.length i).length → (b = true ↔ 0 < i ∧ ∀ u, u ∈ (preds g p.length i).take t → g.keeps u ∧ on s u) → Ev (fun k => spec_l13Held.l2 k s (bl p.length g.keeps) (prl g p.length) a (i : Int) b (t : Int) x1 x2) r
 | 0, t, b, hd, hb => by
  have hfew := hf.few
  have hpl := preds_len g p.length i
  have hF : g.HeldF (on x1) (on s) i ↔ b = true := by
   rw [hb, List.take_of_length_le (by omega), pred_all hf]
   unfold G.HeldF
   exact ⟨fun h => h.resolve_left hE, .inr⟩
  refine Ev.step (fun k => by rw [spec_l13Held.l2]) ?_
  rw [rd_prl hi, ints_len, wrapN (n := i) (by omega), Int.toNat_natCast]
  refine Ev.pos (by omega) (Ev.pos (by rw [prl_len]; omega) (Ev.neg (by omega) (Ev.cases (fun h => ?_) (fun h => ?_))))
  ·exact K2 fun _ => hF.2 h
  ·exact Ev.pos (by omega) (K1 ho fun c => h (hF.1 c))
 | d + 1, t, b, hd, hb => by
  have hfew := hf.few
  have hpl := preds_len g p.length i
  have htl : t < (preds g p.length i).length := by omega
  have hm := mem_preds.1 (List.getElem_mem htl)
  have htk : ∀ j, j ∈ (preds g p.length i).take (t + 1) ↔ j ∈ (preds g p.length i).take t ∨ j = (preds g p.length i)[t] := fun j => by
   rw [List.take_add_one, List.getElem?_eq_getElem htl, List.mem_append]; simp
  have no_ : ¬ (g.keeps (preds g p.length i)[t] ∧ on s (preds g p.length i)[t]) → (false = true ↔ 0 < i ∧ ∀ u, u ∈ (preds g p.length i).take (t + 1) → g.keeps u ∧ on s u) := fun h => ⟨(fun c => by cases c), fun q => absurd (q.2 _ ((htk _).2 (.inr rfl))) h⟩
  refine Ev.step (fun k => by rw [spec_l13Held.l2]) ?_
  rw [rd_prl hi, rd_ints htl, ints_len, wrapN (n := t) (by omega)]
  refine Ev.pos (by omega) (Ev.pos (by rw [prl_len]; omega) (Ev.pos (by omega) (Ev.cases (fun h => ?_) (fun h => ?_))))
  ·refine Ev.pos (by omega) (Ev.pos (by omega) (Ev.pos (by rw [bl_len]; omega) (Ev.cases (fun h1 => ?_) (fun h1 => ?_))))
   ·refine Ev.pos (by omega) ?_
    cases h2 : rdOf false s ((preds g p.length i)[t] : Int) with
    | false => exact sheld_in hf x1 x2 r s a i hi hs hE ho K1 K2 d (t + 1) false (by omega) (no_ fun c => by rw [(on_rd (by omega)).2 c.2] at h2; cases h2)
    | true =>
     refine sheld_in hf x1 x2 r s a i hi hs hE ho K1 K2 d (t + 1) true (by omega) ⟨fun _ => ?_, fun _ => rfl⟩
     obtain ⟨q1, q2⟩ := hb.1 h
     exact ⟨q1, fun u hu => ((htk u).1 hu).elim (q2 u) fun e => by rw [e]; exact ⟨(rd_bl hm.1).1 h1, (on_rd (by omega)).1 h2⟩⟩
   ·exact sheld_in hf x1 x2 r s a i hi hs hE ho K1 K2 d (t + 1) false (by omega) (no_ fun c => h1 ((rd_bl hm.1).2 c.1))
  ·refine sheld_in hf x1 x2 r s a i hi hs hE ho K1 K2 d (t + 1) false (by omega) ⟨(fun c => by cases c), fun q => ?_⟩
   exact absurd (hb.2 ⟨q.1, fun u hu => q.2 u ((htk u).2 (.inl hu))⟩) h
theorem sheld_loop (hf : Fit g p) (x1 x2 : List Bool) (hx : x1.length = p.length) : Ev (fun k => spec_l13Held.l0 k (bl p.length g.Reach) (bl p.length g.keeps) (prl g p.length) true x1 x2) (bl p.length (g.Held (on x1))) := by
 have hfew := hf.few
 refine gfp_sweep (g.heldF_mono (on x1)) hf.reach (fun l a => Ev (fun k => spec_l13Held.l0 k l (bl p.length g.keeps) (prl g p.length) a x1 x2) (bl p.length (g.Held (on x1)))) (fun i l a => Ev (fun k => spec_l13Held.l1 k l (bl p.length g.keeps) (prl g p.length) a (i : Int) x1 x2) (bl p.length (g.Held (on x1)))) ?_ ?_ ?_ ?_ _ GInv.start
 ·intro l hl h
  refine Ev.step (fun k => by rw [spec_l13Held.l0]) ?_
  exact Ev.pos rfl h
 ·refine Ev.step (fun k => by rw [spec_l13Held.l0]) ?_
  exact Ev.neg (by decide) (Ev.now _)
 ·intro i l a hi hl K1 K2
  have hlen := hl.len
  refine Ev.step (fun k => by rw [spec_l13Held.l1]) (Ev.pos (by omega) (Ev.pos (by omega) (Ev.cases (fun h => ?_) (fun h => ?_))))
  ·refine Ev.pos (by omega) (Ev.step (fun k => by rw [spec_l13Held.j2]) (Ev.cases (fun h1 => ?_) (fun h1 => ?_)))
   ·rw [wrapN (by omega)]
    exact K2 fun _ => .inl ((on_rd (by omega)).1 h1)
   ·refine sheld_in hf x1 x2 _ l a i hi hlen (fun c => h1 ((on_rd (by omega)).2 c)) ((on_rd (by omega)).1 h) K1 K2 _ 0 _ (Nat.zero_add _) ?_
    rw [decide_eq_true_iff]
    exact ⟨fun h => ⟨by omega, fun u hu => by simp at hu⟩, fun h => by have := h.1; omega⟩
  ·refine Ev.step (fun k => by rw [spec_l13Held.j2]) (Ev.pos rfl ?_)
   rw [wrapN (by omega)]
   exact K2 fun c => absurd ((on_rd (by omega)).2 c) h
 ·intro l a hl h
  have hlen := hl.len
  refine Ev.step (fun k => by rw [spec_l13Held.l1]) ?_
  exact Ev.neg (by omega) h
theorem sheld_ev {e0 e1 e2 e3 e4 : Int} (hok : (progOkB p && exOkB e0 e1 e2 e3 e4) = true) (x1 x2 : List Bool) (hx : x1.length = p.length) : Ev (fun k => spec_l13Held.f k p e0 e1 e2 e3 e4 x1 x2) (bl p.length ((gOf p e0 e1 e2 e3 e4).Held (on x1))) := by
 have hf := fit_of (ok_l hok) e0 e1 e2 e3 e4
 unfold spec_l13Held.f
 exact Ev.bind (sall_ev hf (ok_l hok)) (Ev.bind (safe_of (specKeeps_ev p _ _ _ _ _) hok) (Ev.bind (spreds_ev hf (ok_l hok)) (sheld_loop hf x1 x2 hx)))
theorem placeOk_loop (hn : p.length ≤ 60) (x1 x2 : List Bool) (h1 : x1.length = p.length) (h2 : x2.length = p.length) : ∀ (d i : Nat), i + d = p.length →
  Ev (fun k => spec_PlaceOk.l0 k (bl p.length g.Down) (bl p.length g.Up) (bl p.length g.comp) (bl p.length (g.Held (on x1))) (i : Int) p x1 x2) (yes (∀ j, i ≤ j → j < p.length → (on x1 j → g.Down j ∨ g.Up j) ∧ (on x2 j → g.comp j ∧ g.Held (on x1) j)))
 | 0, i, hd => by
  refine Ev.step (fun k => by rw [spec_PlaceOk.l0]) (Ev.neg (by omega) (Ev.eq (Ev.now _) (yes_pos fun j h3 h4 => absurd h4 (by omega)).symm))
 | d + 1, i, hd => by
  have hi : i < p.length := by omega
  have ih := placeOk_loop hn x1 x2 h1 h2 d (i + 1) (by omega)
  have fall : ¬ ((on x1 i → g.Down i ∨ g.Up i) ∧ (on x2 i → g.comp i ∧ g.Held (on x1) i)) → false = yes (∀ j, i ≤ j → j < p.length → (on x1 j → g.Down j ∨ g.Up j) ∧ (on x2 j → g.comp j ∧ g.Held (on x1) j)) := fun h => (yes_neg fun c => h (c i (Nat.le_refl _) hi)).symm
  have go : ((on x1 i → g.Down i ∨ g.Up i) ∧ (on x2 i → g.comp i ∧ g.Held (on x1) i)) → Ev (fun k => spec_PlaceOk.l0 k (bl p.length g.Down) (bl p.length g.Up) (bl p.length g.comp) (bl p.length (g.Held (on x1))) (wrap64 ((i : Int) + 1)) p x1 x2) (yes (∀ j, i ≤ j → j < p.length → (on x1 j → g.Down j ∨ g.Up j) ∧ (on x2 j → g.comp j ∧ g.Held (on x1) j))) := fun h => by
   rw [wrapN (by omega)]
   refine Ev.eq ih (yes_congr ⟨fun c j h3 h4 => ?_, fun c j h3 h4 => c j (by omega) h4⟩)
   by_cases e : j = i
   ·rw [e]; exact h
   ·exact c j (by omega) h4
  have takes : (on x1 i → g.Down i ∨ g.Up i) → Ev (fun k => if (i : Int) < (x2.length : Int) then (if rdOf false x2 (i : Int) = true then (if (i : Int) < ((bl p.length g.comp).length : Int) then (if rdOf false (bl p.length g.comp) (i : Int) = true then (if (i : Int) < ((bl p.length (g.Held (on x1))).length : Int) then (if rdOf false (bl p.length (g.Held (on x1))) (i : Int) = true then (spec_PlaceOk.l0 k (bl p.length g.Down) (bl p.length g.Up) (bl p.length g.comp) (bl p.length (g.Held (on x1))) (wrap64 ((i : Int) + 1)) p x1 x2) else (some false)) else (none)) else (some false)) else (none)) else (spec_PlaceOk.l0 k (bl p.length g.Down) (bl p.length g.Up) (bl p.length g.comp) (bl p.length (g.Held (on x1))) (wrap64 ((i : Int) + 1)) p x1 x2)) else none) (yes (∀ j, i ≤ j → j < p.length → (on x1 j → g.Down j ∨ g.Up j) ∧ (on x2 j → g.comp j ∧ g.Held (on x1) j))) := fun hp => by
   refine Ev.pos (by omega) (Ev.cases (fun q1 => ?_) (fun q1 => ?_))
   ·have ho := (on_rd (by omega)).1 q1
    refine Ev.pos (by rw [bl_len]; omega) (Ev.cases (fun q2 => ?_) (fun q2 => ?_))
    ·refine Ev.pos (by rw [bl_len]; omega) (Ev.cases (fun q3 => ?_) (fun q3 => ?_))
     ·exact go ⟨hp, fun _ => ⟨(rd_bl hi).1 q2, (rd_bl hi).1 q3⟩⟩
     ·exact Ev.eq (Ev.now _) (fall fun c => q3 ((rd_bl hi).2 (c.2 ho).2))
    ·exact Ev.eq (Ev.now _) (fall fun c => q2 ((rd_bl hi).2 (c.2 ho).1))
   ·exact go ⟨hp, fun c => absurd ((on_rd (by omega)).2 c) q1⟩
  refine Ev.step (fun k => by rw [spec_PlaceOk.l0]) (Ev.pos (by omega) (Ev.pos (by omega) (Ev.pos (by omega) (Ev.cases (fun q1 => ?_) (fun q1 => ?_)))))
  ·have ho := (on_rd (by omega)).1 q1
   refine Ev.pos (by rw [bl_len]; omega) (Ev.cases (fun q2 => ?_) (fun q2 => ?_))
   ·exact takes fun _ => .inl ((rd_bl hi).1 q2)
   ·refine Ev.pos (by rw [bl_len]; omega) (Ev.cases (fun q3 => ?_) (fun q3 => ?_))
    ·exact takes fun _ => .inr ((rd_bl hi).1 q3)
    ·exact Ev.eq (Ev.now _) (fall fun c => (c.1 ho).elim (fun c => q2 ((rd_bl hi).2 c)) fun c => q3 ((rd_bl hi).2 c))
  ·exact takes fun c => absurd ((on_rd (by omega)).2 c) q1
end
section
variable (p : List Stp) (e0 e1 e2 e3 e4 : Int)
theorem placeOk_ev (x1 x2 : List Bool) : Ev (fun k => spec_PlaceOk.f k p e0 e1 e2 e3 e4 x1 x2) (placeOkL p e0 e1 e2 e3 e4 x1 x2) := by
 unfold spec_PlaceOk.f placeOkL
 refine Ev.bind (l13Form_ev p _ _ _ _ _ x1 x2) (Ev.cases (fun h => ?_) (fun h => ?_))
 ·obtain ⟨hok, h1, h2⟩ := form_iff.1 h
  have hf := fit_of (ok_l hok) e0 e1 e2 e3 e4
  rw [h, Bool.true_and]
  refine Ev.bind (safe_of (sdown_ev p _ _ _ _ _) hok) (Ev.bind (safe_of (sup_ev p _ _ _ _ _) hok) (Ev.bind (safe_of (specComp_ev p _ _ _ _ _) hok) (Ev.bind (sheld_ev hok x1 x2 h1) ?_)))
  refine Ev.eq (placeOk_loop hf.few x1 x2 h1 h2 p.length 0 (by omega)) (yes_congr ?_)
  unfold OkP
  exact ⟨fun c i hi => c i (Nat.zero_le _) hi, fun c i _ hi => c i hi⟩
 ·rw [show formB p e0 e1 e2 e3 e4 x1 x2 = false by simpa using h]
  exact Ev.now _
end
end Go.Proofs.Ytcgbbhkjkkpfoaa.P
namespace Go.Proofs.Ytcgbbhkjkkpfoaa.P
set_option maxRecDepth 100000
open Go.RowKit Go.Proofs.YtcgbbhkjkkpfoaaW.PrintWords Go.Proofs.YtcgbbhkjkkpfoaaW.PrintLast Go.Proofs.YtcgbbhkjkkpfoaaW.PrintMore
def Opens (P : Program) (t : TypeId) {α : Type} (d : Kd α) : Prop :=
 ∀ (H : Type) (enc : TypeId × Value → H) (W : World) (base fuel : Nat) (cs : List Value) (x : DataW H × List MemPlace), DataW.trod enc P W base (fun _ => true) true fuel t cs = some x → ∃ v, d.K W v cs
theorem opens_int {P : Program} {t : TypeId} {k : IntKind} (ht : P.underlying t = some (.int k)) : Opens P t (Kd.int k) := fun H enc W base fuel cs x h => by
 obtain ⟨n, rfl, _, _⟩ := DataW.trod_int ht h
 exact ⟨n, rfl⟩
theorem opens_bool {P : Program} {t : TypeId} (ht : P.underlying t = some .bool) : Opens P t Kd.bool := fun H enc W base fuel cs x h => by
 obtain ⟨n, rfl, _⟩ := DataW.trod_bool ht h
 exact ⟨n, rfl⟩
theorem cells_at {w : World} {base n : Nat} {a : Addr} {cs : List Value} (h : w.cells? base a n = some cs) : cs.length = n ∧ ∀ i u, cs[i]? = some u → w.cell? (a.add i) = some u := by
 unfold World.cells? at h
 by_cases hb : base ≤ a.block
 ·rw [if_pos hb] at h
  have hl := mapM_some_length h
  rw [List.length_range] at hl
  refine ⟨hl, fun i u hu => ?_⟩
  have hi : i < n := by rw [← hl]; exact (List.getElem?_eq_some_iff.1 hu).1
  have := mapM_some_get h i i (by rw [List.getElem?_range hi])
  rw [this, hu]
 ·rw [if_neg hb] at h; cases h
theorem opens_slice {P : Program} {t e : TypeId} {α : Type} {d : Kd α} (ht : P.underlying t = some (.slice e)) (hc : P.cellsOf e = d.sz) (he : Opens P e d) : Opens P t (Kd.slice e d) := fun H enc W base fuel cs x h => by
 rcases Go.Deep.open_slice ht h with ⟨rfl, _⟩ | ⟨a, len, cap, m, n, D, Pl, rfl, hb, hl, hm, hmm, rfl, hx⟩
 ·exact ⟨[], none, 0, rfl, Nat.le_refl _, rfl, by simp, fun h => absurd h (by simp)⟩
 ·simp only [if_true] at hmm
  subst hmm
  have each : ∀ i, i < len → ∃ y : α × List Value, d.K W y.1 y.2 ∧ W.cells? base (a.add (i * P.cellsOf e)) (P.cellsOf e) = some y.2 := fun i hi => by
   obtain ⟨cs', h1, h2⟩ := hx i (by omega)
   obtain ⟨v, hv⟩ := he H enc W base n cs' _ h2
   exact ⟨(v, cs'), hv, h1⟩
  have : Nonempty (α × List Value) ∨ len = 0 := by
   by_cases h0 : len = 0
   ·exact .inr h0
   ·obtain ⟨y, _⟩ := each 0 (by omega); exact .inl ⟨y⟩
  rcases this with inh | rfl
  ·have := Classical.inhabited_of_nonempty inh
   obtain ⟨y, hy⟩ := Go.Deep.choose_lt each
   refine ⟨(List.range len).map fun i => (y i).1, some a, m, by simp, by simp; exact hl, by simp, by simp; unfold maxLen at hm; omega, fun _ => ⟨a, rfl, fun j p hp => ?_⟩⟩
   rw [List.getElem?_map] at hp
   have hj : j < len := by
    rcases Nat.lt_or_ge j len with h | h
    ·exact h
    ·rw [List.getElem?_eq_none (by simpa using h)] at hp; cases hp
   rw [List.getElem?_range hj] at hp
   obtain rfl := Option.some.inj hp
   obtain ⟨h1, h2⟩ := hy j hj
   obtain ⟨h3, h4⟩ := cells_at h2
   rw [hc] at h3 h4
   refine ⟨(y j).2, h3, h1, fun i u hu => ?_⟩
   rw [← Addr.add_add]
   exact h4 i u hu
  ·exact ⟨[], some a, m, rfl, Nat.zero_le _, rfl, by simp, fun h => absurd h (by simp)⟩
theorem opens_lopnd : Opens Try.prog 26 k26 := fun H enc W base fuel cs x h => by
 obtain ⟨y0, y1, n, _, hl, h0, h1⟩ := Go.ChangeShapes.trod_struct2 Try.underlying26 h
 have hc : Try.prog.cellsOf 26 = 2 := by kernel_rfl
 have hi : Try.prog.cellsOf 3 = 1 := by kernel_rfl
 rw [hc] at hl
 match cs, hl with
 | [a, b], _ =>
  simp only [hi, List.drop, List.take] at h0 h1
  obtain ⟨v0, e0, _⟩ := DataW.trod_int Try.underlying3 h0
  obtain ⟨v1, e1, _⟩ := DataW.trod_int Try.underlying3 h1
  injection e0 with e0 _
  injection e1 with e1 _
  subst e0 e1
  exact ⟨⟨v0, v1⟩, k26_mk W ⟨v0, v1⟩⟩
theorem opens_ints : Opens Try.prog 32 (Kd.slice 3 (Kd.int .i64)) := opens_slice Try.underlying32 (by kernel_rfl) (opens_int Try.underlying3)
theorem opens_bools : Opens Try.prog 29 (Kd.slice 4 Kd.bool) := opens_slice Try.underlying29 (by kernel_rfl) (opens_bool Try.underlying4)
theorem opens_lstep : Opens Try.prog 90 k90 := fun H enc W base fuel cs x h => by
 obtain ⟨xs, n, _, _, hl, hlen, hf⟩ := DataW.trod_struct Try.underlying90 h
 have hc : Try.prog.cellsOf 90 = 8 := by kernel_rfl
 have hi : Try.prog.cellsOf 3 = 1 := by kernel_rfl
 have ho : Try.prog.cellsOf 26 = 2 := by kernel_rfl
 have hs : Try.prog.cellsOf 32 = 1 := by kernel_rfl
 rw [hc] at hl
 match xs, hlen with
 | [y0, y1, y2, y3, y4, y5], _ =>
  match cs, hl with
  | [c0, c1, c2, c3, c4, c5, c6, c7], _ =>
   have g0 := hf 0 _ rfl
   have g1 := hf 1 _ rfl
   have g2 := hf 2 _ rfl
   have g3 := hf 3 _ rfl
   have g4 := hf 4 _ rfl
   have g5 := hf 5 _ rfl
   simp only [hi, List.drop, List.take, List.getElem?_cons_zero, List.getElem?_cons_succ] at g0
   simp only [hi, List.drop, List.take, List.getElem?_cons_zero, List.getElem?_cons_succ] at g1
   simp only [hi, List.drop, List.take, List.getElem?_cons_zero, List.getElem?_cons_succ] at g2
   simp only [ho, List.drop, List.take, List.getElem?_cons_zero, List.getElem?_cons_succ] at g3
   simp only [ho, List.drop, List.take, List.getElem?_cons_zero, List.getElem?_cons_succ] at g4
   simp only [hs, List.drop, List.take, List.getElem?_cons_zero, List.getElem?_cons_succ] at g5
   obtain ⟨v0, e0, _⟩ := DataW.trod_int Try.underlying3 g0
   obtain ⟨v1, e1, _⟩ := DataW.trod_int Try.underlying3 g1
   obtain ⟨v2, e2, _⟩ := DataW.trod_int Try.underlying3 g2
   obtain ⟨v3, e3⟩ := opens_lopnd H enc W base n _ _ g3
   obtain ⟨v4, e4⟩ := opens_lopnd H enc W base n _ _ g4
   obtain ⟨v5, A, c, e5, hcap, hC⟩ := opens_ints H enc W base n _ _ g5
   have q3 := k26_open e3
   have q4 := k26_open e4
   injection e0 with e0 _
   injection e1 with e1 _
   injection e2 with e2 _
   injection q3 with q3 r3
   injection r3 with r3 _
   injection q4 with q4 r4
   injection r4 with r4 _
   injection e5 with e5 _
   subst e0 e1 e2 q3 r3 q4 r4 e5
   exact ⟨⟨v0, v1, v2, v3, v4, v5⟩, k90_mk W ⟨v0, v1, v2, v3, v4, v5⟩ hcap hC⟩
theorem opens_lsteps : Opens Try.prog 22 (Kd.slice 90 k90) := opens_slice Try.underlying22 (by kernel_rfl) opens_lstep
theorem opens_one {P : Program} {t : TypeId} {f : Field} {α : Type} {d : Kd α} (ht : P.underlying t = some (.struct #[f])) (ho : f.offset = 0) (hc : P.cellsOf t = 1) (hf : P.cellsOf f.type = 1) (he : Opens P f.type d) : Opens P t d := fun H enc W base fuel cs x h => by
 obtain ⟨y0, n, _, hl, h0⟩ := Go.ChangeShapes.trod_struct1 ht h
 rw [hc] at hl
 rw [ho, hf, List.drop_zero, List.take_of_length_le (by omega)] at h0
 exact he H enc W base n cs _ h0
theorem opens_lprog : Opens Try.prog 24 (Kd.slice 90 k90) := opens_one Try.underlying24 rfl (by kernel_rfl) (by kernel_rfl) opens_lsteps
section
variable {H : Type} {enc : TypeId × Value → H} {W : World} {v : Value} {x : DataW H} {p : List MemPlace} {r : Reach} {base : Nat}
theorem open_one_arg {P : Program} {t e : TypeId} {fs : Array Field} {α : Type} {d : Kd α} (ht : P.underlying t = some (.struct fs)) (ho : Opens P t (Kd.slice e d)) (hv : Value.okWide P W r base t v) (h : DataW.Trod enc P W 0 (fun _ => true) true t v x p) :
  ∃ (A : Option Addr) (c : Nat) (l : List α), v = .agg #[.slice A l.length c] ∧ l.length ≤ c ∧ d.C W A l.length l := by
 obtain ⟨cs, rfl, _⟩ := Go.WideShapes.okWide_struct ht hv
 obtain ⟨fuel, h⟩ := h
 obtain ⟨l, A, c, e, hc, hC⟩ := ho H enc W 0 fuel _ _ h
 simp only [Value.cells] at e
 exact ⟨A, c, l, by rw [← Array.toArray_toList (xs := cs), e], hc, hC⟩
end
set_option maxRecDepth 100000
open Go.RowKit Go.Proofs.YtcgbbhkjkkpfoaaW.PrintWords Go.Proofs.YtcgbbhkjkkpfoaaW.PrintLast Go.Proofs.YtcgbbhkjkkpfoaaW.PrintMore
structure LExp where
 f0 : Int
 f1 : S26
 f2 : S26
section
variable {H : Type} {enc : TypeId × Value → H} {W : World} {v : Value} {x : DataW H} {p : List MemPlace} {r : Reach} {base : Nat}
theorem open_expr_arg (hv : Value.okWide Try.prog W r base 28 v) (h : DataW.Trod enc Try.prog W 0 (fun _ => true) true 28 v x p) :
  ∃ x : LExp, v = .agg #[.int .i64 x.f0, .int .i64 x.f1.f0, .int .i64 x.f1.f1, .int .i64 x.f2.f0, .int .i64 x.f2.f1] := by
 obtain ⟨cs, rfl, _⟩ := Go.WideShapes.okWide_struct Try.underlying28 hv
 obtain ⟨fuel, h⟩ := h
 obtain ⟨xs, n, _, _, hl, hlen, hf⟩ := DataW.trod_struct Try.underlying28 h
 have hc : Try.prog.cellsOf 28 = 5 := by kernel_rfl
 have hi : Try.prog.cellsOf 3 = 1 := by kernel_rfl
 have ho : Try.prog.cellsOf 26 = 2 := by kernel_rfl
 rw [hc] at hl
 simp only [Value.cells] at hl hf
 have hcs : cs = cs.toList.toArray := (Array.toArray_toList (xs := cs)).symm
 match xs, hlen with
 | [y0, y1, y2], _ =>
  generalize cs.toList = l at hl hf hcs
  match l, hl with
  | [c0, c1, c2, c3, c4], _ =>
   have g0 := hf 0 _ rfl
   have g1 := hf 1 _ rfl
   have g2 := hf 2 _ rfl
   simp only [hi, List.drop, List.take, List.getElem?_cons_zero, List.getElem?_cons_succ] at g0
   simp only [ho, List.drop, List.take, List.getElem?_cons_zero, List.getElem?_cons_succ] at g1
   simp only [ho, List.drop, List.take, List.getElem?_cons_zero, List.getElem?_cons_succ] at g2
   obtain ⟨v0, e0, _⟩ := DataW.trod_int Try.underlying3 g0
   obtain ⟨v1, e1⟩ := opens_lopnd H enc W 0 n _ _ g1
   obtain ⟨v2, e2⟩ := opens_lopnd H enc W 0 n _ _ g2
   have q1 := k26_open e1
   have q2 := k26_open e2
   injection e0 with e0 _
   injection q1 with q1 r1
   injection r1 with r1 _
   injection q2 with q2 r2
   injection r2 with r2 _
   subst e0 q1 r1 q2 r2
   exact ⟨⟨v0, v1, v2⟩, by rw [hcs]⟩
theorem open_place_arg (hv : Value.okWide Try.prog W r base 31 v) (h : DataW.Trod enc Try.prog W 0 (fun _ => true) true 31 v x p) :
  ∃ (A B : Option Addr) (c d : Nat) (l m : List Bool), v = .agg #[.slice A l.length c, .slice B m.length d] ∧ l.length ≤ c ∧ Kd.C Kd.bool W A l.length l ∧ m.length ≤ d ∧ Kd.C Kd.bool W B m.length m := by
 obtain ⟨cs, rfl, _⟩ := Go.WideShapes.okWide_struct Try.underlying31 hv
 obtain ⟨fuel, h⟩ := h
 obtain ⟨xs, n, _, _, hl, hlen, hf⟩ := DataW.trod_struct Try.underlying31 h
 have hc : Try.prog.cellsOf 31 = 2 := by kernel_rfl
 have hs : Try.prog.cellsOf 29 = 1 := by kernel_rfl
 rw [hc] at hl
 simp only [Value.cells] at hl hf
 have hcs : cs = cs.toList.toArray := (Array.toArray_toList (xs := cs)).symm
 match xs, hlen with
 | [y0, y1], _ =>
  generalize cs.toList = l at hl hf hcs
  match l, hl with
  | [c0, c1], _ =>
   have g0 := hf 0 _ rfl
   have g1 := hf 1 _ rfl
   simp only [hs, List.drop, List.take, List.getElem?_cons_zero, List.getElem?_cons_succ] at g0
   simp only [hs, List.drop, List.take, List.getElem?_cons_zero, List.getElem?_cons_succ] at g1
   obtain ⟨l0, A, c, e0, hc0, hC0⟩ := opens_bools H enc W 0 n _ _ g0
   obtain ⟨l1, B, d, e1, hc1, hC1⟩ := opens_bools H enc W 0 n _ _ g1
   injection e0 with e0 _
   injection e1 with e1 _
   subst e0 e1
   exact ⟨A, B, c, d, l0, l1, by rw [hcs], hc0, hC0, hc1, hC1⟩
end
end Go.Proofs.Ytcgbbhkjkkpfoaa.P
namespace Go.Proofs.Ytcgbbhkjkkpfoaa.P
open Go.RowKit Go.Proofs.YtcgbbhkjkkpfoaaW.PrintWords Go.Proofs.YtcgbbhkjkkpfoaaW.PrintLast Go.Proofs.YtcgbbhkjkkpfoaaW.PrintMore
attribute [local go_sem] max2_int min2_int max_two min_two max_three min_three max_four min_four
def laws_toExpr.f (a0_0 : Int) (a0_1 : Int) (a0_2 : Int) (a0_3 : Int) (a0_4 : Int) : Option (Int × Int × Int × Int × Int) := (laws_toOpnd.f a0_1 a0_2).bind fun bt235 => ((laws_toOpnd.f a0_3 a0_4).bind fun bt237 => (some (a0_0, bt235.1, bt235.2, bt237.1, bt237.2)))
theorem laws_toExpr.calls (a0_0 : Int) (a0_1 : Int) (a0_2 : Int) (a0_3 : Int) (a0_4 : Int) (r1 : Int) (r2 : Int) (r3 : Int) (r4 : Int) (r5 : Int) (w : World) (h : laws_toExpr.f a0_0 a0_1 a0_2 a0_3 a0_4 = some (r1, r2, r3, r4, r5)) :
  Calls Try.prog 15 #[.agg #[.int .i64 a0_0, .int .i64 a0_1, .int .i64 a0_2, .int .i64 a0_3, .int .i64 a0_4]] w fun e w' => e = .returned (.agg #[.int .i64 r1, .int .i64 r2, .int .i64 r3, .int .i64 r4, .int .i64 r5]) ∧ Below w.heap.size w w' := by
 have hu28 := Try.underlying28
 have hu42 := Try.underlying42
 have hu26 := Try.underlying26
 have hu40 := Try.underlying40
 have HB := Aside0.mk (Below.refl w.heap.size w)
 have H : ((laws_toOpnd.f a0_1 a0_2).bind fun bt235 => ((laws_toOpnd.f a0_3 a0_4).bind fun bt237 => (some (a0_0, bt235.1, bt235.2, bt237.1, bt237.2)))) = some (r1, r2, r3, r4, r5) := h
 clear h
 replace H := Option.bind_eq_some_iff.mp H
 obtain ⟨⟨t235, t236⟩, A20, H⟩ := H
 have A2 := Aside0.mk A20
 clear A20
 replace H := Option.bind_eq_some_iff.mp H
 obtain ⟨⟨t237, t238⟩, A30, H⟩ := H
 have A3 := Aside0.mk A30
 clear A30
 simp only [Option.some.injEq, Prod.mk.injEq] at H
 obtain ⟨rfl, rfl, rfl, rfl, rfl⟩ := H
 go_enter Try.func15, Try.ntmps15
 go_wp2_with (first | ((with_reducible refine gate_dst (N := 1) rfl ?_); refine bxe (cs := #[.int .i64 a0_0, .int .i64 a0_1, .int .i64 a0_2, .int .i64 a0_3, .int .i64 a0_4]) (t := 28) ?_; intro gb232 hg w4 hbox hb; have BK232 := Aside0.mk (hbox); have GW232 := bwz HB hg; have GE232 := bwz HB hg; replace HB := bwb HB hb; clear hb hbox hg) | ((with_reducible refine gate_dst (N := 2) rfl ?_); refine bxe (cs := #[.int .i64 0, .int .i64 0, .int .i64 0, .int .i64 0, .int .i64 0]) (t := 42) ?_; intro gb233 hg w5 hbox hb; have BK233 := Aside0.mk (hbox); have GW233 := bwz HB hg; have GE233 := bwz HB hg; replace HB := bwb HB hb; have NB232_233 := bkl BK232 hg; have NB233_232 := bkg BK232 hg; replace BK232 := bkb BK232 hb; clear hb hbox hg) | ((with_reducible refine gate_dst (N := 3) rfl ?_); refine bxe (cs := #[.int .i64 0, .int .i64 0, .int .i64 0, .int .i64 0, .int .i64 0]) (t := 42) ?_; intro gb234 hg w6 hbox hb; have BK234 := Aside0.mk (hbox); have GW234 := bwz HB hg; have GE234 := bwz HB hg; replace HB := bwb HB hb; have NB232_234 := bkl BK232 hg; have NB234_232 := bkg BK232 hg; replace BK232 := bkb BK232 hb; have NB233_234 := bkl BK233 hg; have NB234_233 := bkg BK233 hg; replace BK233 := bkb BK233 hb; clear hb hbox hg; have hnb7 := NB232_233.out; have hnc7 := NB233_232.out; have hnb8 := NB232_234.out; have hnc8 := NB234_232.out; obtain ⟨hcz9, hfz9⟩ := bcf BK232; have hnb10 := NB234_233.out; have hnc10 := NB233_234.out; obtain ⟨hcz11, hfz11⟩ := bcf BK234) | ((with_reducible refine gate_callee (f := 48) rfl ?_); refine goesM (some 9) rfl rfl Try.func48 #[.agg #[.int .i64 a0_1, .int .i64 a0_2]] rfl ?_; (with_reducible refine (laws_toOpnd.calls a0_1 a0_2 t235 t236 _ A2.out).mono ?_); rintro e w12 ⟨rfl, hb⟩; refine ⟨_, rfl, ?_⟩; replace BK232 := Aside0.mk (blk_below (g := gb232) (o := .cells #[.int .i64 a0_0, .int .i64 a0_1, .int .i64 a0_2, .int .i64 a0_3, .int .i64 a0_4] 28 (0, 0)) (by (with_reducible repeat (first | refine blk_drewN ?_ _ | refine blk_drew ?_ | refine blk_alloc ?_ _)); refine blk_far ?_ NB232_234.out _; exact bkq BK232) hb); replace BK233 := Aside0.mk (blk_below (g := gb233) (o := .cells #[.int .i64 0, .int .i64 0, .int .i64 0, .int .i64 0, .int .i64 0] 42 (0, 0)) (by (with_reducible repeat (first | refine blk_drewN ?_ _ | refine blk_drew ?_ | refine blk_alloc ?_ _)); refine blk_far ?_ NB233_234.out _; exact bkq BK233) hb); replace BK234 := Aside0.mk (blk_below (g := gb234) (o := .cells #[.int .i64 a0_0, .int .i64 0, .int .i64 0, .int .i64 0, .int .i64 0] 42 (0, 0)) (by (with_reducible repeat (first | refine blk_drewN ?_ _ | refine blk_drew ?_ | refine blk_alloc ?_ _)); refine blk_put (cs := #[.int .i64 0, .int .i64 0, .int .i64 0, .int .i64 0, .int .i64 0]) ?_ 0 _ rfl; exact bkq BK234) hb); replace HB := bwb HB hb; (try clear hb); (try clear hb2); (try clear hk); (try clear hi); obtain ⟨hcz13, hfz13⟩ := bcf BK234; obtain ⟨hcz14, hfz14⟩ := bcf BK232) | ((with_reducible refine gate_callee (f := 48) rfl ?_); refine goesM (some 13) rfl rfl Try.func48 #[.agg #[.int .i64 a0_3, .int .i64 a0_4]] rfl ?_; (with_reducible refine (laws_toOpnd.calls a0_3 a0_4 t237 t238 _ A3.out).mono ?_); rintro e w15 ⟨rfl, hb⟩; refine ⟨_, rfl, ?_⟩; replace BK232 := Aside0.mk (blk_below (g := gb232) (o := .cells #[.int .i64 a0_0, .int .i64 a0_1, .int .i64 a0_2, .int .i64 a0_3, .int .i64 a0_4] 28 (0, 0)) (by (with_reducible repeat (first | refine blk_drewN ?_ _ | refine blk_drew ?_ | refine blk_alloc ?_ _)); refine blk_far ?_ NB232_234.out _; (with_reducible repeat (first | refine blk_drewN ?_ _ | refine blk_drew ?_ | refine blk_alloc ?_ _)); refine blk_far ?_ NB232_234.out _; exact bkq BK232) hb); replace BK233 := Aside0.mk (blk_below (g := gb233) (o := .cells #[.int .i64 0, .int .i64 0, .int .i64 0, .int .i64 0, .int .i64 0] 42 (0, 0)) (by (with_reducible repeat (first | refine blk_drewN ?_ _ | refine blk_drew ?_ | refine blk_alloc ?_ _)); refine blk_far ?_ NB233_234.out _; (with_reducible repeat (first | refine blk_drewN ?_ _ | refine blk_drew ?_ | refine blk_alloc ?_ _)); refine blk_far ?_ NB233_234.out _; exact bkq BK233) hb); replace BK234 := Aside0.mk (blk_below (g := gb234) (o := .cells #[.int .i64 a0_0, .int .i64 t235, .int .i64 t236, .int .i64 0, .int .i64 0] 42 (0, 0)) (by (with_reducible repeat (first | refine blk_drewN ?_ _ | refine blk_drew ?_ | refine blk_alloc ?_ _)); refine blk_put (cs := #[.int .i64 a0_0, .int .i64 t235, .int .i64 0, .int .i64 0, .int .i64 0]) ?_ 2 _ rfl; (with_reducible repeat (first | refine blk_drewN ?_ _ | refine blk_drew ?_ | refine blk_alloc ?_ _)); refine blk_put (cs := #[.int .i64 a0_0, .int .i64 0, .int .i64 0, .int .i64 0, .int .i64 0]) ?_ 1 _ rfl; exact bkq BK234) hb); replace HB := bwb HB hb; (try clear hb); (try clear hb2); (try clear hk); (try clear hi); obtain ⟨hcz16, hfz16⟩ := bcf BK234; obtain ⟨hcz17, hfz17⟩ := bcf BK233))
 refine bodyPost_ret (results_cell_row rfl _ _ gb233 42 #[.int .i64 a0_0, .int .i64 t235, .int .i64 t236, .int .i64 t237, .int .i64 t238] (0, 0) _ rfl (by (with_reducible repeat (first | refine blk_drewN ?_ _ | refine blk_drew ?_ | refine blk_alloc ?_ _)); refine blk_put (cs := #[.int .i64 a0_0, .int .i64 t235, .int .i64 t236, .int .i64 t237, .int .i64 0]) ?_ 4 _ rfl; (with_reducible repeat (first | refine blk_drewN ?_ _ | refine blk_drew ?_ | refine blk_alloc ?_ _)); refine blk_put (cs := #[.int .i64 a0_0, .int .i64 t235, .int .i64 t236, .int .i64 0, .int .i64 0]) ?_ 3 _ rfl; (with_reducible repeat (first | refine blk_drewN ?_ _ | refine blk_drew ?_ | refine blk_alloc ?_ _)); refine blk_put (cs := #[.int .i64 a0_0, .int .i64 t235, .int .i64 0, .int .i64 0, .int .i64 0]) ?_ 2 _ rfl; (with_reducible repeat (first | refine blk_drewN ?_ _ | refine blk_drew ?_ | refine blk_alloc ?_ _)); refine blk_put (cs := #[.int .i64 a0_0, .int .i64 0, .int .i64 0, .int .i64 0, .int .i64 0]) ?_ 1 _ rfl; (with_reducible repeat (first | refine blk_drewN ?_ _ | refine blk_drew ?_ | refine blk_alloc ?_ _)); refine blk_put (cs := #[.int .i64 0, .int .i64 0, .int .i64 0, .int .i64 0, .int .i64 0]) ?_ 0 _ rfl; (with_reducible repeat (first | refine blk_drewN ?_ _ | refine blk_drew ?_ | refine blk_alloc ?_ _)); refine blk_far ?_ NB233_234.out _; (with_reducible repeat (first | refine blk_drewN ?_ _ | refine blk_drew ?_ | refine blk_alloc ?_ _)); refine blk_far ?_ NB233_234.out _; exact bkq BK233) Try.underlying42 rfl (by kernel_rfl)) rfl ?_
 exact ⟨by first | rfl | (simp [errW_none, errW_some] <;> rfl) | (simp [*, errW_none, errW_some] <;> rfl), bwq HB⟩
end Go.Proofs.Ytcgbbhkjkkpfoaa.P
namespace Go.Proofs.Ytcgbbhkjkkpfoaa.P
open Go.RowKit Go.Proofs.YtcgbbhkjkkpfoaaW.PrintWords Go.Proofs.YtcgbbhkjkkpfoaaW.PrintLast Go.Proofs.YtcgbbhkjkkpfoaaW.PrintMore Lcm
theorem toExpr_eq (e0 e1 e2 e3 e4 : Int) : laws_toExpr.f e0 e1 e2 e3 e4 = some (e0, e1, e2, e3, e4) := by unfold laws_toExpr.f laws_toOpnd.f; rfl
end Go.Proofs.Ytcgbbhkjkkpfoaa.P
namespace Go.Proofs.Ytcgbbhkjkkpfoaa.P
open Go.RowKit Go.Proofs.YtcgbbhkjkkpfoaaW.PrintWords Go.Proofs.YtcgbbhkjkkpfoaaW.PrintLast Go.Proofs.YtcgbbhkjkkpfoaaW.PrintMore
attribute [local go_sem] max2_int min2_int max_two min_two max_three min_three max_four min_four
def laws_szBoolS.f (l0 : List Bool) (a1 : Int) : Option (Int) := if (wrap64 (a1 - (l0.length : Int))) < 0 then (some (-1)) else (some (wrap64 (a1 - (l0.length : Int))))
theorem laws_szBoolS.calls (A0 : Option Addr) (c0 : Nat) (l0 : List Bool) (a1 : Int) (r : Int) (w : World) (hr0 : Kd.C Kd.bool w A0 l0.length l0) (hc0 : l0.length ≤ c0) (h : laws_szBoolS.f l0 a1 = some r) :
  Calls Try.prog 43 #[.slice A0 l0.length c0, .int .i64 a1] w fun e w' => e = .returned (.int .i64 r) ∧ Drawn0 w w' := by
 have HR0 := Aside0.mk hr0
 have HC0 := Aside0.mk hc0
 clear hr0 hc0
 have H : (if (wrap64 (a1 - (l0.length : Int))) < 0 then (some (-1)) else (some (wrap64 (a1 - (l0.length : Int))))) = some r := h
 clear h
 by_cases c3 : (wrap64 (a1 - (l0.length : Int))) < 0
 ·rw [if_pos c3] at H
  have c3b0 : decide ((wrap64 (a1 - (l0.length : Int))) < 0) = true := decide_eq_true c3
  clear c3
  obtain rfl := Option.some.inj H
  go_enter Try.func43, Try.ntmps43
  go_wp2
  go_ret
  exact ⟨by first | rfl | (simp; done) | (simp [*]; done), by repeat (first | exact Drawn0.refl _ | apply Drawn0.step)⟩
 ·rw [if_neg c3] at H
  have c3b0 : decide ((wrap64 (a1 - (l0.length : Int))) < 0) = false := decide_eq_false c3
  clear c3
  obtain rfl := Option.some.inj H
  go_enter Try.func43, Try.ntmps43
  go_wp2
  go_ret
  exact ⟨by first | rfl | (simp; done) | (simp [*]; done), by repeat (first | exact Drawn0.refl _ | apply Drawn0.step)⟩
def laws_szPlace.f (l0_0 : List Bool) (l0_1 : List Bool) (a1 : Int) : Option (Int) := (laws_szBoolS.f l0_0 a1).bind fun t108 => (if t108 < 0 then (some (-1)) else ((laws_szBoolS.f l0_1 t108).bind fun t109 => (if t109 < 0 then (some (-1)) else (some t109))))
theorem laws_szPlace.calls (A0_0 : Option Addr) (c0_0 : Nat) (l0_0 : List Bool) (A0_1 : Option Addr) (c0_1 : Nat) (l0_1 : List Bool) (a1 : Int) (r : Int) (w : World) (hr0_0 : Kd.C Kd.bool w A0_0 l0_0.length l0_0) (hc0_0 : l0_0.length ≤ c0_0) (hr0_1 : Kd.C Kd.bool w A0_1 l0_1.length l0_1) (hc0_1 : l0_1.length ≤ c0_1) (h : laws_szPlace.f l0_0 l0_1 a1 = some r) :
  Calls Try.prog 12 #[.agg #[.slice A0_0 l0_0.length c0_0, .slice A0_1 l0_1.length c0_1], .int .i64 a1] w fun e w' => e = .returned (.int .i64 r) ∧ Below w.heap.size w w' := by
 have hu31 := Try.underlying31
 have HR0_0 := Aside0.mk hr0_0
 have HC0_0 := Aside0.mk hc0_0
 clear hr0_0 hc0_0
 have HR0_1 := Aside0.mk hr0_1
 have HC0_1 := Aside0.mk hc0_1
 clear hr0_1 hc0_1
 have HB := Aside0.mk (Below.refl w.heap.size w)
 have H : ((laws_szBoolS.f l0_0 a1).bind fun t108 => (if t108 < 0 then (some (-1)) else ((laws_szBoolS.f l0_1 t108).bind fun t109 => (if t109 < 0 then (some (-1)) else (some t109))))) = some r := h
 clear h
 replace H := Option.bind_eq_some_iff.mp H
 obtain ⟨t108, A30, H⟩ := H
 have A3 := Aside0.mk A30
 clear A30
 by_cases c4 : t108 < 0
 ·rw [if_pos c4] at H
  have c4b0 : decide (t108 < 0) = true := decide_eq_true c4
  clear c4
  obtain rfl := Option.some.inj H
  go_enter Try.func12, Try.ntmps12
  go_wp2_with (first | ((with_reducible refine gate_dst (N := 2) rfl ?_); refine bxe (cs := #[.slice A0_0 l0_0.length c0_0, .slice A0_1 l0_1.length c0_1]) (t := 31) ?_; intro gb107 hg w5 hbox hb; have BK107 := Aside0.mk (hbox); have GW107 := bwz HB hg; have GE107 := bwz HB hg; replace HB := bwb HB hb; clear hb hbox hg; obtain ⟨hcz6, hfz6⟩ := bcf BK107) | ((with_reducible refine gate_callee (f := 43) rfl ?_); refine goesM (some 8) rfl rfl Try.func43 #[.slice A0_0 l0_0.length c0_0, .int .i64 a1] rfl ?_; (with_reducible refine (laws_szBoolS.calls _ _ l0_0 a1 t108 _ ?side1 ?side2 A3.out).mono ?_); (case side1 => exact Cq (Kd.C_below HR0_0.out HB.out)); (case side2 => exact HC0_0.out); rintro e w' ⟨rfl, ⟨nd, rfl⟩⟩; refine ⟨_, rfl, ?_⟩))
  go_ret
  exact ⟨by first | rfl | (simp [errW_none, errW_some] <;> rfl) | (simp [*, errW_none, errW_some] <;> rfl), bwq HB⟩
 ·rw [if_neg c4] at H
  have c4b0 : decide (t108 < 0) = false := decide_eq_false c4
  clear c4
  replace H := Option.bind_eq_some_iff.mp H
  obtain ⟨t109, A70, H⟩ := H
  have A7 := Aside0.mk A70
  clear A70
  by_cases c8 : t109 < 0
  ·rw [if_pos c8] at H
   have c8b0 : decide (t109 < 0) = true := decide_eq_true c8
   clear c8
   obtain rfl := Option.some.inj H
   go_enter Try.func12, Try.ntmps12
   go_wp2_with (first | ((with_reducible refine gate_dst (N := 2) rfl ?_); refine bxe (cs := #[.slice A0_0 l0_0.length c0_0, .slice A0_1 l0_1.length c0_1]) (t := 31) ?_; intro gb107 hg w9 hbox hb; have BK107 := Aside0.mk (hbox); have GW107 := bwz HB hg; have GE107 := bwz HB hg; replace HB := bwb HB hb; clear hb hbox hg; obtain ⟨hcz10, hfz10⟩ := bcf BK107) | ((with_reducible refine gate_callee (f := 43) rfl ?_); refine goesM (some 8) rfl rfl Try.func43 #[.slice A0_0 l0_0.length c0_0, .int .i64 a1] rfl ?_; (with_reducible refine (laws_szBoolS.calls _ _ l0_0 a1 t108 _ ?side1 ?side2 A3.out).mono ?_); (case side1 => exact Cq (Kd.C_below HR0_0.out HB.out)); (case side2 => exact HC0_0.out); rintro e w' ⟨rfl, ⟨nd, rfl⟩⟩; refine ⟨_, rfl, ?_⟩) | ((with_reducible refine gate_callee (f := 43) rfl ?_); refine goesM (some 14) rfl rfl Try.func43 #[.slice A0_1 l0_1.length c0_1, .int .i64 t108] rfl ?_; (with_reducible refine (laws_szBoolS.calls _ _ l0_1 t108 t109 _ ?side1 ?side2 A7.out).mono ?_); (case side1 => repeat (first | exact (Kd.C_below HR0_1.out (bwq HB)) | (with_reducible refine Kd.C_alloc ?_ _) | (with_reducible refine Kd.C_drewN ?_ _) | (with_reducible refine Kd.C_drew ?_))); (case side2 => exact HC0_1.out); rintro e w' ⟨rfl, ⟨nd, rfl⟩⟩; refine ⟨_, rfl, ?_⟩))
   go_ret
   exact ⟨by first | rfl | (simp [errW_none, errW_some] <;> rfl) | (simp [*, errW_none, errW_some] <;> rfl), bwq HB⟩
  ·rw [if_neg c8] at H
   have c8b0 : decide (t109 < 0) = false := decide_eq_false c8
   clear c8
   obtain rfl := Option.some.inj H
   go_enter Try.func12, Try.ntmps12
   go_wp2_with (first | ((with_reducible refine gate_dst (N := 2) rfl ?_); refine bxe (cs := #[.slice A0_0 l0_0.length c0_0, .slice A0_1 l0_1.length c0_1]) (t := 31) ?_; intro gb107 hg w11 hbox hb; have BK107 := Aside0.mk (hbox); have GW107 := bwz HB hg; have GE107 := bwz HB hg; replace HB := bwb HB hb; clear hb hbox hg; obtain ⟨hcz12, hfz12⟩ := bcf BK107) | ((with_reducible refine gate_callee (f := 43) rfl ?_); refine goesM (some 8) rfl rfl Try.func43 #[.slice A0_0 l0_0.length c0_0, .int .i64 a1] rfl ?_; (with_reducible refine (laws_szBoolS.calls _ _ l0_0 a1 t108 _ ?side1 ?side2 A3.out).mono ?_); (case side1 => exact Cq (Kd.C_below HR0_0.out HB.out)); (case side2 => exact HC0_0.out); rintro e w' ⟨rfl, ⟨nd, rfl⟩⟩; refine ⟨_, rfl, ?_⟩) | ((with_reducible refine gate_callee (f := 43) rfl ?_); refine goesM (some 14) rfl rfl Try.func43 #[.slice A0_1 l0_1.length c0_1, .int .i64 t108] rfl ?_; (with_reducible refine (laws_szBoolS.calls _ _ l0_1 t108 t109 _ ?side1 ?side2 A7.out).mono ?_); (case side1 => repeat (first | exact (Kd.C_below HR0_1.out (bwq HB)) | (with_reducible refine Kd.C_alloc ?_ _) | (with_reducible refine Kd.C_drewN ?_ _) | (with_reducible refine Kd.C_drew ?_))); (case side2 => exact HC0_1.out); rintro e w' ⟨rfl, ⟨nd, rfl⟩⟩; refine ⟨_, rfl, ?_⟩))
   go_ret
   exact ⟨by first | rfl | (simp [errW_none, errW_some] <;> rfl) | (simp [*, errW_none, errW_some] <;> rfl), bwq HB⟩
def laws_toPlace.f (k : Nat) (l0_0 : List Bool) (l0_1 : List Bool) : Option (List Bool × List Bool) := (laws_toBoolS.f k l0_0).bind fun t247 => ((laws_toBoolS.f k l0_1).bind fun t250 => (some (t247, t250)))
theorem laws_toPlace.calls (k : Nat) (A0_0 : Option Addr) (c0_0 : Nat) (l0_0 : List Bool) (A0_1 : Option Addr) (c0_1 : Nat) (l0_1 : List Bool) (r1 : List Bool) (r2 : List Bool) (w : World) (hr0_0 : Kd.C Kd.bool w A0_0 l0_0.length l0_0) (hc0_0 : l0_0.length ≤ c0_0) (hr0_1 : Kd.C Kd.bool w A0_1 l0_1.length l0_1) (hc0_1 : l0_1.length ≤ c0_1) (h : laws_toPlace.f k l0_0 l0_1 = some (r1, r2)) :
  Calls Try.prog 16 #[.agg #[.slice A0_0 l0_0.length c0_0, .slice A0_1 l0_1.length c0_1]] w fun e w' => ∃ v0_ v1_ : Value, e = .returned (.agg #[v0_, v1_]) ∧ Kd.R Kd.bool 4 w' w.heap.size (fun k_ => some k_ ≠ (v1_ : Value).ownBlock) v0_ r1 ∧ Kd.R Kd.bool 4 w' w.heap.size (fun k_ => some k_ ≠ (v0_ : Value).ownBlock) v1_ r2 ∧ Below w.heap.size w w' := by
 have hu31 := Try.underlying31
 have hu44 := Try.underlying44
 have HR0_0 := Aside0.mk hr0_0
 have HC0_0 := Aside0.mk hc0_0
 clear hr0_0 hc0_0
 have HR0_1 := Aside0.mk hr0_1
 have HC0_1 := Aside0.mk hc0_1
 clear hr0_1 hc0_1
 have HB := Aside0.mk (Below.refl w.heap.size w)
 have H : ((laws_toBoolS.f k l0_0).bind fun t247 => ((laws_toBoolS.f k l0_1).bind fun t250 => (some (t247, t250)))) = some (r1, r2) := h
 clear h
 replace H := Option.bind_eq_some_iff.mp H
 obtain ⟨t247, A20, H⟩ := H
 have A2 := Aside0.mk A20
 clear A20
 replace H := Option.bind_eq_some_iff.mp H
 obtain ⟨t250, A30, H⟩ := H
 have A3 := Aside0.mk A30
 clear A30
 simp only [Option.some.injEq, Prod.mk.injEq] at H
 obtain ⟨rfl, rfl⟩ := H
 go_enter Try.func16, Try.ntmps16
 go_wp2_with (first | ((with_reducible refine gate_dst (N := 1) rfl ?_); refine bxe (cs := #[.slice A0_0 l0_0.length c0_0, .slice A0_1 l0_1.length c0_1]) (t := 31) ?_; intro gb244 hg w4 hbox hb; have BK244 := Aside0.mk (hbox); have GW244 := bwz HB hg; have GE244 := bwz HB hg; replace HB := bwb HB hb; clear hb hbox hg) | ((with_reducible refine gate_dst (N := 2) rfl ?_); refine bxe (cs := #[.slice none 0 0, .slice none 0 0]) (t := 44) ?_; intro gb245 hg w5 hbox hb; have BK245 := Aside0.mk (hbox); have GW245 := bwz HB hg; have GE245 := bwz HB hg; replace HB := bwb HB hb; have NB244_245 := bkl BK244 hg; have NB245_244 := bkg BK244 hg; replace BK244 := bkb BK244 hb; clear hb hbox hg) | ((with_reducible refine gate_dst (N := 3) rfl ?_); refine bxe (cs := #[.slice none 0 0, .slice none 0 0]) (t := 44) ?_; intro gb246 hg w6 hbox hb; have BK246 := Aside0.mk (hbox); have GW246 := bwz HB hg; have GE246 := bwz HB hg; replace HB := bwb HB hb; have NB244_246 := bkl BK244 hg; have NB246_244 := bkg BK244 hg; replace BK244 := bkb BK244 hb; have NB245_246 := bkl BK245 hg; have NB246_245 := bkg BK245 hg; replace BK245 := bkb BK245 hb; clear hb hbox hg; have hnb7 := NB244_245.out; have hnc7 := NB245_244.out; have hnb8 := NB244_246.out; have hnc8 := NB246_244.out; obtain ⟨hcz9, hfz9⟩ := bcf BK244) | ((with_reducible refine gate_callee (f := 49) rfl ?_); refine goesM (some 6) rfl rfl Try.func49 #[.slice A0_0 l0_0.length c0_0] rfl ?_; (with_reducible refine (laws_toBoolS.calls k _ _ l0_0 t247 _ ?side1 ?side2 A2.out).mono ?_); (case side1 => exact Cq (Kd.C_below HR0_0.out HB.out)); (case side2 => exact HC0_0.out); rintro e w10 ⟨v248, rfl, ho0, hb⟩; refine ⟨_, rfl, ?_⟩; have HO249 := Aside0.mk (Kd.R_lower ho0 (below_size (bwq HB))); replace BK244 := bkb BK244 hb; replace BK245 := bkb BK245 hb; replace BK246 := bkb BK246 hb; replace HB := bwb HB hb; (try clear hb); (try clear hb2); (try clear hk); (try clear hi); (try clear ho0); obtain ⟨Ao11, co11, eo11⟩ := Kd.R_slice HO249.out; subst eo11; have hnb12 := NB246_245.out; have hnc12 := NB245_246.out; obtain ⟨hcz13, hfz13⟩ := bcf BK246; obtain ⟨hcz14, hfz14⟩ := bcf BK244) | ((with_reducible refine gate_callee (f := 49) rfl ?_); refine goesM (some 10) rfl rfl Try.func49 #[.slice A0_1 l0_1.length c0_1] rfl ?_; (with_reducible refine (laws_toBoolS.calls k _ _ l0_1 t250 _ ?side1 ?side2 A3.out).mono ?_); (case side1 => exact Kd.C_below HR0_1.out (bwq HB)); (case side2 => exact HC0_1.out); rintro e w15 ⟨v251, rfl, ho0, hb⟩; refine ⟨_, rfl, ?_⟩; have HO252 := Aside0.mk (Kd.R_lower (Kd.R_new' ho0 (Kd.R_lt (by (with_reducible repeat (first | apply Kd.R_alloc | apply Kd.R_drewN | apply Kd.R_drew)); exact (Kd.R_mono (Kd.R_far (p := ⟨gb246, 0, none⟩) (Kd.R_types HO249.out BK246.out (by decide)) (fun _ hk => hk.2) (.slice Ao11 t247.length co11)) (fun _ h_ => h_.1))))) (below_size (bwq HB))); replace HO249 := Aside0.mk (Kd.R_elder' (by (with_reducible repeat (first | apply Kd.R_alloc | apply Kd.R_drewN | apply Kd.R_drew)); exact (Kd.R_mono (Kd.R_far (p := ⟨gb246, 0, none⟩) (Kd.R_types HO249.out BK246.out (by decide)) (fun _ hk => hk.2) (.slice Ao11 t247.length co11)) (fun _ h_ => h_.1))) (Kd.R_base ho0) hb); replace BK244 := Aside0.mk (blk_below (g := gb244) (o := .cells #[.slice A0_0 l0_0.length c0_0, .slice A0_1 l0_1.length c0_1] 31 (0, 0)) (by (with_reducible repeat (first | refine blk_drewN ?_ _ | refine blk_drew ?_ | refine blk_alloc ?_ _)); refine blk_far ?_ NB244_246.out _; exact bkq BK244) hb); replace BK245 := Aside0.mk (blk_below (g := gb245) (o := .cells #[.slice none 0 0, .slice none 0 0] 44 (0, 0)) (by (with_reducible repeat (first | refine blk_drewN ?_ _ | refine blk_drew ?_ | refine blk_alloc ?_ _)); refine blk_far ?_ NB245_246.out _; exact bkq BK245) hb); replace BK246 := Aside0.mk (blk_below (g := gb246) (o := .cells #[.slice Ao11 t247.length co11, .slice none 0 0] 44 (0, 0)) (by (with_reducible repeat (first | refine blk_drewN ?_ _ | refine blk_drew ?_ | refine blk_alloc ?_ _)); refine blk_put (cs := #[.slice none 0 0, .slice none 0 0]) ?_ 0 _ rfl; exact bkq BK246) hb); replace HB := bwb HB hb; (try clear hb); (try clear hb2); (try clear hk); (try clear hi); (try clear ho0); obtain ⟨Ao16, co16, eo16⟩ := Kd.R_slice HO252.out; subst eo16; obtain ⟨hcz17, hfz17⟩ := bcf BK246; obtain ⟨hcz18, hfz18⟩ := bcf BK245))
 refine bodyPost_ret (results_cell_row rfl _ _ gb245 44 #[.slice Ao11 t247.length co11, .slice Ao16 t250.length co16] (0, 0) _ rfl (by (with_reducible repeat (first | refine blk_drewN ?_ _ | refine blk_drew ?_ | refine blk_alloc ?_ _)); refine blk_put (cs := #[.slice Ao11 t247.length co11, .slice none 0 0]) ?_ 1 _ rfl; (with_reducible repeat (first | refine blk_drewN ?_ _ | refine blk_drew ?_ | refine blk_alloc ?_ _)); refine blk_put (cs := #[.slice none 0 0, .slice none 0 0]) ?_ 0 _ rfl; (with_reducible repeat (first | refine blk_drewN ?_ _ | refine blk_drew ?_ | refine blk_alloc ?_ _)); refine blk_far ?_ NB245_246.out _; exact bkq BK245) Try.underlying44 rfl (by kernel_rfl)) rfl ?_
 exact ⟨_, _, by first | rfl | (simp [errW_none, errW_some] <;> rfl) | (simp [*, errW_none, errW_some] <;> rfl), by (with_reducible repeat (first | apply Kd.R_alloc | apply Kd.R_drewN | apply Kd.R_drew)); exact Kd.R_mono (Kd.R_far (p := ⟨gb245, 1, none⟩) (Kd.R_far (p := ⟨gb245, 0, none⟩) (Kd.R_far (p := ⟨gb246, 1, none⟩) (Kd.R_types (Kd.R_types HO249.out BK246.out (by decide)) BK245.out (by decide)) (fun _ hk => hk.1.2) (.slice Ao16 t250.length co16)) (fun _ hk => hk.2) (.slice Ao11 t247.length co11)) (fun _ hk => hk.2) (.slice Ao16 t250.length co16)) (fun _ hk => hk.1.1.2), by (with_reducible repeat (first | apply Kd.R_alloc | apply Kd.R_drewN | apply Kd.R_drew)); exact Kd.R_mono (Kd.R_far (p := ⟨gb245, 1, none⟩) (Kd.R_far (p := ⟨gb245, 0, none⟩) (Kd.R_far (p := ⟨gb246, 1, none⟩) (Kd.R_types (Kd.R_types HO252.out BK246.out (by decide)) BK245.out (by decide)) (fun _ hk => hk.1.2) (.slice Ao16 t250.length co16)) (fun _ hk => hk.2) (.slice Ao11 t247.length co11)) (fun _ hk => hk.2) (.slice Ao16 t250.length co16)) (fun _ hk => hk.1.1.2), bwq HB⟩
def laws_eqPlace.f (k : Nat) (l0_0 : List Bool) (l0_1 : List Bool) (l1_0 : List Bool) (l1_1 : List Bool) : Option (Bool) := (laws_eqBoolS.f k l0_0 l1_0).bind fun t336 => (if t336 = true then ((laws_eqBoolS.f k l0_1 l1_1).bind fun t337 => (if t337 = true then (some true) else (some false))) else (some false))
theorem laws_eqPlace.calls (k : Nat) (A0_0 : Option Addr) (c0_0 : Nat) (l0_0 : List Bool) (A0_1 : Option Addr) (c0_1 : Nat) (l0_1 : List Bool) (A1_0 : Option Addr) (c1_0 : Nat) (l1_0 : List Bool) (A1_1 : Option Addr) (c1_1 : Nat) (l1_1 : List Bool) (r : Bool) (w : World) (hr0_0 : Kd.C Kd.bool w A0_0 l0_0.length l0_0) (hc0_0 : l0_0.length ≤ c0_0) (hr0_1 : Kd.C Kd.bool w A0_1 l0_1.length l0_1) (hc0_1 : l0_1.length ≤ c0_1) (hr1_0 : Kd.C Kd.bool w A1_0 l1_0.length l1_0) (hc1_0 : l1_0.length ≤ c1_0) (hr1_1 : Kd.C Kd.bool w A1_1 l1_1.length l1_1) (hc1_1 : l1_1.length ≤ c1_1) (h : laws_eqPlace.f k l0_0 l0_1 l1_0 l1_1 = some r) :
  Calls Try.prog 20 #[.agg #[.slice A0_0 l0_0.length c0_0, .slice A0_1 l0_1.length c0_1], .agg #[.slice A1_0 l1_0.length c1_0, .slice A1_1 l1_1.length c1_1]] w fun e w' => e = .returned (.bool r) ∧ Below w.heap.size w w' := by
 have hu44 := Try.underlying44
 have HR0_0 := Aside0.mk hr0_0
 have HC0_0 := Aside0.mk hc0_0
 clear hr0_0 hc0_0
 have HR0_1 := Aside0.mk hr0_1
 have HC0_1 := Aside0.mk hc0_1
 clear hr0_1 hc0_1
 have HR1_0 := Aside0.mk hr1_0
 have HC1_0 := Aside0.mk hc1_0
 clear hr1_0 hc1_0
 have HR1_1 := Aside0.mk hr1_1
 have HC1_1 := Aside0.mk hc1_1
 clear hr1_1 hc1_1
 have HB := Aside0.mk (Below.refl w.heap.size w)
 have H : ((laws_eqBoolS.f k l0_0 l1_0).bind fun t336 => (if t336 = true then ((laws_eqBoolS.f k l0_1 l1_1).bind fun t337 => (if t337 = true then (some true) else (some false))) else (some false))) = some r := h
 clear h
 replace H := Option.bind_eq_some_iff.mp H
 obtain ⟨t336, A30, H⟩ := H
 have A3 := Aside0.mk A30
 clear A30
 by_cases c4 : t336 = true
 ·subst c4
  rw [if_pos rfl] at H
  replace H := Option.bind_eq_some_iff.mp H
  obtain ⟨t337, A50, H⟩ := H
  have A5 := Aside0.mk A50
  clear A50
  by_cases c6 : t337 = true
  ·subst c6
   rw [if_pos rfl] at H
   obtain rfl := Option.some.inj H
   go_enter Try.func20, Try.ntmps20
   go_wp2_with (first | ((with_reducible refine gate_dst (N := 2) rfl ?_); refine bxe (cs := #[.slice A0_0 l0_0.length c0_0, .slice A0_1 l0_1.length c0_1]) (t := 44) ?_; intro gb334 hg w7 hbox hb; have BK334 := Aside0.mk (hbox); have GW334 := bwz HB hg; have GE334 := bwz HB hg; replace HB := bwb HB hb; clear hb hbox hg) | ((with_reducible refine gate_dst (N := 3) rfl ?_); refine bxe (cs := #[.slice A1_0 l1_0.length c1_0, .slice A1_1 l1_1.length c1_1]) (t := 44) ?_; intro gb335 hg w8 hbox hb; have BK335 := Aside0.mk (hbox); have GW335 := bwz HB hg; have GE335 := bwz HB hg; replace HB := bwb HB hb; have NB334_335 := bkl BK334 hg; have NB335_334 := bkg BK334 hg; replace BK334 := bkb BK334 hb; clear hb hbox hg; have hnb9 := NB334_335.out; have hnc9 := NB335_334.out; obtain ⟨hcz10, hfz10⟩ := bcf BK334; obtain ⟨hcz11, hfz11⟩ := bcf BK335) | ((with_reducible refine gate_callee (f := 24) rfl ?_); refine goesM (some 9) rfl rfl Try.func24 #[.slice A0_0 l0_0.length c0_0, .slice A1_0 l1_0.length c1_0] rfl ?_; (with_reducible refine (laws_eqBoolS.calls k _ _ l0_0 _ _ l1_0 true _ ?side1 ?side2 ?side3 ?side4 A3.out).mono ?_); (case side1 => exact Cq (Kd.C_below HR0_0.out HB.out)); (case side2 => exact HC0_0.out); (case side3 => exact Cq (Kd.C_below HR1_0.out HB.out)); (case side4 => exact HC1_0.out); rintro e w' ⟨rfl, ⟨nd, rfl⟩⟩; refine ⟨_, rfl, ?_⟩) | ((with_reducible refine gate_callee (f := 24) rfl ?_); refine goesM (some 15) rfl rfl Try.func24 #[.slice A0_1 l0_1.length c0_1, .slice A1_1 l1_1.length c1_1] rfl ?_; (with_reducible refine (laws_eqBoolS.calls k _ _ l0_1 _ _ l1_1 true _ ?side1 ?side2 ?side3 ?side4 A5.out).mono ?_); (case side1 => repeat (first | exact (Kd.C_below HR0_1.out (bwq HB)) | (with_reducible refine Kd.C_alloc ?_ _) | (with_reducible refine Kd.C_drewN ?_ _) | (with_reducible refine Kd.C_drew ?_))); (case side2 => exact HC0_1.out); (case side3 => repeat (first | exact (Kd.C_below HR1_1.out (bwq HB)) | (with_reducible refine Kd.C_alloc ?_ _) | (with_reducible refine Kd.C_drewN ?_ _) | (with_reducible refine Kd.C_drew ?_))); (case side4 => exact HC1_1.out); rintro e w' ⟨rfl, ⟨nd, rfl⟩⟩; refine ⟨_, rfl, ?_⟩))
   go_ret
   exact ⟨by first | rfl | (simp [errW_none, errW_some] <;> rfl) | (simp [*, errW_none, errW_some] <;> rfl), bwq HB⟩
  ·replace c6 := Bool.eq_false_iff.mpr c6
   subst c6
   have H1 : (some false) = some r := by rw [if_neg (show ¬ (false = true) by decide)] at H; exact H
   clear H
   have H := H1
   clear H1
   obtain rfl := Option.some.inj H
   go_enter Try.func20, Try.ntmps20
   go_wp2_with (first | ((with_reducible refine gate_dst (N := 2) rfl ?_); refine bxe (cs := #[.slice A0_0 l0_0.length c0_0, .slice A0_1 l0_1.length c0_1]) (t := 44) ?_; intro gb334 hg w12 hbox hb; have BK334 := Aside0.mk (hbox); have GW334 := bwz HB hg; have GE334 := bwz HB hg; replace HB := bwb HB hb; clear hb hbox hg) | ((with_reducible refine gate_dst (N := 3) rfl ?_); refine bxe (cs := #[.slice A1_0 l1_0.length c1_0, .slice A1_1 l1_1.length c1_1]) (t := 44) ?_; intro gb335 hg w13 hbox hb; have BK335 := Aside0.mk (hbox); have GW335 := bwz HB hg; have GE335 := bwz HB hg; replace HB := bwb HB hb; have NB334_335 := bkl BK334 hg; have NB335_334 := bkg BK334 hg; replace BK334 := bkb BK334 hb; clear hb hbox hg; have hnb14 := NB334_335.out; have hnc14 := NB335_334.out; obtain ⟨hcz15, hfz15⟩ := bcf BK334; obtain ⟨hcz16, hfz16⟩ := bcf BK335) | ((with_reducible refine gate_callee (f := 24) rfl ?_); refine goesM (some 9) rfl rfl Try.func24 #[.slice A0_0 l0_0.length c0_0, .slice A1_0 l1_0.length c1_0] rfl ?_; (with_reducible refine (laws_eqBoolS.calls k _ _ l0_0 _ _ l1_0 true _ ?side1 ?side2 ?side3 ?side4 A3.out).mono ?_); (case side1 => exact Cq (Kd.C_below HR0_0.out HB.out)); (case side2 => exact HC0_0.out); (case side3 => exact Cq (Kd.C_below HR1_0.out HB.out)); (case side4 => exact HC1_0.out); rintro e w' ⟨rfl, ⟨nd, rfl⟩⟩; refine ⟨_, rfl, ?_⟩) | ((with_reducible refine gate_callee (f := 24) rfl ?_); refine goesM (some 15) rfl rfl Try.func24 #[.slice A0_1 l0_1.length c0_1, .slice A1_1 l1_1.length c1_1] rfl ?_; (with_reducible refine (laws_eqBoolS.calls k _ _ l0_1 _ _ l1_1 false _ ?side1 ?side2 ?side3 ?side4 A5.out).mono ?_); (case side1 => repeat (first | exact (Kd.C_below HR0_1.out (bwq HB)) | (with_reducible refine Kd.C_alloc ?_ _) | (with_reducible refine Kd.C_drewN ?_ _) | (with_reducible refine Kd.C_drew ?_))); (case side2 => exact HC0_1.out); (case side3 => repeat (first | exact (Kd.C_below HR1_1.out (bwq HB)) | (with_reducible refine Kd.C_alloc ?_ _) | (with_reducible refine Kd.C_drewN ?_ _) | (with_reducible refine Kd.C_drew ?_))); (case side4 => exact HC1_1.out); rintro e w' ⟨rfl, ⟨nd, rfl⟩⟩; refine ⟨_, rfl, ?_⟩))
   go_ret
   exact ⟨by first | rfl | (simp [errW_none, errW_some] <;> rfl) | (simp [*, errW_none, errW_some] <;> rfl), bwq HB⟩
 ·replace c4 := Bool.eq_false_iff.mpr c4
  subst c4
  have H1 : (some false) = some r := by rw [if_neg (show ¬ (false = true) by decide)] at H; exact H
  clear H
  have H := H1
  clear H1
  obtain rfl := Option.some.inj H
  go_enter Try.func20, Try.ntmps20
  go_wp2_with (first | ((with_reducible refine gate_dst (N := 2) rfl ?_); refine bxe (cs := #[.slice A0_0 l0_0.length c0_0, .slice A0_1 l0_1.length c0_1]) (t := 44) ?_; intro gb334 hg w17 hbox hb; have BK334 := Aside0.mk (hbox); have GW334 := bwz HB hg; have GE334 := bwz HB hg; replace HB := bwb HB hb; clear hb hbox hg) | ((with_reducible refine gate_dst (N := 3) rfl ?_); refine bxe (cs := #[.slice A1_0 l1_0.length c1_0, .slice A1_1 l1_1.length c1_1]) (t := 44) ?_; intro gb335 hg w18 hbox hb; have BK335 := Aside0.mk (hbox); have GW335 := bwz HB hg; have GE335 := bwz HB hg; replace HB := bwb HB hb; have NB334_335 := bkl BK334 hg; have NB335_334 := bkg BK334 hg; replace BK334 := bkb BK334 hb; clear hb hbox hg; have hnb19 := NB334_335.out; have hnc19 := NB335_334.out; obtain ⟨hcz20, hfz20⟩ := bcf BK334; obtain ⟨hcz21, hfz21⟩ := bcf BK335) | ((with_reducible refine gate_callee (f := 24) rfl ?_); refine goesM (some 9) rfl rfl Try.func24 #[.slice A0_0 l0_0.length c0_0, .slice A1_0 l1_0.length c1_0] rfl ?_; (with_reducible refine (laws_eqBoolS.calls k _ _ l0_0 _ _ l1_0 false _ ?side1 ?side2 ?side3 ?side4 A3.out).mono ?_); (case side1 => exact Cq (Kd.C_below HR0_0.out HB.out)); (case side2 => exact HC0_0.out); (case side3 => exact Cq (Kd.C_below HR1_0.out HB.out)); (case side4 => exact HC1_0.out); rintro e w' ⟨rfl, ⟨nd, rfl⟩⟩; refine ⟨_, rfl, ?_⟩))
  go_ret
  exact ⟨by first | rfl | (simp [errW_none, errW_some] <;> rfl) | (simp [*, errW_none, errW_some] <;> rfl), bwq HB⟩
end Go.Proofs.Ytcgbbhkjkkpfoaa.P
namespace Go.Proofs.Ytcgbbhkjkkpfoaa.P
open Go.RowKit Go.Proofs.YtcgbbhkjkkpfoaaW.PrintWords Go.Proofs.YtcgbbhkjkkpfoaaW.PrintLast Go.Proofs.YtcgbbhkjkkpfoaaW.PrintMore Lcm Lcm.G
theorem szBools_eq (x : List Bool) (hx : x.length ≤ ml) (a : Int) (h0 : 0 ≤ a) (ha : a ≤ 1048576) : laws_szBoolS.f x a = some (if a < x.length then -1 else a - x.length) := by
 unfold ml at hx
 unfold laws_szBoolS.f
 rw [wrapI (by omega) (by omega)]
 by_cases h : a < x.length
 ·rw [if_pos h, if_pos (by omega)]
 ·rw [if_neg h, if_neg (by omega)]
theorem szPlace_ev (x y : List Bool) (hx : x.length ≤ ml) (hy : y.length ≤ ml) (a : Int) (h0 : 0 ≤ a) (ha : a ≤ 1048576) : ∃ r : Int, Ev (fun _ => laws_szPlace.f x y a) r ∧ (¬ r < 0 → (x.length + y.length : Int) ≤ a) := by
 by_cases h : a < x.length
 ·exact ⟨-1, ⟨0, fun _ _ => by unfold laws_szPlace.f; rw [szBools_eq x hx a h0 ha, if_pos h]; rfl⟩, fun c => absurd (by decide) c⟩
 ·by_cases h2 : a - x.length < y.length
  ·exact ⟨-1, ⟨0, fun _ _ => by
    unfold laws_szPlace.f
    rw [szBools_eq x hx a h0 ha, if_neg h, Option.bind_some, if_neg (by omega), szBools_eq y hy _ (by omega) (by omega), if_pos h2]; rfl⟩, fun c => absurd (by decide) c⟩
  ·exact ⟨a - x.length - y.length, ⟨0, fun _ _ => by
    unfold laws_szPlace.f
    rw [szBools_eq x hx a h0 ha, if_neg h, Option.bind_some, if_neg (by omega), szBools_eq y hy _ (by omega) (by omega), if_neg h2, Option.bind_some, if_neg (by omega)]⟩, fun _ => by omega⟩
theorem toPlace_ev (x y : List Bool) (hx : x.length ≤ 1048576) (hy : y.length ≤ 1048576) : Ev (fun k => laws_toPlace.f k x y) (x, y) := by
 unfold laws_toPlace.f
 exact Ev.bind (toBoolS_ev x (by omega)) (Ev.bind (toBoolS_ev y (by omega)) (Ev.now _))
theorem eqPlace_refl (x y : List Bool) (hx : x.length ≤ 1048576) (hy : y.length ≤ 1048576) : Ev (fun k => laws_eqPlace.f k x y x y) true := by
 unfold laws_eqPlace.f
 exact Ev.bind (eqBoolS_refl x (by omega)) (Ev.pos rfl (Ev.bind (eqBoolS_refl y (by omega)) (Ev.pos rfl (Ev.now _))))
theorem toExpr_ev (e0 e1 e2 e3 e4 : Int) : Ev (fun _ => laws_toExpr.f e0 e1 e2 e3 e4) (e0, e1, e2, e3, e4) := ⟨0, fun _ _ => toExpr_eq _ _ _ _ _⟩
theorem prog_refl {l0 : List LStp} (h2 : l0.length ≤ 1048576) (h3 : ∀ s, s ∈ l0 → s.f5.length ≤ 1048576) : Ev (fun k => laws_eqProg.f k (l0.map toS) (l0.map toS)) true := by
 refine eqProg_refl _ (by rw [List.length_map]; omega) (fun s hs => ?_)
 obtain ⟨x, hx, rfl⟩ := List.mem_map.1 hs
 have := h3 x hx
 show x.f5.length ≤ _
 omega
theorem left_le (l : List LStp) : (if (1048576 : Int) < (l.length + szSum l : Int) then (-1 : Int) else 1048576 - (l.length + szSum l)) ≤ 1048576 := by split <;> omega
theorem fits_calls {g : G} {p : List Stp} {w : World} {b : Nat} {A0 A1 A2 A3 A4 AP AQ : Option Addr} {c0 c1 c2 c3 c4 cP cQ n1 n2 : Nat} (hs : Std g p w b A0 A1 A2 A3 A4 c0 c1 c2 c3 c4) :
  Calls Try.prog 51 #[.pointer (some ⟨b, 0, none⟩), .agg #[.slice AP n1 cP, .slice AQ n2 cQ]] w fun e w' => e = .returned (.bool (n1 == p.length && n2 == p.length)) ∧ Below w.heap.size w w' := by
 have HS := Aside0.mk hs.blk
 have hu := Try.underlying38
 have hu2 := Try.underlying42
 have hu3 := Try.underlying40
 have hu4 := Try.underlying44
 have hu5 := Try.underlying74
 have HB := Aside0.mk (Fr.new w)
 clear hs
 obtain ⟨r1, q1, q2⟩ : ∃ r1 : Bool, (n1 == p.length) = r1 ∧ ((n1 : Int) == (p.length : Int)) = r1 := ⟨_, rfl, by rw [Bool.eq_iff_iff]; simp; omega⟩
 obtain ⟨r2, q3, q4⟩ : ∃ r2 : Bool, (n2 == p.length) = r2 ∧ ((n2 : Int) == (p.length : Int)) = r2 := ⟨_, rfl, by rw [Bool.eq_iff_iff]; simp; omega⟩
 rw [q1, q3]
 cases r1 <;> (
  go_enter Try.func51, Try.ntmps51
  go_wp2_with (first | ((with_reducible refine gate_dst (N := 3) rfl ?_); refine fr_box HB (N := 3) rfl rfl (cs := #[.slice AP n1 cP, .slice AQ n2 cQ]) (t := 44) ?hr ?_; (case hr => first | (go_simp; done) | (go_simp; rfl)); intro gb w1 _ HB; have y0 := HB.out.c0; have y1 := blk_cell (blk_below HS.out HB.out.below)))
  go_quiet (fail)
  go_wp2
  go_ret
  exact ⟨rfl, pw_below_drewN HB.out.below _⟩)
section
variable {e0 e1 e2 e3 e4 : Int} {w : World} {p : List Stp} {A0 : Option Addr} {c0 : Nat} {AP AQ : Option Addr} {cP cQ : Nat} {x1 x2 : List Bool}
theorem placeOk_yes (hok : (progOkB p && exOkB e0 e1 e2 e3 e4) = true) (h1 : x1.length = p.length) (h2 : x2.length = p.length) (hr : Kd.C k77 w A0 p.length p) (hc : p.length ≤ c0) (hP : Kd.C Kd.bool w AP x1.length x1) (hQ : Kd.C Kd.bool w AQ x2.length x2) :
    Calls Try.prog 30 #[.agg #[.slice A0 p.length c0], exV e0 e1 e2 e3 e4, .agg #[.slice AP x1.length cP, .slice AQ x2.length cQ]] w fun e w' => e = .returned (.bool (yes (OkP (gOf p e0 e1 e2 e3 e4) p.length x1 x2))) ∧ Below w.heap.size w w' := by
  have HF := Aside0.mk (fit_of (ok_l hok) e0 e1 e2 e3 e4)
  have HT : Aside0 (∀ w1, Below w.heap.size w w1 → Calls Try.prog 50 #[.agg #[.slice A0 p.length c0], exV e0 e1 e2 e3 e4] w1 (StudyMade (gOf p e0 e1 e2 e3 e4) p A0 c0 w1)) := ⟨fun w1 hb => studyOf_ok (ok_l hok) (ok_r hok) (Kd.C_below hr hb) hc⟩
  have HP : Aside0 (Kd.C Kd.bool w AP p.length x1) := ⟨by rw [← h1]; exact hP⟩
  have HQ : Aside0 (Kd.C Kd.bool w AQ p.length x2) := ⟨by rw [← h2]; exact hQ⟩
  generalize gOf p e0 e1 e2 e3 e4 = g at *
  have hu := Try.underlying38
  have hu2 := Try.underlying42
  have hu3 := Try.underlying40
  have hu4 := Try.underlying44
  have hu5 := Try.underlying74
  have HB := Aside0.mk (Fr.new w)
  rw [h1, h2]
  have HE := Aside0.mk (show (p.length == p.length && p.length == p.length) = true by simp)
  clear hok hr hc hP hQ h2
  go_enter Try.func30, Try.ntmps30
  go_upto_region 4 with (first | ((with_reducible refine gate_dst (N := 3) rfl ?_); refine fr_box HB (N := 3) rfl rfl (cs := #[.slice A0 p.length c0]) (t := 38) ?hr ?_; (case hr => first | (go_simp; done) | (go_simp; rfl)); intro gb w1 _ HB; have y0 := HB.out.c0) | ((with_reducible refine gate_dst (N := 4) rfl ?_); refine fr_box HB (N := 4) rfl rfl (cs := #[.int .i64 e0, .int .i64 e1, .int .i64 e2, .int .i64 e3, .int .i64 e4]) (t := 42) ?hr ?_; (case hr => first | (go_simp; done) | (go_simp; rfl)); intro he w1 _ HB; have y0 := HB.out.c1; have y1 := HB.out.c0) | ((with_reducible refine gate_dst (N := 5) rfl ?_); refine fr_box HB (N := 5) rfl rfl (cs := #[.slice AP p.length cP, .slice AQ p.length cQ]) (t := 44) ?hr ?_; (case hr => first | (go_simp; done) | (go_simp; rfl)); intro hp w1 _ HB; have y0 := HB.out.c2; have y1 := HB.out.c1; have y2 := HB.out.c0) | ((with_reducible refine gate_callee (f := 50) rfl ?_); refine goesM (some 16) rfl rfl Try.func50 #[.agg #[.slice A0 p.length c0], exV e0 e1 e2 e3 e4] rfl ?_; refine (HT.out _ HB.out.below).mono ?_; rintro e w2 ⟨b, A1, A2, A3, A4, c1, c2, c3, c4, m1, m2, m3, rfl, hs, hwb, hb, ho1, ho3, hm1, hm3⟩; refine ⟨_, rfl, ?_⟩; have HB := Aside0.mk (HB.out.step hb); have HS := Aside0.mk hs; clear hs hb hwb ho1 ho3 hm1 hm3; have y0 := HB.out.c2; have y1 := HB.out.c1; have y2 := HB.out.c0) | ((with_reducible refine gate_callee (f := 51) rfl ?_); (try (refine gate_guard (by rfl) ?_; dsimp only)); refine goesM (some 24) rfl rfl Try.func51 #[.pointer (some ⟨b, 0, none⟩), .agg #[.slice AP p.length cP, .slice AQ p.length cQ]] rfl ?_; refine (fits_calls HS.out).mono ?_; rintro e w2 ⟨rfl, hb⟩; rw [HE.out]; refine ⟨_, rfl, ?_⟩; have HB := Aside0.mk (HB.out.step hb); have HS := Aside0.mk (HS.out.below hb); clear hb; have y0 := HB.out.c2; have y1 := HB.out.c1; have y2 := HB.out.c0))
  go_region_held3 (fun w' => w'.cell? ⟨hp, 0, none⟩ = some (.slice AP p.length cP) ∧ w'.cell? ⟨hp, 1, none⟩ = some (.slice AQ p.length cQ)) (exact ⟨(y2 0).trans rfl, (y2 1).trans rfl⟩) (first | (go_at_call 60; refine (m_down HF.out (HS.out.below (below_drew (Below.refl _ _)))).mono ?_; rintro e wr ⟨v1, rfl, hr_, hb⟩; obtain ⟨B1, d1, rfl, _, k_⟩ := made_row hr_; have K1 := Aside0.mk k_; have hb := below_step (below_drew (Below.refl _ _)) hb; have HB := Aside0.mk (HB.out.step hb); have HS := Aside0.mk (HS.out.below hb); clear hr_ hb k_; have y0 := HB.out.c2; have y1 := HB.out.c1; have y2 := HB.out.c0) | (go_at_call 61; refine (m_up HF.out HS.out).mono ?_; rintro e wr ⟨v2, rfl, hr_, hb⟩; obtain ⟨B2, d2, rfl, _, k_⟩ := made_row hr_; have K2 := Aside0.mk k_; have K1 := Aside0.mk (Kd.C_below K1.out hb); have HB := Aside0.mk (HB.out.step hb); have HS := Aside0.mk (HS.out.below hb); clear hr_ hb k_; have y0 := HB.out.c2; have y1 := HB.out.c1; have y2 := HB.out.c0) | (go_at_call 62; refine (m_held HF.out HS.out h1 (Kd.C_below HP.out HB.out.below)).mono ?_; rintro e wr ⟨v3, rfl, hr_, hb⟩; obtain ⟨B3, d3, rfl, _, k_⟩ := made_row hr_; have K3 := Aside0.mk k_; have K1 := Aside0.mk (Kd.C_below K1.out hb); have K2 := Aside0.mk (Kd.C_below K2.out hb); have HB := Aside0.mk (HB.out.step hb); have HS := Aside0.mk (HS.out.below hb); clear hr_ hb k_; have y0 := HB.out.c2; have y1 := HB.out.c1; have y2 := HB.out.c0))
  go_wp2
  clear y0 y1 y2
  go_loop [37] (fun v => ∃ i : Nat, i ≤ p.length ∧ v = .int .i64 (i : Int) ∧ Aside0 (∀ j, j < i → (on x1 j → g.Down j ∨ g.Up j) ∧ (on x2 j → g.comp j ∧ g.Held (on x1) j))) (fun v => p.length - (intOf v).toNat)
  case atStart => exact ⟨0, Nat.zero_le _, rfl, ⟨fun j hj => absurd hj (by omega)⟩⟩
  case round =>
    obtain ⟨i, hin, rfl, HO⟩ := hrel
    by_cases hi : i < p.length
    · obtain ⟨aP, rP, rfl, zP, qP⟩ := at_b (Kd.C_below HP.out HB.out.below) i hi
      obtain ⟨aQ, rQ, rfl, zQ, qQ⟩ := at_b (Kd.C_below HQ.out HB.out.below) i hi
      obtain ⟨aD, rD, rfl, zD, qD⟩ := at_bl K1.out i hi
      obtain ⟨aU, rU, rfl, zU, qU⟩ := at_bl K2.out i hi
      obtain ⟨aH, rH, rfl, zH, qH⟩ := at_bl K3.out i hi
      obtain ⟨aC, rC, rfl, zC, qC⟩ := at_bl HS.out.comp i hi
      have hOK : ((!rP || rD || rU) && (!rQ || (rC && rH))) = true ↔ (on x1 i → g.Down i ∨ g.Up i) ∧ (on x2 i → g.comp i ∧ g.Held (on x1) i) := by
        rw [← qP, ← qQ, ← qD, ← qU, ← qH, ← qC]
        cases rP <;> cases rD <;> cases rU <;> cases rQ <;> simp
      have zb := blk_cell HS.out.blk
      have y2 := HB.out.c0
      have hA : (rP = false) ∨ (rP = true ∧ rD = true) ∨ (rP = true ∧ rD = false ∧ rU = true) ∨ (rP = true ∧ rD = false ∧ rU = false) := by cases rP <;> cases rD <;> cases rU <;> simp
      have hE : (rQ = false) ∨ (rQ = true ∧ rC = false) ∨ (rQ = true ∧ rC = true ∧ rH = false) ∨ (rQ = true ∧ rC = true ∧ rH = true) := by cases rQ <;> cases rC <;> cases rH <;> simp
      have HI : Aside0 (i < p.length) := ⟨hi⟩
      clear qP qQ qD qU qH qC
      rcases hA with rfl | ⟨rfl, rfl⟩ | ⟨rfl, rfl, rfl⟩ | ⟨rfl, rfl, rfl⟩ <;> rcases hE with rfl | ⟨rfl, rfl⟩ | ⟨rfl, rfl, rfl⟩ | ⟨rfl, rfl, rfl⟩ <;> (
        first
        | (have HX := Aside0.mk (hOK.1 rfl)
           clear hOK
           have HN := HO.out
           have HM : Aside0 (∀ j, j < i + 1 → (on x1 j → g.Down j ∨ g.Up j) ∧ (on x2 j → g.comp j ∧ g.Held (on x1) j)) := ⟨fun j hj => (Nat.lt_or_eq_of_le (Nat.le_of_lt_succ hj)).elim (HN j) (fun e => e ▸ HX.out)⟩
           have hfew := HF.out.few
           clear HN
           go_wp2
           go_round
           case rel => exact ⟨i + 1, by omega, by go_num, HM⟩
           case measure => simp [intOf]; omega)
        | (have HX := Aside0.mk (fun c => Bool.noConfusion (hOK.2 c) : ¬ _)
           clear hOK
           go_wp2
           go_ret
           exact ⟨by rw [yes_neg fun c => HX.out (c i HI.out)] <;> rfl, HB.out.below⟩))
    · obtain rfl : p.length = i := by omega
      go_wp2
      go_ret
      exact ⟨by rw [yes_pos (show OkP g p.length x1 x2 from HO.out)] <;> rfl, HB.out.below⟩
theorem placeOk_bad (hok : (progOkB p && exOkB e0 e1 e2 e3 e4) = false) (hr : Kd.C k77 w A0 p.length p) (hc : p.length ≤ c0) :
  Calls Try.prog 30 #[.agg #[.slice A0 p.length c0], exV e0 e1 e2 e3 e4, .agg #[.slice AP x1.length cP, .slice AQ x2.length cQ]] w fun e w' => e = .returned (.bool false) ∧ Below w.heap.size w w' := by
 have HT : Aside0 (∀ w1, Below w.heap.size w w1 → Calls Try.prog 50 #[.agg #[.slice A0 p.length c0], exV e0 e1 e2 e3 e4] w1 fun e w' => e = .returned (.tuple #[.pointer none, .bool false]) ∧ Below w1.heap.size w1 w') := ⟨fun w1 hb => studyOf_no hok (Kd.C_below hr hb) hc⟩
 have hu := Try.underlying38
 have hu2 := Try.underlying42
 have hu3 := Try.underlying40
 have hu4 := Try.underlying44
 have hu5 := Try.underlying74
 have HB := Aside0.mk (Fr.new w)
 clear hok hr hc
 go_enter Try.func30, Try.ntmps30
 go_wp2_with (first | ((with_reducible refine gate_dst (N := 3) rfl ?_); refine fr_box HB (N := 3) rfl rfl (cs := #[.slice A0 p.length c0]) (t := 38) ?hr ?_; (case hr => first | (go_simp; done) | (go_simp; rfl)); intro gb w1 _ HB; have y0 := HB.out.c0) | ((with_reducible refine gate_dst (N := 4) rfl ?_); refine fr_box HB (N := 4) rfl rfl (cs := #[.int .i64 e0, .int .i64 e1, .int .i64 e2, .int .i64 e3, .int .i64 e4]) (t := 42) ?hr ?_; (case hr => first | (go_simp; done) | (go_simp; rfl)); intro he w1 _ HB; have y0 := HB.out.c1; have y1 := HB.out.c0) | ((with_reducible refine gate_dst (N := 5) rfl ?_); refine fr_box HB (N := 5) rfl rfl (cs := #[.slice AP x1.length cP, .slice AQ x2.length cQ]) (t := 44) ?hr ?_; (case hr => first | (go_simp; done) | (go_simp; rfl)); intro hp w1 _ HB; have y0 := HB.out.c2; have y1 := HB.out.c1; have y2 := HB.out.c0) | ((with_reducible refine gate_callee (f := 50) rfl ?_); refine goesM (some 16) rfl rfl Try.func50 #[.agg #[.slice A0 p.length c0], exV e0 e1 e2 e3 e4] rfl ?_; refine (HT.out _ HB.out.below).mono ?_; rintro e w2 ⟨rfl, hb⟩; refine ⟨_, rfl, ?_⟩; have HB := Aside0.mk (HB.out.step hb); clear hb; have y0 := HB.out.c2; have y1 := HB.out.c1; have y2 := HB.out.c0))
 go_ret
 exact ⟨rfl, HB.out.below⟩
theorem placeOk_unfit (hok : (progOkB p && exOkB e0 e1 e2 e3 e4) = true) (hl : (x1.length == p.length && x2.length == p.length) = false) (hr : Kd.C k77 w A0 p.length p) (hc : p.length ≤ c0) :
  Calls Try.prog 30 #[.agg #[.slice A0 p.length c0], exV e0 e1 e2 e3 e4, .agg #[.slice AP x1.length cP, .slice AQ x2.length cQ]] w fun e w' => e = .returned (.bool false) ∧ Below w.heap.size w w' := by
 have HF := Aside0.mk (fit_of (ok_l hok) e0 e1 e2 e3 e4)
 have HT : Aside0 (∀ w1, Below w.heap.size w w1 → Calls Try.prog 50 #[.agg #[.slice A0 p.length c0], exV e0 e1 e2 e3 e4] w1 (StudyMade (gOf p e0 e1 e2 e3 e4) p A0 c0 w1)) := ⟨fun w1 hb => studyOf_ok (ok_l hok) (ok_r hok) (Kd.C_below hr hb) hc⟩
 have hu := Try.underlying38
 have hu2 := Try.underlying42
 have hu3 := Try.underlying40
 have hu4 := Try.underlying44
 have hu5 := Try.underlying74
 have HL := Aside0.mk hl
 have HB := Aside0.mk (Fr.new w)
 clear hok hr hc hl
 go_enter Try.func30, Try.ntmps30
 go_wp2_with (first | ((with_reducible refine gate_dst (N := 3) rfl ?_); refine fr_box HB (N := 3) rfl rfl (cs := #[.slice A0 p.length c0]) (t := 38) ?hr ?_; (case hr => first | (go_simp; done) | (go_simp; rfl)); intro gb w1 _ HB; have y0 := HB.out.c0) | ((with_reducible refine gate_dst (N := 4) rfl ?_); refine fr_box HB (N := 4) rfl rfl (cs := #[.int .i64 e0, .int .i64 e1, .int .i64 e2, .int .i64 e3, .int .i64 e4]) (t := 42) ?hr ?_; (case hr => first | (go_simp; done) | (go_simp; rfl)); intro he w1 _ HB; have y0 := HB.out.c1; have y1 := HB.out.c0) | ((with_reducible refine gate_dst (N := 5) rfl ?_); refine fr_box HB (N := 5) rfl rfl (cs := #[.slice AP x1.length cP, .slice AQ x2.length cQ]) (t := 44) ?hr ?_; (case hr => first | (go_simp; done) | (go_simp; rfl)); intro hp w1 _ HB; have y0 := HB.out.c2; have y1 := HB.out.c1; have y2 := HB.out.c0) | ((with_reducible refine gate_callee (f := 50) rfl ?_); refine goesM (some 16) rfl rfl Try.func50 #[.agg #[.slice A0 p.length c0], exV e0 e1 e2 e3 e4] rfl ?_; refine (HT.out _ HB.out.below).mono ?_; rintro e w2 ⟨b, A1, A2, A3, A4, c1, c2, c3, c4, m1, m2, m3, rfl, hs, hwb, hb, ho1, ho3, hm1, hm3⟩; refine ⟨_, rfl, ?_⟩; have HB := Aside0.mk (HB.out.step hb); have HS := Aside0.mk hs; clear hs hb hwb ho1 ho3 hm1 hm3; have y0 := HB.out.c2; have y1 := HB.out.c1; have y2 := HB.out.c0) | ((with_reducible refine gate_callee (f := 51) rfl ?_); (try (refine gate_guard (by rfl) ?_; dsimp only)); refine goesM (some 24) rfl rfl Try.func51 #[.pointer (some ⟨b, 0, none⟩), .agg #[.slice AP x1.length cP, .slice AQ x2.length cQ]] rfl ?_; refine (fits_calls HS.out).mono ?_; rintro e w2 ⟨rfl, hb⟩; rw [HL.out]; refine ⟨_, rfl, ?_⟩; have HB := Aside0.mk (HB.out.step hb); have HS := Aside0.mk (HS.out.below hb); clear hb; have y0 := HB.out.c2; have y1 := HB.out.c1; have y2 := HB.out.c0))
 go_ret
 exact ⟨rfl, HB.out.below⟩
end
theorem unform {p : List Stp} {e0 e1 e2 e3 e4 : Int} {x1 x2 : List Bool} (h : formB p e0 e1 e2 e3 e4 x1 x2 = false) : (progOkB p && exOkB e0 e1 e2 e3 e4) = false ∨ (progOkB p && exOkB e0 e1 e2 e3 e4) = true ∧ (x1.length == p.length && x2.length == p.length) = false := by
 unfold formB at h
 cases q : (progOkB p && exOkB e0 e1 e2 e3 e4) with
 | false => exact .inl rfl
 | true => rw [q, Bool.true_and] at h; exact .inr ⟨rfl, h⟩
noncomputable def impl_PlaceOk.f (l0_0 : List Stp) (a1_0 a1_1 a1_2 a1_3 a1_4 : Int) (l2_0 l2_1 : List Bool) : Option Bool := some (placeOkL l0_0 a1_0 a1_1 a1_2 a1_3 a1_4 l2_0 l2_1)
theorem impl_PlaceOk.calls (A0 : Option Addr) (c0 : Nat) (p : List Stp) (e0 e1 e2 e3 e4 : Int) (AP : Option Addr) (cP : Nat) (x1 : List Bool) (AQ : Option Addr) (cQ : Nat) (x2 : List Bool) (r : Bool) (w : World) (hr : Kd.C k77 w A0 p.length p) (hc : p.length ≤ c0) (hr1 : Kd.C Kd.bool w AP x1.length x1) (hc1 : x1.length ≤ cP) (hr2 : Kd.C Kd.bool w AQ x2.length x2) (hc2 : x2.length ≤ cQ) (h : impl_PlaceOk.f p e0 e1 e2 e3 e4 x1 x2 = some r) :
  Calls Try.prog 30 #[.agg #[.slice A0 p.length c0], exV e0 e1 e2 e3 e4, .agg #[.slice AP x1.length cP, .slice AQ x2.length cQ]] w fun e w' => e = .returned (.bool r) ∧ Below w.heap.size w w' := by
 obtain rfl := Option.some.inj h
 unfold placeOkL
 cases hq : formB p e0 e1 e2 e3 e4 x1 x2 with
 | true =>
  obtain ⟨hok, h1, h2⟩ := form_iff.1 hq
  rw [Bool.true_and]
  exact placeOk_yes hok h1 h2 hr hc hr1 hr2
 | false =>
  rw [Bool.false_and]
  rcases unform hq with h1 | ⟨h1, h2⟩
  ·exact placeOk_bad h1 hr hc
  ·exact placeOk_unfit h1 h2 hr hc
end Go.Proofs.Ytcgbbhkjkkpfoaa.P
namespace Go.Proofs.Ytcgbbhkjkkpfoaa.P
open Go.RowKit Go.Proofs.YtcgbbhkjkkpfoaaW.PrintWords Go.Proofs.YtcgbbhkjkkpfoaaW.PrintLast Go.Proofs.YtcgbbhkjkkpfoaaW.PrintMore
attribute [local go_sem] max2_int min2_int max_two min_two max_three min_three max_four min_four
noncomputable def laws_FnExactPlaceOk.f (k : Nat) (l0_0 : List (S90)) (a1_0 : Int) (a1_1 : Int) (a1_2 : Int) (a1_3 : Int) (a1_4 : Int) (l2_0 : List Bool) (l2_1 : List Bool) : Option (Bool) := (laws_szProg.f k l0_0 1048576).bind fun t636 => (if t636 < 0 then (some true) else ((laws_szPlace.f l2_0 l2_1 t636).bind fun t637 => (if t637 < 0 then (some true) else ((laws_toProg.f k l0_0).bind fun t638 => ((laws_toExpr.f a1_0 a1_1 a1_2 a1_3 a1_4).bind fun bt641 => ((laws_toPlace.f k l2_0 l2_1).bind fun bt646 => ((spec_PlaceOk.f k t638 bt641.1 bt641.2.1 bt641.2.2.1 bt641.2.2.2.1 bt641.2.2.2.2 bt646.1 bt646.2).bind fun t652 => ((laws_toProg.f k l0_0).bind fun t653 => ((laws_toPlace.f k l2_0 l2_1).bind fun bt657 => ((laws_toExpr.f a1_0 a1_1 a1_2 a1_3 a1_4).bind fun bt664 => ((impl_PlaceOk.f t653 bt664.1 bt664.2.1 bt664.2.2.1 bt664.2.2.2.1 bt664.2.2.2.2 bt657.1 bt657.2).bind fun t669 => (if (t669 != t652) = true then (some false) else ((laws_toProg.f k l0_0).bind fun t670 => ((laws_eqProg.f k t653 t670).bind fun t673 => (if t673 = true then ((laws_toPlace.f k l2_0 l2_1).bind fun bt674 => ((laws_eqPlace.f k bt657.1 bt657.2 bt674.1 bt674.2).bind fun t680 => (if t680 = true then (some true) else (some false)))) else (some false))))))))))))))))
noncomputable def laws_FnExactPlaceOk.T8 : Bool × List (List Nat × List Nat) := (true, [([], []), ([0], [0]), ([], []), ([2, 1], [2]), ([], []), ([4, 3], [4]), ([1, 3, 5, 5], [1, 3, 5]), ([6, 6, 0, 1, 2, 3, 4, 5, 6], [6])])
noncomputable def laws_FnExactPlaceOk.B8 : List Nat := [0, 1, 0, 7, 0, 31, 63, 127]
theorem laws_FnExactPlaceOk.tab8 : rtab .any (opsOf Try.f5 8) = laws_FnExactPlaceOk.T8 := by kernel_rfl
theorem laws_FnExactPlaceOk.bits8 : waitsOk laws_FnExactPlaceOk.T8.2 laws_FnExactPlaceOk.B8 = true := by kernel_rfl
theorem laws_FnExactPlaceOk.calls (k : Nat) (A0_0 : Option Addr) (c0_0 : Nat) (l0_0 : List (S90)) (a1_0 : Int) (a1_1 : Int) (a1_2 : Int) (a1_3 : Int) (a1_4 : Int) (A2_0 : Option Addr) (c2_0 : Nat) (l2_0 : List Bool) (A2_1 : Option Addr) (c2_1 : Nat) (l2_1 : List Bool) (r : Bool) (w : World) (hr0_0 : Kd.C k90 w A0_0 l0_0.length l0_0) (hc0_0 : l0_0.length ≤ c0_0) (hr2_0 : Kd.C Kd.bool w A2_0 l2_0.length l2_0) (hc2_0 : l2_0.length ≤ c2_0) (hr2_1 : Kd.C Kd.bool w A2_1 l2_1.length l2_1) (hc2_1 : l2_1.length ≤ c2_1) (h : laws_FnExactPlaceOk.f k l0_0 a1_0 a1_1 a1_2 a1_3 a1_4 l2_0 l2_1 = some r) :
  Calls Try.prog 5 #[.agg #[.slice A0_0 l0_0.length c0_0], .agg #[.int .i64 a1_0, .int .i64 a1_1, .int .i64 a1_2, .int .i64 a1_3, .int .i64 a1_4], .agg #[.slice A2_0 l2_0.length c2_0, .slice A2_1 l2_1.length c2_1]] w fun e w' => e = .returned (.bool r) ∧ Below w.heap.size w w' := by
 have hu24 := Try.underlying24
 have hu28 := Try.underlying28
 have hu31 := Try.underlying31
 have hu38 := Try.underlying38
 have hu44 := Try.underlying44
 have HR0_0 := Aside0.mk hr0_0
 have HC0_0 := Aside0.mk hc0_0
 clear hr0_0 hc0_0
 have HR2_0 := Aside0.mk hr2_0
 have HC2_0 := Aside0.mk hc2_0
 clear hr2_0 hc2_0
 have HR2_1 := Aside0.mk hr2_1
 have HC2_1 := Aside0.mk hc2_1
 clear hr2_1 hc2_1
 have HB := Aside0.mk (Below.refl w.heap.size w)
 have H : ((laws_szProg.f k l0_0 1048576).bind fun t636 => (if t636 < 0 then (some true) else ((laws_szPlace.f l2_0 l2_1 t636).bind fun t637 => (if t637 < 0 then (some true) else ((laws_toProg.f k l0_0).bind fun t638 => ((laws_toExpr.f a1_0 a1_1 a1_2 a1_3 a1_4).bind fun bt641 => ((laws_toPlace.f k l2_0 l2_1).bind fun bt646 => ((spec_PlaceOk.f k t638 bt641.1 bt641.2.1 bt641.2.2.1 bt641.2.2.2.1 bt641.2.2.2.2 bt646.1 bt646.2).bind fun t652 => ((laws_toProg.f k l0_0).bind fun t653 => ((laws_toPlace.f k l2_0 l2_1).bind fun bt657 => ((laws_toExpr.f a1_0 a1_1 a1_2 a1_3 a1_4).bind fun bt664 => ((impl_PlaceOk.f t653 bt664.1 bt664.2.1 bt664.2.2.1 bt664.2.2.2.1 bt664.2.2.2.2 bt657.1 bt657.2).bind fun t669 => (if (t669 != t652) = true then (some false) else ((laws_toProg.f k l0_0).bind fun t670 => ((laws_eqProg.f k t653 t670).bind fun t673 => (if t673 = true then ((laws_toPlace.f k l2_0 l2_1).bind fun bt674 => ((laws_eqPlace.f k bt657.1 bt657.2 bt674.1 bt674.2).bind fun t680 => (if t680 = true then (some true) else (some false)))) else (some false))))))))))))))))) = some r := h
 clear h
 replace H := Option.bind_eq_some_iff.mp H
 obtain ⟨t636, A40, H⟩ := H
 have A4 := Aside0.mk A40
 clear A40
 by_cases c5 : t636 < 0
 ·rw [if_pos c5] at H
  have c5b0 : decide (t636 < 0) = true := decide_eq_true c5
  clear c5
  obtain rfl := Option.some.inj H
  go_enter Try.func5, Try.ntmps5
  go_wp2_with (first | ((with_reducible refine gate_dst (N := 3) rfl ?_); refine bxe (cs := #[.slice A0_0 l0_0.length c0_0]) (t := 24) ?_; intro gb633 hg w6 hbox hb; have BK633 := Aside0.mk (hbox); have GW633 := bwz HB hg; have GE633 := bwz HB hg; replace HB := bwb HB hb; clear hb hbox hg) | ((with_reducible refine gate_dst (N := 4) rfl ?_); refine bxe (cs := #[.int .i64 a1_0, .int .i64 a1_1, .int .i64 a1_2, .int .i64 a1_3, .int .i64 a1_4]) (t := 28) ?_; intro gb634 hg w7 hbox hb; have BK634 := Aside0.mk (hbox); have GW634 := bwz HB hg; have GE634 := bwz HB hg; replace HB := bwb HB hb; have NB633_634 := bkl BK633 hg; have NB634_633 := bkg BK633 hg; replace BK633 := bkb BK633 hb; clear hb hbox hg) | ((with_reducible refine gate_dst (N := 5) rfl ?_); refine bxe (cs := #[.slice A2_0 l2_0.length c2_0, .slice A2_1 l2_1.length c2_1]) (t := 31) ?_; intro gb635 hg w8 hbox hb; have BK635 := Aside0.mk (hbox); have GW635 := bwz HB hg; have GE635 := bwz HB hg; replace HB := bwb HB hb; have NB633_635 := bkl BK633 hg; have NB635_633 := bkg BK633 hg; replace BK633 := bkb BK633 hb; have NB634_635 := bkl BK634 hg; have NB635_634 := bkg BK634 hg; replace BK634 := bkb BK634 hb; clear hb hbox hg; have hnb9 := NB633_634.out; have hnc9 := NB634_633.out; have hnb10 := NB633_635.out; have hnc10 := NB635_633.out; obtain ⟨hcz11, hfz11⟩ := bcf BK633) | ((with_reducible refine gate_callee (f := 11) rfl ?_); refine goesM (some 14) rfl rfl Try.func11 #[.agg #[.slice A0_0 l0_0.length c0_0], .int .i64 1048576] rfl ?_; (with_reducible refine (laws_szProg.calls k _ _ l0_0 1048576 t636 _ ?side1 ?side2 A4.out).mono ?_); (case side1 => exact Cq (Kd.C_below HR0_0.out HB.out)); (case side2 => exact HC0_0.out); rintro e w12 ⟨rfl, hb⟩; refine ⟨_, rfl, ?_⟩; replace BK633 := bkb BK633 hb; replace BK634 := bkb BK634 hb; replace BK635 := bkb BK635 hb; replace HB := bwb HB hb; (try clear hb); (try clear hb2); (try clear hk); (try clear hi)))
  go_ret
  exact ⟨by first | rfl | (simp [errW_none, errW_some] <;> rfl) | (simp [*, errW_none, errW_some] <;> rfl), bwq HB⟩
 ·rw [if_neg c5] at H
  have c5b0 : decide (t636 < 0) = false := decide_eq_false c5
  clear c5
  replace H := Option.bind_eq_some_iff.mp H
  obtain ⟨t637, A130, H⟩ := H
  have A13 := Aside0.mk A130
  clear A130
  by_cases c14 : t637 < 0
  ·rw [if_pos c14] at H
   have c14b0 : decide (t637 < 0) = true := decide_eq_true c14
   clear c14
   obtain rfl := Option.some.inj H
   go_enter Try.func5, Try.ntmps5
   go_wp2_with (first | ((with_reducible refine gate_dst (N := 3) rfl ?_); refine bxe (cs := #[.slice A0_0 l0_0.length c0_0]) (t := 24) ?_; intro gb633 hg w15 hbox hb; have BK633 := Aside0.mk (hbox); have GW633 := bwz HB hg; have GE633 := bwz HB hg; replace HB := bwb HB hb; clear hb hbox hg) | ((with_reducible refine gate_dst (N := 4) rfl ?_); refine bxe (cs := #[.int .i64 a1_0, .int .i64 a1_1, .int .i64 a1_2, .int .i64 a1_3, .int .i64 a1_4]) (t := 28) ?_; intro gb634 hg w16 hbox hb; have BK634 := Aside0.mk (hbox); have GW634 := bwz HB hg; have GE634 := bwz HB hg; replace HB := bwb HB hb; have NB633_634 := bkl BK633 hg; have NB634_633 := bkg BK633 hg; replace BK633 := bkb BK633 hb; clear hb hbox hg) | ((with_reducible refine gate_dst (N := 5) rfl ?_); refine bxe (cs := #[.slice A2_0 l2_0.length c2_0, .slice A2_1 l2_1.length c2_1]) (t := 31) ?_; intro gb635 hg w17 hbox hb; have BK635 := Aside0.mk (hbox); have GW635 := bwz HB hg; have GE635 := bwz HB hg; replace HB := bwb HB hb; have NB633_635 := bkl BK633 hg; have NB635_633 := bkg BK633 hg; replace BK633 := bkb BK633 hb; have NB634_635 := bkl BK634 hg; have NB635_634 := bkg BK634 hg; replace BK634 := bkb BK634 hb; clear hb hbox hg; have hnb18 := NB633_634.out; have hnc18 := NB634_633.out; have hnb19 := NB633_635.out; have hnc19 := NB635_633.out; obtain ⟨hcz20, hfz20⟩ := bcf BK633) | ((with_reducible refine gate_callee (f := 11) rfl ?_); refine goesM (some 14) rfl rfl Try.func11 #[.agg #[.slice A0_0 l0_0.length c0_0], .int .i64 1048576] rfl ?_; (with_reducible refine (laws_szProg.calls k _ _ l0_0 1048576 t636 _ ?side1 ?side2 A4.out).mono ?_); (case side1 => exact Cq (Kd.C_below HR0_0.out HB.out)); (case side2 => exact HC0_0.out); rintro e w21 ⟨rfl, hb⟩; refine ⟨_, rfl, ?_⟩; replace BK633 := bkb BK633 hb; replace BK634 := bkb BK634 hb; replace BK635 := bkb BK635 hb; replace HB := bwb HB hb; (try clear hb); (try clear hb2); (try clear hk); (try clear hi); have hnb22 := NB635_634.out; have hnc22 := NB634_635.out; obtain ⟨hcz23, hfz23⟩ := bcf BK635) | ((with_reducible refine gate_callee (f := 12) rfl ?_); refine goesM (some 19) rfl rfl Try.func12 #[.agg #[.slice A2_0 l2_0.length c2_0, .slice A2_1 l2_1.length c2_1], .int .i64 t636] rfl ?_; (with_reducible refine (laws_szPlace.calls _ _ l2_0 _ _ l2_1 t636 t637 _ ?side1 ?side2 ?side3 ?side4 A13.out).mono ?_); (case side1 => exact Cq (Kd.C_below HR2_0.out HB.out)); (case side2 => exact HC2_0.out); (case side3 => exact Cq (Kd.C_below HR2_1.out HB.out)); (case side4 => exact HC2_1.out); rintro e w24 ⟨rfl, hb⟩; refine ⟨_, rfl, ?_⟩; replace BK633 := bkb BK633 hb; replace BK634 := bkb BK634 hb; replace BK635 := bkb BK635 hb; replace HB := bwb HB hb; (try clear hb); (try clear hb2); (try clear hk); (try clear hi)))
   go_ret
   exact ⟨by first | rfl | (simp [errW_none, errW_some] <;> rfl) | (simp [*, errW_none, errW_some] <;> rfl), bwq HB⟩
  ·rw [if_neg c14] at H
   have c14b0 : decide (t637 < 0) = false := decide_eq_false c14
   clear c14
   replace H := Option.bind_eq_some_iff.mp H
   obtain ⟨t638, A250, H⟩ := H
   have A25 := Aside0.mk A250
   clear A250
   replace H := Option.bind_eq_some_iff.mp H
   obtain ⟨⟨t641, t642, t643, t644, t645⟩, A260, H⟩ := H
   have A26 := Aside0.mk A260
   clear A260
   replace H := Option.bind_eq_some_iff.mp H
   obtain ⟨⟨t646, t649⟩, A270, H⟩ := H
   have A27 := Aside0.mk A270
   clear A270
   replace H := Option.bind_eq_some_iff.mp H
   obtain ⟨t652, A280, H⟩ := H
   have A28 := Aside0.mk A280
   clear A280
   replace H := Option.bind_eq_some_iff.mp H
   obtain ⟨t653, A290, H⟩ := H
   have A29 := Aside0.mk A290
   clear A290
   replace H := Option.bind_eq_some_iff.mp H
   obtain ⟨⟨t657, t660⟩, A300, H⟩ := H
   have A30 := Aside0.mk A300
   clear A300
   replace H := Option.bind_eq_some_iff.mp H
   obtain ⟨⟨t664, t665, t666, t667, t668⟩, A310, H⟩ := H
   have A31 := Aside0.mk A310
   clear A310
   replace H := Option.bind_eq_some_iff.mp H
   obtain ⟨t669, A320, H⟩ := H
   have A32 := Aside0.mk A320
   clear A320
   by_cases c33 : (t669 != t652) = true
   ·rw [if_pos c33] at H
    have c33b0 : (t669 != t652) = true := c33
    (try (have c33b1 : decide (t669 = t652) = false := by simpa using c33))
    (try (have c33b2 : (t669 == t652) = false := by simpa using c33))
    (try (have c33b3 : ¬ (t669 = t652) := by simpa using c33))
    clear c33
    obtain rfl := Option.some.inj H
    go_enter Try.func5, Try.ntmps5
    try go_wp2_with (first | ((with_reducible refine gate_dst (N := 3) rfl ?_); refine bxe (cs := #[.slice A0_0 l0_0.length c0_0]) (t := 24) ?_; intro gb633 hg w34 hbox hb; have BK633 := Aside0.mk (hbox); have GW633 := bwz HB hg; have GE633 := bwz HB hg; replace HB := bwb HB hb; clear hb hbox hg) | ((with_reducible refine gate_dst (N := 4) rfl ?_); refine bxe (cs := #[.int .i64 a1_0, .int .i64 a1_1, .int .i64 a1_2, .int .i64 a1_3, .int .i64 a1_4]) (t := 28) ?_; intro gb634 hg w35 hbox hb; have BK634 := Aside0.mk (hbox); have GW634 := bwz HB hg; have GE634 := bwz HB hg; replace HB := bwb HB hb; have NB633_634 := bkl BK633 hg; have NB634_633 := bkg BK633 hg; replace BK633 := bkb BK633 hb; clear hb hbox hg) | ((with_reducible refine gate_dst (N := 5) rfl ?_); refine bxe (cs := #[.slice A2_0 l2_0.length c2_0, .slice A2_1 l2_1.length c2_1]) (t := 31) ?_; intro gb635 hg w36 hbox hb; have BK635 := Aside0.mk (hbox); have GW635 := bwz HB hg; have GE635 := bwz HB hg; replace HB := bwb HB hb; have NB633_635 := bkl BK633 hg; have NB635_633 := bkg BK633 hg; replace BK633 := bkb BK633 hb; have NB634_635 := bkl BK634 hg; have NB635_634 := bkg BK634 hg; replace BK634 := bkb BK634 hb; clear hb hbox hg; have hnb37 := NB633_634.out; have hnc37 := NB634_633.out; have hnb38 := NB633_635.out; have hnc38 := NB635_633.out; obtain ⟨hcz39, hfz39⟩ := bcf BK633) | ((with_reducible refine gate_callee (f := 11) rfl ?_); refine goesM (some 14) rfl rfl Try.func11 #[.agg #[.slice A0_0 l0_0.length c0_0], .int .i64 1048576] rfl ?_; (with_reducible refine (laws_szProg.calls k _ _ l0_0 1048576 t636 _ ?side1 ?side2 A4.out).mono ?_); (case side1 => exact Cq (Kd.C_below HR0_0.out HB.out)); (case side2 => exact HC0_0.out); rintro e w40 ⟨rfl, hb⟩; refine ⟨_, rfl, ?_⟩; replace BK633 := bkb BK633 hb; replace BK634 := bkb BK634 hb; replace BK635 := bkb BK635 hb; replace HB := bwb HB hb; (try clear hb); (try clear hb2); (try clear hk); (try clear hi); have hnb41 := NB635_634.out; have hnc41 := NB634_635.out; obtain ⟨hcz42, hfz42⟩ := bcf BK635) | ((with_reducible refine gate_callee (f := 12) rfl ?_); refine goesM (some 19) rfl rfl Try.func12 #[.agg #[.slice A2_0 l2_0.length c2_0, .slice A2_1 l2_1.length c2_1], .int .i64 t636] rfl ?_; (with_reducible refine (laws_szPlace.calls _ _ l2_0 _ _ l2_1 t636 t637 _ ?side1 ?side2 ?side3 ?side4 A13.out).mono ?_); (case side1 => exact Cq (Kd.C_below HR2_0.out HB.out)); (case side2 => exact HC2_0.out); (case side3 => exact Cq (Kd.C_below HR2_1.out HB.out)); (case side4 => exact HC2_1.out); rintro e w43 ⟨rfl, hb⟩; refine ⟨_, rfl, ?_⟩; replace BK633 := bkb BK633 hb; replace BK634 := bkb BK634 hb; replace BK635 := bkb BK635 hb; replace HB := bwb HB hb; (try clear hb); (try clear hb2); (try clear hk); (try clear hi)))
    replace BK633 := Aside0.mk (blk_drew BK633.out)
    replace BK634 := Aside0.mk (blk_drew BK634.out)
    replace BK635 := Aside0.mk (blk_drew BK635.out)
    replace HB := Aside0.mk (below_drew1 HB.out)
    refine start_ (n := 8) (S := fun w' => w'.cell? ⟨gb633, 0, none⟩ = some (.slice A0_0 l0_0.length c0_0) ∧ w'.cell? ⟨gb634, 0, none⟩ = some (.int .i64 a1_0) ∧ w'.cell? ⟨gb634, 1, none⟩ = some (.int .i64 a1_1) ∧ w'.cell? ⟨gb634, 2, none⟩ = some (.int .i64 a1_2) ∧ w'.cell? ⟨gb634, 3, none⟩ = some (.int .i64 a1_3) ∧ w'.cell? ⟨gb634, 4, none⟩ = some (.int .i64 a1_4) ∧ w'.cell? ⟨gb635, 0, none⟩ = some (.slice A2_0 l2_0.length c2_0) ∧ w'.cell? ⟨gb635, 1, none⟩ = some (.slice A2_1 l2_1.length c2_1)) (ds := []) #[false, false, false, false, false, false, false, false] (by kernel_rfl) rfl rfl ⟨(blk_cell BK633.out 0).trans rfl, (blk_cell BK634.out 0).trans rfl, (blk_cell BK634.out 1).trans rfl, (blk_cell BK634.out 2).trans rfl, (blk_cell BK634.out 3).trans rfl, (blk_cell BK634.out 4).trans rfl, (blk_cell BK635.out 0).trans rfl, (blk_cell BK635.out 1).trans rfl⟩ (fun hHeld => ?_); refine with_tabW laws_FnExactPlaceOk.tab8 laws_FnExactPlaceOk.bits8 (fun HT_ HW_ => ?_)
    generalize w43.drew = w44 at BK633 BK634 BK635 HB hHeld ⊢
    refine take_ (i := 0) (N := some 22) (v := ?_) (a' := ?_) #[true, false, false, false, false, false, false, false] rfl rfl (take_ofW HT_.out HW_.out (by kernel_rfl)) (fun _ _ _ h => h) (Or.inl ⟨by rfl, ?_⟩) hHeld ?_ ?_
    rotate_left
    ·rintro w' ⟨s0, s1, s2, s3, s4, s5, s6, s7⟩
     go_simp
     with_reducible rfl
    rotate_left
    ·simp only [Act.put, List.setIfInBounds_toArray, List.set_cons_zero, List.set_cons_succ, i64_w, i32_w]
     rfl
    refine take_ (i := 2) (N := some 24) (v := ?_) (a' := ?_) #[true, false, true, false, false, false, false, false] rfl rfl (take_ofW HT_.out HW_.out (by kernel_rfl)) (fun _ _ _ h => h) (Or.inl ⟨by rfl, ?_⟩) hHeld ?_ ?_
    rotate_left
    ·rintro w' ⟨s0, s1, s2, s3, s4, s5, s6, s7⟩
     go_simp
     with_reducible rfl
    rotate_left
    ·simp only [Act.put, List.setIfInBounds_toArray, List.set_cons_zero, List.set_cons_succ, i64_w, i32_w]
     rfl
    refine take_ (i := 4) (N := some 26) (v := ?_) (a' := ?_) #[true, false, true, false, true, false, false, false] rfl rfl (take_ofW HT_.out HW_.out (by kernel_rfl)) (fun _ _ _ h => h) (Or.inl ⟨by rfl, ?_⟩) hHeld ?_ ?_
    rotate_left
    ·rintro w' ⟨s0, s1, s2, s3, s4, s5, s6, s7⟩
     go_simp
     with_reducible rfl
    rotate_left
    ·simp only [Act.put, List.setIfInBounds_toArray, List.set_cons_zero, List.set_cons_succ, i64_w, i32_w]
     rfl
    refine one_ (i := 1) (N := some 23) #[true, true, true, false, true, false, false, false] rfl rfl (one_of HT_.out (by kernel_rfl)) (by decide) (fun K hK => ?_)
    refine goesS Try.func14 #[.agg #[.slice A0_0 l0_0.length c0_0]] rfl rfl ?_
    with_reducible refine (laws_toProg.calls k _ _ l0_0 t638 _ ?side1 ?side2 A25.out).mono ?_
    (case side1 => exact Cq (Kd.C_below HR0_0.out HB.out))
    (case side2 => exact HC0_0.out)
    rintro e w45 ⟨v639, rfl, ho0, hb⟩
    refine ⟨_, rfl, ?_⟩
    have HO640 := Aside0.mk (Kd.S_lower ho0 (below_size (bwq HB)))
    replace BK633 := bkb BK633 hb
    replace BK634 := bkb BK634 hb
    replace BK635 := bkb BK635 hb
    replace HB := bwb HB hb
    (try clear hb)
    (try clear hb2)
    (try clear hk)
    (try clear hi)
    (try clear ho0)
    refine hK.out _ _ ⟨(blk_cell BK633.out 0).trans rfl, (blk_cell BK634.out 0).trans rfl, (blk_cell BK634.out 1).trans rfl, (blk_cell BK634.out 2).trans rfl, (blk_cell BK634.out 3).trans rfl, (blk_cell BK634.out 4).trans rfl, (blk_cell BK635.out 0).trans rfl, (blk_cell BK635.out 1).trans rfl⟩ (fun hHeld => ?_)
    clear hK K
    refine norm_ (a' := ?_) ?_ ?_
    rotate_left
    ·show Act.put _ (some 23) _ = _
     simp only [Act.put, List.setIfInBounds_toArray, List.set_cons_zero, List.set_cons_succ, i64_w, i32_w]
     rfl
    refine one_ (i := 3) (N := some 25) #[true, true, true, true, true, false, false, false] rfl rfl (one_of HT_.out (by kernel_rfl)) (by decide) (fun K hK => ?_)
    refine goesS Try.func15 #[.agg #[.int .i64 a1_0, .int .i64 a1_1, .int .i64 a1_2, .int .i64 a1_3, .int .i64 a1_4]] rfl rfl ?_
    with_reducible refine (laws_toExpr.calls a1_0 a1_1 a1_2 a1_3 a1_4 t641 t642 t643 t644 t645 _ A26.out).mono ?_
    rintro e w46 ⟨rfl, hb⟩
    refine ⟨_, rfl, ?_⟩
    replace HO640 := Aside0.mk (Kd.S_below (Sq HO640.out) hb)
    replace BK633 := bkb BK633 hb
    replace BK634 := bkb BK634 hb
    replace BK635 := bkb BK635 hb
    replace HB := bwb HB hb
    (try clear hb)
    (try clear hb2)
    (try clear hk)
    (try clear hi)
    refine hK.out _ _ ⟨(blk_cell BK633.out 0).trans rfl, (blk_cell BK634.out 0).trans rfl, (blk_cell BK634.out 1).trans rfl, (blk_cell BK634.out 2).trans rfl, (blk_cell BK634.out 3).trans rfl, (blk_cell BK634.out 4).trans rfl, (blk_cell BK635.out 0).trans rfl, (blk_cell BK635.out 1).trans rfl⟩ (fun hHeld => ?_)
    clear hK K
    refine norm_ (a' := ?_) ?_ ?_
    rotate_left
    ·show Act.put _ (some 25) _ = _
     simp only [Act.put, List.setIfInBounds_toArray, List.set_cons_zero, List.set_cons_succ, i64_w, i32_w]
     rfl
    refine one_ (i := 5) (N := some 27) #[true, true, true, true, true, true, false, false] rfl rfl (one_of HT_.out (by kernel_rfl)) (by decide) (fun K hK => ?_)
    refine goesS Try.func16 #[.agg #[.slice A2_0 l2_0.length c2_0, .slice A2_1 l2_1.length c2_1]] rfl rfl ?_
    with_reducible refine (laws_toPlace.calls k _ _ l2_0 _ _ l2_1 t646 t649 _ ?side1 ?side2 ?side3 ?side4 A27.out).mono ?_
    (case side1 => exact Cq (Kd.C_below HR2_0.out HB.out))
    (case side2 => exact HC2_0.out)
    (case side3 => exact Cq (Kd.C_below HR2_1.out HB.out))
    (case side4 => exact HC2_1.out)
    rintro e w47 ⟨v647, v650, rfl, ho0, ho1, hb⟩
    refine ⟨_, rfl, ?_⟩
    replace HO640 := Aside0.mk (Kd.S_below (Sq HO640.out) hb)
    have HO648 := Aside0.mk (Kd.R_lower ho0 (below_size (bwq HB)))
    have HO651 := Aside0.mk (Kd.R_lower ho1 (below_size (bwq HB)))
    replace BK633 := bkb BK633 hb
    replace BK634 := bkb BK634 hb
    replace BK635 := bkb BK635 hb
    replace HB := bwb HB hb
    (try clear hb)
    (try clear hb2)
    (try clear hk)
    (try clear hi)
    (try clear ho0)
    (try clear ho1)
    obtain ⟨Ao48, co48, eo48⟩ := Kd.S_slice HO640.out
    (first | subst eo48 | (injection eo48 with f1_ f2_ f3_; have f4_ := f1_.symm; have f5_ := f3_.symm; clear f1_ f2_ f3_; subst f4_; subst f5_))
    obtain ⟨Ao49, co49, eo49⟩ := Kd.R_slice HO648.out
    (first | subst eo49 | (injection eo49 with f1_ f2_ f3_; have f4_ := f1_.symm; have f5_ := f3_.symm; clear f1_ f2_ f3_; subst f4_; subst f5_))
    obtain ⟨Ao50, co50, eo50⟩ := Kd.R_slice HO651.out
    (first | subst eo50 | (injection eo50 with f1_ f2_ f3_; have f4_ := f1_.symm; have f5_ := f3_.symm; clear f1_ f2_ f3_; subst f4_; subst f5_))
    refine hK.out _ _ ⟨(blk_cell BK633.out 0).trans rfl, (blk_cell BK634.out 0).trans rfl, (blk_cell BK634.out 1).trans rfl, (blk_cell BK634.out 2).trans rfl, (blk_cell BK634.out 3).trans rfl, (blk_cell BK634.out 4).trans rfl, (blk_cell BK635.out 0).trans rfl, (blk_cell BK635.out 1).trans rfl⟩ (fun hHeld => ?_)
    clear hK K
    refine norm_ (a' := ?_) ?_ ?_
    rotate_left
    ·show Act.put _ (some 27) _ = _
     simp only [Act.put, List.setIfInBounds_toArray, List.set_cons_zero, List.set_cons_succ, i64_w, i32_w]
     rfl
    refine one_ (i := 6) (N := some 28) #[true, true, true, true, true, true, true, false] rfl rfl (one_of HT_.out (by kernel_rfl)) (by decide) (fun K hK => ?_)
    refine goesS Try.func29 #[.agg #[.slice Ao48 t638.length co48], .agg #[.int .i64 t641, .int .i64 t642, .int .i64 t643, .int .i64 t644, .int .i64 t645], .agg #[.slice Ao49 t646.length co49, .slice Ao50 t649.length co50]] rfl rfl ?_
    with_reducible refine (spec_PlaceOk.calls k _ _ t638 t641 t642 t643 t644 t645 _ _ t646 _ _ t649 t652 _ ?side1 ?side2 ?side3 ?side4 ?side5 ?side6 A28.out).mono ?_
    (case side1 => repeat (first | exact (Kd.S_reads' HO640.out).2.2 | (with_reducible refine Kd.C_alloc ?_ _) | (with_reducible refine Kd.C_drewN ?_ _) | (with_reducible refine Kd.C_drew ?_)))
    (case side2 => exact (Kd.S_reads' HO640.out).2.1)
    (case side3 => repeat (first | exact (Kd.R_reads' HO648.out).2.2 | (with_reducible refine Kd.C_alloc ?_ _) | (with_reducible refine Kd.C_drewN ?_ _) | (with_reducible refine Kd.C_drew ?_)))
    (case side4 => exact (Kd.R_reads' HO648.out).2.1)
    (case side5 => repeat (first | exact (Kd.R_reads' HO651.out).2.2 | (with_reducible refine Kd.C_alloc ?_ _) | (with_reducible refine Kd.C_drewN ?_ _) | (with_reducible refine Kd.C_drew ?_)))
    (case side6 => exact (Kd.R_reads' HO651.out).2.1)
    rintro e w51 ⟨rfl, hb⟩
    refine ⟨_, rfl, ?_⟩
    replace HO640 := Aside0.mk (Kd.S_below (Sq HO640.out) hb)
    replace HO648 := Aside0.mk (Kd.R_below (Rq HO648.out) hb)
    replace HO651 := Aside0.mk (Kd.R_below (Rq HO651.out) hb)
    replace BK633 := bkb BK633 hb
    replace BK634 := bkb BK634 hb
    replace BK635 := bkb BK635 hb
    replace HB := bwb HB hb
    (try clear hb)
    (try clear hb2)
    (try clear hk)
    (try clear hi)
    refine hK.out _ _ ⟨(blk_cell BK633.out 0).trans rfl, (blk_cell BK634.out 0).trans rfl, (blk_cell BK634.out 1).trans rfl, (blk_cell BK634.out 2).trans rfl, (blk_cell BK634.out 3).trans rfl, (blk_cell BK634.out 4).trans rfl, (blk_cell BK635.out 0).trans rfl, (blk_cell BK635.out 1).trans rfl⟩ (fun hHeld => ?_)
    clear hK K
    refine norm_ (a' := ?_) ?_ ?_
    rotate_left
    ·show Act.put _ (some 28) _ = _
     simp only [Act.put, List.setIfInBounds_toArray, List.set_cons_zero, List.set_cons_succ, i64_w, i32_w]
     rfl
    refine pure_ (i := 7) (N := some 8) (v := ?_) (a' := ?_) #[true, true, true, true, true, true, true, true] rfl rfl (any_of HT_.out (by kernel_rfl)) (fun _ _ _ h => h) (Or.inl ⟨by rfl, ?_⟩) ?_ ?_
    rotate_left
    ·intro w'
     go_simp
     with_reducible rfl
    rotate_left
    ·simp only [Act.put, List.setIfInBounds_toArray, List.set_cons_zero, List.set_cons_succ, i64_w, i32_w]
     rfl
    refine done_ (done_of HT_.out (by kernel_rfl)) ?_
    obtain ⟨hcz52, hfz52⟩ := bcf BK633
    try go_wp2_with (first | ((with_reducible refine gate_callee (f := 14) rfl ?_); refine goesM (some 30) rfl rfl Try.func14 #[.agg #[.slice A0_0 l0_0.length c0_0]] rfl ?_; (with_reducible refine (laws_toProg.calls k _ _ l0_0 t653 _ ?side1 ?side2 A29.out).mono ?_); (case side1 => exact Cq (Kd.C_below HR0_0.out HB.out)); (case side2 => exact HC0_0.out); rintro e w53 ⟨v654, rfl, ho0, hb⟩; refine ⟨_, rfl, ?_⟩; replace HO648 := Aside0.mk (Kd.R_below (Rq HO648.out) hb); replace HO651 := Aside0.mk (Kd.R_below (Rq HO651.out) hb); have HO655 := Aside0.mk (Kd.S_lower (Kd.S_new' ho0 (Kd.S_lt (Sq HO640.out))) (below_size (bwq HB))); replace HO640 := Aside0.mk (Kd.S_elder' (Sq HO640.out) (Kd.S_base ho0) hb); replace BK633 := bkb BK633 hb; replace BK634 := bkb BK634 hb; replace BK635 := bkb BK635 hb; replace HB := bwb HB hb; (try clear hb); (try clear hb2); (try clear hk); (try clear hi); (try clear ho0)) | ((with_reducible refine gate_dst (N := 9) rfl ?_); refine bxe (cs := #[.slice none 0 0]) (t := 38) ?_; intro gb656 hg w54 hbox hb; replace HO640 := Aside0.mk (Kd.S_below (Sq HO640.out) hb); replace HO648 := Aside0.mk (Kd.R_below (Rq HO648.out) hb); replace HO651 := Aside0.mk (Kd.R_below (Rq HO651.out) hb); replace HO655 := Aside0.mk (Kd.S_below (Sq HO655.out) hb); have BK656 := Aside0.mk (hbox); have GW656 := bwz HB hg; have GE656 := bwz HB hg; replace HB := bwb HB hb; have NB633_656 := bkl BK633 hg; have NB656_633 := bkg BK633 hg; replace BK633 := bkb BK633 hb; have NB634_656 := bkl BK634 hg; have NB656_634 := bkg BK634 hg; replace BK634 := bkb BK634 hb; have NB635_656 := bkl BK635 hg; have NB656_635 := bkg BK635 hg; replace BK635 := bkb BK635 hb; clear hb hbox hg; obtain ⟨Ao55, co55, eo55⟩ := Kd.S_slice HO655.out; subst eo55; have hnb56 := NB656_633.out; have hnc56 := NB633_656.out; have hnb57 := NB656_634.out; have hnc57 := NB634_656.out; have hnb58 := NB656_635.out; have hnc58 := NB635_656.out; obtain ⟨hcz59, hfz59⟩ := bcf BK656; obtain ⟨hcz60, hfz60⟩ := bcf BK635) | ((with_reducible refine gate_callee (f := 16) rfl ?_); refine goesM (some 32) rfl rfl Try.func16 #[.agg #[.slice A2_0 l2_0.length c2_0, .slice A2_1 l2_1.length c2_1]] rfl ?_; (with_reducible refine (laws_toPlace.calls k _ _ l2_0 _ _ l2_1 t657 t660 _ ?side1 ?side2 ?side3 ?side4 A30.out).mono ?_); (case side1 => exact Kd.C_below HR2_0.out (bwq HB)); (case side2 => exact HC2_0.out); (case side3 => exact Kd.C_below HR2_1.out (bwq HB)); (case side4 => exact HC2_1.out); rintro e w61 ⟨v658, v661, rfl, ho0, ho1, hb⟩; refine ⟨_, rfl, ?_⟩; replace HO640 := Aside0.mk (Kd.S_below (by (with_reducible repeat (first | apply Kd.S_alloc | apply Kd.S_drewN | apply Kd.S_drew)); exact (Kd.S_mono (Kd.S_far (p := ⟨gb656, 0, none⟩) (Kd.S_types HO640.out BK656.out (by decide)) (fun _ hk => hk.2) (.slice Ao55 t653.length co55)) (fun _ h_ => h_.1))) hb); replace HO655 := Aside0.mk (Kd.S_below (by (with_reducible repeat (first | apply Kd.S_alloc | apply Kd.S_drewN | apply Kd.S_drew)); exact (Kd.S_mono (Kd.S_far (p := ⟨gb656, 0, none⟩) (Kd.S_types HO655.out BK656.out (by decide)) (fun _ hk => hk.2) (.slice Ao55 t653.length co55)) (fun _ h_ => h_.1))) hb); have HO659 := Aside0.mk (Kd.R_lower (Kd.R_new' (Kd.R_new' ho0 (Kd.R_lt (by (with_reducible repeat (first | apply Kd.R_alloc | apply Kd.R_drewN | apply Kd.R_drew)); exact (Kd.R_mono (Kd.R_far (p := ⟨gb656, 0, none⟩) (Kd.R_types HO648.out BK656.out (by decide)) (fun _ hk => hk.2) (.slice Ao55 t653.length co55)) (fun _ h_ => h_.1))))) (Kd.R_lt (by (with_reducible repeat (first | apply Kd.R_alloc | apply Kd.R_drewN | apply Kd.R_drew)); exact (Kd.R_mono (Kd.R_far (p := ⟨gb656, 0, none⟩) (Kd.R_types HO651.out BK656.out (by decide)) (fun _ hk => hk.2) (.slice Ao55 t653.length co55)) (fun _ h_ => h_.1))))) (below_size (bwq HB))); have HO662 := Aside0.mk (Kd.R_lower (Kd.R_new' (Kd.R_new' ho1 (Kd.R_lt (by (with_reducible repeat (first | apply Kd.R_alloc | apply Kd.R_drewN | apply Kd.R_drew)); exact (Kd.R_mono (Kd.R_far (p := ⟨gb656, 0, none⟩) (Kd.R_types HO648.out BK656.out (by decide)) (fun _ hk => hk.2) (.slice Ao55 t653.length co55)) (fun _ h_ => h_.1))))) (Kd.R_lt (by (with_reducible repeat (first | apply Kd.R_alloc | apply Kd.R_drewN | apply Kd.R_drew)); exact (Kd.R_mono (Kd.R_far (p := ⟨gb656, 0, none⟩) (Kd.R_types HO651.out BK656.out (by decide)) (fun _ hk => hk.2) (.slice Ao55 t653.length co55)) (fun _ h_ => h_.1))))) (below_size (bwq HB))); replace HO648 := Aside0.mk (Kd.R_mono (Kd.R_told (Kd.R_told (Kd.R_old (by (with_reducible repeat (first | apply Kd.R_alloc | apply Kd.R_drewN | apply Kd.R_drew)); exact (Kd.R_mono (Kd.R_far (p := ⟨gb656, 0, none⟩) (Kd.R_types HO648.out BK656.out (by decide)) (fun _ hk => hk.2) (.slice Ao55 t653.length co55)) (fun _ h_ => h_.1))) hb) (Kd.R_base ho0)) (Kd.R_base ho1)) (fun _ h_ => h_.1)); replace HO651 := Aside0.mk (Kd.R_mono (Kd.R_told (Kd.R_told (Kd.R_old (by (with_reducible repeat (first | apply Kd.R_alloc | apply Kd.R_drewN | apply Kd.R_drew)); exact (Kd.R_mono (Kd.R_far (p := ⟨gb656, 0, none⟩) (Kd.R_types HO651.out BK656.out (by decide)) (fun _ hk => hk.2) (.slice Ao55 t653.length co55)) (fun _ h_ => h_.1))) hb) (Kd.R_base ho0)) (Kd.R_base ho1)) (fun _ h_ => h_.1)); replace BK633 := Aside0.mk (blk_below (g := gb633) (o := .cells #[.slice A0_0 l0_0.length c0_0] 24 (0, 0)) (by (with_reducible repeat (first | refine blk_drewN ?_ _ | refine blk_drew ?_ | refine blk_alloc ?_ _)); refine blk_far ?_ NB633_656.out _; exact bkq BK633) hb); replace BK634 := Aside0.mk (blk_below (g := gb634) (o := .cells #[.int .i64 a1_0, .int .i64 a1_1, .int .i64 a1_2, .int .i64 a1_3, .int .i64 a1_4] 28 (0, 0)) (by (with_reducible repeat (first | refine blk_drewN ?_ _ | refine blk_drew ?_ | refine blk_alloc ?_ _)); refine blk_far ?_ NB634_656.out _; exact bkq BK634) hb); replace BK635 := Aside0.mk (blk_below (g := gb635) (o := .cells #[.slice A2_0 l2_0.length c2_0, .slice A2_1 l2_1.length c2_1] 31 (0, 0)) (by (with_reducible repeat (first | refine blk_drewN ?_ _ | refine blk_drew ?_ | refine blk_alloc ?_ _)); refine blk_far ?_ NB635_656.out _; exact bkq BK635) hb); replace BK656 := Aside0.mk (blk_below (g := gb656) (o := .cells #[.slice Ao55 t653.length co55] 38 (0, 0)) (by (with_reducible repeat (first | refine blk_drewN ?_ _ | refine blk_drew ?_ | refine blk_alloc ?_ _)); refine blk_put (cs := #[.slice none 0 0]) ?_ 0 _ rfl; exact bkq BK656) hb); replace HB := bwb HB hb; (try clear hb); (try clear hb2); (try clear hk); (try clear hi); (try clear ho0); (try clear ho1)) | ((with_reducible refine gate_dst (N := 10) rfl ?_); refine bxe (cs := #[.slice none 0 0, .slice none 0 0]) (t := 44) ?_; intro gb663 hg w62 hbox hb; replace HO640 := Aside0.mk (Kd.S_below (Sq HO640.out) hb); replace HO648 := Aside0.mk (Kd.R_below (Rq HO648.out) hb); replace HO651 := Aside0.mk (Kd.R_below (Rq HO651.out) hb); replace HO655 := Aside0.mk (Kd.S_below (Sq HO655.out) hb); replace HO659 := Aside0.mk (Kd.R_below (Rq HO659.out) hb); replace HO662 := Aside0.mk (Kd.R_below (Rq HO662.out) hb); have BK663 := Aside0.mk (hbox); have GW663 := bwz HB hg; have GE663 := bwz HB hg; replace HB := bwb HB hb; have NB633_663 := bkl BK633 hg; have NB663_633 := bkg BK633 hg; replace BK633 := bkb BK633 hb; have NB634_663 := bkl BK634 hg; have NB663_634 := bkg BK634 hg; replace BK634 := bkb BK634 hb; have NB635_663 := bkl BK635 hg; have NB663_635 := bkg BK635 hg; replace BK635 := bkb BK635 hb; have NB656_663 := bkl BK656 hg; have NB663_656 := bkg BK656 hg; replace BK656 := bkb BK656 hb; clear hb hbox hg; obtain ⟨Ao63, co63, eo63⟩ := Kd.R_slice HO659.out; subst eo63; have hnb64 := NB663_633.out; have hnc64 := NB633_663.out; have hnb65 := NB663_634.out; have hnc65 := NB634_663.out; have hnb66 := NB663_635.out; have hnc66 := NB635_663.out; have hnb67 := NB663_656.out; have hnc67 := NB656_663.out; obtain ⟨hcz68, hfz68⟩ := bcf BK663; obtain ⟨Ao69, co69, eo69⟩ := Kd.R_slice HO662.out; subst eo69))
    have n0_ : Aside0 (Kd.S k77 77 ((w62.setCell ⟨gb663, 0, none⟩ (.slice Ao63 t657.length co63)).setCell ⟨gb663, 1, none⟩ (.slice Ao69 t660.length co69)) w.heap.size (fun k_ => some k_ ≠ (.slice Ao55 t653.length co55 : Value).ownBlock) (.slice Ao48 t638.length co48) t638) := Sset2 HO640 BK663 (fun _ hk => hk.2)
    have n1_ : Aside0 (Kd.R Kd.bool 4 ((w62.setCell ⟨gb663, 0, none⟩ (.slice Ao63 t657.length co63)).setCell ⟨gb663, 1, none⟩ (.slice Ao69 t660.length co69)) w.heap.size (fun k_ => some k_ ≠ (.slice Ao50 t649.length co50 : Value).ownBlock ∧ some k_ ≠ (.slice Ao63 t657.length co63 : Value).ownBlock ∧ some k_ ≠ (.slice Ao69 t660.length co69 : Value).ownBlock) (.slice Ao49 t646.length co49) t646) := Rset2 HO648 BK663 (fun _ hk => ⟨hk.1.1, ⟨hk.1.2, hk.2⟩⟩)
    have n2_ : Aside0 (Kd.R Kd.bool 4 ((w62.setCell ⟨gb663, 0, none⟩ (.slice Ao63 t657.length co63)).setCell ⟨gb663, 1, none⟩ (.slice Ao69 t660.length co69)) w.heap.size (fun k_ => some k_ ≠ (.slice Ao49 t646.length co49 : Value).ownBlock ∧ some k_ ≠ (.slice Ao63 t657.length co63 : Value).ownBlock ∧ some k_ ≠ (.slice Ao69 t660.length co69 : Value).ownBlock) (.slice Ao50 t649.length co50) t649) := Rset2 HO651 BK663 (fun _ hk => ⟨hk.1.1, ⟨hk.1.2, hk.2⟩⟩)
    have n3_ : Aside0 (Kd.S k77 77 ((w62.setCell ⟨gb663, 0, none⟩ (.slice Ao63 t657.length co63)).setCell ⟨gb663, 1, none⟩ (.slice Ao69 t660.length co69)) w.heap.size (fun k_ => some k_ ≠ (.slice Ao48 t638.length co48 : Value).ownBlock) (.slice Ao55 t653.length co55) t653) := Sset2 HO655 BK663 (fun _ hk => hk.2)
    have n4_ : Aside0 (Kd.R Kd.bool 4 ((w62.setCell ⟨gb663, 0, none⟩ (.slice Ao63 t657.length co63)).setCell ⟨gb663, 1, none⟩ (.slice Ao69 t660.length co69)) w.heap.size (fun k_ => some k_ ≠ (.slice Ao49 t646.length co49 : Value).ownBlock ∧ some k_ ≠ (.slice Ao50 t649.length co50 : Value).ownBlock ∧ some k_ ≠ (.slice Ao69 t660.length co69 : Value).ownBlock) (.slice Ao63 t657.length co63) t657) := Rset2 HO659 BK663 (fun _ hk => ⟨hk.1.2, ⟨hk.2, hk.1.1⟩⟩)
    have n5_ : Aside0 (Kd.R Kd.bool 4 ((w62.setCell ⟨gb663, 0, none⟩ (.slice Ao63 t657.length co63)).setCell ⟨gb663, 1, none⟩ (.slice Ao69 t660.length co69)) w.heap.size (fun k_ => some k_ ≠ (.slice Ao49 t646.length co49 : Value).ownBlock ∧ some k_ ≠ (.slice Ao50 t649.length co50 : Value).ownBlock ∧ some k_ ≠ (.slice Ao63 t657.length co63 : Value).ownBlock) (.slice Ao69 t660.length co69) t660) := Rset2 HO662 BK663 (fun _ hk => ⟨hk.1.2, ⟨hk.2, hk.1.1⟩⟩)
    have n6_ : Aside0 (((w62.setCell ⟨gb663, 0, none⟩ (.slice Ao63 t657.length co63)).setCell ⟨gb663, 1, none⟩ (.slice Ao69 t660.length co69)).heap[gb633]? = some (.cells #[.slice A0_0 l0_0.length c0_0] 24 (0, 0))) := ⟨by (with_reducible repeat (first | refine blk_drewN ?_ _ | refine blk_drew ?_ | refine blk_alloc ?_ _)); refine blk_far ?_ NB633_663.out _; (with_reducible repeat (first | refine blk_drewN ?_ _ | refine blk_drew ?_ | refine blk_alloc ?_ _)); refine blk_far ?_ NB633_663.out _; exact bkq BK633⟩
    have n7_ : Aside0 (((w62.setCell ⟨gb663, 0, none⟩ (.slice Ao63 t657.length co63)).setCell ⟨gb663, 1, none⟩ (.slice Ao69 t660.length co69)).heap[gb634]? = some (.cells #[.int .i64 a1_0, .int .i64 a1_1, .int .i64 a1_2, .int .i64 a1_3, .int .i64 a1_4] 28 (0, 0))) := ⟨by (with_reducible repeat (first | refine blk_drewN ?_ _ | refine blk_drew ?_ | refine blk_alloc ?_ _)); refine blk_far ?_ NB634_663.out _; (with_reducible repeat (first | refine blk_drewN ?_ _ | refine blk_drew ?_ | refine blk_alloc ?_ _)); refine blk_far ?_ NB634_663.out _; exact bkq BK634⟩
    have n8_ : Aside0 (((w62.setCell ⟨gb663, 0, none⟩ (.slice Ao63 t657.length co63)).setCell ⟨gb663, 1, none⟩ (.slice Ao69 t660.length co69)).heap[gb635]? = some (.cells #[.slice A2_0 l2_0.length c2_0, .slice A2_1 l2_1.length c2_1] 31 (0, 0))) := ⟨by (with_reducible repeat (first | refine blk_drewN ?_ _ | refine blk_drew ?_ | refine blk_alloc ?_ _)); refine blk_far ?_ NB635_663.out _; (with_reducible repeat (first | refine blk_drewN ?_ _ | refine blk_drew ?_ | refine blk_alloc ?_ _)); refine blk_far ?_ NB635_663.out _; exact bkq BK635⟩
    have n9_ : Aside0 (((w62.setCell ⟨gb663, 0, none⟩ (.slice Ao63 t657.length co63)).setCell ⟨gb663, 1, none⟩ (.slice Ao69 t660.length co69)).heap[gb656]? = some (.cells #[.slice Ao55 t653.length co55] 38 (0, 0))) := ⟨by (with_reducible repeat (first | refine blk_drewN ?_ _ | refine blk_drew ?_ | refine blk_alloc ?_ _)); refine blk_far ?_ NB656_663.out _; (with_reducible repeat (first | refine blk_drewN ?_ _ | refine blk_drew ?_ | refine blk_alloc ?_ _)); refine blk_far ?_ NB656_663.out _; exact bkq BK656⟩
    have n10_ : Aside0 (((w62.setCell ⟨gb663, 0, none⟩ (.slice Ao63 t657.length co63)).setCell ⟨gb663, 1, none⟩ (.slice Ao69 t660.length co69)).heap[gb663]? = some (.cells #[.slice Ao63 t657.length co63, .slice Ao69 t660.length co69] 44 (0, 0))) := ⟨by (with_reducible repeat (first | refine blk_drewN ?_ _ | refine blk_drew ?_ | refine blk_alloc ?_ _)); refine blk_put (cs := #[.slice Ao63 t657.length co63, .slice none 0 0]) ?_ 1 _ rfl; (with_reducible repeat (first | refine blk_drewN ?_ _ | refine blk_drew ?_ | refine blk_alloc ?_ _)); refine blk_put (cs := #[.slice none 0 0, .slice none 0 0]) ?_ 0 _ rfl; exact bkq BK663⟩
    have n11_ : Aside0 (Below w.heap.size w ((w62.setCell ⟨gb663, 0, none⟩ (.slice Ao63 t657.length co63)).setCell ⟨gb663, 1, none⟩ (.slice Ao69 t660.length co69))) := ⟨bwq HB⟩
    (try clear HO640)
    (try clear HO648)
    (try clear HO651)
    (try clear HO655)
    (try clear HO659)
    (try clear HO662)
    (try clear BK633)
    (try clear BK634)
    (try clear BK635)
    (try clear BK656)
    (try clear BK663)
    (try clear HB)
    generalize ((w62.setCell ⟨gb663, 0, none⟩ (.slice Ao63 t657.length co63)).setCell ⟨gb663, 1, none⟩ (.slice Ao69 t660.length co69)) = w70 at n0_ n1_ n2_ n3_ n4_ n5_ n6_ n7_ n8_ n9_ n10_ n11_ ⊢
    have HO640 := n0_
    have HO648 := n1_
    have HO651 := n2_
    have HO655 := n3_
    have HO659 := n4_
    have HO662 := n5_
    have BK633 := n6_
    have BK634 := n7_
    have BK635 := n8_
    have BK656 := n9_
    have BK663 := n10_
    have HB := n11_
    clear n0_ n1_ n2_ n3_ n4_ n5_ n6_ n7_ n8_ n9_ n10_ n11_
    replace HO640 := Aside0.mk (Kd.S_drew HO640.out)
    replace HO648 := Aside0.mk (Kd.R_drew HO648.out)
    replace HO651 := Aside0.mk (Kd.R_drew HO651.out)
    replace HO655 := Aside0.mk (Kd.S_drew HO655.out)
    replace HO659 := Aside0.mk (Kd.R_drew HO659.out)
    replace HO662 := Aside0.mk (Kd.R_drew HO662.out)
    replace BK633 := Aside0.mk (blk_drew BK633.out)
    replace BK634 := Aside0.mk (blk_drew BK634.out)
    replace BK635 := Aside0.mk (blk_drew BK635.out)
    replace BK656 := Aside0.mk (blk_drew BK656.out)
    replace BK663 := Aside0.mk (blk_drew BK663.out)
    replace HB := Aside0.mk (below_drew1 HB.out)
    refine start_ (n := 6) (S := fun w' => w'.cell? ⟨gb656, 0, none⟩ = some (.slice Ao55 t653.length co55) ∧ w'.cell? ⟨gb634, 0, none⟩ = some (.int .i64 a1_0) ∧ w'.cell? ⟨gb634, 1, none⟩ = some (.int .i64 a1_1) ∧ w'.cell? ⟨gb634, 2, none⟩ = some (.int .i64 a1_2) ∧ w'.cell? ⟨gb634, 3, none⟩ = some (.int .i64 a1_3) ∧ w'.cell? ⟨gb634, 4, none⟩ = some (.int .i64 a1_4) ∧ w'.cell? ⟨gb663, 0, none⟩ = some (.slice Ao63 t657.length co63) ∧ w'.cell? ⟨gb663, 1, none⟩ = some (.slice Ao69 t660.length co69)) (ds := []) #[false, false, false, false, false, false] (by kernel_rfl) rfl rfl ⟨(blk_cell BK656.out 0).trans rfl, (blk_cell BK634.out 0).trans rfl, (blk_cell BK634.out 1).trans rfl, (blk_cell BK634.out 2).trans rfl, (blk_cell BK634.out 3).trans rfl, (blk_cell BK634.out 4).trans rfl, (blk_cell BK663.out 0).trans rfl, (blk_cell BK663.out 1).trans rfl⟩ (fun hHeld => ?_)
    generalize w70.drew = w71 at HO640 HO648 HO651 HO655 HO659 HO662 BK633 BK634 BK635 BK656 BK663 HB hHeld ⊢
    refine take_ (i := 0) (N := some 33) (v := ?_) (a' := ?_) #[true, false, false, false, false, false] rfl rfl (by kernel_rfl) (fun _ _ _ h => h) (Or.inl ⟨by rfl, ?_⟩) hHeld ?_ ?_
    rotate_left
    ·rintro w' ⟨s0, s1, s2, s3, s4, s5, s6, s7⟩
     go_simp
     with_reducible rfl
    rotate_left
    ·simp only [Act.put, List.setIfInBounds_toArray, List.set_cons_zero, List.set_cons_succ, i64_w, i32_w]
     rfl
    refine take_ (i := 1) (N := some 34) (v := ?_) (a' := ?_) #[true, true, false, false, false, false] rfl rfl (by kernel_rfl) (fun _ _ _ h => h) (Or.inl ⟨by rfl, ?_⟩) hHeld ?_ ?_
    rotate_left
    ·rintro w' ⟨s0, s1, s2, s3, s4, s5, s6, s7⟩
     go_simp
     with_reducible rfl
    rotate_left
    ·simp only [Act.put, List.setIfInBounds_toArray, List.set_cons_zero, List.set_cons_succ, i64_w, i32_w]
     rfl
    refine take_ (i := 3) (N := some 36) (v := ?_) (a' := ?_) #[true, true, false, true, false, false] rfl rfl (by kernel_rfl) (fun _ _ _ h => h) (Or.inl ⟨by rfl, ?_⟩) hHeld ?_ ?_
    rotate_left
    ·rintro w' ⟨s0, s1, s2, s3, s4, s5, s6, s7⟩
     go_simp
     with_reducible rfl
    rotate_left
    ·simp only [Act.put, List.setIfInBounds_toArray, List.set_cons_zero, List.set_cons_succ, i64_w, i32_w]
     rfl
    refine one_ (i := 2) (N := some 35) #[true, true, true, true, false, false] rfl rfl (by kernel_rfl) (by decide) (fun K hK => ?_)
    refine goesS Try.func15 #[.agg #[.int .i64 a1_0, .int .i64 a1_1, .int .i64 a1_2, .int .i64 a1_3, .int .i64 a1_4]] rfl rfl ?_
    with_reducible refine (laws_toExpr.calls a1_0 a1_1 a1_2 a1_3 a1_4 t664 t665 t666 t667 t668 _ A31.out).mono ?_
    rintro e w72 ⟨rfl, hb⟩
    refine ⟨_, rfl, ?_⟩
    replace HO640 := Aside0.mk (Kd.S_below (Sq HO640.out) hb)
    replace HO648 := Aside0.mk (Kd.R_below (Rq HO648.out) hb)
    replace HO651 := Aside0.mk (Kd.R_below (Rq HO651.out) hb)
    replace HO655 := Aside0.mk (Kd.S_below (Sq HO655.out) hb)
    replace HO659 := Aside0.mk (Kd.R_below (Rq HO659.out) hb)
    replace HO662 := Aside0.mk (Kd.R_below (Rq HO662.out) hb)
    replace BK633 := bkb BK633 hb
    replace BK634 := bkb BK634 hb
    replace BK635 := bkb BK635 hb
    replace BK656 := bkb BK656 hb
    replace BK663 := bkb BK663 hb
    replace HB := bwb HB hb
    (try clear hb)
    (try clear hb2)
    (try clear hk)
    (try clear hi)
    refine hK.out _ _ ⟨(blk_cell BK656.out 0).trans rfl, (blk_cell BK634.out 0).trans rfl, (blk_cell BK634.out 1).trans rfl, (blk_cell BK634.out 2).trans rfl, (blk_cell BK634.out 3).trans rfl, (blk_cell BK634.out 4).trans rfl, (blk_cell BK663.out 0).trans rfl, (blk_cell BK663.out 1).trans rfl⟩ (fun hHeld => ?_)
    clear hK K
    refine norm_ (a' := ?_) ?_ ?_
    rotate_left
    ·show Act.put _ (some 35) _ = _
     simp only [Act.put, List.setIfInBounds_toArray, List.set_cons_zero, List.set_cons_succ, i64_w, i32_w]
     rfl
    refine one_ (i := 4) (N := some 37) #[true, true, true, true, true, false] rfl rfl (by kernel_rfl) (by decide) (fun K hK => ?_)
    refine goesS Try.func30 #[.agg #[.slice Ao55 t653.length co55], .agg #[.int .i64 t664, .int .i64 t665, .int .i64 t666, .int .i64 t667, .int .i64 t668], .agg #[.slice Ao63 t657.length co63, .slice Ao69 t660.length co69]] rfl rfl ?_
    with_reducible refine (impl_PlaceOk.calls _ _ t653 t664 t665 t666 t667 t668 _ _ t657 _ _ t660 t669 _ ?side1 ?side2 ?side3 ?side4 ?side5 ?side6 A32.out).mono ?_
    (case side1 => repeat (first | exact (Kd.S_reads' HO655.out).2.2 | (with_reducible refine Kd.C_alloc ?_ _) | (with_reducible refine Kd.C_drewN ?_ _) | (with_reducible refine Kd.C_drew ?_)))
    (case side2 => exact (Kd.S_reads' HO655.out).2.1)
    (case side3 => repeat (first | exact (Kd.R_reads' HO659.out).2.2 | (with_reducible refine Kd.C_alloc ?_ _) | (with_reducible refine Kd.C_drewN ?_ _) | (with_reducible refine Kd.C_drew ?_)))
    (case side4 => exact (Kd.R_reads' HO659.out).2.1)
    (case side5 => repeat (first | exact (Kd.R_reads' HO662.out).2.2 | (with_reducible refine Kd.C_alloc ?_ _) | (with_reducible refine Kd.C_drewN ?_ _) | (with_reducible refine Kd.C_drew ?_)))
    (case side6 => exact (Kd.R_reads' HO662.out).2.1)
    rintro e w73 ⟨rfl, hb⟩
    refine ⟨_, rfl, ?_⟩
    replace HO640 := Aside0.mk (Kd.S_below (Sq HO640.out) hb)
    replace HO648 := Aside0.mk (Kd.R_below (Rq HO648.out) hb)
    replace HO651 := Aside0.mk (Kd.R_below (Rq HO651.out) hb)
    replace HO655 := Aside0.mk (Kd.S_below (Sq HO655.out) hb)
    replace HO659 := Aside0.mk (Kd.R_below (Rq HO659.out) hb)
    replace HO662 := Aside0.mk (Kd.R_below (Rq HO662.out) hb)
    replace BK633 := bkb BK633 hb
    replace BK634 := bkb BK634 hb
    replace BK635 := bkb BK635 hb
    replace BK656 := bkb BK656 hb
    replace BK663 := bkb BK663 hb
    replace HB := bwb HB hb
    (try clear hb)
    (try clear hb2)
    (try clear hk)
    (try clear hi)
    refine hK.out _ _ ⟨(blk_cell BK656.out 0).trans rfl, (blk_cell BK634.out 0).trans rfl, (blk_cell BK634.out 1).trans rfl, (blk_cell BK634.out 2).trans rfl, (blk_cell BK634.out 3).trans rfl, (blk_cell BK634.out 4).trans rfl, (blk_cell BK663.out 0).trans rfl, (blk_cell BK663.out 1).trans rfl⟩ (fun hHeld => ?_)
    clear hK K
    refine norm_ (a' := ?_) ?_ ?_
    rotate_left
    ·show Act.put _ (some 37) _ = _
     simp only [Act.put, List.setIfInBounds_toArray, List.set_cons_zero, List.set_cons_succ, i64_w, i32_w]
     rfl
    refine pure_ (i := 5) (N := some 11) (v := ?_) (a' := ?_) #[true, true, true, true, true, true] rfl rfl (by kernel_rfl) (fun _ _ _ h => h) (Or.inl ⟨by rfl, ?_⟩) ?_ ?_
    rotate_left
    ·intro w'
     go_simp
     with_reducible rfl
    rotate_left
    ·simp only [Act.put, List.setIfInBounds_toArray, List.set_cons_zero, List.set_cons_succ, i64_w, i32_w]
     rfl
    refine done_ (by kernel_rfl) ?_
    try go_wp2
    go_ret
    exact ⟨by first | rfl | (simp [errW_none, errW_some] <;> rfl) | (simp [*, errW_none, errW_some] <;> rfl), bwq HB⟩
   ·rw [if_neg c33] at H
    have c33b0 : (t669 != t652) = false := by simpa using c33
    (try (have c33b1 : decide (t669 = t652) = true := by simpa using c33))
    (try (have c33b2 : (t669 == t652) = true := by simpa using c33))
    clear c33
    replace H := Option.bind_eq_some_iff.mp H
    obtain ⟨t670, A740, H⟩ := H
    have A74 := Aside0.mk A740
    clear A740
    replace H := Option.bind_eq_some_iff.mp H
    obtain ⟨t673, A750, H⟩ := H
    have A75 := Aside0.mk A750
    clear A750
    by_cases c76 : t673 = true
    ·subst c76
     rw [if_pos rfl] at H
     replace H := Option.bind_eq_some_iff.mp H
     obtain ⟨⟨t674, t677⟩, A770, H⟩ := H
     have A77 := Aside0.mk A770
     clear A770
     replace H := Option.bind_eq_some_iff.mp H
     obtain ⟨t680, A780, H⟩ := H
     have A78 := Aside0.mk A780
     clear A780
     by_cases c79 : t680 = true
     ·subst c79
      rw [if_pos rfl] at H
      obtain rfl := Option.some.inj H
      go_enter Try.func5, Try.ntmps5
      try go_wp2_with (first | ((with_reducible refine gate_dst (N := 3) rfl ?_); refine bxe (cs := #[.slice A0_0 l0_0.length c0_0]) (t := 24) ?_; intro gb633 hg w80 hbox hb; have BK633 := Aside0.mk (hbox); have GW633 := bwz HB hg; have GE633 := bwz HB hg; replace HB := bwb HB hb; clear hb hbox hg) | ((with_reducible refine gate_dst (N := 4) rfl ?_); refine bxe (cs := #[.int .i64 a1_0, .int .i64 a1_1, .int .i64 a1_2, .int .i64 a1_3, .int .i64 a1_4]) (t := 28) ?_; intro gb634 hg w81 hbox hb; have BK634 := Aside0.mk (hbox); have GW634 := bwz HB hg; have GE634 := bwz HB hg; replace HB := bwb HB hb; have NB633_634 := bkl BK633 hg; have NB634_633 := bkg BK633 hg; replace BK633 := bkb BK633 hb; clear hb hbox hg) | ((with_reducible refine gate_dst (N := 5) rfl ?_); refine bxe (cs := #[.slice A2_0 l2_0.length c2_0, .slice A2_1 l2_1.length c2_1]) (t := 31) ?_; intro gb635 hg w82 hbox hb; have BK635 := Aside0.mk (hbox); have GW635 := bwz HB hg; have GE635 := bwz HB hg; replace HB := bwb HB hb; have NB633_635 := bkl BK633 hg; have NB635_633 := bkg BK633 hg; replace BK633 := bkb BK633 hb; have NB634_635 := bkl BK634 hg; have NB635_634 := bkg BK634 hg; replace BK634 := bkb BK634 hb; clear hb hbox hg; have hnb83 := NB633_634.out; have hnc83 := NB634_633.out; have hnb84 := NB633_635.out; have hnc84 := NB635_633.out; obtain ⟨hcz85, hfz85⟩ := bcf BK633) | ((with_reducible refine gate_callee (f := 11) rfl ?_); refine goesM (some 14) rfl rfl Try.func11 #[.agg #[.slice A0_0 l0_0.length c0_0], .int .i64 1048576] rfl ?_; (with_reducible refine (laws_szProg.calls k _ _ l0_0 1048576 t636 _ ?side1 ?side2 A4.out).mono ?_); (case side1 => exact Cq (Kd.C_below HR0_0.out HB.out)); (case side2 => exact HC0_0.out); rintro e w86 ⟨rfl, hb⟩; refine ⟨_, rfl, ?_⟩; replace BK633 := bkb BK633 hb; replace BK634 := bkb BK634 hb; replace BK635 := bkb BK635 hb; replace HB := bwb HB hb; (try clear hb); (try clear hb2); (try clear hk); (try clear hi); have hnb87 := NB635_634.out; have hnc87 := NB634_635.out; obtain ⟨hcz88, hfz88⟩ := bcf BK635) | ((with_reducible refine gate_callee (f := 12) rfl ?_); refine goesM (some 19) rfl rfl Try.func12 #[.agg #[.slice A2_0 l2_0.length c2_0, .slice A2_1 l2_1.length c2_1], .int .i64 t636] rfl ?_; (with_reducible refine (laws_szPlace.calls _ _ l2_0 _ _ l2_1 t636 t637 _ ?side1 ?side2 ?side3 ?side4 A13.out).mono ?_); (case side1 => exact Cq (Kd.C_below HR2_0.out HB.out)); (case side2 => exact HC2_0.out); (case side3 => exact Cq (Kd.C_below HR2_1.out HB.out)); (case side4 => exact HC2_1.out); rintro e w89 ⟨rfl, hb⟩; refine ⟨_, rfl, ?_⟩; replace BK633 := bkb BK633 hb; replace BK634 := bkb BK634 hb; replace BK635 := bkb BK635 hb; replace HB := bwb HB hb; (try clear hb); (try clear hb2); (try clear hk); (try clear hi)))
      replace BK633 := Aside0.mk (blk_drew BK633.out)
      replace BK634 := Aside0.mk (blk_drew BK634.out)
      replace BK635 := Aside0.mk (blk_drew BK635.out)
      replace HB := Aside0.mk (below_drew1 HB.out)
      refine start_ (n := 8) (S := fun w' => w'.cell? ⟨gb633, 0, none⟩ = some (.slice A0_0 l0_0.length c0_0) ∧ w'.cell? ⟨gb634, 0, none⟩ = some (.int .i64 a1_0) ∧ w'.cell? ⟨gb634, 1, none⟩ = some (.int .i64 a1_1) ∧ w'.cell? ⟨gb634, 2, none⟩ = some (.int .i64 a1_2) ∧ w'.cell? ⟨gb634, 3, none⟩ = some (.int .i64 a1_3) ∧ w'.cell? ⟨gb634, 4, none⟩ = some (.int .i64 a1_4) ∧ w'.cell? ⟨gb635, 0, none⟩ = some (.slice A2_0 l2_0.length c2_0) ∧ w'.cell? ⟨gb635, 1, none⟩ = some (.slice A2_1 l2_1.length c2_1)) (ds := []) #[false, false, false, false, false, false, false, false] (by kernel_rfl) rfl rfl ⟨(blk_cell BK633.out 0).trans rfl, (blk_cell BK634.out 0).trans rfl, (blk_cell BK634.out 1).trans rfl, (blk_cell BK634.out 2).trans rfl, (blk_cell BK634.out 3).trans rfl, (blk_cell BK634.out 4).trans rfl, (blk_cell BK635.out 0).trans rfl, (blk_cell BK635.out 1).trans rfl⟩ (fun hHeld => ?_); refine with_tabW laws_FnExactPlaceOk.tab8 laws_FnExactPlaceOk.bits8 (fun HT_ HW_ => ?_)
      generalize w89.drew = w90 at BK633 BK634 BK635 HB hHeld ⊢
      refine take_ (i := 0) (N := some 22) (v := ?_) (a' := ?_) #[true, false, false, false, false, false, false, false] rfl rfl (take_ofW HT_.out HW_.out (by kernel_rfl)) (fun _ _ _ h => h) (Or.inl ⟨by rfl, ?_⟩) hHeld ?_ ?_
      rotate_left
      ·rintro w' ⟨s0, s1, s2, s3, s4, s5, s6, s7⟩
       go_simp
       with_reducible rfl
      rotate_left
      ·simp only [Act.put, List.setIfInBounds_toArray, List.set_cons_zero, List.set_cons_succ, i64_w, i32_w]
       rfl
      refine take_ (i := 2) (N := some 24) (v := ?_) (a' := ?_) #[true, false, true, false, false, false, false, false] rfl rfl (take_ofW HT_.out HW_.out (by kernel_rfl)) (fun _ _ _ h => h) (Or.inl ⟨by rfl, ?_⟩) hHeld ?_ ?_
      rotate_left
      ·rintro w' ⟨s0, s1, s2, s3, s4, s5, s6, s7⟩
       go_simp
       with_reducible rfl
      rotate_left
      ·simp only [Act.put, List.setIfInBounds_toArray, List.set_cons_zero, List.set_cons_succ, i64_w, i32_w]
       rfl
      refine take_ (i := 4) (N := some 26) (v := ?_) (a' := ?_) #[true, false, true, false, true, false, false, false] rfl rfl (take_ofW HT_.out HW_.out (by kernel_rfl)) (fun _ _ _ h => h) (Or.inl ⟨by rfl, ?_⟩) hHeld ?_ ?_
      rotate_left
      ·rintro w' ⟨s0, s1, s2, s3, s4, s5, s6, s7⟩
       go_simp
       with_reducible rfl
      rotate_left
      ·simp only [Act.put, List.setIfInBounds_toArray, List.set_cons_zero, List.set_cons_succ, i64_w, i32_w]
       rfl
      refine one_ (i := 1) (N := some 23) #[true, true, true, false, true, false, false, false] rfl rfl (one_of HT_.out (by kernel_rfl)) (by decide) (fun K hK => ?_)
      refine goesS Try.func14 #[.agg #[.slice A0_0 l0_0.length c0_0]] rfl rfl ?_
      with_reducible refine (laws_toProg.calls k _ _ l0_0 t638 _ ?side1 ?side2 A25.out).mono ?_
      (case side1 => exact Cq (Kd.C_below HR0_0.out HB.out))
      (case side2 => exact HC0_0.out)
      rintro e w91 ⟨v639, rfl, ho0, hb⟩
      refine ⟨_, rfl, ?_⟩
      have HO640 := Aside0.mk (Kd.S_lower ho0 (below_size (bwq HB)))
      replace BK633 := bkb BK633 hb
      replace BK634 := bkb BK634 hb
      replace BK635 := bkb BK635 hb
      replace HB := bwb HB hb
      (try clear hb)
      (try clear hb2)
      (try clear hk)
      (try clear hi)
      (try clear ho0)
      refine hK.out _ _ ⟨(blk_cell BK633.out 0).trans rfl, (blk_cell BK634.out 0).trans rfl, (blk_cell BK634.out 1).trans rfl, (blk_cell BK634.out 2).trans rfl, (blk_cell BK634.out 3).trans rfl, (blk_cell BK634.out 4).trans rfl, (blk_cell BK635.out 0).trans rfl, (blk_cell BK635.out 1).trans rfl⟩ (fun hHeld => ?_)
      clear hK K
      refine norm_ (a' := ?_) ?_ ?_
      rotate_left
      ·show Act.put _ (some 23) _ = _
       simp only [Act.put, List.setIfInBounds_toArray, List.set_cons_zero, List.set_cons_succ, i64_w, i32_w]
       rfl
      refine one_ (i := 3) (N := some 25) #[true, true, true, true, true, false, false, false] rfl rfl (one_of HT_.out (by kernel_rfl)) (by decide) (fun K hK => ?_)
      refine goesS Try.func15 #[.agg #[.int .i64 a1_0, .int .i64 a1_1, .int .i64 a1_2, .int .i64 a1_3, .int .i64 a1_4]] rfl rfl ?_
      with_reducible refine (laws_toExpr.calls a1_0 a1_1 a1_2 a1_3 a1_4 t641 t642 t643 t644 t645 _ A26.out).mono ?_
      rintro e w92 ⟨rfl, hb⟩
      refine ⟨_, rfl, ?_⟩
      replace HO640 := Aside0.mk (Kd.S_below (Sq HO640.out) hb)
      replace BK633 := bkb BK633 hb
      replace BK634 := bkb BK634 hb
      replace BK635 := bkb BK635 hb
      replace HB := bwb HB hb
      (try clear hb)
      (try clear hb2)
      (try clear hk)
      (try clear hi)
      refine hK.out _ _ ⟨(blk_cell BK633.out 0).trans rfl, (blk_cell BK634.out 0).trans rfl, (blk_cell BK634.out 1).trans rfl, (blk_cell BK634.out 2).trans rfl, (blk_cell BK634.out 3).trans rfl, (blk_cell BK634.out 4).trans rfl, (blk_cell BK635.out 0).trans rfl, (blk_cell BK635.out 1).trans rfl⟩ (fun hHeld => ?_)
      clear hK K
      refine norm_ (a' := ?_) ?_ ?_
      rotate_left
      ·show Act.put _ (some 25) _ = _
       simp only [Act.put, List.setIfInBounds_toArray, List.set_cons_zero, List.set_cons_succ, i64_w, i32_w]
       rfl
      refine one_ (i := 5) (N := some 27) #[true, true, true, true, true, true, false, false] rfl rfl (one_of HT_.out (by kernel_rfl)) (by decide) (fun K hK => ?_)
      refine goesS Try.func16 #[.agg #[.slice A2_0 l2_0.length c2_0, .slice A2_1 l2_1.length c2_1]] rfl rfl ?_
      with_reducible refine (laws_toPlace.calls k _ _ l2_0 _ _ l2_1 t646 t649 _ ?side1 ?side2 ?side3 ?side4 A27.out).mono ?_
      (case side1 => exact Cq (Kd.C_below HR2_0.out HB.out))
      (case side2 => exact HC2_0.out)
      (case side3 => exact Cq (Kd.C_below HR2_1.out HB.out))
      (case side4 => exact HC2_1.out)
      rintro e w93 ⟨v647, v650, rfl, ho0, ho1, hb⟩
      refine ⟨_, rfl, ?_⟩
      replace HO640 := Aside0.mk (Kd.S_below (Sq HO640.out) hb)
      have HO648 := Aside0.mk (Kd.R_lower ho0 (below_size (bwq HB)))
      have HO651 := Aside0.mk (Kd.R_lower ho1 (below_size (bwq HB)))
      replace BK633 := bkb BK633 hb
      replace BK634 := bkb BK634 hb
      replace BK635 := bkb BK635 hb
      replace HB := bwb HB hb
      (try clear hb)
      (try clear hb2)
      (try clear hk)
      (try clear hi)
      (try clear ho0)
      (try clear ho1)
      obtain ⟨Ao94, co94, eo94⟩ := Kd.S_slice HO640.out
      (first | subst eo94 | (injection eo94 with f1_ f2_ f3_; have f4_ := f1_.symm; have f5_ := f3_.symm; clear f1_ f2_ f3_; subst f4_; subst f5_))
      obtain ⟨Ao95, co95, eo95⟩ := Kd.R_slice HO648.out
      (first | subst eo95 | (injection eo95 with f1_ f2_ f3_; have f4_ := f1_.symm; have f5_ := f3_.symm; clear f1_ f2_ f3_; subst f4_; subst f5_))
      obtain ⟨Ao96, co96, eo96⟩ := Kd.R_slice HO651.out
      (first | subst eo96 | (injection eo96 with f1_ f2_ f3_; have f4_ := f1_.symm; have f5_ := f3_.symm; clear f1_ f2_ f3_; subst f4_; subst f5_))
      refine hK.out _ _ ⟨(blk_cell BK633.out 0).trans rfl, (blk_cell BK634.out 0).trans rfl, (blk_cell BK634.out 1).trans rfl, (blk_cell BK634.out 2).trans rfl, (blk_cell BK634.out 3).trans rfl, (blk_cell BK634.out 4).trans rfl, (blk_cell BK635.out 0).trans rfl, (blk_cell BK635.out 1).trans rfl⟩ (fun hHeld => ?_)
      clear hK K
      refine norm_ (a' := ?_) ?_ ?_
      rotate_left
      ·show Act.put _ (some 27) _ = _
       simp only [Act.put, List.setIfInBounds_toArray, List.set_cons_zero, List.set_cons_succ, i64_w, i32_w]
       rfl
      refine one_ (i := 6) (N := some 28) #[true, true, true, true, true, true, true, false] rfl rfl (one_of HT_.out (by kernel_rfl)) (by decide) (fun K hK => ?_)
      refine goesS Try.func29 #[.agg #[.slice Ao94 t638.length co94], .agg #[.int .i64 t641, .int .i64 t642, .int .i64 t643, .int .i64 t644, .int .i64 t645], .agg #[.slice Ao95 t646.length co95, .slice Ao96 t649.length co96]] rfl rfl ?_
      with_reducible refine (spec_PlaceOk.calls k _ _ t638 t641 t642 t643 t644 t645 _ _ t646 _ _ t649 t652 _ ?side1 ?side2 ?side3 ?side4 ?side5 ?side6 A28.out).mono ?_
      (case side1 => repeat (first | exact (Kd.S_reads' HO640.out).2.2 | (with_reducible refine Kd.C_alloc ?_ _) | (with_reducible refine Kd.C_drewN ?_ _) | (with_reducible refine Kd.C_drew ?_)))
      (case side2 => exact (Kd.S_reads' HO640.out).2.1)
      (case side3 => repeat (first | exact (Kd.R_reads' HO648.out).2.2 | (with_reducible refine Kd.C_alloc ?_ _) | (with_reducible refine Kd.C_drewN ?_ _) | (with_reducible refine Kd.C_drew ?_)))
      (case side4 => exact (Kd.R_reads' HO648.out).2.1)
      (case side5 => repeat (first | exact (Kd.R_reads' HO651.out).2.2 | (with_reducible refine Kd.C_alloc ?_ _) | (with_reducible refine Kd.C_drewN ?_ _) | (with_reducible refine Kd.C_drew ?_)))
      (case side6 => exact (Kd.R_reads' HO651.out).2.1)
      rintro e w97 ⟨rfl, hb⟩
      refine ⟨_, rfl, ?_⟩
      replace HO640 := Aside0.mk (Kd.S_below (Sq HO640.out) hb)
      replace HO648 := Aside0.mk (Kd.R_below (Rq HO648.out) hb)
      replace HO651 := Aside0.mk (Kd.R_below (Rq HO651.out) hb)
      replace BK633 := bkb BK633 hb
      replace BK634 := bkb BK634 hb
      replace BK635 := bkb BK635 hb
      replace HB := bwb HB hb
      (try clear hb)
      (try clear hb2)
      (try clear hk)
      (try clear hi)
      refine hK.out _ _ ⟨(blk_cell BK633.out 0).trans rfl, (blk_cell BK634.out 0).trans rfl, (blk_cell BK634.out 1).trans rfl, (blk_cell BK634.out 2).trans rfl, (blk_cell BK634.out 3).trans rfl, (blk_cell BK634.out 4).trans rfl, (blk_cell BK635.out 0).trans rfl, (blk_cell BK635.out 1).trans rfl⟩ (fun hHeld => ?_)
      clear hK K
      refine norm_ (a' := ?_) ?_ ?_
      rotate_left
      ·show Act.put _ (some 28) _ = _
       simp only [Act.put, List.setIfInBounds_toArray, List.set_cons_zero, List.set_cons_succ, i64_w, i32_w]
       rfl
      refine pure_ (i := 7) (N := some 8) (v := ?_) (a' := ?_) #[true, true, true, true, true, true, true, true] rfl rfl (any_of HT_.out (by kernel_rfl)) (fun _ _ _ h => h) (Or.inl ⟨by rfl, ?_⟩) ?_ ?_
      rotate_left
      ·intro w'
       go_simp
       with_reducible rfl
      rotate_left
      ·simp only [Act.put, List.setIfInBounds_toArray, List.set_cons_zero, List.set_cons_succ, i64_w, i32_w]
       rfl
      refine done_ (done_of HT_.out (by kernel_rfl)) ?_
      obtain ⟨hcz98, hfz98⟩ := bcf BK633
      try go_wp2_with (first | ((with_reducible refine gate_callee (f := 14) rfl ?_); refine goesM (some 30) rfl rfl Try.func14 #[.agg #[.slice A0_0 l0_0.length c0_0]] rfl ?_; (with_reducible refine (laws_toProg.calls k _ _ l0_0 t653 _ ?side1 ?side2 A29.out).mono ?_); (case side1 => exact Cq (Kd.C_below HR0_0.out HB.out)); (case side2 => exact HC0_0.out); rintro e w99 ⟨v654, rfl, ho0, hb⟩; refine ⟨_, rfl, ?_⟩; replace HO648 := Aside0.mk (Kd.R_below (Rq HO648.out) hb); replace HO651 := Aside0.mk (Kd.R_below (Rq HO651.out) hb); have HO655 := Aside0.mk (Kd.S_lower (Kd.S_new' ho0 (Kd.S_lt (Sq HO640.out))) (below_size (bwq HB))); replace HO640 := Aside0.mk (Kd.S_elder' (Sq HO640.out) (Kd.S_base ho0) hb); replace BK633 := bkb BK633 hb; replace BK634 := bkb BK634 hb; replace BK635 := bkb BK635 hb; replace HB := bwb HB hb; (try clear hb); (try clear hb2); (try clear hk); (try clear hi); (try clear ho0)) | ((with_reducible refine gate_dst (N := 9) rfl ?_); refine bxe (cs := #[.slice none 0 0]) (t := 38) ?_; intro gb656 hg w100 hbox hb; replace HO640 := Aside0.mk (Kd.S_below (Sq HO640.out) hb); replace HO648 := Aside0.mk (Kd.R_below (Rq HO648.out) hb); replace HO651 := Aside0.mk (Kd.R_below (Rq HO651.out) hb); replace HO655 := Aside0.mk (Kd.S_below (Sq HO655.out) hb); have BK656 := Aside0.mk (hbox); have GW656 := bwz HB hg; have GE656 := bwz HB hg; replace HB := bwb HB hb; have NB633_656 := bkl BK633 hg; have NB656_633 := bkg BK633 hg; replace BK633 := bkb BK633 hb; have NB634_656 := bkl BK634 hg; have NB656_634 := bkg BK634 hg; replace BK634 := bkb BK634 hb; have NB635_656 := bkl BK635 hg; have NB656_635 := bkg BK635 hg; replace BK635 := bkb BK635 hb; clear hb hbox hg; obtain ⟨Ao101, co101, eo101⟩ := Kd.S_slice HO655.out; subst eo101; have hnb102 := NB656_633.out; have hnc102 := NB633_656.out; have hnb103 := NB656_634.out; have hnc103 := NB634_656.out; have hnb104 := NB656_635.out; have hnc104 := NB635_656.out; obtain ⟨hcz105, hfz105⟩ := bcf BK656; obtain ⟨hcz106, hfz106⟩ := bcf BK635) | ((with_reducible refine gate_callee (f := 16) rfl ?_); refine goesM (some 32) rfl rfl Try.func16 #[.agg #[.slice A2_0 l2_0.length c2_0, .slice A2_1 l2_1.length c2_1]] rfl ?_; (with_reducible refine (laws_toPlace.calls k _ _ l2_0 _ _ l2_1 t657 t660 _ ?side1 ?side2 ?side3 ?side4 A30.out).mono ?_); (case side1 => exact Kd.C_below HR2_0.out (bwq HB)); (case side2 => exact HC2_0.out); (case side3 => exact Kd.C_below HR2_1.out (bwq HB)); (case side4 => exact HC2_1.out); rintro e w107 ⟨v658, v661, rfl, ho0, ho1, hb⟩; refine ⟨_, rfl, ?_⟩; replace HO640 := Aside0.mk (Kd.S_below (by (with_reducible repeat (first | apply Kd.S_alloc | apply Kd.S_drewN | apply Kd.S_drew)); exact (Kd.S_mono (Kd.S_far (p := ⟨gb656, 0, none⟩) (Kd.S_types HO640.out BK656.out (by decide)) (fun _ hk => hk.2) (.slice Ao101 t653.length co101)) (fun _ h_ => h_.1))) hb); replace HO655 := Aside0.mk (Kd.S_below (by (with_reducible repeat (first | apply Kd.S_alloc | apply Kd.S_drewN | apply Kd.S_drew)); exact (Kd.S_mono (Kd.S_far (p := ⟨gb656, 0, none⟩) (Kd.S_types HO655.out BK656.out (by decide)) (fun _ hk => hk.2) (.slice Ao101 t653.length co101)) (fun _ h_ => h_.1))) hb); have HO659 := Aside0.mk (Kd.R_lower (Kd.R_new' (Kd.R_new' ho0 (Kd.R_lt (by (with_reducible repeat (first | apply Kd.R_alloc | apply Kd.R_drewN | apply Kd.R_drew)); exact (Kd.R_mono (Kd.R_far (p := ⟨gb656, 0, none⟩) (Kd.R_types HO648.out BK656.out (by decide)) (fun _ hk => hk.2) (.slice Ao101 t653.length co101)) (fun _ h_ => h_.1))))) (Kd.R_lt (by (with_reducible repeat (first | apply Kd.R_alloc | apply Kd.R_drewN | apply Kd.R_drew)); exact (Kd.R_mono (Kd.R_far (p := ⟨gb656, 0, none⟩) (Kd.R_types HO651.out BK656.out (by decide)) (fun _ hk => hk.2) (.slice Ao101 t653.length co101)) (fun _ h_ => h_.1))))) (below_size (bwq HB))); have HO662 := Aside0.mk (Kd.R_lower (Kd.R_new' (Kd.R_new' ho1 (Kd.R_lt (by (with_reducible repeat (first | apply Kd.R_alloc | apply Kd.R_drewN | apply Kd.R_drew)); exact (Kd.R_mono (Kd.R_far (p := ⟨gb656, 0, none⟩) (Kd.R_types HO648.out BK656.out (by decide)) (fun _ hk => hk.2) (.slice Ao101 t653.length co101)) (fun _ h_ => h_.1))))) (Kd.R_lt (by (with_reducible repeat (first | apply Kd.R_alloc | apply Kd.R_drewN | apply Kd.R_drew)); exact (Kd.R_mono (Kd.R_far (p := ⟨gb656, 0, none⟩) (Kd.R_types HO651.out BK656.out (by decide)) (fun _ hk => hk.2) (.slice Ao101 t653.length co101)) (fun _ h_ => h_.1))))) (below_size (bwq HB))); replace HO648 := Aside0.mk (Kd.R_mono (Kd.R_told (Kd.R_told (Kd.R_old (by (with_reducible repeat (first | apply Kd.R_alloc | apply Kd.R_drewN | apply Kd.R_drew)); exact (Kd.R_mono (Kd.R_far (p := ⟨gb656, 0, none⟩) (Kd.R_types HO648.out BK656.out (by decide)) (fun _ hk => hk.2) (.slice Ao101 t653.length co101)) (fun _ h_ => h_.1))) hb) (Kd.R_base ho0)) (Kd.R_base ho1)) (fun _ h_ => h_.1)); replace HO651 := Aside0.mk (Kd.R_mono (Kd.R_told (Kd.R_told (Kd.R_old (by (with_reducible repeat (first | apply Kd.R_alloc | apply Kd.R_drewN | apply Kd.R_drew)); exact (Kd.R_mono (Kd.R_far (p := ⟨gb656, 0, none⟩) (Kd.R_types HO651.out BK656.out (by decide)) (fun _ hk => hk.2) (.slice Ao101 t653.length co101)) (fun _ h_ => h_.1))) hb) (Kd.R_base ho0)) (Kd.R_base ho1)) (fun _ h_ => h_.1)); replace BK633 := Aside0.mk (blk_below (g := gb633) (o := .cells #[.slice A0_0 l0_0.length c0_0] 24 (0, 0)) (by (with_reducible repeat (first | refine blk_drewN ?_ _ | refine blk_drew ?_ | refine blk_alloc ?_ _)); refine blk_far ?_ NB633_656.out _; exact bkq BK633) hb); replace BK634 := Aside0.mk (blk_below (g := gb634) (o := .cells #[.int .i64 a1_0, .int .i64 a1_1, .int .i64 a1_2, .int .i64 a1_3, .int .i64 a1_4] 28 (0, 0)) (by (with_reducible repeat (first | refine blk_drewN ?_ _ | refine blk_drew ?_ | refine blk_alloc ?_ _)); refine blk_far ?_ NB634_656.out _; exact bkq BK634) hb); replace BK635 := Aside0.mk (blk_below (g := gb635) (o := .cells #[.slice A2_0 l2_0.length c2_0, .slice A2_1 l2_1.length c2_1] 31 (0, 0)) (by (with_reducible repeat (first | refine blk_drewN ?_ _ | refine blk_drew ?_ | refine blk_alloc ?_ _)); refine blk_far ?_ NB635_656.out _; exact bkq BK635) hb); replace BK656 := Aside0.mk (blk_below (g := gb656) (o := .cells #[.slice Ao101 t653.length co101] 38 (0, 0)) (by (with_reducible repeat (first | refine blk_drewN ?_ _ | refine blk_drew ?_ | refine blk_alloc ?_ _)); refine blk_put (cs := #[.slice none 0 0]) ?_ 0 _ rfl; exact bkq BK656) hb); replace HB := bwb HB hb; (try clear hb); (try clear hb2); (try clear hk); (try clear hi); (try clear ho0); (try clear ho1)) | ((with_reducible refine gate_dst (N := 10) rfl ?_); refine bxe (cs := #[.slice none 0 0, .slice none 0 0]) (t := 44) ?_; intro gb663 hg w108 hbox hb; replace HO640 := Aside0.mk (Kd.S_below (Sq HO640.out) hb); replace HO648 := Aside0.mk (Kd.R_below (Rq HO648.out) hb); replace HO651 := Aside0.mk (Kd.R_below (Rq HO651.out) hb); replace HO655 := Aside0.mk (Kd.S_below (Sq HO655.out) hb); replace HO659 := Aside0.mk (Kd.R_below (Rq HO659.out) hb); replace HO662 := Aside0.mk (Kd.R_below (Rq HO662.out) hb); have BK663 := Aside0.mk (hbox); have GW663 := bwz HB hg; have GE663 := bwz HB hg; replace HB := bwb HB hb; have NB633_663 := bkl BK633 hg; have NB663_633 := bkg BK633 hg; replace BK633 := bkb BK633 hb; have NB634_663 := bkl BK634 hg; have NB663_634 := bkg BK634 hg; replace BK634 := bkb BK634 hb; have NB635_663 := bkl BK635 hg; have NB663_635 := bkg BK635 hg; replace BK635 := bkb BK635 hb; have NB656_663 := bkl BK656 hg; have NB663_656 := bkg BK656 hg; replace BK656 := bkb BK656 hb; clear hb hbox hg; obtain ⟨Ao109, co109, eo109⟩ := Kd.R_slice HO659.out; subst eo109; have hnb110 := NB663_633.out; have hnc110 := NB633_663.out; have hnb111 := NB663_634.out; have hnc111 := NB634_663.out; have hnb112 := NB663_635.out; have hnc112 := NB635_663.out; have hnb113 := NB663_656.out; have hnc113 := NB656_663.out; obtain ⟨hcz114, hfz114⟩ := bcf BK663; obtain ⟨Ao115, co115, eo115⟩ := Kd.R_slice HO662.out; subst eo115))
      have n0_ : Aside0 (Kd.S k77 77 ((w108.setCell ⟨gb663, 0, none⟩ (.slice Ao109 t657.length co109)).setCell ⟨gb663, 1, none⟩ (.slice Ao115 t660.length co115)) w.heap.size (fun k_ => some k_ ≠ (.slice Ao101 t653.length co101 : Value).ownBlock) (.slice Ao94 t638.length co94) t638) := Sset2 HO640 BK663 (fun _ hk => hk.2)
      have n1_ : Aside0 (Kd.R Kd.bool 4 ((w108.setCell ⟨gb663, 0, none⟩ (.slice Ao109 t657.length co109)).setCell ⟨gb663, 1, none⟩ (.slice Ao115 t660.length co115)) w.heap.size (fun k_ => some k_ ≠ (.slice Ao96 t649.length co96 : Value).ownBlock ∧ some k_ ≠ (.slice Ao109 t657.length co109 : Value).ownBlock ∧ some k_ ≠ (.slice Ao115 t660.length co115 : Value).ownBlock) (.slice Ao95 t646.length co95) t646) := Rset2 HO648 BK663 (fun _ hk => ⟨hk.1.1, ⟨hk.1.2, hk.2⟩⟩)
      have n2_ : Aside0 (Kd.R Kd.bool 4 ((w108.setCell ⟨gb663, 0, none⟩ (.slice Ao109 t657.length co109)).setCell ⟨gb663, 1, none⟩ (.slice Ao115 t660.length co115)) w.heap.size (fun k_ => some k_ ≠ (.slice Ao95 t646.length co95 : Value).ownBlock ∧ some k_ ≠ (.slice Ao109 t657.length co109 : Value).ownBlock ∧ some k_ ≠ (.slice Ao115 t660.length co115 : Value).ownBlock) (.slice Ao96 t649.length co96) t649) := Rset2 HO651 BK663 (fun _ hk => ⟨hk.1.1, ⟨hk.1.2, hk.2⟩⟩)
      have n3_ : Aside0 (Kd.S k77 77 ((w108.setCell ⟨gb663, 0, none⟩ (.slice Ao109 t657.length co109)).setCell ⟨gb663, 1, none⟩ (.slice Ao115 t660.length co115)) w.heap.size (fun k_ => some k_ ≠ (.slice Ao94 t638.length co94 : Value).ownBlock) (.slice Ao101 t653.length co101) t653) := Sset2 HO655 BK663 (fun _ hk => hk.2)
      have n4_ : Aside0 (Kd.R Kd.bool 4 ((w108.setCell ⟨gb663, 0, none⟩ (.slice Ao109 t657.length co109)).setCell ⟨gb663, 1, none⟩ (.slice Ao115 t660.length co115)) w.heap.size (fun k_ => some k_ ≠ (.slice Ao95 t646.length co95 : Value).ownBlock ∧ some k_ ≠ (.slice Ao96 t649.length co96 : Value).ownBlock ∧ some k_ ≠ (.slice Ao115 t660.length co115 : Value).ownBlock) (.slice Ao109 t657.length co109) t657) := Rset2 HO659 BK663 (fun _ hk => ⟨hk.1.2, ⟨hk.2, hk.1.1⟩⟩)
      have n5_ : Aside0 (Kd.R Kd.bool 4 ((w108.setCell ⟨gb663, 0, none⟩ (.slice Ao109 t657.length co109)).setCell ⟨gb663, 1, none⟩ (.slice Ao115 t660.length co115)) w.heap.size (fun k_ => some k_ ≠ (.slice Ao95 t646.length co95 : Value).ownBlock ∧ some k_ ≠ (.slice Ao96 t649.length co96 : Value).ownBlock ∧ some k_ ≠ (.slice Ao109 t657.length co109 : Value).ownBlock) (.slice Ao115 t660.length co115) t660) := Rset2 HO662 BK663 (fun _ hk => ⟨hk.1.2, ⟨hk.2, hk.1.1⟩⟩)
      have n6_ : Aside0 (((w108.setCell ⟨gb663, 0, none⟩ (.slice Ao109 t657.length co109)).setCell ⟨gb663, 1, none⟩ (.slice Ao115 t660.length co115)).heap[gb633]? = some (.cells #[.slice A0_0 l0_0.length c0_0] 24 (0, 0))) := ⟨by (with_reducible repeat (first | refine blk_drewN ?_ _ | refine blk_drew ?_ | refine blk_alloc ?_ _)); refine blk_far ?_ NB633_663.out _; (with_reducible repeat (first | refine blk_drewN ?_ _ | refine blk_drew ?_ | refine blk_alloc ?_ _)); refine blk_far ?_ NB633_663.out _; exact bkq BK633⟩
      have n7_ : Aside0 (((w108.setCell ⟨gb663, 0, none⟩ (.slice Ao109 t657.length co109)).setCell ⟨gb663, 1, none⟩ (.slice Ao115 t660.length co115)).heap[gb634]? = some (.cells #[.int .i64 a1_0, .int .i64 a1_1, .int .i64 a1_2, .int .i64 a1_3, .int .i64 a1_4] 28 (0, 0))) := ⟨by (with_reducible repeat (first | refine blk_drewN ?_ _ | refine blk_drew ?_ | refine blk_alloc ?_ _)); refine blk_far ?_ NB634_663.out _; (with_reducible repeat (first | refine blk_drewN ?_ _ | refine blk_drew ?_ | refine blk_alloc ?_ _)); refine blk_far ?_ NB634_663.out _; exact bkq BK634⟩
      have n8_ : Aside0 (((w108.setCell ⟨gb663, 0, none⟩ (.slice Ao109 t657.length co109)).setCell ⟨gb663, 1, none⟩ (.slice Ao115 t660.length co115)).heap[gb635]? = some (.cells #[.slice A2_0 l2_0.length c2_0, .slice A2_1 l2_1.length c2_1] 31 (0, 0))) := ⟨by (with_reducible repeat (first | refine blk_drewN ?_ _ | refine blk_drew ?_ | refine blk_alloc ?_ _)); refine blk_far ?_ NB635_663.out _; (with_reducible repeat (first | refine blk_drewN ?_ _ | refine blk_drew ?_ | refine blk_alloc ?_ _)); refine blk_far ?_ NB635_663.out _; exact bkq BK635⟩
      have n9_ : Aside0 (((w108.setCell ⟨gb663, 0, none⟩ (.slice Ao109 t657.length co109)).setCell ⟨gb663, 1, none⟩ (.slice Ao115 t660.length co115)).heap[gb656]? = some (.cells #[.slice Ao101 t653.length co101] 38 (0, 0))) := ⟨by (with_reducible repeat (first | refine blk_drewN ?_ _ | refine blk_drew ?_ | refine blk_alloc ?_ _)); refine blk_far ?_ NB656_663.out _; (with_reducible repeat (first | refine blk_drewN ?_ _ | refine blk_drew ?_ | refine blk_alloc ?_ _)); refine blk_far ?_ NB656_663.out _; exact bkq BK656⟩
      have n10_ : Aside0 (((w108.setCell ⟨gb663, 0, none⟩ (.slice Ao109 t657.length co109)).setCell ⟨gb663, 1, none⟩ (.slice Ao115 t660.length co115)).heap[gb663]? = some (.cells #[.slice Ao109 t657.length co109, .slice Ao115 t660.length co115] 44 (0, 0))) := ⟨by (with_reducible repeat (first | refine blk_drewN ?_ _ | refine blk_drew ?_ | refine blk_alloc ?_ _)); refine blk_put (cs := #[.slice Ao109 t657.length co109, .slice none 0 0]) ?_ 1 _ rfl; (with_reducible repeat (first | refine blk_drewN ?_ _ | refine blk_drew ?_ | refine blk_alloc ?_ _)); refine blk_put (cs := #[.slice none 0 0, .slice none 0 0]) ?_ 0 _ rfl; exact bkq BK663⟩
      have n11_ : Aside0 (Below w.heap.size w ((w108.setCell ⟨gb663, 0, none⟩ (.slice Ao109 t657.length co109)).setCell ⟨gb663, 1, none⟩ (.slice Ao115 t660.length co115))) := ⟨bwq HB⟩
      (try clear HO640)
      (try clear HO648)
      (try clear HO651)
      (try clear HO655)
      (try clear HO659)
      (try clear HO662)
      (try clear BK633)
      (try clear BK634)
      (try clear BK635)
      (try clear BK656)
      (try clear BK663)
      (try clear HB)
      generalize ((w108.setCell ⟨gb663, 0, none⟩ (.slice Ao109 t657.length co109)).setCell ⟨gb663, 1, none⟩ (.slice Ao115 t660.length co115)) = w116 at n0_ n1_ n2_ n3_ n4_ n5_ n6_ n7_ n8_ n9_ n10_ n11_ ⊢
      have HO640 := n0_
      have HO648 := n1_
      have HO651 := n2_
      have HO655 := n3_
      have HO659 := n4_
      have HO662 := n5_
      have BK633 := n6_
      have BK634 := n7_
      have BK635 := n8_
      have BK656 := n9_
      have BK663 := n10_
      have HB := n11_
      clear n0_ n1_ n2_ n3_ n4_ n5_ n6_ n7_ n8_ n9_ n10_ n11_
      replace HO640 := Aside0.mk (Kd.S_drew HO640.out)
      replace HO648 := Aside0.mk (Kd.R_drew HO648.out)
      replace HO651 := Aside0.mk (Kd.R_drew HO651.out)
      replace HO655 := Aside0.mk (Kd.S_drew HO655.out)
      replace HO659 := Aside0.mk (Kd.R_drew HO659.out)
      replace HO662 := Aside0.mk (Kd.R_drew HO662.out)
      replace BK633 := Aside0.mk (blk_drew BK633.out)
      replace BK634 := Aside0.mk (blk_drew BK634.out)
      replace BK635 := Aside0.mk (blk_drew BK635.out)
      replace BK656 := Aside0.mk (blk_drew BK656.out)
      replace BK663 := Aside0.mk (blk_drew BK663.out)
      replace HB := Aside0.mk (below_drew1 HB.out)
      refine start_ (n := 6) (S := fun w' => w'.cell? ⟨gb656, 0, none⟩ = some (.slice Ao101 t653.length co101) ∧ w'.cell? ⟨gb634, 0, none⟩ = some (.int .i64 a1_0) ∧ w'.cell? ⟨gb634, 1, none⟩ = some (.int .i64 a1_1) ∧ w'.cell? ⟨gb634, 2, none⟩ = some (.int .i64 a1_2) ∧ w'.cell? ⟨gb634, 3, none⟩ = some (.int .i64 a1_3) ∧ w'.cell? ⟨gb634, 4, none⟩ = some (.int .i64 a1_4) ∧ w'.cell? ⟨gb663, 0, none⟩ = some (.slice Ao109 t657.length co109) ∧ w'.cell? ⟨gb663, 1, none⟩ = some (.slice Ao115 t660.length co115)) (ds := []) #[false, false, false, false, false, false] (by kernel_rfl) rfl rfl ⟨(blk_cell BK656.out 0).trans rfl, (blk_cell BK634.out 0).trans rfl, (blk_cell BK634.out 1).trans rfl, (blk_cell BK634.out 2).trans rfl, (blk_cell BK634.out 3).trans rfl, (blk_cell BK634.out 4).trans rfl, (blk_cell BK663.out 0).trans rfl, (blk_cell BK663.out 1).trans rfl⟩ (fun hHeld => ?_)
      generalize w116.drew = w117 at HO640 HO648 HO651 HO655 HO659 HO662 BK633 BK634 BK635 BK656 BK663 HB hHeld ⊢
      refine take_ (i := 0) (N := some 33) (v := ?_) (a' := ?_) #[true, false, false, false, false, false] rfl rfl (by kernel_rfl) (fun _ _ _ h => h) (Or.inl ⟨by rfl, ?_⟩) hHeld ?_ ?_
      rotate_left
      ·rintro w' ⟨s0, s1, s2, s3, s4, s5, s6, s7⟩
       go_simp
       with_reducible rfl
      rotate_left
      ·simp only [Act.put, List.setIfInBounds_toArray, List.set_cons_zero, List.set_cons_succ, i64_w, i32_w]
       rfl
      refine take_ (i := 1) (N := some 34) (v := ?_) (a' := ?_) #[true, true, false, false, false, false] rfl rfl (by kernel_rfl) (fun _ _ _ h => h) (Or.inl ⟨by rfl, ?_⟩) hHeld ?_ ?_
      rotate_left
      ·rintro w' ⟨s0, s1, s2, s3, s4, s5, s6, s7⟩
       go_simp
       with_reducible rfl
      rotate_left
      ·simp only [Act.put, List.setIfInBounds_toArray, List.set_cons_zero, List.set_cons_succ, i64_w, i32_w]
       rfl
      refine take_ (i := 3) (N := some 36) (v := ?_) (a' := ?_) #[true, true, false, true, false, false] rfl rfl (by kernel_rfl) (fun _ _ _ h => h) (Or.inl ⟨by rfl, ?_⟩) hHeld ?_ ?_
      rotate_left
      ·rintro w' ⟨s0, s1, s2, s3, s4, s5, s6, s7⟩
       go_simp
       with_reducible rfl
      rotate_left
      ·simp only [Act.put, List.setIfInBounds_toArray, List.set_cons_zero, List.set_cons_succ, i64_w, i32_w]
       rfl
      refine one_ (i := 2) (N := some 35) #[true, true, true, true, false, false] rfl rfl (by kernel_rfl) (by decide) (fun K hK => ?_)
      refine goesS Try.func15 #[.agg #[.int .i64 a1_0, .int .i64 a1_1, .int .i64 a1_2, .int .i64 a1_3, .int .i64 a1_4]] rfl rfl ?_
      with_reducible refine (laws_toExpr.calls a1_0 a1_1 a1_2 a1_3 a1_4 t664 t665 t666 t667 t668 _ A31.out).mono ?_
      rintro e w118 ⟨rfl, hb⟩
      refine ⟨_, rfl, ?_⟩
      replace HO640 := Aside0.mk (Kd.S_below (Sq HO640.out) hb)
      replace HO648 := Aside0.mk (Kd.R_below (Rq HO648.out) hb)
      replace HO651 := Aside0.mk (Kd.R_below (Rq HO651.out) hb)
      replace HO655 := Aside0.mk (Kd.S_below (Sq HO655.out) hb)
      replace HO659 := Aside0.mk (Kd.R_below (Rq HO659.out) hb)
      replace HO662 := Aside0.mk (Kd.R_below (Rq HO662.out) hb)
      replace BK633 := bkb BK633 hb
      replace BK634 := bkb BK634 hb
      replace BK635 := bkb BK635 hb
      replace BK656 := bkb BK656 hb
      replace BK663 := bkb BK663 hb
      replace HB := bwb HB hb
      (try clear hb)
      (try clear hb2)
      (try clear hk)
      (try clear hi)
      refine hK.out _ _ ⟨(blk_cell BK656.out 0).trans rfl, (blk_cell BK634.out 0).trans rfl, (blk_cell BK634.out 1).trans rfl, (blk_cell BK634.out 2).trans rfl, (blk_cell BK634.out 3).trans rfl, (blk_cell BK634.out 4).trans rfl, (blk_cell BK663.out 0).trans rfl, (blk_cell BK663.out 1).trans rfl⟩ (fun hHeld => ?_)
      clear hK K
      refine norm_ (a' := ?_) ?_ ?_
      rotate_left
      ·show Act.put _ (some 35) _ = _
       simp only [Act.put, List.setIfInBounds_toArray, List.set_cons_zero, List.set_cons_succ, i64_w, i32_w]
       rfl
      refine one_ (i := 4) (N := some 37) #[true, true, true, true, true, false] rfl rfl (by kernel_rfl) (by decide) (fun K hK => ?_)
      refine goesS Try.func30 #[.agg #[.slice Ao101 t653.length co101], .agg #[.int .i64 t664, .int .i64 t665, .int .i64 t666, .int .i64 t667, .int .i64 t668], .agg #[.slice Ao109 t657.length co109, .slice Ao115 t660.length co115]] rfl rfl ?_
      with_reducible refine (impl_PlaceOk.calls _ _ t653 t664 t665 t666 t667 t668 _ _ t657 _ _ t660 t669 _ ?side1 ?side2 ?side3 ?side4 ?side5 ?side6 A32.out).mono ?_
      (case side1 => repeat (first | exact (Kd.S_reads' HO655.out).2.2 | (with_reducible refine Kd.C_alloc ?_ _) | (with_reducible refine Kd.C_drewN ?_ _) | (with_reducible refine Kd.C_drew ?_)))
      (case side2 => exact (Kd.S_reads' HO655.out).2.1)
      (case side3 => repeat (first | exact (Kd.R_reads' HO659.out).2.2 | (with_reducible refine Kd.C_alloc ?_ _) | (with_reducible refine Kd.C_drewN ?_ _) | (with_reducible refine Kd.C_drew ?_)))
      (case side4 => exact (Kd.R_reads' HO659.out).2.1)
      (case side5 => repeat (first | exact (Kd.R_reads' HO662.out).2.2 | (with_reducible refine Kd.C_alloc ?_ _) | (with_reducible refine Kd.C_drewN ?_ _) | (with_reducible refine Kd.C_drew ?_)))
      (case side6 => exact (Kd.R_reads' HO662.out).2.1)
      rintro e w119 ⟨rfl, hb⟩
      refine ⟨_, rfl, ?_⟩
      replace HO640 := Aside0.mk (Kd.S_below (Sq HO640.out) hb)
      replace HO648 := Aside0.mk (Kd.R_below (Rq HO648.out) hb)
      replace HO651 := Aside0.mk (Kd.R_below (Rq HO651.out) hb)
      replace HO655 := Aside0.mk (Kd.S_below (Sq HO655.out) hb)
      replace HO659 := Aside0.mk (Kd.R_below (Rq HO659.out) hb)
      replace HO662 := Aside0.mk (Kd.R_below (Rq HO662.out) hb)
      replace BK633 := bkb BK633 hb
      replace BK634 := bkb BK634 hb
      replace BK635 := bkb BK635 hb
      replace BK656 := bkb BK656 hb
      replace BK663 := bkb BK663 hb
      replace HB := bwb HB hb
      (try clear hb)
      (try clear hb2)
      (try clear hk)
      (try clear hi)
      refine hK.out _ _ ⟨(blk_cell BK656.out 0).trans rfl, (blk_cell BK634.out 0).trans rfl, (blk_cell BK634.out 1).trans rfl, (blk_cell BK634.out 2).trans rfl, (blk_cell BK634.out 3).trans rfl, (blk_cell BK634.out 4).trans rfl, (blk_cell BK663.out 0).trans rfl, (blk_cell BK663.out 1).trans rfl⟩ (fun hHeld => ?_)
      clear hK K
      refine norm_ (a' := ?_) ?_ ?_
      rotate_left
      ·show Act.put _ (some 37) _ = _
       simp only [Act.put, List.setIfInBounds_toArray, List.set_cons_zero, List.set_cons_succ, i64_w, i32_w]
       rfl
      refine pure_ (i := 5) (N := some 11) (v := ?_) (a' := ?_) #[true, true, true, true, true, true] rfl rfl (by kernel_rfl) (fun _ _ _ h => h) (Or.inl ⟨by rfl, ?_⟩) ?_ ?_
      rotate_left
      ·intro w'
       go_simp
       with_reducible rfl
      rotate_left
      ·simp only [Act.put, List.setIfInBounds_toArray, List.set_cons_zero, List.set_cons_succ, i64_w, i32_w]
       rfl
      refine done_ (by kernel_rfl) ?_
      try go_wp2
      replace HO640 := Aside0.mk (Kd.S_drew HO640.out)
      replace HO648 := Aside0.mk (Kd.R_drew HO648.out)
      replace HO651 := Aside0.mk (Kd.R_drew HO651.out)
      replace HO655 := Aside0.mk (Kd.S_drew HO655.out)
      replace HO659 := Aside0.mk (Kd.R_drew HO659.out)
      replace HO662 := Aside0.mk (Kd.R_drew HO662.out)
      replace BK633 := Aside0.mk (blk_drew BK633.out)
      replace BK634 := Aside0.mk (blk_drew BK634.out)
      replace BK635 := Aside0.mk (blk_drew BK635.out)
      replace BK656 := Aside0.mk (blk_drew BK656.out)
      replace BK663 := Aside0.mk (blk_drew BK663.out)
      replace HB := Aside0.mk (below_drew1 HB.out)
      refine start_ (n := 5) (S := fun w' => w'.cell? ⟨gb656, 0, none⟩ = some (.slice Ao101 t653.length co101) ∧ w'.cell? ⟨gb633, 0, none⟩ = some (.slice A0_0 l0_0.length c0_0)) (ds := []) #[false, false, false, false, false] (by kernel_rfl) rfl rfl ⟨(blk_cell BK656.out 0).trans rfl, (blk_cell BK633.out 0).trans rfl⟩ (fun hHeld => ?_)
      generalize w119.drew = w120 at HO640 HO648 HO651 HO655 HO659 HO662 BK633 BK634 BK635 BK656 BK663 HB hHeld ⊢
      refine take_ (i := 0) (N := some 41) (v := ?_) (a' := ?_) #[true, false, false, false, false] rfl rfl (by kernel_rfl) (fun _ _ _ h => h) (Or.inl ⟨by rfl, ?_⟩) hHeld ?_ ?_
      rotate_left
      ·rintro w' ⟨s0, s1⟩
       go_simp
       with_reducible rfl
      rotate_left
      ·simp only [Act.put, List.setIfInBounds_toArray, List.set_cons_zero, List.set_cons_succ, i64_w, i32_w]
       rfl
      refine take_ (i := 1) (N := some 42) (v := ?_) (a' := ?_) #[true, true, false, false, false] rfl rfl (by kernel_rfl) (fun _ _ _ h => h) (Or.inl ⟨by rfl, ?_⟩) hHeld ?_ ?_
      rotate_left
      ·rintro w' ⟨s0, s1⟩
       go_simp
       with_reducible rfl
      rotate_left
      ·simp only [Act.put, List.setIfInBounds_toArray, List.set_cons_zero, List.set_cons_succ, i64_w, i32_w]
       rfl
      refine one_ (i := 2) (N := some 43) #[true, true, true, false, false] rfl rfl (by kernel_rfl) (by decide) (fun K hK => ?_)
      refine goesS Try.func14 #[.agg #[.slice A0_0 l0_0.length c0_0]] rfl rfl ?_
      with_reducible refine (laws_toProg.calls k _ _ l0_0 t670 _ ?side1 ?side2 A74.out).mono ?_
      (case side1 => exact Cq (Kd.C_below HR0_0.out HB.out))
      (case side2 => exact HC0_0.out)
      rintro e w121 ⟨v671, rfl, ho0, hb⟩
      refine ⟨_, rfl, ?_⟩
      replace HO648 := Aside0.mk (Kd.R_below (Rq HO648.out) hb)
      replace HO651 := Aside0.mk (Kd.R_below (Rq HO651.out) hb)
      replace HO659 := Aside0.mk (Kd.R_below (Rq HO659.out) hb)
      replace HO662 := Aside0.mk (Kd.R_below (Rq HO662.out) hb)
      have HO672 := Aside0.mk (Kd.S_lower (Kd.S_new' (Kd.S_new' ho0 (Kd.S_lt (Sq HO640.out))) (Kd.S_lt (Sq HO655.out))) (below_size (bwq HB)))
      replace HO640 := Aside0.mk (Kd.S_elder' (Sq HO640.out) (Kd.S_base ho0) hb)
      replace HO655 := Aside0.mk (Kd.S_elder' (Sq HO655.out) (Kd.S_base ho0) hb)
      replace BK633 := bkb BK633 hb
      replace BK634 := bkb BK634 hb
      replace BK635 := bkb BK635 hb
      replace BK656 := bkb BK656 hb
      replace BK663 := bkb BK663 hb
      replace HB := bwb HB hb
      (try clear hb)
      (try clear hb2)
      (try clear hk)
      (try clear hi)
      (try clear ho0)
      obtain ⟨Ao122, co122, eo122⟩ := Kd.S_slice HO672.out
      (first | subst eo122 | (injection eo122 with f1_ f2_ f3_; have f4_ := f1_.symm; have f5_ := f3_.symm; clear f1_ f2_ f3_; subst f4_; subst f5_))
      refine hK.out _ _ ⟨(blk_cell BK656.out 0).trans rfl, (blk_cell BK633.out 0).trans rfl⟩ (fun hHeld => ?_)
      clear hK K
      refine norm_ (a' := ?_) ?_ ?_
      rotate_left
      ·show Act.put _ (some 43) _ = _
       simp only [Act.put, List.setIfInBounds_toArray, List.set_cons_zero, List.set_cons_succ, i64_w, i32_w]
       rfl
      refine one_ (i := 3) (N := some 44) #[true, true, true, true, false] rfl rfl (by kernel_rfl) (by decide) (fun K hK => ?_)
      refine goesS Try.func19 #[.agg #[.slice Ao101 t653.length co101], .agg #[.slice Ao122 t670.length co122]] rfl rfl ?_
      with_reducible refine (laws_eqProg.calls k _ _ t653 _ _ t670 true _ ?side1 ?side2 ?side3 ?side4 A75.out).mono ?_
      (case side1 => repeat (first | exact (Kd.S_reads' HO655.out).2.2 | (with_reducible refine Kd.C_alloc ?_ _) | (with_reducible refine Kd.C_drewN ?_ _) | (with_reducible refine Kd.C_drew ?_)))
      (case side2 => exact (Kd.S_reads' HO655.out).2.1)
      (case side3 => repeat (first | exact (Kd.S_reads' HO672.out).2.2 | (with_reducible refine Kd.C_alloc ?_ _) | (with_reducible refine Kd.C_drewN ?_ _) | (with_reducible refine Kd.C_drew ?_)))
      (case side4 => exact (Kd.S_reads' HO672.out).2.1)
      rintro e w123 ⟨rfl, hb⟩
      refine ⟨_, rfl, ?_⟩
      replace HO640 := Aside0.mk (Kd.S_below (Sq HO640.out) hb)
      replace HO648 := Aside0.mk (Kd.R_below (Rq HO648.out) hb)
      replace HO651 := Aside0.mk (Kd.R_below (Rq HO651.out) hb)
      replace HO655 := Aside0.mk (Kd.S_below (Sq HO655.out) hb)
      replace HO659 := Aside0.mk (Kd.R_below (Rq HO659.out) hb)
      replace HO662 := Aside0.mk (Kd.R_below (Rq HO662.out) hb)
      replace HO672 := Aside0.mk (Kd.S_below (Sq HO672.out) hb)
      replace BK633 := bkb BK633 hb
      replace BK634 := bkb BK634 hb
      replace BK635 := bkb BK635 hb
      replace BK656 := bkb BK656 hb
      replace BK663 := bkb BK663 hb
      replace HB := bwb HB hb
      (try clear hb)
      (try clear hb2)
      (try clear hk)
      (try clear hi)
      refine hK.out _ _ ⟨(blk_cell BK656.out 0).trans rfl, (blk_cell BK633.out 0).trans rfl⟩ (fun hHeld => ?_)
      clear hK K
      refine norm_ (a' := ?_) ?_ ?_
      rotate_left
      ·show Act.put _ (some 44) _ = _
       simp only [Act.put, List.setIfInBounds_toArray, List.set_cons_zero, List.set_cons_succ, i64_w, i32_w]
       rfl
      refine pure_ (i := 4) (N := some 45) (v := ?_) (a' := ?_) #[true, true, true, true, true] rfl rfl (by kernel_rfl) (fun _ _ _ h => h) (Or.inl ⟨by rfl, ?_⟩) ?_ ?_
      rotate_left
      ·intro w'
       go_simp
       with_reducible rfl
      rotate_left
      ·simp only [Act.put, List.setIfInBounds_toArray, List.set_cons_zero, List.set_cons_succ, i64_w, i32_w]
       rfl
      refine done_ (by kernel_rfl) ?_
      try go_wp2
      replace HO640 := Aside0.mk (Kd.S_drew HO640.out)
      replace HO648 := Aside0.mk (Kd.R_drew HO648.out)
      replace HO651 := Aside0.mk (Kd.R_drew HO651.out)
      replace HO655 := Aside0.mk (Kd.S_drew HO655.out)
      replace HO659 := Aside0.mk (Kd.R_drew HO659.out)
      replace HO662 := Aside0.mk (Kd.R_drew HO662.out)
      replace HO672 := Aside0.mk (Kd.S_drew HO672.out)
      replace BK633 := Aside0.mk (blk_drew BK633.out)
      replace BK634 := Aside0.mk (blk_drew BK634.out)
      replace BK635 := Aside0.mk (blk_drew BK635.out)
      replace BK656 := Aside0.mk (blk_drew BK656.out)
      replace BK663 := Aside0.mk (blk_drew BK663.out)
      replace HB := Aside0.mk (below_drew1 HB.out)
      refine start_ (n := 5) (S := fun w' => w'.cell? ⟨gb663, 0, none⟩ = some (.slice Ao109 t657.length co109) ∧ w'.cell? ⟨gb663, 1, none⟩ = some (.slice Ao115 t660.length co115) ∧ w'.cell? ⟨gb635, 0, none⟩ = some (.slice A2_0 l2_0.length c2_0) ∧ w'.cell? ⟨gb635, 1, none⟩ = some (.slice A2_1 l2_1.length c2_1)) (ds := []) #[false, false, false, false, false] (by kernel_rfl) rfl rfl ⟨(blk_cell BK663.out 0).trans rfl, (blk_cell BK663.out 1).trans rfl, (blk_cell BK635.out 0).trans rfl, (blk_cell BK635.out 1).trans rfl⟩ (fun hHeld => ?_)
      generalize w123.drew = w124 at HO640 HO648 HO651 HO655 HO659 HO662 HO672 BK633 BK634 BK635 BK656 BK663 HB hHeld ⊢
      refine take_ (i := 0) (N := some 46) (v := ?_) (a' := ?_) #[true, false, false, false, false] rfl rfl (by kernel_rfl) (fun _ _ _ h => h) (Or.inl ⟨by rfl, ?_⟩) hHeld ?_ ?_
      rotate_left
      ·rintro w' ⟨s0, s1, s2, s3⟩
       go_simp
       with_reducible rfl
      rotate_left
      ·simp only [Act.put, List.setIfInBounds_toArray, List.set_cons_zero, List.set_cons_succ, i64_w, i32_w]
       rfl
      refine take_ (i := 1) (N := some 47) (v := ?_) (a' := ?_) #[true, true, false, false, false] rfl rfl (by kernel_rfl) (fun _ _ _ h => h) (Or.inl ⟨by rfl, ?_⟩) hHeld ?_ ?_
      rotate_left
      ·rintro w' ⟨s0, s1, s2, s3⟩
       go_simp
       with_reducible rfl
      rotate_left
      ·simp only [Act.put, List.setIfInBounds_toArray, List.set_cons_zero, List.set_cons_succ, i64_w, i32_w]
       rfl
      refine one_ (i := 2) (N := some 48) #[true, true, true, false, false] rfl rfl (by kernel_rfl) (by decide) (fun K hK => ?_)
      refine goesS Try.func16 #[.agg #[.slice A2_0 l2_0.length c2_0, .slice A2_1 l2_1.length c2_1]] rfl rfl ?_
      with_reducible refine (laws_toPlace.calls k _ _ l2_0 _ _ l2_1 t674 t677 _ ?side1 ?side2 ?side3 ?side4 A77.out).mono ?_
      (case side1 => exact Cq (Kd.C_below HR2_0.out HB.out))
      (case side2 => exact HC2_0.out)
      (case side3 => exact Cq (Kd.C_below HR2_1.out HB.out))
      (case side4 => exact HC2_1.out)
      rintro e w125 ⟨v675, v678, rfl, ho0, ho1, hb⟩
      refine ⟨_, rfl, ?_⟩
      replace HO640 := Aside0.mk (Kd.S_below (Sq HO640.out) hb)
      replace HO655 := Aside0.mk (Kd.S_below (Sq HO655.out) hb)
      replace HO672 := Aside0.mk (Kd.S_below (Sq HO672.out) hb)
      have HO676 := Aside0.mk (Kd.R_lower (Kd.R_new' (Kd.R_new' (Kd.R_new' (Kd.R_new' ho0 (Kd.R_lt (Rq HO648.out))) (Kd.R_lt (Rq HO651.out))) (Kd.R_lt (Rq HO659.out))) (Kd.R_lt (Rq HO662.out))) (below_size (bwq HB)))
      have HO679 := Aside0.mk (Kd.R_lower (Kd.R_new' (Kd.R_new' (Kd.R_new' (Kd.R_new' ho1 (Kd.R_lt (Rq HO648.out))) (Kd.R_lt (Rq HO651.out))) (Kd.R_lt (Rq HO659.out))) (Kd.R_lt (Rq HO662.out))) (below_size (bwq HB)))
      replace HO648 := Aside0.mk (Kd.R_mono (Kd.R_told (Kd.R_told (Kd.R_old (Rq HO648.out) hb) (Kd.R_base ho0)) (Kd.R_base ho1)) (fun _ h_ => h_.1))
      replace HO651 := Aside0.mk (Kd.R_mono (Kd.R_told (Kd.R_told (Kd.R_old (Rq HO651.out) hb) (Kd.R_base ho0)) (Kd.R_base ho1)) (fun _ h_ => h_.1))
      replace HO659 := Aside0.mk (Kd.R_mono (Kd.R_told (Kd.R_told (Kd.R_old (Rq HO659.out) hb) (Kd.R_base ho0)) (Kd.R_base ho1)) (fun _ h_ => h_.1))
      replace HO662 := Aside0.mk (Kd.R_mono (Kd.R_told (Kd.R_told (Kd.R_old (Rq HO662.out) hb) (Kd.R_base ho0)) (Kd.R_base ho1)) (fun _ h_ => h_.1))
      replace BK633 := bkb BK633 hb
      replace BK634 := bkb BK634 hb
      replace BK635 := bkb BK635 hb
      replace BK656 := bkb BK656 hb
      replace BK663 := bkb BK663 hb
      replace HB := bwb HB hb
      (try clear hb)
      (try clear hb2)
      (try clear hk)
      (try clear hi)
      (try clear ho0)
      (try clear ho1)
      obtain ⟨Ao126, co126, eo126⟩ := Kd.R_slice HO676.out
      (first | subst eo126 | (injection eo126 with f1_ f2_ f3_; have f4_ := f1_.symm; have f5_ := f3_.symm; clear f1_ f2_ f3_; subst f4_; subst f5_))
      obtain ⟨Ao127, co127, eo127⟩ := Kd.R_slice HO679.out
      (first | subst eo127 | (injection eo127 with f1_ f2_ f3_; have f4_ := f1_.symm; have f5_ := f3_.symm; clear f1_ f2_ f3_; subst f4_; subst f5_))
      refine hK.out _ _ ⟨(blk_cell BK663.out 0).trans rfl, (blk_cell BK663.out 1).trans rfl, (blk_cell BK635.out 0).trans rfl, (blk_cell BK635.out 1).trans rfl⟩ (fun hHeld => ?_)
      clear hK K
      refine norm_ (a' := ?_) ?_ ?_
      rotate_left
      ·show Act.put _ (some 48) _ = _
       simp only [Act.put, List.setIfInBounds_toArray, List.set_cons_zero, List.set_cons_succ, i64_w, i32_w]
       rfl
      refine one_ (i := 3) (N := some 49) #[true, true, true, true, false] rfl rfl (by kernel_rfl) (by decide) (fun K hK => ?_)
      refine goesS Try.func20 #[.agg #[.slice Ao109 t657.length co109, .slice Ao115 t660.length co115], .agg #[.slice Ao126 t674.length co126, .slice Ao127 t677.length co127]] rfl rfl ?_
      with_reducible refine (laws_eqPlace.calls k _ _ t657 _ _ t660 _ _ t674 _ _ t677 true _ ?side1 ?side2 ?side3 ?side4 ?side5 ?side6 ?side7 ?side8 A78.out).mono ?_
      (case side1 => repeat (first | exact (Kd.R_reads' HO659.out).2.2 | (with_reducible refine Kd.C_alloc ?_ _) | (with_reducible refine Kd.C_drewN ?_ _) | (with_reducible refine Kd.C_drew ?_)))
      (case side2 => exact (Kd.R_reads' HO659.out).2.1)
      (case side3 => repeat (first | exact (Kd.R_reads' HO662.out).2.2 | (with_reducible refine Kd.C_alloc ?_ _) | (with_reducible refine Kd.C_drewN ?_ _) | (with_reducible refine Kd.C_drew ?_)))
      (case side4 => exact (Kd.R_reads' HO662.out).2.1)
      (case side5 => repeat (first | exact (Kd.R_reads' HO676.out).2.2 | (with_reducible refine Kd.C_alloc ?_ _) | (with_reducible refine Kd.C_drewN ?_ _) | (with_reducible refine Kd.C_drew ?_)))
      (case side6 => exact (Kd.R_reads' HO676.out).2.1)
      (case side7 => repeat (first | exact (Kd.R_reads' HO679.out).2.2 | (with_reducible refine Kd.C_alloc ?_ _) | (with_reducible refine Kd.C_drewN ?_ _) | (with_reducible refine Kd.C_drew ?_)))
      (case side8 => exact (Kd.R_reads' HO679.out).2.1)
      rintro e w128 ⟨rfl, hb⟩
      refine ⟨_, rfl, ?_⟩
      replace HO640 := Aside0.mk (Kd.S_below (Sq HO640.out) hb)
      replace HO648 := Aside0.mk (Kd.R_below (Rq HO648.out) hb)
      replace HO651 := Aside0.mk (Kd.R_below (Rq HO651.out) hb)
      replace HO655 := Aside0.mk (Kd.S_below (Sq HO655.out) hb)
      replace HO659 := Aside0.mk (Kd.R_below (Rq HO659.out) hb)
      replace HO662 := Aside0.mk (Kd.R_below (Rq HO662.out) hb)
      replace HO672 := Aside0.mk (Kd.S_below (Sq HO672.out) hb)
      replace HO676 := Aside0.mk (Kd.R_below (Rq HO676.out) hb)
      replace HO679 := Aside0.mk (Kd.R_below (Rq HO679.out) hb)
      replace BK633 := bkb BK633 hb
      replace BK634 := bkb BK634 hb
      replace BK635 := bkb BK635 hb
      replace BK656 := bkb BK656 hb
      replace BK663 := bkb BK663 hb
      replace HB := bwb HB hb
      (try clear hb)
      (try clear hb2)
      (try clear hk)
      (try clear hi)
      refine hK.out _ _ ⟨(blk_cell BK663.out 0).trans rfl, (blk_cell BK663.out 1).trans rfl, (blk_cell BK635.out 0).trans rfl, (blk_cell BK635.out 1).trans rfl⟩ (fun hHeld => ?_)
      clear hK K
      refine norm_ (a' := ?_) ?_ ?_
      rotate_left
      ·show Act.put _ (some 49) _ = _
       simp only [Act.put, List.setIfInBounds_toArray, List.set_cons_zero, List.set_cons_succ, i64_w, i32_w]
       rfl
      refine pure_ (i := 4) (N := some 50) (v := ?_) (a' := ?_) #[true, true, true, true, true] rfl rfl (by kernel_rfl) (fun _ _ _ h => h) (Or.inl ⟨by rfl, ?_⟩) ?_ ?_
      rotate_left
      ·intro w'
       go_simp
       with_reducible rfl
      rotate_left
      ·simp only [Act.put, List.setIfInBounds_toArray, List.set_cons_zero, List.set_cons_succ, i64_w, i32_w]
       rfl
      refine done_ (by kernel_rfl) ?_
      try go_wp2
      go_ret
      exact ⟨by first | rfl | (simp [errW_none, errW_some] <;> rfl) | (simp [*, errW_none, errW_some] <;> rfl), bwq HB⟩
     ·replace c79 := Bool.eq_false_iff.mpr c79
      subst c79
      have H1 : (some false) = some r := by rw [if_neg (show ¬ (false = true) by decide)] at H; exact H
      clear H
      have H := H1
      clear H1
      obtain rfl := Option.some.inj H
      go_enter Try.func5, Try.ntmps5
      try go_wp2_with (first | ((with_reducible refine gate_dst (N := 3) rfl ?_); refine bxe (cs := #[.slice A0_0 l0_0.length c0_0]) (t := 24) ?_; intro gb633 hg w129 hbox hb; have BK633 := Aside0.mk (hbox); have GW633 := bwz HB hg; have GE633 := bwz HB hg; replace HB := bwb HB hb; clear hb hbox hg) | ((with_reducible refine gate_dst (N := 4) rfl ?_); refine bxe (cs := #[.int .i64 a1_0, .int .i64 a1_1, .int .i64 a1_2, .int .i64 a1_3, .int .i64 a1_4]) (t := 28) ?_; intro gb634 hg w130 hbox hb; have BK634 := Aside0.mk (hbox); have GW634 := bwz HB hg; have GE634 := bwz HB hg; replace HB := bwb HB hb; have NB633_634 := bkl BK633 hg; have NB634_633 := bkg BK633 hg; replace BK633 := bkb BK633 hb; clear hb hbox hg) | ((with_reducible refine gate_dst (N := 5) rfl ?_); refine bxe (cs := #[.slice A2_0 l2_0.length c2_0, .slice A2_1 l2_1.length c2_1]) (t := 31) ?_; intro gb635 hg w131 hbox hb; have BK635 := Aside0.mk (hbox); have GW635 := bwz HB hg; have GE635 := bwz HB hg; replace HB := bwb HB hb; have NB633_635 := bkl BK633 hg; have NB635_633 := bkg BK633 hg; replace BK633 := bkb BK633 hb; have NB634_635 := bkl BK634 hg; have NB635_634 := bkg BK634 hg; replace BK634 := bkb BK634 hb; clear hb hbox hg; have hnb132 := NB633_634.out; have hnc132 := NB634_633.out; have hnb133 := NB633_635.out; have hnc133 := NB635_633.out; obtain ⟨hcz134, hfz134⟩ := bcf BK633) | ((with_reducible refine gate_callee (f := 11) rfl ?_); refine goesM (some 14) rfl rfl Try.func11 #[.agg #[.slice A0_0 l0_0.length c0_0], .int .i64 1048576] rfl ?_; (with_reducible refine (laws_szProg.calls k _ _ l0_0 1048576 t636 _ ?side1 ?side2 A4.out).mono ?_); (case side1 => exact Cq (Kd.C_below HR0_0.out HB.out)); (case side2 => exact HC0_0.out); rintro e w135 ⟨rfl, hb⟩; refine ⟨_, rfl, ?_⟩; replace BK633 := bkb BK633 hb; replace BK634 := bkb BK634 hb; replace BK635 := bkb BK635 hb; replace HB := bwb HB hb; (try clear hb); (try clear hb2); (try clear hk); (try clear hi); have hnb136 := NB635_634.out; have hnc136 := NB634_635.out; obtain ⟨hcz137, hfz137⟩ := bcf BK635) | ((with_reducible refine gate_callee (f := 12) rfl ?_); refine goesM (some 19) rfl rfl Try.func12 #[.agg #[.slice A2_0 l2_0.length c2_0, .slice A2_1 l2_1.length c2_1], .int .i64 t636] rfl ?_; (with_reducible refine (laws_szPlace.calls _ _ l2_0 _ _ l2_1 t636 t637 _ ?side1 ?side2 ?side3 ?side4 A13.out).mono ?_); (case side1 => exact Cq (Kd.C_below HR2_0.out HB.out)); (case side2 => exact HC2_0.out); (case side3 => exact Cq (Kd.C_below HR2_1.out HB.out)); (case side4 => exact HC2_1.out); rintro e w138 ⟨rfl, hb⟩; refine ⟨_, rfl, ?_⟩; replace BK633 := bkb BK633 hb; replace BK634 := bkb BK634 hb; replace BK635 := bkb BK635 hb; replace HB := bwb HB hb; (try clear hb); (try clear hb2); (try clear hk); (try clear hi)))
      replace BK633 := Aside0.mk (blk_drew BK633.out)
      replace BK634 := Aside0.mk (blk_drew BK634.out)
      replace BK635 := Aside0.mk (blk_drew BK635.out)
      replace HB := Aside0.mk (below_drew1 HB.out)
      refine start_ (n := 8) (S := fun w' => w'.cell? ⟨gb633, 0, none⟩ = some (.slice A0_0 l0_0.length c0_0) ∧ w'.cell? ⟨gb634, 0, none⟩ = some (.int .i64 a1_0) ∧ w'.cell? ⟨gb634, 1, none⟩ = some (.int .i64 a1_1) ∧ w'.cell? ⟨gb634, 2, none⟩ = some (.int .i64 a1_2) ∧ w'.cell? ⟨gb634, 3, none⟩ = some (.int .i64 a1_3) ∧ w'.cell? ⟨gb634, 4, none⟩ = some (.int .i64 a1_4) ∧ w'.cell? ⟨gb635, 0, none⟩ = some (.slice A2_0 l2_0.length c2_0) ∧ w'.cell? ⟨gb635, 1, none⟩ = some (.slice A2_1 l2_1.length c2_1)) (ds := []) #[false, false, false, false, false, false, false, false] (by kernel_rfl) rfl rfl ⟨(blk_cell BK633.out 0).trans rfl, (blk_cell BK634.out 0).trans rfl, (blk_cell BK634.out 1).trans rfl, (blk_cell BK634.out 2).trans rfl, (blk_cell BK634.out 3).trans rfl, (blk_cell BK634.out 4).trans rfl, (blk_cell BK635.out 0).trans rfl, (blk_cell BK635.out 1).trans rfl⟩ (fun hHeld => ?_); refine with_tabW laws_FnExactPlaceOk.tab8 laws_FnExactPlaceOk.bits8 (fun HT_ HW_ => ?_)
      generalize w138.drew = w139 at BK633 BK634 BK635 HB hHeld ⊢
      refine take_ (i := 0) (N := some 22) (v := ?_) (a' := ?_) #[true, false, false, false, false, false, false, false] rfl rfl (take_ofW HT_.out HW_.out (by kernel_rfl)) (fun _ _ _ h => h) (Or.inl ⟨by rfl, ?_⟩) hHeld ?_ ?_
      rotate_left
      ·rintro w' ⟨s0, s1, s2, s3, s4, s5, s6, s7⟩
       go_simp
       with_reducible rfl
      rotate_left
      ·simp only [Act.put, List.setIfInBounds_toArray, List.set_cons_zero, List.set_cons_succ, i64_w, i32_w]
       rfl
      refine take_ (i := 2) (N := some 24) (v := ?_) (a' := ?_) #[true, false, true, false, false, false, false, false] rfl rfl (take_ofW HT_.out HW_.out (by kernel_rfl)) (fun _ _ _ h => h) (Or.inl ⟨by rfl, ?_⟩) hHeld ?_ ?_
      rotate_left
      ·rintro w' ⟨s0, s1, s2, s3, s4, s5, s6, s7⟩
       go_simp
       with_reducible rfl
      rotate_left
      ·simp only [Act.put, List.setIfInBounds_toArray, List.set_cons_zero, List.set_cons_succ, i64_w, i32_w]
       rfl
      refine take_ (i := 4) (N := some 26) (v := ?_) (a' := ?_) #[true, false, true, false, true, false, false, false] rfl rfl (take_ofW HT_.out HW_.out (by kernel_rfl)) (fun _ _ _ h => h) (Or.inl ⟨by rfl, ?_⟩) hHeld ?_ ?_
      rotate_left
      ·rintro w' ⟨s0, s1, s2, s3, s4, s5, s6, s7⟩
       go_simp
       with_reducible rfl
      rotate_left
      ·simp only [Act.put, List.setIfInBounds_toArray, List.set_cons_zero, List.set_cons_succ, i64_w, i32_w]
       rfl
      refine one_ (i := 1) (N := some 23) #[true, true, true, false, true, false, false, false] rfl rfl (one_of HT_.out (by kernel_rfl)) (by decide) (fun K hK => ?_)
      refine goesS Try.func14 #[.agg #[.slice A0_0 l0_0.length c0_0]] rfl rfl ?_
      with_reducible refine (laws_toProg.calls k _ _ l0_0 t638 _ ?side1 ?side2 A25.out).mono ?_
      (case side1 => exact Cq (Kd.C_below HR0_0.out HB.out))
      (case side2 => exact HC0_0.out)
      rintro e w140 ⟨v639, rfl, ho0, hb⟩
      refine ⟨_, rfl, ?_⟩
      have HO640 := Aside0.mk (Kd.S_lower ho0 (below_size (bwq HB)))
      replace BK633 := bkb BK633 hb
      replace BK634 := bkb BK634 hb
      replace BK635 := bkb BK635 hb
      replace HB := bwb HB hb
      (try clear hb)
      (try clear hb2)
      (try clear hk)
      (try clear hi)
      (try clear ho0)
      refine hK.out _ _ ⟨(blk_cell BK633.out 0).trans rfl, (blk_cell BK634.out 0).trans rfl, (blk_cell BK634.out 1).trans rfl, (blk_cell BK634.out 2).trans rfl, (blk_cell BK634.out 3).trans rfl, (blk_cell BK634.out 4).trans rfl, (blk_cell BK635.out 0).trans rfl, (blk_cell BK635.out 1).trans rfl⟩ (fun hHeld => ?_)
      clear hK K
      refine norm_ (a' := ?_) ?_ ?_
      rotate_left
      ·show Act.put _ (some 23) _ = _
       simp only [Act.put, List.setIfInBounds_toArray, List.set_cons_zero, List.set_cons_succ, i64_w, i32_w]
       rfl
      refine one_ (i := 3) (N := some 25) #[true, true, true, true, true, false, false, false] rfl rfl (one_of HT_.out (by kernel_rfl)) (by decide) (fun K hK => ?_)
      refine goesS Try.func15 #[.agg #[.int .i64 a1_0, .int .i64 a1_1, .int .i64 a1_2, .int .i64 a1_3, .int .i64 a1_4]] rfl rfl ?_
      with_reducible refine (laws_toExpr.calls a1_0 a1_1 a1_2 a1_3 a1_4 t641 t642 t643 t644 t645 _ A26.out).mono ?_
      rintro e w141 ⟨rfl, hb⟩
      refine ⟨_, rfl, ?_⟩
      replace HO640 := Aside0.mk (Kd.S_below (Sq HO640.out) hb)
      replace BK633 := bkb BK633 hb
      replace BK634 := bkb BK634 hb
      replace BK635 := bkb BK635 hb
      replace HB := bwb HB hb
      (try clear hb)
      (try clear hb2)
      (try clear hk)
      (try clear hi)
      refine hK.out _ _ ⟨(blk_cell BK633.out 0).trans rfl, (blk_cell BK634.out 0).trans rfl, (blk_cell BK634.out 1).trans rfl, (blk_cell BK634.out 2).trans rfl, (blk_cell BK634.out 3).trans rfl, (blk_cell BK634.out 4).trans rfl, (blk_cell BK635.out 0).trans rfl, (blk_cell BK635.out 1).trans rfl⟩ (fun hHeld => ?_)
      clear hK K
      refine norm_ (a' := ?_) ?_ ?_
      rotate_left
      ·show Act.put _ (some 25) _ = _
       simp only [Act.put, List.setIfInBounds_toArray, List.set_cons_zero, List.set_cons_succ, i64_w, i32_w]
       rfl
      refine one_ (i := 5) (N := some 27) #[true, true, true, true, true, true, false, false] rfl rfl (one_of HT_.out (by kernel_rfl)) (by decide) (fun K hK => ?_)
      refine goesS Try.func16 #[.agg #[.slice A2_0 l2_0.length c2_0, .slice A2_1 l2_1.length c2_1]] rfl rfl ?_
      with_reducible refine (laws_toPlace.calls k _ _ l2_0 _ _ l2_1 t646 t649 _ ?side1 ?side2 ?side3 ?side4 A27.out).mono ?_
      (case side1 => exact Cq (Kd.C_below HR2_0.out HB.out))
      (case side2 => exact HC2_0.out)
      (case side3 => exact Cq (Kd.C_below HR2_1.out HB.out))
      (case side4 => exact HC2_1.out)
      rintro e w142 ⟨v647, v650, rfl, ho0, ho1, hb⟩
      refine ⟨_, rfl, ?_⟩
      replace HO640 := Aside0.mk (Kd.S_below (Sq HO640.out) hb)
      have HO648 := Aside0.mk (Kd.R_lower ho0 (below_size (bwq HB)))
      have HO651 := Aside0.mk (Kd.R_lower ho1 (below_size (bwq HB)))
      replace BK633 := bkb BK633 hb
      replace BK634 := bkb BK634 hb
      replace BK635 := bkb BK635 hb
      replace HB := bwb HB hb
      (try clear hb)
      (try clear hb2)
      (try clear hk)
      (try clear hi)
      (try clear ho0)
      (try clear ho1)
      obtain ⟨Ao143, co143, eo143⟩ := Kd.S_slice HO640.out
      (first | subst eo143 | (injection eo143 with f1_ f2_ f3_; have f4_ := f1_.symm; have f5_ := f3_.symm; clear f1_ f2_ f3_; subst f4_; subst f5_))
      obtain ⟨Ao144, co144, eo144⟩ := Kd.R_slice HO648.out
      (first | subst eo144 | (injection eo144 with f1_ f2_ f3_; have f4_ := f1_.symm; have f5_ := f3_.symm; clear f1_ f2_ f3_; subst f4_; subst f5_))
      obtain ⟨Ao145, co145, eo145⟩ := Kd.R_slice HO651.out
      (first | subst eo145 | (injection eo145 with f1_ f2_ f3_; have f4_ := f1_.symm; have f5_ := f3_.symm; clear f1_ f2_ f3_; subst f4_; subst f5_))
      refine hK.out _ _ ⟨(blk_cell BK633.out 0).trans rfl, (blk_cell BK634.out 0).trans rfl, (blk_cell BK634.out 1).trans rfl, (blk_cell BK634.out 2).trans rfl, (blk_cell BK634.out 3).trans rfl, (blk_cell BK634.out 4).trans rfl, (blk_cell BK635.out 0).trans rfl, (blk_cell BK635.out 1).trans rfl⟩ (fun hHeld => ?_)
      clear hK K
      refine norm_ (a' := ?_) ?_ ?_
      rotate_left
      ·show Act.put _ (some 27) _ = _
       simp only [Act.put, List.setIfInBounds_toArray, List.set_cons_zero, List.set_cons_succ, i64_w, i32_w]
       rfl
      refine one_ (i := 6) (N := some 28) #[true, true, true, true, true, true, true, false] rfl rfl (one_of HT_.out (by kernel_rfl)) (by decide) (fun K hK => ?_)
      refine goesS Try.func29 #[.agg #[.slice Ao143 t638.length co143], .agg #[.int .i64 t641, .int .i64 t642, .int .i64 t643, .int .i64 t644, .int .i64 t645], .agg #[.slice Ao144 t646.length co144, .slice Ao145 t649.length co145]] rfl rfl ?_
      with_reducible refine (spec_PlaceOk.calls k _ _ t638 t641 t642 t643 t644 t645 _ _ t646 _ _ t649 t652 _ ?side1 ?side2 ?side3 ?side4 ?side5 ?side6 A28.out).mono ?_
      (case side1 => repeat (first | exact (Kd.S_reads' HO640.out).2.2 | (with_reducible refine Kd.C_alloc ?_ _) | (with_reducible refine Kd.C_drewN ?_ _) | (with_reducible refine Kd.C_drew ?_)))
      (case side2 => exact (Kd.S_reads' HO640.out).2.1)
      (case side3 => repeat (first | exact (Kd.R_reads' HO648.out).2.2 | (with_reducible refine Kd.C_alloc ?_ _) | (with_reducible refine Kd.C_drewN ?_ _) | (with_reducible refine Kd.C_drew ?_)))
      (case side4 => exact (Kd.R_reads' HO648.out).2.1)
      (case side5 => repeat (first | exact (Kd.R_reads' HO651.out).2.2 | (with_reducible refine Kd.C_alloc ?_ _) | (with_reducible refine Kd.C_drewN ?_ _) | (with_reducible refine Kd.C_drew ?_)))
      (case side6 => exact (Kd.R_reads' HO651.out).2.1)
      rintro e w146 ⟨rfl, hb⟩
      refine ⟨_, rfl, ?_⟩
      replace HO640 := Aside0.mk (Kd.S_below (Sq HO640.out) hb)
      replace HO648 := Aside0.mk (Kd.R_below (Rq HO648.out) hb)
      replace HO651 := Aside0.mk (Kd.R_below (Rq HO651.out) hb)
      replace BK633 := bkb BK633 hb
      replace BK634 := bkb BK634 hb
      replace BK635 := bkb BK635 hb
      replace HB := bwb HB hb
      (try clear hb)
      (try clear hb2)
      (try clear hk)
      (try clear hi)
      refine hK.out _ _ ⟨(blk_cell BK633.out 0).trans rfl, (blk_cell BK634.out 0).trans rfl, (blk_cell BK634.out 1).trans rfl, (blk_cell BK634.out 2).trans rfl, (blk_cell BK634.out 3).trans rfl, (blk_cell BK634.out 4).trans rfl, (blk_cell BK635.out 0).trans rfl, (blk_cell BK635.out 1).trans rfl⟩ (fun hHeld => ?_)
      clear hK K
      refine norm_ (a' := ?_) ?_ ?_
      rotate_left
      ·show Act.put _ (some 28) _ = _
       simp only [Act.put, List.setIfInBounds_toArray, List.set_cons_zero, List.set_cons_succ, i64_w, i32_w]
       rfl
      refine pure_ (i := 7) (N := some 8) (v := ?_) (a' := ?_) #[true, true, true, true, true, true, true, true] rfl rfl (any_of HT_.out (by kernel_rfl)) (fun _ _ _ h => h) (Or.inl ⟨by rfl, ?_⟩) ?_ ?_
      rotate_left
      ·intro w'
       go_simp
       with_reducible rfl
      rotate_left
      ·simp only [Act.put, List.setIfInBounds_toArray, List.set_cons_zero, List.set_cons_succ, i64_w, i32_w]
       rfl
      refine done_ (done_of HT_.out (by kernel_rfl)) ?_
      obtain ⟨hcz147, hfz147⟩ := bcf BK633
      try go_wp2_with (first | ((with_reducible refine gate_callee (f := 14) rfl ?_); refine goesM (some 30) rfl rfl Try.func14 #[.agg #[.slice A0_0 l0_0.length c0_0]] rfl ?_; (with_reducible refine (laws_toProg.calls k _ _ l0_0 t653 _ ?side1 ?side2 A29.out).mono ?_); (case side1 => exact Cq (Kd.C_below HR0_0.out HB.out)); (case side2 => exact HC0_0.out); rintro e w148 ⟨v654, rfl, ho0, hb⟩; refine ⟨_, rfl, ?_⟩; replace HO648 := Aside0.mk (Kd.R_below (Rq HO648.out) hb); replace HO651 := Aside0.mk (Kd.R_below (Rq HO651.out) hb); have HO655 := Aside0.mk (Kd.S_lower (Kd.S_new' ho0 (Kd.S_lt (Sq HO640.out))) (below_size (bwq HB))); replace HO640 := Aside0.mk (Kd.S_elder' (Sq HO640.out) (Kd.S_base ho0) hb); replace BK633 := bkb BK633 hb; replace BK634 := bkb BK634 hb; replace BK635 := bkb BK635 hb; replace HB := bwb HB hb; (try clear hb); (try clear hb2); (try clear hk); (try clear hi); (try clear ho0)) | ((with_reducible refine gate_dst (N := 9) rfl ?_); refine bxe (cs := #[.slice none 0 0]) (t := 38) ?_; intro gb656 hg w149 hbox hb; replace HO640 := Aside0.mk (Kd.S_below (Sq HO640.out) hb); replace HO648 := Aside0.mk (Kd.R_below (Rq HO648.out) hb); replace HO651 := Aside0.mk (Kd.R_below (Rq HO651.out) hb); replace HO655 := Aside0.mk (Kd.S_below (Sq HO655.out) hb); have BK656 := Aside0.mk (hbox); have GW656 := bwz HB hg; have GE656 := bwz HB hg; replace HB := bwb HB hb; have NB633_656 := bkl BK633 hg; have NB656_633 := bkg BK633 hg; replace BK633 := bkb BK633 hb; have NB634_656 := bkl BK634 hg; have NB656_634 := bkg BK634 hg; replace BK634 := bkb BK634 hb; have NB635_656 := bkl BK635 hg; have NB656_635 := bkg BK635 hg; replace BK635 := bkb BK635 hb; clear hb hbox hg; obtain ⟨Ao150, co150, eo150⟩ := Kd.S_slice HO655.out; subst eo150; have hnb151 := NB656_633.out; have hnc151 := NB633_656.out; have hnb152 := NB656_634.out; have hnc152 := NB634_656.out; have hnb153 := NB656_635.out; have hnc153 := NB635_656.out; obtain ⟨hcz154, hfz154⟩ := bcf BK656; obtain ⟨hcz155, hfz155⟩ := bcf BK635) | ((with_reducible refine gate_callee (f := 16) rfl ?_); refine goesM (some 32) rfl rfl Try.func16 #[.agg #[.slice A2_0 l2_0.length c2_0, .slice A2_1 l2_1.length c2_1]] rfl ?_; (with_reducible refine (laws_toPlace.calls k _ _ l2_0 _ _ l2_1 t657 t660 _ ?side1 ?side2 ?side3 ?side4 A30.out).mono ?_); (case side1 => exact Kd.C_below HR2_0.out (bwq HB)); (case side2 => exact HC2_0.out); (case side3 => exact Kd.C_below HR2_1.out (bwq HB)); (case side4 => exact HC2_1.out); rintro e w156 ⟨v658, v661, rfl, ho0, ho1, hb⟩; refine ⟨_, rfl, ?_⟩; replace HO640 := Aside0.mk (Kd.S_below (by (with_reducible repeat (first | apply Kd.S_alloc | apply Kd.S_drewN | apply Kd.S_drew)); exact (Kd.S_mono (Kd.S_far (p := ⟨gb656, 0, none⟩) (Kd.S_types HO640.out BK656.out (by decide)) (fun _ hk => hk.2) (.slice Ao150 t653.length co150)) (fun _ h_ => h_.1))) hb); replace HO655 := Aside0.mk (Kd.S_below (by (with_reducible repeat (first | apply Kd.S_alloc | apply Kd.S_drewN | apply Kd.S_drew)); exact (Kd.S_mono (Kd.S_far (p := ⟨gb656, 0, none⟩) (Kd.S_types HO655.out BK656.out (by decide)) (fun _ hk => hk.2) (.slice Ao150 t653.length co150)) (fun _ h_ => h_.1))) hb); have HO659 := Aside0.mk (Kd.R_lower (Kd.R_new' (Kd.R_new' ho0 (Kd.R_lt (by (with_reducible repeat (first | apply Kd.R_alloc | apply Kd.R_drewN | apply Kd.R_drew)); exact (Kd.R_mono (Kd.R_far (p := ⟨gb656, 0, none⟩) (Kd.R_types HO648.out BK656.out (by decide)) (fun _ hk => hk.2) (.slice Ao150 t653.length co150)) (fun _ h_ => h_.1))))) (Kd.R_lt (by (with_reducible repeat (first | apply Kd.R_alloc | apply Kd.R_drewN | apply Kd.R_drew)); exact (Kd.R_mono (Kd.R_far (p := ⟨gb656, 0, none⟩) (Kd.R_types HO651.out BK656.out (by decide)) (fun _ hk => hk.2) (.slice Ao150 t653.length co150)) (fun _ h_ => h_.1))))) (below_size (bwq HB))); have HO662 := Aside0.mk (Kd.R_lower (Kd.R_new' (Kd.R_new' ho1 (Kd.R_lt (by (with_reducible repeat (first | apply Kd.R_alloc | apply Kd.R_drewN | apply Kd.R_drew)); exact (Kd.R_mono (Kd.R_far (p := ⟨gb656, 0, none⟩) (Kd.R_types HO648.out BK656.out (by decide)) (fun _ hk => hk.2) (.slice Ao150 t653.length co150)) (fun _ h_ => h_.1))))) (Kd.R_lt (by (with_reducible repeat (first | apply Kd.R_alloc | apply Kd.R_drewN | apply Kd.R_drew)); exact (Kd.R_mono (Kd.R_far (p := ⟨gb656, 0, none⟩) (Kd.R_types HO651.out BK656.out (by decide)) (fun _ hk => hk.2) (.slice Ao150 t653.length co150)) (fun _ h_ => h_.1))))) (below_size (bwq HB))); replace HO648 := Aside0.mk (Kd.R_mono (Kd.R_told (Kd.R_told (Kd.R_old (by (with_reducible repeat (first | apply Kd.R_alloc | apply Kd.R_drewN | apply Kd.R_drew)); exact (Kd.R_mono (Kd.R_far (p := ⟨gb656, 0, none⟩) (Kd.R_types HO648.out BK656.out (by decide)) (fun _ hk => hk.2) (.slice Ao150 t653.length co150)) (fun _ h_ => h_.1))) hb) (Kd.R_base ho0)) (Kd.R_base ho1)) (fun _ h_ => h_.1)); replace HO651 := Aside0.mk (Kd.R_mono (Kd.R_told (Kd.R_told (Kd.R_old (by (with_reducible repeat (first | apply Kd.R_alloc | apply Kd.R_drewN | apply Kd.R_drew)); exact (Kd.R_mono (Kd.R_far (p := ⟨gb656, 0, none⟩) (Kd.R_types HO651.out BK656.out (by decide)) (fun _ hk => hk.2) (.slice Ao150 t653.length co150)) (fun _ h_ => h_.1))) hb) (Kd.R_base ho0)) (Kd.R_base ho1)) (fun _ h_ => h_.1)); replace BK633 := Aside0.mk (blk_below (g := gb633) (o := .cells #[.slice A0_0 l0_0.length c0_0] 24 (0, 0)) (by (with_reducible repeat (first | refine blk_drewN ?_ _ | refine blk_drew ?_ | refine blk_alloc ?_ _)); refine blk_far ?_ NB633_656.out _; exact bkq BK633) hb); replace BK634 := Aside0.mk (blk_below (g := gb634) (o := .cells #[.int .i64 a1_0, .int .i64 a1_1, .int .i64 a1_2, .int .i64 a1_3, .int .i64 a1_4] 28 (0, 0)) (by (with_reducible repeat (first | refine blk_drewN ?_ _ | refine blk_drew ?_ | refine blk_alloc ?_ _)); refine blk_far ?_ NB634_656.out _; exact bkq BK634) hb); replace BK635 := Aside0.mk (blk_below (g := gb635) (o := .cells #[.slice A2_0 l2_0.length c2_0, .slice A2_1 l2_1.length c2_1] 31 (0, 0)) (by (with_reducible repeat (first | refine blk_drewN ?_ _ | refine blk_drew ?_ | refine blk_alloc ?_ _)); refine blk_far ?_ NB635_656.out _; exact bkq BK635) hb); replace BK656 := Aside0.mk (blk_below (g := gb656) (o := .cells #[.slice Ao150 t653.length co150] 38 (0, 0)) (by (with_reducible repeat (first | refine blk_drewN ?_ _ | refine blk_drew ?_ | refine blk_alloc ?_ _)); refine blk_put (cs := #[.slice none 0 0]) ?_ 0 _ rfl; exact bkq BK656) hb); replace HB := bwb HB hb; (try clear hb); (try clear hb2); (try clear hk); (try clear hi); (try clear ho0); (try clear ho1)) | ((with_reducible refine gate_dst (N := 10) rfl ?_); refine bxe (cs := #[.slice none 0 0, .slice none 0 0]) (t := 44) ?_; intro gb663 hg w157 hbox hb; replace HO640 := Aside0.mk (Kd.S_below (Sq HO640.out) hb); replace HO648 := Aside0.mk (Kd.R_below (Rq HO648.out) hb); replace HO651 := Aside0.mk (Kd.R_below (Rq HO651.out) hb); replace HO655 := Aside0.mk (Kd.S_below (Sq HO655.out) hb); replace HO659 := Aside0.mk (Kd.R_below (Rq HO659.out) hb); replace HO662 := Aside0.mk (Kd.R_below (Rq HO662.out) hb); have BK663 := Aside0.mk (hbox); have GW663 := bwz HB hg; have GE663 := bwz HB hg; replace HB := bwb HB hb; have NB633_663 := bkl BK633 hg; have NB663_633 := bkg BK633 hg; replace BK633 := bkb BK633 hb; have NB634_663 := bkl BK634 hg; have NB663_634 := bkg BK634 hg; replace BK634 := bkb BK634 hb; have NB635_663 := bkl BK635 hg; have NB663_635 := bkg BK635 hg; replace BK635 := bkb BK635 hb; have NB656_663 := bkl BK656 hg; have NB663_656 := bkg BK656 hg; replace BK656 := bkb BK656 hb; clear hb hbox hg; obtain ⟨Ao158, co158, eo158⟩ := Kd.R_slice HO659.out; subst eo158; have hnb159 := NB663_633.out; have hnc159 := NB633_663.out; have hnb160 := NB663_634.out; have hnc160 := NB634_663.out; have hnb161 := NB663_635.out; have hnc161 := NB635_663.out; have hnb162 := NB663_656.out; have hnc162 := NB656_663.out; obtain ⟨hcz163, hfz163⟩ := bcf BK663; obtain ⟨Ao164, co164, eo164⟩ := Kd.R_slice HO662.out; subst eo164))
      have n0_ : Aside0 (Kd.S k77 77 ((w157.setCell ⟨gb663, 0, none⟩ (.slice Ao158 t657.length co158)).setCell ⟨gb663, 1, none⟩ (.slice Ao164 t660.length co164)) w.heap.size (fun k_ => some k_ ≠ (.slice Ao150 t653.length co150 : Value).ownBlock) (.slice Ao143 t638.length co143) t638) := Sset2 HO640 BK663 (fun _ hk => hk.2)
      have n1_ : Aside0 (Kd.R Kd.bool 4 ((w157.setCell ⟨gb663, 0, none⟩ (.slice Ao158 t657.length co158)).setCell ⟨gb663, 1, none⟩ (.slice Ao164 t660.length co164)) w.heap.size (fun k_ => some k_ ≠ (.slice Ao145 t649.length co145 : Value).ownBlock ∧ some k_ ≠ (.slice Ao158 t657.length co158 : Value).ownBlock ∧ some k_ ≠ (.slice Ao164 t660.length co164 : Value).ownBlock) (.slice Ao144 t646.length co144) t646) := Rset2 HO648 BK663 (fun _ hk => ⟨hk.1.1, ⟨hk.1.2, hk.2⟩⟩)
      have n2_ : Aside0 (Kd.R Kd.bool 4 ((w157.setCell ⟨gb663, 0, none⟩ (.slice Ao158 t657.length co158)).setCell ⟨gb663, 1, none⟩ (.slice Ao164 t660.length co164)) w.heap.size (fun k_ => some k_ ≠ (.slice Ao144 t646.length co144 : Value).ownBlock ∧ some k_ ≠ (.slice Ao158 t657.length co158 : Value).ownBlock ∧ some k_ ≠ (.slice Ao164 t660.length co164 : Value).ownBlock) (.slice Ao145 t649.length co145) t649) := Rset2 HO651 BK663 (fun _ hk => ⟨hk.1.1, ⟨hk.1.2, hk.2⟩⟩)
      have n3_ : Aside0 (Kd.S k77 77 ((w157.setCell ⟨gb663, 0, none⟩ (.slice Ao158 t657.length co158)).setCell ⟨gb663, 1, none⟩ (.slice Ao164 t660.length co164)) w.heap.size (fun k_ => some k_ ≠ (.slice Ao143 t638.length co143 : Value).ownBlock) (.slice Ao150 t653.length co150) t653) := Sset2 HO655 BK663 (fun _ hk => hk.2)
      have n4_ : Aside0 (Kd.R Kd.bool 4 ((w157.setCell ⟨gb663, 0, none⟩ (.slice Ao158 t657.length co158)).setCell ⟨gb663, 1, none⟩ (.slice Ao164 t660.length co164)) w.heap.size (fun k_ => some k_ ≠ (.slice Ao144 t646.length co144 : Value).ownBlock ∧ some k_ ≠ (.slice Ao145 t649.length co145 : Value).ownBlock ∧ some k_ ≠ (.slice Ao164 t660.length co164 : Value).ownBlock) (.slice Ao158 t657.length co158) t657) := Rset2 HO659 BK663 (fun _ hk => ⟨hk.1.2, ⟨hk.2, hk.1.1⟩⟩)
      have n5_ : Aside0 (Kd.R Kd.bool 4 ((w157.setCell ⟨gb663, 0, none⟩ (.slice Ao158 t657.length co158)).setCell ⟨gb663, 1, none⟩ (.slice Ao164 t660.length co164)) w.heap.size (fun k_ => some k_ ≠ (.slice Ao144 t646.length co144 : Value).ownBlock ∧ some k_ ≠ (.slice Ao145 t649.length co145 : Value).ownBlock ∧ some k_ ≠ (.slice Ao158 t657.length co158 : Value).ownBlock) (.slice Ao164 t660.length co164) t660) := Rset2 HO662 BK663 (fun _ hk => ⟨hk.1.2, ⟨hk.2, hk.1.1⟩⟩)
      have n6_ : Aside0 (((w157.setCell ⟨gb663, 0, none⟩ (.slice Ao158 t657.length co158)).setCell ⟨gb663, 1, none⟩ (.slice Ao164 t660.length co164)).heap[gb633]? = some (.cells #[.slice A0_0 l0_0.length c0_0] 24 (0, 0))) := ⟨by (with_reducible repeat (first | refine blk_drewN ?_ _ | refine blk_drew ?_ | refine blk_alloc ?_ _)); refine blk_far ?_ NB633_663.out _; (with_reducible repeat (first | refine blk_drewN ?_ _ | refine blk_drew ?_ | refine blk_alloc ?_ _)); refine blk_far ?_ NB633_663.out _; exact bkq BK633⟩
      have n7_ : Aside0 (((w157.setCell ⟨gb663, 0, none⟩ (.slice Ao158 t657.length co158)).setCell ⟨gb663, 1, none⟩ (.slice Ao164 t660.length co164)).heap[gb634]? = some (.cells #[.int .i64 a1_0, .int .i64 a1_1, .int .i64 a1_2, .int .i64 a1_3, .int .i64 a1_4] 28 (0, 0))) := ⟨by (with_reducible repeat (first | refine blk_drewN ?_ _ | refine blk_drew ?_ | refine blk_alloc ?_ _)); refine blk_far ?_ NB634_663.out _; (with_reducible repeat (first | refine blk_drewN ?_ _ | refine blk_drew ?_ | refine blk_alloc ?_ _)); refine blk_far ?_ NB634_663.out _; exact bkq BK634⟩
      have n8_ : Aside0 (((w157.setCell ⟨gb663, 0, none⟩ (.slice Ao158 t657.length co158)).setCell ⟨gb663, 1, none⟩ (.slice Ao164 t660.length co164)).heap[gb635]? = some (.cells #[.slice A2_0 l2_0.length c2_0, .slice A2_1 l2_1.length c2_1] 31 (0, 0))) := ⟨by (with_reducible repeat (first | refine blk_drewN ?_ _ | refine blk_drew ?_ | refine blk_alloc ?_ _)); refine blk_far ?_ NB635_663.out _; (with_reducible repeat (first | refine blk_drewN ?_ _ | refine blk_drew ?_ | refine blk_alloc ?_ _)); refine blk_far ?_ NB635_663.out _; exact bkq BK635⟩
      have n9_ : Aside0 (((w157.setCell ⟨gb663, 0, none⟩ (.slice Ao158 t657.length co158)).setCell ⟨gb663, 1, none⟩ (.slice Ao164 t660.length co164)).heap[gb656]? = some (.cells #[.slice Ao150 t653.length co150] 38 (0, 0))) := ⟨by (with_reducible repeat (first | refine blk_drewN ?_ _ | refine blk_drew ?_ | refine blk_alloc ?_ _)); refine blk_far ?_ NB656_663.out _; (with_reducible repeat (first | refine blk_drewN ?_ _ | refine blk_drew ?_ | refine blk_alloc ?_ _)); refine blk_far ?_ NB656_663.out _; exact bkq BK656⟩
      have n10_ : Aside0 (((w157.setCell ⟨gb663, 0, none⟩ (.slice Ao158 t657.length co158)).setCell ⟨gb663, 1, none⟩ (.slice Ao164 t660.length co164)).heap[gb663]? = some (.cells #[.slice Ao158 t657.length co158, .slice Ao164 t660.length co164] 44 (0, 0))) := ⟨by (with_reducible repeat (first | refine blk_drewN ?_ _ | refine blk_drew ?_ | refine blk_alloc ?_ _)); refine blk_put (cs := #[.slice Ao158 t657.length co158, .slice none 0 0]) ?_ 1 _ rfl; (with_reducible repeat (first | refine blk_drewN ?_ _ | refine blk_drew ?_ | refine blk_alloc ?_ _)); refine blk_put (cs := #[.slice none 0 0, .slice none 0 0]) ?_ 0 _ rfl; exact bkq BK663⟩
      have n11_ : Aside0 (Below w.heap.size w ((w157.setCell ⟨gb663, 0, none⟩ (.slice Ao158 t657.length co158)).setCell ⟨gb663, 1, none⟩ (.slice Ao164 t660.length co164))) := ⟨bwq HB⟩
      (try clear HO640)
      (try clear HO648)
      (try clear HO651)
      (try clear HO655)
      (try clear HO659)
      (try clear HO662)
      (try clear BK633)
      (try clear BK634)
      (try clear BK635)
      (try clear BK656)
      (try clear BK663)
      (try clear HB)
      generalize ((w157.setCell ⟨gb663, 0, none⟩ (.slice Ao158 t657.length co158)).setCell ⟨gb663, 1, none⟩ (.slice Ao164 t660.length co164)) = w165 at n0_ n1_ n2_ n3_ n4_ n5_ n6_ n7_ n8_ n9_ n10_ n11_ ⊢
      have HO640 := n0_
      have HO648 := n1_
      have HO651 := n2_
      have HO655 := n3_
      have HO659 := n4_
      have HO662 := n5_
      have BK633 := n6_
      have BK634 := n7_
      have BK635 := n8_
      have BK656 := n9_
      have BK663 := n10_
      have HB := n11_
      clear n0_ n1_ n2_ n3_ n4_ n5_ n6_ n7_ n8_ n9_ n10_ n11_
      replace HO640 := Aside0.mk (Kd.S_drew HO640.out)
      replace HO648 := Aside0.mk (Kd.R_drew HO648.out)
      replace HO651 := Aside0.mk (Kd.R_drew HO651.out)
      replace HO655 := Aside0.mk (Kd.S_drew HO655.out)
      replace HO659 := Aside0.mk (Kd.R_drew HO659.out)
      replace HO662 := Aside0.mk (Kd.R_drew HO662.out)
      replace BK633 := Aside0.mk (blk_drew BK633.out)
      replace BK634 := Aside0.mk (blk_drew BK634.out)
      replace BK635 := Aside0.mk (blk_drew BK635.out)
      replace BK656 := Aside0.mk (blk_drew BK656.out)
      replace BK663 := Aside0.mk (blk_drew BK663.out)
      replace HB := Aside0.mk (below_drew1 HB.out)
      refine start_ (n := 6) (S := fun w' => w'.cell? ⟨gb656, 0, none⟩ = some (.slice Ao150 t653.length co150) ∧ w'.cell? ⟨gb634, 0, none⟩ = some (.int .i64 a1_0) ∧ w'.cell? ⟨gb634, 1, none⟩ = some (.int .i64 a1_1) ∧ w'.cell? ⟨gb634, 2, none⟩ = some (.int .i64 a1_2) ∧ w'.cell? ⟨gb634, 3, none⟩ = some (.int .i64 a1_3) ∧ w'.cell? ⟨gb634, 4, none⟩ = some (.int .i64 a1_4) ∧ w'.cell? ⟨gb663, 0, none⟩ = some (.slice Ao158 t657.length co158) ∧ w'.cell? ⟨gb663, 1, none⟩ = some (.slice Ao164 t660.length co164)) (ds := []) #[false, false, false, false, false, false] (by kernel_rfl) rfl rfl ⟨(blk_cell BK656.out 0).trans rfl, (blk_cell BK634.out 0).trans rfl, (blk_cell BK634.out 1).trans rfl, (blk_cell BK634.out 2).trans rfl, (blk_cell BK634.out 3).trans rfl, (blk_cell BK634.out 4).trans rfl, (blk_cell BK663.out 0).trans rfl, (blk_cell BK663.out 1).trans rfl⟩ (fun hHeld => ?_)
      generalize w165.drew = w166 at HO640 HO648 HO651 HO655 HO659 HO662 BK633 BK634 BK635 BK656 BK663 HB hHeld ⊢
      refine take_ (i := 0) (N := some 33) (v := ?_) (a' := ?_) #[true, false, false, false, false, false] rfl rfl (by kernel_rfl) (fun _ _ _ h => h) (Or.inl ⟨by rfl, ?_⟩) hHeld ?_ ?_
      rotate_left
      ·rintro w' ⟨s0, s1, s2, s3, s4, s5, s6, s7⟩
       go_simp
       with_reducible rfl
      rotate_left
      ·simp only [Act.put, List.setIfInBounds_toArray, List.set_cons_zero, List.set_cons_succ, i64_w, i32_w]
       rfl
      refine take_ (i := 1) (N := some 34) (v := ?_) (a' := ?_) #[true, true, false, false, false, false] rfl rfl (by kernel_rfl) (fun _ _ _ h => h) (Or.inl ⟨by rfl, ?_⟩) hHeld ?_ ?_
      rotate_left
      ·rintro w' ⟨s0, s1, s2, s3, s4, s5, s6, s7⟩
       go_simp
       with_reducible rfl
      rotate_left
      ·simp only [Act.put, List.setIfInBounds_toArray, List.set_cons_zero, List.set_cons_succ, i64_w, i32_w]
       rfl
      refine take_ (i := 3) (N := some 36) (v := ?_) (a' := ?_) #[true, true, false, true, false, false] rfl rfl (by kernel_rfl) (fun _ _ _ h => h) (Or.inl ⟨by rfl, ?_⟩) hHeld ?_ ?_
      rotate_left
      ·rintro w' ⟨s0, s1, s2, s3, s4, s5, s6, s7⟩
       go_simp
       with_reducible rfl
      rotate_left
      ·simp only [Act.put, List.setIfInBounds_toArray, List.set_cons_zero, List.set_cons_succ, i64_w, i32_w]
       rfl
      refine one_ (i := 2) (N := some 35) #[true, true, true, true, false, false] rfl rfl (by kernel_rfl) (by decide) (fun K hK => ?_)
      refine goesS Try.func15 #[.agg #[.int .i64 a1_0, .int .i64 a1_1, .int .i64 a1_2, .int .i64 a1_3, .int .i64 a1_4]] rfl rfl ?_
      with_reducible refine (laws_toExpr.calls a1_0 a1_1 a1_2 a1_3 a1_4 t664 t665 t666 t667 t668 _ A31.out).mono ?_
      rintro e w167 ⟨rfl, hb⟩
      refine ⟨_, rfl, ?_⟩
      replace HO640 := Aside0.mk (Kd.S_below (Sq HO640.out) hb)
      replace HO648 := Aside0.mk (Kd.R_below (Rq HO648.out) hb)
      replace HO651 := Aside0.mk (Kd.R_below (Rq HO651.out) hb)
      replace HO655 := Aside0.mk (Kd.S_below (Sq HO655.out) hb)
      replace HO659 := Aside0.mk (Kd.R_below (Rq HO659.out) hb)
      replace HO662 := Aside0.mk (Kd.R_below (Rq HO662.out) hb)
      replace BK633 := bkb BK633 hb
      replace BK634 := bkb BK634 hb
      replace BK635 := bkb BK635 hb
      replace BK656 := bkb BK656 hb
      replace BK663 := bkb BK663 hb
      replace HB := bwb HB hb
      (try clear hb)
      (try clear hb2)
      (try clear hk)
      (try clear hi)
      refine hK.out _ _ ⟨(blk_cell BK656.out 0).trans rfl, (blk_cell BK634.out 0).trans rfl, (blk_cell BK634.out 1).trans rfl, (blk_cell BK634.out 2).trans rfl, (blk_cell BK634.out 3).trans rfl, (blk_cell BK634.out 4).trans rfl, (blk_cell BK663.out 0).trans rfl, (blk_cell BK663.out 1).trans rfl⟩ (fun hHeld => ?_)
      clear hK K
      refine norm_ (a' := ?_) ?_ ?_
      rotate_left
      ·show Act.put _ (some 35) _ = _
       simp only [Act.put, List.setIfInBounds_toArray, List.set_cons_zero, List.set_cons_succ, i64_w, i32_w]
       rfl
      refine one_ (i := 4) (N := some 37) #[true, true, true, true, true, false] rfl rfl (by kernel_rfl) (by decide) (fun K hK => ?_)
      refine goesS Try.func30 #[.agg #[.slice Ao150 t653.length co150], .agg #[.int .i64 t664, .int .i64 t665, .int .i64 t666, .int .i64 t667, .int .i64 t668], .agg #[.slice Ao158 t657.length co158, .slice Ao164 t660.length co164]] rfl rfl ?_
      with_reducible refine (impl_PlaceOk.calls _ _ t653 t664 t665 t666 t667 t668 _ _ t657 _ _ t660 t669 _ ?side1 ?side2 ?side3 ?side4 ?side5 ?side6 A32.out).mono ?_
      (case side1 => repeat (first | exact (Kd.S_reads' HO655.out).2.2 | (with_reducible refine Kd.C_alloc ?_ _) | (with_reducible refine Kd.C_drewN ?_ _) | (with_reducible refine Kd.C_drew ?_)))
      (case side2 => exact (Kd.S_reads' HO655.out).2.1)
      (case side3 => repeat (first | exact (Kd.R_reads' HO659.out).2.2 | (with_reducible refine Kd.C_alloc ?_ _) | (with_reducible refine Kd.C_drewN ?_ _) | (with_reducible refine Kd.C_drew ?_)))
      (case side4 => exact (Kd.R_reads' HO659.out).2.1)
      (case side5 => repeat (first | exact (Kd.R_reads' HO662.out).2.2 | (with_reducible refine Kd.C_alloc ?_ _) | (with_reducible refine Kd.C_drewN ?_ _) | (with_reducible refine Kd.C_drew ?_)))
      (case side6 => exact (Kd.R_reads' HO662.out).2.1)
      rintro e w168 ⟨rfl, hb⟩
      refine ⟨_, rfl, ?_⟩
      replace HO640 := Aside0.mk (Kd.S_below (Sq HO640.out) hb)
      replace HO648 := Aside0.mk (Kd.R_below (Rq HO648.out) hb)
      replace HO651 := Aside0.mk (Kd.R_below (Rq HO651.out) hb)
      replace HO655 := Aside0.mk (Kd.S_below (Sq HO655.out) hb)
      replace HO659 := Aside0.mk (Kd.R_below (Rq HO659.out) hb)
      replace HO662 := Aside0.mk (Kd.R_below (Rq HO662.out) hb)
      replace BK633 := bkb BK633 hb
      replace BK634 := bkb BK634 hb
      replace BK635 := bkb BK635 hb
      replace BK656 := bkb BK656 hb
      replace BK663 := bkb BK663 hb
      replace HB := bwb HB hb
      (try clear hb)
      (try clear hb2)
      (try clear hk)
      (try clear hi)
      refine hK.out _ _ ⟨(blk_cell BK656.out 0).trans rfl, (blk_cell BK634.out 0).trans rfl, (blk_cell BK634.out 1).trans rfl, (blk_cell BK634.out 2).trans rfl, (blk_cell BK634.out 3).trans rfl, (blk_cell BK634.out 4).trans rfl, (blk_cell BK663.out 0).trans rfl, (blk_cell BK663.out 1).trans rfl⟩ (fun hHeld => ?_)
      clear hK K
      refine norm_ (a' := ?_) ?_ ?_
      rotate_left
      ·show Act.put _ (some 37) _ = _
       simp only [Act.put, List.setIfInBounds_toArray, List.set_cons_zero, List.set_cons_succ, i64_w, i32_w]
       rfl
      refine pure_ (i := 5) (N := some 11) (v := ?_) (a' := ?_) #[true, true, true, true, true, true] rfl rfl (by kernel_rfl) (fun _ _ _ h => h) (Or.inl ⟨by rfl, ?_⟩) ?_ ?_
      rotate_left
      ·intro w'
       go_simp
       with_reducible rfl
      rotate_left
      ·simp only [Act.put, List.setIfInBounds_toArray, List.set_cons_zero, List.set_cons_succ, i64_w, i32_w]
       rfl
      refine done_ (by kernel_rfl) ?_
      try go_wp2
      replace HO640 := Aside0.mk (Kd.S_drew HO640.out)
      replace HO648 := Aside0.mk (Kd.R_drew HO648.out)
      replace HO651 := Aside0.mk (Kd.R_drew HO651.out)
      replace HO655 := Aside0.mk (Kd.S_drew HO655.out)
      replace HO659 := Aside0.mk (Kd.R_drew HO659.out)
      replace HO662 := Aside0.mk (Kd.R_drew HO662.out)
      replace BK633 := Aside0.mk (blk_drew BK633.out)
      replace BK634 := Aside0.mk (blk_drew BK634.out)
      replace BK635 := Aside0.mk (blk_drew BK635.out)
      replace BK656 := Aside0.mk (blk_drew BK656.out)
      replace BK663 := Aside0.mk (blk_drew BK663.out)
      replace HB := Aside0.mk (below_drew1 HB.out)
      refine start_ (n := 5) (S := fun w' => w'.cell? ⟨gb656, 0, none⟩ = some (.slice Ao150 t653.length co150) ∧ w'.cell? ⟨gb633, 0, none⟩ = some (.slice A0_0 l0_0.length c0_0)) (ds := []) #[false, false, false, false, false] (by kernel_rfl) rfl rfl ⟨(blk_cell BK656.out 0).trans rfl, (blk_cell BK633.out 0).trans rfl⟩ (fun hHeld => ?_)
      generalize w168.drew = w169 at HO640 HO648 HO651 HO655 HO659 HO662 BK633 BK634 BK635 BK656 BK663 HB hHeld ⊢
      refine take_ (i := 0) (N := some 41) (v := ?_) (a' := ?_) #[true, false, false, false, false] rfl rfl (by kernel_rfl) (fun _ _ _ h => h) (Or.inl ⟨by rfl, ?_⟩) hHeld ?_ ?_
      rotate_left
      ·rintro w' ⟨s0, s1⟩
       go_simp
       with_reducible rfl
      rotate_left
      ·simp only [Act.put, List.setIfInBounds_toArray, List.set_cons_zero, List.set_cons_succ, i64_w, i32_w]
       rfl
      refine take_ (i := 1) (N := some 42) (v := ?_) (a' := ?_) #[true, true, false, false, false] rfl rfl (by kernel_rfl) (fun _ _ _ h => h) (Or.inl ⟨by rfl, ?_⟩) hHeld ?_ ?_
      rotate_left
      ·rintro w' ⟨s0, s1⟩
       go_simp
       with_reducible rfl
      rotate_left
      ·simp only [Act.put, List.setIfInBounds_toArray, List.set_cons_zero, List.set_cons_succ, i64_w, i32_w]
       rfl
      refine one_ (i := 2) (N := some 43) #[true, true, true, false, false] rfl rfl (by kernel_rfl) (by decide) (fun K hK => ?_)
      refine goesS Try.func14 #[.agg #[.slice A0_0 l0_0.length c0_0]] rfl rfl ?_
      with_reducible refine (laws_toProg.calls k _ _ l0_0 t670 _ ?side1 ?side2 A74.out).mono ?_
      (case side1 => exact Cq (Kd.C_below HR0_0.out HB.out))
      (case side2 => exact HC0_0.out)
      rintro e w170 ⟨v671, rfl, ho0, hb⟩
      refine ⟨_, rfl, ?_⟩
      replace HO648 := Aside0.mk (Kd.R_below (Rq HO648.out) hb)
      replace HO651 := Aside0.mk (Kd.R_below (Rq HO651.out) hb)
      replace HO659 := Aside0.mk (Kd.R_below (Rq HO659.out) hb)
      replace HO662 := Aside0.mk (Kd.R_below (Rq HO662.out) hb)
      have HO672 := Aside0.mk (Kd.S_lower (Kd.S_new' (Kd.S_new' ho0 (Kd.S_lt (Sq HO640.out))) (Kd.S_lt (Sq HO655.out))) (below_size (bwq HB)))
      replace HO640 := Aside0.mk (Kd.S_elder' (Sq HO640.out) (Kd.S_base ho0) hb)
      replace HO655 := Aside0.mk (Kd.S_elder' (Sq HO655.out) (Kd.S_base ho0) hb)
      replace BK633 := bkb BK633 hb
      replace BK634 := bkb BK634 hb
      replace BK635 := bkb BK635 hb
      replace BK656 := bkb BK656 hb
      replace BK663 := bkb BK663 hb
      replace HB := bwb HB hb
      (try clear hb)
      (try clear hb2)
      (try clear hk)
      (try clear hi)
      (try clear ho0)
      obtain ⟨Ao171, co171, eo171⟩ := Kd.S_slice HO672.out
      (first | subst eo171 | (injection eo171 with f1_ f2_ f3_; have f4_ := f1_.symm; have f5_ := f3_.symm; clear f1_ f2_ f3_; subst f4_; subst f5_))
      refine hK.out _ _ ⟨(blk_cell BK656.out 0).trans rfl, (blk_cell BK633.out 0).trans rfl⟩ (fun hHeld => ?_)
      clear hK K
      refine norm_ (a' := ?_) ?_ ?_
      rotate_left
      ·show Act.put _ (some 43) _ = _
       simp only [Act.put, List.setIfInBounds_toArray, List.set_cons_zero, List.set_cons_succ, i64_w, i32_w]
       rfl
      refine one_ (i := 3) (N := some 44) #[true, true, true, true, false] rfl rfl (by kernel_rfl) (by decide) (fun K hK => ?_)
      refine goesS Try.func19 #[.agg #[.slice Ao150 t653.length co150], .agg #[.slice Ao171 t670.length co171]] rfl rfl ?_
      with_reducible refine (laws_eqProg.calls k _ _ t653 _ _ t670 true _ ?side1 ?side2 ?side3 ?side4 A75.out).mono ?_
      (case side1 => repeat (first | exact (Kd.S_reads' HO655.out).2.2 | (with_reducible refine Kd.C_alloc ?_ _) | (with_reducible refine Kd.C_drewN ?_ _) | (with_reducible refine Kd.C_drew ?_)))
      (case side2 => exact (Kd.S_reads' HO655.out).2.1)
      (case side3 => repeat (first | exact (Kd.S_reads' HO672.out).2.2 | (with_reducible refine Kd.C_alloc ?_ _) | (with_reducible refine Kd.C_drewN ?_ _) | (with_reducible refine Kd.C_drew ?_)))
      (case side4 => exact (Kd.S_reads' HO672.out).2.1)
      rintro e w172 ⟨rfl, hb⟩
      refine ⟨_, rfl, ?_⟩
      replace HO640 := Aside0.mk (Kd.S_below (Sq HO640.out) hb)
      replace HO648 := Aside0.mk (Kd.R_below (Rq HO648.out) hb)
      replace HO651 := Aside0.mk (Kd.R_below (Rq HO651.out) hb)
      replace HO655 := Aside0.mk (Kd.S_below (Sq HO655.out) hb)
      replace HO659 := Aside0.mk (Kd.R_below (Rq HO659.out) hb)
      replace HO662 := Aside0.mk (Kd.R_below (Rq HO662.out) hb)
      replace HO672 := Aside0.mk (Kd.S_below (Sq HO672.out) hb)
      replace BK633 := bkb BK633 hb
      replace BK634 := bkb BK634 hb
      replace BK635 := bkb BK635 hb
      replace BK656 := bkb BK656 hb
      replace BK663 := bkb BK663 hb
      replace HB := bwb HB hb
      (try clear hb)
      (try clear hb2)
      (try clear hk)
      (try clear hi)
      refine hK.out _ _ ⟨(blk_cell BK656.out 0).trans rfl, (blk_cell BK633.out 0).trans rfl⟩ (fun hHeld => ?_)
      clear hK K
      refine norm_ (a' := ?_) ?_ ?_
      rotate_left
      ·show Act.put _ (some 44) _ = _
       simp only [Act.put, List.setIfInBounds_toArray, List.set_cons_zero, List.set_cons_succ, i64_w, i32_w]
       rfl
      refine pure_ (i := 4) (N := some 45) (v := ?_) (a' := ?_) #[true, true, true, true, true] rfl rfl (by kernel_rfl) (fun _ _ _ h => h) (Or.inl ⟨by rfl, ?_⟩) ?_ ?_
      rotate_left
      ·intro w'
       go_simp
       with_reducible rfl
      rotate_left
      ·simp only [Act.put, List.setIfInBounds_toArray, List.set_cons_zero, List.set_cons_succ, i64_w, i32_w]
       rfl
      refine done_ (by kernel_rfl) ?_
      try go_wp2
      replace HO640 := Aside0.mk (Kd.S_drew HO640.out)
      replace HO648 := Aside0.mk (Kd.R_drew HO648.out)
      replace HO651 := Aside0.mk (Kd.R_drew HO651.out)
      replace HO655 := Aside0.mk (Kd.S_drew HO655.out)
      replace HO659 := Aside0.mk (Kd.R_drew HO659.out)
      replace HO662 := Aside0.mk (Kd.R_drew HO662.out)
      replace HO672 := Aside0.mk (Kd.S_drew HO672.out)
      replace BK633 := Aside0.mk (blk_drew BK633.out)
      replace BK634 := Aside0.mk (blk_drew BK634.out)
      replace BK635 := Aside0.mk (blk_drew BK635.out)
      replace BK656 := Aside0.mk (blk_drew BK656.out)
      replace BK663 := Aside0.mk (blk_drew BK663.out)
      replace HB := Aside0.mk (below_drew1 HB.out)
      refine start_ (n := 5) (S := fun w' => w'.cell? ⟨gb663, 0, none⟩ = some (.slice Ao158 t657.length co158) ∧ w'.cell? ⟨gb663, 1, none⟩ = some (.slice Ao164 t660.length co164) ∧ w'.cell? ⟨gb635, 0, none⟩ = some (.slice A2_0 l2_0.length c2_0) ∧ w'.cell? ⟨gb635, 1, none⟩ = some (.slice A2_1 l2_1.length c2_1)) (ds := []) #[false, false, false, false, false] (by kernel_rfl) rfl rfl ⟨(blk_cell BK663.out 0).trans rfl, (blk_cell BK663.out 1).trans rfl, (blk_cell BK635.out 0).trans rfl, (blk_cell BK635.out 1).trans rfl⟩ (fun hHeld => ?_)
      generalize w172.drew = w173 at HO640 HO648 HO651 HO655 HO659 HO662 HO672 BK633 BK634 BK635 BK656 BK663 HB hHeld ⊢
      refine take_ (i := 0) (N := some 46) (v := ?_) (a' := ?_) #[true, false, false, false, false] rfl rfl (by kernel_rfl) (fun _ _ _ h => h) (Or.inl ⟨by rfl, ?_⟩) hHeld ?_ ?_
      rotate_left
      ·rintro w' ⟨s0, s1, s2, s3⟩
       go_simp
       with_reducible rfl
      rotate_left
      ·simp only [Act.put, List.setIfInBounds_toArray, List.set_cons_zero, List.set_cons_succ, i64_w, i32_w]
       rfl
      refine take_ (i := 1) (N := some 47) (v := ?_) (a' := ?_) #[true, true, false, false, false] rfl rfl (by kernel_rfl) (fun _ _ _ h => h) (Or.inl ⟨by rfl, ?_⟩) hHeld ?_ ?_
      rotate_left
      ·rintro w' ⟨s0, s1, s2, s3⟩
       go_simp
       with_reducible rfl
      rotate_left
      ·simp only [Act.put, List.setIfInBounds_toArray, List.set_cons_zero, List.set_cons_succ, i64_w, i32_w]
       rfl
      refine one_ (i := 2) (N := some 48) #[true, true, true, false, false] rfl rfl (by kernel_rfl) (by decide) (fun K hK => ?_)
      refine goesS Try.func16 #[.agg #[.slice A2_0 l2_0.length c2_0, .slice A2_1 l2_1.length c2_1]] rfl rfl ?_
      with_reducible refine (laws_toPlace.calls k _ _ l2_0 _ _ l2_1 t674 t677 _ ?side1 ?side2 ?side3 ?side4 A77.out).mono ?_
      (case side1 => exact Cq (Kd.C_below HR2_0.out HB.out))
      (case side2 => exact HC2_0.out)
      (case side3 => exact Cq (Kd.C_below HR2_1.out HB.out))
      (case side4 => exact HC2_1.out)
      rintro e w174 ⟨v675, v678, rfl, ho0, ho1, hb⟩
      refine ⟨_, rfl, ?_⟩
      replace HO640 := Aside0.mk (Kd.S_below (Sq HO640.out) hb)
      replace HO655 := Aside0.mk (Kd.S_below (Sq HO655.out) hb)
      replace HO672 := Aside0.mk (Kd.S_below (Sq HO672.out) hb)
      have HO676 := Aside0.mk (Kd.R_lower (Kd.R_new' (Kd.R_new' (Kd.R_new' (Kd.R_new' ho0 (Kd.R_lt (Rq HO648.out))) (Kd.R_lt (Rq HO651.out))) (Kd.R_lt (Rq HO659.out))) (Kd.R_lt (Rq HO662.out))) (below_size (bwq HB)))
      have HO679 := Aside0.mk (Kd.R_lower (Kd.R_new' (Kd.R_new' (Kd.R_new' (Kd.R_new' ho1 (Kd.R_lt (Rq HO648.out))) (Kd.R_lt (Rq HO651.out))) (Kd.R_lt (Rq HO659.out))) (Kd.R_lt (Rq HO662.out))) (below_size (bwq HB)))
      replace HO648 := Aside0.mk (Kd.R_mono (Kd.R_told (Kd.R_told (Kd.R_old (Rq HO648.out) hb) (Kd.R_base ho0)) (Kd.R_base ho1)) (fun _ h_ => h_.1))
      replace HO651 := Aside0.mk (Kd.R_mono (Kd.R_told (Kd.R_told (Kd.R_old (Rq HO651.out) hb) (Kd.R_base ho0)) (Kd.R_base ho1)) (fun _ h_ => h_.1))
      replace HO659 := Aside0.mk (Kd.R_mono (Kd.R_told (Kd.R_told (Kd.R_old (Rq HO659.out) hb) (Kd.R_base ho0)) (Kd.R_base ho1)) (fun _ h_ => h_.1))
      replace HO662 := Aside0.mk (Kd.R_mono (Kd.R_told (Kd.R_told (Kd.R_old (Rq HO662.out) hb) (Kd.R_base ho0)) (Kd.R_base ho1)) (fun _ h_ => h_.1))
      replace BK633 := bkb BK633 hb
      replace BK634 := bkb BK634 hb
      replace BK635 := bkb BK635 hb
      replace BK656 := bkb BK656 hb
      replace BK663 := bkb BK663 hb
      replace HB := bwb HB hb
      (try clear hb)
      (try clear hb2)
      (try clear hk)
      (try clear hi)
      (try clear ho0)
      (try clear ho1)
      obtain ⟨Ao175, co175, eo175⟩ := Kd.R_slice HO676.out
      (first | subst eo175 | (injection eo175 with f1_ f2_ f3_; have f4_ := f1_.symm; have f5_ := f3_.symm; clear f1_ f2_ f3_; subst f4_; subst f5_))
      obtain ⟨Ao176, co176, eo176⟩ := Kd.R_slice HO679.out
      (first | subst eo176 | (injection eo176 with f1_ f2_ f3_; have f4_ := f1_.symm; have f5_ := f3_.symm; clear f1_ f2_ f3_; subst f4_; subst f5_))
      refine hK.out _ _ ⟨(blk_cell BK663.out 0).trans rfl, (blk_cell BK663.out 1).trans rfl, (blk_cell BK635.out 0).trans rfl, (blk_cell BK635.out 1).trans rfl⟩ (fun hHeld => ?_)
      clear hK K
      refine norm_ (a' := ?_) ?_ ?_
      rotate_left
      ·show Act.put _ (some 48) _ = _
       simp only [Act.put, List.setIfInBounds_toArray, List.set_cons_zero, List.set_cons_succ, i64_w, i32_w]
       rfl
      refine one_ (i := 3) (N := some 49) #[true, true, true, true, false] rfl rfl (by kernel_rfl) (by decide) (fun K hK => ?_)
      refine goesS Try.func20 #[.agg #[.slice Ao158 t657.length co158, .slice Ao164 t660.length co164], .agg #[.slice Ao175 t674.length co175, .slice Ao176 t677.length co176]] rfl rfl ?_
      with_reducible refine (laws_eqPlace.calls k _ _ t657 _ _ t660 _ _ t674 _ _ t677 false _ ?side1 ?side2 ?side3 ?side4 ?side5 ?side6 ?side7 ?side8 A78.out).mono ?_
      (case side1 => repeat (first | exact (Kd.R_reads' HO659.out).2.2 | (with_reducible refine Kd.C_alloc ?_ _) | (with_reducible refine Kd.C_drewN ?_ _) | (with_reducible refine Kd.C_drew ?_)))
      (case side2 => exact (Kd.R_reads' HO659.out).2.1)
      (case side3 => repeat (first | exact (Kd.R_reads' HO662.out).2.2 | (with_reducible refine Kd.C_alloc ?_ _) | (with_reducible refine Kd.C_drewN ?_ _) | (with_reducible refine Kd.C_drew ?_)))
      (case side4 => exact (Kd.R_reads' HO662.out).2.1)
      (case side5 => repeat (first | exact (Kd.R_reads' HO676.out).2.2 | (with_reducible refine Kd.C_alloc ?_ _) | (with_reducible refine Kd.C_drewN ?_ _) | (with_reducible refine Kd.C_drew ?_)))
      (case side6 => exact (Kd.R_reads' HO676.out).2.1)
      (case side7 => repeat (first | exact (Kd.R_reads' HO679.out).2.2 | (with_reducible refine Kd.C_alloc ?_ _) | (with_reducible refine Kd.C_drewN ?_ _) | (with_reducible refine Kd.C_drew ?_)))
      (case side8 => exact (Kd.R_reads' HO679.out).2.1)
      rintro e w177 ⟨rfl, hb⟩
      refine ⟨_, rfl, ?_⟩
      replace HO640 := Aside0.mk (Kd.S_below (Sq HO640.out) hb)
      replace HO648 := Aside0.mk (Kd.R_below (Rq HO648.out) hb)
      replace HO651 := Aside0.mk (Kd.R_below (Rq HO651.out) hb)
      replace HO655 := Aside0.mk (Kd.S_below (Sq HO655.out) hb)
      replace HO659 := Aside0.mk (Kd.R_below (Rq HO659.out) hb)
      replace HO662 := Aside0.mk (Kd.R_below (Rq HO662.out) hb)
      replace HO672 := Aside0.mk (Kd.S_below (Sq HO672.out) hb)
      replace HO676 := Aside0.mk (Kd.R_below (Rq HO676.out) hb)
      replace HO679 := Aside0.mk (Kd.R_below (Rq HO679.out) hb)
      replace BK633 := bkb BK633 hb
      replace BK634 := bkb BK634 hb
      replace BK635 := bkb BK635 hb
      replace BK656 := bkb BK656 hb
      replace BK663 := bkb BK663 hb
      replace HB := bwb HB hb
      (try clear hb)
      (try clear hb2)
      (try clear hk)
      (try clear hi)
      refine hK.out _ _ ⟨(blk_cell BK663.out 0).trans rfl, (blk_cell BK663.out 1).trans rfl, (blk_cell BK635.out 0).trans rfl, (blk_cell BK635.out 1).trans rfl⟩ (fun hHeld => ?_)
      clear hK K
      refine norm_ (a' := ?_) ?_ ?_
      rotate_left
      ·show Act.put _ (some 49) _ = _
       simp only [Act.put, List.setIfInBounds_toArray, List.set_cons_zero, List.set_cons_succ, i64_w, i32_w]
       rfl
      refine pure_ (i := 4) (N := some 50) (v := ?_) (a' := ?_) #[true, true, true, true, true] rfl rfl (by kernel_rfl) (fun _ _ _ h => h) (Or.inl ⟨by rfl, ?_⟩) ?_ ?_
      rotate_left
      ·intro w'
       go_simp
       with_reducible rfl
      rotate_left
      ·simp only [Act.put, List.setIfInBounds_toArray, List.set_cons_zero, List.set_cons_succ, i64_w, i32_w]
       rfl
      refine done_ (by kernel_rfl) ?_
      try go_wp2
      go_ret
      exact ⟨by first | rfl | (simp [errW_none, errW_some] <;> rfl) | (simp [*, errW_none, errW_some] <;> rfl), bwq HB⟩
    ·replace c76 := Bool.eq_false_iff.mpr c76
     subst c76
     have H1 : (some false) = some r := by rw [if_neg (show ¬ (false = true) by decide)] at H; exact H
     clear H
     have H := H1
     clear H1
     obtain rfl := Option.some.inj H
     go_enter Try.func5, Try.ntmps5
     try go_wp2_with (first | ((with_reducible refine gate_dst (N := 3) rfl ?_); refine bxe (cs := #[.slice A0_0 l0_0.length c0_0]) (t := 24) ?_; intro gb633 hg w178 hbox hb; have BK633 := Aside0.mk (hbox); have GW633 := bwz HB hg; have GE633 := bwz HB hg; replace HB := bwb HB hb; clear hb hbox hg) | ((with_reducible refine gate_dst (N := 4) rfl ?_); refine bxe (cs := #[.int .i64 a1_0, .int .i64 a1_1, .int .i64 a1_2, .int .i64 a1_3, .int .i64 a1_4]) (t := 28) ?_; intro gb634 hg w179 hbox hb; have BK634 := Aside0.mk (hbox); have GW634 := bwz HB hg; have GE634 := bwz HB hg; replace HB := bwb HB hb; have NB633_634 := bkl BK633 hg; have NB634_633 := bkg BK633 hg; replace BK633 := bkb BK633 hb; clear hb hbox hg) | ((with_reducible refine gate_dst (N := 5) rfl ?_); refine bxe (cs := #[.slice A2_0 l2_0.length c2_0, .slice A2_1 l2_1.length c2_1]) (t := 31) ?_; intro gb635 hg w180 hbox hb; have BK635 := Aside0.mk (hbox); have GW635 := bwz HB hg; have GE635 := bwz HB hg; replace HB := bwb HB hb; have NB633_635 := bkl BK633 hg; have NB635_633 := bkg BK633 hg; replace BK633 := bkb BK633 hb; have NB634_635 := bkl BK634 hg; have NB635_634 := bkg BK634 hg; replace BK634 := bkb BK634 hb; clear hb hbox hg; have hnb181 := NB633_634.out; have hnc181 := NB634_633.out; have hnb182 := NB633_635.out; have hnc182 := NB635_633.out; obtain ⟨hcz183, hfz183⟩ := bcf BK633) | ((with_reducible refine gate_callee (f := 11) rfl ?_); refine goesM (some 14) rfl rfl Try.func11 #[.agg #[.slice A0_0 l0_0.length c0_0], .int .i64 1048576] rfl ?_; (with_reducible refine (laws_szProg.calls k _ _ l0_0 1048576 t636 _ ?side1 ?side2 A4.out).mono ?_); (case side1 => exact Cq (Kd.C_below HR0_0.out HB.out)); (case side2 => exact HC0_0.out); rintro e w184 ⟨rfl, hb⟩; refine ⟨_, rfl, ?_⟩; replace BK633 := bkb BK633 hb; replace BK634 := bkb BK634 hb; replace BK635 := bkb BK635 hb; replace HB := bwb HB hb; (try clear hb); (try clear hb2); (try clear hk); (try clear hi); have hnb185 := NB635_634.out; have hnc185 := NB634_635.out; obtain ⟨hcz186, hfz186⟩ := bcf BK635) | ((with_reducible refine gate_callee (f := 12) rfl ?_); refine goesM (some 19) rfl rfl Try.func12 #[.agg #[.slice A2_0 l2_0.length c2_0, .slice A2_1 l2_1.length c2_1], .int .i64 t636] rfl ?_; (with_reducible refine (laws_szPlace.calls _ _ l2_0 _ _ l2_1 t636 t637 _ ?side1 ?side2 ?side3 ?side4 A13.out).mono ?_); (case side1 => exact Cq (Kd.C_below HR2_0.out HB.out)); (case side2 => exact HC2_0.out); (case side3 => exact Cq (Kd.C_below HR2_1.out HB.out)); (case side4 => exact HC2_1.out); rintro e w187 ⟨rfl, hb⟩; refine ⟨_, rfl, ?_⟩; replace BK633 := bkb BK633 hb; replace BK634 := bkb BK634 hb; replace BK635 := bkb BK635 hb; replace HB := bwb HB hb; (try clear hb); (try clear hb2); (try clear hk); (try clear hi)))
     replace BK633 := Aside0.mk (blk_drew BK633.out)
     replace BK634 := Aside0.mk (blk_drew BK634.out)
     replace BK635 := Aside0.mk (blk_drew BK635.out)
     replace HB := Aside0.mk (below_drew1 HB.out)
     refine start_ (n := 8) (S := fun w' => w'.cell? ⟨gb633, 0, none⟩ = some (.slice A0_0 l0_0.length c0_0) ∧ w'.cell? ⟨gb634, 0, none⟩ = some (.int .i64 a1_0) ∧ w'.cell? ⟨gb634, 1, none⟩ = some (.int .i64 a1_1) ∧ w'.cell? ⟨gb634, 2, none⟩ = some (.int .i64 a1_2) ∧ w'.cell? ⟨gb634, 3, none⟩ = some (.int .i64 a1_3) ∧ w'.cell? ⟨gb634, 4, none⟩ = some (.int .i64 a1_4) ∧ w'.cell? ⟨gb635, 0, none⟩ = some (.slice A2_0 l2_0.length c2_0) ∧ w'.cell? ⟨gb635, 1, none⟩ = some (.slice A2_1 l2_1.length c2_1)) (ds := []) #[false, false, false, false, false, false, false, false] (by kernel_rfl) rfl rfl ⟨(blk_cell BK633.out 0).trans rfl, (blk_cell BK634.out 0).trans rfl, (blk_cell BK634.out 1).trans rfl, (blk_cell BK634.out 2).trans rfl, (blk_cell BK634.out 3).trans rfl, (blk_cell BK634.out 4).trans rfl, (blk_cell BK635.out 0).trans rfl, (blk_cell BK635.out 1).trans rfl⟩ (fun hHeld => ?_); refine with_tabW laws_FnExactPlaceOk.tab8 laws_FnExactPlaceOk.bits8 (fun HT_ HW_ => ?_)
     generalize w187.drew = w188 at BK633 BK634 BK635 HB hHeld ⊢
     refine take_ (i := 0) (N := some 22) (v := ?_) (a' := ?_) #[true, false, false, false, false, false, false, false] rfl rfl (take_ofW HT_.out HW_.out (by kernel_rfl)) (fun _ _ _ h => h) (Or.inl ⟨by rfl, ?_⟩) hHeld ?_ ?_
     rotate_left
     ·rintro w' ⟨s0, s1, s2, s3, s4, s5, s6, s7⟩
      go_simp
      with_reducible rfl
     rotate_left
     ·simp only [Act.put, List.setIfInBounds_toArray, List.set_cons_zero, List.set_cons_succ, i64_w, i32_w]
      rfl
     refine take_ (i := 2) (N := some 24) (v := ?_) (a' := ?_) #[true, false, true, false, false, false, false, false] rfl rfl (take_ofW HT_.out HW_.out (by kernel_rfl)) (fun _ _ _ h => h) (Or.inl ⟨by rfl, ?_⟩) hHeld ?_ ?_
     rotate_left
     ·rintro w' ⟨s0, s1, s2, s3, s4, s5, s6, s7⟩
      go_simp
      with_reducible rfl
     rotate_left
     ·simp only [Act.put, List.setIfInBounds_toArray, List.set_cons_zero, List.set_cons_succ, i64_w, i32_w]
      rfl
     refine take_ (i := 4) (N := some 26) (v := ?_) (a' := ?_) #[true, false, true, false, true, false, false, false] rfl rfl (take_ofW HT_.out HW_.out (by kernel_rfl)) (fun _ _ _ h => h) (Or.inl ⟨by rfl, ?_⟩) hHeld ?_ ?_
     rotate_left
     ·rintro w' ⟨s0, s1, s2, s3, s4, s5, s6, s7⟩
      go_simp
      with_reducible rfl
     rotate_left
     ·simp only [Act.put, List.setIfInBounds_toArray, List.set_cons_zero, List.set_cons_succ, i64_w, i32_w]
      rfl
     refine one_ (i := 1) (N := some 23) #[true, true, true, false, true, false, false, false] rfl rfl (one_of HT_.out (by kernel_rfl)) (by decide) (fun K hK => ?_)
     refine goesS Try.func14 #[.agg #[.slice A0_0 l0_0.length c0_0]] rfl rfl ?_
     with_reducible refine (laws_toProg.calls k _ _ l0_0 t638 _ ?side1 ?side2 A25.out).mono ?_
     (case side1 => exact Cq (Kd.C_below HR0_0.out HB.out))
     (case side2 => exact HC0_0.out)
     rintro e w189 ⟨v639, rfl, ho0, hb⟩
     refine ⟨_, rfl, ?_⟩
     have HO640 := Aside0.mk (Kd.S_lower ho0 (below_size (bwq HB)))
     replace BK633 := bkb BK633 hb
     replace BK634 := bkb BK634 hb
     replace BK635 := bkb BK635 hb
     replace HB := bwb HB hb
     (try clear hb)
     (try clear hb2)
     (try clear hk)
     (try clear hi)
     (try clear ho0)
     refine hK.out _ _ ⟨(blk_cell BK633.out 0).trans rfl, (blk_cell BK634.out 0).trans rfl, (blk_cell BK634.out 1).trans rfl, (blk_cell BK634.out 2).trans rfl, (blk_cell BK634.out 3).trans rfl, (blk_cell BK634.out 4).trans rfl, (blk_cell BK635.out 0).trans rfl, (blk_cell BK635.out 1).trans rfl⟩ (fun hHeld => ?_)
     clear hK K
     refine norm_ (a' := ?_) ?_ ?_
     rotate_left
     ·show Act.put _ (some 23) _ = _
      simp only [Act.put, List.setIfInBounds_toArray, List.set_cons_zero, List.set_cons_succ, i64_w, i32_w]
      rfl
     refine one_ (i := 3) (N := some 25) #[true, true, true, true, true, false, false, false] rfl rfl (one_of HT_.out (by kernel_rfl)) (by decide) (fun K hK => ?_)
     refine goesS Try.func15 #[.agg #[.int .i64 a1_0, .int .i64 a1_1, .int .i64 a1_2, .int .i64 a1_3, .int .i64 a1_4]] rfl rfl ?_
     with_reducible refine (laws_toExpr.calls a1_0 a1_1 a1_2 a1_3 a1_4 t641 t642 t643 t644 t645 _ A26.out).mono ?_
     rintro e w190 ⟨rfl, hb⟩
     refine ⟨_, rfl, ?_⟩
     replace HO640 := Aside0.mk (Kd.S_below (Sq HO640.out) hb)
     replace BK633 := bkb BK633 hb
     replace BK634 := bkb BK634 hb
     replace BK635 := bkb BK635 hb
     replace HB := bwb HB hb
     (try clear hb)
     (try clear hb2)
     (try clear hk)
     (try clear hi)
     refine hK.out _ _ ⟨(blk_cell BK633.out 0).trans rfl, (blk_cell BK634.out 0).trans rfl, (blk_cell BK634.out 1).trans rfl, (blk_cell BK634.out 2).trans rfl, (blk_cell BK634.out 3).trans rfl, (blk_cell BK634.out 4).trans rfl, (blk_cell BK635.out 0).trans rfl, (blk_cell BK635.out 1).trans rfl⟩ (fun hHeld => ?_)
     clear hK K
     refine norm_ (a' := ?_) ?_ ?_
     rotate_left
     ·show Act.put _ (some 25) _ = _
      simp only [Act.put, List.setIfInBounds_toArray, List.set_cons_zero, List.set_cons_succ, i64_w, i32_w]
      rfl
     refine one_ (i := 5) (N := some 27) #[true, true, true, true, true, true, false, false] rfl rfl (one_of HT_.out (by kernel_rfl)) (by decide) (fun K hK => ?_)
     refine goesS Try.func16 #[.agg #[.slice A2_0 l2_0.length c2_0, .slice A2_1 l2_1.length c2_1]] rfl rfl ?_
     with_reducible refine (laws_toPlace.calls k _ _ l2_0 _ _ l2_1 t646 t649 _ ?side1 ?side2 ?side3 ?side4 A27.out).mono ?_
     (case side1 => exact Cq (Kd.C_below HR2_0.out HB.out))
     (case side2 => exact HC2_0.out)
     (case side3 => exact Cq (Kd.C_below HR2_1.out HB.out))
     (case side4 => exact HC2_1.out)
     rintro e w191 ⟨v647, v650, rfl, ho0, ho1, hb⟩
     refine ⟨_, rfl, ?_⟩
     replace HO640 := Aside0.mk (Kd.S_below (Sq HO640.out) hb)
     have HO648 := Aside0.mk (Kd.R_lower ho0 (below_size (bwq HB)))
     have HO651 := Aside0.mk (Kd.R_lower ho1 (below_size (bwq HB)))
     replace BK633 := bkb BK633 hb
     replace BK634 := bkb BK634 hb
     replace BK635 := bkb BK635 hb
     replace HB := bwb HB hb
     (try clear hb)
     (try clear hb2)
     (try clear hk)
     (try clear hi)
     (try clear ho0)
     (try clear ho1)
     obtain ⟨Ao192, co192, eo192⟩ := Kd.S_slice HO640.out
     (first | subst eo192 | (injection eo192 with f1_ f2_ f3_; have f4_ := f1_.symm; have f5_ := f3_.symm; clear f1_ f2_ f3_; subst f4_; subst f5_))
     obtain ⟨Ao193, co193, eo193⟩ := Kd.R_slice HO648.out
     (first | subst eo193 | (injection eo193 with f1_ f2_ f3_; have f4_ := f1_.symm; have f5_ := f3_.symm; clear f1_ f2_ f3_; subst f4_; subst f5_))
     obtain ⟨Ao194, co194, eo194⟩ := Kd.R_slice HO651.out
     (first | subst eo194 | (injection eo194 with f1_ f2_ f3_; have f4_ := f1_.symm; have f5_ := f3_.symm; clear f1_ f2_ f3_; subst f4_; subst f5_))
     refine hK.out _ _ ⟨(blk_cell BK633.out 0).trans rfl, (blk_cell BK634.out 0).trans rfl, (blk_cell BK634.out 1).trans rfl, (blk_cell BK634.out 2).trans rfl, (blk_cell BK634.out 3).trans rfl, (blk_cell BK634.out 4).trans rfl, (blk_cell BK635.out 0).trans rfl, (blk_cell BK635.out 1).trans rfl⟩ (fun hHeld => ?_)
     clear hK K
     refine norm_ (a' := ?_) ?_ ?_
     rotate_left
     ·show Act.put _ (some 27) _ = _
      simp only [Act.put, List.setIfInBounds_toArray, List.set_cons_zero, List.set_cons_succ, i64_w, i32_w]
      rfl
     refine one_ (i := 6) (N := some 28) #[true, true, true, true, true, true, true, false] rfl rfl (one_of HT_.out (by kernel_rfl)) (by decide) (fun K hK => ?_)
     refine goesS Try.func29 #[.agg #[.slice Ao192 t638.length co192], .agg #[.int .i64 t641, .int .i64 t642, .int .i64 t643, .int .i64 t644, .int .i64 t645], .agg #[.slice Ao193 t646.length co193, .slice Ao194 t649.length co194]] rfl rfl ?_
     with_reducible refine (spec_PlaceOk.calls k _ _ t638 t641 t642 t643 t644 t645 _ _ t646 _ _ t649 t652 _ ?side1 ?side2 ?side3 ?side4 ?side5 ?side6 A28.out).mono ?_
     (case side1 => repeat (first | exact (Kd.S_reads' HO640.out).2.2 | (with_reducible refine Kd.C_alloc ?_ _) | (with_reducible refine Kd.C_drewN ?_ _) | (with_reducible refine Kd.C_drew ?_)))
     (case side2 => exact (Kd.S_reads' HO640.out).2.1)
     (case side3 => repeat (first | exact (Kd.R_reads' HO648.out).2.2 | (with_reducible refine Kd.C_alloc ?_ _) | (with_reducible refine Kd.C_drewN ?_ _) | (with_reducible refine Kd.C_drew ?_)))
     (case side4 => exact (Kd.R_reads' HO648.out).2.1)
     (case side5 => repeat (first | exact (Kd.R_reads' HO651.out).2.2 | (with_reducible refine Kd.C_alloc ?_ _) | (with_reducible refine Kd.C_drewN ?_ _) | (with_reducible refine Kd.C_drew ?_)))
     (case side6 => exact (Kd.R_reads' HO651.out).2.1)
     rintro e w195 ⟨rfl, hb⟩
     refine ⟨_, rfl, ?_⟩
     replace HO640 := Aside0.mk (Kd.S_below (Sq HO640.out) hb)
     replace HO648 := Aside0.mk (Kd.R_below (Rq HO648.out) hb)
     replace HO651 := Aside0.mk (Kd.R_below (Rq HO651.out) hb)
     replace BK633 := bkb BK633 hb
     replace BK634 := bkb BK634 hb
     replace BK635 := bkb BK635 hb
     replace HB := bwb HB hb
     (try clear hb)
     (try clear hb2)
     (try clear hk)
     (try clear hi)
     refine hK.out _ _ ⟨(blk_cell BK633.out 0).trans rfl, (blk_cell BK634.out 0).trans rfl, (blk_cell BK634.out 1).trans rfl, (blk_cell BK634.out 2).trans rfl, (blk_cell BK634.out 3).trans rfl, (blk_cell BK634.out 4).trans rfl, (blk_cell BK635.out 0).trans rfl, (blk_cell BK635.out 1).trans rfl⟩ (fun hHeld => ?_)
     clear hK K
     refine norm_ (a' := ?_) ?_ ?_
     rotate_left
     ·show Act.put _ (some 28) _ = _
      simp only [Act.put, List.setIfInBounds_toArray, List.set_cons_zero, List.set_cons_succ, i64_w, i32_w]
      rfl
     refine pure_ (i := 7) (N := some 8) (v := ?_) (a' := ?_) #[true, true, true, true, true, true, true, true] rfl rfl (any_of HT_.out (by kernel_rfl)) (fun _ _ _ h => h) (Or.inl ⟨by rfl, ?_⟩) ?_ ?_
     rotate_left
     ·intro w'
      go_simp
      with_reducible rfl
     rotate_left
     ·simp only [Act.put, List.setIfInBounds_toArray, List.set_cons_zero, List.set_cons_succ, i64_w, i32_w]
      rfl
     refine done_ (done_of HT_.out (by kernel_rfl)) ?_
     obtain ⟨hcz196, hfz196⟩ := bcf BK633
     try go_wp2_with (first | ((with_reducible refine gate_callee (f := 14) rfl ?_); refine goesM (some 30) rfl rfl Try.func14 #[.agg #[.slice A0_0 l0_0.length c0_0]] rfl ?_; (with_reducible refine (laws_toProg.calls k _ _ l0_0 t653 _ ?side1 ?side2 A29.out).mono ?_); (case side1 => exact Cq (Kd.C_below HR0_0.out HB.out)); (case side2 => exact HC0_0.out); rintro e w197 ⟨v654, rfl, ho0, hb⟩; refine ⟨_, rfl, ?_⟩; replace HO648 := Aside0.mk (Kd.R_below (Rq HO648.out) hb); replace HO651 := Aside0.mk (Kd.R_below (Rq HO651.out) hb); have HO655 := Aside0.mk (Kd.S_lower (Kd.S_new' ho0 (Kd.S_lt (Sq HO640.out))) (below_size (bwq HB))); replace HO640 := Aside0.mk (Kd.S_elder' (Sq HO640.out) (Kd.S_base ho0) hb); replace BK633 := bkb BK633 hb; replace BK634 := bkb BK634 hb; replace BK635 := bkb BK635 hb; replace HB := bwb HB hb; (try clear hb); (try clear hb2); (try clear hk); (try clear hi); (try clear ho0)) | ((with_reducible refine gate_dst (N := 9) rfl ?_); refine bxe (cs := #[.slice none 0 0]) (t := 38) ?_; intro gb656 hg w198 hbox hb; replace HO640 := Aside0.mk (Kd.S_below (Sq HO640.out) hb); replace HO648 := Aside0.mk (Kd.R_below (Rq HO648.out) hb); replace HO651 := Aside0.mk (Kd.R_below (Rq HO651.out) hb); replace HO655 := Aside0.mk (Kd.S_below (Sq HO655.out) hb); have BK656 := Aside0.mk (hbox); have GW656 := bwz HB hg; have GE656 := bwz HB hg; replace HB := bwb HB hb; have NB633_656 := bkl BK633 hg; have NB656_633 := bkg BK633 hg; replace BK633 := bkb BK633 hb; have NB634_656 := bkl BK634 hg; have NB656_634 := bkg BK634 hg; replace BK634 := bkb BK634 hb; have NB635_656 := bkl BK635 hg; have NB656_635 := bkg BK635 hg; replace BK635 := bkb BK635 hb; clear hb hbox hg; obtain ⟨Ao199, co199, eo199⟩ := Kd.S_slice HO655.out; subst eo199; have hnb200 := NB656_633.out; have hnc200 := NB633_656.out; have hnb201 := NB656_634.out; have hnc201 := NB634_656.out; have hnb202 := NB656_635.out; have hnc202 := NB635_656.out; obtain ⟨hcz203, hfz203⟩ := bcf BK656; obtain ⟨hcz204, hfz204⟩ := bcf BK635) | ((with_reducible refine gate_callee (f := 16) rfl ?_); refine goesM (some 32) rfl rfl Try.func16 #[.agg #[.slice A2_0 l2_0.length c2_0, .slice A2_1 l2_1.length c2_1]] rfl ?_; (with_reducible refine (laws_toPlace.calls k _ _ l2_0 _ _ l2_1 t657 t660 _ ?side1 ?side2 ?side3 ?side4 A30.out).mono ?_); (case side1 => exact Kd.C_below HR2_0.out (bwq HB)); (case side2 => exact HC2_0.out); (case side3 => exact Kd.C_below HR2_1.out (bwq HB)); (case side4 => exact HC2_1.out); rintro e w205 ⟨v658, v661, rfl, ho0, ho1, hb⟩; refine ⟨_, rfl, ?_⟩; replace HO640 := Aside0.mk (Kd.S_below (by (with_reducible repeat (first | apply Kd.S_alloc | apply Kd.S_drewN | apply Kd.S_drew)); exact (Kd.S_mono (Kd.S_far (p := ⟨gb656, 0, none⟩) (Kd.S_types HO640.out BK656.out (by decide)) (fun _ hk => hk.2) (.slice Ao199 t653.length co199)) (fun _ h_ => h_.1))) hb); replace HO655 := Aside0.mk (Kd.S_below (by (with_reducible repeat (first | apply Kd.S_alloc | apply Kd.S_drewN | apply Kd.S_drew)); exact (Kd.S_mono (Kd.S_far (p := ⟨gb656, 0, none⟩) (Kd.S_types HO655.out BK656.out (by decide)) (fun _ hk => hk.2) (.slice Ao199 t653.length co199)) (fun _ h_ => h_.1))) hb); have HO659 := Aside0.mk (Kd.R_lower (Kd.R_new' (Kd.R_new' ho0 (Kd.R_lt (by (with_reducible repeat (first | apply Kd.R_alloc | apply Kd.R_drewN | apply Kd.R_drew)); exact (Kd.R_mono (Kd.R_far (p := ⟨gb656, 0, none⟩) (Kd.R_types HO648.out BK656.out (by decide)) (fun _ hk => hk.2) (.slice Ao199 t653.length co199)) (fun _ h_ => h_.1))))) (Kd.R_lt (by (with_reducible repeat (first | apply Kd.R_alloc | apply Kd.R_drewN | apply Kd.R_drew)); exact (Kd.R_mono (Kd.R_far (p := ⟨gb656, 0, none⟩) (Kd.R_types HO651.out BK656.out (by decide)) (fun _ hk => hk.2) (.slice Ao199 t653.length co199)) (fun _ h_ => h_.1))))) (below_size (bwq HB))); have HO662 := Aside0.mk (Kd.R_lower (Kd.R_new' (Kd.R_new' ho1 (Kd.R_lt (by (with_reducible repeat (first | apply Kd.R_alloc | apply Kd.R_drewN | apply Kd.R_drew)); exact (Kd.R_mono (Kd.R_far (p := ⟨gb656, 0, none⟩) (Kd.R_types HO648.out BK656.out (by decide)) (fun _ hk => hk.2) (.slice Ao199 t653.length co199)) (fun _ h_ => h_.1))))) (Kd.R_lt (by (with_reducible repeat (first | apply Kd.R_alloc | apply Kd.R_drewN | apply Kd.R_drew)); exact (Kd.R_mono (Kd.R_far (p := ⟨gb656, 0, none⟩) (Kd.R_types HO651.out BK656.out (by decide)) (fun _ hk => hk.2) (.slice Ao199 t653.length co199)) (fun _ h_ => h_.1))))) (below_size (bwq HB))); replace HO648 := Aside0.mk (Kd.R_mono (Kd.R_told (Kd.R_told (Kd.R_old (by (with_reducible repeat (first | apply Kd.R_alloc | apply Kd.R_drewN | apply Kd.R_drew)); exact (Kd.R_mono (Kd.R_far (p := ⟨gb656, 0, none⟩) (Kd.R_types HO648.out BK656.out (by decide)) (fun _ hk => hk.2) (.slice Ao199 t653.length co199)) (fun _ h_ => h_.1))) hb) (Kd.R_base ho0)) (Kd.R_base ho1)) (fun _ h_ => h_.1)); replace HO651 := Aside0.mk (Kd.R_mono (Kd.R_told (Kd.R_told (Kd.R_old (by (with_reducible repeat (first | apply Kd.R_alloc | apply Kd.R_drewN | apply Kd.R_drew)); exact (Kd.R_mono (Kd.R_far (p := ⟨gb656, 0, none⟩) (Kd.R_types HO651.out BK656.out (by decide)) (fun _ hk => hk.2) (.slice Ao199 t653.length co199)) (fun _ h_ => h_.1))) hb) (Kd.R_base ho0)) (Kd.R_base ho1)) (fun _ h_ => h_.1)); replace BK633 := Aside0.mk (blk_below (g := gb633) (o := .cells #[.slice A0_0 l0_0.length c0_0] 24 (0, 0)) (by (with_reducible repeat (first | refine blk_drewN ?_ _ | refine blk_drew ?_ | refine blk_alloc ?_ _)); refine blk_far ?_ NB633_656.out _; exact bkq BK633) hb); replace BK634 := Aside0.mk (blk_below (g := gb634) (o := .cells #[.int .i64 a1_0, .int .i64 a1_1, .int .i64 a1_2, .int .i64 a1_3, .int .i64 a1_4] 28 (0, 0)) (by (with_reducible repeat (first | refine blk_drewN ?_ _ | refine blk_drew ?_ | refine blk_alloc ?_ _)); refine blk_far ?_ NB634_656.out _; exact bkq BK634) hb); replace BK635 := Aside0.mk (blk_below (g := gb635) (o := .cells #[.slice A2_0 l2_0.length c2_0, .slice A2_1 l2_1.length c2_1] 31 (0, 0)) (by (with_reducible repeat (first | refine blk_drewN ?_ _ | refine blk_drew ?_ | refine blk_alloc ?_ _)); refine blk_far ?_ NB635_656.out _; exact bkq BK635) hb); replace BK656 := Aside0.mk (blk_below (g := gb656) (o := .cells #[.slice Ao199 t653.length co199] 38 (0, 0)) (by (with_reducible repeat (first | refine blk_drewN ?_ _ | refine blk_drew ?_ | refine blk_alloc ?_ _)); refine blk_put (cs := #[.slice none 0 0]) ?_ 0 _ rfl; exact bkq BK656) hb); replace HB := bwb HB hb; (try clear hb); (try clear hb2); (try clear hk); (try clear hi); (try clear ho0); (try clear ho1)) | ((with_reducible refine gate_dst (N := 10) rfl ?_); refine bxe (cs := #[.slice none 0 0, .slice none 0 0]) (t := 44) ?_; intro gb663 hg w206 hbox hb; replace HO640 := Aside0.mk (Kd.S_below (Sq HO640.out) hb); replace HO648 := Aside0.mk (Kd.R_below (Rq HO648.out) hb); replace HO651 := Aside0.mk (Kd.R_below (Rq HO651.out) hb); replace HO655 := Aside0.mk (Kd.S_below (Sq HO655.out) hb); replace HO659 := Aside0.mk (Kd.R_below (Rq HO659.out) hb); replace HO662 := Aside0.mk (Kd.R_below (Rq HO662.out) hb); have BK663 := Aside0.mk (hbox); have GW663 := bwz HB hg; have GE663 := bwz HB hg; replace HB := bwb HB hb; have NB633_663 := bkl BK633 hg; have NB663_633 := bkg BK633 hg; replace BK633 := bkb BK633 hb; have NB634_663 := bkl BK634 hg; have NB663_634 := bkg BK634 hg; replace BK634 := bkb BK634 hb; have NB635_663 := bkl BK635 hg; have NB663_635 := bkg BK635 hg; replace BK635 := bkb BK635 hb; have NB656_663 := bkl BK656 hg; have NB663_656 := bkg BK656 hg; replace BK656 := bkb BK656 hb; clear hb hbox hg; obtain ⟨Ao207, co207, eo207⟩ := Kd.R_slice HO659.out; subst eo207; have hnb208 := NB663_633.out; have hnc208 := NB633_663.out; have hnb209 := NB663_634.out; have hnc209 := NB634_663.out; have hnb210 := NB663_635.out; have hnc210 := NB635_663.out; have hnb211 := NB663_656.out; have hnc211 := NB656_663.out; obtain ⟨hcz212, hfz212⟩ := bcf BK663; obtain ⟨Ao213, co213, eo213⟩ := Kd.R_slice HO662.out; subst eo213))
     have n0_ : Aside0 (Kd.S k77 77 ((w206.setCell ⟨gb663, 0, none⟩ (.slice Ao207 t657.length co207)).setCell ⟨gb663, 1, none⟩ (.slice Ao213 t660.length co213)) w.heap.size (fun k_ => some k_ ≠ (.slice Ao199 t653.length co199 : Value).ownBlock) (.slice Ao192 t638.length co192) t638) := Sset2 HO640 BK663 (fun _ hk => hk.2)
     have n1_ : Aside0 (Kd.R Kd.bool 4 ((w206.setCell ⟨gb663, 0, none⟩ (.slice Ao207 t657.length co207)).setCell ⟨gb663, 1, none⟩ (.slice Ao213 t660.length co213)) w.heap.size (fun k_ => some k_ ≠ (.slice Ao194 t649.length co194 : Value).ownBlock ∧ some k_ ≠ (.slice Ao207 t657.length co207 : Value).ownBlock ∧ some k_ ≠ (.slice Ao213 t660.length co213 : Value).ownBlock) (.slice Ao193 t646.length co193) t646) := Rset2 HO648 BK663 (fun _ hk => ⟨hk.1.1, ⟨hk.1.2, hk.2⟩⟩)
     have n2_ : Aside0 (Kd.R Kd.bool 4 ((w206.setCell ⟨gb663, 0, none⟩ (.slice Ao207 t657.length co207)).setCell ⟨gb663, 1, none⟩ (.slice Ao213 t660.length co213)) w.heap.size (fun k_ => some k_ ≠ (.slice Ao193 t646.length co193 : Value).ownBlock ∧ some k_ ≠ (.slice Ao207 t657.length co207 : Value).ownBlock ∧ some k_ ≠ (.slice Ao213 t660.length co213 : Value).ownBlock) (.slice Ao194 t649.length co194) t649) := Rset2 HO651 BK663 (fun _ hk => ⟨hk.1.1, ⟨hk.1.2, hk.2⟩⟩)
     have n3_ : Aside0 (Kd.S k77 77 ((w206.setCell ⟨gb663, 0, none⟩ (.slice Ao207 t657.length co207)).setCell ⟨gb663, 1, none⟩ (.slice Ao213 t660.length co213)) w.heap.size (fun k_ => some k_ ≠ (.slice Ao192 t638.length co192 : Value).ownBlock) (.slice Ao199 t653.length co199) t653) := Sset2 HO655 BK663 (fun _ hk => hk.2)
     have n4_ : Aside0 (Kd.R Kd.bool 4 ((w206.setCell ⟨gb663, 0, none⟩ (.slice Ao207 t657.length co207)).setCell ⟨gb663, 1, none⟩ (.slice Ao213 t660.length co213)) w.heap.size (fun k_ => some k_ ≠ (.slice Ao193 t646.length co193 : Value).ownBlock ∧ some k_ ≠ (.slice Ao194 t649.length co194 : Value).ownBlock ∧ some k_ ≠ (.slice Ao213 t660.length co213 : Value).ownBlock) (.slice Ao207 t657.length co207) t657) := Rset2 HO659 BK663 (fun _ hk => ⟨hk.1.2, ⟨hk.2, hk.1.1⟩⟩)
     have n5_ : Aside0 (Kd.R Kd.bool 4 ((w206.setCell ⟨gb663, 0, none⟩ (.slice Ao207 t657.length co207)).setCell ⟨gb663, 1, none⟩ (.slice Ao213 t660.length co213)) w.heap.size (fun k_ => some k_ ≠ (.slice Ao193 t646.length co193 : Value).ownBlock ∧ some k_ ≠ (.slice Ao194 t649.length co194 : Value).ownBlock ∧ some k_ ≠ (.slice Ao207 t657.length co207 : Value).ownBlock) (.slice Ao213 t660.length co213) t660) := Rset2 HO662 BK663 (fun _ hk => ⟨hk.1.2, ⟨hk.2, hk.1.1⟩⟩)
     have n6_ : Aside0 (((w206.setCell ⟨gb663, 0, none⟩ (.slice Ao207 t657.length co207)).setCell ⟨gb663, 1, none⟩ (.slice Ao213 t660.length co213)).heap[gb633]? = some (.cells #[.slice A0_0 l0_0.length c0_0] 24 (0, 0))) := ⟨by (with_reducible repeat (first | refine blk_drewN ?_ _ | refine blk_drew ?_ | refine blk_alloc ?_ _)); refine blk_far ?_ NB633_663.out _; (with_reducible repeat (first | refine blk_drewN ?_ _ | refine blk_drew ?_ | refine blk_alloc ?_ _)); refine blk_far ?_ NB633_663.out _; exact bkq BK633⟩
     have n7_ : Aside0 (((w206.setCell ⟨gb663, 0, none⟩ (.slice Ao207 t657.length co207)).setCell ⟨gb663, 1, none⟩ (.slice Ao213 t660.length co213)).heap[gb634]? = some (.cells #[.int .i64 a1_0, .int .i64 a1_1, .int .i64 a1_2, .int .i64 a1_3, .int .i64 a1_4] 28 (0, 0))) := ⟨by (with_reducible repeat (first | refine blk_drewN ?_ _ | refine blk_drew ?_ | refine blk_alloc ?_ _)); refine blk_far ?_ NB634_663.out _; (with_reducible repeat (first | refine blk_drewN ?_ _ | refine blk_drew ?_ | refine blk_alloc ?_ _)); refine blk_far ?_ NB634_663.out _; exact bkq BK634⟩
     have n8_ : Aside0 (((w206.setCell ⟨gb663, 0, none⟩ (.slice Ao207 t657.length co207)).setCell ⟨gb663, 1, none⟩ (.slice Ao213 t660.length co213)).heap[gb635]? = some (.cells #[.slice A2_0 l2_0.length c2_0, .slice A2_1 l2_1.length c2_1] 31 (0, 0))) := ⟨by (with_reducible repeat (first | refine blk_drewN ?_ _ | refine blk_drew ?_ | refine blk_alloc ?_ _)); refine blk_far ?_ NB635_663.out _; (with_reducible repeat (first | refine blk_drewN ?_ _ | refine blk_drew ?_ | refine blk_alloc ?_ _)); refine blk_far ?_ NB635_663.out _; exact bkq BK635⟩
     have n9_ : Aside0 (((w206.setCell ⟨gb663, 0, none⟩ (.slice Ao207 t657.length co207)).setCell ⟨gb663, 1, none⟩ (.slice Ao213 t660.length co213)).heap[gb656]? = some (.cells #[.slice Ao199 t653.length co199] 38 (0, 0))) := ⟨by (with_reducible repeat (first | refine blk_drewN ?_ _ | refine blk_drew ?_ | refine blk_alloc ?_ _)); refine blk_far ?_ NB656_663.out _; (with_reducible repeat (first | refine blk_drewN ?_ _ | refine blk_drew ?_ | refine blk_alloc ?_ _)); refine blk_far ?_ NB656_663.out _; exact bkq BK656⟩
     have n10_ : Aside0 (((w206.setCell ⟨gb663, 0, none⟩ (.slice Ao207 t657.length co207)).setCell ⟨gb663, 1, none⟩ (.slice Ao213 t660.length co213)).heap[gb663]? = some (.cells #[.slice Ao207 t657.length co207, .slice Ao213 t660.length co213] 44 (0, 0))) := ⟨by (with_reducible repeat (first | refine blk_drewN ?_ _ | refine blk_drew ?_ | refine blk_alloc ?_ _)); refine blk_put (cs := #[.slice Ao207 t657.length co207, .slice none 0 0]) ?_ 1 _ rfl; (with_reducible repeat (first | refine blk_drewN ?_ _ | refine blk_drew ?_ | refine blk_alloc ?_ _)); refine blk_put (cs := #[.slice none 0 0, .slice none 0 0]) ?_ 0 _ rfl; exact bkq BK663⟩
     have n11_ : Aside0 (Below w.heap.size w ((w206.setCell ⟨gb663, 0, none⟩ (.slice Ao207 t657.length co207)).setCell ⟨gb663, 1, none⟩ (.slice Ao213 t660.length co213))) := ⟨bwq HB⟩
     (try clear HO640)
     (try clear HO648)
     (try clear HO651)
     (try clear HO655)
     (try clear HO659)
     (try clear HO662)
     (try clear BK633)
     (try clear BK634)
     (try clear BK635)
     (try clear BK656)
     (try clear BK663)
     (try clear HB)
     generalize ((w206.setCell ⟨gb663, 0, none⟩ (.slice Ao207 t657.length co207)).setCell ⟨gb663, 1, none⟩ (.slice Ao213 t660.length co213)) = w214 at n0_ n1_ n2_ n3_ n4_ n5_ n6_ n7_ n8_ n9_ n10_ n11_ ⊢
     have HO640 := n0_
     have HO648 := n1_
     have HO651 := n2_
     have HO655 := n3_
     have HO659 := n4_
     have HO662 := n5_
     have BK633 := n6_
     have BK634 := n7_
     have BK635 := n8_
     have BK656 := n9_
     have BK663 := n10_
     have HB := n11_
     clear n0_ n1_ n2_ n3_ n4_ n5_ n6_ n7_ n8_ n9_ n10_ n11_
     replace HO640 := Aside0.mk (Kd.S_drew HO640.out)
     replace HO648 := Aside0.mk (Kd.R_drew HO648.out)
     replace HO651 := Aside0.mk (Kd.R_drew HO651.out)
     replace HO655 := Aside0.mk (Kd.S_drew HO655.out)
     replace HO659 := Aside0.mk (Kd.R_drew HO659.out)
     replace HO662 := Aside0.mk (Kd.R_drew HO662.out)
     replace BK633 := Aside0.mk (blk_drew BK633.out)
     replace BK634 := Aside0.mk (blk_drew BK634.out)
     replace BK635 := Aside0.mk (blk_drew BK635.out)
     replace BK656 := Aside0.mk (blk_drew BK656.out)
     replace BK663 := Aside0.mk (blk_drew BK663.out)
     replace HB := Aside0.mk (below_drew1 HB.out)
     refine start_ (n := 6) (S := fun w' => w'.cell? ⟨gb656, 0, none⟩ = some (.slice Ao199 t653.length co199) ∧ w'.cell? ⟨gb634, 0, none⟩ = some (.int .i64 a1_0) ∧ w'.cell? ⟨gb634, 1, none⟩ = some (.int .i64 a1_1) ∧ w'.cell? ⟨gb634, 2, none⟩ = some (.int .i64 a1_2) ∧ w'.cell? ⟨gb634, 3, none⟩ = some (.int .i64 a1_3) ∧ w'.cell? ⟨gb634, 4, none⟩ = some (.int .i64 a1_4) ∧ w'.cell? ⟨gb663, 0, none⟩ = some (.slice Ao207 t657.length co207) ∧ w'.cell? ⟨gb663, 1, none⟩ = some (.slice Ao213 t660.length co213)) (ds := []) #[false, false, false, false, false, false] (by kernel_rfl) rfl rfl ⟨(blk_cell BK656.out 0).trans rfl, (blk_cell BK634.out 0).trans rfl, (blk_cell BK634.out 1).trans rfl, (blk_cell BK634.out 2).trans rfl, (blk_cell BK634.out 3).trans rfl, (blk_cell BK634.out 4).trans rfl, (blk_cell BK663.out 0).trans rfl, (blk_cell BK663.out 1).trans rfl⟩ (fun hHeld => ?_)
     generalize w214.drew = w215 at HO640 HO648 HO651 HO655 HO659 HO662 BK633 BK634 BK635 BK656 BK663 HB hHeld ⊢
     refine take_ (i := 0) (N := some 33) (v := ?_) (a' := ?_) #[true, false, false, false, false, false] rfl rfl (by kernel_rfl) (fun _ _ _ h => h) (Or.inl ⟨by rfl, ?_⟩) hHeld ?_ ?_
     rotate_left
     ·rintro w' ⟨s0, s1, s2, s3, s4, s5, s6, s7⟩
      go_simp
      with_reducible rfl
     rotate_left
     ·simp only [Act.put, List.setIfInBounds_toArray, List.set_cons_zero, List.set_cons_succ, i64_w, i32_w]
      rfl
     refine take_ (i := 1) (N := some 34) (v := ?_) (a' := ?_) #[true, true, false, false, false, false] rfl rfl (by kernel_rfl) (fun _ _ _ h => h) (Or.inl ⟨by rfl, ?_⟩) hHeld ?_ ?_
     rotate_left
     ·rintro w' ⟨s0, s1, s2, s3, s4, s5, s6, s7⟩
      go_simp
      with_reducible rfl
     rotate_left
     ·simp only [Act.put, List.setIfInBounds_toArray, List.set_cons_zero, List.set_cons_succ, i64_w, i32_w]
      rfl
     refine take_ (i := 3) (N := some 36) (v := ?_) (a' := ?_) #[true, true, false, true, false, false] rfl rfl (by kernel_rfl) (fun _ _ _ h => h) (Or.inl ⟨by rfl, ?_⟩) hHeld ?_ ?_
     rotate_left
     ·rintro w' ⟨s0, s1, s2, s3, s4, s5, s6, s7⟩
      go_simp
      with_reducible rfl
     rotate_left
     ·simp only [Act.put, List.setIfInBounds_toArray, List.set_cons_zero, List.set_cons_succ, i64_w, i32_w]
      rfl
     refine one_ (i := 2) (N := some 35) #[true, true, true, true, false, false] rfl rfl (by kernel_rfl) (by decide) (fun K hK => ?_)
     refine goesS Try.func15 #[.agg #[.int .i64 a1_0, .int .i64 a1_1, .int .i64 a1_2, .int .i64 a1_3, .int .i64 a1_4]] rfl rfl ?_
     with_reducible refine (laws_toExpr.calls a1_0 a1_1 a1_2 a1_3 a1_4 t664 t665 t666 t667 t668 _ A31.out).mono ?_
     rintro e w216 ⟨rfl, hb⟩
     refine ⟨_, rfl, ?_⟩
     replace HO640 := Aside0.mk (Kd.S_below (Sq HO640.out) hb)
     replace HO648 := Aside0.mk (Kd.R_below (Rq HO648.out) hb)
     replace HO651 := Aside0.mk (Kd.R_below (Rq HO651.out) hb)
     replace HO655 := Aside0.mk (Kd.S_below (Sq HO655.out) hb)
     replace HO659 := Aside0.mk (Kd.R_below (Rq HO659.out) hb)
     replace HO662 := Aside0.mk (Kd.R_below (Rq HO662.out) hb)
     replace BK633 := bkb BK633 hb
     replace BK634 := bkb BK634 hb
     replace BK635 := bkb BK635 hb
     replace BK656 := bkb BK656 hb
     replace BK663 := bkb BK663 hb
     replace HB := bwb HB hb
     (try clear hb)
     (try clear hb2)
     (try clear hk)
     (try clear hi)
     refine hK.out _ _ ⟨(blk_cell BK656.out 0).trans rfl, (blk_cell BK634.out 0).trans rfl, (blk_cell BK634.out 1).trans rfl, (blk_cell BK634.out 2).trans rfl, (blk_cell BK634.out 3).trans rfl, (blk_cell BK634.out 4).trans rfl, (blk_cell BK663.out 0).trans rfl, (blk_cell BK663.out 1).trans rfl⟩ (fun hHeld => ?_)
     clear hK K
     refine norm_ (a' := ?_) ?_ ?_
     rotate_left
     ·show Act.put _ (some 35) _ = _
      simp only [Act.put, List.setIfInBounds_toArray, List.set_cons_zero, List.set_cons_succ, i64_w, i32_w]
      rfl
     refine one_ (i := 4) (N := some 37) #[true, true, true, true, true, false] rfl rfl (by kernel_rfl) (by decide) (fun K hK => ?_)
     refine goesS Try.func30 #[.agg #[.slice Ao199 t653.length co199], .agg #[.int .i64 t664, .int .i64 t665, .int .i64 t666, .int .i64 t667, .int .i64 t668], .agg #[.slice Ao207 t657.length co207, .slice Ao213 t660.length co213]] rfl rfl ?_
     with_reducible refine (impl_PlaceOk.calls _ _ t653 t664 t665 t666 t667 t668 _ _ t657 _ _ t660 t669 _ ?side1 ?side2 ?side3 ?side4 ?side5 ?side6 A32.out).mono ?_
     (case side1 => repeat (first | exact (Kd.S_reads' HO655.out).2.2 | (with_reducible refine Kd.C_alloc ?_ _) | (with_reducible refine Kd.C_drewN ?_ _) | (with_reducible refine Kd.C_drew ?_)))
     (case side2 => exact (Kd.S_reads' HO655.out).2.1)
     (case side3 => repeat (first | exact (Kd.R_reads' HO659.out).2.2 | (with_reducible refine Kd.C_alloc ?_ _) | (with_reducible refine Kd.C_drewN ?_ _) | (with_reducible refine Kd.C_drew ?_)))
     (case side4 => exact (Kd.R_reads' HO659.out).2.1)
     (case side5 => repeat (first | exact (Kd.R_reads' HO662.out).2.2 | (with_reducible refine Kd.C_alloc ?_ _) | (with_reducible refine Kd.C_drewN ?_ _) | (with_reducible refine Kd.C_drew ?_)))
     (case side6 => exact (Kd.R_reads' HO662.out).2.1)
     rintro e w217 ⟨rfl, hb⟩
     refine ⟨_, rfl, ?_⟩
     replace HO640 := Aside0.mk (Kd.S_below (Sq HO640.out) hb)
     replace HO648 := Aside0.mk (Kd.R_below (Rq HO648.out) hb)
     replace HO651 := Aside0.mk (Kd.R_below (Rq HO651.out) hb)
     replace HO655 := Aside0.mk (Kd.S_below (Sq HO655.out) hb)
     replace HO659 := Aside0.mk (Kd.R_below (Rq HO659.out) hb)
     replace HO662 := Aside0.mk (Kd.R_below (Rq HO662.out) hb)
     replace BK633 := bkb BK633 hb
     replace BK634 := bkb BK634 hb
     replace BK635 := bkb BK635 hb
     replace BK656 := bkb BK656 hb
     replace BK663 := bkb BK663 hb
     replace HB := bwb HB hb
     (try clear hb)
     (try clear hb2)
     (try clear hk)
     (try clear hi)
     refine hK.out _ _ ⟨(blk_cell BK656.out 0).trans rfl, (blk_cell BK634.out 0).trans rfl, (blk_cell BK634.out 1).trans rfl, (blk_cell BK634.out 2).trans rfl, (blk_cell BK634.out 3).trans rfl, (blk_cell BK634.out 4).trans rfl, (blk_cell BK663.out 0).trans rfl, (blk_cell BK663.out 1).trans rfl⟩ (fun hHeld => ?_)
     clear hK K
     refine norm_ (a' := ?_) ?_ ?_
     rotate_left
     ·show Act.put _ (some 37) _ = _
      simp only [Act.put, List.setIfInBounds_toArray, List.set_cons_zero, List.set_cons_succ, i64_w, i32_w]
      rfl
     refine pure_ (i := 5) (N := some 11) (v := ?_) (a' := ?_) #[true, true, true, true, true, true] rfl rfl (by kernel_rfl) (fun _ _ _ h => h) (Or.inl ⟨by rfl, ?_⟩) ?_ ?_
     rotate_left
     ·intro w'
      go_simp
      with_reducible rfl
     rotate_left
     ·simp only [Act.put, List.setIfInBounds_toArray, List.set_cons_zero, List.set_cons_succ, i64_w, i32_w]
      rfl
     refine done_ (by kernel_rfl) ?_
     try go_wp2
     replace HO640 := Aside0.mk (Kd.S_drew HO640.out)
     replace HO648 := Aside0.mk (Kd.R_drew HO648.out)
     replace HO651 := Aside0.mk (Kd.R_drew HO651.out)
     replace HO655 := Aside0.mk (Kd.S_drew HO655.out)
     replace HO659 := Aside0.mk (Kd.R_drew HO659.out)
     replace HO662 := Aside0.mk (Kd.R_drew HO662.out)
     replace BK633 := Aside0.mk (blk_drew BK633.out)
     replace BK634 := Aside0.mk (blk_drew BK634.out)
     replace BK635 := Aside0.mk (blk_drew BK635.out)
     replace BK656 := Aside0.mk (blk_drew BK656.out)
     replace BK663 := Aside0.mk (blk_drew BK663.out)
     replace HB := Aside0.mk (below_drew1 HB.out)
     refine start_ (n := 5) (S := fun w' => w'.cell? ⟨gb656, 0, none⟩ = some (.slice Ao199 t653.length co199) ∧ w'.cell? ⟨gb633, 0, none⟩ = some (.slice A0_0 l0_0.length c0_0)) (ds := []) #[false, false, false, false, false] (by kernel_rfl) rfl rfl ⟨(blk_cell BK656.out 0).trans rfl, (blk_cell BK633.out 0).trans rfl⟩ (fun hHeld => ?_)
     generalize w217.drew = w218 at HO640 HO648 HO651 HO655 HO659 HO662 BK633 BK634 BK635 BK656 BK663 HB hHeld ⊢
     refine take_ (i := 0) (N := some 41) (v := ?_) (a' := ?_) #[true, false, false, false, false] rfl rfl (by kernel_rfl) (fun _ _ _ h => h) (Or.inl ⟨by rfl, ?_⟩) hHeld ?_ ?_
     rotate_left
     ·rintro w' ⟨s0, s1⟩
      go_simp
      with_reducible rfl
     rotate_left
     ·simp only [Act.put, List.setIfInBounds_toArray, List.set_cons_zero, List.set_cons_succ, i64_w, i32_w]
      rfl
     refine take_ (i := 1) (N := some 42) (v := ?_) (a' := ?_) #[true, true, false, false, false] rfl rfl (by kernel_rfl) (fun _ _ _ h => h) (Or.inl ⟨by rfl, ?_⟩) hHeld ?_ ?_
     rotate_left
     ·rintro w' ⟨s0, s1⟩
      go_simp
      with_reducible rfl
     rotate_left
     ·simp only [Act.put, List.setIfInBounds_toArray, List.set_cons_zero, List.set_cons_succ, i64_w, i32_w]
      rfl
     refine one_ (i := 2) (N := some 43) #[true, true, true, false, false] rfl rfl (by kernel_rfl) (by decide) (fun K hK => ?_)
     refine goesS Try.func14 #[.agg #[.slice A0_0 l0_0.length c0_0]] rfl rfl ?_
     with_reducible refine (laws_toProg.calls k _ _ l0_0 t670 _ ?side1 ?side2 A74.out).mono ?_
     (case side1 => exact Cq (Kd.C_below HR0_0.out HB.out))
     (case side2 => exact HC0_0.out)
     rintro e w219 ⟨v671, rfl, ho0, hb⟩
     refine ⟨_, rfl, ?_⟩
     replace HO648 := Aside0.mk (Kd.R_below (Rq HO648.out) hb)
     replace HO651 := Aside0.mk (Kd.R_below (Rq HO651.out) hb)
     replace HO659 := Aside0.mk (Kd.R_below (Rq HO659.out) hb)
     replace HO662 := Aside0.mk (Kd.R_below (Rq HO662.out) hb)
     have HO672 := Aside0.mk (Kd.S_lower (Kd.S_new' (Kd.S_new' ho0 (Kd.S_lt (Sq HO640.out))) (Kd.S_lt (Sq HO655.out))) (below_size (bwq HB)))
     replace HO640 := Aside0.mk (Kd.S_elder' (Sq HO640.out) (Kd.S_base ho0) hb)
     replace HO655 := Aside0.mk (Kd.S_elder' (Sq HO655.out) (Kd.S_base ho0) hb)
     replace BK633 := bkb BK633 hb
     replace BK634 := bkb BK634 hb
     replace BK635 := bkb BK635 hb
     replace BK656 := bkb BK656 hb
     replace BK663 := bkb BK663 hb
     replace HB := bwb HB hb
     (try clear hb)
     (try clear hb2)
     (try clear hk)
     (try clear hi)
     (try clear ho0)
     obtain ⟨Ao220, co220, eo220⟩ := Kd.S_slice HO672.out
     (first | subst eo220 | (injection eo220 with f1_ f2_ f3_; have f4_ := f1_.symm; have f5_ := f3_.symm; clear f1_ f2_ f3_; subst f4_; subst f5_))
     refine hK.out _ _ ⟨(blk_cell BK656.out 0).trans rfl, (blk_cell BK633.out 0).trans rfl⟩ (fun hHeld => ?_)
     clear hK K
     refine norm_ (a' := ?_) ?_ ?_
     rotate_left
     ·show Act.put _ (some 43) _ = _
      simp only [Act.put, List.setIfInBounds_toArray, List.set_cons_zero, List.set_cons_succ, i64_w, i32_w]
      rfl
     refine one_ (i := 3) (N := some 44) #[true, true, true, true, false] rfl rfl (by kernel_rfl) (by decide) (fun K hK => ?_)
     refine goesS Try.func19 #[.agg #[.slice Ao199 t653.length co199], .agg #[.slice Ao220 t670.length co220]] rfl rfl ?_
     with_reducible refine (laws_eqProg.calls k _ _ t653 _ _ t670 false _ ?side1 ?side2 ?side3 ?side4 A75.out).mono ?_
     (case side1 => repeat (first | exact (Kd.S_reads' HO655.out).2.2 | (with_reducible refine Kd.C_alloc ?_ _) | (with_reducible refine Kd.C_drewN ?_ _) | (with_reducible refine Kd.C_drew ?_)))
     (case side2 => exact (Kd.S_reads' HO655.out).2.1)
     (case side3 => repeat (first | exact (Kd.S_reads' HO672.out).2.2 | (with_reducible refine Kd.C_alloc ?_ _) | (with_reducible refine Kd.C_drewN ?_ _) | (with_reducible refine Kd.C_drew ?_)))
     (case side4 => exact (Kd.S_reads' HO672.out).2.1)
     rintro e w221 ⟨rfl, hb⟩
     refine ⟨_, rfl, ?_⟩
     replace HO640 := Aside0.mk (Kd.S_below (Sq HO640.out) hb)
     replace HO648 := Aside0.mk (Kd.R_below (Rq HO648.out) hb)
     replace HO651 := Aside0.mk (Kd.R_below (Rq HO651.out) hb)
     replace HO655 := Aside0.mk (Kd.S_below (Sq HO655.out) hb)
     replace HO659 := Aside0.mk (Kd.R_below (Rq HO659.out) hb)
     replace HO662 := Aside0.mk (Kd.R_below (Rq HO662.out) hb)
     replace HO672 := Aside0.mk (Kd.S_below (Sq HO672.out) hb)
     replace BK633 := bkb BK633 hb
     replace BK634 := bkb BK634 hb
     replace BK635 := bkb BK635 hb
     replace BK656 := bkb BK656 hb
     replace BK663 := bkb BK663 hb
     replace HB := bwb HB hb
     (try clear hb)
     (try clear hb2)
     (try clear hk)
     (try clear hi)
     refine hK.out _ _ ⟨(blk_cell BK656.out 0).trans rfl, (blk_cell BK633.out 0).trans rfl⟩ (fun hHeld => ?_)
     clear hK K
     refine norm_ (a' := ?_) ?_ ?_
     rotate_left
     ·show Act.put _ (some 44) _ = _
      simp only [Act.put, List.setIfInBounds_toArray, List.set_cons_zero, List.set_cons_succ, i64_w, i32_w]
      rfl
     refine pure_ (i := 4) (N := some 45) (v := ?_) (a' := ?_) #[true, true, true, true, true] rfl rfl (by kernel_rfl) (fun _ _ _ h => h) (Or.inl ⟨by rfl, ?_⟩) ?_ ?_
     rotate_left
     ·intro w'
      go_simp
      with_reducible rfl
     rotate_left
     ·simp only [Act.put, List.setIfInBounds_toArray, List.set_cons_zero, List.set_cons_succ, i64_w, i32_w]
      rfl
     refine done_ (by kernel_rfl) ?_
     try go_wp2
     go_ret
     exact ⟨by first | rfl | (simp [errW_none, errW_some] <;> rfl) | (simp [*, errW_none, errW_some] <;> rfl), bwq HB⟩
end Go.Proofs.Ytcgbbhkjkkpfoaa.P
namespace Go.Proofs.Ytcgbbhkjkkpfoaa.P
open Go.RowKit Go.Proofs.YtcgbbhkjkkpfoaaW.PrintWords Go.Proofs.YtcgbbhkjkkpfoaaW.PrintLast Go.Proofs.YtcgbbhkjkkpfoaaW.PrintMore Lcm Lcm.G
theorem implPlaceOk_ev (p : List Stp) (e0 e1 e2 e3 e4 : Int) (x y : List Bool) : Ev (fun _ => impl_PlaceOk.f p e0 e1 e2 e3 e4 x y) (placeOkL p e0 e1 e2 e3 e4 x y) := ⟨0, fun _ _ => rfl⟩
theorem exactPlaceOk_ev (l0 : List LStp) (x : LExp) (l2 m2 : List Bool) (h0 : l0.length ≤ ml) (hs : ∀ s, s ∈ l0 → s.f5.length ≤ ml) (hp : l2.length ≤ ml) (hq : m2.length ≤ ml) : Ev (fun k => laws_FnExactPlaceOk.f k l0 x.f0 x.f1.f0 x.f1.f1 x.f2.f0 x.f2.f1 l2 m2) true := by
 unfold laws_FnExactPlaceOk.f
 refine Ev.bind (szProg_ev l0 h0 hs 1048576 (by omega) (by omega)) (Ev.cases (fun _ => Ev.now _) (fun hz => ?_))
 obtain ⟨h2, h3⟩ := small_of hz
 obtain ⟨r, hr, hr2⟩ := szPlace_ev l2 m2 hp hq _ (Int.not_lt.1 hz) (left_le l0)
 have hb := left_le l0
 refine Ev.bind hr (Ev.cases (fun _ => Ev.now _) (fun hz2 => ?_))
 have h4 := hr2 hz2
 have T := toProg_ev l0 h2 h3
 have E := toExpr_ev x.f0 x.f1.f0 x.f1.f1 x.f2.f0 x.f2.f1
 have X := toPlace_ev l2 m2 (by omega) (by omega)
 exact Ev.bind T (Ev.bind E (Ev.bind X (Ev.bind (placeOk_ev (l0.map toS) x.f0 x.f1.f0 x.f1.f1 x.f2.f0 x.f2.f1 l2 m2) (Ev.bind T (Ev.bind X (Ev.bind E (Ev.bind (implPlaceOk_ev (l0.map toS) x.f0 x.f1.f0 x.f1.f1 x.f2.f0 x.f2.f1 l2 m2) (Ev.neg (by simp) (Ev.bind T (Ev.bind (prog_refl h2 h3) (Ev.pos rfl (Ev.bind X (Ev.bind (eqPlace_refl l2 m2 (by omega) (by omega)) (Ev.pos rfl (Ev.now _)))))))))))))))
end Go.Proofs.Ytcgbbhkjkkpfoaa.P
namespace Go.Proofs.Ytcgbbhkjkkpfoaa.fnExactPlaceOk
open Go.ChangeShapes Go.WideShapes Go.ChangeAt Go.RowKit Go.Proofs.Ytcgbbhkjkkpfoaa.P Go.Proofs.YtcgbbhkjkkpfoaaW.PrintWords
theorem own : ownKnob Try.prog.godebug = none := by kernel_rfl
theorem laidOut : laidOutB Try.prog = true := by kernel_rfl
theorem walk (W : World) (A0 : Option Addr) (c0 : Nat) (l0 : List LStp) (x1 : LExp) (A2 B2 : Option Addr) (c2 d2 : Nat) (l2 m2 : List Bool) (hc0 : l0.length ≤ c0) (hr0 : Kd.C k90 W A0 l0.length l0) (hc2 : l2.length ≤ c2) (hr2 : Kd.C Kd.bool W A2 l2.length l2) (hd2 : m2.length ≤ d2) (hq2 : Kd.C Kd.bool W B2 m2.length m2) :
  Calls Try.prog 5 #[.agg #[.slice A0 l0.length c0], .agg #[.int .i64 x1.f0, .int .i64 x1.f1.f0, .int .i64 x1.f1.f1, .int .i64 x1.f2.f0, .int .i64 x1.f2.f1], .agg #[.slice A2 l2.length c2, .slice B2 m2.length d2]] W fun e w' => e = .returned (.bool true) ∧ Below W.heap.size W w' := by
 obtain ⟨k, h⟩ := (exactPlaceOk_ev l0 x1 l2 m2 (C_len hr0) (lprog_few hr0) (C_len hr2) (C_len hq2)).rounds
 exact laws_FnExactPlaceOk.calls k A0 c0 l0 x1.f0 x1.f1.f0 x1.f1.f1 x1.f2.f0 x1.f2.f1 A2 c2 l2 B2 d2 m2 true W hr0 hc0 hr2 hc2 hq2 hd2 h
theorem lifted (os : Os) (started : os.Started) (H : Type) (enc : TypeId × Value → H) :
  ReturnsInHanded {} Try.checked os 5 .any (Rows.fnExactPlaceOkSpec.pre6 enc Try.prog Try.f5 Rows.fnExactPlaceOkRow.domain false) (Rows.fnExactPlaceOkSpec.post enc Try.prog Try.f5 false true false false) := by
 refine returnsInHanded_of_change_sized (C := Try.checked) own started (by kernel_rfl) Try.func5
  (ChangeSpec.witness6 (enc := enc) (C := Try.checked) false ⟨#[], #[.agg #[.slice none 0 0], .agg #[.int .i64 0, .int .i64 0, .int .i64 0, .int .i64 0, .int .i64 0], .agg #[.slice none 0 0, .slice none 0 0]], []⟩ 8 (by kernel_rfl) (by kernel_rfl) (by kernel_rfl) (by kernel_rfl)) ?_
 intro W base args ds gs before hval0 hW hcnd hsz0 _
 have hval : ∀ (j : Nat) t v, Try.f5.params[j]? = some t → args[j]? = some v → Value.okWide Try.prog W .any base t v := hval0
 have hW' := hW
 obtain ⟨p, q, hA0, hV, rfl, hfz, hnd⟩ := hW
 have hA : DataW.TrodAll enc Try.prog W 0 (fun _ => true) true Try.f5.params.toList args.toList ds p := hA0
 rw [Try.params5] at hA hval
 obtain ⟨v0, vs0, d0, ds0, p0, q0, hargs, rfl, rfl, h0, r0⟩ := trodAll_cons hA
 obtain ⟨v1, vs1, d1, ds1, p1, q1, rfl, rfl, rfl, h1, r1⟩ := trodAll_cons r0
 obtain ⟨v2, vs2, d2, ds2, p2, q2, rfl, rfl, rfl, h2, r2⟩ := trodAll_cons r1
 obtain ⟨rfl, rfl, rfl⟩ := trodAll_nil r2
 obtain rfl : args = #[v0, v1, v2] := by cases args; simp_all
 obtain ⟨rfl, rfl⟩ := trodVars_none hV
 have lt0 : ∀ x ∈ p0, x.block < W.heap.size := by obtain ⟨m, hm⟩ := h0; exact DataW.trod_lt m _ _ _ hm
 have k0 := h0
 obtain ⟨A0, c0, l0, rfl, hc0, hr0⟩ := open_one_arg Try.underlying24 opens_lprog (hval 0 24 v0 rfl rfl) h0
 have lt1 : ∀ x ∈ p1, x.block < W.heap.size := by obtain ⟨m, hm⟩ := h1; exact DataW.trod_lt m _ _ _ hm
 have k1 := h1
 obtain ⟨x1, rfl⟩ := open_expr_arg (hval 1 28 v1 rfl rfl) h1
 have lt2 : ∀ x ∈ p2, x.block < W.heap.size := by obtain ⟨m, hm⟩ := h2; exact DataW.trod_lt m _ _ _ hm
 have k2 := h2
 obtain ⟨A2, B2, c2, d2, l2, m2, rfl, hc2, hr2, hd2, hq2⟩ := open_place_arg (hval 2 31 v2 rfl rfl) h2
 clear hA0 hval0 hsz0
 refine (walk W A0 c0 l0 x1 A2 B2 c2 d2 l2 m2 hc0 hr0 hc2 hr2 hd2 hq2).mono fun e W' ⟨he, bel⟩ => ?_
 subst he
 exact ⟨_, rfl, _, _, _, [], _, [], hW', trodAll_mk1 (shut_bool Try.underlying4 _), (trodAll_cons_mk (Below.trod laidOut (by kernel_rfl) (of_decide_eq_true (by kernel_rfl)) k0 bel lt0) (trodAll_cons_mk (Below.trod laidOut (by kernel_rfl) (of_decide_eq_true (by kernel_rfl)) k1 bel lt1) (trodAll_cons_mk (Below.trod laidOut (by kernel_rfl) (of_decide_eq_true (by kernel_rfl)) k2 bel lt2) trodAll_mk0))), rfl, bel.frame _, fun h => by cases h⟩
theorem over : Rows.fnExactPlaceOkRow.holds Try.pinned (OpenSpec.ofChange Rows.fnExactPlaceOkSpec) :=
 OpenClaim.holds_of_wide 5 Try.f5 rfl rfl rfl rfl rfl rfl rfl ⟨rfl, rfl, rfl, rfl, rfl⟩ rfl rfl rfl rfl rfl (by kernel_rfl) Try.func5 (by kernel_rfl)
  (of_decide_eq_true (by kernel_rfl)) (by unfold Func.isWrapper; first | (rw [if_pos (by decide +kernel)]; kernel_rfl) | (rw [if_neg (by decide +kernel)]; exact ⟨rfl, rfl⟩))
  (fun os started H enc _ => lifted os started H enc)
end Go.Proofs.Ytcgbbhkjkkpfoaa.fnExactPlaceOk
namespace Go.Proofs.Ytcgbbhkjkkpfoaa
theorem fnExactPlaceOk_holds : Rows.FnExactPlaceOkSaid := fnExactPlaceOk.over
end Go.Proofs.Ytcgbbhkjkkpfoaa
