/- FnExactSafeAlone: for every argument the law returns true, and each argument reads behind the call as it read before; no condition. Part 5 of 6: written together by a program out of the session's texts and what the print wrote. -/
import Derived.Test.YtcgbbhkjkkpfoaaCFnExactSafeAlonea3
namespace Go.Proofs.Ytcgbbhkjkkpfoaa.P
open Go.RowKit Go.Proofs.YtcgbbhkjkkpfoaaW.PrintWords Go.Proofs.YtcgbbhkjkkpfoaaW.PrintLast Go.Proofs.YtcgbbhkjkkpfoaaW.PrintMore
attribute [local go_sem] max2_int min2_int max_two min_two max_three min_three max_four min_four
set_option linter.unusedVariables false
set_option linter.unusedSimpArgs false
def spec_l12All.f (k : Nat) (l0_0 : List (S77)) : Option (List Bool) := (some (([] : List Bool) : List Bool)).bind fun y470 => ((spec_FlowReach.f k l0_0).bind fun t473 => (if y470.length + t473.length < 140737488355328 then (some (y470 ++ t473)) else (none)))
set_option maxHeartbeats 8000000 in
set_option maxRecDepth 100000 in
theorem spec_l12All.calls (k : Nat) (A0_0 : Option Addr) (c0_0 : Nat) (l0_0 : List (S77)) (r : List Bool) (w : World) (hr0_0 : Kd.C k77 w A0_0 l0_0.length l0_0) (hc0_0 : l0_0.length ≤ c0_0) (h : spec_l12All.f k l0_0 = some r) :
  Calls Try.prog 71 #[.agg #[.slice A0_0 l0_0.length c0_0]] w fun e w' => ∃ v0_ : Value, e = .returned (v0_) ∧ Kd.R Kd.bool 4 w' w.heap.size (fun _ => True) v0_ r ∧ Below w.heap.size w w' := by
 have hu38 := Try.underlying38
 have HR0_0 := Aside0.mk hr0_0
 have HC0_0 := Aside0.mk hc0_0
 clear hr0_0 hc0_0
 have HB := Aside0.mk (Below.refl w.heap.size w)
 have H : ((some (([] : List Bool) : List Bool)).bind fun y470 => ((spec_FlowReach.f k l0_0).bind fun t473 => (if y470.length + t473.length < 140737488355328 then (some (y470 ++ t473)) else (none)))) = some r := h
 clear h
 obtain ⟨y470, hy470⟩ : ∃ y_ : List Bool, y_ = (([] : List Bool)) := ⟨_, rfl⟩
 replace H : ((spec_FlowReach.f k l0_0).bind fun t473 => (if y470.length + t473.length < 140737488355328 then (some (y470 ++ t473)) else (none))) = some r := by first | (rw [hy470]; with_reducible exact H) | (have H2_ := (Option.bind_some _ _).symm.trans H; rw [hy470]; with_reducible exact H2_) | (have H2_ := (Option.bind_some _ _).symm.trans H; with_reducible exact H2_) | with_reducible exact H | (rw [hy470]; exact H) | exact H
 have Ny470 := Aside0.mk hy470
 clear hy470
 replace H := Option.bind_eq_some_iff.mp H
 obtain ⟨t473, A20, H⟩ := H
 have A2 := Aside0.mk A20
 clear A20
 by_cases c3 : y470.length + t473.length < 140737488355328
 ·rw [if_pos c3] at H
  have LMc3 := Aside0.mk c3
  clear c3
  obtain ⟨y476, hy476⟩ : ∃ y_ : List Bool, y_ = (y470 ++ t473) := ⟨_, rfl⟩
  replace H : (some y476) = some r := by first | (rw [hy476]; with_reducible exact H) | (have H2_ := (Option.bind_some _ _).symm.trans H; rw [hy476]; with_reducible exact H2_) | (have H2_ := (Option.bind_some _ _).symm.trans H; with_reducible exact H2_) | with_reducible exact H | (rw [hy476]; exact H) | exact H
  have Ny476 := Aside0.mk hy476
  clear hy476
  obtain rfl := Option.some.inj H
  go_enter Try.func71, Try.ntmps71
  go_wp2_with (first | ((with_reducible refine gate_dst (N := 1) rfl ?_); refine bxe (cs := #[.slice A0_0 l0_0.length c0_0]) (t := 38) ?_; intro gb469 hg w4 hbox hb; have BK469 := Aside0.mk (hbox); have GW469 := bwz HB hg; have GE469 := bwz HB hg; replace HB := bwb HB hb; clear hb hbox hg) | ((with_reducible refine gate_dst (N := 3) rfl ?_); refine Kd.R_lit Kd.bool _ 4 ?hg (N := 3) ?hd (xs := ([] : List Bool)) (inner := []) (ok := fun _ => True) (okp := fun _ => True) ?hr ?hp (fun _ hk => hk) trivial (Below.refl _ _) (Nat.le_refl _) (by simp) ?_; (case hd => rfl); (case hg => rfl); (case hr => first | (go_simp; done) | (go_simp; rfl) | (go_simp; rfl)); (case hp => exact (Reps.none _ _)); intro v471 w5 ho6 hb hg_ hnew_; clear hg_ hnew_; (first | rw [← Ny470.out] at ho6 | (simp only [Int.reduceToNat] at ho6; rw [← Ny470.out] at ho6)); have HO472 := Aside0.mk (Kd.R_lower ho6 (below_size (bwq HB))); replace BK469 := bkb BK469 hb; replace HB := bwb HB hb; clear hb ho6; obtain ⟨hcz7, hfz7⟩ := bcf BK469) | ((with_reducible refine gate_callee (f := 65) rfl ?_); refine goesM (some 5) rfl rfl Try.func65 #[.agg #[.slice A0_0 l0_0.length c0_0]] rfl ?_; (with_reducible refine (spec_FlowReach.calls k _ _ l0_0 t473 _ ?side1 ?side2 A2.out).mono ?_); (case side1 => exact Cq (Kd.C_below HR0_0.out HB.out)); (case side2 => exact HC0_0.out); rintro e w8 ⟨v474, rfl, ho0, hb⟩; refine ⟨_, rfl, ?_⟩; have HO475 := Aside0.mk (Kd.R_lower (Kd.R_new' ho0 (Kd.R_lt (Rq HO472.out))) (below_size (bwq HB))); replace HO472 := Aside0.mk (Kd.R_elder' (Rq HO472.out) (Kd.R_base ho0) hb); replace BK469 := bkb BK469 hb; replace HB := bwb HB hb; (try clear hb); (try clear hb2); (try clear hk); (try clear hi); (try clear ho0); obtain ⟨Ao10, co10, eo10⟩ := Kd.R_slice HO475.out; subst eo10) | ((with_reducible refine gate_builtin (b := .append) (xs := #[.tmp 3, .tmp 5]) rfl ?_); at_builtin; refine Kd.R_append_rows Kd.bool (w0 := w) w.heap.size rfl (.tmp 3) (.tmp 5) 29 4 (.bool false) 1 rfl Try.underlying29 info4 rfl (by decide) (by omega) v471 y470 t473 _ _ _ (fun k_ => some k_ ≠ (.slice Ao10 t473.length co10 : Value).ownBlock) (fun _ => False) rfl rfl ?aO ?aR (fun _ _ h => h) (fun _ h => h.elim) ?aF ?aB ?aS ?aL ?_; (case aR => repeat (first | exact (Kd.R_reads' HO475.out).2.2 | (with_reducible refine Kd.C_alloc ?_ _) | (with_reducible refine Kd.C_drewN ?_ _) | (with_reducible refine Kd.C_drew ?_))); (case aB => exact (bwq HB)); (case aF => exact (fun k_ hk => Kd.fresh' (Kd.R_lt (Rq HO475.out)) k_ hk)); (case aO => exact (by (with_reducible repeat (first | apply Kd.R_alloc | apply Kd.R_drewN | apply Kd.R_drew)); exact Kd.R_mono HO472.out (fun _ hk => hk.2))); (case aS => exact (below_size (bwq HB))); (case aL => have := LMc3.out; omega); intro v477 w9 ho hb hg hat; rw [← Ny476.out] at ho; have n0_ := Aside0.mk (blk_grown (g := gb469) (o := .cells #[.slice A0_0 l0_0.length c0_0] 38 (0, 0)) (bkq BK469) hg (Kd.R_ne HO472.out BK469.out (by decide))); have n1_ := Aside0.mk (Kd.R_after (ok := (fun _ => True)) (Rq HO475.out) hg hat); have n2_ := Aside0.mk (hb); have n3_ := Aside0.mk (ho); clear BK469; clear HO475; clear HB; clear HO472; have BK469 := n0_; have HO475 := n1_; have HB := n2_; have HO478 := n3_; clear n0_ n1_ n2_ n3_; clear ho hb hg hat))
  go_ret
  exact ⟨_, by first | rfl | (simp [errW_none, errW_some] <;> rfl) | (simp [*, errW_none, errW_some] <;> rfl), by (with_reducible repeat (first | apply Kd.R_alloc | apply Kd.R_drewN | apply Kd.R_drew)); exact Kd.R_mono HO478.out (fun _ hk => trivial), bwq HB⟩
 ·rw [if_neg c3] at H
  exact absurd H (by simp)
def spec_l12Each.l0 : Nat → List Bool → List Int → Int → Option (Bool)
 | 0, _, _, _ => none
 | k + 1, x0, x1, x5 => if x5 < (x1.length : Int) then (if 0 ≤ x5 then (if 0 ≤ (rd x1 x5) then (if (rd x1 x5) < (x0.length : Int) then (if (rdOf false x0 (rd x1 x5) = true) then (spec_l12Each.l0 k x0 x1 (wrap64 (x5 + 1))) else (some false)) else (none)) else (none)) else (none)) else (some true)
def spec_l12Each.f (k : Nat) (l0 : List Bool) (l1 : List Int) : Option (Bool) := spec_l12Each.l0 k l0 l1 0
set_option maxHeartbeats 8000000 in
set_option maxRecDepth 100000 in
theorem spec_l12Each.calls (k : Nat) (A0 : Option Addr) (c0 : Nat) (l0 : List Bool) (A1 : Option Addr) (c1 : Nat) (l1 : List Int) (r : Bool) (w : World) (hr0 : Kd.C Kd.bool w A0 l0.length l0) (hc0 : l0.length ≤ c0) (hr1 : Kd.C (Kd.int .i64) w A1 l1.length l1) (hc1 : l1.length ≤ c1) (h : spec_l12Each.f k l0 l1 = some r) :
  Calls Try.prog 68 #[.slice A0 l0.length c0, .slice A1 l1.length c1] w fun e w' => e = .returned (.bool r) ∧ Drawn0 w w' := by
 have HR0 := Aside0.mk hr0
 have HC0 := Aside0.mk hc0
 clear hr0 hc0
 have HR1 := Aside0.mk hr1
 have HC1 := Aside0.mk hc1
 clear hr1 hc1
 have H : (spec_l12Each.l0 k l0 l1 0) = some r := h
 clear h
 have H' := Aside0.mk H
 clear H
 go_enter Try.func68, Try.ntmps68
 go_wp2
 go_loopg [5] k (fun kq v5 w' => ∃ (x5_1 : Int), v5 = .int .i64 x5_1 ∧ Aside0 (spec_l12Each.l0 kq l0 l1 x5_1 = some r) ∧ Aside0 (kq ≤ k) ∧ Drawn0 w w')
 case atStart => exact ⟨(0), (by first | rfl | (simp; done) | (simp [*]; done)), H', ⟨Nat.le_refl _⟩, by repeat (first | exact Drawn0.refl _ | apply Drawn0.step)⟩
 case round =>
  clear H'
  try clear c1
  try clear p2
  obtain ⟨x5_1, rfl, HA, HK1, ⟨m1, rfl⟩⟩ := hrel
  cases gk with
  | zero => exact absurd HA.out (by intro h_; first | (cases h_; done) | (simp [spec_l12Each.l0] at h_))
  | succ k1 =>
   have H := HA.out
   clear HA
   simp only [spec_l12Each.l0] at H
   by_cases c3 : x5_1 < (l1.length : Int)
   ·rw [if_pos c3] at H
    have c3b0 : decide (x5_1 < (l1.length : Int)) = true := decide_eq_true c3
    clear c3
    by_cases c4 : 0 ≤ x5_1
    ·rw [if_pos c4] at H
     have c4b0 : decide (0 ≤ x5_1) = true := decide_eq_true c4
     clear c4
     by_cases c5 : 0 ≤ (rd l1 x5_1)
     ·rw [if_pos c5] at H
      have c5b0 : decide (0 ≤ (rd l1 x5_1)) = true := decide_eq_true c5
      clear c5
      by_cases c6 : (rd l1 x5_1) < (l0.length : Int)
      ·rw [if_pos c6] at H
       have c6b0 : decide ((rd l1 x5_1) < (l0.length : Int)) = true := decide_eq_true c6
       clear c6
       obtain ⟨bq7, hbq7⟩ : ∃ b_ : Bool, b_ = (rdOf false l0 (rd l1 x5_1)) := ⟨_, rfl⟩
       replace H : (if (bq7 = true) then (spec_l12Each.l0 k1 l0 l1 (wrap64 (x5_1 + 1))) else (some false)) = some r := by rw [← hbq7] at H; exact H
       have Nbq7 := Aside0.mk hbq7
       clear hbq7
       by_cases c8 : (bq7 = true)
       ·subst c8
        rw [if_pos rfl] at H
        have H' := Aside0.mk H
        clear H
        have p450 : 0 ≤ (x5_1 : Int) := oda
        have q450 : x5_1 < (l1.length : Int) := oda
        obtain ⟨ad450, e450, hx450_0⟩ := Kd.at_int HR1.out x5_1 p450 q450
        cases e450
        replace p450 := eq_true p450
        replace q450 := eq_true q450
        have p451 : 0 ≤ ((rd l1 x5_1) : Int) := oda
        have q451 : (rd l1 x5_1) < (l0.length : Int) := oda
        obtain ⟨ad451, e451, hx451_0⟩ := Kd.at_bool HR0.out (rd l1 x5_1) p451 q451
        (try rw [← Nbq7.out] at hx451_0)
        cases e451
        replace p451 := eq_true p451
        replace q451 := eq_true q451
        go_wp2
        go_roundg k1
        case measure => have := HK1.out; omega
        case rel => exact ⟨(wrap64 (x5_1 + 1)), (by first | rfl | (simp; done) | (simp [*]; done)), H', ⟨by have := HK1.out; omega⟩, by repeat (first | exact Drawn0.refl _ | apply Drawn0.step)⟩
       ·replace c8 := Bool.eq_false_iff.mpr c8
        subst c8
        have H1 : (some false) = some r := by rw [if_neg (show ¬ (false = true) by decide)] at H; exact H
        clear H
        have H := H1
        clear H1
        obtain rfl := Option.some.inj H
        have p450 : 0 ≤ (x5_1 : Int) := oda
        have q450 : x5_1 < (l1.length : Int) := oda
        obtain ⟨ad450, e450, hx450_0⟩ := Kd.at_int HR1.out x5_1 p450 q450
        cases e450
        replace p450 := eq_true p450
        replace q450 := eq_true q450
        have p451 : 0 ≤ ((rd l1 x5_1) : Int) := oda
        have q451 : (rd l1 x5_1) < (l0.length : Int) := oda
        obtain ⟨ad451, e451, hx451_0⟩ := Kd.at_bool HR0.out (rd l1 x5_1) p451 q451
        (try rw [← Nbq7.out] at hx451_0)
        cases e451
        replace p451 := eq_true p451
        replace q451 := eq_true q451
        go_wp2
        go_ret
        exact ⟨by first | rfl | (simp; done) | (simp [*]; done), by repeat (first | exact Drawn0.refl _ | apply Drawn0.step)⟩
      ·rw [if_neg c6] at H
       exact absurd H (by simp)
     ·rw [if_neg c5] at H
      exact absurd H (by simp)
    ·rw [if_neg c4] at H
     exact absurd H (by simp)
   ·rw [if_neg c3] at H
    have c3b0 : decide (x5_1 < (l1.length : Int)) = false := decide_eq_false c3
    clear c3
    obtain rfl := Option.some.inj H
    go_wp2
    go_ret
    exact ⟨by first | rfl | (simp; done) | (simp [*]; done), by repeat (first | exact Drawn0.refl _ | apply Drawn0.step)⟩
def spec_l12Ok.f (k : Nat) (l0_0 : List (S77)) (a1_0 : Int) (a1_1 : Int) (a1_2 : Int) (a1_3 : Int) (a1_4 : Int) : Option (Bool) := (spec_ProgOk.f k l0_0).bind fun t134 => (if t134 = true then ((spec_ExprOk.f a1_0 a1_1 a1_2 a1_3 a1_4).bind fun t135 => (some t135)) else (some false))
set_option maxHeartbeats 8000000 in
set_option maxRecDepth 100000 in
theorem spec_l12Ok.calls (k : Nat) (A0_0 : Option Addr) (c0_0 : Nat) (l0_0 : List (S77)) (a1_0 : Int) (a1_1 : Int) (a1_2 : Int) (a1_3 : Int) (a1_4 : Int) (r : Bool) (w : World) (hr0_0 : Kd.C k77 w A0_0 l0_0.length l0_0) (hc0_0 : l0_0.length ≤ c0_0) (h : spec_l12Ok.f k l0_0 a1_0 a1_1 a1_2 a1_3 a1_4 = some r) :
  Calls Try.prog 63 #[.agg #[.slice A0_0 l0_0.length c0_0], .agg #[.int .i64 a1_0, .int .i64 a1_1, .int .i64 a1_2, .int .i64 a1_3, .int .i64 a1_4]] w fun e w' => e = .returned (.bool r) ∧ Below w.heap.size w w' := by
 have hu38 := Try.underlying38
 have hu42 := Try.underlying42
 have HR0_0 := Aside0.mk hr0_0
 have HC0_0 := Aside0.mk hc0_0
 clear hr0_0 hc0_0
 have HB := Aside0.mk (Below.refl w.heap.size w)
 have H : ((spec_ProgOk.f k l0_0).bind fun t134 => (if t134 = true then ((spec_ExprOk.f a1_0 a1_1 a1_2 a1_3 a1_4).bind fun t135 => (some t135)) else (some false))) = some r := h
 clear h
 replace H := Option.bind_eq_some_iff.mp H
 obtain ⟨t134, A30, H⟩ := H
 have A3 := Aside0.mk A30
 clear A30
 by_cases c4 : t134 = true
 ·subst c4
  rw [if_pos rfl] at H
  replace H := Option.bind_eq_some_iff.mp H
  obtain ⟨t135, A50, H⟩ := H
  have A5 := Aside0.mk A50
  clear A50
  obtain rfl := Option.some.inj H
  go_enter Try.func63, Try.ntmps63
  go_wp2_with (first | ((with_reducible refine gate_dst (N := 2) rfl ?_); refine bxe (cs := #[.slice A0_0 l0_0.length c0_0]) (t := 38) ?_; intro gb132 hg w6 hbox hb; have BK132 := Aside0.mk (hbox); have GW132 := bwz HB hg; have GE132 := bwz HB hg; replace HB := bwb HB hb; clear hb hbox hg) | ((with_reducible refine gate_dst (N := 3) rfl ?_); refine bxe (cs := #[.int .i64 a1_0, .int .i64 a1_1, .int .i64 a1_2, .int .i64 a1_3, .int .i64 a1_4]) (t := 42) ?_; intro gb133 hg w7 hbox hb; have BK133 := Aside0.mk (hbox); have GW133 := bwz HB hg; have GE133 := bwz HB hg; replace HB := bwb HB hb; have NB132_133 := bkl BK132 hg; have NB133_132 := bkg BK132 hg; replace BK132 := bkb BK132 hb; clear hb hbox hg; have hnb8 := NB132_133.out; have hnc8 := NB133_132.out; obtain ⟨hcz9, hfz9⟩ := bcf BK132) | ((with_reducible refine gate_callee (f := 76) rfl ?_); refine goesM (some 6) rfl rfl Try.func76 #[.agg #[.slice A0_0 l0_0.length c0_0]] rfl ?_; (with_reducible refine (spec_ProgOk.calls k _ _ l0_0 true _ ?side1 ?side2 A3.out).mono ?_); (case side1 => exact Cq (Kd.C_below HR0_0.out HB.out)); (case side2 => exact HC0_0.out); rintro e w10 ⟨rfl, hb⟩; refine ⟨_, rfl, ?_⟩; replace BK132 := bkb BK132 hb; replace BK133 := bkb BK133 hb; replace HB := bwb HB hb; (try clear hb); (try clear hb2); (try clear hk); (try clear hi); obtain ⟨hcz11, hfz11⟩ := bcf BK133) | (go_at_call 79; (with_reducible refine (spec_ExprOk.calls a1_0 a1_1 a1_2 a1_3 a1_4 t135 _ A5.out).mono ?_); rintro e w12 ⟨rfl, hb⟩; replace BK132 := bkb BK132 hb; replace BK133 := bkb BK133 hb; replace HB := bwb HB hb; (try clear hb); (try clear hb2); (try clear hk); (try clear hi)))
  go_ret
  exact ⟨by first | rfl | (simp [errW_none, errW_some] <;> rfl) | (simp [*, errW_none, errW_some] <;> rfl), bwq HB⟩
 ·replace c4 := Bool.eq_false_iff.mpr c4
  subst c4
  have H1 : (some false) = some r := by rw [if_neg (show ¬ (false = true) by decide)] at H; exact H
  clear H
  have H := H1
  clear H1
  obtain rfl := Option.some.inj H
  go_enter Try.func63, Try.ntmps63
  go_wp2_with (first | ((with_reducible refine gate_dst (N := 2) rfl ?_); refine bxe (cs := #[.slice A0_0 l0_0.length c0_0]) (t := 38) ?_; intro gb132 hg w13 hbox hb; have BK132 := Aside0.mk (hbox); have GW132 := bwz HB hg; have GE132 := bwz HB hg; replace HB := bwb HB hb; clear hb hbox hg) | ((with_reducible refine gate_dst (N := 3) rfl ?_); refine bxe (cs := #[.int .i64 a1_0, .int .i64 a1_1, .int .i64 a1_2, .int .i64 a1_3, .int .i64 a1_4]) (t := 42) ?_; intro gb133 hg w14 hbox hb; have BK133 := Aside0.mk (hbox); have GW133 := bwz HB hg; have GE133 := bwz HB hg; replace HB := bwb HB hb; have NB132_133 := bkl BK132 hg; have NB133_132 := bkg BK132 hg; replace BK132 := bkb BK132 hb; clear hb hbox hg; have hnb15 := NB132_133.out; have hnc15 := NB133_132.out; obtain ⟨hcz16, hfz16⟩ := bcf BK132) | ((with_reducible refine gate_callee (f := 76) rfl ?_); refine goesM (some 6) rfl rfl Try.func76 #[.agg #[.slice A0_0 l0_0.length c0_0]] rfl ?_; (with_reducible refine (spec_ProgOk.calls k _ _ l0_0 false _ ?side1 ?side2 A3.out).mono ?_); (case side1 => exact Cq (Kd.C_below HR0_0.out HB.out)); (case side2 => exact HC0_0.out); rintro e w17 ⟨rfl, hb⟩; refine ⟨_, rfl, ?_⟩; replace BK132 := bkb BK132 hb; replace BK133 := bkb BK133 hb; replace HB := bwb HB hb; (try clear hb); (try clear hb2); (try clear hk); (try clear hi)))
  go_ret
  exact ⟨by first | rfl | (simp [errW_none, errW_some] <;> rfl) | (simp [*, errW_none, errW_some] <;> rfl), bwq HB⟩
mutual
def spec_SafeDown.l0 : Nat → List Bool → List Bool → List Bool → Bool → List (S77) → Option (List Bool)
 | 0, _, _, _, _, _ => none
 | k + 1, x5, x6, x7, x8, x499000 => if x8 = true then (spec_SafeDown.l1 k x5 x6 x7 false 0 x499000) else (some x5)
def spec_SafeDown.l1 : Nat → List Bool → List Bool → List Bool → Bool → Int → List (S77) → Option (List Bool)
 | 0, _, _, _, _, _, _ => none
 | k + 1, x5, x6, x7, x8, x9, x499000 => if x9 < (x5.length : Int) then (if 0 ≤ x9 then (if rdOf false x5 x9 = true then (if x9 < (x6.length : Int) then (if rdOf false x6 x9 = true then (spec_SafeDown.l1 k x5 x6 x7 x8 (wrap64 (x9 + 1)) x499000) else (if x9 < (x7.length : Int) then (if rdOf false x7 x9 = true then (if x9 < (x499000.length : Int) then (if (((rd_T77 x499000 x9).f5).length : Int) = 0 then (spec_SafeDown.l1 k (x5.set (x9 : Int).toNat false) x6 x7 true (wrap64 (x9 + 1)) x499000) else ((spec_l12Each.f k x5 ((rd_T77 x499000 x9).f5)).bind fun t519 => (if t519 = true then (spec_SafeDown.l1 k x5 x6 x7 x8 (wrap64 (x9 + 1)) x499000) else (spec_SafeDown.l1 k (x5.set (x9 : Int).toNat false) x6 x7 true (wrap64 (x9 + 1)) x499000)))) else (none)) else (spec_SafeDown.l1 k (x5.set (x9 : Int).toNat false) x6 x7 true (wrap64 (x9 + 1)) x499000)) else (none))) else (none)) else (spec_SafeDown.l1 k x5 x6 x7 x8 (wrap64 (x9 + 1)) x499000)) else (none)) else (spec_SafeDown.l0 k x5 x6 x7 x8 x499000)
end
def spec_SafeDown.f (k : Nat) (l0_0 : List (S77)) (a1_0 : Int) (a1_1 : Int) (a1_2 : Int) (a1_3 : Int) (a1_4 : Int) : Option (List Bool) := (spec_l12Ok.f k l0_0 a1_0 a1_1 a1_2 a1_3 a1_4).bind fun t500 => (if t500 = true then ((spec_l12All.f k l0_0).bind fun t504 => ((spec_ExprComp.f k l0_0 a1_0 a1_1 a1_2 a1_3 a1_4).bind fun t507 => ((spec_ExprKeeps.f k l0_0 a1_0 a1_1 a1_2 a1_3 a1_4).bind fun t510 => (spec_SafeDown.l0 k t504 t507 t510 true l0_0)))) else (some (([] : List Bool))))
set_option maxHeartbeats 8000000 in
set_option maxRecDepth 100000 in
theorem spec_SafeDown.calls (k : Nat) (A0_0 : Option Addr) (c0_0 : Nat) (l0_0 : List (S77)) (a1_0 : Int) (a1_1 : Int) (a1_2 : Int) (a1_3 : Int) (a1_4 : Int) (r : List Bool) (w : World) (hr0_0 : Kd.C k77 w A0_0 l0_0.length l0_0) (hc0_0 : l0_0.length ≤ c0_0) (h : spec_SafeDown.f k l0_0 a1_0 a1_1 a1_2 a1_3 a1_4 = some r) :
  Calls Try.prog 57 #[.agg #[.slice A0_0 l0_0.length c0_0], .agg #[.int .i64 a1_0, .int .i64 a1_1, .int .i64 a1_2, .int .i64 a1_3, .int .i64 a1_4]] w fun e w' => ∃ v0_ : Value, e = .returned (v0_) ∧ Kd.R Kd.bool 4 w' w.heap.size (fun _ => True) v0_ r ∧ Below w.heap.size w w' := by
 have hu38 := Try.underlying38
 have hu42 := Try.underlying42
 have HR0_0 := Aside0.mk hr0_0
 have HC0_0 := Aside0.mk hc0_0
 clear hr0_0 hc0_0
 have HB := Aside0.mk (Below.refl w.heap.size w)
 have H : ((spec_l12Ok.f k l0_0 a1_0 a1_1 a1_2 a1_3 a1_4).bind fun t500 => (if t500 = true then ((spec_l12All.f k l0_0).bind fun t504 => ((spec_ExprComp.f k l0_0 a1_0 a1_1 a1_2 a1_3 a1_4).bind fun t507 => ((spec_ExprKeeps.f k l0_0 a1_0 a1_1 a1_2 a1_3 a1_4).bind fun t510 => (spec_SafeDown.l0 k t504 t507 t510 true l0_0)))) else (some (([] : List Bool))))) = some r := h
 clear h
 replace H := Option.bind_eq_some_iff.mp H
 obtain ⟨t500, A30, H⟩ := H
 have A3 := Aside0.mk A30
 clear A30
 by_cases c4 : t500 = true
 ·subst c4
  rw [if_pos rfl] at H
  replace H := Option.bind_eq_some_iff.mp H
  obtain ⟨t504, A50, H⟩ := H
  have A5 := Aside0.mk A50
  clear A50
  replace H := Option.bind_eq_some_iff.mp H
  obtain ⟨t507, A60, H⟩ := H
  have A6 := Aside0.mk A60
  clear A60
  replace H := Option.bind_eq_some_iff.mp H
  obtain ⟨t510, A70, H⟩ := H
  have A7 := Aside0.mk A70
  clear A70
  have H' := Aside0.mk H
  clear H
  go_enter Try.func57, Try.ntmps57
  go_wp2_with (first | ((with_reducible refine gate_dst (N := 2) rfl ?_); (try (refine gate_guard (by rfl) ?_; dsimp only)); refine bxe (cs := #[.slice A0_0 l0_0.length c0_0]) (t := 38) ?_; intro gb498 hg w8 hbox hb; have BK498 := Aside0.mk (hbox); have GW498 := bwz HB hg; have GE498 := bwz HB hg; replace HB := bwb HB hb; clear hb hbox hg) | ((with_reducible refine gate_dst (N := 3) rfl ?_); (try (refine gate_guard (by rfl) ?_; dsimp only)); refine bxe (cs := #[.int .i64 a1_0, .int .i64 a1_1, .int .i64 a1_2, .int .i64 a1_3, .int .i64 a1_4]) (t := 42) ?_; intro gb499 hg w9 hbox hb; have BK499 := Aside0.mk (hbox); have GW499 := bwz HB hg; have GE499 := bwz HB hg; replace HB := bwb HB hb; have NB498_499 := bkl BK498 hg; have NB499_498 := bkg BK498 hg; replace BK498 := bkb BK498 hb; clear hb hbox hg; have hnb10 := NB498_499.out; have hnc10 := NB499_498.out; obtain ⟨hcz11, hfz11⟩ := bcf BK498; obtain ⟨hcz12, hfz12⟩ := bcf BK499) | ((with_reducible refine gate_callee (f := 63) rfl ?_); refine goesM (some 12) rfl rfl Try.func63 #[.agg #[.slice A0_0 l0_0.length c0_0], .agg #[.int .i64 a1_0, .int .i64 a1_1, .int .i64 a1_2, .int .i64 a1_3, .int .i64 a1_4]] rfl ?_; (with_reducible refine (spec_l12Ok.calls k _ _ l0_0 a1_0 a1_1 a1_2 a1_3 a1_4 true _ ?side1 ?side2 A3.out).mono ?_); (case side1 => exact Cq (Kd.C_below HR0_0.out HB.out)); (case side2 => exact HC0_0.out); rintro e w13 ⟨rfl, hb⟩; refine ⟨_, rfl, ?_⟩; replace BK498 := bkb BK498 hb; replace BK499 := bkb BK499 hb; replace HB := bwb HB hb; (try clear hb); (try clear hb2); (try clear hk); (try clear hi); obtain ⟨hcz14, hfz14⟩ := bcf BK498) | ((with_reducible refine gate_callee (f := 71) rfl ?_); refine goesM (some 16) rfl rfl Try.func71 #[.agg #[.slice A0_0 l0_0.length c0_0]] rfl ?_; (with_reducible refine (spec_l12All.calls k _ _ l0_0 t504 _ ?side1 ?side2 A5.out).mono ?_); (case side1 => exact Cq (Kd.C_below HR0_0.out HB.out)); (case side2 => exact HC0_0.out); rintro e w15 ⟨v505, rfl, ho0, hb⟩; refine ⟨_, rfl, ?_⟩; have HO506 := Aside0.mk (Kd.R_lower ho0 (below_size (bwq HB))); replace BK498 := bkb BK498 hb; replace BK499 := bkb BK499 hb; replace HB := bwb HB hb; (try clear hb); (try clear hb2); (try clear hk); (try clear hi); (try clear ho0); obtain ⟨hcz16, hfz16⟩ := bcf BK498; obtain ⟨hcz17, hfz17⟩ := bcf BK499) | ((with_reducible refine gate_callee (f := 46) rfl ?_); refine goesM (some 19) rfl rfl Try.func46 #[.agg #[.slice A0_0 l0_0.length c0_0], .agg #[.int .i64 a1_0, .int .i64 a1_1, .int .i64 a1_2, .int .i64 a1_3, .int .i64 a1_4]] rfl ?_; (with_reducible refine (spec_ExprComp.calls k _ _ l0_0 a1_0 a1_1 a1_2 a1_3 a1_4 t507 _ ?side1 ?side2 A6.out).mono ?_); (case side1 => exact Cq (Kd.C_below HR0_0.out HB.out)); (case side2 => exact HC0_0.out); rintro e w18 ⟨v508, rfl, ho0, hb⟩; refine ⟨_, rfl, ?_⟩; have HO509 := Aside0.mk (Kd.R_lower (Kd.R_new' ho0 (Kd.R_lt (Rq HO506.out))) (below_size (bwq HB))); replace HO506 := Aside0.mk (Kd.R_elder' (Rq HO506.out) (Kd.R_base ho0) hb); replace BK498 := bkb BK498 hb; replace BK499 := bkb BK499 hb; replace HB := bwb HB hb; (try clear hb); (try clear hb2); (try clear hk); (try clear hi); (try clear ho0); obtain ⟨hcz19, hfz19⟩ := bcf BK498; obtain ⟨hcz20, hfz20⟩ := bcf BK499) | ((with_reducible refine gate_callee (f := 93) rfl ?_); refine goesM (some 22) rfl rfl Try.func93 #[.agg #[.slice A0_0 l0_0.length c0_0], .agg #[.int .i64 a1_0, .int .i64 a1_1, .int .i64 a1_2, .int .i64 a1_3, .int .i64 a1_4]] rfl ?_; (with_reducible refine (spec_ExprKeeps.calls k _ _ l0_0 a1_0 a1_1 a1_2 a1_3 a1_4 t510 _ ?side1 ?side2 A7.out).mono ?_); (case side1 => exact Cq (Kd.C_below HR0_0.out HB.out)); (case side2 => exact HC0_0.out); rintro e w21 ⟨v511, rfl, ho0, hb⟩; refine ⟨_, rfl, ?_⟩; have HO512 := Aside0.mk (Kd.R_lower (Kd.R_new' (Kd.R_new' ho0 (Kd.R_lt (Rq HO506.out))) (Kd.R_lt (Rq HO509.out))) (below_size (bwq HB))); replace HO506 := Aside0.mk (Kd.R_elder' (Rq HO506.out) (Kd.R_base ho0) hb); replace HO509 := Aside0.mk (Kd.R_elder' (Rq HO509.out) (Kd.R_base ho0) hb); replace BK498 := bkb BK498 hb; replace BK499 := bkb BK499 hb; replace HB := bwb HB hb; (try clear hb); (try clear hb2); (try clear hk); (try clear hi); (try clear ho0)))
  go_loopg [8] k (fun kq v8 w' => ∃ (x5_1 : List Bool) (x8_1 : Bool), v8 = .bool x8_1 ∧ Aside0 (spec_SafeDown.l0 kq x5_1 t507 t510 x8_1 l0_0 = some r) ∧ Aside0 (kq ≤ k) ∧ Aside0 (Kd.R Kd.bool 4 w' w.heap.size (fun k_ => some k_ ≠ (v508 : Value).ownBlock ∧ some k_ ≠ (v511 : Value).ownBlock) v505 x5_1) ∧ Aside0 (Kd.R Kd.bool 4 w' w.heap.size (fun k_ => some k_ ≠ (v505 : Value).ownBlock ∧ some k_ ≠ (v511 : Value).ownBlock) v508 t507) ∧ Aside0 (Kd.R Kd.bool 4 w' w.heap.size (fun k_ => some k_ ≠ (v505 : Value).ownBlock ∧ some k_ ≠ (v508 : Value).ownBlock) v511 t510) ∧ Aside0 (w'.heap[gb498]? = some (.cells #[(.slice A0_0 l0_0.length c0_0)] 38 (0, 0))) ∧ Aside0 (w'.heap[gb499]? = some (.cells #[.int .i64 a1_0, .int .i64 a1_1, .int .i64 a1_2, .int .i64 a1_3, .int .i64 a1_4] 42 (0, 0))) ∧ Aside0 (Below w.heap.size w w'))
  case atStart => exact ⟨(t504), (true), (by first | rfl | (simp; done) | (simp [*]; done)), H', ⟨Nat.le_refl _⟩, ⟨by (with_reducible repeat (first | apply Kd.R_alloc | apply Kd.R_drewN | apply Kd.R_drew)); exact Kd.R_mono HO506.out (fun _ hk => ⟨hk.1.2, hk.2⟩)⟩, ⟨by (with_reducible repeat (first | apply Kd.R_alloc | apply Kd.R_drewN | apply Kd.R_drew)); exact Kd.R_mono HO509.out (fun _ hk => ⟨hk.1.2, hk.2⟩)⟩, ⟨by (with_reducible repeat (first | apply Kd.R_alloc | apply Kd.R_drewN | apply Kd.R_drew)); exact Kd.R_mono HO512.out (fun _ hk => ⟨hk.1.2, hk.2⟩)⟩, ⟨bkq BK498⟩, ⟨bkq BK499⟩, ⟨bwq HB⟩⟩
  case round =>
   clear H'
   try clear c1
   try clear p2
   try clear c4
   try clear c5
   try clear c6
   try clear c7
   try clear c9
   try clear c10
   try clear hcz11
   try clear hcz12
   try clear hcz14
   try clear hcz16
   try clear hcz17
   try clear hcz19
   try clear hcz20
   try clear hfz11
   try clear hfz12
   try clear hfz14
   try clear hfz16
   try clear hfz17
   try clear hfz19
   try clear hfz20
   obtain ⟨x5_1, x8_1, rfl, HA, HK1, HO_5, HO_6, HO_7, BK498, BK499, HB⟩ := hrel
   cases gk with
   | zero => exact absurd HA.out (by intro h_; first | (cases h_; done) | (simp [spec_SafeDown.l0] at h_))
   | succ k1 =>
    have H := HA.out
    clear HA
    simp only [spec_SafeDown.l0] at H
    by_cases c22 : x8_1 = true
    ·subst c22
     rw [if_pos rfl] at H
     have H' := Aside0.mk H
     clear H
     go_wp2
     go_loopg [8, 9] k1 (fun kq v8 v9 w' => ∃ (x5_2 : List Bool) (x8_2 : Bool) (x9_2 : Int), v8 = .bool x8_2 ∧ v9 = .int .i64 x9_2 ∧ Aside0 (spec_SafeDown.l1 kq x5_2 t507 t510 x8_2 x9_2 l0_0 = some r) ∧ Aside0 (kq ≤ k1) ∧ Aside0 (Kd.R Kd.bool 4 w' w.heap.size (fun k_ => some k_ ≠ (v508 : Value).ownBlock ∧ some k_ ≠ (v511 : Value).ownBlock) v505 x5_2) ∧ Aside0 (Kd.R Kd.bool 4 w' w.heap.size (fun k_ => some k_ ≠ (v505 : Value).ownBlock ∧ some k_ ≠ (v511 : Value).ownBlock) v508 t507) ∧ Aside0 (Kd.R Kd.bool 4 w' w.heap.size (fun k_ => some k_ ≠ (v505 : Value).ownBlock ∧ some k_ ≠ (v508 : Value).ownBlock) v511 t510) ∧ Aside0 (w'.heap[gb498]? = some (.cells #[(.slice A0_0 l0_0.length c0_0)] 38 (0, 0))) ∧ Aside0 (w'.heap[gb499]? = some (.cells #[.int .i64 a1_0, .int .i64 a1_1, .int .i64 a1_2, .int .i64 a1_3, .int .i64 a1_4] 42 (0, 0))) ∧ Aside0 (Below w.heap.size w w'))
     case atStart => exact ⟨(x5_1), (false), (0), (by first | rfl | (simp; done) | (simp [*]; done)), (by first | rfl | (simp; done) | (simp [*]; done)), H', ⟨Nat.le_refl _⟩, ⟨Rq HO_5.out⟩, ⟨Rq HO_6.out⟩, ⟨Rq HO_7.out⟩, ⟨bkq BK498⟩, ⟨bkq BK499⟩, ⟨bwq HB⟩⟩
     case round =>
      clear H'
      try clear c1
      try clear c2
      try clear p2
      try clear c4
      try clear c5
      try clear c6
      try clear c7
      try clear c9
      try clear c10
      try clear c22
      try clear hcz11
      try clear hcz12
      try clear hcz14
      try clear hcz16
      try clear hcz17
      try clear hcz19
      try clear hcz20
      try clear hfz11
      try clear hfz12
      try clear hfz14
      try clear hfz16
      try clear hfz17
      try clear hfz19
      try clear hfz20
      try clear p2
      obtain ⟨x5_2, x8_2, x9_2, rfl, rfl, HA, HK2, HO_5, HO_6, HO_7, BK498, BK499, HB⟩ := hrel
      cases gk with
      | zero => exact absurd HA.out (by intro h_; first | (cases h_; done) | (simp [spec_SafeDown.l1] at h_))
      | succ k2 =>
       have H := HA.out
       clear HA
       simp only [spec_SafeDown.l1] at H
       by_cases c23 : x9_2 < (x5_2.length : Int)
       ·rw [if_pos c23] at H
        have c23b0 : decide (x9_2 < (x5_2.length : Int)) = true := decide_eq_true c23
        clear c23
        by_cases c24 : 0 ≤ x9_2
        ·rw [if_pos c24] at H
         have c24b0 : decide (0 ≤ x9_2) = true := decide_eq_true c24
         clear c24
         obtain ⟨bq25, hbq25⟩ : ∃ b_ : Bool, b_ = (rdOf false x5_2 x9_2) := ⟨_, rfl⟩
         replace H : (if bq25 = true then (if x9_2 < (t507.length : Int) then (if rdOf false t507 x9_2 = true then (spec_SafeDown.l1 k2 x5_2 t507 t510 x8_2 (wrap64 (x9_2 + 1)) l0_0) else (if x9_2 < (t510.length : Int) then (if rdOf false t510 x9_2 = true then (if x9_2 < (l0_0.length : Int) then (if (((rd_T77 l0_0 x9_2).f5).length : Int) = 0 then (spec_SafeDown.l1 k2 (x5_2.set (x9_2 : Int).toNat false) t507 t510 true (wrap64 (x9_2 + 1)) l0_0) else ((spec_l12Each.f k2 x5_2 ((rd_T77 l0_0 x9_2).f5)).bind fun t519 => (if t519 = true then (spec_SafeDown.l1 k2 x5_2 t507 t510 x8_2 (wrap64 (x9_2 + 1)) l0_0) else (spec_SafeDown.l1 k2 (x5_2.set (x9_2 : Int).toNat false) t507 t510 true (wrap64 (x9_2 + 1)) l0_0)))) else (none)) else (spec_SafeDown.l1 k2 (x5_2.set (x9_2 : Int).toNat false) t507 t510 true (wrap64 (x9_2 + 1)) l0_0)) else (none))) else (none)) else (spec_SafeDown.l1 k2 x5_2 t507 t510 x8_2 (wrap64 (x9_2 + 1)) l0_0)) = some r := by rw [← hbq25] at H; exact H
         have Nbq25 := Aside0.mk hbq25
         clear hbq25
         by_cases c26 : bq25 = true
         ·subst c26
          rw [if_pos rfl] at H
          by_cases c27 : x9_2 < (t507.length : Int)
          ·rw [if_pos c27] at H
           have c27b0 : decide (x9_2 < (t507.length : Int)) = true := decide_eq_true c27
           clear c27
           obtain ⟨bq28, hbq28⟩ : ∃ b_ : Bool, b_ = (rdOf false t507 x9_2) := ⟨_, rfl⟩
           replace H : (if bq28 = true then (spec_SafeDown.l1 k2 x5_2 t507 t510 x8_2 (wrap64 (x9_2 + 1)) l0_0) else (if x9_2 < (t510.length : Int) then (if rdOf false t510 x9_2 = true then (if x9_2 < (l0_0.length : Int) then (if (((rd_T77 l0_0 x9_2).f5).length : Int) = 0 then (spec_SafeDown.l1 k2 (x5_2.set (x9_2 : Int).toNat false) t507 t510 true (wrap64 (x9_2 + 1)) l0_0) else ((spec_l12Each.f k2 x5_2 ((rd_T77 l0_0 x9_2).f5)).bind fun t519 => (if t519 = true then (spec_SafeDown.l1 k2 x5_2 t507 t510 x8_2 (wrap64 (x9_2 + 1)) l0_0) else (spec_SafeDown.l1 k2 (x5_2.set (x9_2 : Int).toNat false) t507 t510 true (wrap64 (x9_2 + 1)) l0_0)))) else (none)) else (spec_SafeDown.l1 k2 (x5_2.set (x9_2 : Int).toNat false) t507 t510 true (wrap64 (x9_2 + 1)) l0_0)) else (none))) = some r := by rw [← hbq28] at H; exact H
           have Nbq28 := Aside0.mk hbq28
           clear hbq28
           by_cases c29 : bq28 = true
           ·subst c29
            rw [if_pos rfl] at H
            have H' := Aside0.mk H
            clear H
            obtain ⟨Ao30, co30, eo30⟩ := Kd.R_slice HO_5.out
            subst eo30
            have p513 : 0 ≤ (x9_2 : Int) := oda
            have q513 : x9_2 < (x5_2.length : Int) := oda
            obtain ⟨ad513, e513, hx513_0⟩ := Kd.at_bool (Kd.R_reads' HO_5.out).2.2 x9_2 p513 q513
            (try rw [← Nbq25.out] at hx513_0)
            (try rw [← Nbq28.out] at hx513_0)
            cases e513
            replace p513 := eq_true p513
            replace q513 := eq_true q513
            obtain ⟨Ao31, co31, eo31⟩ := Kd.R_slice HO_6.out
            subst eo31
            have p514 : 0 ≤ (x9_2 : Int) := oda
            have q514 : x9_2 < (t507.length : Int) := oda
            obtain ⟨ad514, e514, hx514_0⟩ := Kd.at_bool (Kd.R_reads' HO_6.out).2.2 x9_2 p514 q514
            (try rw [← Nbq25.out] at hx514_0)
            (try rw [← Nbq28.out] at hx514_0)
            cases e514
            replace p514 := eq_true p514
            replace q514 := eq_true q514
            go_wp2
            go_roundg k2
            case measure => have := HK1.out; have := HK2.out; omega
            case rel => exact ⟨(x5_2), (x8_2), (wrap64 (x9_2 + 1)), (by first | rfl | (simp; done) | (simp [*]; done)), (by first | rfl | (simp; done) | (simp [*]; done)), H', ⟨by have := HK1.out; have := HK2.out; omega⟩, ⟨Rq HO_5.out⟩, ⟨Rq HO_6.out⟩, ⟨Rq HO_7.out⟩, ⟨bkq BK498⟩, ⟨bkq BK499⟩, ⟨bwq HB⟩⟩
           ·replace c29 := Bool.eq_false_iff.mpr c29
            subst c29
            have H1 : (if x9_2 < (t510.length : Int) then (if rdOf false t510 x9_2 = true then (if x9_2 < (l0_0.length : Int) then (if (((rd_T77 l0_0 x9_2).f5).length : Int) = 0 then (spec_SafeDown.l1 k2 (x5_2.set (x9_2 : Int).toNat false) t507 t510 true (wrap64 (x9_2 + 1)) l0_0) else ((spec_l12Each.f k2 x5_2 ((rd_T77 l0_0 x9_2).f5)).bind fun t519 => (if t519 = true then (spec_SafeDown.l1 k2 x5_2 t507 t510 x8_2 (wrap64 (x9_2 + 1)) l0_0) else (spec_SafeDown.l1 k2 (x5_2.set (x9_2 : Int).toNat false) t507 t510 true (wrap64 (x9_2 + 1)) l0_0)))) else (none)) else (spec_SafeDown.l1 k2 (x5_2.set (x9_2 : Int).toNat false) t507 t510 true (wrap64 (x9_2 + 1)) l0_0)) else (none)) = some r := by rw [if_neg (show ¬ (false = true) by decide)] at H; exact H
            clear H
            have H := H1
            clear H1
            by_cases c32 : x9_2 < (t510.length : Int)
            ·rw [if_pos c32] at H
             have c32b0 : decide (x9_2 < (t510.length : Int)) = true := decide_eq_true c32
             clear c32
             obtain ⟨bq33, hbq33⟩ : ∃ b_ : Bool, b_ = (rdOf false t510 x9_2) := ⟨_, rfl⟩
             replace H : (if bq33 = true then (if x9_2 < (l0_0.length : Int) then (if (((rd_T77 l0_0 x9_2).f5).length : Int) = 0 then (spec_SafeDown.l1 k2 (x5_2.set (x9_2 : Int).toNat false) t507 t510 true (wrap64 (x9_2 + 1)) l0_0) else ((spec_l12Each.f k2 x5_2 ((rd_T77 l0_0 x9_2).f5)).bind fun t519 => (if t519 = true then (spec_SafeDown.l1 k2 x5_2 t507 t510 x8_2 (wrap64 (x9_2 + 1)) l0_0) else (spec_SafeDown.l1 k2 (x5_2.set (x9_2 : Int).toNat false) t507 t510 true (wrap64 (x9_2 + 1)) l0_0)))) else (none)) else (spec_SafeDown.l1 k2 (x5_2.set (x9_2 : Int).toNat false) t507 t510 true (wrap64 (x9_2 + 1)) l0_0)) = some r := by rw [← hbq33] at H; exact H
             have Nbq33 := Aside0.mk hbq33
             clear hbq33
             by_cases c34 : bq33 = true
             ·subst c34
              rw [if_pos rfl] at H
              by_cases c35 : x9_2 < (l0_0.length : Int)
              ·rw [if_pos c35] at H
               have c35b0 : decide (x9_2 < (l0_0.length : Int)) = true := decide_eq_true c35
               clear c35
               by_cases c36 : (((rd_T77 l0_0 x9_2).f5).length : Int) = 0
               ·rw [if_pos c36] at H
                have c36b0 : ((((rd_T77 l0_0 x9_2).f5).length : Int) == 0) = true := beq_iff_eq.mpr c36
                have c36b1 : ((((rd_T77 l0_0 x9_2).f5).length : Int) != 0) = false := bne_eq_false_iff_eq.mpr c36
                clear c36
                obtain ⟨y517, hy517⟩ : ∃ y_ : List Bool, y_ = (x5_2.set (x9_2 : Int).toNat false) := ⟨_, rfl⟩
                replace H : (spec_SafeDown.l1 k2 y517 t507 t510 true (wrap64 (x9_2 + 1)) l0_0) = some r := by first | (rw [hy517]; with_reducible exact H) | (have H2_ := (Option.bind_some _ _).symm.trans H; rw [hy517]; with_reducible exact H2_) | (have H2_ := (Option.bind_some _ _).symm.trans H; with_reducible exact H2_) | with_reducible exact H | (rw [hy517]; exact H) | exact H
                have Ny517 := Aside0.mk hy517
                clear hy517
                have H' := Aside0.mk H
                clear H
                obtain ⟨Ao38, co38, eo38⟩ := Kd.R_slice HO_5.out
                subst eo38
                have p513 : 0 ≤ (x9_2 : Int) := oda
                have q513 : x9_2 < (x5_2.length : Int) := oda
                obtain ⟨ad513, e513, hx513_0⟩ := Kd.at_bool (Kd.R_reads' HO_5.out).2.2 x9_2 p513 q513
                (try rw [← Nbq25.out] at hx513_0)
                (try rw [← Nbq28.out] at hx513_0)
                (try rw [← Nbq33.out] at hx513_0)
                cases e513
                replace p513 := eq_true p513
                replace q513 := eq_true q513
                obtain ⟨Ao39, co39, eo39⟩ := Kd.R_slice HO_6.out
                subst eo39
                have p514 : 0 ≤ (x9_2 : Int) := oda
                have q514 : x9_2 < (t507.length : Int) := oda
                obtain ⟨ad514, e514, hx514_0⟩ := Kd.at_bool (Kd.R_reads' HO_6.out).2.2 x9_2 p514 q514
                (try rw [← Nbq25.out] at hx514_0)
                (try rw [← Nbq28.out] at hx514_0)
                (try rw [← Nbq33.out] at hx514_0)
                cases e514
                replace p514 := eq_true p514
                replace q514 := eq_true q514
                obtain ⟨Ao40, co40, eo40⟩ := Kd.R_slice HO_7.out
                subst eo40
                have p515 : 0 ≤ (x9_2 : Int) := oda
                have q515 : x9_2 < (t510.length : Int) := oda
                obtain ⟨ad515, e515, hx515_0⟩ := Kd.at_bool (Kd.R_reads' HO_7.out).2.2 x9_2 p515 q515
                (try rw [← Nbq25.out] at hx515_0)
                (try rw [← Nbq28.out] at hx515_0)
                (try rw [← Nbq33.out] at hx515_0)
                cases e515
                replace p515 := eq_true p515
                replace q515 := eq_true q515
                have hnb41 := NB498_499.out
                have hnc41 := NB499_498.out
                obtain ⟨hcz42, hfz42⟩ := bcf BK498
                have p516 : 0 ≤ (x9_2 : Int) := oda
                have q516 : x9_2 < (l0_0.length : Int) := oda
                obtain ⟨ad516, A516_7, c516_7, e516, hx516_0, hx516_1, hx516_2, hx516_3, hx516_4, hx516_5, hx516_6, hx516_7, hl516_7, hi516_7⟩ := at_T77 HR0_0.out x9_2 p516 q516
                cases e516
                replace hx516_0 := hxb HB hx516_0
                replace hx516_1 := hxb HB hx516_1
                replace hx516_2 := hxb HB hx516_2
                replace hx516_3 := hxb HB hx516_3
                replace hx516_4 := hxb HB hx516_4
                replace hx516_5 := hxb HB hx516_5
                replace hx516_6 := hxb HB hx516_6
                replace hx516_7 := hxb HB hx516_7
                have HR516_7 := Aside0.mk hi516_7
                have HC516_7 := Aside0.mk hl516_7
                clear hi516_7 hl516_7
                replace p516 := eq_true p516
                replace q516 := eq_true q516
                have p37 : 0 ≤ (x9_2 : Int) := oda
                have q37 : (x9_2 : Int) < ((x5_2.length : Int) : Int) := oda
                obtain ⟨go37, co37, eo37, gb37, gl37, cl37, HG37⟩ := Kd.R_form HO_5.out (by omega)
                (first | cases eo37 | (injection eo37 with ea_ en_ ec_; (first | subst ea_ | (injection ea_ with ea_; subst ea_)); subst ec_; clear en_))
                have GB37 := Aside0.mk gb37
                have GG37 := Aside0.mk HG37
                clear gb37 gl37 HG37
                (first | simp only [add_plain] at hx513_0 | skip)
                obtain ⟨hx37_0, hf37_0⟩ := Kd.R_celln false HO_5.out (x9_2 : Int) p37 q37
                replace p37 := eq_true p37
                replace q37 := eq_true q37
                have HP43 := Kd.R_putg HO_5.out (x9_2 : Int) false
                go_wp2_with (first | ((with_reducible refine gate_store (t := 4) (p := 71) rfl ?_); refine store_event (t := 4) (p := 71) (v := ?vo_w44) (w1 := (wr.setCell ⟨go37, (x9_2 : Int).toNat, none⟩ (.bool false))) ?hg ?ho ?hn ?hr ?_; (case ho => rfl); (case hg => rfl); (case hn => rfl); (case hr => first | (go_simp; done) | (go_simp; rfl) | (go_simp; rfl)); intro w44 hw; have hg : wr.grownBy w44 (some go37) := (by rw [hw]; exact HP43.2); have hp_ : Kd.R Kd.bool 4 w44 w.heap.size (fun k_ => some k_ ≠ (.slice (some ad514) t507.length co39 : Value).ownBlock ∧ some k_ ≠ (.slice (some ad515) t510.length co40 : Value).ownBlock) (.slice (some ⟨go37, 0, none⟩) x5_2.length co38) y517 := (by rw [hw, Ny517.out]; exact HP43.1); clear HP43; replace HO_6 := Aside0.mk (Kd.R_after (v := (.slice (some ⟨go37, 0, none⟩) x5_2.length co38)) (v1 := (.slice (some ⟨go37, 0, none⟩) x5_2.length co38)) (ok := (fun k_ => some k_ ≠ (.slice (some ad515) t510.length co40 : Value).ownBlock)) (by (with_reducible repeat (first | apply Kd.R_alloc | apply Kd.R_drewN | apply Kd.R_drew)); exact Kd.R_mono HO_6.out (fun _ hk => ⟨hk.2, hk.1⟩)) hg (.inl rfl)); replace HO_7 := Aside0.mk (Kd.R_after (v := (.slice (some ⟨go37, 0, none⟩) x5_2.length co38)) (v1 := (.slice (some ⟨go37, 0, none⟩) x5_2.length co38)) (ok := (fun k_ => some k_ ≠ (.slice (some ad514) t507.length co39 : Value).ownBlock)) (by (with_reducible repeat (first | apply Kd.R_alloc | apply Kd.R_drewN | apply Kd.R_drew)); exact Kd.R_mono HO_7.out (fun _ hk => ⟨hk.2, hk.1⟩)) hg (.inl rfl)); replace BK498 := Aside0.mk (blk_grown (g := gb498) (o := .cells #[.slice (some ad516) l0_0.length c0_0] 38 (0, 0)) (bkq BK498) hg (Kd.R_ne HO_5.out BK498.out (by decide))); replace BK499 := Aside0.mk (blk_grown (g := gb499) (o := .cells #[.int .i64 a1_0, .int .i64 a1_1, .int .i64 a1_2, .int .i64 a1_3, .int .i64 a1_4] 42 (0, 0)) (bkq BK499) hg (Kd.R_ne HO_5.out BK499.out (by decide))); replace HO_5 := Aside0.mk (hp_); replace HB := Aside0.mk ((by rw [hw]; exact below_set (HB.out) GB37.out : Below w.heap.size w w44)); clear hg hw hp_))
                go_roundg k2
                case measure => have := HK1.out; have := HK2.out; omega
                case rel => exact ⟨(y517), (true), (wrap64 (x9_2 + 1)), (by first | rfl | (simp; done) | (simp [*]; done)), (by first | rfl | (simp; done) | (simp [*]; done)), H', ⟨by have := HK1.out; have := HK2.out; omega⟩, ⟨Rq HO_5.out⟩, ⟨by (with_reducible repeat (first | apply Kd.R_alloc | apply Kd.R_drewN | apply Kd.R_drew)); exact Kd.R_mono HO_6.out (fun _ hk => ⟨hk.2, hk.1⟩)⟩, ⟨by (with_reducible repeat (first | apply Kd.R_alloc | apply Kd.R_drewN | apply Kd.R_drew)); exact Kd.R_mono HO_7.out (fun _ hk => ⟨hk.2, hk.1⟩)⟩, ⟨bkq BK498⟩, ⟨bkq BK499⟩, ⟨bwq HB⟩⟩
               ·rw [if_neg c36] at H
                have c36b0 : ((((rd_T77 l0_0 x9_2).f5).length : Int) == 0) = false := beq_eq_false_iff_ne.mpr c36
                have c36b1 : ((((rd_T77 l0_0 x9_2).f5).length : Int) != 0) = true := bne_iff_ne.mpr c36
                have c36b2 : ¬ (((rd_T77 l0_0 x9_2).f5) = []) := fun h_ => c36 (by rw [h_]; rfl)
                replace H := Option.bind_eq_some_iff.mp H
                obtain ⟨t519, A450, H⟩ := H
                have A45 := Aside0.mk A450
                clear A450
                by_cases c46 : t519 = true
                ·subst c46
                 rw [if_pos rfl] at H
                 have H' := Aside0.mk H
                 clear H
                 obtain ⟨Ao47, co47, eo47⟩ := Kd.R_slice HO_5.out
                 subst eo47
                 have p513 : 0 ≤ (x9_2 : Int) := oda
                 have q513 : x9_2 < (x5_2.length : Int) := oda
                 obtain ⟨ad513, e513, hx513_0⟩ := Kd.at_bool (Kd.R_reads' HO_5.out).2.2 x9_2 p513 q513
                 (try rw [← Nbq25.out] at hx513_0)
                 (try rw [← Nbq28.out] at hx513_0)
                 (try rw [← Nbq33.out] at hx513_0)
                 cases e513
                 replace p513 := eq_true p513
                 replace q513 := eq_true q513
                 obtain ⟨Ao48, co48, eo48⟩ := Kd.R_slice HO_6.out
                 subst eo48
                 have p514 : 0 ≤ (x9_2 : Int) := oda
                 have q514 : x9_2 < (t507.length : Int) := oda
                 obtain ⟨ad514, e514, hx514_0⟩ := Kd.at_bool (Kd.R_reads' HO_6.out).2.2 x9_2 p514 q514
                 (try rw [← Nbq25.out] at hx514_0)
                 (try rw [← Nbq28.out] at hx514_0)
                 (try rw [← Nbq33.out] at hx514_0)
                 cases e514
                 replace p514 := eq_true p514
                 replace q514 := eq_true q514
                 obtain ⟨Ao49, co49, eo49⟩ := Kd.R_slice HO_7.out
                 subst eo49
                 have p515 : 0 ≤ (x9_2 : Int) := oda
                 have q515 : x9_2 < (t510.length : Int) := oda
                 obtain ⟨ad515, e515, hx515_0⟩ := Kd.at_bool (Kd.R_reads' HO_7.out).2.2 x9_2 p515 q515
                 (try rw [← Nbq25.out] at hx515_0)
                 (try rw [← Nbq28.out] at hx515_0)
                 (try rw [← Nbq33.out] at hx515_0)
                 cases e515
                 replace p515 := eq_true p515
                 replace q515 := eq_true q515
                 have hnb50 := NB498_499.out
                 have hnc50 := NB499_498.out
                 obtain ⟨hcz51, hfz51⟩ := bcf BK498
                 have p516 : 0 ≤ (x9_2 : Int) := oda
                 have q516 : x9_2 < (l0_0.length : Int) := oda
                 obtain ⟨ad516, A516_7, c516_7, e516, hx516_0, hx516_1, hx516_2, hx516_3, hx516_4, hx516_5, hx516_6, hx516_7, hl516_7, hi516_7⟩ := at_T77 HR0_0.out x9_2 p516 q516
                 cases e516
                 replace hx516_0 := hxb HB hx516_0
                 replace hx516_1 := hxb HB hx516_1
                 replace hx516_2 := hxb HB hx516_2
                 replace hx516_3 := hxb HB hx516_3
                 replace hx516_4 := hxb HB hx516_4
                 replace hx516_5 := hxb HB hx516_5
                 replace hx516_6 := hxb HB hx516_6
                 replace hx516_7 := hxb HB hx516_7
                 have HR516_7 := Aside0.mk hi516_7
                 have HC516_7 := Aside0.mk hl516_7
                 clear hi516_7 hl516_7
                 replace p516 := eq_true p516
                 replace q516 := eq_true q516
                 have p518 : 0 ≤ (x9_2 : Int) := oda
                 have q518 : x9_2 < (l0_0.length : Int) := oda
                 obtain ⟨ad518, A518_7, c518_7, e518, hx518_0, hx518_1, hx518_2, hx518_3, hx518_4, hx518_5, hx518_6, hx518_7, hl518_7, hi518_7⟩ := at_T77 HR0_0.out x9_2 p518 q518
                 obtain rfl : ad516 = ad518 := (by injection e518)
                 replace hx518_0 := hxb HB hx518_0
                 replace hx518_1 := hxb HB hx518_1
                 replace hx518_2 := hxb HB hx518_2
                 replace hx518_3 := hxb HB hx518_3
                 replace hx518_4 := hxb HB hx518_4
                 replace hx518_5 := hxb HB hx518_5
                 replace hx518_6 := hxb HB hx518_6
                 replace hx518_7 := hxb HB hx518_7
                 have HR518_7 := Aside0.mk hi518_7
                 have HC518_7 := Aside0.mk hl518_7
                 clear hi518_7 hl518_7
                 replace p518 := eq_true p518
                 replace q518 := eq_true q518
                 have ea_ := Option.some.inj (hx516_7.symm.trans hx518_7)
                 injection ea_ with ea_ en_ ec_
                 subst ea_
                 subst ec_
                 clear en_
                 go_wp2_with (first | (go_at_call 68; (with_reducible refine (spec_l12Each.calls k2 _ _ x5_2 _ _ ((rd_T77 l0_0 x9_2).f5) true _ ?side1 ?side2 ?side3 ?side4 A45.out).mono ?_); (case side1 => repeat (first | exact (Kd.R_reads' HO_5.out).2.2 | (with_reducible refine Kd.C_alloc ?_ _) | (with_reducible refine Kd.C_drewN ?_ _) | (with_reducible refine Kd.C_drew ?_))); (case side2 => exact (Kd.R_reads' HO_5.out).2.1); (case side3 => exact Cq (Kd.C_below HR518_7.out HB.out)); (case side4 => exact HC518_7.out); rintro e w' ⟨rfl, ⟨nd, rfl⟩⟩))
                 go_roundg k2
                 case measure => have := HK1.out; have := HK2.out; omega
                 case rel => exact ⟨(x5_2), (x8_2), (wrap64 (x9_2 + 1)), (by first | rfl | (simp; done) | (simp [*]; done)), (by first | rfl | (simp; done) | (simp [*]; done)), H', ⟨by have := HK1.out; have := HK2.out; omega⟩, ⟨Rq HO_5.out⟩, ⟨Rq HO_6.out⟩, ⟨Rq HO_7.out⟩, ⟨bkq BK498⟩, ⟨bkq BK499⟩, ⟨bwq HB⟩⟩
                ·replace c46 := Bool.eq_false_iff.mpr c46
                 subst c46
                 have H1 : (spec_SafeDown.l1 k2 (x5_2.set (x9_2 : Int).toNat false) t507 t510 true (wrap64 (x9_2 + 1)) l0_0) = some r := by rw [if_neg (show ¬ (false = true) by decide)] at H; exact H
                 clear H
                 have H := H1
                 clear H1
                 obtain ⟨y520, hy520⟩ : ∃ y_ : List Bool, y_ = (x5_2.set (x9_2 : Int).toNat false) := ⟨_, rfl⟩
                 replace H : (spec_SafeDown.l1 k2 y520 t507 t510 true (wrap64 (x9_2 + 1)) l0_0) = some r := by first | (rw [hy520]; with_reducible exact H) | (have H2_ := (Option.bind_some _ _).symm.trans H; rw [hy520]; with_reducible exact H2_) | (have H2_ := (Option.bind_some _ _).symm.trans H; with_reducible exact H2_) | with_reducible exact H | (rw [hy520]; exact H) | exact H
                 have Ny520 := Aside0.mk hy520
                 clear hy520
                 have H' := Aside0.mk H
                 clear H
                 obtain ⟨Ao53, co53, eo53⟩ := Kd.R_slice HO_5.out
                 subst eo53
                 have p513 : 0 ≤ (x9_2 : Int) := oda
                 have q513 : x9_2 < (x5_2.length : Int) := oda
                 obtain ⟨ad513, e513, hx513_0⟩ := Kd.at_bool (Kd.R_reads' HO_5.out).2.2 x9_2 p513 q513
                 (try rw [← Nbq25.out] at hx513_0)
                 (try rw [← Nbq28.out] at hx513_0)
                 (try rw [← Nbq33.out] at hx513_0)
                 cases e513
                 replace p513 := eq_true p513
                 replace q513 := eq_true q513
                 obtain ⟨Ao54, co54, eo54⟩ := Kd.R_slice HO_6.out
                 subst eo54
                 have p514 : 0 ≤ (x9_2 : Int) := oda
                 have q514 : x9_2 < (t507.length : Int) := oda
                 obtain ⟨ad514, e514, hx514_0⟩ := Kd.at_bool (Kd.R_reads' HO_6.out).2.2 x9_2 p514 q514
                 (try rw [← Nbq25.out] at hx514_0)
                 (try rw [← Nbq28.out] at hx514_0)
                 (try rw [← Nbq33.out] at hx514_0)
                 cases e514
                 replace p514 := eq_true p514
                 replace q514 := eq_true q514
                 obtain ⟨Ao55, co55, eo55⟩ := Kd.R_slice HO_7.out
                 subst eo55
                 have p515 : 0 ≤ (x9_2 : Int) := oda
                 have q515 : x9_2 < (t510.length : Int) := oda
                 obtain ⟨ad515, e515, hx515_0⟩ := Kd.at_bool (Kd.R_reads' HO_7.out).2.2 x9_2 p515 q515
                 (try rw [← Nbq25.out] at hx515_0)
                 (try rw [← Nbq28.out] at hx515_0)
                 (try rw [← Nbq33.out] at hx515_0)
                 cases e515
                 replace p515 := eq_true p515
                 replace q515 := eq_true q515
                 have hnb56 := NB498_499.out
                 have hnc56 := NB499_498.out
                 obtain ⟨hcz57, hfz57⟩ := bcf BK498
                 have p516 : 0 ≤ (x9_2 : Int) := oda
                 have q516 : x9_2 < (l0_0.length : Int) := oda
                 obtain ⟨ad516, A516_7, c516_7, e516, hx516_0, hx516_1, hx516_2, hx516_3, hx516_4, hx516_5, hx516_6, hx516_7, hl516_7, hi516_7⟩ := at_T77 HR0_0.out x9_2 p516 q516
                 cases e516
                 replace hx516_0 := hxb HB hx516_0
                 replace hx516_1 := hxb HB hx516_1
                 replace hx516_2 := hxb HB hx516_2
                 replace hx516_3 := hxb HB hx516_3
                 replace hx516_4 := hxb HB hx516_4
                 replace hx516_5 := hxb HB hx516_5
                 replace hx516_6 := hxb HB hx516_6
                 replace hx516_7 := hxb HB hx516_7
                 have HR516_7 := Aside0.mk hi516_7
                 have HC516_7 := Aside0.mk hl516_7
                 clear hi516_7 hl516_7
                 replace p516 := eq_true p516
                 replace q516 := eq_true q516
                 have p518 : 0 ≤ (x9_2 : Int) := oda
                 have q518 : x9_2 < (l0_0.length : Int) := oda
                 obtain ⟨ad518, A518_7, c518_7, e518, hx518_0, hx518_1, hx518_2, hx518_3, hx518_4, hx518_5, hx518_6, hx518_7, hl518_7, hi518_7⟩ := at_T77 HR0_0.out x9_2 p518 q518
                 obtain rfl : ad516 = ad518 := (by injection e518)
                 replace hx518_0 := hxb HB hx518_0
                 replace hx518_1 := hxb HB hx518_1
                 replace hx518_2 := hxb HB hx518_2
                 replace hx518_3 := hxb HB hx518_3
                 replace hx518_4 := hxb HB hx518_4
                 replace hx518_5 := hxb HB hx518_5
                 replace hx518_6 := hxb HB hx518_6
                 replace hx518_7 := hxb HB hx518_7
                 have HR518_7 := Aside0.mk hi518_7
                 have HC518_7 := Aside0.mk hl518_7
                 clear hi518_7 hl518_7
                 replace p518 := eq_true p518
                 replace q518 := eq_true q518
                 have ea_ := Option.some.inj (hx516_7.symm.trans hx518_7)
                 injection ea_ with ea_ en_ ec_
                 subst ea_
                 subst ec_
                 clear en_
                 go_wp2_with (first | (go_at_call 68; (with_reducible refine (spec_l12Each.calls k2 _ _ x5_2 _ _ ((rd_T77 l0_0 x9_2).f5) false _ ?side1 ?side2 ?side3 ?side4 A45.out).mono ?_); (case side1 => repeat (first | exact (Kd.R_reads' HO_5.out).2.2 | (with_reducible refine Kd.C_alloc ?_ _) | (with_reducible refine Kd.C_drewN ?_ _) | (with_reducible refine Kd.C_drew ?_))); (case side2 => exact (Kd.R_reads' HO_5.out).2.1); (case side3 => exact Cq (Kd.C_below HR518_7.out HB.out)); (case side4 => exact HC518_7.out); rintro e w' ⟨rfl, ⟨nd, rfl⟩⟩; (try (rw [drewN_self wr]; generalize hq_ : World.drewN wr _ = wr; have n0_ : Aside0 (Kd.R Kd.bool 4 wr w.heap.size (fun k_ => some k_ ≠ (.slice (some ad514) t507.length co54 : Value).ownBlock ∧ some k_ ≠ (.slice (some ad515) t510.length co55 : Value).ownBlock) (.slice (some ad513) x5_2.length co53) x5_2) := ⟨by rw [← hq_]; exact (Rq HO_5.out)⟩; have n1_ : Aside0 (Kd.R Kd.bool 4 wr w.heap.size (fun k_ => some k_ ≠ (.slice (some ad513) x5_2.length co53 : Value).ownBlock ∧ some k_ ≠ (.slice (some ad515) t510.length co55 : Value).ownBlock) (.slice (some ad514) t507.length co54) t507) := ⟨by rw [← hq_]; exact (Rq HO_6.out)⟩; have n2_ : Aside0 (Kd.R Kd.bool 4 wr w.heap.size (fun k_ => some k_ ≠ (.slice (some ad513) x5_2.length co53 : Value).ownBlock ∧ some k_ ≠ (.slice (some ad514) t507.length co54 : Value).ownBlock) (.slice (some ad515) t510.length co55) t510) := ⟨by rw [← hq_]; exact (Rq HO_7.out)⟩; have n3_ : Aside0 (wr.heap[gb498]? = some (.cells #[.slice (some ad516) l0_0.length c0_0] 38 (0, 0))) := ⟨by rw [← hq_]; exact (bkq BK498)⟩; have n4_ : Aside0 (wr.heap[gb499]? = some (.cells #[.int .i64 a1_0, .int .i64 a1_1, .int .i64 a1_2, .int .i64 a1_3, .int .i64 a1_4] 42 (0, 0))) := ⟨by rw [← hq_]; exact (bkq BK499)⟩; have n5_ : Aside0 (Below w.heap.size w wr) := ⟨by rw [← hq_]; exact (bwq HB)⟩; clear HO_5 HO_6 HO_7 BK498 BK499 HB hq_; have HO_5 := n0_; have HO_6 := n1_; have HO_7 := n2_; have BK498 := n3_; have BK499 := n4_; have HB := n5_; clear n0_ n1_ n2_ n3_ n4_ n5_)); have p52 : 0 ≤ (x9_2 : Int) := oda; have q52 : (x9_2 : Int) < ((x5_2.length : Int) : Int) := oda; obtain ⟨go52, co52, eo52, gb52, gl52, cl52, HG52⟩ := Kd.R_form HO_5.out (by omega); (first | cases eo52 | (injection eo52 with ea_ en_ ec_; (first | subst ea_ | (injection ea_ with ea_; subst ea_)); subst ec_; clear en_)); have GB52 := Aside0.mk gb52; have GG52 := Aside0.mk HG52; clear gb52 gl52 HG52; (first | simp only [add_plain] at hx513_0 | skip); obtain ⟨hx52_0, hf52_0⟩ := Kd.R_celln false HO_5.out (x9_2 : Int) p52 q52; replace p52 := eq_true p52; replace q52 := eq_true q52; obtain ⟨hy58_, hz58_⟩ := Kd.R_celln false HO_5.out (x9_2 : Int) (oda) (oda); have HP58 := Kd.R_putg HO_5.out (x9_2 : Int) false) | ((with_reducible refine gate_store (t := 4) (p := 71) rfl ?_); refine store_event (t := 4) (p := 71) (v := ?vo_w59) (w1 := (wr.setCell ⟨go52, (x9_2 : Int).toNat, none⟩ (.bool false))) ?hg ?ho ?hn ?hr ?_; (case ho => rfl); (case hg => rfl); (case hn => rfl); (case hr => first | (go_simp; done) | (go_simp; rfl) | (go_simp; rfl)); intro w59 hw; have hg : wr.grownBy w59 (some go52) := (by rw [hw]; exact HP58.2); have hp_ : Kd.R Kd.bool 4 w59 w.heap.size (fun k_ => some k_ ≠ (.slice (some ad514) t507.length co54 : Value).ownBlock ∧ some k_ ≠ (.slice (some ad515) t510.length co55 : Value).ownBlock) (.slice (some ⟨go52, 0, none⟩) x5_2.length co53) y520 := (by rw [hw, Ny520.out]; exact HP58.1); clear HP58; replace HO_6 := Aside0.mk (Kd.R_after (v := (.slice (some ⟨go52, 0, none⟩) x5_2.length co53)) (v1 := (.slice (some ⟨go52, 0, none⟩) x5_2.length co53)) (ok := (fun k_ => some k_ ≠ (.slice (some ad515) t510.length co55 : Value).ownBlock)) (by (with_reducible repeat (first | apply Kd.R_alloc | apply Kd.R_drewN | apply Kd.R_drew)); exact Kd.R_mono HO_6.out (fun _ hk => ⟨hk.2, hk.1⟩)) hg (.inl rfl)); replace HO_7 := Aside0.mk (Kd.R_after (v := (.slice (some ⟨go52, 0, none⟩) x5_2.length co53)) (v1 := (.slice (some ⟨go52, 0, none⟩) x5_2.length co53)) (ok := (fun k_ => some k_ ≠ (.slice (some ad514) t507.length co54 : Value).ownBlock)) (by (with_reducible repeat (first | apply Kd.R_alloc | apply Kd.R_drewN | apply Kd.R_drew)); exact Kd.R_mono HO_7.out (fun _ hk => ⟨hk.2, hk.1⟩)) hg (.inl rfl)); replace BK498 := Aside0.mk (blk_grown (g := gb498) (o := .cells #[.slice (some ad516) l0_0.length c0_0] 38 (0, 0)) (bkq BK498) hg (Kd.R_ne HO_5.out BK498.out (by decide))); replace BK499 := Aside0.mk (blk_grown (g := gb499) (o := .cells #[.int .i64 a1_0, .int .i64 a1_1, .int .i64 a1_2, .int .i64 a1_3, .int .i64 a1_4] 42 (0, 0)) (bkq BK499) hg (Kd.R_ne HO_5.out BK499.out (by decide))); replace HO_5 := Aside0.mk (hp_); replace HB := Aside0.mk ((by rw [hw]; exact below_set (HB.out) GB52.out : Below w.heap.size w w59)); clear hg hw hp_))
                 go_roundg k2
                 case measure => have := HK1.out; have := HK2.out; omega
                 case rel => exact ⟨(y520), (true), (wrap64 (x9_2 + 1)), (by first | rfl | (simp; done) | (simp [*]; done)), (by first | rfl | (simp; done) | (simp [*]; done)), H', ⟨by have := HK1.out; have := HK2.out; omega⟩, ⟨Rq HO_5.out⟩, ⟨by (with_reducible repeat (first | apply Kd.R_alloc | apply Kd.R_drewN | apply Kd.R_drew)); exact Kd.R_mono HO_6.out (fun _ hk => ⟨hk.2, hk.1⟩)⟩, ⟨by (with_reducible repeat (first | apply Kd.R_alloc | apply Kd.R_drewN | apply Kd.R_drew)); exact Kd.R_mono HO_7.out (fun _ hk => ⟨hk.2, hk.1⟩)⟩, ⟨bkq BK498⟩, ⟨bkq BK499⟩, ⟨bwq HB⟩⟩
              ·rw [if_neg c35] at H
               exact absurd H (by simp)
             ·replace c34 := Bool.eq_false_iff.mpr c34
              subst c34
              have H1 : (spec_SafeDown.l1 k2 (x5_2.set (x9_2 : Int).toNat false) t507 t510 true (wrap64 (x9_2 + 1)) l0_0) = some r := by rw [if_neg (show ¬ (false = true) by decide)] at H; exact H
              clear H
              have H := H1
              clear H1
              obtain ⟨y521, hy521⟩ : ∃ y_ : List Bool, y_ = (x5_2.set (x9_2 : Int).toNat false) := ⟨_, rfl⟩
              replace H : (spec_SafeDown.l1 k2 y521 t507 t510 true (wrap64 (x9_2 + 1)) l0_0) = some r := by first | (rw [hy521]; with_reducible exact H) | (have H2_ := (Option.bind_some _ _).symm.trans H; rw [hy521]; with_reducible exact H2_) | (have H2_ := (Option.bind_some _ _).symm.trans H; with_reducible exact H2_) | with_reducible exact H | (rw [hy521]; exact H) | exact H
              have Ny521 := Aside0.mk hy521
              clear hy521
              have H' := Aside0.mk H
              clear H
              obtain ⟨Ao61, co61, eo61⟩ := Kd.R_slice HO_5.out
              subst eo61
              have p513 : 0 ≤ (x9_2 : Int) := oda
              have q513 : x9_2 < (x5_2.length : Int) := oda
              obtain ⟨ad513, e513, hx513_0⟩ := Kd.at_bool (Kd.R_reads' HO_5.out).2.2 x9_2 p513 q513
              (try rw [← Nbq25.out] at hx513_0)
              (try rw [← Nbq28.out] at hx513_0)
              (try rw [← Nbq33.out] at hx513_0)
              cases e513
              replace p513 := eq_true p513
              replace q513 := eq_true q513
              obtain ⟨Ao62, co62, eo62⟩ := Kd.R_slice HO_6.out
              subst eo62
              have p514 : 0 ≤ (x9_2 : Int) := oda
              have q514 : x9_2 < (t507.length : Int) := oda
              obtain ⟨ad514, e514, hx514_0⟩ := Kd.at_bool (Kd.R_reads' HO_6.out).2.2 x9_2 p514 q514
              (try rw [← Nbq25.out] at hx514_0)
              (try rw [← Nbq28.out] at hx514_0)
              (try rw [← Nbq33.out] at hx514_0)
              cases e514
              replace p514 := eq_true p514
              replace q514 := eq_true q514
              obtain ⟨Ao63, co63, eo63⟩ := Kd.R_slice HO_7.out
              subst eo63
              have p515 : 0 ≤ (x9_2 : Int) := oda
              have q515 : x9_2 < (t510.length : Int) := oda
              obtain ⟨ad515, e515, hx515_0⟩ := Kd.at_bool (Kd.R_reads' HO_7.out).2.2 x9_2 p515 q515
              (try rw [← Nbq25.out] at hx515_0)
              (try rw [← Nbq28.out] at hx515_0)
              (try rw [← Nbq33.out] at hx515_0)
              cases e515
              replace p515 := eq_true p515
              replace q515 := eq_true q515
              have p60 : 0 ≤ (x9_2 : Int) := oda
              have q60 : (x9_2 : Int) < ((x5_2.length : Int) : Int) := oda
              obtain ⟨go60, co60, eo60, gb60, gl60, cl60, HG60⟩ := Kd.R_form HO_5.out (by omega)
              (first | cases eo60 | (injection eo60 with ea_ en_ ec_; (first | subst ea_ | (injection ea_ with ea_; subst ea_)); subst ec_; clear en_))
              have GB60 := Aside0.mk gb60
              have GG60 := Aside0.mk HG60
              clear gb60 gl60 HG60
              (first | simp only [add_plain] at hx513_0 | skip)
              obtain ⟨hx60_0, hf60_0⟩ := Kd.R_celln false HO_5.out (x9_2 : Int) p60 q60
              replace p60 := eq_true p60
              replace q60 := eq_true q60
              have HP64 := Kd.R_putg HO_5.out (x9_2 : Int) false
              go_wp2_with (first | ((with_reducible refine gate_store (t := 4) (p := 71) rfl ?_); refine store_event (t := 4) (p := 71) (v := ?vo_w65) (w1 := (wr.setCell ⟨go60, (x9_2 : Int).toNat, none⟩ (.bool false))) ?hg ?ho ?hn ?hr ?_; (case ho => rfl); (case hg => rfl); (case hn => rfl); (case hr => first | (go_simp; done) | (go_simp; rfl) | (go_simp; rfl)); intro w65 hw; have hg : wr.grownBy w65 (some go60) := (by rw [hw]; exact HP64.2); have hp_ : Kd.R Kd.bool 4 w65 w.heap.size (fun k_ => some k_ ≠ (.slice (some ad514) t507.length co62 : Value).ownBlock ∧ some k_ ≠ (.slice (some ad515) t510.length co63 : Value).ownBlock) (.slice (some ⟨go60, 0, none⟩) x5_2.length co61) y521 := (by rw [hw, Ny521.out]; exact HP64.1); clear HP64; replace HO_6 := Aside0.mk (Kd.R_after (v := (.slice (some ⟨go60, 0, none⟩) x5_2.length co61)) (v1 := (.slice (some ⟨go60, 0, none⟩) x5_2.length co61)) (ok := (fun k_ => some k_ ≠ (.slice (some ad515) t510.length co63 : Value).ownBlock)) (by (with_reducible repeat (first | apply Kd.R_alloc | apply Kd.R_drewN | apply Kd.R_drew)); exact Kd.R_mono HO_6.out (fun _ hk => ⟨hk.2, hk.1⟩)) hg (.inl rfl)); replace HO_7 := Aside0.mk (Kd.R_after (v := (.slice (some ⟨go60, 0, none⟩) x5_2.length co61)) (v1 := (.slice (some ⟨go60, 0, none⟩) x5_2.length co61)) (ok := (fun k_ => some k_ ≠ (.slice (some ad514) t507.length co62 : Value).ownBlock)) (by (with_reducible repeat (first | apply Kd.R_alloc | apply Kd.R_drewN | apply Kd.R_drew)); exact Kd.R_mono HO_7.out (fun _ hk => ⟨hk.2, hk.1⟩)) hg (.inl rfl)); replace BK498 := Aside0.mk (blk_grown (g := gb498) (o := .cells #[.slice A0_0 l0_0.length c0_0] 38 (0, 0)) (bkq BK498) hg (Kd.R_ne HO_5.out BK498.out (by decide))); replace BK499 := Aside0.mk (blk_grown (g := gb499) (o := .cells #[.int .i64 a1_0, .int .i64 a1_1, .int .i64 a1_2, .int .i64 a1_3, .int .i64 a1_4] 42 (0, 0)) (bkq BK499) hg (Kd.R_ne HO_5.out BK499.out (by decide))); replace HO_5 := Aside0.mk (hp_); replace HB := Aside0.mk ((by rw [hw]; exact below_set (HB.out) GB60.out : Below w.heap.size w w65)); clear hg hw hp_))
              go_roundg k2
              case measure => have := HK1.out; have := HK2.out; omega
              case rel => exact ⟨(y521), (true), (wrap64 (x9_2 + 1)), (by first | rfl | (simp; done) | (simp [*]; done)), (by first | rfl | (simp; done) | (simp [*]; done)), H', ⟨by have := HK1.out; have := HK2.out; omega⟩, ⟨Rq HO_5.out⟩, ⟨by (with_reducible repeat (first | apply Kd.R_alloc | apply Kd.R_drewN | apply Kd.R_drew)); exact Kd.R_mono HO_6.out (fun _ hk => ⟨hk.2, hk.1⟩)⟩, ⟨by (with_reducible repeat (first | apply Kd.R_alloc | apply Kd.R_drewN | apply Kd.R_drew)); exact Kd.R_mono HO_7.out (fun _ hk => ⟨hk.2, hk.1⟩)⟩, ⟨bkq BK498⟩, ⟨bkq BK499⟩, ⟨bwq HB⟩⟩
            ·rw [if_neg c32] at H
             exact absurd H (by simp)
          ·rw [if_neg c27] at H
           exact absurd H (by simp)
         ·replace c26 := Bool.eq_false_iff.mpr c26
          subst c26
          have H1 : (spec_SafeDown.l1 k2 x5_2 t507 t510 x8_2 (wrap64 (x9_2 + 1)) l0_0) = some r := by rw [if_neg (show ¬ (false = true) by decide)] at H; exact H
          clear H
          have H := H1
          clear H1
          have H' := Aside0.mk H
          clear H
          obtain ⟨Ao66, co66, eo66⟩ := Kd.R_slice HO_5.out
          subst eo66
          have p513 : 0 ≤ (x9_2 : Int) := oda
          have q513 : x9_2 < (x5_2.length : Int) := oda
          obtain ⟨ad513, e513, hx513_0⟩ := Kd.at_bool (Kd.R_reads' HO_5.out).2.2 x9_2 p513 q513
          (try rw [← Nbq25.out] at hx513_0)
          cases e513
          replace p513 := eq_true p513
          replace q513 := eq_true q513
          go_wp2
          go_roundg k2
          case measure => have := HK1.out; have := HK2.out; omega
          case rel => exact ⟨(x5_2), (x8_2), (wrap64 (x9_2 + 1)), (by first | rfl | (simp; done) | (simp [*]; done)), (by first | rfl | (simp; done) | (simp [*]; done)), H', ⟨by have := HK1.out; have := HK2.out; omega⟩, ⟨Rq HO_5.out⟩, ⟨Rq HO_6.out⟩, ⟨Rq HO_7.out⟩, ⟨bkq BK498⟩, ⟨bkq BK499⟩, ⟨bwq HB⟩⟩
        ·rw [if_neg c24] at H
         exact absurd H (by simp)
       ·rw [if_neg c23] at H
        have c23b0 : decide (x9_2 < (x5_2.length : Int)) = false := decide_eq_false c23
        clear c23
        have H' := Aside0.mk H
        clear H
        obtain ⟨Ao67, co67, eo67⟩ := Kd.R_slice HO_5.out
        subst eo67
        go_wp2
        go_roundg k2
        case measure => have := HK1.out; have := HK2.out; omega
        case rel => exact ⟨(x5_2), (x8_2), (by first | rfl | (simp; done) | (simp [*]; done)), H', ⟨by have := HK1.out; have := HK2.out; omega⟩, ⟨Rq HO_5.out⟩, ⟨Rq HO_6.out⟩, ⟨Rq HO_7.out⟩, ⟨bkq BK498⟩, ⟨bkq BK499⟩, ⟨bwq HB⟩⟩
    ·replace c22 := Bool.eq_false_iff.mpr c22
     subst c22
     have H1 : (some x5_1) = some r := by rw [if_neg (show ¬ (false = true) by decide)] at H; exact H
     clear H
     have H := H1
     clear H1
     obtain rfl := Option.some.inj H
     go_wp2
     go_ret
     exact ⟨_, by first | rfl | (simp [errW_none, errW_some] <;> rfl) | (simp [*, errW_none, errW_some] <;> rfl), by (with_reducible repeat (first | apply Kd.R_alloc | apply Kd.R_drewN | apply Kd.R_drew)); exact Kd.R_mono HO_5.out (fun _ hk => trivial), bwq HB⟩
 ·replace c4 := Bool.eq_false_iff.mpr c4
  subst c4
  have H1 : (some (([] : List Bool))) = some r := by rw [if_neg (show ¬ (false = true) by decide)] at H; exact H
  clear H
  have H := H1
  clear H1
  obtain ⟨y501, hy501⟩ : ∃ y_ : List Bool, y_ = (([] : List Bool)) := ⟨_, rfl⟩
  replace H : (some y501) = some r := by first | (rw [hy501]; with_reducible exact H) | (have H2_ := (Option.bind_some _ _).symm.trans H; rw [hy501]; with_reducible exact H2_) | (have H2_ := (Option.bind_some _ _).symm.trans H; with_reducible exact H2_) | with_reducible exact H | (rw [hy501]; exact H) | exact H
  have Ny501 := Aside0.mk hy501
  clear hy501
  obtain rfl := Option.some.inj H
  go_enter Try.func57, Try.ntmps57
  go_wp2_with (first | ((with_reducible refine gate_dst (N := 2) rfl ?_); (try (refine gate_guard (by rfl) ?_; dsimp only)); refine bxe (cs := #[.slice A0_0 l0_0.length c0_0]) (t := 38) ?_; intro gb498 hg w68 hbox hb; have BK498 := Aside0.mk (hbox); have GW498 := bwz HB hg; have GE498 := bwz HB hg; replace HB := bwb HB hb; clear hb hbox hg) | ((with_reducible refine gate_dst (N := 3) rfl ?_); (try (refine gate_guard (by rfl) ?_; dsimp only)); refine bxe (cs := #[.int .i64 a1_0, .int .i64 a1_1, .int .i64 a1_2, .int .i64 a1_3, .int .i64 a1_4]) (t := 42) ?_; intro gb499 hg w69 hbox hb; have BK499 := Aside0.mk (hbox); have GW499 := bwz HB hg; have GE499 := bwz HB hg; replace HB := bwb HB hb; have NB498_499 := bkl BK498 hg; have NB499_498 := bkg BK498 hg; replace BK498 := bkb BK498 hb; clear hb hbox hg; have hnb70 := NB498_499.out; have hnc70 := NB499_498.out; obtain ⟨hcz71, hfz71⟩ := bcf BK498; obtain ⟨hcz72, hfz72⟩ := bcf BK499) | ((with_reducible refine gate_callee (f := 63) rfl ?_); refine goesM (some 12) rfl rfl Try.func63 #[.agg #[.slice A0_0 l0_0.length c0_0], .agg #[.int .i64 a1_0, .int .i64 a1_1, .int .i64 a1_2, .int .i64 a1_3, .int .i64 a1_4]] rfl ?_; (with_reducible refine (spec_l12Ok.calls k _ _ l0_0 a1_0 a1_1 a1_2 a1_3 a1_4 false _ ?side1 ?side2 A3.out).mono ?_); (case side1 => exact Cq (Kd.C_below HR0_0.out HB.out)); (case side2 => exact HC0_0.out); rintro e w73 ⟨rfl, hb⟩; refine ⟨_, rfl, ?_⟩; replace BK498 := bkb BK498 hb; replace BK499 := bkb BK499 hb; replace HB := bwb HB hb; (try clear hb); (try clear hb2); (try clear hk); (try clear hi)) | ((with_reducible refine gate_dst (N := 14) rfl ?_); (try (refine gate_guard (by rfl) ?_; dsimp only)); refine Kd.R_lit Kd.bool _ 4 ?hg (N := 14) ?hd (xs := ([] : List Bool)) (inner := []) (ok := fun _ => True) (okp := fun _ => True) ?hr ?hp (fun _ hk => hk) trivial (Below.refl _ _) (Nat.le_refl _) (by simp) ?_; (case hd => rfl); (case hg => rfl); (case hr => first | (go_simp; done) | (go_simp; rfl) | (go_simp; rfl)); (case hp => exact (Reps.none _ _)); intro v502 w74 ho75 hb hg_ hnew_; clear hg_ hnew_; (first | rw [← Ny501.out] at ho75 | (simp only [Int.reduceToNat] at ho75; rw [← Ny501.out] at ho75)); have HO503 := Aside0.mk (Kd.R_lower ho75 (below_size (bwq HB))); replace BK498 := bkb BK498 hb; replace BK499 := bkb BK499 hb; replace HB := bwb HB hb; clear hb ho75))
  go_ret
  exact ⟨_, by first | rfl | (simp [errW_none, errW_some] <;> rfl) | (simp [*, errW_none, errW_some] <;> rfl), Rq HO503.out, bwq HB⟩
mutual
def spec_SafeUp.l0 : Nat → List Bool → List Bool → List Bool → List (List Int) → Bool → Option (List Bool)
 | 0, _, _, _, _, _ => none
 | k + 1, x5, x6, x7, x8, x9 => if x9 = true then (spec_SafeUp.l1 k x5 x6 x7 x8 false 0) else (some x5)
def spec_SafeUp.l1 : Nat → List Bool → List Bool → List Bool → List (List Int) → Bool → Int → Option (List Bool)
 | 0, _, _, _, _, _, _ => none
 | k + 1, x5, x6, x7, x8, x9, x10 => if x10 < (x5.length : Int) then (spec_SafeUp.l2 k x5 x6 x7 x8 x9 x10 0) else (spec_SafeUp.l0 k x5 x6 x7 x8 x9)
def spec_SafeUp.l2 : Nat → List Bool → List Bool → List Bool → List (List Int) → Bool → Int → Int → Option (List Bool)
 | 0, _, _, _, _, _, _, _ => none
 | k + 1, x5, x6, x7, x8, x9, x10, x11 => if 0 ≤ x10 then (if x10 < (x8.length : Int) then (if x11 < ((rd_L2 x8 x10).length : Int) then (if x10 < (x5.length : Int) then (spec_SafeUp.j3 k x5 x6 x7 x8 x9 x10 x11 (rdOf false x5 x10)) else (none)) else (spec_SafeUp.j3 k x5 x6 x7 x8 x9 x10 x11 false)) else (none)) else (none)
def spec_SafeUp.j3 : Nat → List Bool → List Bool → List Bool → List (List Int) → Bool → Int → Int → Bool → Option (List Bool)
 | 0, _, _, _, _, _, _, _, _ => none
 | k + 1, x5, x6, x7, x8, x9, x10, x11, x49 => if x49 = true then (if 0 ≤ x10 then (if x10 < (x8.length : Int) then (if 0 ≤ x11 then (if x11 < ((rd_L2 x8 x10).length : Int) then (if 0 ≤ (rd (rd_L2 x8 x10) x11) then (if (rd (rd_L2 x8 x10) x11) < (x7.length : Int) then (if (rdOf false x7 (rd (rd_L2 x8 x10) x11) = true) then (if (rd (rd_L2 x8 x10) x11) < (x6.length : Int) then (if (rdOf false x6 (rd (rd_L2 x8 x10) x11) = true) then (spec_SafeUp.l2 k x5 x6 x7 x8 x9 x10 (wrap64 (x11 + 1))) else (if (rd (rd_L2 x8 x10) x11) < (x5.length : Int) then (if (rdOf false x5 (rd (rd_L2 x8 x10) x11) = true) then (spec_SafeUp.l2 k x5 x6 x7 x8 x9 x10 (wrap64 (x11 + 1))) else (if x10 < (x5.length : Int) then (spec_SafeUp.l2 k (x5.set (x10 : Int).toNat false) x6 x7 x8 true x10 (wrap64 (x11 + 1))) else (none))) else (none))) else (none)) else (if x10 < (x5.length : Int) then (spec_SafeUp.l2 k (x5.set (x10 : Int).toNat false) x6 x7 x8 true x10 (wrap64 (x11 + 1))) else (none))) else (none)) else (none)) else (none)) else (none)) else (none)) else (none)) else (spec_SafeUp.l1 k x5 x6 x7 x8 x9 (wrap64 (x10 + 1)))
end
def spec_SafeUp.f (k : Nat) (l0_0 : List (S77)) (a1_0 : Int) (a1_1 : Int) (a1_2 : Int) (a1_3 : Int) (a1_4 : Int) : Option (List Bool) := (spec_l12Ok.f k l0_0 a1_0 a1_1 a1_2 a1_3 a1_4).bind fun t544 => (if t544 = true then ((spec_l12All.f k l0_0).bind fun t548 => (if 0 < (t548.length : Int) then ((spec_ExprComp.f k l0_0 a1_0 a1_1 a1_2 a1_3 a1_4).bind fun t552 => ((spec_ExprKeeps.f k l0_0 a1_0 a1_1 a1_2 a1_3 a1_4).bind fun t555 => ((spec_FlowPreds.f k l0_0).bind fun t558 => (spec_SafeUp.l0 k (t548.set (0 : Int).toNat false) t552 t555 t558 true)))) else (none))) else (some (([] : List Bool))))
set_option maxHeartbeats 8000000 in
set_option maxRecDepth 100000 in
theorem spec_SafeUp.calls (k : Nat) (A0_0 : Option Addr) (c0_0 : Nat) (l0_0 : List (S77)) (a1_0 : Int) (a1_1 : Int) (a1_2 : Int) (a1_3 : Int) (a1_4 : Int) (r : List Bool) (w : World) (hr0_0 : Kd.C k77 w A0_0 l0_0.length l0_0) (hc0_0 : l0_0.length ≤ c0_0) (h : spec_SafeUp.f k l0_0 a1_0 a1_1 a1_2 a1_3 a1_4 = some r) :
  Calls Try.prog 58 #[.agg #[.slice A0_0 l0_0.length c0_0], .agg #[.int .i64 a1_0, .int .i64 a1_1, .int .i64 a1_2, .int .i64 a1_3, .int .i64 a1_4]] w fun e w' => ∃ v0_ : Value, e = .returned (v0_) ∧ Kd.R Kd.bool 4 w' w.heap.size (fun _ => True) v0_ r ∧ Below w.heap.size w w' := by
 have hu38 := Try.underlying38
 have hu42 := Try.underlying42
 have HR0_0 := Aside0.mk hr0_0
 have HC0_0 := Aside0.mk hc0_0
 clear hr0_0 hc0_0
 have HB := Aside0.mk (Below.refl w.heap.size w)
 have H : ((spec_l12Ok.f k l0_0 a1_0 a1_1 a1_2 a1_3 a1_4).bind fun t544 => (if t544 = true then ((spec_l12All.f k l0_0).bind fun t548 => (if 0 < (t548.length : Int) then ((spec_ExprComp.f k l0_0 a1_0 a1_1 a1_2 a1_3 a1_4).bind fun t552 => ((spec_ExprKeeps.f k l0_0 a1_0 a1_1 a1_2 a1_3 a1_4).bind fun t555 => ((spec_FlowPreds.f k l0_0).bind fun t558 => (spec_SafeUp.l0 k (t548.set (0 : Int).toNat false) t552 t555 t558 true)))) else (none))) else (some (([] : List Bool))))) = some r := h
 clear h
 replace H := Option.bind_eq_some_iff.mp H
 obtain ⟨t544, A30, H⟩ := H
 have A3 := Aside0.mk A30
 clear A30
 by_cases c4 : t544 = true
 ·subst c4
  rw [if_pos rfl] at H
  replace H := Option.bind_eq_some_iff.mp H
  obtain ⟨t548, A50, H⟩ := H
  have A5 := Aside0.mk A50
  clear A50
  by_cases c6 : 0 < (t548.length : Int)
  ·rw [if_pos c6] at H
   have c6b0 : decide (0 < (t548.length : Int)) = true := decide_eq_true c6
   have c6b1 : decide (0 < t548.length) = true := decide_eq_true (by omega)
   clear c6
   obtain ⟨y551, hy551⟩ : ∃ y_ : List Bool, y_ = (t548.set (0 : Int).toNat false) := ⟨_, rfl⟩
   replace H : ((spec_ExprComp.f k l0_0 a1_0 a1_1 a1_2 a1_3 a1_4).bind fun t552 => ((spec_ExprKeeps.f k l0_0 a1_0 a1_1 a1_2 a1_3 a1_4).bind fun t555 => ((spec_FlowPreds.f k l0_0).bind fun t558 => (spec_SafeUp.l0 k y551 t552 t555 t558 true)))) = some r := by first | (rw [hy551]; with_reducible exact H) | (have H2_ := (Option.bind_some _ _).symm.trans H; rw [hy551]; with_reducible exact H2_) | (have H2_ := (Option.bind_some _ _).symm.trans H; with_reducible exact H2_) | with_reducible exact H | (rw [hy551]; exact H) | exact H
   have Ny551 := Aside0.mk hy551
   clear hy551
   replace H := Option.bind_eq_some_iff.mp H
   obtain ⟨t552, A80, H⟩ := H
   have A8 := Aside0.mk A80
   clear A80
   replace H := Option.bind_eq_some_iff.mp H
   obtain ⟨t555, A90, H⟩ := H
   have A9 := Aside0.mk A90
   clear A90
   replace H := Option.bind_eq_some_iff.mp H
   obtain ⟨t558, A100, H⟩ := H
   have A10 := Aside0.mk A100
   clear A100
   have H' := Aside0.mk H
   clear H
   go_enter Try.func58, Try.ntmps58
   go_wp2_with (first | ((with_reducible refine gate_dst (N := 2) rfl ?_); refine bxe (cs := #[.slice A0_0 l0_0.length c0_0]) (t := 38) ?_; intro gb542 hg w11 hbox hb; have BK542 := Aside0.mk (hbox); have GW542 := bwz HB hg; have GE542 := bwz HB hg; replace HB := bwb HB hb; clear hb hbox hg) | ((with_reducible refine gate_dst (N := 3) rfl ?_); refine bxe (cs := #[.int .i64 a1_0, .int .i64 a1_1, .int .i64 a1_2, .int .i64 a1_3, .int .i64 a1_4]) (t := 42) ?_; intro gb543 hg w12 hbox hb; have BK543 := Aside0.mk (hbox); have GW543 := bwz HB hg; have GE543 := bwz HB hg; replace HB := bwb HB hb; have NB542_543 := bkl BK542 hg; have NB543_542 := bkg BK542 hg; replace BK542 := bkb BK542 hb; clear hb hbox hg; have hnb13 := NB542_543.out; have hnc13 := NB543_542.out; obtain ⟨hcz14, hfz14⟩ := bcf BK542; obtain ⟨hcz15, hfz15⟩ := bcf BK543) | ((with_reducible refine gate_callee (f := 63) rfl ?_); refine goesM (some 15) rfl rfl Try.func63 #[.agg #[.slice A0_0 l0_0.length c0_0], .agg #[.int .i64 a1_0, .int .i64 a1_1, .int .i64 a1_2, .int .i64 a1_3, .int .i64 a1_4]] rfl ?_; (with_reducible refine (spec_l12Ok.calls k _ _ l0_0 a1_0 a1_1 a1_2 a1_3 a1_4 true _ ?side1 ?side2 A3.out).mono ?_); (case side1 => exact Cq (Kd.C_below HR0_0.out HB.out)); (case side2 => exact HC0_0.out); rintro e w16 ⟨rfl, hb⟩; refine ⟨_, rfl, ?_⟩; replace BK542 := bkb BK542 hb; replace BK543 := bkb BK543 hb; replace HB := bwb HB hb; (try clear hb); (try clear hb2); (try clear hk); (try clear hi); obtain ⟨hcz17, hfz17⟩ := bcf BK542) | ((with_reducible refine gate_callee (f := 71) rfl ?_); refine goesM (some 19) rfl rfl Try.func71 #[.agg #[.slice A0_0 l0_0.length c0_0]] rfl ?_; (with_reducible refine (spec_l12All.calls k _ _ l0_0 t548 _ ?side1 ?side2 A5.out).mono ?_); (case side1 => exact Cq (Kd.C_below HR0_0.out HB.out)); (case side2 => exact HC0_0.out); rintro e w18 ⟨v549, rfl, ho0, hb⟩; refine ⟨_, rfl, ?_⟩; have HO550 := Aside0.mk (Kd.R_lower ho0 (below_size (bwq HB))); replace BK542 := bkb BK542 hb; replace BK543 := bkb BK543 hb; replace HB := bwb HB hb; (try clear hb); (try clear hb2); (try clear hk); (try clear hi); (try clear ho0); have p7 : 0 ≤ (0 : Int) := (by omega); have q7 : (0 : Int) < ((t548.length : Int) : Int) := oda; have qi7 : (0 < t548.length) = True := eq_true (by omega); obtain ⟨go7, co7, eo7, gb7, gl7, cl7, HG7⟩ := Kd.R_form HO550.out (by omega); (first | cases eo7 | (injection eo7 with ea_ en_ ec_; (first | subst ea_ | (injection ea_ with ea_; subst ea_)); subst ec_; clear en_)); have GB7 := Aside0.mk gb7; have GG7 := Aside0.mk HG7; clear gb7 gl7 HG7; obtain ⟨hx7_0, hf7_0⟩ := Kd.R_celln false HO550.out (0 : Int) p7 q7; (try rw [show ((0 : Int)).toNat = 0 from rfl] at hx7_0); (try simp only [Nat.reduceMul, Nat.zero_mul, Nat.zero_add, Nat.reduceAdd] at hx7_0); (try rw [show ((0 : Int)).toNat = 0 from rfl] at hf7_0); (try simp only [Nat.reduceMul, Nat.zero_mul, Nat.zero_add, Nat.reduceAdd] at hf7_0); replace p7 := eq_true p7; replace q7 := eq_true q7; obtain ⟨hy19_, hz19_⟩ := Kd.R_celln false HO550.out (0 : Int) (by omega) (oda); (try simp only [Int.reduceToNat, Int.toNat_zero, Int.toNat_ofNat, Nat.reduceMul, Nat.zero_mul, Nat.zero_add] at hy19_ hz19_); (try rw [show ((0 : Int)).toNat = 0 from rfl] at hy19_); (try rw [show ((0 : Int)).toNat = 0 from rfl] at hz19_); have HP19 := Kd.R_putg HO550.out (0 : Int) false) | ((with_reducible refine gate_store (t := 4) (p := 21) rfl ?_); refine store_event (t := 4) (p := 21) (v := ?vo_w20) (w1 := (w18.setCell ⟨go7, (0 : Int).toNat, none⟩ (.bool false))) ?hg ?ho ?hn ?hr ?_; (case ho => rfl); (case hg => rfl); (case hn => rfl); (case hr => first | (go_simp; done) | (go_simp; rfl) | (go_simp; rfl)); intro w20 hw; have hg : w18.grownBy w20 (some go7) := (by rw [hw]; exact HP19.2); have hp_ : Kd.R Kd.bool 4 w20 w.heap.size (fun _ => True) (.slice (some ⟨go7, 0, none⟩) t548.length co7) y551 := (by rw [hw, Ny551.out]; exact HP19.1); clear HP19; replace BK542 := Aside0.mk (blk_grown (g := gb542) (o := .cells #[.slice A0_0 l0_0.length c0_0] 38 (0, 0)) (bkq BK542) hg (Kd.R_ne HO550.out BK542.out (by decide))); replace BK543 := Aside0.mk (blk_grown (g := gb543) (o := .cells #[.int .i64 a1_0, .int .i64 a1_1, .int .i64 a1_2, .int .i64 a1_3, .int .i64 a1_4] 42 (0, 0)) (bkq BK543) hg (Kd.R_ne HO550.out BK543.out (by decide))); replace HO550 := Aside0.mk (hp_); replace HB := Aside0.mk ((by rw [hw]; exact below_set (HB.out) GB7.out : Below w.heap.size w w20)); clear hg hw hp_; obtain ⟨hcz21, hfz21⟩ := bcf BK542; obtain ⟨hcz22, hfz22⟩ := bcf BK543) | ((with_reducible refine gate_callee (f := 46) rfl ?_); refine goesM (some 24) rfl rfl Try.func46 #[.agg #[.slice A0_0 l0_0.length c0_0], .agg #[.int .i64 a1_0, .int .i64 a1_1, .int .i64 a1_2, .int .i64 a1_3, .int .i64 a1_4]] rfl ?_; (with_reducible refine (spec_ExprComp.calls k _ _ l0_0 a1_0 a1_1 a1_2 a1_3 a1_4 t552 _ ?side1 ?side2 A8.out).mono ?_); (case side1 => exact Cq (Kd.C_below HR0_0.out HB.out)); (case side2 => exact HC0_0.out); rintro e w23 ⟨v553, rfl, ho0, hb⟩; refine ⟨_, rfl, ?_⟩; have HO554 := Aside0.mk (Kd.R_lower (Kd.R_new' ho0 (Kd.R_lt (Rq HO550.out))) (below_size (bwq HB))); replace HO550 := Aside0.mk (Kd.R_elder' (Rq HO550.out) (Kd.R_base ho0) hb); replace BK542 := bkb BK542 hb; replace BK543 := bkb BK543 hb; replace HB := bwb HB hb; (try clear hb); (try clear hb2); (try clear hk); (try clear hi); (try clear ho0); obtain ⟨hcz24, hfz24⟩ := bcf BK542; obtain ⟨hcz25, hfz25⟩ := bcf BK543) | ((with_reducible refine gate_callee (f := 93) rfl ?_); refine goesM (some 27) rfl rfl Try.func93 #[.agg #[.slice A0_0 l0_0.length c0_0], .agg #[.int .i64 a1_0, .int .i64 a1_1, .int .i64 a1_2, .int .i64 a1_3, .int .i64 a1_4]] rfl ?_; (with_reducible refine (spec_ExprKeeps.calls k _ _ l0_0 a1_0 a1_1 a1_2 a1_3 a1_4 t555 _ ?side1 ?side2 A9.out).mono ?_); (case side1 => exact Cq (Kd.C_below HR0_0.out HB.out)); (case side2 => exact HC0_0.out); rintro e w26 ⟨v556, rfl, ho0, hb⟩; refine ⟨_, rfl, ?_⟩; have HO557 := Aside0.mk (Kd.R_lower (Kd.R_new' (Kd.R_new' ho0 (Kd.R_lt (Rq HO550.out))) (Kd.R_lt (Rq HO554.out))) (below_size (bwq HB))); replace HO550 := Aside0.mk (Kd.R_elder' (Rq HO550.out) (Kd.R_base ho0) hb); replace HO554 := Aside0.mk (Kd.R_elder' (Rq HO554.out) (Kd.R_base ho0) hb); replace BK542 := bkb BK542 hb; replace BK543 := bkb BK543 hb; replace HB := bwb HB hb; (try clear hb); (try clear hb2); (try clear hk); (try clear hi); (try clear ho0); obtain ⟨hcz27, hfz27⟩ := bcf BK542) | ((with_reducible refine gate_callee (f := 94) rfl ?_); refine goesM (some 29) rfl rfl Try.func94 #[.agg #[.slice A0_0 l0_0.length c0_0]] rfl ?_; (with_reducible refine (spec_FlowPreds.calls k _ _ l0_0 t558 _ ?side1 ?side2 A10.out).mono ?_); (case side1 => exact Cq (Kd.C_below HR0_0.out HB.out)); (case side2 => exact HC0_0.out); rintro e w28 ⟨v559, rfl, ho0, hb⟩; refine ⟨_, rfl, ?_⟩; replace HO550 := Aside0.mk (Kd.R_below (Rq HO550.out) hb); replace HO554 := Aside0.mk (Kd.R_below (Rq HO554.out) hb); replace HO557 := Aside0.mk (Kd.R_below (Rq HO557.out) hb); have HO560 := Aside0.mk (Kd.S_lower ho0 (below_size (bwq HB))); replace BK542 := bkb BK542 hb; replace BK543 := bkb BK543 hb; replace HB := bwb HB hb; (try clear hb); (try clear hb2); (try clear hk); (try clear hi); (try clear ho0)))
   go_loopg [9] k (fun kq v9 w' => ∃ (x5_1 : List Bool) (x9_1 : Bool), v9 = .bool x9_1 ∧ Aside0 (spec_SafeUp.l0 kq x5_1 t552 t555 t558 x9_1 = some r) ∧ Aside0 (kq ≤ k) ∧ Aside0 (Kd.R Kd.bool 4 w' w.heap.size (fun k_ => some k_ ≠ (v553 : Value).ownBlock ∧ some k_ ≠ (v556 : Value).ownBlock) (.slice (some ⟨go7, 0, none⟩) t548.length co7) x5_1) ∧ Aside0 (Kd.R Kd.bool 4 w' w.heap.size (fun k_ => some k_ ≠ ((.slice (some ⟨go7, 0, none⟩) t548.length co7) : Value).ownBlock ∧ some k_ ≠ (v556 : Value).ownBlock) v553 t552) ∧ Aside0 (Kd.R Kd.bool 4 w' w.heap.size (fun k_ => some k_ ≠ ((.slice (some ⟨go7, 0, none⟩) t548.length co7) : Value).ownBlock ∧ some k_ ≠ (v553 : Value).ownBlock) v556 t555) ∧ Aside0 (Kd.S (Kd.slice 3 (Kd.int .i64)) 32 w' w.heap.size (fun _ => True) v559 t558) ∧ Aside0 (w'.heap[gb542]? = some (.cells #[(.slice A0_0 l0_0.length c0_0)] 38 (0, 0))) ∧ Aside0 (w'.heap[gb543]? = some (.cells #[.int .i64 a1_0, .int .i64 a1_1, .int .i64 a1_2, .int .i64 a1_3, .int .i64 a1_4] 42 (0, 0))) ∧ Aside0 (Below w.heap.size w w'))
   case atStart => exact ⟨(y551), (true), (by first | rfl | (simp; done) | (simp [*]; done)), H', ⟨Nat.le_refl _⟩, ⟨by (with_reducible repeat (first | apply Kd.R_alloc | apply Kd.R_drewN | apply Kd.R_drew)); exact Kd.R_mono HO550.out (fun _ hk => ⟨hk.1.2, hk.2⟩)⟩, ⟨by (with_reducible repeat (first | apply Kd.R_alloc | apply Kd.R_drewN | apply Kd.R_drew)); exact Kd.R_mono HO554.out (fun _ hk => ⟨hk.1.2, hk.2⟩)⟩, ⟨by (with_reducible repeat (first | apply Kd.R_alloc | apply Kd.R_drewN | apply Kd.R_drew)); exact Kd.R_mono HO557.out (fun _ hk => ⟨hk.1.2, hk.2⟩)⟩, ⟨Sq HO560.out⟩, ⟨bkq BK542⟩, ⟨bkq BK543⟩, ⟨bwq HB⟩⟩
   case round =>
    clear H'
    try clear c1
    try clear p2
    try clear c4
    try clear c5
    try clear c6
    try clear c6b0
    try clear c6b1
    try clear c7
    try clear p7
    try clear q7
    try clear hx7
    try clear qi7
    try clear hf7
    try clear c9
    try clear c13
    try clear hcz14
    try clear hcz15
    try clear hcz17
    try clear hcz21
    try clear hcz22
    try clear hcz24
    try clear hcz25
    try clear hcz27
    try clear hfz14
    try clear hfz15
    try clear hfz17
    try clear hfz21
    try clear hfz22
    try clear hfz24
    try clear hfz25
    try clear hfz27
    try clear hx7_0
    try clear p7
    try clear q7
    obtain ⟨x5_1, x9_1, rfl, HA, HK1, HO_5, HO_6, HO_7, HO_8, BK542, BK543, HB⟩ := hrel
    have hl5_1 := (Kd.R_reads' HO_5.out).1
    rw [hl5_1] at HO_5
    (try simp only [hl5_1])
    (try simp only [hl5_1] at BK542)
    (try simp only [hl5_1] at BK543)
    (try simp only [hl5_1] at HO_6)
    (try simp only [hl5_1] at HO_7)
    (try simp only [hl5_1] at HO_8)
    cases gk with
    | zero => exact absurd HA.out (by intro h_; first | (cases h_; done) | (simp [spec_SafeUp.l0] at h_))
    | succ k1 =>
     have H := HA.out
     clear HA
     simp only [spec_SafeUp.l0] at H
     by_cases c29 : x9_1 = true
     ·subst c29
      rw [if_pos rfl] at H
      have H' := Aside0.mk H
      clear H
      go_wp2
      go_loopg [9, 10] k1 (fun kq v9 v10 w' => ∃ (x5_2 : List Bool) (x9_2 : Bool) (x10_2 : Int), v9 = .bool x9_2 ∧ v10 = .int .i64 x10_2 ∧ Aside0 (spec_SafeUp.l1 kq x5_2 t552 t555 t558 x9_2 x10_2 = some r) ∧ Aside0 (kq ≤ k1) ∧ Aside0 (Kd.R Kd.bool 4 w' w.heap.size (fun k_ => some k_ ≠ (v553 : Value).ownBlock ∧ some k_ ≠ (v556 : Value).ownBlock) (.slice (some ⟨go7, 0, none⟩) x5_1.length co7) x5_2) ∧ Aside0 (Kd.R Kd.bool 4 w' w.heap.size (fun k_ => some k_ ≠ ((.slice (some ⟨go7, 0, none⟩) x5_1.length co7) : Value).ownBlock ∧ some k_ ≠ (v556 : Value).ownBlock) v553 t552) ∧ Aside0 (Kd.R Kd.bool 4 w' w.heap.size (fun k_ => some k_ ≠ ((.slice (some ⟨go7, 0, none⟩) x5_1.length co7) : Value).ownBlock ∧ some k_ ≠ (v553 : Value).ownBlock) v556 t555) ∧ Aside0 (Kd.S (Kd.slice 3 (Kd.int .i64)) 32 w' w.heap.size (fun _ => True) v559 t558) ∧ Aside0 (w'.heap[gb542]? = some (.cells #[(.slice A0_0 l0_0.length c0_0)] 38 (0, 0))) ∧ Aside0 (w'.heap[gb543]? = some (.cells #[.int .i64 a1_0, .int .i64 a1_1, .int .i64 a1_2, .int .i64 a1_3, .int .i64 a1_4] 42 (0, 0))) ∧ Aside0 (Below w.heap.size w w'))
      case atStart => exact ⟨(x5_1), (false), (0), (by first | rfl | (simp; done) | (simp [*]; done)), (by first | rfl | (simp; done) | (simp [*]; done)), H', ⟨Nat.le_refl _⟩, ⟨by (try simp only [hl5_1]); exact Rq HO_5.out⟩, ⟨by (try simp only [hl5_1]); exact Rq HO_6.out⟩, ⟨by (try simp only [hl5_1]); exact Rq HO_7.out⟩, ⟨by (try simp only [hl5_1]); exact Sq HO_8.out⟩, ⟨by (try simp only [hl5_1]); exact bkq BK542⟩, ⟨by (try simp only [hl5_1]); exact bkq BK543⟩, ⟨bwq HB⟩⟩
      case round =>
       clear H'
       try clear c1
       try clear c2
       try clear p2
       try clear c4
       try clear c5
       try clear c6
       try clear c6b0
       try clear c6b1
       try clear c7
       try clear p7
       try clear q7
       try clear hx7
       try clear qi7
       try clear hf7
       try clear c9
       try clear c13
       try clear c29
       try clear hcz14
       try clear hcz15
       try clear hcz17
       try clear hcz21
       try clear hcz22
       try clear hcz24
       try clear hcz25
       try clear hcz27
       try clear hfz14
       try clear hfz15
       try clear hfz17
       try clear hfz21
       try clear hfz22
       try clear hfz24
       try clear hfz25
       try clear hfz27
       try clear hx7_0
       try clear p2
       try clear p7
       try clear q7
       obtain ⟨x5_2, x9_2, x10_2, rfl, rfl, HA, HK2, HO_5, HO_6, HO_7, HO_8, BK542, BK543, HB⟩ := hrel
       have hl5_2 := (Kd.R_reads' HO_5.out).1
       rw [hl5_2] at HO_5
       (try simp only [hl5_2])
       (try simp only [hl5_2] at BK542)
       (try simp only [hl5_2] at BK543)
       (try simp only [hl5_2] at HO_6)
       (try simp only [hl5_2] at HO_7)
       (try simp only [hl5_2] at HO_8)
       cases gk with
       | zero => exact absurd HA.out (by intro h_; first | (cases h_; done) | (simp [spec_SafeUp.l1] at h_))
       | succ k2 =>
        have H := HA.out
        clear HA
        simp only [spec_SafeUp.l1] at H
        by_cases c30 : x10_2 < (x5_2.length : Int)
        ·rw [if_pos c30] at H
         have c30b0 : decide (x10_2 < (x5_2.length : Int)) = true := decide_eq_true c30
         clear c30
         have H' := Aside0.mk H
         clear H
         go_wp2
         go_loopg [9, 11] k2 (fun kq v9 v11 w' => ∃ (x5_3 : List Bool) (x9_3 : Bool) (x11_3 : Int), v9 = .bool x9_3 ∧ v11 = .int .i64 x11_3 ∧ Aside0 (spec_SafeUp.l2 kq x5_3 t552 t555 t558 x9_3 x10_2 x11_3 = some r) ∧ Aside0 (kq ≤ k2) ∧ Aside0 (Kd.R Kd.bool 4 w' w.heap.size (fun k_ => some k_ ≠ (v553 : Value).ownBlock ∧ some k_ ≠ (v556 : Value).ownBlock) (.slice (some ⟨go7, 0, none⟩) x5_2.length co7) x5_3) ∧ Aside0 (Kd.R Kd.bool 4 w' w.heap.size (fun k_ => some k_ ≠ ((.slice (some ⟨go7, 0, none⟩) x5_2.length co7) : Value).ownBlock ∧ some k_ ≠ (v556 : Value).ownBlock) v553 t552) ∧ Aside0 (Kd.R Kd.bool 4 w' w.heap.size (fun k_ => some k_ ≠ ((.slice (some ⟨go7, 0, none⟩) x5_2.length co7) : Value).ownBlock ∧ some k_ ≠ (v553 : Value).ownBlock) v556 t555) ∧ Aside0 (Kd.S (Kd.slice 3 (Kd.int .i64)) 32 w' w.heap.size (fun _ => True) v559 t558) ∧ Aside0 (w'.heap[gb542]? = some (.cells #[(.slice A0_0 l0_0.length c0_0)] 38 (0, 0))) ∧ Aside0 (w'.heap[gb543]? = some (.cells #[.int .i64 a1_0, .int .i64 a1_1, .int .i64 a1_2, .int .i64 a1_3, .int .i64 a1_4] 42 (0, 0))) ∧ Aside0 (Below w.heap.size w w'))
         case atStart => exact ⟨(x5_2), (x9_2), (0), (by first | rfl | (simp; done) | (simp [*]; done)), (by first | rfl | (simp; done) | (simp [*]; done)), H', ⟨Nat.le_refl _⟩, ⟨by (try simp only [hl5_1]); (try simp only [hl5_2]); exact Rq HO_5.out⟩, ⟨by (try simp only [hl5_1]); (try simp only [hl5_2]); exact Rq HO_6.out⟩, ⟨by (try simp only [hl5_1]); (try simp only [hl5_2]); exact Rq HO_7.out⟩, ⟨by (try simp only [hl5_1]); (try simp only [hl5_2]); exact Sq HO_8.out⟩, ⟨by (try simp only [hl5_1]); (try simp only [hl5_2]); exact bkq BK542⟩, ⟨by (try simp only [hl5_1]); (try simp only [hl5_2]); exact bkq BK543⟩, ⟨bwq HB⟩⟩
         case round =>
          clear H'
          try clear c1
          try clear c2
          try clear p2
          try clear c3
          try clear c4
          try clear c5
          try clear c6
          try clear c6b0
          try clear c6b1
          try clear c7
          try clear p7
          try clear q7
          try clear hx7
          try clear qi7
          try clear hf7
          try clear c9
          try clear c13
          try clear c29
          try clear c30
          try clear c30b0
          try clear hcz14
          try clear hcz15
          try clear hcz17
          try clear hcz21
          try clear hcz22
          try clear hcz24
          try clear hcz25
          try clear hcz27
          try clear hfz14
          try clear hfz15
          try clear hfz17
          try clear hfz21
          try clear hfz22
          try clear hfz24
          try clear hfz25
          try clear hfz27
          try clear hx7_0
          try clear p2
          try clear p7
          try clear q7
          obtain ⟨x5_3, x9_3, x11_3, rfl, rfl, HA, HK3, HO_5, HO_6, HO_7, HO_8, BK542, BK543, HB⟩ := hrel
          have hl5_3 := (Kd.R_reads' HO_5.out).1
          rw [hl5_3] at HO_5
          (try simp only [hl5_3])
          (try simp only [hl5_3] at BK542)
          (try simp only [hl5_3] at BK543)
          (try simp only [hl5_3] at HO_6)
          (try simp only [hl5_3] at HO_7)
          (try simp only [hl5_3] at HO_8)
          cases gk with
          | zero => exact absurd HA.out (by intro h_; first | (cases h_; done) | (simp [spec_SafeUp.l2] at h_))
          | succ k3 =>
           have H := HA.out
           clear HA
           simp only [spec_SafeUp.l2] at H
           have HC31 := Aside0.mk H
           clear H
           go_upto_region 15 with (fail)
           go_cut [49] (fun v49 wc => ∃ (kq : Nat) (x49_30 : Bool), v49 = .bool x49_30 ∧ Aside0 (spec_SafeUp.j3 kq x5_3 t552 t555 t558 x9_3 x10_2 x11_3 x49_30 = some r) ∧ Aside0 (kq ≤ k3) ∧ Aside0 (Kd.R Kd.bool 4 wc w.heap.size (fun k_ => some k_ ≠ (v553 : Value).ownBlock ∧ some k_ ≠ (v556 : Value).ownBlock) (.slice (some ⟨go7, 0, none⟩) x5_3.length co7) x5_3) ∧ Aside0 (Kd.R Kd.bool 4 wc w.heap.size (fun k_ => some k_ ≠ ((.slice (some ⟨go7, 0, none⟩) x5_3.length co7) : Value).ownBlock ∧ some k_ ≠ (v556 : Value).ownBlock) v553 t552) ∧ Aside0 (Kd.R Kd.bool 4 wc w.heap.size (fun k_ => some k_ ≠ ((.slice (some ⟨go7, 0, none⟩) x5_3.length co7) : Value).ownBlock ∧ some k_ ≠ (v553 : Value).ownBlock) v556 t555) ∧ Aside0 (Kd.S (Kd.slice 3 (Kd.int .i64)) 32 wc w.heap.size (fun _ => True) v559 t558) ∧ Aside0 (wc.heap[gb542]? = some (.cells #[(.slice A0_0 l0_0.length c0_0)] 38 (0, 0))) ∧ Aside0 (wc.heap[gb543]? = some (.cells #[.int .i64 a1_0, .int .i64 a1_1, .int .i64 a1_2, .int .i64 a1_3, .int .i64 a1_4] 42 (0, 0))) ∧ Aside0 (Below w.heap.size w wc))
           case first =>
            have H := HC31.out
            clear HC31
            by_cases c32 : 0 ≤ x10_2
            ·rw [if_pos c32] at H
             have c32b0 : decide (0 ≤ x10_2) = true := decide_eq_true c32
             clear c32
             (first | rw [c32b0] | (simp only [i64_w, i32_w]; rw [c32b0]) | skip)
             by_cases c33 : x10_2 < (t558.length : Int)
             ·rw [if_pos c33] at H
              have c33b0 : decide (x10_2 < (t558.length : Int)) = true := decide_eq_true c33
              clear c33
              by_cases c34 : x11_3 < ((rd_L2 t558 x10_2).length : Int)
              ·rw [if_pos c34] at H
               have c34b0 : decide (x11_3 < ((rd_L2 t558 x10_2).length : Int)) = true := decide_eq_true c34
               clear c34
               by_cases c35 : x10_2 < (x5_3.length : Int)
               ·rw [if_pos c35] at H
                have c35b0 : decide (x10_2 < (x5_3.length : Int)) = true := decide_eq_true c35
                clear c35
                have H' := Aside0.mk H
                clear H
                obtain ⟨Ao36, co36, eo36⟩ := Kd.S_slice HO_8.out
                subst eo36
                have p561 : 0 ≤ (x10_2 : Int) := oda
                have q561 : x10_2 < (t558.length : Int) := oda
                obtain ⟨ad561, A561_0, c561_0, e561, hx561_0, hl561_0, hi561_0⟩ := at_L2 (Kd.S_reads' HO_8.out).2.2 x10_2 p561 q561
                cases e561
                obtain ⟨ce561, hce561, hMe561, hcc561⟩ := Kd.S_get HO_8.out [] x10_2 p561 (by first | exact q561 | exact oda | (have e_ := (Kd.S_reads' HO_8.out).1; omega))
                obtain ⟨ve561_0, rfl, ge561_0⟩ := hMe561
                have hv561_0 := hcc561 0 _ rfl
                rw [Nat.add_zero, show ((Kd.slice 3 (Kd.int .i64))).sz = 1 from rfl, Nat.mul_one] at hv561_0
                replace hv561_0 := Option.some.inj (hv561_0.symm.trans hx561_0)
                rw [hv561_0] at ge561_0
                have HL561_0 := Aside0.mk (show Kd.R (Kd.int .i64) 3 _ _ _ _ (rd_L2 t558 x10_2) from ge561_0)
                clear hv561_0 ge561_0
                clear hcc561 hce561
                have HR561_0 := Aside0.mk hi561_0
                have HC561_0 := Aside0.mk hl561_0
                clear hi561_0 hl561_0
                replace p561 := eq_true p561
                replace q561 := eq_true q561
                have p562 : 0 ≤ (x10_2 : Int) := oda
                have q562 : x10_2 < (x5_3.length : Int) := oda
                obtain ⟨ad562, e562, hx562_0⟩ := Kd.at_bool (Kd.R_reads' HO_5.out).2.2 x10_2 p562 q562
                obtain rfl : (⟨go7, 0, none⟩ : Addr) = ad562 := (by injection e562)
                (first | simp only [add_plain] at hx562_0 | simp only [add_at] at hx562_0 | simp only [Addr.add, Nat.zero_add] at hx562_0 | skip)
                replace p562 := eq_true p562
                replace q562 := eq_true q562
                go_wp2
                go_meet
                case rel => exact ⟨_, (rdOf false x5_3 x10_2), (by first | rfl | (simp; done) | (simp [*]; done)), H', ⟨by have := HK1.out; have := HK2.out; have := HK3.out; first | omega | exact Nat.le_refl _⟩, ⟨by (try simp only [hl5_1]); (try simp only [hl5_2]); (try simp only [hl5_3]); exact Rq HO_5.out⟩, ⟨by (try simp only [hl5_1]); (try simp only [hl5_2]); (try simp only [hl5_3]); exact Rq HO_6.out⟩, ⟨by (try simp only [hl5_1]); (try simp only [hl5_2]); (try simp only [hl5_3]); exact Rq HO_7.out⟩, ⟨by (try simp only [hl5_1]); (try simp only [hl5_2]); (try simp only [hl5_3]); exact Sq HO_8.out⟩, ⟨by (try simp only [hl5_1]); (try simp only [hl5_2]); (try simp only [hl5_3]); exact bkq BK542⟩, ⟨by (try simp only [hl5_1]); (try simp only [hl5_2]); (try simp only [hl5_3]); exact bkq BK543⟩, ⟨bwq HB⟩⟩
               ·rw [if_neg c35] at H
                exact absurd H (by simp)
              ·rw [if_neg c34] at H
               have c34b0 : decide (x11_3 < ((rd_L2 t558 x10_2).length : Int)) = false := decide_eq_false c34
               clear c34
               have H' := Aside0.mk H
               clear H
               obtain ⟨Ao37, co37, eo37⟩ := Kd.S_slice HO_8.out
               subst eo37
               have p561 : 0 ≤ (x10_2 : Int) := oda
               have q561 : x10_2 < (t558.length : Int) := oda
               obtain ⟨ad561, A561_0, c561_0, e561, hx561_0, hl561_0, hi561_0⟩ := at_L2 (Kd.S_reads' HO_8.out).2.2 x10_2 p561 q561
               cases e561
               obtain ⟨ce561, hce561, hMe561, hcc561⟩ := Kd.S_get HO_8.out [] x10_2 p561 (by first | exact q561 | exact oda | (have e_ := (Kd.S_reads' HO_8.out).1; omega))
               obtain ⟨ve561_0, rfl, ge561_0⟩ := hMe561
               have hv561_0 := hcc561 0 _ rfl
               rw [Nat.add_zero, show ((Kd.slice 3 (Kd.int .i64))).sz = 1 from rfl, Nat.mul_one] at hv561_0
               replace hv561_0 := Option.some.inj (hv561_0.symm.trans hx561_0)
               rw [hv561_0] at ge561_0
               have HL561_0 := Aside0.mk (show Kd.R (Kd.int .i64) 3 _ _ _ _ (rd_L2 t558 x10_2) from ge561_0)
               clear hv561_0 ge561_0
               clear hcc561 hce561
               have HR561_0 := Aside0.mk hi561_0
               have HC561_0 := Aside0.mk hl561_0
               clear hi561_0 hl561_0
               replace p561 := eq_true p561
               replace q561 := eq_true q561
               go_wp2
               go_meet
               case rel => exact ⟨_, (false), (by first | rfl | (simp; done) | (simp [*]; done)), H', ⟨by have := HK1.out; have := HK2.out; have := HK3.out; first | omega | exact Nat.le_refl _⟩, ⟨by (try simp only [hl5_1]); (try simp only [hl5_2]); (try simp only [hl5_3]); exact Rq HO_5.out⟩, ⟨by (try simp only [hl5_1]); (try simp only [hl5_2]); (try simp only [hl5_3]); exact Rq HO_6.out⟩, ⟨by (try simp only [hl5_1]); (try simp only [hl5_2]); (try simp only [hl5_3]); exact Rq HO_7.out⟩, ⟨by (try simp only [hl5_1]); (try simp only [hl5_2]); (try simp only [hl5_3]); exact Sq HO_8.out⟩, ⟨by (try simp only [hl5_1]); (try simp only [hl5_2]); (try simp only [hl5_3]); exact bkq BK542⟩, ⟨by (try simp only [hl5_1]); (try simp only [hl5_2]); (try simp only [hl5_3]); exact bkq BK543⟩, ⟨bwq HB⟩⟩
             ·rw [if_neg c33] at H
              exact absurd H (by simp)
            ·rw [if_neg c32] at H
             exact absurd H (by simp)
           case rest =>
            clear HC31
            try clear c1
            try clear c2
            try clear p2
            try clear c3
            try clear c4
            try clear c5
            try clear p5
            try clear q5
            try clear hx5
            try clear c6
            try clear c6b0
            try clear c6b1
            try clear c7
            try clear p7
            try clear q7
            try clear hx7
            try clear qi7
            try clear hf7
            try clear c9
            try clear c13
            try clear c29
            try clear c30
            try clear c30b0
            try clear c32
            try clear c32b0
            try clear c33
            try clear c33b0
            try clear c34
            try clear c34b0
            try clear c35
            try clear c35b0
            try clear hcz14
            try clear hcz15
            try clear hcz17
            try clear hcz21
            try clear hcz22
            try clear hcz24
            try clear hcz25
            try clear hcz27
            try clear hfz14
            try clear hfz15
            try clear hfz17
            try clear hfz21
            try clear hfz22
            try clear hfz24
            try clear hfz25
            try clear hfz27
            try clear hx561_0
            try clear hx562_0
            try clear hx7_0
            try clear p2
            try clear p561
            try clear p562
            try clear p7
            try clear q561
            try clear q562
            try clear q7
            obtain ⟨kq, x49_30, rfl, HA, HJ30, HO_5, HO_6, HO_7, HO_8, BK542, BK543, HB⟩ := hcut
            cases kq with
            | zero => exact absurd HA.out (by intro h_; first | (cases h_; done) | (simp [spec_SafeUp.j3] at h_))
            | succ kj30 =>
             have H := HA.out
             clear HA
             simp only [spec_SafeUp.j3] at H
             by_cases c38 : x49_30 = true
             ·subst c38
              rw [if_pos rfl] at H
              by_cases c39 : 0 ≤ x10_2
              ·rw [if_pos c39] at H
               have c39b0 : decide (0 ≤ x10_2) = true := decide_eq_true c39
               clear c39
               by_cases c40 : x10_2 < (t558.length : Int)
               ·rw [if_pos c40] at H
                have c40b0 : decide (x10_2 < (t558.length : Int)) = true := decide_eq_true c40
                clear c40
                by_cases c41 : 0 ≤ x11_3
                ·rw [if_pos c41] at H
                 have c41b0 : decide (0 ≤ x11_3) = true := decide_eq_true c41
                 clear c41
                 by_cases c42 : x11_3 < ((rd_L2 t558 x10_2).length : Int)
                 ·rw [if_pos c42] at H
                  have c42b0 : decide (x11_3 < ((rd_L2 t558 x10_2).length : Int)) = true := decide_eq_true c42
                  clear c42
                  by_cases c43 : 0 ≤ (rd (rd_L2 t558 x10_2) x11_3)
                  ·rw [if_pos c43] at H
                   have c43b0 : decide (0 ≤ (rd (rd_L2 t558 x10_2) x11_3)) = true := decide_eq_true c43
                   clear c43
                   by_cases c44 : (rd (rd_L2 t558 x10_2) x11_3) < (t555.length : Int)
                   ·rw [if_pos c44] at H
                    have c44b0 : decide ((rd (rd_L2 t558 x10_2) x11_3) < (t555.length : Int)) = true := decide_eq_true c44
                    clear c44
                    obtain ⟨bq45, hbq45⟩ : ∃ b_ : Bool, b_ = (rdOf false t555 (rd (rd_L2 t558 x10_2) x11_3)) := ⟨_, rfl⟩
                    replace H : (if (bq45 = true) then (if (rd (rd_L2 t558 x10_2) x11_3) < (t552.length : Int) then (if (rdOf false t552 (rd (rd_L2 t558 x10_2) x11_3) = true) then (spec_SafeUp.l2 kj30 x5_3 t552 t555 t558 x9_3 x10_2 (wrap64 (x11_3 + 1))) else (if (rd (rd_L2 t558 x10_2) x11_3) < (x5_3.length : Int) then (if (rdOf false x5_3 (rd (rd_L2 t558 x10_2) x11_3) = true) then (spec_SafeUp.l2 kj30 x5_3 t552 t555 t558 x9_3 x10_2 (wrap64 (x11_3 + 1))) else (if x10_2 < (x5_3.length : Int) then (spec_SafeUp.l2 kj30 (x5_3.set (x10_2 : Int).toNat false) t552 t555 t558 true x10_2 (wrap64 (x11_3 + 1))) else (none))) else (none))) else (none)) else (if x10_2 < (x5_3.length : Int) then (spec_SafeUp.l2 kj30 (x5_3.set (x10_2 : Int).toNat false) t552 t555 t558 true x10_2 (wrap64 (x11_3 + 1))) else (none))) = some r := by rw [← hbq45] at H; exact H
                    have Nbq45 := Aside0.mk hbq45
                    clear hbq45
                    by_cases c46 : (bq45 = true)
                    ·subst c46
                     rw [if_pos rfl] at H
                     by_cases c47 : (rd (rd_L2 t558 x10_2) x11_3) < (t552.length : Int)
                     ·rw [if_pos c47] at H
                      have c47b0 : decide ((rd (rd_L2 t558 x10_2) x11_3) < (t552.length : Int)) = true := decide_eq_true c47
                      clear c47
                      obtain ⟨bq48, hbq48⟩ : ∃ b_ : Bool, b_ = (rdOf false t552 (rd (rd_L2 t558 x10_2) x11_3)) := ⟨_, rfl⟩
                      replace H : (if (bq48 = true) then (spec_SafeUp.l2 kj30 x5_3 t552 t555 t558 x9_3 x10_2 (wrap64 (x11_3 + 1))) else (if (rd (rd_L2 t558 x10_2) x11_3) < (x5_3.length : Int) then (if (rdOf false x5_3 (rd (rd_L2 t558 x10_2) x11_3) = true) then (spec_SafeUp.l2 kj30 x5_3 t552 t555 t558 x9_3 x10_2 (wrap64 (x11_3 + 1))) else (if x10_2 < (x5_3.length : Int) then (spec_SafeUp.l2 kj30 (x5_3.set (x10_2 : Int).toNat false) t552 t555 t558 true x10_2 (wrap64 (x11_3 + 1))) else (none))) else (none))) = some r := by rw [← hbq48] at H; exact H
                      have Nbq48 := Aside0.mk hbq48
                      clear hbq48
                      by_cases c49 : (bq48 = true)
                      ·subst c49
                       rw [if_pos rfl] at H
                       have H' := Aside0.mk H
                       clear H
                       obtain ⟨Ao50, co50, eo50⟩ := Kd.S_slice HO_8.out
                       subst eo50
                       have p563 : 0 ≤ (x10_2 : Int) := oda
                       have q563 : x10_2 < (t558.length : Int) := oda
                       obtain ⟨ad563, A563_0, c563_0, e563, hx563_0, hl563_0, hi563_0⟩ := at_L2 (Kd.S_reads' HO_8.out).2.2 x10_2 p563 q563
                       cases e563
                       obtain ⟨ce563, hce563, hMe563, hcc563⟩ := Kd.S_get HO_8.out [] x10_2 p563 (by first | exact q563 | exact oda | (have e_ := (Kd.S_reads' HO_8.out).1; omega))
                       obtain ⟨ve563_0, rfl, ge563_0⟩ := hMe563
                       have hv563_0 := hcc563 0 _ rfl
                       rw [Nat.add_zero, show ((Kd.slice 3 (Kd.int .i64))).sz = 1 from rfl, Nat.mul_one] at hv563_0
                       replace hv563_0 := Option.some.inj (hv563_0.symm.trans hx563_0)
                       rw [hv563_0] at ge563_0
                       have HL563_0 := Aside0.mk (show Kd.R (Kd.int .i64) 3 _ _ _ _ (rd_L2 t558 x10_2) from ge563_0)
                       clear hv563_0 ge563_0
                       clear hcc563 hce563
                       have HR563_0 := Aside0.mk hi563_0
                       have HC563_0 := Aside0.mk hl563_0
                       clear hi563_0 hl563_0
                       replace p563 := eq_true p563
                       replace q563 := eq_true q563
                       have p564 : 0 ≤ (x11_3 : Int) := oda
                       have q564 : x11_3 < ((rd_L2 t558 x10_2).length : Int) := oda
                       obtain ⟨ad564, e564, hx564_0⟩ := Kd.at_int (by repeat (first | (with_reducible exact HR563_0.out) | (with_reducible refine Kd.C_alloc ?_ _) | (with_reducible refine Kd.C_drewN ?_ _) | (with_reducible refine Kd.C_drew ?_) | exact HR563_0.out)) x11_3 p564 q564
                       cases e564
                       replace p564 := eq_true p564
                       replace q564 := eq_true q564
                       obtain ⟨Ao51, co51, eo51⟩ := Kd.R_slice HO_7.out
                       subst eo51
                       have p565 : 0 ≤ ((rd (rd_L2 t558 x10_2) x11_3) : Int) := oda
                       have q565 : (rd (rd_L2 t558 x10_2) x11_3) < (t555.length : Int) := oda
                       obtain ⟨ad565, e565, hx565_0⟩ := Kd.at_bool (Kd.R_reads' HO_7.out).2.2 (rd (rd_L2 t558 x10_2) x11_3) p565 q565
                       (try rw [← Nbq45.out] at hx565_0)
                       (try rw [← Nbq48.out] at hx565_0)
                       cases e565
                       replace p565 := eq_true p565
                       replace q565 := eq_true q565
                       obtain ⟨Ao52, co52, eo52⟩ := Kd.R_slice HO_6.out
                       subst eo52
                       have p566 : 0 ≤ ((rd (rd_L2 t558 x10_2) x11_3) : Int) := oda
                       have q566 : (rd (rd_L2 t558 x10_2) x11_3) < (t552.length : Int) := oda
                       obtain ⟨ad566, e566, hx566_0⟩ := Kd.at_bool (Kd.R_reads' HO_6.out).2.2 (rd (rd_L2 t558 x10_2) x11_3) p566 q566
                       (try rw [← Nbq45.out] at hx566_0)
                       (try rw [← Nbq48.out] at hx566_0)
                       cases e566
                       replace p566 := eq_true p566
                       replace q566 := eq_true q566
                       go_wp2
                       (try simp only [← hl5_3])
                       go_roundg kj30
                       case measure => have := HK1.out; have := HK2.out; have := HK3.out; have := HJ30.out; omega
                       case rel => exact ⟨(x5_3), (x9_3), (wrap64 (x11_3 + 1)), (by first | rfl | (simp; done) | (simp [*]; done)), (by first | rfl | (simp; done) | (simp [*]; done)), H', ⟨by have := HK1.out; have := HK2.out; have := HK3.out; have := HJ30.out; omega⟩, ⟨by (try simp only [hl5_1]); (try simp only [hl5_2]); (try simp only [hl5_3]); exact Rq HO_5.out⟩, ⟨by (try simp only [hl5_1]); (try simp only [hl5_2]); (try simp only [hl5_3]); exact Rq HO_6.out⟩, ⟨by (try simp only [hl5_1]); (try simp only [hl5_2]); (try simp only [hl5_3]); exact Rq HO_7.out⟩, ⟨by (try simp only [hl5_1]); (try simp only [hl5_2]); (try simp only [hl5_3]); exact Sq HO_8.out⟩, ⟨by (try simp only [hl5_1]); (try simp only [hl5_2]); (try simp only [hl5_3]); exact bkq BK542⟩, ⟨by (try simp only [hl5_1]); (try simp only [hl5_2]); (try simp only [hl5_3]); exact bkq BK543⟩, ⟨bwq HB⟩⟩
                      ·replace c49 := Bool.eq_false_iff.mpr c49
                       subst c49
                       have H1 : (if (rd (rd_L2 t558 x10_2) x11_3) < (x5_3.length : Int) then (if (rdOf false x5_3 (rd (rd_L2 t558 x10_2) x11_3) = true) then (spec_SafeUp.l2 kj30 x5_3 t552 t555 t558 x9_3 x10_2 (wrap64 (x11_3 + 1))) else (if x10_2 < (x5_3.length : Int) then (spec_SafeUp.l2 kj30 (x5_3.set (x10_2 : Int).toNat false) t552 t555 t558 true x10_2 (wrap64 (x11_3 + 1))) else (none))) else (none)) = some r := by rw [if_neg (show ¬ (false = true) by decide)] at H; exact H
                       clear H
                       have H := H1
                       clear H1
                       by_cases c53 : (rd (rd_L2 t558 x10_2) x11_3) < (x5_3.length : Int)
                       ·rw [if_pos c53] at H
                        have c53b0 : decide ((rd (rd_L2 t558 x10_2) x11_3) < (x5_3.length : Int)) = true := decide_eq_true c53
                        clear c53
                        obtain ⟨bq54, hbq54⟩ : ∃ b_ : Bool, b_ = (rdOf false x5_3 (rd (rd_L2 t558 x10_2) x11_3)) := ⟨_, rfl⟩
                        replace H : (if (bq54 = true) then (spec_SafeUp.l2 kj30 x5_3 t552 t555 t558 x9_3 x10_2 (wrap64 (x11_3 + 1))) else (if x10_2 < (x5_3.length : Int) then (spec_SafeUp.l2 kj30 (x5_3.set (x10_2 : Int).toNat false) t552 t555 t558 true x10_2 (wrap64 (x11_3 + 1))) else (none))) = some r := by rw [← hbq54] at H; exact H
                        have Nbq54 := Aside0.mk hbq54
                        clear hbq54
                        by_cases c55 : (bq54 = true)
                        ·subst c55
                         rw [if_pos rfl] at H
                         have H' := Aside0.mk H
                         clear H
                         obtain ⟨Ao56, co56, eo56⟩ := Kd.S_slice HO_8.out
                         subst eo56
                         have p563 : 0 ≤ (x10_2 : Int) := oda
                         have q563 : x10_2 < (t558.length : Int) := oda
                         obtain ⟨ad563, A563_0, c563_0, e563, hx563_0, hl563_0, hi563_0⟩ := at_L2 (Kd.S_reads' HO_8.out).2.2 x10_2 p563 q563
                         cases e563
                         obtain ⟨ce563, hce563, hMe563, hcc563⟩ := Kd.S_get HO_8.out [] x10_2 p563 (by first | exact q563 | exact oda | (have e_ := (Kd.S_reads' HO_8.out).1; omega))
                         obtain ⟨ve563_0, rfl, ge563_0⟩ := hMe563
                         have hv563_0 := hcc563 0 _ rfl
                         rw [Nat.add_zero, show ((Kd.slice 3 (Kd.int .i64))).sz = 1 from rfl, Nat.mul_one] at hv563_0
                         replace hv563_0 := Option.some.inj (hv563_0.symm.trans hx563_0)
                         rw [hv563_0] at ge563_0
                         have HL563_0 := Aside0.mk (show Kd.R (Kd.int .i64) 3 _ _ _ _ (rd_L2 t558 x10_2) from ge563_0)
                         clear hv563_0 ge563_0
                         clear hcc563 hce563
                         have HR563_0 := Aside0.mk hi563_0
                         have HC563_0 := Aside0.mk hl563_0
                         clear hi563_0 hl563_0
                         replace p563 := eq_true p563
                         replace q563 := eq_true q563
                         have p564 : 0 ≤ (x11_3 : Int) := oda
                         have q564 : x11_3 < ((rd_L2 t558 x10_2).length : Int) := oda
                         obtain ⟨ad564, e564, hx564_0⟩ := Kd.at_int (by repeat (first | (with_reducible exact HR563_0.out) | (with_reducible refine Kd.C_alloc ?_ _) | (with_reducible refine Kd.C_drewN ?_ _) | (with_reducible refine Kd.C_drew ?_) | exact HR563_0.out)) x11_3 p564 q564
                         cases e564
                         replace p564 := eq_true p564
                         replace q564 := eq_true q564
                         obtain ⟨Ao57, co57, eo57⟩ := Kd.R_slice HO_7.out
                         subst eo57
                         have p565 : 0 ≤ ((rd (rd_L2 t558 x10_2) x11_3) : Int) := oda
                         have q565 : (rd (rd_L2 t558 x10_2) x11_3) < (t555.length : Int) := oda
                         obtain ⟨ad565, e565, hx565_0⟩ := Kd.at_bool (Kd.R_reads' HO_7.out).2.2 (rd (rd_L2 t558 x10_2) x11_3) p565 q565
                         (try rw [← Nbq45.out] at hx565_0)
                         (try rw [← Nbq48.out] at hx565_0)
                         (try rw [← Nbq54.out] at hx565_0)
                         cases e565
                         replace p565 := eq_true p565
                         replace q565 := eq_true q565
                         obtain ⟨Ao58, co58, eo58⟩ := Kd.R_slice HO_6.out
                         subst eo58
                         have p566 : 0 ≤ ((rd (rd_L2 t558 x10_2) x11_3) : Int) := oda
                         have q566 : (rd (rd_L2 t558 x10_2) x11_3) < (t552.length : Int) := oda
                         obtain ⟨ad566, e566, hx566_0⟩ := Kd.at_bool (Kd.R_reads' HO_6.out).2.2 (rd (rd_L2 t558 x10_2) x11_3) p566 q566
                         (try rw [← Nbq45.out] at hx566_0)
                         (try rw [← Nbq48.out] at hx566_0)
                         (try rw [← Nbq54.out] at hx566_0)
                         cases e566
                         replace p566 := eq_true p566
                         replace q566 := eq_true q566
                         have p567 : 0 ≤ ((rd (rd_L2 t558 x10_2) x11_3) : Int) := oda
                         have q567 : (rd (rd_L2 t558 x10_2) x11_3) < (x5_3.length : Int) := oda
                         obtain ⟨ad567, e567, hx567_0⟩ := Kd.at_bool (Kd.R_reads' HO_5.out).2.2 (rd (rd_L2 t558 x10_2) x11_3) p567 q567
                         (try rw [← Nbq45.out] at hx567_0)
                         (try rw [← Nbq48.out] at hx567_0)
                         (try rw [← Nbq54.out] at hx567_0)
                         obtain rfl : (⟨go7, 0, none⟩ : Addr) = ad567 := (by injection e567)
                         (first | simp only [add_plain] at hx567_0 | simp only [add_at] at hx567_0 | simp only [Addr.add, Nat.zero_add] at hx567_0 | skip)
                         replace p567 := eq_true p567
                         replace q567 := eq_true q567
                         go_wp2
                         (try simp only [← hl5_3])
                         go_roundg kj30
                         case measure => have := HK1.out; have := HK2.out; have := HK3.out; have := HJ30.out; omega
                         case rel => exact ⟨(x5_3), (x9_3), (wrap64 (x11_3 + 1)), (by first | rfl | (simp; done) | (simp [*]; done)), (by first | rfl | (simp; done) | (simp [*]; done)), H', ⟨by have := HK1.out; have := HK2.out; have := HK3.out; have := HJ30.out; omega⟩, ⟨by (try simp only [hl5_1]); (try simp only [hl5_2]); (try simp only [hl5_3]); exact Rq HO_5.out⟩, ⟨by (try simp only [hl5_1]); (try simp only [hl5_2]); (try simp only [hl5_3]); exact Rq HO_6.out⟩, ⟨by (try simp only [hl5_1]); (try simp only [hl5_2]); (try simp only [hl5_3]); exact Rq HO_7.out⟩, ⟨by (try simp only [hl5_1]); (try simp only [hl5_2]); (try simp only [hl5_3]); exact Sq HO_8.out⟩, ⟨by (try simp only [hl5_1]); (try simp only [hl5_2]); (try simp only [hl5_3]); exact bkq BK542⟩, ⟨by (try simp only [hl5_1]); (try simp only [hl5_2]); (try simp only [hl5_3]); exact bkq BK543⟩, ⟨bwq HB⟩⟩
                        ·replace c55 := Bool.eq_false_iff.mpr c55
                         subst c55
                         have H1 : (if x10_2 < (x5_3.length : Int) then (spec_SafeUp.l2 kj30 (x5_3.set (x10_2 : Int).toNat false) t552 t555 t558 true x10_2 (wrap64 (x11_3 + 1))) else (none)) = some r := by rw [if_neg (show ¬ (false = true) by decide)] at H; exact H
                         clear H
                         have H := H1
                         clear H1
                         by_cases c59 : x10_2 < (x5_3.length : Int)
                         ·rw [if_pos c59] at H
                          have c59b0 : decide (x10_2 < (x5_3.length : Int)) = true := decide_eq_true c59
                          clear c59
                          obtain ⟨y568, hy568⟩ : ∃ y_ : List Bool, y_ = (x5_3.set (x10_2 : Int).toNat false) := ⟨_, rfl⟩
                          replace H : (spec_SafeUp.l2 kj30 y568 t552 t555 t558 true x10_2 (wrap64 (x11_3 + 1))) = some r := by first | (rw [hy568]; with_reducible exact H) | (have H2_ := (Option.bind_some _ _).symm.trans H; rw [hy568]; with_reducible exact H2_) | (have H2_ := (Option.bind_some _ _).symm.trans H; with_reducible exact H2_) | with_reducible exact H | (rw [hy568]; exact H) | exact H
                          have Ny568 := Aside0.mk hy568
                          clear hy568
                          have H' := Aside0.mk H
                          clear H
                          obtain ⟨Ao61, co61, eo61⟩ := Kd.S_slice HO_8.out
                          subst eo61
                          have p563 : 0 ≤ (x10_2 : Int) := oda
                          have q563 : x10_2 < (t558.length : Int) := oda
                          obtain ⟨ad563, A563_0, c563_0, e563, hx563_0, hl563_0, hi563_0⟩ := at_L2 (Kd.S_reads' HO_8.out).2.2 x10_2 p563 q563
                          cases e563
                          obtain ⟨ce563, hce563, hMe563, hcc563⟩ := Kd.S_get HO_8.out [] x10_2 p563 (by first | exact q563 | exact oda | (have e_ := (Kd.S_reads' HO_8.out).1; omega))
                          obtain ⟨ve563_0, rfl, ge563_0⟩ := hMe563
                          have hv563_0 := hcc563 0 _ rfl
                          rw [Nat.add_zero, show ((Kd.slice 3 (Kd.int .i64))).sz = 1 from rfl, Nat.mul_one] at hv563_0
                          replace hv563_0 := Option.some.inj (hv563_0.symm.trans hx563_0)
                          rw [hv563_0] at ge563_0
                          have HL563_0 := Aside0.mk (show Kd.R (Kd.int .i64) 3 _ _ _ _ (rd_L2 t558 x10_2) from ge563_0)
                          clear hv563_0 ge563_0
                          clear hcc563 hce563
                          have HR563_0 := Aside0.mk hi563_0
                          have HC563_0 := Aside0.mk hl563_0
                          clear hi563_0 hl563_0
                          replace p563 := eq_true p563
                          replace q563 := eq_true q563
                          have p564 : 0 ≤ (x11_3 : Int) := oda
                          have q564 : x11_3 < ((rd_L2 t558 x10_2).length : Int) := oda
                          obtain ⟨ad564, e564, hx564_0⟩ := Kd.at_int (by repeat (first | (with_reducible exact HR563_0.out) | (with_reducible refine Kd.C_alloc ?_ _) | (with_reducible refine Kd.C_drewN ?_ _) | (with_reducible refine Kd.C_drew ?_) | exact HR563_0.out)) x11_3 p564 q564
                          cases e564
                          replace p564 := eq_true p564
                          replace q564 := eq_true q564
                          obtain ⟨Ao62, co62, eo62⟩ := Kd.R_slice HO_7.out
                          subst eo62
                          have p565 : 0 ≤ ((rd (rd_L2 t558 x10_2) x11_3) : Int) := oda
                          have q565 : (rd (rd_L2 t558 x10_2) x11_3) < (t555.length : Int) := oda
                          obtain ⟨ad565, e565, hx565_0⟩ := Kd.at_bool (Kd.R_reads' HO_7.out).2.2 (rd (rd_L2 t558 x10_2) x11_3) p565 q565
                          (try rw [← Nbq45.out] at hx565_0)
                          (try rw [← Nbq48.out] at hx565_0)
                          (try rw [← Nbq54.out] at hx565_0)
                          cases e565
                          replace p565 := eq_true p565
                          replace q565 := eq_true q565
                          obtain ⟨Ao63, co63, eo63⟩ := Kd.R_slice HO_6.out
                          subst eo63
                          have p566 : 0 ≤ ((rd (rd_L2 t558 x10_2) x11_3) : Int) := oda
                          have q566 : (rd (rd_L2 t558 x10_2) x11_3) < (t552.length : Int) := oda
                          obtain ⟨ad566, e566, hx566_0⟩ := Kd.at_bool (Kd.R_reads' HO_6.out).2.2 (rd (rd_L2 t558 x10_2) x11_3) p566 q566
                          (try rw [← Nbq45.out] at hx566_0)
                          (try rw [← Nbq48.out] at hx566_0)
                          (try rw [← Nbq54.out] at hx566_0)
                          cases e566
                          replace p566 := eq_true p566
                          replace q566 := eq_true q566
                          have p567 : 0 ≤ ((rd (rd_L2 t558 x10_2) x11_3) : Int) := oda
                          have q567 : (rd (rd_L2 t558 x10_2) x11_3) < (x5_3.length : Int) := oda
                          obtain ⟨ad567, e567, hx567_0⟩ := Kd.at_bool (Kd.R_reads' HO_5.out).2.2 (rd (rd_L2 t558 x10_2) x11_3) p567 q567
                          (try rw [← Nbq45.out] at hx567_0)
                          (try rw [← Nbq48.out] at hx567_0)
                          (try rw [← Nbq54.out] at hx567_0)
                          obtain rfl : (⟨go7, 0, none⟩ : Addr) = ad567 := (by injection e567)
                          (first | simp only [add_plain] at hx567_0 | simp only [add_at] at hx567_0 | simp only [Addr.add, Nat.zero_add] at hx567_0 | skip)
                          replace p567 := eq_true p567
                          replace q567 := eq_true q567
                          have p60 : 0 ≤ (x10_2 : Int) := oda
                          have q60 : (x10_2 : Int) < ((x5_3.length : Int) : Int) := oda
                          obtain ⟨hx60_0, hf60_0⟩ := Kd.R_celln false HO_5.out (x10_2 : Int) p60 q60
                          replace p60 := eq_true p60
                          replace q60 := eq_true q60
                          have HP64 := Kd.R_putg HO_5.out (x10_2 : Int) false
                          go_wp2_with (first | ((with_reducible refine gate_store (t := 4) (p := 80) rfl ?_); refine store_event (t := 4) (p := 80) (v := ?vo_w65) (w1 := (wc.setCell ⟨go7, (x10_2 : Int).toNat, none⟩ (.bool false))) ?hg ?ho ?hn ?hr ?_; (case ho => rfl); (case hg => rfl); (case hn => rfl); (case hr => first | (go_simp; done) | (go_simp; rfl) | (go_simp; rfl)); intro w65 hw; have hg : wc.grownBy w65 (some go7) := (by rw [hw]; exact HP64.2); have hp_ : Kd.R Kd.bool 4 w65 w.heap.size (fun k_ => some k_ ≠ (.slice (some ad566) t552.length co63 : Value).ownBlock ∧ some k_ ≠ (.slice (some ad565) t555.length co62 : Value).ownBlock) (.slice (some ⟨go7, 0, none⟩) x5_3.length co7) y568 := (by rw [hw, Ny568.out]; exact HP64.1); clear HP64; replace HO_6 := Aside0.mk (Kd.R_after (v := (.slice (some ⟨go7, 0, none⟩) x5_3.length co7)) (v1 := (.slice (some ⟨go7, 0, none⟩) x5_3.length co7)) (ok := (fun k_ => some k_ ≠ (.slice (some ad565) t555.length co62 : Value).ownBlock)) (by (with_reducible repeat (first | apply Kd.R_alloc | apply Kd.R_drewN | apply Kd.R_drew)); exact Kd.R_mono HO_6.out (fun _ hk => ⟨hk.2, hk.1⟩)) hg (.inl rfl)); replace HO_7 := Aside0.mk (Kd.R_after (v := (.slice (some ⟨go7, 0, none⟩) x5_3.length co7)) (v1 := (.slice (some ⟨go7, 0, none⟩) x5_3.length co7)) (ok := (fun k_ => some k_ ≠ (.slice (some ad566) t552.length co63 : Value).ownBlock)) (by (with_reducible repeat (first | apply Kd.R_alloc | apply Kd.R_drewN | apply Kd.R_drew)); exact Kd.R_mono HO_7.out (fun _ hk => ⟨hk.2, hk.1⟩)) hg (.inl rfl)); replace HO_8 := Aside0.mk (Kd.S_over' (v := (.slice (some ⟨go7, 0, none⟩) x5_3.length co7)) (Sq HO_8.out) (Kd.R_typed HO_5.out) (by decide) hg); replace BK542 := Aside0.mk (blk_grown (g := gb542) (o := .cells #[.slice A0_0 l0_0.length c0_0] 38 (0, 0)) (bkq BK542) hg (Kd.R_ne HO_5.out BK542.out (by decide))); replace BK543 := Aside0.mk (blk_grown (g := gb543) (o := .cells #[.int .i64 a1_0, .int .i64 a1_1, .int .i64 a1_2, .int .i64 a1_3, .int .i64 a1_4] 42 (0, 0)) (bkq BK543) hg (Kd.R_ne HO_5.out BK543.out (by decide))); replace HL563_0 := Aside0.mk (Kd.R_over' (v := (.slice (some ⟨go7, 0, none⟩) x5_3.length co7)) (by (with_reducible repeat (first | apply Kd.R_alloc | apply Kd.R_drewN | apply Kd.R_drew)); exact HL563_0.out) (Kd.R_typed HO_5.out) (by decide) hg); replace HO_5 := Aside0.mk (hp_); replace HB := Aside0.mk ((by rw [hw]; exact below_set (HB.out) GB7.out : Below w.heap.size w w65)); clear hg hw hp_))
                          (try simp only [← hl5_3])
                          go_roundg kj30
                          case measure => have := HK1.out; have := HK2.out; have := HK3.out; have := HJ30.out; omega
                          case rel => exact ⟨(y568), (true), (wrap64 (x11_3 + 1)), (by first | rfl | (simp; done) | (simp [*]; done)), (by first | rfl | (simp; done) | (simp [*]; done)), H', ⟨by have := HK1.out; have := HK2.out; have := HK3.out; have := HJ30.out; omega⟩, ⟨by (try simp only [hl5_1]); (try simp only [hl5_2]); (try simp only [hl5_3]); exact Rq HO_5.out⟩, ⟨by (try simp only [hl5_1]); (try simp only [hl5_2]); (try simp only [hl5_3]); (with_reducible repeat (first | apply Kd.R_alloc | apply Kd.R_drewN | apply Kd.R_drew)); exact Kd.R_mono HO_6.out (fun _ hk => ⟨hk.2, hk.1⟩)⟩, ⟨by (try simp only [hl5_1]); (try simp only [hl5_2]); (try simp only [hl5_3]); (with_reducible repeat (first | apply Kd.R_alloc | apply Kd.R_drewN | apply Kd.R_drew)); exact Kd.R_mono HO_7.out (fun _ hk => ⟨hk.2, hk.1⟩)⟩, ⟨by (try simp only [hl5_1]); (try simp only [hl5_2]); (try simp only [hl5_3]); exact Sq HO_8.out⟩, ⟨by (try simp only [hl5_1]); (try simp only [hl5_2]); (try simp only [hl5_3]); exact bkq BK542⟩, ⟨by (try simp only [hl5_1]); (try simp only [hl5_2]); (try simp only [hl5_3]); exact bkq BK543⟩, ⟨bwq HB⟩⟩
                         ·rw [if_neg c59] at H
                          exact absurd H (by simp)
                       ·rw [if_neg c53] at H
                        exact absurd H (by simp)
                     ·rw [if_neg c47] at H
                      exact absurd H (by simp)
                    ·replace c46 := Bool.eq_false_iff.mpr c46
                     subst c46
                     have H1 : (if x10_2 < (x5_3.length : Int) then (spec_SafeUp.l2 kj30 (x5_3.set (x10_2 : Int).toNat false) t552 t555 t558 true x10_2 (wrap64 (x11_3 + 1))) else (none)) = some r := by rw [if_neg (show ¬ (false = true) by decide)] at H; exact H
                     clear H
                     have H := H1
                     clear H1
                     by_cases c66 : x10_2 < (x5_3.length : Int)
                     ·rw [if_pos c66] at H
                      have c66b0 : decide (x10_2 < (x5_3.length : Int)) = true := decide_eq_true c66
                      clear c66
                      obtain ⟨y569, hy569⟩ : ∃ y_ : List Bool, y_ = (x5_3.set (x10_2 : Int).toNat false) := ⟨_, rfl⟩
                      replace H : (spec_SafeUp.l2 kj30 y569 t552 t555 t558 true x10_2 (wrap64 (x11_3 + 1))) = some r := by first | (rw [hy569]; with_reducible exact H) | (have H2_ := (Option.bind_some _ _).symm.trans H; rw [hy569]; with_reducible exact H2_) | (have H2_ := (Option.bind_some _ _).symm.trans H; with_reducible exact H2_) | with_reducible exact H | (rw [hy569]; exact H) | exact H
                      have Ny569 := Aside0.mk hy569
                      clear hy569
                      have H' := Aside0.mk H
                      clear H
                      obtain ⟨Ao68, co68, eo68⟩ := Kd.S_slice HO_8.out
                      subst eo68
                      have p563 : 0 ≤ (x10_2 : Int) := oda
                      have q563 : x10_2 < (t558.length : Int) := oda
                      obtain ⟨ad563, A563_0, c563_0, e563, hx563_0, hl563_0, hi563_0⟩ := at_L2 (Kd.S_reads' HO_8.out).2.2 x10_2 p563 q563
                      cases e563
                      obtain ⟨ce563, hce563, hMe563, hcc563⟩ := Kd.S_get HO_8.out [] x10_2 p563 (by first | exact q563 | exact oda | (have e_ := (Kd.S_reads' HO_8.out).1; omega))
                      obtain ⟨ve563_0, rfl, ge563_0⟩ := hMe563
                      have hv563_0 := hcc563 0 _ rfl
                      rw [Nat.add_zero, show ((Kd.slice 3 (Kd.int .i64))).sz = 1 from rfl, Nat.mul_one] at hv563_0
                      replace hv563_0 := Option.some.inj (hv563_0.symm.trans hx563_0)
                      rw [hv563_0] at ge563_0
                      have HL563_0 := Aside0.mk (show Kd.R (Kd.int .i64) 3 _ _ _ _ (rd_L2 t558 x10_2) from ge563_0)
                      clear hv563_0 ge563_0
                      clear hcc563 hce563
                      have HR563_0 := Aside0.mk hi563_0
                      have HC563_0 := Aside0.mk hl563_0
                      clear hi563_0 hl563_0
                      replace p563 := eq_true p563
                      replace q563 := eq_true q563
                      have p564 : 0 ≤ (x11_3 : Int) := oda
                      have q564 : x11_3 < ((rd_L2 t558 x10_2).length : Int) := oda
                      obtain ⟨ad564, e564, hx564_0⟩ := Kd.at_int (by repeat (first | (with_reducible exact HR563_0.out) | (with_reducible refine Kd.C_alloc ?_ _) | (with_reducible refine Kd.C_drewN ?_ _) | (with_reducible refine Kd.C_drew ?_) | exact HR563_0.out)) x11_3 p564 q564
                      cases e564
                      replace p564 := eq_true p564
                      replace q564 := eq_true q564
                      obtain ⟨Ao69, co69, eo69⟩ := Kd.R_slice HO_7.out
                      subst eo69
                      have p565 : 0 ≤ ((rd (rd_L2 t558 x10_2) x11_3) : Int) := oda
                      have q565 : (rd (rd_L2 t558 x10_2) x11_3) < (t555.length : Int) := oda
                      obtain ⟨ad565, e565, hx565_0⟩ := Kd.at_bool (Kd.R_reads' HO_7.out).2.2 (rd (rd_L2 t558 x10_2) x11_3) p565 q565
                      (try rw [← Nbq45.out] at hx565_0)
                      cases e565
                      replace p565 := eq_true p565
                      replace q565 := eq_true q565
                      have p67 : 0 ≤ (x10_2 : Int) := oda
                      have q67 : (x10_2 : Int) < ((x5_3.length : Int) : Int) := oda
                      obtain ⟨hx67_0, hf67_0⟩ := Kd.R_celln false HO_5.out (x10_2 : Int) p67 q67
                      replace p67 := eq_true p67
                      replace q67 := eq_true q67
                      have HP70 := Kd.R_putg HO_5.out (x10_2 : Int) false
                      go_wp2_with (first | ((with_reducible refine gate_store (t := 4) (p := 80) rfl ?_); refine store_event (t := 4) (p := 80) (v := ?vo_w71) (w1 := (wc.setCell ⟨go7, (x10_2 : Int).toNat, none⟩ (.bool false))) ?hg ?ho ?hn ?hr ?_; (case ho => rfl); (case hg => rfl); (case hn => rfl); (case hr => first | (go_simp; done) | (go_simp; rfl) | (go_simp; rfl)); intro w71 hw; have hg : wc.grownBy w71 (some go7) := (by rw [hw]; exact HP70.2); have hp_ : Kd.R Kd.bool 4 w71 w.heap.size (fun k_ => some k_ ≠ (v553 : Value).ownBlock ∧ some k_ ≠ (.slice (some ad565) t555.length co69 : Value).ownBlock) (.slice (some ⟨go7, 0, none⟩) x5_3.length co7) y569 := (by rw [hw, Ny569.out]; exact HP70.1); clear HP70; replace HO_6 := Aside0.mk (Kd.R_after (v := (.slice (some ⟨go7, 0, none⟩) x5_3.length co7)) (v1 := (.slice (some ⟨go7, 0, none⟩) x5_3.length co7)) (ok := (fun k_ => some k_ ≠ (.slice (some ad565) t555.length co69 : Value).ownBlock)) (by (with_reducible repeat (first | apply Kd.R_alloc | apply Kd.R_drewN | apply Kd.R_drew)); exact Kd.R_mono HO_6.out (fun _ hk => ⟨hk.2, hk.1⟩)) hg (.inl rfl)); replace HO_7 := Aside0.mk (Kd.R_after (v := (.slice (some ⟨go7, 0, none⟩) x5_3.length co7)) (v1 := (.slice (some ⟨go7, 0, none⟩) x5_3.length co7)) (ok := (fun k_ => some k_ ≠ (v553 : Value).ownBlock)) (by (with_reducible repeat (first | apply Kd.R_alloc | apply Kd.R_drewN | apply Kd.R_drew)); exact Kd.R_mono HO_7.out (fun _ hk => ⟨hk.2, hk.1⟩)) hg (.inl rfl)); replace HO_8 := Aside0.mk (Kd.S_over' (v := (.slice (some ⟨go7, 0, none⟩) x5_3.length co7)) (Sq HO_8.out) (Kd.R_typed HO_5.out) (by decide) hg); replace BK542 := Aside0.mk (blk_grown (g := gb542) (o := .cells #[.slice A0_0 l0_0.length c0_0] 38 (0, 0)) (bkq BK542) hg (Kd.R_ne HO_5.out BK542.out (by decide))); replace BK543 := Aside0.mk (blk_grown (g := gb543) (o := .cells #[.int .i64 a1_0, .int .i64 a1_1, .int .i64 a1_2, .int .i64 a1_3, .int .i64 a1_4] 42 (0, 0)) (bkq BK543) hg (Kd.R_ne HO_5.out BK543.out (by decide))); replace HL563_0 := Aside0.mk (Kd.R_over' (v := (.slice (some ⟨go7, 0, none⟩) x5_3.length co7)) (by (with_reducible repeat (first | apply Kd.R_alloc | apply Kd.R_drewN | apply Kd.R_drew)); exact HL563_0.out) (Kd.R_typed HO_5.out) (by decide) hg); replace HO_5 := Aside0.mk (hp_); replace HB := Aside0.mk ((by rw [hw]; exact below_set (HB.out) GB7.out : Below w.heap.size w w71)); clear hg hw hp_))
                      (try simp only [← hl5_3])
                      go_roundg kj30
                      case measure => have := HK1.out; have := HK2.out; have := HK3.out; have := HJ30.out; omega
                      case rel => exact ⟨(y569), (true), (wrap64 (x11_3 + 1)), (by first | rfl | (simp; done) | (simp [*]; done)), (by first | rfl | (simp; done) | (simp [*]; done)), H', ⟨by have := HK1.out; have := HK2.out; have := HK3.out; have := HJ30.out; omega⟩, ⟨by (try simp only [hl5_1]); (try simp only [hl5_2]); (try simp only [hl5_3]); exact Rq HO_5.out⟩, ⟨by (try simp only [hl5_1]); (try simp only [hl5_2]); (try simp only [hl5_3]); (with_reducible repeat (first | apply Kd.R_alloc | apply Kd.R_drewN | apply Kd.R_drew)); exact Kd.R_mono HO_6.out (fun _ hk => ⟨hk.2, hk.1⟩)⟩, ⟨by (try simp only [hl5_1]); (try simp only [hl5_2]); (try simp only [hl5_3]); (with_reducible repeat (first | apply Kd.R_alloc | apply Kd.R_drewN | apply Kd.R_drew)); exact Kd.R_mono HO_7.out (fun _ hk => ⟨hk.2, hk.1⟩)⟩, ⟨by (try simp only [hl5_1]); (try simp only [hl5_2]); (try simp only [hl5_3]); exact Sq HO_8.out⟩, ⟨by (try simp only [hl5_1]); (try simp only [hl5_2]); (try simp only [hl5_3]); exact bkq BK542⟩, ⟨by (try simp only [hl5_1]); (try simp only [hl5_2]); (try simp only [hl5_3]); exact bkq BK543⟩, ⟨bwq HB⟩⟩
                     ·rw [if_neg c66] at H
                      exact absurd H (by simp)
                   ·rw [if_neg c44] at H
                    exact absurd H (by simp)
                  ·rw [if_neg c43] at H
                   exact absurd H (by simp)
                 ·rw [if_neg c42] at H
                  exact absurd H (by simp)
                ·rw [if_neg c41] at H
                 exact absurd H (by simp)
               ·rw [if_neg c40] at H
                exact absurd H (by simp)
              ·rw [if_neg c39] at H
               exact absurd H (by simp)
             ·replace c38 := Bool.eq_false_iff.mpr c38
              subst c38
              have H1 : (spec_SafeUp.l1 kj30 x5_3 t552 t555 t558 x9_3 (wrap64 (x10_2 + 1))) = some r := by rw [if_neg (show ¬ (false = true) by decide)] at H; exact H
              clear H
              have H := H1
              clear H1
              have H' := Aside0.mk H
              clear H
              go_wp2
              (try simp only [← hl5_2, ← hl5_3])
              go_roundg kj30
              case measure => have := HK1.out; have := HK2.out; have := HK3.out; have := HJ30.out; omega
              case rel => exact ⟨(x5_3), (x9_3), (wrap64 (x10_2 + 1)), (by first | rfl | (simp; done) | (simp [*]; done)), (by first | rfl | (simp; done) | (simp [*]; done)), H', ⟨by have := HK1.out; have := HK2.out; have := HK3.out; have := HJ30.out; omega⟩, ⟨by (try simp only [hl5_1]); (try simp only [hl5_2]); (try simp only [hl5_3]); exact Rq HO_5.out⟩, ⟨by (try simp only [hl5_1]); (try simp only [hl5_2]); (try simp only [hl5_3]); exact Rq HO_6.out⟩, ⟨by (try simp only [hl5_1]); (try simp only [hl5_2]); (try simp only [hl5_3]); exact Rq HO_7.out⟩, ⟨by (try simp only [hl5_1]); (try simp only [hl5_2]); (try simp only [hl5_3]); exact Sq HO_8.out⟩, ⟨by (try simp only [hl5_1]); (try simp only [hl5_2]); (try simp only [hl5_3]); exact bkq BK542⟩, ⟨by (try simp only [hl5_1]); (try simp only [hl5_2]); (try simp only [hl5_3]); exact bkq BK543⟩, ⟨bwq HB⟩⟩
        ·rw [if_neg c30] at H
         have c30b0 : decide (x10_2 < (x5_2.length : Int)) = false := decide_eq_false c30
         clear c30
         have H' := Aside0.mk H
         clear H
         go_wp2
         (try simp only [← hl5_1, ← hl5_2])
         go_roundg k2
         case measure => have := HK1.out; have := HK2.out; omega
         case rel => exact ⟨(x5_2), (x9_2), (by first | rfl | (simp; done) | (simp [*]; done)), H', ⟨by have := HK1.out; have := HK2.out; omega⟩, ⟨by (try simp only [hl5_1]); (try simp only [hl5_2]); exact Rq HO_5.out⟩, ⟨by (try simp only [hl5_1]); (try simp only [hl5_2]); exact Rq HO_6.out⟩, ⟨by (try simp only [hl5_1]); (try simp only [hl5_2]); exact Rq HO_7.out⟩, ⟨by (try simp only [hl5_1]); (try simp only [hl5_2]); exact Sq HO_8.out⟩, ⟨by (try simp only [hl5_1]); (try simp only [hl5_2]); exact bkq BK542⟩, ⟨by (try simp only [hl5_1]); (try simp only [hl5_2]); exact bkq BK543⟩, ⟨bwq HB⟩⟩
     ·replace c29 := Bool.eq_false_iff.mpr c29
      subst c29
      have H1 : (some x5_1) = some r := by rw [if_neg (show ¬ (false = true) by decide)] at H; exact H
      clear H
      have H := H1
      clear H1
      obtain rfl := Option.some.inj H
      go_wp2
      go_ret
      exact ⟨_, by first | rfl | (simp [errW_none, errW_some] <;> rfl) | (simp [*, errW_none, errW_some] <;> rfl), by (with_reducible repeat (first | apply Kd.R_alloc | apply Kd.R_drewN | apply Kd.R_drew)); exact Kd.R_mono HO_5.out (fun _ hk => trivial), bwq HB⟩
  ·rw [if_neg c6] at H
   exact absurd H (by simp)
 ·replace c4 := Bool.eq_false_iff.mpr c4
  subst c4
  have H1 : (some (([] : List Bool))) = some r := by rw [if_neg (show ¬ (false = true) by decide)] at H; exact H
  clear H
  have H := H1
  clear H1
  obtain ⟨y545, hy545⟩ : ∃ y_ : List Bool, y_ = (([] : List Bool)) := ⟨_, rfl⟩
  replace H : (some y545) = some r := by first | (rw [hy545]; with_reducible exact H) | (have H2_ := (Option.bind_some _ _).symm.trans H; rw [hy545]; with_reducible exact H2_) | (have H2_ := (Option.bind_some _ _).symm.trans H; with_reducible exact H2_) | with_reducible exact H | (rw [hy545]; exact H) | exact H
  have Ny545 := Aside0.mk hy545
  clear hy545
  obtain rfl := Option.some.inj H
  go_enter Try.func58, Try.ntmps58
  go_wp2_with (first | ((with_reducible refine gate_dst (N := 2) rfl ?_); refine bxe (cs := #[.slice A0_0 l0_0.length c0_0]) (t := 38) ?_; intro gb542 hg w72 hbox hb; have BK542 := Aside0.mk (hbox); have GW542 := bwz HB hg; have GE542 := bwz HB hg; replace HB := bwb HB hb; clear hb hbox hg) | ((with_reducible refine gate_dst (N := 3) rfl ?_); refine bxe (cs := #[.int .i64 a1_0, .int .i64 a1_1, .int .i64 a1_2, .int .i64 a1_3, .int .i64 a1_4]) (t := 42) ?_; intro gb543 hg w73 hbox hb; have BK543 := Aside0.mk (hbox); have GW543 := bwz HB hg; have GE543 := bwz HB hg; replace HB := bwb HB hb; have NB542_543 := bkl BK542 hg; have NB543_542 := bkg BK542 hg; replace BK542 := bkb BK542 hb; clear hb hbox hg; have hnb74 := NB542_543.out; have hnc74 := NB543_542.out; obtain ⟨hcz75, hfz75⟩ := bcf BK542; obtain ⟨hcz76, hfz76⟩ := bcf BK543) | ((with_reducible refine gate_callee (f := 63) rfl ?_); refine goesM (some 15) rfl rfl Try.func63 #[.agg #[.slice A0_0 l0_0.length c0_0], .agg #[.int .i64 a1_0, .int .i64 a1_1, .int .i64 a1_2, .int .i64 a1_3, .int .i64 a1_4]] rfl ?_; (with_reducible refine (spec_l12Ok.calls k _ _ l0_0 a1_0 a1_1 a1_2 a1_3 a1_4 false _ ?side1 ?side2 A3.out).mono ?_); (case side1 => exact Cq (Kd.C_below HR0_0.out HB.out)); (case side2 => exact HC0_0.out); rintro e w77 ⟨rfl, hb⟩; refine ⟨_, rfl, ?_⟩; replace BK542 := bkb BK542 hb; replace BK543 := bkb BK543 hb; replace HB := bwb HB hb; (try clear hb); (try clear hb2); (try clear hk); (try clear hi)) | ((with_reducible refine gate_dst (N := 17) rfl ?_); refine Kd.R_lit Kd.bool _ 4 ?hg (N := 17) ?hd (xs := ([] : List Bool)) (inner := []) (ok := fun _ => True) (okp := fun _ => True) ?hr ?hp (fun _ hk => hk) trivial (Below.refl _ _) (Nat.le_refl _) (by simp) ?_; (case hd => rfl); (case hg => rfl); (case hr => first | (go_simp; done) | (go_simp; rfl) | (go_simp; rfl)); (case hp => exact (Reps.none _ _)); intro v546 w78 ho79 hb hg_ hnew_; clear hg_ hnew_; (first | rw [← Ny545.out] at ho79 | (simp only [Int.reduceToNat] at ho79; rw [← Ny545.out] at ho79)); have HO547 := Aside0.mk (Kd.R_lower ho79 (below_size (bwq HB))); replace BK542 := bkb BK542 hb; replace BK543 := bkb BK543 hb; replace HB := bwb HB hb; clear hb ho79))
  go_ret
  exact ⟨_, by first | rfl | (simp [errW_none, errW_some] <;> rfl) | (simp [*, errW_none, errW_some] <;> rfl), Rq HO547.out, bwq HB⟩
mutual
def spec_SafeEarly.l0 : Nat → List Bool → List Bool → List Bool → List Bool → List (List Int) → Int → Option (List Bool)
 | 0, _, _, _, _, _, _ => none
 | k + 1, x5, x6, x7, x8, x9, x10 => if x10 < (x5.length : Int) then (spec_SafeEarly.l1 k x5 x6 x7 x8 x9 x10 false 0) else (some x5)
def spec_SafeEarly.l1 : Nat → List Bool → List Bool → List Bool → List Bool → List (List Int) → Int → Bool → Int → Option (List Bool)
 | 0, _, _, _, _, _, _, _, _ => none
 | k + 1, x5, x6, x7, x8, x9, x10, x11, x12 => if 0 ≤ x10 then (if x10 < (x9.length : Int) then (if x12 < ((rd_L2 x9 x10).length : Int) then (if 0 ≤ x12 then (if x11 = true then (spec_SafeEarly.l1 k x5 x6 x7 x8 x9 x10 true (wrap64 (x12 + 1))) else (if 0 ≤ (rd (rd_L2 x9 x10) x12) then (if (rd (rd_L2 x9 x10) x12) < (x8.length : Int) then (if (rdOf false x8 (rd (rd_L2 x9 x10) x12) = true) then (if (rd (rd_L2 x9 x10) x12) < (x6.length : Int) then (if (rdOf false x6 (rd (rd_L2 x9 x10) x12) = true) then (spec_SafeEarly.l1 k x5 x6 x7 x8 x9 x10 false (wrap64 (x12 + 1))) else (if (rd (rd_L2 x9 x10) x12) < (x7.length : Int) then (spec_SafeEarly.l1 k x5 x6 x7 x8 x9 x10 (!(rdOf false x7 (rd (rd_L2 x9 x10) x12))) (wrap64 (x12 + 1))) else (none))) else (none)) else (spec_SafeEarly.l1 k x5 x6 x7 x8 x9 x10 true (wrap64 (x12 + 1)))) else (none)) else (none))) else (none)) else (if x10 < (x5.length : Int) then (if rdOf false x5 x10 = true then (spec_SafeEarly.l0 k (x5.set (x10 : Int).toNat x11) x6 x7 x8 x9 (wrap64 (x10 + 1))) else (spec_SafeEarly.l0 k (x5.set (x10 : Int).toNat false) x6 x7 x8 x9 (wrap64 (x10 + 1)))) else (none))) else (none)) else (none)
end
def spec_SafeEarly.f (k : Nat) (l0_0 : List (S77)) (a1_0 : Int) (a1_1 : Int) (a1_2 : Int) (a1_3 : Int) (a1_4 : Int) : Option (List Bool) := (spec_SafeDown.f k l0_0 a1_0 a1_1 a1_2 a1_3 a1_4).bind fun t661 => (if (t661.length : Int) = 0 then (some t661) else ((spec_SafeDown.f k l0_0 a1_0 a1_1 a1_2 a1_3 a1_4).bind fun t664 => ((spec_SafeUp.f k l0_0 a1_0 a1_1 a1_2 a1_3 a1_4).bind fun t667 => ((spec_ExprKeeps.f k l0_0 a1_0 a1_1 a1_2 a1_3 a1_4).bind fun t670 => ((spec_FlowPreds.f k l0_0).bind fun t673 => (spec_SafeEarly.l0 k t661 t664 t667 t670 t673 1))))))
set_option maxHeartbeats 8000000 in
set_option maxRecDepth 100000 in
theorem spec_SafeEarly.calls (k : Nat) (A0_0 : Option Addr) (c0_0 : Nat) (l0_0 : List (S77)) (a1_0 : Int) (a1_1 : Int) (a1_2 : Int) (a1_3 : Int) (a1_4 : Int) (r : List Bool) (w : World) (hr0_0 : Kd.C k77 w A0_0 l0_0.length l0_0) (hc0_0 : l0_0.length ≤ c0_0) (h : spec_SafeEarly.f k l0_0 a1_0 a1_1 a1_2 a1_3 a1_4 = some r) :
  Calls Try.prog 64 #[.agg #[.slice A0_0 l0_0.length c0_0], .agg #[.int .i64 a1_0, .int .i64 a1_1, .int .i64 a1_2, .int .i64 a1_3, .int .i64 a1_4]] w fun e w' => ∃ v0_ : Value, e = .returned (v0_) ∧ Kd.R Kd.bool 4 w' w.heap.size (fun _ => True) v0_ r ∧ Below w.heap.size w w' := by
 have hu38 := Try.underlying38
 have hu42 := Try.underlying42
 have HR0_0 := Aside0.mk hr0_0
 have HC0_0 := Aside0.mk hc0_0
 clear hr0_0 hc0_0
 have HB := Aside0.mk (Below.refl w.heap.size w)
 have H : ((spec_SafeDown.f k l0_0 a1_0 a1_1 a1_2 a1_3 a1_4).bind fun t661 => (if (t661.length : Int) = 0 then (some t661) else ((spec_SafeDown.f k l0_0 a1_0 a1_1 a1_2 a1_3 a1_4).bind fun t664 => ((spec_SafeUp.f k l0_0 a1_0 a1_1 a1_2 a1_3 a1_4).bind fun t667 => ((spec_ExprKeeps.f k l0_0 a1_0 a1_1 a1_2 a1_3 a1_4).bind fun t670 => ((spec_FlowPreds.f k l0_0).bind fun t673 => (spec_SafeEarly.l0 k t661 t664 t667 t670 t673 1))))))) = some r := h
 clear h
 replace H := Option.bind_eq_some_iff.mp H
 obtain ⟨t661, A30, H⟩ := H
 have A3 := Aside0.mk A30
 clear A30
 by_cases c4 : (t661.length : Int) = 0
 ·rw [if_pos c4] at H
  have c4b0 : ((t661.length : Int) == 0) = true := beq_iff_eq.mpr c4
  have c4b1 : ((t661.length : Int) != 0) = false := bne_eq_false_iff_eq.mpr c4
  clear c4
  obtain rfl := Option.some.inj H
  go_enter Try.func64, Try.ntmps64
  go_wp2_with (first | ((with_reducible refine gate_dst (N := 2) rfl ?_); refine bxe (cs := #[.slice A0_0 l0_0.length c0_0]) (t := 38) ?_; intro gb659 hg w5 hbox hb; have BK659 := Aside0.mk (hbox); have GW659 := bwz HB hg; have GE659 := bwz HB hg; replace HB := bwb HB hb; clear hb hbox hg) | ((with_reducible refine gate_dst (N := 3) rfl ?_); refine bxe (cs := #[.int .i64 a1_0, .int .i64 a1_1, .int .i64 a1_2, .int .i64 a1_3, .int .i64 a1_4]) (t := 42) ?_; intro gb660 hg w6 hbox hb; have BK660 := Aside0.mk (hbox); have GW660 := bwz HB hg; have GE660 := bwz HB hg; replace HB := bwb HB hb; have NB659_660 := bkl BK659 hg; have NB660_659 := bkg BK659 hg; replace BK659 := bkb BK659 hb; clear hb hbox hg; have hnb7 := NB659_660.out; have hnc7 := NB660_659.out; obtain ⟨hcz8, hfz8⟩ := bcf BK659; obtain ⟨hcz9, hfz9⟩ := bcf BK660) | ((with_reducible refine gate_callee (f := 57) rfl ?_); refine goesM (some 16) rfl rfl Try.func57 #[.agg #[.slice A0_0 l0_0.length c0_0], .agg #[.int .i64 a1_0, .int .i64 a1_1, .int .i64 a1_2, .int .i64 a1_3, .int .i64 a1_4]] rfl ?_; (with_reducible refine (spec_SafeDown.calls k _ _ l0_0 a1_0 a1_1 a1_2 a1_3 a1_4 t661 _ ?side1 ?side2 A3.out).mono ?_); (case side1 => exact Cq (Kd.C_below HR0_0.out HB.out)); (case side2 => exact HC0_0.out); rintro e w10 ⟨v662, rfl, ho0, hb⟩; refine ⟨_, rfl, ?_⟩; have HO663 := Aside0.mk (Kd.R_lower ho0 (below_size (bwq HB))); replace BK659 := bkb BK659 hb; replace BK660 := bkb BK660 hb; replace HB := bwb HB hb; (try clear hb); (try clear hb2); (try clear hk); (try clear hi); (try clear ho0); obtain ⟨Ao11, co11, eo11⟩ := Kd.R_slice HO663.out; subst eo11))
  go_ret
  exact ⟨_, by first | rfl | (simp [errW_none, errW_some] <;> rfl) | (simp [*, errW_none, errW_some] <;> rfl), Rq HO663.out, bwq HB⟩
 ·rw [if_neg c4] at H
  have c4b0 : ((t661.length : Int) == 0) = false := beq_eq_false_iff_ne.mpr c4
  have c4b1 : ((t661.length : Int) != 0) = true := bne_iff_ne.mpr c4
  have c4b2 : ¬ (t661 = []) := fun h_ => c4 (by rw [h_]; rfl)
  replace H := Option.bind_eq_some_iff.mp H
  obtain ⟨t664, A120, H⟩ := H
  have A12 := Aside0.mk A120
  clear A120
  replace H := Option.bind_eq_some_iff.mp H
  obtain ⟨t667, A130, H⟩ := H
  have A13 := Aside0.mk A130
  clear A130
  replace H := Option.bind_eq_some_iff.mp H
  obtain ⟨t670, A140, H⟩ := H
  have A14 := Aside0.mk A140
  clear A140
  replace H := Option.bind_eq_some_iff.mp H
  obtain ⟨t673, A150, H⟩ := H
  have A15 := Aside0.mk A150
  clear A150
  have H' := Aside0.mk H
  clear H
  go_enter Try.func64, Try.ntmps64
  go_wp2_with (first | ((with_reducible refine gate_dst (N := 2) rfl ?_); refine bxe (cs := #[.slice A0_0 l0_0.length c0_0]) (t := 38) ?_; intro gb659 hg w16 hbox hb; have BK659 := Aside0.mk (hbox); have GW659 := bwz HB hg; have GE659 := bwz HB hg; replace HB := bwb HB hb; clear hb hbox hg) | ((with_reducible refine gate_dst (N := 3) rfl ?_); refine bxe (cs := #[.int .i64 a1_0, .int .i64 a1_1, .int .i64 a1_2, .int .i64 a1_3, .int .i64 a1_4]) (t := 42) ?_; intro gb660 hg w17 hbox hb; have BK660 := Aside0.mk (hbox); have GW660 := bwz HB hg; have GE660 := bwz HB hg; replace HB := bwb HB hb; have NB659_660 := bkl BK659 hg; have NB660_659 := bkg BK659 hg; replace BK659 := bkb BK659 hb; clear hb hbox hg; have hnb18 := NB659_660.out; have hnc18 := NB660_659.out; obtain ⟨hcz19, hfz19⟩ := bcf BK659; obtain ⟨hcz20, hfz20⟩ := bcf BK660) | ((with_reducible refine gate_callee (f := 57) rfl ?_); refine goesM (some 16) rfl rfl Try.func57 #[.agg #[.slice A0_0 l0_0.length c0_0], .agg #[.int .i64 a1_0, .int .i64 a1_1, .int .i64 a1_2, .int .i64 a1_3, .int .i64 a1_4]] rfl ?_; (with_reducible refine (spec_SafeDown.calls k _ _ l0_0 a1_0 a1_1 a1_2 a1_3 a1_4 t661 _ ?side1 ?side2 A3.out).mono ?_); (case side1 => exact Cq (Kd.C_below HR0_0.out HB.out)); (case side2 => exact HC0_0.out); rintro e w21 ⟨v662, rfl, ho0, hb⟩; refine ⟨_, rfl, ?_⟩; have HO663 := Aside0.mk (Kd.R_lower ho0 (below_size (bwq HB))); replace BK659 := bkb BK659 hb; replace BK660 := bkb BK660 hb; replace HB := bwb HB hb; (try clear hb); (try clear hb2); (try clear hk); (try clear hi); (try clear ho0); obtain ⟨Ao22, co22, eo22⟩ := Kd.R_slice HO663.out; subst eo22; obtain ⟨hcz23, hfz23⟩ := bcf BK659; obtain ⟨hcz24, hfz24⟩ := bcf BK660) | ((with_reducible refine gate_callee (f := 57) rfl ?_); refine goesM (some 23) rfl rfl Try.func57 #[.agg #[.slice A0_0 l0_0.length c0_0], .agg #[.int .i64 a1_0, .int .i64 a1_1, .int .i64 a1_2, .int .i64 a1_3, .int .i64 a1_4]] rfl ?_; (with_reducible refine (spec_SafeDown.calls k _ _ l0_0 a1_0 a1_1 a1_2 a1_3 a1_4 t664 _ ?side1 ?side2 A12.out).mono ?_); (case side1 => exact Cq (Kd.C_below HR0_0.out HB.out)); (case side2 => exact HC0_0.out); rintro e w25 ⟨v665, rfl, ho0, hb⟩; refine ⟨_, rfl, ?_⟩; have HO666 := Aside0.mk (Kd.R_lower (Kd.R_new' ho0 (Kd.R_lt (Rq HO663.out))) (below_size (bwq HB))); replace HO663 := Aside0.mk (Kd.R_elder' (Rq HO663.out) (Kd.R_base ho0) hb); replace BK659 := bkb BK659 hb; replace BK660 := bkb BK660 hb; replace HB := bwb HB hb; (try clear hb); (try clear hb2); (try clear hk); (try clear hi); (try clear ho0); obtain ⟨hcz26, hfz26⟩ := bcf BK659; obtain ⟨hcz27, hfz27⟩ := bcf BK660) | ((with_reducible refine gate_callee (f := 58) rfl ?_); refine goesM (some 26) rfl rfl Try.func58 #[.agg #[.slice A0_0 l0_0.length c0_0], .agg #[.int .i64 a1_0, .int .i64 a1_1, .int .i64 a1_2, .int .i64 a1_3, .int .i64 a1_4]] rfl ?_; (with_reducible refine (spec_SafeUp.calls k _ _ l0_0 a1_0 a1_1 a1_2 a1_3 a1_4 t667 _ ?side1 ?side2 A13.out).mono ?_); (case side1 => exact Cq (Kd.C_below HR0_0.out HB.out)); (case side2 => exact HC0_0.out); rintro e w28 ⟨v668, rfl, ho0, hb⟩; refine ⟨_, rfl, ?_⟩; have HO669 := Aside0.mk (Kd.R_lower (Kd.R_new' (Kd.R_new' ho0 (Kd.R_lt (Rq HO663.out))) (Kd.R_lt (Rq HO666.out))) (below_size (bwq HB))); replace HO663 := Aside0.mk (Kd.R_elder' (Rq HO663.out) (Kd.R_base ho0) hb); replace HO666 := Aside0.mk (Kd.R_elder' (Rq HO666.out) (Kd.R_base ho0) hb); replace BK659 := bkb BK659 hb; replace BK660 := bkb BK660 hb; replace HB := bwb HB hb; (try clear hb); (try clear hb2); (try clear hk); (try clear hi); (try clear ho0); obtain ⟨hcz29, hfz29⟩ := bcf BK659; obtain ⟨hcz30, hfz30⟩ := bcf BK660) | ((with_reducible refine gate_callee (f := 93) rfl ?_); refine goesM (some 29) rfl rfl Try.func93 #[.agg #[.slice A0_0 l0_0.length c0_0], .agg #[.int .i64 a1_0, .int .i64 a1_1, .int .i64 a1_2, .int .i64 a1_3, .int .i64 a1_4]] rfl ?_; (with_reducible refine (spec_ExprKeeps.calls k _ _ l0_0 a1_0 a1_1 a1_2 a1_3 a1_4 t670 _ ?side1 ?side2 A14.out).mono ?_); (case side1 => exact Cq (Kd.C_below HR0_0.out HB.out)); (case side2 => exact HC0_0.out); rintro e w31 ⟨v671, rfl, ho0, hb⟩; refine ⟨_, rfl, ?_⟩; have HO672 := Aside0.mk (Kd.R_lower (Kd.R_new' (Kd.R_new' (Kd.R_new' ho0 (Kd.R_lt (Rq HO663.out))) (Kd.R_lt (Rq HO666.out))) (Kd.R_lt (Rq HO669.out))) (below_size (bwq HB))); replace HO663 := Aside0.mk (Kd.R_elder' (Rq HO663.out) (Kd.R_base ho0) hb); replace HO666 := Aside0.mk (Kd.R_elder' (Rq HO666.out) (Kd.R_base ho0) hb); replace HO669 := Aside0.mk (Kd.R_elder' (Rq HO669.out) (Kd.R_base ho0) hb); replace BK659 := bkb BK659 hb; replace BK660 := bkb BK660 hb; replace HB := bwb HB hb; (try clear hb); (try clear hb2); (try clear hk); (try clear hi); (try clear ho0); obtain ⟨hcz32, hfz32⟩ := bcf BK659) | ((with_reducible refine gate_callee (f := 94) rfl ?_); refine goesM (some 31) rfl rfl Try.func94 #[.agg #[.slice A0_0 l0_0.length c0_0]] rfl ?_; (with_reducible refine (spec_FlowPreds.calls k _ _ l0_0 t673 _ ?side1 ?side2 A15.out).mono ?_); (case side1 => exact Cq (Kd.C_below HR0_0.out HB.out)); (case side2 => exact HC0_0.out); rintro e w33 ⟨v674, rfl, ho0, hb⟩; refine ⟨_, rfl, ?_⟩; replace HO663 := Aside0.mk (Kd.R_below (Rq HO663.out) hb); replace HO666 := Aside0.mk (Kd.R_below (Rq HO666.out) hb); replace HO669 := Aside0.mk (Kd.R_below (Rq HO669.out) hb); replace HO672 := Aside0.mk (Kd.R_below (Rq HO672.out) hb); have HO675 := Aside0.mk (Kd.S_lower ho0 (below_size (bwq HB))); replace BK659 := bkb BK659 hb; replace BK660 := bkb BK660 hb; replace HB := bwb HB hb; (try clear hb); (try clear hb2); (try clear hk); (try clear hi); (try clear ho0)))
  go_loopg [10] k (fun kq v10 w' => ∃ (x5_1 : List Bool) (x10_1 : Int), v10 = .int .i64 x10_1 ∧ Aside0 (spec_SafeEarly.l0 kq x5_1 t664 t667 t670 t673 x10_1 = some r) ∧ Aside0 (kq ≤ k) ∧ Aside0 (Kd.R Kd.bool 4 w' w.heap.size (fun k_ => some k_ ≠ (v665 : Value).ownBlock ∧ some k_ ≠ (v668 : Value).ownBlock ∧ some k_ ≠ (v671 : Value).ownBlock) (.slice Ao22 t661.length co22) x5_1) ∧ Aside0 (Kd.R Kd.bool 4 w' w.heap.size (fun k_ => some k_ ≠ ((.slice Ao22 t661.length co22) : Value).ownBlock ∧ some k_ ≠ (v668 : Value).ownBlock ∧ some k_ ≠ (v671 : Value).ownBlock) v665 t664) ∧ Aside0 (Kd.R Kd.bool 4 w' w.heap.size (fun k_ => some k_ ≠ ((.slice Ao22 t661.length co22) : Value).ownBlock ∧ some k_ ≠ (v665 : Value).ownBlock ∧ some k_ ≠ (v671 : Value).ownBlock) v668 t667) ∧ Aside0 (Kd.R Kd.bool 4 w' w.heap.size (fun k_ => some k_ ≠ ((.slice Ao22 t661.length co22) : Value).ownBlock ∧ some k_ ≠ (v665 : Value).ownBlock ∧ some k_ ≠ (v668 : Value).ownBlock) v671 t670) ∧ Aside0 (Kd.S (Kd.slice 3 (Kd.int .i64)) 32 w' w.heap.size (fun _ => True) v674 t673) ∧ Aside0 (w'.heap[gb659]? = some (.cells #[(.slice A0_0 l0_0.length c0_0)] 38 (0, 0))) ∧ Aside0 (w'.heap[gb660]? = some (.cells #[.int .i64 a1_0, .int .i64 a1_1, .int .i64 a1_2, .int .i64 a1_3, .int .i64 a1_4] 42 (0, 0))) ∧ Aside0 (Below w.heap.size w w'))
  case atStart => exact ⟨(t661), (1), (by first | rfl | (simp; done) | (simp [*]; done)), H', ⟨Nat.le_refl _⟩, ⟨by (with_reducible repeat (first | apply Kd.R_alloc | apply Kd.R_drewN | apply Kd.R_drew)); exact Kd.R_mono HO663.out (fun _ hk => ⟨hk.1.1.2, ⟨hk.1.2, hk.2⟩⟩)⟩, ⟨by (with_reducible repeat (first | apply Kd.R_alloc | apply Kd.R_drewN | apply Kd.R_drew)); exact Kd.R_mono HO666.out (fun _ hk => ⟨hk.1.1.2, ⟨hk.1.2, hk.2⟩⟩)⟩, ⟨by (with_reducible repeat (first | apply Kd.R_alloc | apply Kd.R_drewN | apply Kd.R_drew)); exact Kd.R_mono HO669.out (fun _ hk => ⟨hk.1.1.2, ⟨hk.1.2, hk.2⟩⟩)⟩, ⟨by (with_reducible repeat (first | apply Kd.R_alloc | apply Kd.R_drewN | apply Kd.R_drew)); exact Kd.R_mono HO672.out (fun _ hk => ⟨hk.1.1.2, ⟨hk.1.2, hk.2⟩⟩)⟩, ⟨Sq HO675.out⟩, ⟨bkq BK659⟩, ⟨bkq BK660⟩, ⟨bwq HB⟩⟩
  case round =>
   clear H'
   try clear c1
   try clear p2
   try clear c4
   try clear c4b0
   try clear c4b1
   try clear c4b2
   try clear c5
   try clear c6
   try clear c7
   try clear c9
   try clear c18
   try clear hcz19
   try clear hcz20
   try clear hcz23
   try clear hcz24
   try clear hcz26
   try clear hcz27
   try clear hcz29
   try clear hcz30
   try clear hcz32
   try clear hcz8
   try clear hcz9
   try clear hfz19
   try clear hfz20
   try clear hfz23
   try clear hfz24
   try clear hfz26
   try clear hfz27
   try clear hfz29
   try clear hfz30
   try clear hfz32
   try clear hfz8
   try clear hfz9
   obtain ⟨x5_1, x10_1, rfl, HA, HK1, HO_5, HO_6, HO_7, HO_8, HO_9, BK659, BK660, HB⟩ := hrel
   have hl5_1 := (Kd.R_reads' HO_5.out).1
   rw [hl5_1] at HO_5
   (try simp only [hl5_1])
   (try simp only [hl5_1] at BK659)
   (try simp only [hl5_1] at BK660)
   (try simp only [hl5_1] at HO_6)
   (try simp only [hl5_1] at HO_7)
   (try simp only [hl5_1] at HO_8)
   (try simp only [hl5_1] at HO_9)
   cases gk with
   | zero => exact absurd HA.out (by intro h_; first | (cases h_; done) | (simp [spec_SafeEarly.l0] at h_))
   | succ k1 =>
    have H := HA.out
    clear HA
    simp only [spec_SafeEarly.l0] at H
    by_cases c34 : x10_1 < (x5_1.length : Int)
    ·rw [if_pos c34] at H
     have c34b0 : decide (x10_1 < (x5_1.length : Int)) = true := decide_eq_true c34
     clear c34
     have H' := Aside0.mk H
     clear H
     go_wp2
     go_loopg [11, 12] k1 (fun kq v11 v12 w' => ∃ (x11_2 : Bool) (x12_2 : Int), v11 = .bool x11_2 ∧ v12 = .int .i64 x12_2 ∧ Aside0 (spec_SafeEarly.l1 kq x5_1 t664 t667 t670 t673 x10_1 x11_2 x12_2 = some r) ∧ Aside0 (kq ≤ k1) ∧ Aside0 (Kd.R Kd.bool 4 w' w.heap.size (fun k_ => some k_ ≠ (v665 : Value).ownBlock ∧ some k_ ≠ (v668 : Value).ownBlock ∧ some k_ ≠ (v671 : Value).ownBlock) (.slice Ao22 x5_1.length co22) x5_1) ∧ Aside0 (Kd.R Kd.bool 4 w' w.heap.size (fun k_ => some k_ ≠ ((.slice Ao22 x5_1.length co22) : Value).ownBlock ∧ some k_ ≠ (v668 : Value).ownBlock ∧ some k_ ≠ (v671 : Value).ownBlock) v665 t664) ∧ Aside0 (Kd.R Kd.bool 4 w' w.heap.size (fun k_ => some k_ ≠ ((.slice Ao22 x5_1.length co22) : Value).ownBlock ∧ some k_ ≠ (v665 : Value).ownBlock ∧ some k_ ≠ (v671 : Value).ownBlock) v668 t667) ∧ Aside0 (Kd.R Kd.bool 4 w' w.heap.size (fun k_ => some k_ ≠ ((.slice Ao22 x5_1.length co22) : Value).ownBlock ∧ some k_ ≠ (v665 : Value).ownBlock ∧ some k_ ≠ (v668 : Value).ownBlock) v671 t670) ∧ Aside0 (Kd.S (Kd.slice 3 (Kd.int .i64)) 32 w' w.heap.size (fun _ => True) v674 t673) ∧ Aside0 (w'.heap[gb659]? = some (.cells #[(.slice A0_0 l0_0.length c0_0)] 38 (0, 0))) ∧ Aside0 (w'.heap[gb660]? = some (.cells #[.int .i64 a1_0, .int .i64 a1_1, .int .i64 a1_2, .int .i64 a1_3, .int .i64 a1_4] 42 (0, 0))) ∧ Aside0 (Below w.heap.size w w'))
     case atStart => exact ⟨(false), (0), (by first | rfl | (simp; done) | (simp [*]; done)), (by first | rfl | (simp; done) | (simp [*]; done)), H', ⟨Nat.le_refl _⟩, ⟨by (try simp only [hl5_1]); exact Rq HO_5.out⟩, ⟨by (try simp only [hl5_1]); exact Rq HO_6.out⟩, ⟨by (try simp only [hl5_1]); exact Rq HO_7.out⟩, ⟨by (try simp only [hl5_1]); exact Rq HO_8.out⟩, ⟨by (try simp only [hl5_1]); exact Sq HO_9.out⟩, ⟨by (try simp only [hl5_1]); exact bkq BK659⟩, ⟨by (try simp only [hl5_1]); exact bkq BK660⟩, ⟨bwq HB⟩⟩
     case round =>
      clear H'
      try clear c1
      try clear p2
      try clear c3
      try clear c4
      try clear c4b0
      try clear c4b1
      try clear c4b2
      try clear c5
      try clear c6
      try clear c7
      try clear c9
      try clear c18
      try clear c34
      try clear c34b0
      try clear hcz19
      try clear hcz20
      try clear hcz23
      try clear hcz24
      try clear hcz26
      try clear hcz27
      try clear hcz29
      try clear hcz30
      try clear hcz32
      try clear hcz8
      try clear hcz9
      try clear hfz19
      try clear hfz20
      try clear hfz23
      try clear hfz24
      try clear hfz26
      try clear hfz27
      try clear hfz29
      try clear hfz30
      try clear hfz32
      try clear hfz8
      try clear hfz9
      try clear p2
      obtain ⟨x11_2, x12_2, rfl, rfl, HA, HK2, HO_5, HO_6, HO_7, HO_8, HO_9, BK659, BK660, HB⟩ := hrel
      cases gk with
      | zero => exact absurd HA.out (by intro h_; first | (cases h_; done) | (simp [spec_SafeEarly.l1] at h_))
      | succ k2 =>
       have H := HA.out
       clear HA
       simp only [spec_SafeEarly.l1] at H
       by_cases c35 : 0 ≤ x10_1
       ·rw [if_pos c35] at H
        have c35b0 : decide (0 ≤ x10_1) = true := decide_eq_true c35
        clear c35
        by_cases c36 : x10_1 < (t673.length : Int)
        ·rw [if_pos c36] at H
         have c36b0 : decide (x10_1 < (t673.length : Int)) = true := decide_eq_true c36
         clear c36
         by_cases c37 : x12_2 < ((rd_L2 t673 x10_1).length : Int)
         ·rw [if_pos c37] at H
          have c37b0 : decide (x12_2 < ((rd_L2 t673 x10_1).length : Int)) = true := decide_eq_true c37
          clear c37
          by_cases c38 : 0 ≤ x12_2
          ·rw [if_pos c38] at H
           have c38b0 : decide (0 ≤ x12_2) = true := decide_eq_true c38
           clear c38
           by_cases c39 : x11_2 = true
           ·subst c39
            rw [if_pos rfl] at H
            have H' := Aside0.mk H
            clear H
            obtain ⟨Ao40, co40, eo40⟩ := Kd.S_slice HO_9.out
            subst eo40
            have p676 : 0 ≤ (x10_1 : Int) := oda
            have q676 : x10_1 < (t673.length : Int) := oda
            obtain ⟨ad676, A676_0, c676_0, e676, hx676_0, hl676_0, hi676_0⟩ := at_L2 (Kd.S_reads' HO_9.out).2.2 x10_1 p676 q676
            cases e676
            obtain ⟨ce676, hce676, hMe676, hcc676⟩ := Kd.S_get HO_9.out [] x10_1 p676 (by first | exact q676 | exact oda | (have e_ := (Kd.S_reads' HO_9.out).1; omega))
            obtain ⟨ve676_0, rfl, ge676_0⟩ := hMe676
            have hv676_0 := hcc676 0 _ rfl
            rw [Nat.add_zero, show ((Kd.slice 3 (Kd.int .i64))).sz = 1 from rfl, Nat.mul_one] at hv676_0
            replace hv676_0 := Option.some.inj (hv676_0.symm.trans hx676_0)
            rw [hv676_0] at ge676_0
            have HL676_0 := Aside0.mk (show Kd.R (Kd.int .i64) 3 _ _ _ _ (rd_L2 t673 x10_1) from ge676_0)
            clear hv676_0 ge676_0
            clear hcc676 hce676
            have HR676_0 := Aside0.mk hi676_0
            have HC676_0 := Aside0.mk hl676_0
            clear hi676_0 hl676_0
            replace p676 := eq_true p676
            replace q676 := eq_true q676
            have p677 : 0 ≤ (x10_1 : Int) := oda
            have q677 : x10_1 < (t673.length : Int) := oda
            obtain ⟨ad677, A677_0, c677_0, e677, hx677_0, hl677_0, hi677_0⟩ := at_L2 (Kd.S_reads' HO_9.out).2.2 x10_1 p677 q677
            obtain rfl : ad676 = ad677 := (by injection e677)
            obtain ⟨ce677, hce677, hMe677, hcc677⟩ := Kd.S_get HO_9.out [] x10_1 p677 (by first | exact q677 | exact oda | (have e_ := (Kd.S_reads' HO_9.out).1; omega))
            obtain ⟨ve677_0, rfl, ge677_0⟩ := hMe677
            have hv677_0 := hcc677 0 _ rfl
            rw [Nat.add_zero, show ((Kd.slice 3 (Kd.int .i64))).sz = 1 from rfl, Nat.mul_one] at hv677_0
            replace hv677_0 := Option.some.inj (hv677_0.symm.trans hx677_0)
            rw [hv677_0] at ge677_0
            have HL677_0 := Aside0.mk (show Kd.R (Kd.int .i64) 3 _ _ _ _ (rd_L2 t673 x10_1) from ge677_0)
            clear hv677_0 ge677_0
            clear hcc677 hce677
            have HR677_0 := Aside0.mk hi677_0
            have HC677_0 := Aside0.mk hl677_0
            clear hi677_0 hl677_0
            replace p677 := eq_true p677
            replace q677 := eq_true q677
            have ea_ := Option.some.inj (hx676_0.symm.trans hx677_0)
            injection ea_ with ea_ en_ ec_
            subst ea_
            subst ec_
            clear en_
            have p678 : 0 ≤ (x12_2 : Int) := oda
            have q678 : x12_2 < ((rd_L2 t673 x10_1).length : Int) := oda
            obtain ⟨ad678, e678, hx678_0⟩ := Kd.at_int (by repeat (first | (with_reducible exact HR677_0.out) | (with_reducible refine Kd.C_alloc ?_ _) | (with_reducible refine Kd.C_drewN ?_ _) | (with_reducible refine Kd.C_drew ?_) | exact HR677_0.out)) x12_2 p678 q678
            cases e678
            replace p678 := eq_true p678
            replace q678 := eq_true q678
            go_wp2
            go_roundg k2
            case measure => have := HK1.out; have := HK2.out; omega
            case rel => exact ⟨(true), (wrap64 (x12_2 + 1)), (by first | rfl | (simp; done) | (simp [*]; done)), (by first | rfl | (simp; done) | (simp [*]; done)), H', ⟨by have := HK1.out; have := HK2.out; omega⟩, ⟨by (try simp only [hl5_1]); exact Rq HO_5.out⟩, ⟨by (try simp only [hl5_1]); exact Rq HO_6.out⟩, ⟨by (try simp only [hl5_1]); exact Rq HO_7.out⟩, ⟨by (try simp only [hl5_1]); exact Rq HO_8.out⟩, ⟨by (try simp only [hl5_1]); exact Sq HO_9.out⟩, ⟨by (try simp only [hl5_1]); exact bkq BK659⟩, ⟨by (try simp only [hl5_1]); exact bkq BK660⟩, ⟨bwq HB⟩⟩
           ·replace c39 := Bool.eq_false_iff.mpr c39
            subst c39
            have H1 : (if 0 ≤ (rd (rd_L2 t673 x10_1) x12_2) then (if (rd (rd_L2 t673 x10_1) x12_2) < (t670.length : Int) then (if (rdOf false t670 (rd (rd_L2 t673 x10_1) x12_2) = true) then (if (rd (rd_L2 t673 x10_1) x12_2) < (t664.length : Int) then (if (rdOf false t664 (rd (rd_L2 t673 x10_1) x12_2) = true) then (spec_SafeEarly.l1 k2 x5_1 t664 t667 t670 t673 x10_1 false (wrap64 (x12_2 + 1))) else (if (rd (rd_L2 t673 x10_1) x12_2) < (t667.length : Int) then (spec_SafeEarly.l1 k2 x5_1 t664 t667 t670 t673 x10_1 (!(rdOf false t667 (rd (rd_L2 t673 x10_1) x12_2))) (wrap64 (x12_2 + 1))) else (none))) else (none)) else (spec_SafeEarly.l1 k2 x5_1 t664 t667 t670 t673 x10_1 true (wrap64 (x12_2 + 1)))) else (none)) else (none)) = some r := by rw [if_neg (show ¬ (false = true) by decide)] at H; exact H
            clear H
            have H := H1
            clear H1
            by_cases c41 : 0 ≤ (rd (rd_L2 t673 x10_1) x12_2)
            ·rw [if_pos c41] at H
             have c41b0 : decide (0 ≤ (rd (rd_L2 t673 x10_1) x12_2)) = true := decide_eq_true c41
             clear c41
             by_cases c42 : (rd (rd_L2 t673 x10_1) x12_2) < (t670.length : Int)
             ·rw [if_pos c42] at H
              have c42b0 : decide ((rd (rd_L2 t673 x10_1) x12_2) < (t670.length : Int)) = true := decide_eq_true c42
              clear c42
              obtain ⟨bq43, hbq43⟩ : ∃ b_ : Bool, b_ = (rdOf false t670 (rd (rd_L2 t673 x10_1) x12_2)) := ⟨_, rfl⟩
              replace H : (if (bq43 = true) then (if (rd (rd_L2 t673 x10_1) x12_2) < (t664.length : Int) then (if (rdOf false t664 (rd (rd_L2 t673 x10_1) x12_2) = true) then (spec_SafeEarly.l1 k2 x5_1 t664 t667 t670 t673 x10_1 false (wrap64 (x12_2 + 1))) else (if (rd (rd_L2 t673 x10_1) x12_2) < (t667.length : Int) then (spec_SafeEarly.l1 k2 x5_1 t664 t667 t670 t673 x10_1 (!(rdOf false t667 (rd (rd_L2 t673 x10_1) x12_2))) (wrap64 (x12_2 + 1))) else (none))) else (none)) else (spec_SafeEarly.l1 k2 x5_1 t664 t667 t670 t673 x10_1 true (wrap64 (x12_2 + 1)))) = some r := by rw [← hbq43] at H; exact H
              have Nbq43 := Aside0.mk hbq43
              clear hbq43
              by_cases c44 : (bq43 = true)
              ·subst c44
               rw [if_pos rfl] at H
               by_cases c45 : (rd (rd_L2 t673 x10_1) x12_2) < (t664.length : Int)
               ·rw [if_pos c45] at H
                have c45b0 : decide ((rd (rd_L2 t673 x10_1) x12_2) < (t664.length : Int)) = true := decide_eq_true c45
                clear c45
                obtain ⟨bq46, hbq46⟩ : ∃ b_ : Bool, b_ = (rdOf false t664 (rd (rd_L2 t673 x10_1) x12_2)) := ⟨_, rfl⟩
                replace H : (if (bq46 = true) then (spec_SafeEarly.l1 k2 x5_1 t664 t667 t670 t673 x10_1 false (wrap64 (x12_2 + 1))) else (if (rd (rd_L2 t673 x10_1) x12_2) < (t667.length : Int) then (spec_SafeEarly.l1 k2 x5_1 t664 t667 t670 t673 x10_1 (!(rdOf false t667 (rd (rd_L2 t673 x10_1) x12_2))) (wrap64 (x12_2 + 1))) else (none))) = some r := by rw [← hbq46] at H; exact H
                have Nbq46 := Aside0.mk hbq46
                clear hbq46
                by_cases c47 : (bq46 = true)
                ·subst c47
                 rw [if_pos rfl] at H
                 have H' := Aside0.mk H
                 clear H
                 obtain ⟨Ao48, co48, eo48⟩ := Kd.S_slice HO_9.out
                 subst eo48
                 have p676 : 0 ≤ (x10_1 : Int) := oda
                 have q676 : x10_1 < (t673.length : Int) := oda
                 obtain ⟨ad676, A676_0, c676_0, e676, hx676_0, hl676_0, hi676_0⟩ := at_L2 (Kd.S_reads' HO_9.out).2.2 x10_1 p676 q676
                 cases e676
                 obtain ⟨ce676, hce676, hMe676, hcc676⟩ := Kd.S_get HO_9.out [] x10_1 p676 (by first | exact q676 | exact oda | (have e_ := (Kd.S_reads' HO_9.out).1; omega))
                 obtain ⟨ve676_0, rfl, ge676_0⟩ := hMe676
                 have hv676_0 := hcc676 0 _ rfl
                 rw [Nat.add_zero, show ((Kd.slice 3 (Kd.int .i64))).sz = 1 from rfl, Nat.mul_one] at hv676_0
                 replace hv676_0 := Option.some.inj (hv676_0.symm.trans hx676_0)
                 rw [hv676_0] at ge676_0
                 have HL676_0 := Aside0.mk (show Kd.R (Kd.int .i64) 3 _ _ _ _ (rd_L2 t673 x10_1) from ge676_0)
                 clear hv676_0 ge676_0
                 clear hcc676 hce676
                 have HR676_0 := Aside0.mk hi676_0
                 have HC676_0 := Aside0.mk hl676_0
                 clear hi676_0 hl676_0
                 replace p676 := eq_true p676
                 replace q676 := eq_true q676
                 have p677 : 0 ≤ (x10_1 : Int) := oda
                 have q677 : x10_1 < (t673.length : Int) := oda
                 obtain ⟨ad677, A677_0, c677_0, e677, hx677_0, hl677_0, hi677_0⟩ := at_L2 (Kd.S_reads' HO_9.out).2.2 x10_1 p677 q677
                 obtain rfl : ad676 = ad677 := (by injection e677)
                 obtain ⟨ce677, hce677, hMe677, hcc677⟩ := Kd.S_get HO_9.out [] x10_1 p677 (by first | exact q677 | exact oda | (have e_ := (Kd.S_reads' HO_9.out).1; omega))
                 obtain ⟨ve677_0, rfl, ge677_0⟩ := hMe677
                 have hv677_0 := hcc677 0 _ rfl
                 rw [Nat.add_zero, show ((Kd.slice 3 (Kd.int .i64))).sz = 1 from rfl, Nat.mul_one] at hv677_0
                 replace hv677_0 := Option.some.inj (hv677_0.symm.trans hx677_0)
                 rw [hv677_0] at ge677_0
                 have HL677_0 := Aside0.mk (show Kd.R (Kd.int .i64) 3 _ _ _ _ (rd_L2 t673 x10_1) from ge677_0)
                 clear hv677_0 ge677_0
                 clear hcc677 hce677
                 have HR677_0 := Aside0.mk hi677_0
                 have HC677_0 := Aside0.mk hl677_0
                 clear hi677_0 hl677_0
                 replace p677 := eq_true p677
                 replace q677 := eq_true q677
                 have ea_ := Option.some.inj (hx676_0.symm.trans hx677_0)
                 injection ea_ with ea_ en_ ec_
                 subst ea_
                 subst ec_
                 clear en_
                 have p678 : 0 ≤ (x12_2 : Int) := oda
                 have q678 : x12_2 < ((rd_L2 t673 x10_1).length : Int) := oda
                 obtain ⟨ad678, e678, hx678_0⟩ := Kd.at_int (by repeat (first | (with_reducible exact HR677_0.out) | (with_reducible refine Kd.C_alloc ?_ _) | (with_reducible refine Kd.C_drewN ?_ _) | (with_reducible refine Kd.C_drew ?_) | exact HR677_0.out)) x12_2 p678 q678
                 cases e678
                 replace p678 := eq_true p678
                 replace q678 := eq_true q678
                 obtain ⟨Ao49, co49, eo49⟩ := Kd.R_slice HO_8.out
                 subst eo49
                 have p679 : 0 ≤ ((rd (rd_L2 t673 x10_1) x12_2) : Int) := oda
                 have q679 : (rd (rd_L2 t673 x10_1) x12_2) < (t670.length : Int) := oda
                 obtain ⟨ad679, e679, hx679_0⟩ := Kd.at_bool (Kd.R_reads' HO_8.out).2.2 (rd (rd_L2 t673 x10_1) x12_2) p679 q679
                 (try rw [← Nbq43.out] at hx679_0)
                 (try rw [← Nbq46.out] at hx679_0)
                 cases e679
                 replace p679 := eq_true p679
                 replace q679 := eq_true q679
                 obtain ⟨Ao50, co50, eo50⟩ := Kd.R_slice HO_6.out
                 subst eo50
                 have p680 : 0 ≤ ((rd (rd_L2 t673 x10_1) x12_2) : Int) := oda
                 have q680 : (rd (rd_L2 t673 x10_1) x12_2) < (t664.length : Int) := oda
                 obtain ⟨ad680, e680, hx680_0⟩ := Kd.at_bool (Kd.R_reads' HO_6.out).2.2 (rd (rd_L2 t673 x10_1) x12_2) p680 q680
                 (try rw [← Nbq43.out] at hx680_0)
                 (try rw [← Nbq46.out] at hx680_0)
                 cases e680
                 replace p680 := eq_true p680
                 replace q680 := eq_true q680
                 go_wp2
                 go_roundg k2
                 case measure => have := HK1.out; have := HK2.out; omega
                 case rel => exact ⟨(false), (wrap64 (x12_2 + 1)), (by first | rfl | (simp; done) | (simp [*]; done)), (by first | rfl | (simp; done) | (simp [*]; done)), H', ⟨by have := HK1.out; have := HK2.out; omega⟩, ⟨by (try simp only [hl5_1]); exact Rq HO_5.out⟩, ⟨by (try simp only [hl5_1]); exact Rq HO_6.out⟩, ⟨by (try simp only [hl5_1]); exact Rq HO_7.out⟩, ⟨by (try simp only [hl5_1]); exact Rq HO_8.out⟩, ⟨by (try simp only [hl5_1]); exact Sq HO_9.out⟩, ⟨by (try simp only [hl5_1]); exact bkq BK659⟩, ⟨by (try simp only [hl5_1]); exact bkq BK660⟩, ⟨bwq HB⟩⟩
                ·replace c47 := Bool.eq_false_iff.mpr c47
                 subst c47
                 have H1 : (if (rd (rd_L2 t673 x10_1) x12_2) < (t667.length : Int) then (spec_SafeEarly.l1 k2 x5_1 t664 t667 t670 t673 x10_1 (!(rdOf false t667 (rd (rd_L2 t673 x10_1) x12_2))) (wrap64 (x12_2 + 1))) else (none)) = some r := by rw [if_neg (show ¬ (false = true) by decide)] at H; exact H
                 clear H
                 have H := H1
                 clear H1
                 by_cases c51 : (rd (rd_L2 t673 x10_1) x12_2) < (t667.length : Int)
                 ·rw [if_pos c51] at H
                  have c51b0 : decide ((rd (rd_L2 t673 x10_1) x12_2) < (t667.length : Int)) = true := decide_eq_true c51
                  clear c51
                  have H' := Aside0.mk H
                  clear H
                  obtain ⟨Ao52, co52, eo52⟩ := Kd.S_slice HO_9.out
                  subst eo52
                  have p676 : 0 ≤ (x10_1 : Int) := oda
                  have q676 : x10_1 < (t673.length : Int) := oda
                  obtain ⟨ad676, A676_0, c676_0, e676, hx676_0, hl676_0, hi676_0⟩ := at_L2 (Kd.S_reads' HO_9.out).2.2 x10_1 p676 q676
                  cases e676
                  obtain ⟨ce676, hce676, hMe676, hcc676⟩ := Kd.S_get HO_9.out [] x10_1 p676 (by first | exact q676 | exact oda | (have e_ := (Kd.S_reads' HO_9.out).1; omega))
                  obtain ⟨ve676_0, rfl, ge676_0⟩ := hMe676
                  have hv676_0 := hcc676 0 _ rfl
                  rw [Nat.add_zero, show ((Kd.slice 3 (Kd.int .i64))).sz = 1 from rfl, Nat.mul_one] at hv676_0
                  replace hv676_0 := Option.some.inj (hv676_0.symm.trans hx676_0)
                  rw [hv676_0] at ge676_0
                  have HL676_0 := Aside0.mk (show Kd.R (Kd.int .i64) 3 _ _ _ _ (rd_L2 t673 x10_1) from ge676_0)
                  clear hv676_0 ge676_0
                  clear hcc676 hce676
                  have HR676_0 := Aside0.mk hi676_0
                  have HC676_0 := Aside0.mk hl676_0
                  clear hi676_0 hl676_0
                  replace p676 := eq_true p676
                  replace q676 := eq_true q676
                  have p677 : 0 ≤ (x10_1 : Int) := oda
                  have q677 : x10_1 < (t673.length : Int) := oda
                  obtain ⟨ad677, A677_0, c677_0, e677, hx677_0, hl677_0, hi677_0⟩ := at_L2 (Kd.S_reads' HO_9.out).2.2 x10_1 p677 q677
                  obtain rfl : ad676 = ad677 := (by injection e677)
                  obtain ⟨ce677, hce677, hMe677, hcc677⟩ := Kd.S_get HO_9.out [] x10_1 p677 (by first | exact q677 | exact oda | (have e_ := (Kd.S_reads' HO_9.out).1; omega))
                  obtain ⟨ve677_0, rfl, ge677_0⟩ := hMe677
                  have hv677_0 := hcc677 0 _ rfl
                  rw [Nat.add_zero, show ((Kd.slice 3 (Kd.int .i64))).sz = 1 from rfl, Nat.mul_one] at hv677_0
                  replace hv677_0 := Option.some.inj (hv677_0.symm.trans hx677_0)
                  rw [hv677_0] at ge677_0
                  have HL677_0 := Aside0.mk (show Kd.R (Kd.int .i64) 3 _ _ _ _ (rd_L2 t673 x10_1) from ge677_0)
                  clear hv677_0 ge677_0
                  clear hcc677 hce677
                  have HR677_0 := Aside0.mk hi677_0
                  have HC677_0 := Aside0.mk hl677_0
                  clear hi677_0 hl677_0
                  replace p677 := eq_true p677
                  replace q677 := eq_true q677
                  have ea_ := Option.some.inj (hx676_0.symm.trans hx677_0)
                  injection ea_ with ea_ en_ ec_
                  subst ea_
                  subst ec_
                  clear en_
                  have p678 : 0 ≤ (x12_2 : Int) := oda
                  have q678 : x12_2 < ((rd_L2 t673 x10_1).length : Int) := oda
                  obtain ⟨ad678, e678, hx678_0⟩ := Kd.at_int (by repeat (first | (with_reducible exact HR677_0.out) | (with_reducible refine Kd.C_alloc ?_ _) | (with_reducible refine Kd.C_drewN ?_ _) | (with_reducible refine Kd.C_drew ?_) | exact HR677_0.out)) x12_2 p678 q678
                  cases e678
                  replace p678 := eq_true p678
                  replace q678 := eq_true q678
                  obtain ⟨Ao53, co53, eo53⟩ := Kd.R_slice HO_8.out
                  subst eo53
                  have p679 : 0 ≤ ((rd (rd_L2 t673 x10_1) x12_2) : Int) := oda
                  have q679 : (rd (rd_L2 t673 x10_1) x12_2) < (t670.length : Int) := oda
                  obtain ⟨ad679, e679, hx679_0⟩ := Kd.at_bool (Kd.R_reads' HO_8.out).2.2 (rd (rd_L2 t673 x10_1) x12_2) p679 q679
                  (try rw [← Nbq43.out] at hx679_0)
                  (try rw [← Nbq46.out] at hx679_0)
                  cases e679
                  replace p679 := eq_true p679
                  replace q679 := eq_true q679
                  obtain ⟨Ao54, co54, eo54⟩ := Kd.R_slice HO_6.out
                  subst eo54
                  have p680 : 0 ≤ ((rd (rd_L2 t673 x10_1) x12_2) : Int) := oda
                  have q680 : (rd (rd_L2 t673 x10_1) x12_2) < (t664.length : Int) := oda
                  obtain ⟨ad680, e680, hx680_0⟩ := Kd.at_bool (Kd.R_reads' HO_6.out).2.2 (rd (rd_L2 t673 x10_1) x12_2) p680 q680
                  (try rw [← Nbq43.out] at hx680_0)
                  (try rw [← Nbq46.out] at hx680_0)
                  cases e680
                  replace p680 := eq_true p680
                  replace q680 := eq_true q680
                  obtain ⟨Ao55, co55, eo55⟩ := Kd.R_slice HO_7.out
                  subst eo55
                  have p681 : 0 ≤ ((rd (rd_L2 t673 x10_1) x12_2) : Int) := oda
                  have q681 : (rd (rd_L2 t673 x10_1) x12_2) < (t667.length : Int) := oda
                  obtain ⟨ad681, e681, hx681_0⟩ := Kd.at_bool (Kd.R_reads' HO_7.out).2.2 (rd (rd_L2 t673 x10_1) x12_2) p681 q681
                  (try rw [← Nbq43.out] at hx681_0)
                  (try rw [← Nbq46.out] at hx681_0)
                  cases e681
                  replace p681 := eq_true p681
                  replace q681 := eq_true q681
                  go_wp2
                  go_roundg k2
                  case measure => have := HK1.out; have := HK2.out; omega
                  case rel => exact ⟨(!(rdOf false t667 (rd (rd_L2 t673 x10_1) x12_2))), (wrap64 (x12_2 + 1)), (by first | rfl | (simp; done) | (simp [*]; done)), (by first | rfl | (simp; done) | (simp [*]; done)), H', ⟨by have := HK1.out; have := HK2.out; omega⟩, ⟨by (try simp only [hl5_1]); exact Rq HO_5.out⟩, ⟨by (try simp only [hl5_1]); exact Rq HO_6.out⟩, ⟨by (try simp only [hl5_1]); exact Rq HO_7.out⟩, ⟨by (try simp only [hl5_1]); exact Rq HO_8.out⟩, ⟨by (try simp only [hl5_1]); exact Sq HO_9.out⟩, ⟨by (try simp only [hl5_1]); exact bkq BK659⟩, ⟨by (try simp only [hl5_1]); exact bkq BK660⟩, ⟨bwq HB⟩⟩
                 ·rw [if_neg c51] at H
                  exact absurd H (by simp)
               ·rw [if_neg c45] at H
                exact absurd H (by simp)
              ·replace c44 := Bool.eq_false_iff.mpr c44
               subst c44
               have H1 : (spec_SafeEarly.l1 k2 x5_1 t664 t667 t670 t673 x10_1 true (wrap64 (x12_2 + 1))) = some r := by rw [if_neg (show ¬ (false = true) by decide)] at H; exact H
               clear H
               have H := H1
               clear H1
               have H' := Aside0.mk H
               clear H
               obtain ⟨Ao56, co56, eo56⟩ := Kd.S_slice HO_9.out
               subst eo56
               have p676 : 0 ≤ (x10_1 : Int) := oda
               have q676 : x10_1 < (t673.length : Int) := oda
               obtain ⟨ad676, A676_0, c676_0, e676, hx676_0, hl676_0, hi676_0⟩ := at_L2 (Kd.S_reads' HO_9.out).2.2 x10_1 p676 q676
               cases e676
               obtain ⟨ce676, hce676, hMe676, hcc676⟩ := Kd.S_get HO_9.out [] x10_1 p676 (by first | exact q676 | exact oda | (have e_ := (Kd.S_reads' HO_9.out).1; omega))
               obtain ⟨ve676_0, rfl, ge676_0⟩ := hMe676
               have hv676_0 := hcc676 0 _ rfl
               rw [Nat.add_zero, show ((Kd.slice 3 (Kd.int .i64))).sz = 1 from rfl, Nat.mul_one] at hv676_0
               replace hv676_0 := Option.some.inj (hv676_0.symm.trans hx676_0)
               rw [hv676_0] at ge676_0
               have HL676_0 := Aside0.mk (show Kd.R (Kd.int .i64) 3 _ _ _ _ (rd_L2 t673 x10_1) from ge676_0)
               clear hv676_0 ge676_0
               clear hcc676 hce676
               have HR676_0 := Aside0.mk hi676_0
               have HC676_0 := Aside0.mk hl676_0
               clear hi676_0 hl676_0
               replace p676 := eq_true p676
               replace q676 := eq_true q676
               have p677 : 0 ≤ (x10_1 : Int) := oda
               have q677 : x10_1 < (t673.length : Int) := oda
               obtain ⟨ad677, A677_0, c677_0, e677, hx677_0, hl677_0, hi677_0⟩ := at_L2 (Kd.S_reads' HO_9.out).2.2 x10_1 p677 q677
               obtain rfl : ad676 = ad677 := (by injection e677)
               obtain ⟨ce677, hce677, hMe677, hcc677⟩ := Kd.S_get HO_9.out [] x10_1 p677 (by first | exact q677 | exact oda | (have e_ := (Kd.S_reads' HO_9.out).1; omega))
               obtain ⟨ve677_0, rfl, ge677_0⟩ := hMe677
               have hv677_0 := hcc677 0 _ rfl
               rw [Nat.add_zero, show ((Kd.slice 3 (Kd.int .i64))).sz = 1 from rfl, Nat.mul_one] at hv677_0
               replace hv677_0 := Option.some.inj (hv677_0.symm.trans hx677_0)
               rw [hv677_0] at ge677_0
               have HL677_0 := Aside0.mk (show Kd.R (Kd.int .i64) 3 _ _ _ _ (rd_L2 t673 x10_1) from ge677_0)
               clear hv677_0 ge677_0
               clear hcc677 hce677
               have HR677_0 := Aside0.mk hi677_0
               have HC677_0 := Aside0.mk hl677_0
               clear hi677_0 hl677_0
               replace p677 := eq_true p677
               replace q677 := eq_true q677
               have ea_ := Option.some.inj (hx676_0.symm.trans hx677_0)
               injection ea_ with ea_ en_ ec_
               subst ea_
               subst ec_
               clear en_
               have p678 : 0 ≤ (x12_2 : Int) := oda
               have q678 : x12_2 < ((rd_L2 t673 x10_1).length : Int) := oda
               obtain ⟨ad678, e678, hx678_0⟩ := Kd.at_int (by repeat (first | (with_reducible exact HR677_0.out) | (with_reducible refine Kd.C_alloc ?_ _) | (with_reducible refine Kd.C_drewN ?_ _) | (with_reducible refine Kd.C_drew ?_) | exact HR677_0.out)) x12_2 p678 q678
               cases e678
               replace p678 := eq_true p678
               replace q678 := eq_true q678
               obtain ⟨Ao57, co57, eo57⟩ := Kd.R_slice HO_8.out
               subst eo57
               have p679 : 0 ≤ ((rd (rd_L2 t673 x10_1) x12_2) : Int) := oda
               have q679 : (rd (rd_L2 t673 x10_1) x12_2) < (t670.length : Int) := oda
               obtain ⟨ad679, e679, hx679_0⟩ := Kd.at_bool (Kd.R_reads' HO_8.out).2.2 (rd (rd_L2 t673 x10_1) x12_2) p679 q679
               (try rw [← Nbq43.out] at hx679_0)
               cases e679
               replace p679 := eq_true p679
               replace q679 := eq_true q679
               go_wp2
               go_roundg k2
               case measure => have := HK1.out; have := HK2.out; omega
               case rel => exact ⟨(true), (wrap64 (x12_2 + 1)), (by first | rfl | (simp; done) | (simp [*]; done)), (by first | rfl | (simp; done) | (simp [*]; done)), H', ⟨by have := HK1.out; have := HK2.out; omega⟩, ⟨by (try simp only [hl5_1]); exact Rq HO_5.out⟩, ⟨by (try simp only [hl5_1]); exact Rq HO_6.out⟩, ⟨by (try simp only [hl5_1]); exact Rq HO_7.out⟩, ⟨by (try simp only [hl5_1]); exact Rq HO_8.out⟩, ⟨by (try simp only [hl5_1]); exact Sq HO_9.out⟩, ⟨by (try simp only [hl5_1]); exact bkq BK659⟩, ⟨by (try simp only [hl5_1]); exact bkq BK660⟩, ⟨bwq HB⟩⟩
             ·rw [if_neg c42] at H
              exact absurd H (by simp)
            ·rw [if_neg c41] at H
             exact absurd H (by simp)
          ·rw [if_neg c38] at H
           exact absurd H (by simp)
         ·rw [if_neg c37] at H
          have c37b0 : decide (x12_2 < ((rd_L2 t673 x10_1).length : Int)) = false := decide_eq_false c37
          clear c37
          by_cases c58 : x10_1 < (x5_1.length : Int)
          ·rw [if_pos c58] at H
           have c58b0 : decide (x10_1 < (x5_1.length : Int)) = true := decide_eq_true c58
           clear c58
           obtain ⟨bq59, hbq59⟩ : ∃ b_ : Bool, b_ = (rdOf false x5_1 x10_1) := ⟨_, rfl⟩
           replace H : (if bq59 = true then (spec_SafeEarly.l0 k2 (x5_1.set (x10_1 : Int).toNat x11_2) t664 t667 t670 t673 (wrap64 (x10_1 + 1))) else (spec_SafeEarly.l0 k2 (x5_1.set (x10_1 : Int).toNat false) t664 t667 t670 t673 (wrap64 (x10_1 + 1)))) = some r := by rw [← hbq59] at H; exact H
           have Nbq59 := Aside0.mk hbq59
           clear hbq59
           by_cases c60 : bq59 = true
           ·subst c60
            rw [if_pos rfl] at H
            obtain ⟨y683, hy683⟩ : ∃ y_ : List Bool, y_ = (x5_1.set (x10_1 : Int).toNat x11_2) := ⟨_, rfl⟩
            replace H : (spec_SafeEarly.l0 k2 y683 t664 t667 t670 t673 (wrap64 (x10_1 + 1))) = some r := by first | (rw [hy683]; with_reducible exact H) | (have H2_ := (Option.bind_some _ _).symm.trans H; rw [hy683]; with_reducible exact H2_) | (have H2_ := (Option.bind_some _ _).symm.trans H; with_reducible exact H2_) | with_reducible exact H | (rw [hy683]; exact H) | exact H
            have Ny683 := Aside0.mk hy683
            clear hy683
            have H' := Aside0.mk H
            clear H
            obtain ⟨Ao62, co62, eo62⟩ := Kd.S_slice HO_9.out
            subst eo62
            have p676 : 0 ≤ (x10_1 : Int) := oda
            have q676 : x10_1 < (t673.length : Int) := oda
            obtain ⟨ad676, A676_0, c676_0, e676, hx676_0, hl676_0, hi676_0⟩ := at_L2 (Kd.S_reads' HO_9.out).2.2 x10_1 p676 q676
            cases e676
            obtain ⟨ce676, hce676, hMe676, hcc676⟩ := Kd.S_get HO_9.out [] x10_1 p676 (by first | exact q676 | exact oda | (have e_ := (Kd.S_reads' HO_9.out).1; omega))
            obtain ⟨ve676_0, rfl, ge676_0⟩ := hMe676
            have hv676_0 := hcc676 0 _ rfl
            rw [Nat.add_zero, show ((Kd.slice 3 (Kd.int .i64))).sz = 1 from rfl, Nat.mul_one] at hv676_0
            replace hv676_0 := Option.some.inj (hv676_0.symm.trans hx676_0)
            rw [hv676_0] at ge676_0
            have HL676_0 := Aside0.mk (show Kd.R (Kd.int .i64) 3 _ _ _ _ (rd_L2 t673 x10_1) from ge676_0)
            clear hv676_0 ge676_0
            clear hcc676 hce676
            have HR676_0 := Aside0.mk hi676_0
            have HC676_0 := Aside0.mk hl676_0
            clear hi676_0 hl676_0
            replace p676 := eq_true p676
            replace q676 := eq_true q676
            have p682 : 0 ≤ (x10_1 : Int) := oda
            have q682 : x10_1 < (x5_1.length : Int) := oda
            obtain ⟨ad682, e682, hx682_0⟩ := Kd.at_bool (Kd.R_reads' HO_5.out).2.2 x10_1 p682 q682
            (try rw [← Nbq59.out] at hx682_0)
            cases e682
            replace p682 := eq_true p682
            replace q682 := eq_true q682
            have p61 : 0 ≤ (x10_1 : Int) := oda
            have q61 : (x10_1 : Int) < ((x5_1.length : Int) : Int) := oda
            obtain ⟨go61, co61, eo61, gb61, gl61, cl61, HG61⟩ := Kd.R_form HO_5.out (by omega)
            (first | cases eo61 | (injection eo61 with ea_ en_ ec_; (first | subst ea_ | (injection ea_ with ea_; subst ea_)); subst ec_; clear en_))
            have GB61 := Aside0.mk gb61
            have GG61 := Aside0.mk HG61
            clear gb61 gl61 HG61
            (first | simp only [add_plain] at hx682_0 | skip)
            obtain ⟨hx61_0, hf61_0⟩ := Kd.R_celln false HO_5.out (x10_1 : Int) p61 q61
            replace p61 := eq_true p61
            replace q61 := eq_true q61
            have HP63 := Kd.R_putg HO_5.out (x10_1 : Int) x11_2
            go_wp2_with (first | ((with_reducible refine gate_store (t := 4) (p := 85) rfl ?_); refine store_event (t := 4) (p := 85) (v := ?vo_w64) (w1 := (wr.setCell ⟨go61, (x10_1 : Int).toNat, none⟩ (.bool x11_2))) ?hg ?ho ?hn ?hr ?_; (case ho => rfl); (case hg => rfl); (case hn => rfl); (case hr => first | (go_simp; done) | (go_simp; rfl) | (go_simp; rfl)); intro w64 hw; have hg : wr.grownBy w64 (some go61) := (by rw [hw]; exact HP63.2); have hp_ : Kd.R Kd.bool 4 w64 w.heap.size (fun k_ => some k_ ≠ (v665 : Value).ownBlock ∧ some k_ ≠ (v668 : Value).ownBlock ∧ some k_ ≠ (v671 : Value).ownBlock) (.slice (some ⟨go61, 0, none⟩) x5_1.length co22) y683 := (by rw [hw, Ny683.out]; exact HP63.1); clear HP63; replace HO_6 := Aside0.mk (Kd.R_after (v := (.slice (some ⟨go61, 0, none⟩) x5_1.length co22)) (v1 := (.slice (some ⟨go61, 0, none⟩) x5_1.length co22)) (ok := (fun k_ => some k_ ≠ (v668 : Value).ownBlock ∧ some k_ ≠ (v671 : Value).ownBlock)) (by (with_reducible repeat (first | apply Kd.R_alloc | apply Kd.R_drewN | apply Kd.R_drew)); exact Kd.R_mono HO_6.out (fun _ hk => ⟨⟨hk.2.1, hk.2.2⟩, hk.1⟩)) hg (.inl rfl)); replace HO_7 := Aside0.mk (Kd.R_after (v := (.slice (some ⟨go61, 0, none⟩) x5_1.length co22)) (v1 := (.slice (some ⟨go61, 0, none⟩) x5_1.length co22)) (ok := (fun k_ => some k_ ≠ (v665 : Value).ownBlock ∧ some k_ ≠ (v671 : Value).ownBlock)) (by (with_reducible repeat (first | apply Kd.R_alloc | apply Kd.R_drewN | apply Kd.R_drew)); exact Kd.R_mono HO_7.out (fun _ hk => ⟨⟨hk.2.1, hk.2.2⟩, hk.1⟩)) hg (.inl rfl)); replace HO_8 := Aside0.mk (Kd.R_after (v := (.slice (some ⟨go61, 0, none⟩) x5_1.length co22)) (v1 := (.slice (some ⟨go61, 0, none⟩) x5_1.length co22)) (ok := (fun k_ => some k_ ≠ (v665 : Value).ownBlock ∧ some k_ ≠ (v668 : Value).ownBlock)) (by (with_reducible repeat (first | apply Kd.R_alloc | apply Kd.R_drewN | apply Kd.R_drew)); exact Kd.R_mono HO_8.out (fun _ hk => ⟨⟨hk.2.1, hk.2.2⟩, hk.1⟩)) hg (.inl rfl)); replace HO_9 := Aside0.mk (Kd.S_over' (v := (.slice (some ⟨go61, 0, none⟩) x5_1.length co22)) (Sq HO_9.out) (Kd.R_typed HO_5.out) (by decide) hg); replace BK659 := Aside0.mk (blk_grown (g := gb659) (o := .cells #[.slice A0_0 l0_0.length c0_0] 38 (0, 0)) (bkq BK659) hg (Kd.R_ne HO_5.out BK659.out (by decide))); replace BK660 := Aside0.mk (blk_grown (g := gb660) (o := .cells #[.int .i64 a1_0, .int .i64 a1_1, .int .i64 a1_2, .int .i64 a1_3, .int .i64 a1_4] 42 (0, 0)) (bkq BK660) hg (Kd.R_ne HO_5.out BK660.out (by decide))); replace HL676_0 := Aside0.mk (Kd.R_over' (v := (.slice (some ⟨go61, 0, none⟩) x5_1.length co22)) (by (with_reducible repeat (first | apply Kd.R_alloc | apply Kd.R_drewN | apply Kd.R_drew)); exact HL676_0.out) (Kd.R_typed HO_5.out) (by decide) hg); replace HO_5 := Aside0.mk (hp_); replace HB := Aside0.mk ((by rw [hw]; exact below_set (HB.out) GB61.out : Below w.heap.size w w64)); clear hg hw hp_))
            (try simp only [← hl5_1])
            go_roundg k2
            case measure => have := HK1.out; have := HK2.out; omega
            case rel => exact ⟨(y683), (wrap64 (x10_1 + 1)), (by first | rfl | (simp; done) | (simp [*]; done)), H', ⟨by have := HK1.out; have := HK2.out; omega⟩, ⟨by (try simp only [hl5_1]); exact Rq HO_5.out⟩, ⟨by (try simp only [hl5_1]); (with_reducible repeat (first | apply Kd.R_alloc | apply Kd.R_drewN | apply Kd.R_drew)); exact Kd.R_mono HO_6.out (fun _ hk => ⟨hk.2, ⟨hk.1.1, hk.1.2⟩⟩)⟩, ⟨by (try simp only [hl5_1]); (with_reducible repeat (first | apply Kd.R_alloc | apply Kd.R_drewN | apply Kd.R_drew)); exact Kd.R_mono HO_7.out (fun _ hk => ⟨hk.2, ⟨hk.1.1, hk.1.2⟩⟩)⟩, ⟨by (try simp only [hl5_1]); (with_reducible repeat (first | apply Kd.R_alloc | apply Kd.R_drewN | apply Kd.R_drew)); exact Kd.R_mono HO_8.out (fun _ hk => ⟨hk.2, ⟨hk.1.1, hk.1.2⟩⟩)⟩, ⟨by (try simp only [hl5_1]); exact Sq HO_9.out⟩, ⟨by (try simp only [hl5_1]); exact bkq BK659⟩, ⟨by (try simp only [hl5_1]); exact bkq BK660⟩, ⟨bwq HB⟩⟩
           ·replace c60 := Bool.eq_false_iff.mpr c60
            subst c60
            have H1 : (spec_SafeEarly.l0 k2 (x5_1.set (x10_1 : Int).toNat false) t664 t667 t670 t673 (wrap64 (x10_1 + 1))) = some r := by rw [if_neg (show ¬ (false = true) by decide)] at H; exact H
            clear H
            have H := H1
            clear H1
            obtain ⟨y684, hy684⟩ : ∃ y_ : List Bool, y_ = (x5_1.set (x10_1 : Int).toNat false) := ⟨_, rfl⟩
            replace H : (spec_SafeEarly.l0 k2 y684 t664 t667 t670 t673 (wrap64 (x10_1 + 1))) = some r := by first | (rw [hy684]; with_reducible exact H) | (have H2_ := (Option.bind_some _ _).symm.trans H; rw [hy684]; with_reducible exact H2_) | (have H2_ := (Option.bind_some _ _).symm.trans H; with_reducible exact H2_) | with_reducible exact H | (rw [hy684]; exact H) | exact H
            have Ny684 := Aside0.mk hy684
            clear hy684
            have H' := Aside0.mk H
            clear H
            obtain ⟨Ao66, co66, eo66⟩ := Kd.S_slice HO_9.out
            subst eo66
            have p676 : 0 ≤ (x10_1 : Int) := oda
            have q676 : x10_1 < (t673.length : Int) := oda
            obtain ⟨ad676, A676_0, c676_0, e676, hx676_0, hl676_0, hi676_0⟩ := at_L2 (Kd.S_reads' HO_9.out).2.2 x10_1 p676 q676
            cases e676
            obtain ⟨ce676, hce676, hMe676, hcc676⟩ := Kd.S_get HO_9.out [] x10_1 p676 (by first | exact q676 | exact oda | (have e_ := (Kd.S_reads' HO_9.out).1; omega))
            obtain ⟨ve676_0, rfl, ge676_0⟩ := hMe676
            have hv676_0 := hcc676 0 _ rfl
            rw [Nat.add_zero, show ((Kd.slice 3 (Kd.int .i64))).sz = 1 from rfl, Nat.mul_one] at hv676_0
            replace hv676_0 := Option.some.inj (hv676_0.symm.trans hx676_0)
            rw [hv676_0] at ge676_0
            have HL676_0 := Aside0.mk (show Kd.R (Kd.int .i64) 3 _ _ _ _ (rd_L2 t673 x10_1) from ge676_0)
            clear hv676_0 ge676_0
            clear hcc676 hce676
            have HR676_0 := Aside0.mk hi676_0
            have HC676_0 := Aside0.mk hl676_0
            clear hi676_0 hl676_0
            replace p676 := eq_true p676
            replace q676 := eq_true q676
            have p682 : 0 ≤ (x10_1 : Int) := oda
            have q682 : x10_1 < (x5_1.length : Int) := oda
            obtain ⟨ad682, e682, hx682_0⟩ := Kd.at_bool (Kd.R_reads' HO_5.out).2.2 x10_1 p682 q682
            (try rw [← Nbq59.out] at hx682_0)
            cases e682
            replace p682 := eq_true p682
            replace q682 := eq_true q682
            have p65 : 0 ≤ (x10_1 : Int) := oda
            have q65 : (x10_1 : Int) < ((x5_1.length : Int) : Int) := oda
            obtain ⟨go65, co65, eo65, gb65, gl65, cl65, HG65⟩ := Kd.R_form HO_5.out (by omega)
            (first | cases eo65 | (injection eo65 with ea_ en_ ec_; (first | subst ea_ | (injection ea_ with ea_; subst ea_)); subst ec_; clear en_))
            have GB65 := Aside0.mk gb65
            have GG65 := Aside0.mk HG65
            clear gb65 gl65 HG65
            (first | simp only [add_plain] at hx682_0 | skip)
            obtain ⟨hx65_0, hf65_0⟩ := Kd.R_celln false HO_5.out (x10_1 : Int) p65 q65
            replace p65 := eq_true p65
            replace q65 := eq_true q65
            have HP67 := Kd.R_putg HO_5.out (x10_1 : Int) false
            go_wp2_with (first | ((with_reducible refine gate_store (t := 4) (p := 85) rfl ?_); refine store_event (t := 4) (p := 85) (v := ?vo_w68) (w1 := (wr.setCell ⟨go65, (x10_1 : Int).toNat, none⟩ (.bool false))) ?hg ?ho ?hn ?hr ?_; (case ho => rfl); (case hg => rfl); (case hn => rfl); (case hr => first | (go_simp; done) | (go_simp; rfl) | (go_simp; rfl)); intro w68 hw; have hg : wr.grownBy w68 (some go65) := (by rw [hw]; exact HP67.2); have hp_ : Kd.R Kd.bool 4 w68 w.heap.size (fun k_ => some k_ ≠ (v665 : Value).ownBlock ∧ some k_ ≠ (v668 : Value).ownBlock ∧ some k_ ≠ (v671 : Value).ownBlock) (.slice (some ⟨go65, 0, none⟩) x5_1.length co22) y684 := (by rw [hw, Ny684.out]; exact HP67.1); clear HP67; replace HO_6 := Aside0.mk (Kd.R_after (v := (.slice (some ⟨go65, 0, none⟩) x5_1.length co22)) (v1 := (.slice (some ⟨go65, 0, none⟩) x5_1.length co22)) (ok := (fun k_ => some k_ ≠ (v668 : Value).ownBlock ∧ some k_ ≠ (v671 : Value).ownBlock)) (by (with_reducible repeat (first | apply Kd.R_alloc | apply Kd.R_drewN | apply Kd.R_drew)); exact Kd.R_mono HO_6.out (fun _ hk => ⟨⟨hk.2.1, hk.2.2⟩, hk.1⟩)) hg (.inl rfl)); replace HO_7 := Aside0.mk (Kd.R_after (v := (.slice (some ⟨go65, 0, none⟩) x5_1.length co22)) (v1 := (.slice (some ⟨go65, 0, none⟩) x5_1.length co22)) (ok := (fun k_ => some k_ ≠ (v665 : Value).ownBlock ∧ some k_ ≠ (v671 : Value).ownBlock)) (by (with_reducible repeat (first | apply Kd.R_alloc | apply Kd.R_drewN | apply Kd.R_drew)); exact Kd.R_mono HO_7.out (fun _ hk => ⟨⟨hk.2.1, hk.2.2⟩, hk.1⟩)) hg (.inl rfl)); replace HO_8 := Aside0.mk (Kd.R_after (v := (.slice (some ⟨go65, 0, none⟩) x5_1.length co22)) (v1 := (.slice (some ⟨go65, 0, none⟩) x5_1.length co22)) (ok := (fun k_ => some k_ ≠ (v665 : Value).ownBlock ∧ some k_ ≠ (v668 : Value).ownBlock)) (by (with_reducible repeat (first | apply Kd.R_alloc | apply Kd.R_drewN | apply Kd.R_drew)); exact Kd.R_mono HO_8.out (fun _ hk => ⟨⟨hk.2.1, hk.2.2⟩, hk.1⟩)) hg (.inl rfl)); replace HO_9 := Aside0.mk (Kd.S_over' (v := (.slice (some ⟨go65, 0, none⟩) x5_1.length co22)) (Sq HO_9.out) (Kd.R_typed HO_5.out) (by decide) hg); replace BK659 := Aside0.mk (blk_grown (g := gb659) (o := .cells #[.slice A0_0 l0_0.length c0_0] 38 (0, 0)) (bkq BK659) hg (Kd.R_ne HO_5.out BK659.out (by decide))); replace BK660 := Aside0.mk (blk_grown (g := gb660) (o := .cells #[.int .i64 a1_0, .int .i64 a1_1, .int .i64 a1_2, .int .i64 a1_3, .int .i64 a1_4] 42 (0, 0)) (bkq BK660) hg (Kd.R_ne HO_5.out BK660.out (by decide))); replace HL676_0 := Aside0.mk (Kd.R_over' (v := (.slice (some ⟨go65, 0, none⟩) x5_1.length co22)) (by (with_reducible repeat (first | apply Kd.R_alloc | apply Kd.R_drewN | apply Kd.R_drew)); exact HL676_0.out) (Kd.R_typed HO_5.out) (by decide) hg); replace HO_5 := Aside0.mk (hp_); replace HB := Aside0.mk ((by rw [hw]; exact below_set (HB.out) GB65.out : Below w.heap.size w w68)); clear hg hw hp_))
            (try simp only [← hl5_1])
            go_roundg k2
            case measure => have := HK1.out; have := HK2.out; omega
            case rel => exact ⟨(y684), (wrap64 (x10_1 + 1)), (by first | rfl | (simp; done) | (simp [*]; done)), H', ⟨by have := HK1.out; have := HK2.out; omega⟩, ⟨by (try simp only [hl5_1]); exact Rq HO_5.out⟩, ⟨by (try simp only [hl5_1]); (with_reducible repeat (first | apply Kd.R_alloc | apply Kd.R_drewN | apply Kd.R_drew)); exact Kd.R_mono HO_6.out (fun _ hk => ⟨hk.2, ⟨hk.1.1, hk.1.2⟩⟩)⟩, ⟨by (try simp only [hl5_1]); (with_reducible repeat (first | apply Kd.R_alloc | apply Kd.R_drewN | apply Kd.R_drew)); exact Kd.R_mono HO_7.out (fun _ hk => ⟨hk.2, ⟨hk.1.1, hk.1.2⟩⟩)⟩, ⟨by (try simp only [hl5_1]); (with_reducible repeat (first | apply Kd.R_alloc | apply Kd.R_drewN | apply Kd.R_drew)); exact Kd.R_mono HO_8.out (fun _ hk => ⟨hk.2, ⟨hk.1.1, hk.1.2⟩⟩)⟩, ⟨by (try simp only [hl5_1]); exact Sq HO_9.out⟩, ⟨by (try simp only [hl5_1]); exact bkq BK659⟩, ⟨by (try simp only [hl5_1]); exact bkq BK660⟩, ⟨bwq HB⟩⟩
          ·rw [if_neg c58] at H
           exact absurd H (by simp)
        ·rw [if_neg c36] at H
         exact absurd H (by simp)
       ·rw [if_neg c35] at H
        exact absurd H (by simp)
    ·rw [if_neg c34] at H
     have c34b0 : decide (x10_1 < (x5_1.length : Int)) = false := decide_eq_false c34
     clear c34
     obtain rfl := Option.some.inj H
     go_wp2
     go_ret
     exact ⟨_, by first | rfl | (simp [errW_none, errW_some] <;> rfl) | (simp [*, errW_none, errW_some] <;> rfl), by (with_reducible repeat (first | apply Kd.R_alloc | apply Kd.R_drewN | apply Kd.R_drew)); exact Kd.R_mono HO_5.out (fun _ hk => trivial), bwq HB⟩
mutual
def spec_SafeDelay.l0 : Nat → List Bool → List Bool → List Bool → List (List Int) → Bool → Option (List Bool)
 | 0, _, _, _, _, _ => none
 | k + 1, x5, x6, x7, x8, x9 => if x9 = true then (spec_SafeDelay.l1 k x5 x6 x7 x8 false 0) else (some x6)
def spec_SafeDelay.l1 : Nat → List Bool → List Bool → List Bool → List (List Int) → Bool → Int → Option (List Bool)
 | 0, _, _, _, _, _, _ => none
 | k + 1, x5, x6, x7, x8, x9, x10 => if x10 < (x6.length : Int) then (if 0 ≤ x10 then (if rdOf false x6 x10 = true then (if x10 < (x5.length : Int) then (spec_SafeDelay.j2 k x5 x6 x7 x8 x9 x10 (rdOf false x5 x10)) else (none)) else (spec_SafeDelay.j2 k x5 x6 x7 x8 x9 x10 true)) else (none)) else (spec_SafeDelay.l0 k x5 x6 x7 x8 x9)
def spec_SafeDelay.j2 : Nat → List Bool → List Bool → List Bool → List (List Int) → Bool → Int → Bool → Option (List Bool)
 | 0, _, _, _, _, _, _, _ => none
 | k + 1, x5, x6, x7, x8, x9, x10, x44 => if x44 = true then (spec_SafeDelay.l1 k x5 x6 x7 x8 x9 (wrap64 (x10 + 1))) else (spec_SafeDelay.l2 k x5 x6 x7 x8 x9 x10 (decide (x10 > 0)) 0)
def spec_SafeDelay.l2 : Nat → List Bool → List Bool → List Bool → List (List Int) → Bool → Int → Bool → Int → Option (List Bool)
 | 0, _, _, _, _, _, _, _, _ => none
 | k + 1, x5, x6, x7, x8, x9, x10, x11, x12 => if 0 ≤ x10 then (if x10 < (x8.length : Int) then (if x12 < ((rd_L2 x8 x10).length : Int) then (if x11 = true then (if 0 ≤ x12 then (if 0 ≤ (rd (rd_L2 x8 x10) x12) then (if (rd (rd_L2 x8 x10) x12) < (x6.length : Int) then (if rdOf false x6 (rd (rd_L2 x8 x10) x12) = true then (if (rd (rd_L2 x8 x10) x12) < (x7.length : Int) then (spec_SafeDelay.l2 k x5 x6 x7 x8 x9 x10 (!(rdOf false x7 (rd (rd_L2 x8 x10) x12))) (wrap64 (x12 + 1))) else (none)) else (spec_SafeDelay.l2 k x5 x6 x7 x8 x9 x10 false (wrap64 (x12 + 1)))) else (none)) else (none)) else (none)) else (spec_SafeDelay.l2 k x5 x6 x7 x8 x9 x10 false (wrap64 (x12 + 1)))) else (if x11 = true then (spec_SafeDelay.l1 k x5 x6 x7 x8 x9 (wrap64 (x10 + 1))) else (if x10 < (x6.length : Int) then (spec_SafeDelay.l1 k x5 (x6.set (x10 : Int).toNat false) x7 x8 true (wrap64 (x10 + 1))) else (none)))) else (none)) else (none)
end
def spec_SafeDelay.f (k : Nat) (l0_0 : List (S77)) (a1_0 : Int) (a1_1 : Int) (a1_2 : Int) (a1_3 : Int) (a1_4 : Int) : Option (List Bool) := (spec_SafeEarly.f k l0_0 a1_0 a1_1 a1_2 a1_3 a1_4).bind fun t777 => (if (t777.length : Int) = 0 then (some t777) else ((spec_l12All.f k l0_0).bind fun t780 => ((spec_ExprComp.f k l0_0 a1_0 a1_1 a1_2 a1_3 a1_4).bind fun t783 => ((spec_FlowPreds.f k l0_0).bind fun t786 => (spec_SafeDelay.l0 k t777 t780 t783 t786 true)))))
set_option maxHeartbeats 8000000 in
set_option maxRecDepth 100000 in
theorem spec_SafeDelay.calls (k : Nat) (A0_0 : Option Addr) (c0_0 : Nat) (l0_0 : List (S77)) (a1_0 : Int) (a1_1 : Int) (a1_2 : Int) (a1_3 : Int) (a1_4 : Int) (r : List Bool) (w : World) (hr0_0 : Kd.C k77 w A0_0 l0_0.length l0_0) (hc0_0 : l0_0.length ≤ c0_0) (h : spec_SafeDelay.f k l0_0 a1_0 a1_1 a1_2 a1_3 a1_4 = some r) :
  Calls Try.prog 67 #[.agg #[.slice A0_0 l0_0.length c0_0], .agg #[.int .i64 a1_0, .int .i64 a1_1, .int .i64 a1_2, .int .i64 a1_3, .int .i64 a1_4]] w fun e w' => ∃ v0_ : Value, e = .returned (v0_) ∧ Kd.R Kd.bool 4 w' w.heap.size (fun _ => True) v0_ r ∧ Below w.heap.size w w' := by
 have hu38 := Try.underlying38
 have hu42 := Try.underlying42
 have HR0_0 := Aside0.mk hr0_0
 have HC0_0 := Aside0.mk hc0_0
 clear hr0_0 hc0_0
 have HB := Aside0.mk (Below.refl w.heap.size w)
 have H : ((spec_SafeEarly.f k l0_0 a1_0 a1_1 a1_2 a1_3 a1_4).bind fun t777 => (if (t777.length : Int) = 0 then (some t777) else ((spec_l12All.f k l0_0).bind fun t780 => ((spec_ExprComp.f k l0_0 a1_0 a1_1 a1_2 a1_3 a1_4).bind fun t783 => ((spec_FlowPreds.f k l0_0).bind fun t786 => (spec_SafeDelay.l0 k t777 t780 t783 t786 true)))))) = some r := h
 clear h
 replace H := Option.bind_eq_some_iff.mp H
 obtain ⟨t777, A30, H⟩ := H
 have A3 := Aside0.mk A30
 clear A30
 by_cases c4 : (t777.length : Int) = 0
 ·rw [if_pos c4] at H
  have c4b0 : ((t777.length : Int) == 0) = true := beq_iff_eq.mpr c4
  have c4b1 : ((t777.length : Int) != 0) = false := bne_eq_false_iff_eq.mpr c4
  clear c4
  obtain rfl := Option.some.inj H
  go_enter Try.func67, Try.ntmps67
  go_wp2_with (first | ((with_reducible refine gate_dst (N := 2) rfl ?_); refine bxe (cs := #[.slice A0_0 l0_0.length c0_0]) (t := 38) ?_; intro gb775 hg w5 hbox hb; have BK775 := Aside0.mk (hbox); have GW775 := bwz HB hg; have GE775 := bwz HB hg; replace HB := bwb HB hb; clear hb hbox hg) | ((with_reducible refine gate_dst (N := 3) rfl ?_); refine bxe (cs := #[.int .i64 a1_0, .int .i64 a1_1, .int .i64 a1_2, .int .i64 a1_3, .int .i64 a1_4]) (t := 42) ?_; intro gb776 hg w6 hbox hb; have BK776 := Aside0.mk (hbox); have GW776 := bwz HB hg; have GE776 := bwz HB hg; replace HB := bwb HB hb; have NB775_776 := bkl BK775 hg; have NB776_775 := bkg BK775 hg; replace BK775 := bkb BK775 hb; clear hb hbox hg; have hnb7 := NB775_776.out; have hnc7 := NB776_775.out; obtain ⟨hcz8, hfz8⟩ := bcf BK775; obtain ⟨hcz9, hfz9⟩ := bcf BK776) | ((with_reducible refine gate_callee (f := 64) rfl ?_); refine goesM (some 15) rfl rfl Try.func64 #[.agg #[.slice A0_0 l0_0.length c0_0], .agg #[.int .i64 a1_0, .int .i64 a1_1, .int .i64 a1_2, .int .i64 a1_3, .int .i64 a1_4]] rfl ?_; (with_reducible refine (spec_SafeEarly.calls k _ _ l0_0 a1_0 a1_1 a1_2 a1_3 a1_4 t777 _ ?side1 ?side2 A3.out).mono ?_); (case side1 => exact Cq (Kd.C_below HR0_0.out HB.out)); (case side2 => exact HC0_0.out); rintro e w10 ⟨v778, rfl, ho0, hb⟩; refine ⟨_, rfl, ?_⟩; have HO779 := Aside0.mk (Kd.R_lower ho0 (below_size (bwq HB))); replace BK775 := bkb BK775 hb; replace BK776 := bkb BK776 hb; replace HB := bwb HB hb; (try clear hb); (try clear hb2); (try clear hk); (try clear hi); (try clear ho0); obtain ⟨Ao11, co11, eo11⟩ := Kd.R_slice HO779.out; subst eo11))
  go_ret
  exact ⟨_, by first | rfl | (simp [errW_none, errW_some] <;> rfl) | (simp [*, errW_none, errW_some] <;> rfl), Rq HO779.out, bwq HB⟩
 ·rw [if_neg c4] at H
  have c4b0 : ((t777.length : Int) == 0) = false := beq_eq_false_iff_ne.mpr c4
  have c4b1 : ((t777.length : Int) != 0) = true := bne_iff_ne.mpr c4
  have c4b2 : ¬ (t777 = []) := fun h_ => c4 (by rw [h_]; rfl)
  replace H := Option.bind_eq_some_iff.mp H
  obtain ⟨t780, A120, H⟩ := H
  have A12 := Aside0.mk A120
  clear A120
  replace H := Option.bind_eq_some_iff.mp H
  obtain ⟨t783, A130, H⟩ := H
  have A13 := Aside0.mk A130
  clear A130
  replace H := Option.bind_eq_some_iff.mp H
  obtain ⟨t786, A140, H⟩ := H
  have A14 := Aside0.mk A140
  clear A140
  have H' := Aside0.mk H
  clear H
  go_enter Try.func67, Try.ntmps67
  go_wp2_with (first | ((with_reducible refine gate_dst (N := 2) rfl ?_); refine bxe (cs := #[.slice A0_0 l0_0.length c0_0]) (t := 38) ?_; intro gb775 hg w15 hbox hb; have BK775 := Aside0.mk (hbox); have GW775 := bwz HB hg; have GE775 := bwz HB hg; replace HB := bwb HB hb; clear hb hbox hg) | ((with_reducible refine gate_dst (N := 3) rfl ?_); refine bxe (cs := #[.int .i64 a1_0, .int .i64 a1_1, .int .i64 a1_2, .int .i64 a1_3, .int .i64 a1_4]) (t := 42) ?_; intro gb776 hg w16 hbox hb; have BK776 := Aside0.mk (hbox); have GW776 := bwz HB hg; have GE776 := bwz HB hg; replace HB := bwb HB hb; have NB775_776 := bkl BK775 hg; have NB776_775 := bkg BK775 hg; replace BK775 := bkb BK775 hb; clear hb hbox hg; have hnb17 := NB775_776.out; have hnc17 := NB776_775.out; obtain ⟨hcz18, hfz18⟩ := bcf BK775; obtain ⟨hcz19, hfz19⟩ := bcf BK776) | ((with_reducible refine gate_callee (f := 64) rfl ?_); refine goesM (some 15) rfl rfl Try.func64 #[.agg #[.slice A0_0 l0_0.length c0_0], .agg #[.int .i64 a1_0, .int .i64 a1_1, .int .i64 a1_2, .int .i64 a1_3, .int .i64 a1_4]] rfl ?_; (with_reducible refine (spec_SafeEarly.calls k _ _ l0_0 a1_0 a1_1 a1_2 a1_3 a1_4 t777 _ ?side1 ?side2 A3.out).mono ?_); (case side1 => exact Cq (Kd.C_below HR0_0.out HB.out)); (case side2 => exact HC0_0.out); rintro e w20 ⟨v778, rfl, ho0, hb⟩; refine ⟨_, rfl, ?_⟩; have HO779 := Aside0.mk (Kd.R_lower ho0 (below_size (bwq HB))); replace BK775 := bkb BK775 hb; replace BK776 := bkb BK776 hb; replace HB := bwb HB hb; (try clear hb); (try clear hb2); (try clear hk); (try clear hi); (try clear ho0); obtain ⟨Ao21, co21, eo21⟩ := Kd.R_slice HO779.out; subst eo21; obtain ⟨hcz22, hfz22⟩ := bcf BK775) | ((with_reducible refine gate_callee (f := 71) rfl ?_); refine goesM (some 21) rfl rfl Try.func71 #[.agg #[.slice A0_0 l0_0.length c0_0]] rfl ?_; (with_reducible refine (spec_l12All.calls k _ _ l0_0 t780 _ ?side1 ?side2 A12.out).mono ?_); (case side1 => exact Cq (Kd.C_below HR0_0.out HB.out)); (case side2 => exact HC0_0.out); rintro e w23 ⟨v781, rfl, ho0, hb⟩; refine ⟨_, rfl, ?_⟩; have HO782 := Aside0.mk (Kd.R_lower (Kd.R_new' ho0 (Kd.R_lt (Rq HO779.out))) (below_size (bwq HB))); replace HO779 := Aside0.mk (Kd.R_elder' (Rq HO779.out) (Kd.R_base ho0) hb); replace BK775 := bkb BK775 hb; replace BK776 := bkb BK776 hb; replace HB := bwb HB hb; (try clear hb); (try clear hb2); (try clear hk); (try clear hi); (try clear ho0); obtain ⟨hcz24, hfz24⟩ := bcf BK775; obtain ⟨hcz25, hfz25⟩ := bcf BK776) | ((with_reducible refine gate_callee (f := 46) rfl ?_); refine goesM (some 24) rfl rfl Try.func46 #[.agg #[.slice A0_0 l0_0.length c0_0], .agg #[.int .i64 a1_0, .int .i64 a1_1, .int .i64 a1_2, .int .i64 a1_3, .int .i64 a1_4]] rfl ?_; (with_reducible refine (spec_ExprComp.calls k _ _ l0_0 a1_0 a1_1 a1_2 a1_3 a1_4 t783 _ ?side1 ?side2 A13.out).mono ?_); (case side1 => exact Cq (Kd.C_below HR0_0.out HB.out)); (case side2 => exact HC0_0.out); rintro e w26 ⟨v784, rfl, ho0, hb⟩; refine ⟨_, rfl, ?_⟩; have HO785 := Aside0.mk (Kd.R_lower (Kd.R_new' (Kd.R_new' ho0 (Kd.R_lt (Rq HO779.out))) (Kd.R_lt (Rq HO782.out))) (below_size (bwq HB))); replace HO779 := Aside0.mk (Kd.R_elder' (Rq HO779.out) (Kd.R_base ho0) hb); replace HO782 := Aside0.mk (Kd.R_elder' (Rq HO782.out) (Kd.R_base ho0) hb); replace BK775 := bkb BK775 hb; replace BK776 := bkb BK776 hb; replace HB := bwb HB hb; (try clear hb); (try clear hb2); (try clear hk); (try clear hi); (try clear ho0); obtain ⟨hcz27, hfz27⟩ := bcf BK775) | ((with_reducible refine gate_callee (f := 94) rfl ?_); refine goesM (some 26) rfl rfl Try.func94 #[.agg #[.slice A0_0 l0_0.length c0_0]] rfl ?_; (with_reducible refine (spec_FlowPreds.calls k _ _ l0_0 t786 _ ?side1 ?side2 A14.out).mono ?_); (case side1 => exact Cq (Kd.C_below HR0_0.out HB.out)); (case side2 => exact HC0_0.out); rintro e w28 ⟨v787, rfl, ho0, hb⟩; refine ⟨_, rfl, ?_⟩; replace HO779 := Aside0.mk (Kd.R_below (Rq HO779.out) hb); replace HO782 := Aside0.mk (Kd.R_below (Rq HO782.out) hb); replace HO785 := Aside0.mk (Kd.R_below (Rq HO785.out) hb); have HO788 := Aside0.mk (Kd.S_lower ho0 (below_size (bwq HB))); replace BK775 := bkb BK775 hb; replace BK776 := bkb BK776 hb; replace HB := bwb HB hb; (try clear hb); (try clear hb2); (try clear hk); (try clear hi); (try clear ho0)))
  go_loopg [9] k (fun kq v9 w' => ∃ (x6_1 : List Bool) (x9_1 : Bool), v9 = .bool x9_1 ∧ Aside0 (spec_SafeDelay.l0 kq t777 x6_1 t783 t786 x9_1 = some r) ∧ Aside0 (kq ≤ k) ∧ Aside0 (Kd.R Kd.bool 4 w' w.heap.size (fun k_ => some k_ ≠ (v781 : Value).ownBlock ∧ some k_ ≠ (v784 : Value).ownBlock) (.slice Ao21 t777.length co21) t777) ∧ Aside0 (Kd.R Kd.bool 4 w' w.heap.size (fun k_ => some k_ ≠ ((.slice Ao21 t777.length co21) : Value).ownBlock ∧ some k_ ≠ (v784 : Value).ownBlock) v781 x6_1) ∧ Aside0 (Kd.R Kd.bool 4 w' w.heap.size (fun k_ => some k_ ≠ ((.slice Ao21 t777.length co21) : Value).ownBlock ∧ some k_ ≠ (v781 : Value).ownBlock) v784 t783) ∧ Aside0 (Kd.S (Kd.slice 3 (Kd.int .i64)) 32 w' w.heap.size (fun _ => True) v787 t786) ∧ Aside0 (w'.heap[gb775]? = some (.cells #[(.slice A0_0 l0_0.length c0_0)] 38 (0, 0))) ∧ Aside0 (w'.heap[gb776]? = some (.cells #[.int .i64 a1_0, .int .i64 a1_1, .int .i64 a1_2, .int .i64 a1_3, .int .i64 a1_4] 42 (0, 0))) ∧ Aside0 (Below w.heap.size w w'))
  case atStart => exact ⟨(t780), (true), (by first | rfl | (simp; done) | (simp [*]; done)), H', ⟨Nat.le_refl _⟩, ⟨by (with_reducible repeat (first | apply Kd.R_alloc | apply Kd.R_drewN | apply Kd.R_drew)); exact Kd.R_mono HO779.out (fun _ hk => ⟨hk.1.2, hk.2⟩)⟩, ⟨by (with_reducible repeat (first | apply Kd.R_alloc | apply Kd.R_drewN | apply Kd.R_drew)); exact Kd.R_mono HO782.out (fun _ hk => ⟨hk.1.2, hk.2⟩)⟩, ⟨by (with_reducible repeat (first | apply Kd.R_alloc | apply Kd.R_drewN | apply Kd.R_drew)); exact Kd.R_mono HO785.out (fun _ hk => ⟨hk.1.2, hk.2⟩)⟩, ⟨Sq HO788.out⟩, ⟨bkq BK775⟩, ⟨bkq BK776⟩, ⟨bwq HB⟩⟩
  case round =>
   clear H'
   try clear c1
   try clear p2
   try clear c4
   try clear c4b0
   try clear c4b1
   try clear c4b2
   try clear c6
   try clear c7
   try clear c9
   try clear c17
   try clear hcz18
   try clear hcz19
   try clear hcz22
   try clear hcz24
   try clear hcz25
   try clear hcz27
   try clear hcz8
   try clear hcz9
   try clear hfz18
   try clear hfz19
   try clear hfz22
   try clear hfz24
   try clear hfz25
   try clear hfz27
   try clear hfz8
   try clear hfz9
   obtain ⟨x6_1, x9_1, rfl, HA, HK1, HO_5, HO_6, HO_7, HO_8, BK775, BK776, HB⟩ := hrel
   cases gk with
   | zero => exact absurd HA.out (by intro h_; first | (cases h_; done) | (simp [spec_SafeDelay.l0] at h_))
   | succ k1 =>
    have H := HA.out
    clear HA
    simp only [spec_SafeDelay.l0] at H
    by_cases c29 : x9_1 = true
    ·subst c29
     rw [if_pos rfl] at H
     have H' := Aside0.mk H
     clear H
     go_wp2
     go_loopg [9, 10] k1 (fun kq v9 v10 w' => ∃ (x6_2 : List Bool) (x9_2 : Bool) (x10_2 : Int), v9 = .bool x9_2 ∧ v10 = .int .i64 x10_2 ∧ Aside0 (spec_SafeDelay.l1 kq t777 x6_2 t783 t786 x9_2 x10_2 = some r) ∧ Aside0 (kq ≤ k1) ∧ Aside0 (Kd.R Kd.bool 4 w' w.heap.size (fun k_ => some k_ ≠ (v781 : Value).ownBlock ∧ some k_ ≠ (v784 : Value).ownBlock) (.slice Ao21 t777.length co21) t777) ∧ Aside0 (Kd.R Kd.bool 4 w' w.heap.size (fun k_ => some k_ ≠ ((.slice Ao21 t777.length co21) : Value).ownBlock ∧ some k_ ≠ (v784 : Value).ownBlock) v781 x6_2) ∧ Aside0 (Kd.R Kd.bool 4 w' w.heap.size (fun k_ => some k_ ≠ ((.slice Ao21 t777.length co21) : Value).ownBlock ∧ some k_ ≠ (v781 : Value).ownBlock) v784 t783) ∧ Aside0 (Kd.S (Kd.slice 3 (Kd.int .i64)) 32 w' w.heap.size (fun _ => True) v787 t786) ∧ Aside0 (w'.heap[gb775]? = some (.cells #[(.slice A0_0 l0_0.length c0_0)] 38 (0, 0))) ∧ Aside0 (w'.heap[gb776]? = some (.cells #[.int .i64 a1_0, .int .i64 a1_1, .int .i64 a1_2, .int .i64 a1_3, .int .i64 a1_4] 42 (0, 0))) ∧ Aside0 (Below w.heap.size w w'))
     case atStart => exact ⟨(x6_1), (false), (0), (by first | rfl | (simp; done) | (simp [*]; done)), (by first | rfl | (simp; done) | (simp [*]; done)), H', ⟨Nat.le_refl _⟩, ⟨Rq HO_5.out⟩, ⟨Rq HO_6.out⟩, ⟨Rq HO_7.out⟩, ⟨Sq HO_8.out⟩, ⟨bkq BK775⟩, ⟨bkq BK776⟩, ⟨bwq HB⟩⟩
     case round =>
      clear H'
      try clear c1
      try clear c2
      try clear p2
      try clear c4
      try clear c4b0
      try clear c4b1
      try clear c4b2
      try clear c6
      try clear c7
      try clear c9
      try clear c17
      try clear c29
      try clear hcz18
      try clear hcz19
      try clear hcz22
      try clear hcz24
      try clear hcz25
      try clear hcz27
      try clear hcz8
      try clear hcz9
      try clear hfz18
      try clear hfz19
      try clear hfz22
      try clear hfz24
      try clear hfz25
      try clear hfz27
      try clear hfz8
      try clear hfz9
      try clear p2
      obtain ⟨x6_2, x9_2, x10_2, rfl, rfl, HA, HK2, HO_5, HO_6, HO_7, HO_8, BK775, BK776, HB⟩ := hrel
      cases gk with
      | zero => exact absurd HA.out (by intro h_; first | (cases h_; done) | (simp [spec_SafeDelay.l1] at h_))
      | succ k2 =>
       have H := HA.out
       clear HA
       simp only [spec_SafeDelay.l1] at H
       by_cases c30 : x10_2 < (x6_2.length : Int)
       ·rw [if_pos c30] at H
        have c30b0 : decide (x10_2 < (x6_2.length : Int)) = true := decide_eq_true c30
        clear c30
        have HC31 := Aside0.mk H
        clear H
        obtain ⟨Ao32, co32, eo32⟩ := Kd.R_slice HO_6.out
        subst eo32
        go_upto_region 13 with (fail)
        go_cut [44] (fun v44 wc => ∃ (kq : Nat) (x44_30 : Bool), v44 = .bool x44_30 ∧ Aside0 (spec_SafeDelay.j2 kq t777 x6_2 t783 t786 x9_2 x10_2 x44_30 = some r) ∧ Aside0 (kq ≤ k2) ∧ Aside0 (Kd.R Kd.bool 4 wc w.heap.size (fun k_ => some k_ ≠ ((.slice Ao32 x6_2.length co32) : Value).ownBlock ∧ some k_ ≠ (v784 : Value).ownBlock) (.slice Ao21 t777.length co21) t777) ∧ Aside0 (Kd.R Kd.bool 4 wc w.heap.size (fun k_ => some k_ ≠ ((.slice Ao21 t777.length co21) : Value).ownBlock ∧ some k_ ≠ (v784 : Value).ownBlock) (.slice Ao32 x6_2.length co32) x6_2) ∧ Aside0 (Kd.R Kd.bool 4 wc w.heap.size (fun k_ => some k_ ≠ ((.slice Ao21 t777.length co21) : Value).ownBlock ∧ some k_ ≠ ((.slice Ao32 x6_2.length co32) : Value).ownBlock) v784 t783) ∧ Aside0 (Kd.S (Kd.slice 3 (Kd.int .i64)) 32 wc w.heap.size (fun _ => True) v787 t786) ∧ Aside0 (wc.heap[gb775]? = some (.cells #[(.slice A0_0 l0_0.length c0_0)] 38 (0, 0))) ∧ Aside0 (wc.heap[gb776]? = some (.cells #[.int .i64 a1_0, .int .i64 a1_1, .int .i64 a1_2, .int .i64 a1_3, .int .i64 a1_4] 42 (0, 0))) ∧ Aside0 (Below w.heap.size w wc))
        case first =>
         have H := HC31.out
         clear HC31
         by_cases c33 : 0 ≤ x10_2
         ·rw [if_pos c33] at H
          have c33b0 : decide (0 ≤ x10_2) = true := decide_eq_true c33
          clear c33
          (first | rw [c33b0] | (simp only [i64_w, i32_w]; rw [c33b0]) | skip)
          obtain ⟨bq34, hbq34⟩ : ∃ b_ : Bool, b_ = (rdOf false x6_2 x10_2) := ⟨_, rfl⟩
          replace H : (if bq34 = true then (if x10_2 < (t777.length : Int) then (spec_SafeDelay.j2 k2 t777 x6_2 t783 t786 x9_2 x10_2 (rdOf false t777 x10_2)) else (none)) else (spec_SafeDelay.j2 k2 t777 x6_2 t783 t786 x9_2 x10_2 true)) = some r := by rw [← hbq34] at H; exact H
          have Nbq34 := Aside0.mk hbq34
          clear hbq34
          by_cases c35 : bq34 = true
          ·subst c35
           rw [if_pos rfl] at H
           by_cases c36 : x10_2 < (t777.length : Int)
           ·rw [if_pos c36] at H
            have c36b0 : decide (x10_2 < (t777.length : Int)) = true := decide_eq_true c36
            clear c36
            have H' := Aside0.mk H
            clear H
            have p789 : 0 ≤ (x10_2 : Int) := oda
            have q789 : x10_2 < (x6_2.length : Int) := oda
            obtain ⟨ad789, e789, hx789_0⟩ := Kd.at_bool (Kd.R_reads' HO_6.out).2.2 x10_2 p789 q789
            (try rw [← Nbq34.out] at hx789_0)
            cases e789
            replace p789 := eq_true p789
            replace q789 := eq_true q789
            have p790 : 0 ≤ (x10_2 : Int) := oda
            have q790 : x10_2 < (t777.length : Int) := oda
            obtain ⟨ad790, e790, hx790_0⟩ := Kd.at_bool (Kd.R_reads' HO_5.out).2.2 x10_2 p790 q790
            (try rw [← Nbq34.out] at hx790_0)
            cases e790
            replace p790 := eq_true p790
            replace q790 := eq_true q790
            go_wp2
            go_meet
            case rel => exact ⟨_, (rdOf false t777 x10_2), (by first | rfl | (simp; done) | (simp [*]; done)), H', ⟨by have := HK1.out; have := HK2.out; first | omega | exact Nat.le_refl _⟩, ⟨Rq HO_5.out⟩, ⟨Rq HO_6.out⟩, ⟨Rq HO_7.out⟩, ⟨Sq HO_8.out⟩, ⟨bkq BK775⟩, ⟨bkq BK776⟩, ⟨bwq HB⟩⟩
           ·rw [if_neg c36] at H
            exact absurd H (by simp)
          ·replace c35 := Bool.eq_false_iff.mpr c35
           subst c35
           have H1 : (spec_SafeDelay.j2 k2 t777 x6_2 t783 t786 x9_2 x10_2 true) = some r := by rw [if_neg (show ¬ (false = true) by decide)] at H; exact H
           clear H
           have H := H1
           clear H1
           have H' := Aside0.mk H
           clear H
           have p789 : 0 ≤ (x10_2 : Int) := oda
           have q789 : x10_2 < (x6_2.length : Int) := oda
           obtain ⟨ad789, e789, hx789_0⟩ := Kd.at_bool (Kd.R_reads' HO_6.out).2.2 x10_2 p789 q789
           (try rw [← Nbq34.out] at hx789_0)
           cases e789
           replace p789 := eq_true p789
           replace q789 := eq_true q789
           go_wp2
           go_meet
           case rel => exact ⟨_, (true), (by first | rfl | (simp; done) | (simp [*]; done)), H', ⟨by have := HK1.out; have := HK2.out; first | omega | exact Nat.le_refl _⟩, ⟨Rq HO_5.out⟩, ⟨Rq HO_6.out⟩, ⟨Rq HO_7.out⟩, ⟨Sq HO_8.out⟩, ⟨bkq BK775⟩, ⟨bkq BK776⟩, ⟨bwq HB⟩⟩
         ·rw [if_neg c33] at H
          exact absurd H (by simp)
        case rest =>
         clear HC31
         try clear c1
         try clear c2
         try clear p2
         try clear c3
         try clear q3
         try clear c4
         try clear c4b0
         try clear c4b1
         try clear c4b2
         try clear c6
         try clear c7
         try clear p7
         try clear q7
         try clear hx7
         try clear c9
         try clear c17
         try clear c29
         try clear c30
         try clear c30b0
         try clear c33
         try clear c33b0
         try clear q34
         try clear c35
         try clear c36
         try clear c36b0
         try clear hcz18
         try clear hcz19
         try clear hcz22
         try clear hcz24
         try clear hcz25
         try clear hcz27
         try clear hcz8
         try clear hcz9
         try clear hfz18
         try clear hfz19
         try clear hfz22
         try clear hfz24
         try clear hfz25
         try clear hfz27
         try clear hfz8
         try clear hfz9
         try clear hx789_0
         try clear hx790_0
         try clear p2
         try clear p789
         try clear p790
         try clear q789
         try clear q790
         obtain ⟨kq, x44_30, rfl, HA, HJ30, HO_5, HO_6, HO_7, HO_8, BK775, BK776, HB⟩ := hcut
         cases kq with
         | zero => exact absurd HA.out (by intro h_; first | (cases h_; done) | (simp [spec_SafeDelay.j2] at h_))
         | succ kj30 =>
          have H := HA.out
          clear HA
          simp only [spec_SafeDelay.j2] at H
          by_cases c37 : x44_30 = true
          ·subst c37
           rw [if_pos rfl] at H
           have H' := Aside0.mk H
           clear H
           go_wp2
           go_roundg kj30
           case measure => have := HK1.out; have := HK2.out; have := HJ30.out; omega
           case rel => exact ⟨(x6_2), (x9_2), (wrap64 (x10_2 + 1)), (by first | rfl | (simp; done) | (simp [*]; done)), (by first | rfl | (simp; done) | (simp [*]; done)), H', ⟨by have := HK1.out; have := HK2.out; have := HJ30.out; omega⟩, ⟨Rq HO_5.out⟩, ⟨Rq HO_6.out⟩, ⟨Rq HO_7.out⟩, ⟨Sq HO_8.out⟩, ⟨bkq BK775⟩, ⟨bkq BK776⟩, ⟨bwq HB⟩⟩
          ·replace c37 := Bool.eq_false_iff.mpr c37
           subst c37
           have H1 : (spec_SafeDelay.l2 kj30 t777 x6_2 t783 t786 x9_2 x10_2 (decide (x10_2 > 0)) 0) = some r := by rw [if_neg (show ¬ (false = true) by decide)] at H; exact H
           clear H
           have H := H1
           clear H1
           have H' := Aside0.mk H
           clear H
           go_wp2
           go_loopg [11, 12] kj30 (fun kq v11 v12 w' => ∃ (x11_4 : Bool) (x12_4 : Int), v11 = .bool x11_4 ∧ v12 = .int .i64 x12_4 ∧ Aside0 (spec_SafeDelay.l2 kq t777 x6_2 t783 t786 x9_2 x10_2 x11_4 x12_4 = some r) ∧ Aside0 (kq ≤ kj30) ∧ Aside0 (Kd.R Kd.bool 4 w' w.heap.size (fun k_ => some k_ ≠ ((.slice Ao32 x6_2.length co32) : Value).ownBlock ∧ some k_ ≠ (v784 : Value).ownBlock) (.slice Ao21 t777.length co21) t777) ∧ Aside0 (Kd.R Kd.bool 4 w' w.heap.size (fun k_ => some k_ ≠ ((.slice Ao21 t777.length co21) : Value).ownBlock ∧ some k_ ≠ (v784 : Value).ownBlock) (.slice Ao32 x6_2.length co32) x6_2) ∧ Aside0 (Kd.R Kd.bool 4 w' w.heap.size (fun k_ => some k_ ≠ ((.slice Ao21 t777.length co21) : Value).ownBlock ∧ some k_ ≠ ((.slice Ao32 x6_2.length co32) : Value).ownBlock) v784 t783) ∧ Aside0 (Kd.S (Kd.slice 3 (Kd.int .i64)) 32 w' w.heap.size (fun _ => True) v787 t786) ∧ Aside0 (w'.heap[gb775]? = some (.cells #[(.slice A0_0 l0_0.length c0_0)] 38 (0, 0))) ∧ Aside0 (w'.heap[gb776]? = some (.cells #[.int .i64 a1_0, .int .i64 a1_1, .int .i64 a1_2, .int .i64 a1_3, .int .i64 a1_4] 42 (0, 0))) ∧ Aside0 (Below w.heap.size w w'))
           case atStart => exact ⟨(decide (x10_2 > 0)), (0), (by first | rfl | (simp; done) | (simp [*]; done)), (by first | rfl | (simp; done) | (simp [*]; done)), H', ⟨Nat.le_refl _⟩, ⟨Rq HO_5.out⟩, ⟨Rq HO_6.out⟩, ⟨Rq HO_7.out⟩, ⟨Sq HO_8.out⟩, ⟨bkq BK775⟩, ⟨bkq BK776⟩, ⟨bwq HB⟩⟩
           case round =>
            clear H'
            try clear c1
            try clear c2
            try clear p2
            try clear c3
            try clear q3
            try clear c4
            try clear c4b0
            try clear c4b1
            try clear c4b2
            try clear c6
            try clear p6
            try clear c7
            try clear p7
            try clear q7
            try clear hx7
            try clear c9
            try clear c17
            try clear c29
            try clear c30
            try clear c30b0
            try clear c33
            try clear c33b0
            try clear q34
            try clear c35
            try clear c36
            try clear c36b0
            try clear c37
            try clear hcz18
            try clear hcz19
            try clear hcz22
            try clear hcz24
            try clear hcz25
            try clear hcz27
            try clear hcz8
            try clear hcz9
            try clear hfz18
            try clear hfz19
            try clear hfz22
            try clear hfz24
            try clear hfz25
            try clear hfz27
            try clear hfz8
            try clear hfz9
            try clear hx789_0
            try clear hx790_0
            try clear p2
            try clear p7
            try clear p789
            try clear p790
            try clear q3
            try clear q34
            try clear q7
            try clear q789
            try clear q790
            obtain ⟨x11_4, x12_4, rfl, rfl, HA, HK4, HO_5, HO_6, HO_7, HO_8, BK775, BK776, HB⟩ := hrel
            cases gk with
            | zero => exact absurd HA.out (by intro h_; first | (cases h_; done) | (simp [spec_SafeDelay.l2] at h_))
            | succ k4 =>
             have H := HA.out
             clear HA
             simp only [spec_SafeDelay.l2] at H
             by_cases c38 : 0 ≤ x10_2
             ·rw [if_pos c38] at H
              have c38b0 : decide (0 ≤ x10_2) = true := decide_eq_true c38
              clear c38
              by_cases c39 : x10_2 < (t786.length : Int)
              ·rw [if_pos c39] at H
               have c39b0 : decide (x10_2 < (t786.length : Int)) = true := decide_eq_true c39
               clear c39
               by_cases c40 : x12_4 < ((rd_L2 t786 x10_2).length : Int)
               ·rw [if_pos c40] at H
                have c40b0 : decide (x12_4 < ((rd_L2 t786 x10_2).length : Int)) = true := decide_eq_true c40
                clear c40
                by_cases c41 : x11_4 = true
                ·subst c41
                 rw [if_pos rfl] at H
                 by_cases c42 : 0 ≤ x12_4
                 ·rw [if_pos c42] at H
                  have c42b0 : decide (0 ≤ x12_4) = true := decide_eq_true c42
                  clear c42
                  by_cases c43 : 0 ≤ (rd (rd_L2 t786 x10_2) x12_4)
                  ·rw [if_pos c43] at H
                   have c43b0 : decide (0 ≤ (rd (rd_L2 t786 x10_2) x12_4)) = true := decide_eq_true c43
                   clear c43
                   by_cases c44 : (rd (rd_L2 t786 x10_2) x12_4) < (x6_2.length : Int)
                   ·rw [if_pos c44] at H
                    have c44b0 : decide ((rd (rd_L2 t786 x10_2) x12_4) < (x6_2.length : Int)) = true := decide_eq_true c44
                    clear c44
                    obtain ⟨bq45, hbq45⟩ : ∃ b_ : Bool, b_ = (rdOf false x6_2 (rd (rd_L2 t786 x10_2) x12_4)) := ⟨_, rfl⟩
                    replace H : (if bq45 = true then (if (rd (rd_L2 t786 x10_2) x12_4) < (t783.length : Int) then (spec_SafeDelay.l2 k4 t777 x6_2 t783 t786 x9_2 x10_2 (!(rdOf false t783 (rd (rd_L2 t786 x10_2) x12_4))) (wrap64 (x12_4 + 1))) else (none)) else (spec_SafeDelay.l2 k4 t777 x6_2 t783 t786 x9_2 x10_2 false (wrap64 (x12_4 + 1)))) = some r := by rw [← hbq45] at H; exact H
                    have Nbq45 := Aside0.mk hbq45
                    clear hbq45
                    by_cases c46 : bq45 = true
                    ·subst c46
                     rw [if_pos rfl] at H
                     by_cases c47 : (rd (rd_L2 t786 x10_2) x12_4) < (t783.length : Int)
                     ·rw [if_pos c47] at H
                      have c47b0 : decide ((rd (rd_L2 t786 x10_2) x12_4) < (t783.length : Int)) = true := decide_eq_true c47
                      clear c47
                      have H' := Aside0.mk H
                      clear H
                      obtain ⟨Ao48, co48, eo48⟩ := Kd.S_slice HO_8.out
                      subst eo48
                      have p791 : 0 ≤ (x10_2 : Int) := oda
                      have q791 : x10_2 < (t786.length : Int) := oda
                      obtain ⟨ad791, A791_0, c791_0, e791, hx791_0, hl791_0, hi791_0⟩ := at_L2 (Kd.S_reads' HO_8.out).2.2 x10_2 p791 q791
                      cases e791
                      obtain ⟨ce791, hce791, hMe791, hcc791⟩ := Kd.S_get HO_8.out [] x10_2 p791 (by first | exact q791 | exact oda | (have e_ := (Kd.S_reads' HO_8.out).1; omega))
                      obtain ⟨ve791_0, rfl, ge791_0⟩ := hMe791
                      have hv791_0 := hcc791 0 _ rfl
                      rw [Nat.add_zero, show ((Kd.slice 3 (Kd.int .i64))).sz = 1 from rfl, Nat.mul_one] at hv791_0
                      replace hv791_0 := Option.some.inj (hv791_0.symm.trans hx791_0)
                      rw [hv791_0] at ge791_0
                      have HL791_0 := Aside0.mk (show Kd.R (Kd.int .i64) 3 _ _ _ _ (rd_L2 t786 x10_2) from ge791_0)
                      clear hv791_0 ge791_0
                      clear hcc791 hce791
                      have HR791_0 := Aside0.mk hi791_0
                      have HC791_0 := Aside0.mk hl791_0
                      clear hi791_0 hl791_0
                      replace p791 := eq_true p791
                      replace q791 := eq_true q791
                      have p792 : 0 ≤ (x10_2 : Int) := oda
                      have q792 : x10_2 < (t786.length : Int) := oda
                      obtain ⟨ad792, A792_0, c792_0, e792, hx792_0, hl792_0, hi792_0⟩ := at_L2 (Kd.S_reads' HO_8.out).2.2 x10_2 p792 q792
                      obtain rfl : ad791 = ad792 := (by injection e792)
                      obtain ⟨ce792, hce792, hMe792, hcc792⟩ := Kd.S_get HO_8.out [] x10_2 p792 (by first | exact q792 | exact oda | (have e_ := (Kd.S_reads' HO_8.out).1; omega))
                      obtain ⟨ve792_0, rfl, ge792_0⟩ := hMe792
                      have hv792_0 := hcc792 0 _ rfl
                      rw [Nat.add_zero, show ((Kd.slice 3 (Kd.int .i64))).sz = 1 from rfl, Nat.mul_one] at hv792_0
                      replace hv792_0 := Option.some.inj (hv792_0.symm.trans hx792_0)
                      rw [hv792_0] at ge792_0
                      have HL792_0 := Aside0.mk (show Kd.R (Kd.int .i64) 3 _ _ _ _ (rd_L2 t786 x10_2) from ge792_0)
                      clear hv792_0 ge792_0
                      clear hcc792 hce792
                      have HR792_0 := Aside0.mk hi792_0
                      have HC792_0 := Aside0.mk hl792_0
                      clear hi792_0 hl792_0
                      replace p792 := eq_true p792
                      replace q792 := eq_true q792
                      have ea_ := Option.some.inj (hx791_0.symm.trans hx792_0)
                      injection ea_ with ea_ en_ ec_
                      subst ea_
                      subst ec_
                      clear en_
                      have p793 : 0 ≤ (x12_4 : Int) := oda
                      have q793 : x12_4 < ((rd_L2 t786 x10_2).length : Int) := oda
                      obtain ⟨ad793, e793, hx793_0⟩ := Kd.at_int (by repeat (first | (with_reducible exact HR792_0.out) | (with_reducible refine Kd.C_alloc ?_ _) | (with_reducible refine Kd.C_drewN ?_ _) | (with_reducible refine Kd.C_drew ?_) | exact HR792_0.out)) x12_4 p793 q793
                      cases e793
                      replace p793 := eq_true p793
                      replace q793 := eq_true q793
                      have p794 : 0 ≤ ((rd (rd_L2 t786 x10_2) x12_4) : Int) := oda
                      have q794 : (rd (rd_L2 t786 x10_2) x12_4) < (x6_2.length : Int) := oda
                      obtain ⟨ad794, e794, hx794_0⟩ := Kd.at_bool (Kd.R_reads' HO_6.out).2.2 (rd (rd_L2 t786 x10_2) x12_4) p794 q794
                      (try rw [← Nbq45.out] at hx794_0)
                      cases e794
                      replace p794 := eq_true p794
                      replace q794 := eq_true q794
                      have p795 : 0 ≤ (x10_2 : Int) := oda
                      have q795 : x10_2 < (t786.length : Int) := oda
                      obtain ⟨ad795, A795_0, c795_0, e795, hx795_0, hl795_0, hi795_0⟩ := at_L2 (Kd.S_reads' HO_8.out).2.2 x10_2 p795 q795
                      obtain rfl : ad791 = ad795 := (by injection e795)
                      obtain ⟨ce795, hce795, hMe795, hcc795⟩ := Kd.S_get HO_8.out [] x10_2 p795 (by first | exact q795 | exact oda | (have e_ := (Kd.S_reads' HO_8.out).1; omega))
                      obtain ⟨ve795_0, rfl, ge795_0⟩ := hMe795
                      have hv795_0 := hcc795 0 _ rfl
                      rw [Nat.add_zero, show ((Kd.slice 3 (Kd.int .i64))).sz = 1 from rfl, Nat.mul_one] at hv795_0
                      replace hv795_0 := Option.some.inj (hv795_0.symm.trans hx795_0)
                      rw [hv795_0] at ge795_0
                      have HL795_0 := Aside0.mk (show Kd.R (Kd.int .i64) 3 _ _ _ _ (rd_L2 t786 x10_2) from ge795_0)
                      clear hv795_0 ge795_0
                      clear hcc795 hce795
                      have HR795_0 := Aside0.mk hi795_0
                      have HC795_0 := Aside0.mk hl795_0
                      clear hi795_0 hl795_0
                      replace p795 := eq_true p795
                      replace q795 := eq_true q795
                      have ea_ := Option.some.inj (hx791_0.symm.trans hx795_0)
                      injection ea_ with ea_ en_ ec_
                      subst ea_
                      subst ec_
                      clear en_
                      have p796 : 0 ≤ (x12_4 : Int) := oda
                      have q796 : x12_4 < ((rd_L2 t786 x10_2).length : Int) := oda
                      obtain ⟨ad796, e796, hx796_0⟩ := Kd.at_int (by repeat (first | (with_reducible exact HR795_0.out) | (with_reducible refine Kd.C_alloc ?_ _) | (with_reducible refine Kd.C_drewN ?_ _) | (with_reducible refine Kd.C_drew ?_) | exact HR795_0.out)) x12_4 p796 q796
                      cases e796
                      replace p796 := eq_true p796
                      replace q796 := eq_true q796
                      obtain ⟨Ao49, co49, eo49⟩ := Kd.R_slice HO_7.out
                      subst eo49
                      have p797 : 0 ≤ ((rd (rd_L2 t786 x10_2) x12_4) : Int) := oda
                      have q797 : (rd (rd_L2 t786 x10_2) x12_4) < (t783.length : Int) := oda
                      obtain ⟨ad797, e797, hx797_0⟩ := Kd.at_bool (Kd.R_reads' HO_7.out).2.2 (rd (rd_L2 t786 x10_2) x12_4) p797 q797
                      (try rw [← Nbq45.out] at hx797_0)
                      cases e797
                      replace p797 := eq_true p797
                      replace q797 := eq_true q797
                      go_wp2
                      go_roundg k4
                      case measure => have := HK1.out; have := HK2.out; have := HJ30.out; have := HK4.out; omega
                      case rel => exact ⟨(!(rdOf false t783 (rd (rd_L2 t786 x10_2) x12_4))), (wrap64 (x12_4 + 1)), (by first | rfl | (simp; done) | (simp [*]; done)), (by first | rfl | (simp; done) | (simp [*]; done)), H', ⟨by have := HK1.out; have := HK2.out; have := HJ30.out; have := HK4.out; omega⟩, ⟨Rq HO_5.out⟩, ⟨Rq HO_6.out⟩, ⟨Rq HO_7.out⟩, ⟨Sq HO_8.out⟩, ⟨bkq BK775⟩, ⟨bkq BK776⟩, ⟨bwq HB⟩⟩
                     ·rw [if_neg c47] at H
                      exact absurd H (by simp)
                    ·replace c46 := Bool.eq_false_iff.mpr c46
                     subst c46
                     have H1 : (spec_SafeDelay.l2 k4 t777 x6_2 t783 t786 x9_2 x10_2 false (wrap64 (x12_4 + 1))) = some r := by rw [if_neg (show ¬ (false = true) by decide)] at H; exact H
                     clear H
                     have H := H1
                     clear H1
                     have H' := Aside0.mk H
                     clear H
                     obtain ⟨Ao50, co50, eo50⟩ := Kd.S_slice HO_8.out
                     subst eo50
                     have p791 : 0 ≤ (x10_2 : Int) := oda
                     have q791 : x10_2 < (t786.length : Int) := oda
                     obtain ⟨ad791, A791_0, c791_0, e791, hx791_0, hl791_0, hi791_0⟩ := at_L2 (Kd.S_reads' HO_8.out).2.2 x10_2 p791 q791
                     cases e791
                     obtain ⟨ce791, hce791, hMe791, hcc791⟩ := Kd.S_get HO_8.out [] x10_2 p791 (by first | exact q791 | exact oda | (have e_ := (Kd.S_reads' HO_8.out).1; omega))
                     obtain ⟨ve791_0, rfl, ge791_0⟩ := hMe791
                     have hv791_0 := hcc791 0 _ rfl
                     rw [Nat.add_zero, show ((Kd.slice 3 (Kd.int .i64))).sz = 1 from rfl, Nat.mul_one] at hv791_0
                     replace hv791_0 := Option.some.inj (hv791_0.symm.trans hx791_0)
                     rw [hv791_0] at ge791_0
                     have HL791_0 := Aside0.mk (show Kd.R (Kd.int .i64) 3 _ _ _ _ (rd_L2 t786 x10_2) from ge791_0)
                     clear hv791_0 ge791_0
                     clear hcc791 hce791
                     have HR791_0 := Aside0.mk hi791_0
                     have HC791_0 := Aside0.mk hl791_0
                     clear hi791_0 hl791_0
                     replace p791 := eq_true p791
                     replace q791 := eq_true q791
                     have p792 : 0 ≤ (x10_2 : Int) := oda
                     have q792 : x10_2 < (t786.length : Int) := oda
                     obtain ⟨ad792, A792_0, c792_0, e792, hx792_0, hl792_0, hi792_0⟩ := at_L2 (Kd.S_reads' HO_8.out).2.2 x10_2 p792 q792
                     obtain rfl : ad791 = ad792 := (by injection e792)
                     obtain ⟨ce792, hce792, hMe792, hcc792⟩ := Kd.S_get HO_8.out [] x10_2 p792 (by first | exact q792 | exact oda | (have e_ := (Kd.S_reads' HO_8.out).1; omega))
                     obtain ⟨ve792_0, rfl, ge792_0⟩ := hMe792
                     have hv792_0 := hcc792 0 _ rfl
                     rw [Nat.add_zero, show ((Kd.slice 3 (Kd.int .i64))).sz = 1 from rfl, Nat.mul_one] at hv792_0
                     replace hv792_0 := Option.some.inj (hv792_0.symm.trans hx792_0)
                     rw [hv792_0] at ge792_0
                     have HL792_0 := Aside0.mk (show Kd.R (Kd.int .i64) 3 _ _ _ _ (rd_L2 t786 x10_2) from ge792_0)
                     clear hv792_0 ge792_0
                     clear hcc792 hce792
                     have HR792_0 := Aside0.mk hi792_0
                     have HC792_0 := Aside0.mk hl792_0
                     clear hi792_0 hl792_0
                     replace p792 := eq_true p792
                     replace q792 := eq_true q792
                     have ea_ := Option.some.inj (hx791_0.symm.trans hx792_0)
                     injection ea_ with ea_ en_ ec_
                     subst ea_
                     subst ec_
                     clear en_
                     have p793 : 0 ≤ (x12_4 : Int) := oda
                     have q793 : x12_4 < ((rd_L2 t786 x10_2).length : Int) := oda
                     obtain ⟨ad793, e793, hx793_0⟩ := Kd.at_int (by repeat (first | (with_reducible exact HR792_0.out) | (with_reducible refine Kd.C_alloc ?_ _) | (with_reducible refine Kd.C_drewN ?_ _) | (with_reducible refine Kd.C_drew ?_) | exact HR792_0.out)) x12_4 p793 q793
                     cases e793
                     replace p793 := eq_true p793
                     replace q793 := eq_true q793
                     have p794 : 0 ≤ ((rd (rd_L2 t786 x10_2) x12_4) : Int) := oda
                     have q794 : (rd (rd_L2 t786 x10_2) x12_4) < (x6_2.length : Int) := oda
                     obtain ⟨ad794, e794, hx794_0⟩ := Kd.at_bool (Kd.R_reads' HO_6.out).2.2 (rd (rd_L2 t786 x10_2) x12_4) p794 q794
                     (try rw [← Nbq45.out] at hx794_0)
                     cases e794
                     replace p794 := eq_true p794
                     replace q794 := eq_true q794
                     go_wp2
                     go_roundg k4
                     case measure => have := HK1.out; have := HK2.out; have := HJ30.out; have := HK4.out; omega
                     case rel => exact ⟨(false), (wrap64 (x12_4 + 1)), (by first | rfl | (simp; done) | (simp [*]; done)), (by first | rfl | (simp; done) | (simp [*]; done)), H', ⟨by have := HK1.out; have := HK2.out; have := HJ30.out; have := HK4.out; omega⟩, ⟨Rq HO_5.out⟩, ⟨Rq HO_6.out⟩, ⟨Rq HO_7.out⟩, ⟨Sq HO_8.out⟩, ⟨bkq BK775⟩, ⟨bkq BK776⟩, ⟨bwq HB⟩⟩
                   ·rw [if_neg c44] at H
                    exact absurd H (by simp)
                  ·rw [if_neg c43] at H
                   exact absurd H (by simp)
                 ·rw [if_neg c42] at H
                  exact absurd H (by simp)
                ·replace c41 := Bool.eq_false_iff.mpr c41
                 subst c41
                 have H1 : (spec_SafeDelay.l2 k4 t777 x6_2 t783 t786 x9_2 x10_2 false (wrap64 (x12_4 + 1))) = some r := by rw [if_neg (show ¬ (false = true) by decide)] at H; exact H
                 clear H
                 have H := H1
                 clear H1
                 have H' := Aside0.mk H
                 clear H
                 obtain ⟨Ao51, co51, eo51⟩ := Kd.S_slice HO_8.out
                 subst eo51
                 have p791 : 0 ≤ (x10_2 : Int) := oda
                 have q791 : x10_2 < (t786.length : Int) := oda
                 obtain ⟨ad791, A791_0, c791_0, e791, hx791_0, hl791_0, hi791_0⟩ := at_L2 (Kd.S_reads' HO_8.out).2.2 x10_2 p791 q791
                 cases e791
                 obtain ⟨ce791, hce791, hMe791, hcc791⟩ := Kd.S_get HO_8.out [] x10_2 p791 (by first | exact q791 | exact oda | (have e_ := (Kd.S_reads' HO_8.out).1; omega))
                 obtain ⟨ve791_0, rfl, ge791_0⟩ := hMe791
                 have hv791_0 := hcc791 0 _ rfl
                 rw [Nat.add_zero, show ((Kd.slice 3 (Kd.int .i64))).sz = 1 from rfl, Nat.mul_one] at hv791_0
                 replace hv791_0 := Option.some.inj (hv791_0.symm.trans hx791_0)
                 rw [hv791_0] at ge791_0
                 have HL791_0 := Aside0.mk (show Kd.R (Kd.int .i64) 3 _ _ _ _ (rd_L2 t786 x10_2) from ge791_0)
                 clear hv791_0 ge791_0
                 clear hcc791 hce791
                 have HR791_0 := Aside0.mk hi791_0
                 have HC791_0 := Aside0.mk hl791_0
                 clear hi791_0 hl791_0
                 replace p791 := eq_true p791
                 replace q791 := eq_true q791
                 go_wp2
                 go_roundg k4
                 case measure => have := HK1.out; have := HK2.out; have := HJ30.out; have := HK4.out; omega
                 case rel => exact ⟨(false), (wrap64 (x12_4 + 1)), (by first | rfl | (simp; done) | (simp [*]; done)), (by first | rfl | (simp; done) | (simp [*]; done)), H', ⟨by have := HK1.out; have := HK2.out; have := HJ30.out; have := HK4.out; omega⟩, ⟨Rq HO_5.out⟩, ⟨Rq HO_6.out⟩, ⟨Rq HO_7.out⟩, ⟨Sq HO_8.out⟩, ⟨bkq BK775⟩, ⟨bkq BK776⟩, ⟨bwq HB⟩⟩
               ·rw [if_neg c40] at H
                have c40b0 : decide (x12_4 < ((rd_L2 t786 x10_2).length : Int)) = false := decide_eq_false c40
                clear c40
                by_cases c52 : x11_4 = true
                ·subst c52
                 rw [if_pos rfl] at H
                 have H' := Aside0.mk H
                 clear H
                 obtain ⟨Ao53, co53, eo53⟩ := Kd.S_slice HO_8.out
                 subst eo53
                 have p791 : 0 ≤ (x10_2 : Int) := oda
                 have q791 : x10_2 < (t786.length : Int) := oda
                 obtain ⟨ad791, A791_0, c791_0, e791, hx791_0, hl791_0, hi791_0⟩ := at_L2 (Kd.S_reads' HO_8.out).2.2 x10_2 p791 q791
                 cases e791
                 obtain ⟨ce791, hce791, hMe791, hcc791⟩ := Kd.S_get HO_8.out [] x10_2 p791 (by first | exact q791 | exact oda | (have e_ := (Kd.S_reads' HO_8.out).1; omega))
                 obtain ⟨ve791_0, rfl, ge791_0⟩ := hMe791
                 have hv791_0 := hcc791 0 _ rfl
                 rw [Nat.add_zero, show ((Kd.slice 3 (Kd.int .i64))).sz = 1 from rfl, Nat.mul_one] at hv791_0
                 replace hv791_0 := Option.some.inj (hv791_0.symm.trans hx791_0)
                 rw [hv791_0] at ge791_0
                 have HL791_0 := Aside0.mk (show Kd.R (Kd.int .i64) 3 _ _ _ _ (rd_L2 t786 x10_2) from ge791_0)
                 clear hv791_0 ge791_0
                 clear hcc791 hce791
                 have HR791_0 := Aside0.mk hi791_0
                 have HC791_0 := Aside0.mk hl791_0
                 clear hi791_0 hl791_0
                 replace p791 := eq_true p791
                 replace q791 := eq_true q791
                 go_wp2
                 go_roundg k4
                 case measure => have := HK1.out; have := HK2.out; have := HJ30.out; have := HK4.out; omega
                 case rel => exact ⟨(x6_2), (x9_2), (wrap64 (x10_2 + 1)), (by first | rfl | (simp; done) | (simp [*]; done)), (by first | rfl | (simp; done) | (simp [*]; done)), H', ⟨by have := HK1.out; have := HK2.out; have := HJ30.out; have := HK4.out; omega⟩, ⟨Rq HO_5.out⟩, ⟨Rq HO_6.out⟩, ⟨Rq HO_7.out⟩, ⟨Sq HO_8.out⟩, ⟨bkq BK775⟩, ⟨bkq BK776⟩, ⟨bwq HB⟩⟩
                ·replace c52 := Bool.eq_false_iff.mpr c52
                 subst c52
                 have H1 : (if x10_2 < (x6_2.length : Int) then (spec_SafeDelay.l1 k4 t777 (x6_2.set (x10_2 : Int).toNat false) t783 t786 true (wrap64 (x10_2 + 1))) else (none)) = some r := by rw [if_neg (show ¬ (false = true) by decide)] at H; exact H
                 clear H
                 have H := H1
                 clear H1
                 by_cases c54 : x10_2 < (x6_2.length : Int)
                 ·rw [if_pos c54] at H
                  have c54b0 : decide (x10_2 < (x6_2.length : Int)) = true := decide_eq_true c54
                  clear c54
                  obtain ⟨y798, hy798⟩ : ∃ y_ : List Bool, y_ = (x6_2.set (x10_2 : Int).toNat false) := ⟨_, rfl⟩
                  replace H : (spec_SafeDelay.l1 k4 t777 y798 t783 t786 true (wrap64 (x10_2 + 1))) = some r := by first | (rw [hy798]; with_reducible exact H) | (have H2_ := (Option.bind_some _ _).symm.trans H; rw [hy798]; with_reducible exact H2_) | (have H2_ := (Option.bind_some _ _).symm.trans H; with_reducible exact H2_) | with_reducible exact H | (rw [hy798]; exact H) | exact H
                  have Ny798 := Aside0.mk hy798
                  clear hy798
                  have H' := Aside0.mk H
                  clear H
                  obtain ⟨Ao56, co56, eo56⟩ := Kd.S_slice HO_8.out
                  subst eo56
                  have p791 : 0 ≤ (x10_2 : Int) := oda
                  have q791 : x10_2 < (t786.length : Int) := oda
                  obtain ⟨ad791, A791_0, c791_0, e791, hx791_0, hl791_0, hi791_0⟩ := at_L2 (Kd.S_reads' HO_8.out).2.2 x10_2 p791 q791
                  cases e791
                  obtain ⟨ce791, hce791, hMe791, hcc791⟩ := Kd.S_get HO_8.out [] x10_2 p791 (by first | exact q791 | exact oda | (have e_ := (Kd.S_reads' HO_8.out).1; omega))
                  obtain ⟨ve791_0, rfl, ge791_0⟩ := hMe791
                  have hv791_0 := hcc791 0 _ rfl
                  rw [Nat.add_zero, show ((Kd.slice 3 (Kd.int .i64))).sz = 1 from rfl, Nat.mul_one] at hv791_0
                  replace hv791_0 := Option.some.inj (hv791_0.symm.trans hx791_0)
                  rw [hv791_0] at ge791_0
                  have HL791_0 := Aside0.mk (show Kd.R (Kd.int .i64) 3 _ _ _ _ (rd_L2 t786 x10_2) from ge791_0)
                  clear hv791_0 ge791_0
                  clear hcc791 hce791
                  have HR791_0 := Aside0.mk hi791_0
                  have HC791_0 := Aside0.mk hl791_0
                  clear hi791_0 hl791_0
                  replace p791 := eq_true p791
                  replace q791 := eq_true q791
                  have p55 : 0 ≤ (x10_2 : Int) := oda
                  have q55 : (x10_2 : Int) < ((x6_2.length : Int) : Int) := oda
                  obtain ⟨go55, co55, eo55, gb55, gl55, cl55, HG55⟩ := Kd.R_form HO_6.out (by omega)
                  (first | cases eo55 | (injection eo55 with ea_ en_ ec_; (first | subst ea_ | (injection ea_ with ea_; subst ea_)); subst ec_; clear en_))
                  have GB55 := Aside0.mk gb55
                  have GG55 := Aside0.mk HG55
                  clear gb55 gl55 HG55
                  obtain ⟨hx55_0, hf55_0⟩ := Kd.R_celln false HO_6.out (x10_2 : Int) p55 q55
                  replace p55 := eq_true p55
                  replace q55 := eq_true q55
                  have HP57 := Kd.R_putg HO_6.out (x10_2 : Int) false
                  go_wp2_with (first | ((with_reducible refine gate_store (t := 4) (p := 86) rfl ?_); refine store_event (t := 4) (p := 86) (v := ?vo_w58) (w1 := (wr.setCell ⟨go55, (x10_2 : Int).toNat, none⟩ (.bool false))) ?hg ?ho ?hn ?hr ?_; (case ho => rfl); (case hg => rfl); (case hn => rfl); (case hr => first | (go_simp; done) | (go_simp; rfl) | (go_simp; rfl)); intro w58 hw; have hg : wr.grownBy w58 (some go55) := (by rw [hw]; exact HP57.2); have hp_ : Kd.R Kd.bool 4 w58 w.heap.size (fun k_ => some k_ ≠ (.slice Ao21 t777.length co21 : Value).ownBlock ∧ some k_ ≠ (v784 : Value).ownBlock) (.slice (some ⟨go55, 0, none⟩) x6_2.length co32) y798 := (by rw [hw, Ny798.out]; exact HP57.1); clear HP57; replace HO_5 := Aside0.mk (Kd.R_after (v := (.slice (some ⟨go55, 0, none⟩) x6_2.length co32)) (v1 := (.slice (some ⟨go55, 0, none⟩) x6_2.length co32)) (ok := (fun k_ => some k_ ≠ (v784 : Value).ownBlock)) (by (with_reducible repeat (first | apply Kd.R_alloc | apply Kd.R_drewN | apply Kd.R_drew)); exact Kd.R_mono HO_5.out (fun _ hk => ⟨hk.2, hk.1⟩)) hg (.inl rfl)); replace HO_7 := Aside0.mk (Kd.R_after (v := (.slice (some ⟨go55, 0, none⟩) x6_2.length co32)) (v1 := (.slice (some ⟨go55, 0, none⟩) x6_2.length co32)) (ok := (fun k_ => some k_ ≠ (.slice Ao21 t777.length co21 : Value).ownBlock)) (Rq HO_7.out) hg (.inl rfl)); replace HO_8 := Aside0.mk (Kd.S_over' (v := (.slice (some ⟨go55, 0, none⟩) x6_2.length co32)) (Sq HO_8.out) (Kd.R_typed HO_6.out) (by decide) hg); replace BK775 := Aside0.mk (blk_grown (g := gb775) (o := .cells #[.slice A0_0 l0_0.length c0_0] 38 (0, 0)) (bkq BK775) hg (Kd.R_ne HO_6.out BK775.out (by decide))); replace BK776 := Aside0.mk (blk_grown (g := gb776) (o := .cells #[.int .i64 a1_0, .int .i64 a1_1, .int .i64 a1_2, .int .i64 a1_3, .int .i64 a1_4] 42 (0, 0)) (bkq BK776) hg (Kd.R_ne HO_6.out BK776.out (by decide))); replace HL791_0 := Aside0.mk (Kd.R_over' (v := (.slice (some ⟨go55, 0, none⟩) x6_2.length co32)) (by (with_reducible repeat (first | apply Kd.R_alloc | apply Kd.R_drewN | apply Kd.R_drew)); exact HL791_0.out) (Kd.R_typed HO_6.out) (by decide) hg); replace HO_6 := Aside0.mk (hp_); replace HB := Aside0.mk ((by rw [hw]; exact below_set (HB.out) GB55.out : Below w.heap.size w w58)); clear hg hw hp_))
                  go_roundg k4
                  case measure => have := HK1.out; have := HK2.out; have := HJ30.out; have := HK4.out; omega
                  case rel => exact ⟨(y798), (true), (wrap64 (x10_2 + 1)), (by first | rfl | (simp; done) | (simp [*]; done)), (by first | rfl | (simp; done) | (simp [*]; done)), H', ⟨by have := HK1.out; have := HK2.out; have := HJ30.out; have := HK4.out; omega⟩, ⟨by (with_reducible repeat (first | apply Kd.R_alloc | apply Kd.R_drewN | apply Kd.R_drew)); exact Kd.R_mono HO_5.out (fun _ hk => ⟨hk.2, hk.1⟩)⟩, ⟨Rq HO_6.out⟩, ⟨Rq HO_7.out⟩, ⟨Sq HO_8.out⟩, ⟨bkq BK775⟩, ⟨bkq BK776⟩, ⟨bwq HB⟩⟩
                 ·rw [if_neg c54] at H
                  exact absurd H (by simp)
              ·rw [if_neg c39] at H
               exact absurd H (by simp)
             ·rw [if_neg c38] at H
              exact absurd H (by simp)
       ·rw [if_neg c30] at H
        have c30b0 : decide (x10_2 < (x6_2.length : Int)) = false := decide_eq_false c30
        clear c30
        have H' := Aside0.mk H
        clear H
        obtain ⟨Ao59, co59, eo59⟩ := Kd.R_slice HO_6.out
        subst eo59
        go_wp2
        go_roundg k2
        case measure => have := HK1.out; have := HK2.out; omega
        case rel => exact ⟨(x6_2), (x9_2), (by first | rfl | (simp; done) | (simp [*]; done)), H', ⟨by have := HK1.out; have := HK2.out; omega⟩, ⟨Rq HO_5.out⟩, ⟨Rq HO_6.out⟩, ⟨Rq HO_7.out⟩, ⟨Sq HO_8.out⟩, ⟨bkq BK775⟩, ⟨bkq BK776⟩, ⟨bwq HB⟩⟩
    ·replace c29 := Bool.eq_false_iff.mpr c29
     subst c29
     have H1 : (some x6_1) = some r := by rw [if_neg (show ¬ (false = true) by decide)] at H; exact H
     clear H
     have H := H1
     clear H1
     obtain rfl := Option.some.inj H
     go_wp2
     go_ret
     exact ⟨_, by first | rfl | (simp [errW_none, errW_some] <;> rfl) | (simp [*, errW_none, errW_some] <;> rfl), by (with_reducible repeat (first | apply Kd.R_alloc | apply Kd.R_drewN | apply Kd.R_drew)); exact Kd.R_mono HO_6.out (fun _ hk => trivial), bwq HB⟩
end Go.Proofs.Ytcgbbhkjkkpfoaa.P
