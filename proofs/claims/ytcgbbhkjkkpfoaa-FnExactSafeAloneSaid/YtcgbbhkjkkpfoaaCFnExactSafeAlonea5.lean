/- FnExactSafeAlone: for every argument the law returns true, and each argument reads behind the call as it read before; no condition. Part 6 of 6: written together by a program out of the session's texts and what the print wrote. -/
import Derived.Deep.RegionHeld3
import Derived.Deep.Matrix
import Derived.Test.YtcgbbhkjkkpfoaaRows
import Derived.WalkKit
import Derived.ProofKit
import Derived.OpenShut
import Derived.ShutString
import Derived.ChangeOld
import Derived.Below
import Derived.SizedLaws
import Derived.Test.YtcgbbhkjkkpfoaaCFnExactSafeAlonea4
namespace Go.Proofs.Ytcgbbhkjkkpfoaa.P
open Go.RowKit Go.Proofs.YtcgbbhkjkkpfoaaW.PrintWords Go.Proofs.YtcgbbhkjkkpfoaaW.PrintLast Go.Proofs.YtcgbbhkjkkpfoaaW.PrintMore
attribute [local go_sem] max2_int min2_int max_two min_two max_three min_three max_four min_four
set_option linter.unusedVariables false
set_option linter.unusedSimpArgs false
def spec_SafeLate.l0 : Nat → List Bool → List Bool → List Bool → Int → List (S77) → Option (List Bool)
 | 0, _, _, _, _, _ => none
 | k + 1, x5, x6, x7, x8, x800000 => if x8 < (x5.length : Int) then (if 0 ≤ x8 then (if rdOf false x5 x8 = true then (if x8 < (x7.length : Int) then (if rdOf false x7 x8 = true then (spec_SafeLate.l0 k (x5.set (x8 : Int).toNat true) x6 x7 (wrap64 (x8 + 1)) x800000) else (if x8 < (x800000.length : Int) then ((spec_l12Each.f k x6 ((rd_T77 x800000 x8).f5)).bind fun t814 => (spec_SafeLate.l0 k (x5.set (x8 : Int).toNat (!t814)) x6 x7 (wrap64 (x8 + 1)) x800000)) else (none))) else (none)) else (spec_SafeLate.l0 k (x5.set (x8 : Int).toNat false) x6 x7 (wrap64 (x8 + 1)) x800000)) else (none)) else (some x5)
def spec_SafeLate.f (k : Nat) (l0_0 : List (S77)) (a1_0 : Int) (a1_1 : Int) (a1_2 : Int) (a1_3 : Int) (a1_4 : Int) : Option (List Bool) := (spec_SafeDelay.f k l0_0 a1_0 a1_1 a1_2 a1_3 a1_4).bind fun t801 => (if (t801.length : Int) = 0 then (some t801) else ((spec_SafeDelay.f k l0_0 a1_0 a1_1 a1_2 a1_3 a1_4).bind fun t804 => ((spec_ExprComp.f k l0_0 a1_0 a1_1 a1_2 a1_3 a1_4).bind fun t807 => (spec_SafeLate.l0 k t801 t804 t807 0 l0_0))))
set_option maxHeartbeats 8000000 in
set_option maxRecDepth 100000 in
theorem spec_SafeLate.calls (k : Nat) (A0_0 : Option Addr) (c0_0 : Nat) (l0_0 : List (S77)) (a1_0 : Int) (a1_1 : Int) (a1_2 : Int) (a1_3 : Int) (a1_4 : Int) (r : List Bool) (w : World) (hr0_0 : Kd.C k77 w A0_0 l0_0.length l0_0) (hc0_0 : l0_0.length ≤ c0_0) (h : spec_SafeLate.f k l0_0 a1_0 a1_1 a1_2 a1_3 a1_4 = some r) :
  Calls Try.prog 36 #[.agg #[.slice A0_0 l0_0.length c0_0], .agg #[.int .i64 a1_0, .int .i64 a1_1, .int .i64 a1_2, .int .i64 a1_3, .int .i64 a1_4]] w fun e w' => ∃ v0_ : Value, e = .returned (v0_) ∧ Kd.R Kd.bool 4 w' w.heap.size (fun _ => True) v0_ r ∧ Below w.heap.size w w' := by
 have hu38 := Try.underlying38
 have hu42 := Try.underlying42
 have HR0_0 := Aside0.mk hr0_0
 have HC0_0 := Aside0.mk hc0_0
 clear hr0_0 hc0_0
 have HB := Aside0.mk (Below.refl w.heap.size w)
 have H : ((spec_SafeDelay.f k l0_0 a1_0 a1_1 a1_2 a1_3 a1_4).bind fun t801 => (if (t801.length : Int) = 0 then (some t801) else ((spec_SafeDelay.f k l0_0 a1_0 a1_1 a1_2 a1_3 a1_4).bind fun t804 => ((spec_ExprComp.f k l0_0 a1_0 a1_1 a1_2 a1_3 a1_4).bind fun t807 => (spec_SafeLate.l0 k t801 t804 t807 0 l0_0))))) = some r := h
 clear h
 replace H := Option.bind_eq_some_iff.mp H
 obtain ⟨t801, A30, H⟩ := H
 have A3 := Aside0.mk A30
 clear A30
 by_cases c4 : (t801.length : Int) = 0
 ·rw [if_pos c4] at H
  have c4b0 : ((t801.length : Int) == 0) = true := beq_iff_eq.mpr c4
  have c4b1 : ((t801.length : Int) != 0) = false := bne_eq_false_iff_eq.mpr c4
  clear c4
  obtain rfl := Option.some.inj H
  go_enter Try.func36, Try.ntmps36
  go_wp2_with (first | ((with_reducible refine gate_dst (N := 2) rfl ?_); refine bxe (cs := #[.slice A0_0 l0_0.length c0_0]) (t := 38) ?_; intro gb799 hg w5 hbox hb; have BK799 := Aside0.mk (hbox); have GW799 := bwz HB hg; have GE799 := bwz HB hg; replace HB := bwb HB hb; clear hb hbox hg) | ((with_reducible refine gate_dst (N := 3) rfl ?_); refine bxe (cs := #[.int .i64 a1_0, .int .i64 a1_1, .int .i64 a1_2, .int .i64 a1_3, .int .i64 a1_4]) (t := 42) ?_; intro gb800 hg w6 hbox hb; have BK800 := Aside0.mk (hbox); have GW800 := bwz HB hg; have GE800 := bwz HB hg; replace HB := bwb HB hb; have NB799_800 := bkl BK799 hg; have NB800_799 := bkg BK799 hg; replace BK799 := bkb BK799 hb; clear hb hbox hg; have hnb7 := NB799_800.out; have hnc7 := NB800_799.out; obtain ⟨hcz8, hfz8⟩ := bcf BK799; obtain ⟨hcz9, hfz9⟩ := bcf BK800) | ((with_reducible refine gate_callee (f := 67) rfl ?_); refine goesM (some 11) rfl rfl Try.func67 #[.agg #[.slice A0_0 l0_0.length c0_0], .agg #[.int .i64 a1_0, .int .i64 a1_1, .int .i64 a1_2, .int .i64 a1_3, .int .i64 a1_4]] rfl ?_; (with_reducible refine (spec_SafeDelay.calls k _ _ l0_0 a1_0 a1_1 a1_2 a1_3 a1_4 t801 _ ?side1 ?side2 A3.out).mono ?_); (case side1 => exact Cq (Kd.C_below HR0_0.out HB.out)); (case side2 => exact HC0_0.out); rintro e w10 ⟨v802, rfl, ho0, hb⟩; refine ⟨_, rfl, ?_⟩; have HO803 := Aside0.mk (Kd.R_lower ho0 (below_size (bwq HB))); replace BK799 := bkb BK799 hb; replace BK800 := bkb BK800 hb; replace HB := bwb HB hb; (try clear hb); (try clear hb2); (try clear hk); (try clear hi); (try clear ho0); obtain ⟨Ao11, co11, eo11⟩ := Kd.R_slice HO803.out; subst eo11))
  go_ret
  exact ⟨_, by first | rfl | (simp [errW_none, errW_some] <;> rfl) | (simp [*, errW_none, errW_some] <;> rfl), Rq HO803.out, bwq HB⟩
 ·rw [if_neg c4] at H
  have c4b0 : ((t801.length : Int) == 0) = false := beq_eq_false_iff_ne.mpr c4
  have c4b1 : ((t801.length : Int) != 0) = true := bne_iff_ne.mpr c4
  have c4b2 : ¬ (t801 = []) := fun h_ => c4 (by rw [h_]; rfl)
  replace H := Option.bind_eq_some_iff.mp H
  obtain ⟨t804, A120, H⟩ := H
  have A12 := Aside0.mk A120
  clear A120
  replace H := Option.bind_eq_some_iff.mp H
  obtain ⟨t807, A130, H⟩ := H
  have A13 := Aside0.mk A130
  clear A130
  have H' := Aside0.mk H
  clear H
  go_enter Try.func36, Try.ntmps36
  go_wp2_with (first | ((with_reducible refine gate_dst (N := 2) rfl ?_); refine bxe (cs := #[.slice A0_0 l0_0.length c0_0]) (t := 38) ?_; intro gb799 hg w14 hbox hb; have BK799 := Aside0.mk (hbox); have GW799 := bwz HB hg; have GE799 := bwz HB hg; replace HB := bwb HB hb; clear hb hbox hg) | ((with_reducible refine gate_dst (N := 3) rfl ?_); refine bxe (cs := #[.int .i64 a1_0, .int .i64 a1_1, .int .i64 a1_2, .int .i64 a1_3, .int .i64 a1_4]) (t := 42) ?_; intro gb800 hg w15 hbox hb; have BK800 := Aside0.mk (hbox); have GW800 := bwz HB hg; have GE800 := bwz HB hg; replace HB := bwb HB hb; have NB799_800 := bkl BK799 hg; have NB800_799 := bkg BK799 hg; replace BK799 := bkb BK799 hb; clear hb hbox hg; have hnb16 := NB799_800.out; have hnc16 := NB800_799.out; obtain ⟨hcz17, hfz17⟩ := bcf BK799; obtain ⟨hcz18, hfz18⟩ := bcf BK800) | ((with_reducible refine gate_callee (f := 67) rfl ?_); refine goesM (some 11) rfl rfl Try.func67 #[.agg #[.slice A0_0 l0_0.length c0_0], .agg #[.int .i64 a1_0, .int .i64 a1_1, .int .i64 a1_2, .int .i64 a1_3, .int .i64 a1_4]] rfl ?_; (with_reducible refine (spec_SafeDelay.calls k _ _ l0_0 a1_0 a1_1 a1_2 a1_3 a1_4 t801 _ ?side1 ?side2 A3.out).mono ?_); (case side1 => exact Cq (Kd.C_below HR0_0.out HB.out)); (case side2 => exact HC0_0.out); rintro e w19 ⟨v802, rfl, ho0, hb⟩; refine ⟨_, rfl, ?_⟩; have HO803 := Aside0.mk (Kd.R_lower ho0 (below_size (bwq HB))); replace BK799 := bkb BK799 hb; replace BK800 := bkb BK800 hb; replace HB := bwb HB hb; (try clear hb); (try clear hb2); (try clear hk); (try clear hi); (try clear ho0); obtain ⟨Ao20, co20, eo20⟩ := Kd.R_slice HO803.out; subst eo20; obtain ⟨hcz21, hfz21⟩ := bcf BK799; obtain ⟨hcz22, hfz22⟩ := bcf BK800) | ((with_reducible refine gate_callee (f := 67) rfl ?_); refine goesM (some 18) rfl rfl Try.func67 #[.agg #[.slice A0_0 l0_0.length c0_0], .agg #[.int .i64 a1_0, .int .i64 a1_1, .int .i64 a1_2, .int .i64 a1_3, .int .i64 a1_4]] rfl ?_; (with_reducible refine (spec_SafeDelay.calls k _ _ l0_0 a1_0 a1_1 a1_2 a1_3 a1_4 t804 _ ?side1 ?side2 A12.out).mono ?_); (case side1 => exact Cq (Kd.C_below HR0_0.out HB.out)); (case side2 => exact HC0_0.out); rintro e w23 ⟨v805, rfl, ho0, hb⟩; refine ⟨_, rfl, ?_⟩; have HO806 := Aside0.mk (Kd.R_lower (Kd.R_new' ho0 (Kd.R_lt (Rq HO803.out))) (below_size (bwq HB))); replace HO803 := Aside0.mk (Kd.R_elder' (Rq HO803.out) (Kd.R_base ho0) hb); replace BK799 := bkb BK799 hb; replace BK800 := bkb BK800 hb; replace HB := bwb HB hb; (try clear hb); (try clear hb2); (try clear hk); (try clear hi); (try clear ho0); obtain ⟨hcz24, hfz24⟩ := bcf BK799; obtain ⟨hcz25, hfz25⟩ := bcf BK800) | ((with_reducible refine gate_callee (f := 46) rfl ?_); refine goesM (some 21) rfl rfl Try.func46 #[.agg #[.slice A0_0 l0_0.length c0_0], .agg #[.int .i64 a1_0, .int .i64 a1_1, .int .i64 a1_2, .int .i64 a1_3, .int .i64 a1_4]] rfl ?_; (with_reducible refine (spec_ExprComp.calls k _ _ l0_0 a1_0 a1_1 a1_2 a1_3 a1_4 t807 _ ?side1 ?side2 A13.out).mono ?_); (case side1 => exact Cq (Kd.C_below HR0_0.out HB.out)); (case side2 => exact HC0_0.out); rintro e w26 ⟨v808, rfl, ho0, hb⟩; refine ⟨_, rfl, ?_⟩; have HO809 := Aside0.mk (Kd.R_lower (Kd.R_new' (Kd.R_new' ho0 (Kd.R_lt (Rq HO803.out))) (Kd.R_lt (Rq HO806.out))) (below_size (bwq HB))); replace HO803 := Aside0.mk (Kd.R_elder' (Rq HO803.out) (Kd.R_base ho0) hb); replace HO806 := Aside0.mk (Kd.R_elder' (Rq HO806.out) (Kd.R_base ho0) hb); replace BK799 := bkb BK799 hb; replace BK800 := bkb BK800 hb; replace HB := bwb HB hb; (try clear hb); (try clear hb2); (try clear hk); (try clear hi); (try clear ho0)))
  go_loopg [8] k (fun kq v8 w' => ∃ (x5_1 : List Bool) (x8_1 : Int), v8 = .int .i64 x8_1 ∧ Aside0 (spec_SafeLate.l0 kq x5_1 t804 t807 x8_1 l0_0 = some r) ∧ Aside0 (kq ≤ k) ∧ Aside0 (Kd.R Kd.bool 4 w' w.heap.size (fun k_ => some k_ ≠ (v805 : Value).ownBlock ∧ some k_ ≠ (v808 : Value).ownBlock) (.slice Ao20 t801.length co20) x5_1) ∧ Aside0 (Kd.R Kd.bool 4 w' w.heap.size (fun k_ => some k_ ≠ ((.slice Ao20 t801.length co20) : Value).ownBlock ∧ some k_ ≠ (v808 : Value).ownBlock) v805 t804) ∧ Aside0 (Kd.R Kd.bool 4 w' w.heap.size (fun k_ => some k_ ≠ ((.slice Ao20 t801.length co20) : Value).ownBlock ∧ some k_ ≠ (v805 : Value).ownBlock) v808 t807) ∧ Aside0 (w'.heap[gb799]? = some (.cells #[(.slice A0_0 l0_0.length c0_0)] 38 (0, 0))) ∧ Aside0 (w'.heap[gb800]? = some (.cells #[.int .i64 a1_0, .int .i64 a1_1, .int .i64 a1_2, .int .i64 a1_3, .int .i64 a1_4] 42 (0, 0))) ∧ Aside0 (Below w.heap.size w w'))
  case atStart => exact ⟨(t801), (0), (by first | rfl | (simp; done) | (simp [*]; done)), H', ⟨Nat.le_refl _⟩, ⟨by (with_reducible repeat (first | apply Kd.R_alloc | apply Kd.R_drewN | apply Kd.R_drew)); exact Kd.R_mono HO803.out (fun _ hk => ⟨hk.1.2, hk.2⟩)⟩, ⟨by (with_reducible repeat (first | apply Kd.R_alloc | apply Kd.R_drewN | apply Kd.R_drew)); exact Kd.R_mono HO806.out (fun _ hk => ⟨hk.1.2, hk.2⟩)⟩, ⟨by (with_reducible repeat (first | apply Kd.R_alloc | apply Kd.R_drewN | apply Kd.R_drew)); exact Kd.R_mono HO809.out (fun _ hk => ⟨hk.1.2, hk.2⟩)⟩, ⟨bkq BK799⟩, ⟨bkq BK800⟩, ⟨bwq HB⟩⟩
  case round =>
   clear H'
   try clear c1
   try clear p2
   try clear c3
   try clear c4
   try clear c4b0
   try clear c4b1
   try clear c4b2
   try clear c6
   try clear c7
   try clear c16
   try clear hcz17
   try clear hcz18
   try clear hcz21
   try clear hcz22
   try clear hcz24
   try clear hcz25
   try clear hcz8
   try clear hcz9
   try clear hfz17
   try clear hfz18
   try clear hfz21
   try clear hfz22
   try clear hfz24
   try clear hfz25
   try clear hfz8
   try clear hfz9
   obtain ⟨x5_1, x8_1, rfl, HA, HK1, HO_5, HO_6, HO_7, BK799, BK800, HB⟩ := hrel
   have hl5_1 := (Kd.R_reads' HO_5.out).1
   rw [hl5_1] at HO_5
   (try simp only [hl5_1])
   (try simp only [hl5_1] at BK799)
   (try simp only [hl5_1] at BK800)
   (try simp only [hl5_1] at HO_6)
   (try simp only [hl5_1] at HO_7)
   cases gk with
   | zero => exact absurd HA.out (by intro h_; first | (cases h_; done) | (simp [spec_SafeLate.l0] at h_))
   | succ k1 =>
    have H := HA.out
    clear HA
    simp only [spec_SafeLate.l0] at H
    by_cases c27 : x8_1 < (x5_1.length : Int)
    ·rw [if_pos c27] at H
     have c27b0 : decide (x8_1 < (x5_1.length : Int)) = true := decide_eq_true c27
     clear c27
     by_cases c28 : 0 ≤ x8_1
     ·rw [if_pos c28] at H
      have c28b0 : decide (0 ≤ x8_1) = true := decide_eq_true c28
      clear c28
      obtain ⟨bq29, hbq29⟩ : ∃ b_ : Bool, b_ = (rdOf false x5_1 x8_1) := ⟨_, rfl⟩
      replace H : (if bq29 = true then (if x8_1 < (t807.length : Int) then (if rdOf false t807 x8_1 = true then (spec_SafeLate.l0 k1 (x5_1.set (x8_1 : Int).toNat true) t804 t807 (wrap64 (x8_1 + 1)) l0_0) else (if x8_1 < (l0_0.length : Int) then ((spec_l12Each.f k1 t804 ((rd_T77 l0_0 x8_1).f5)).bind fun t814 => (spec_SafeLate.l0 k1 (x5_1.set (x8_1 : Int).toNat (!t814)) t804 t807 (wrap64 (x8_1 + 1)) l0_0)) else (none))) else (none)) else (spec_SafeLate.l0 k1 (x5_1.set (x8_1 : Int).toNat false) t804 t807 (wrap64 (x8_1 + 1)) l0_0)) = some r := by rw [← hbq29] at H; exact H
      have Nbq29 := Aside0.mk hbq29
      clear hbq29
      by_cases c30 : bq29 = true
      ·subst c30
       rw [if_pos rfl] at H
       by_cases c31 : x8_1 < (t807.length : Int)
       ·rw [if_pos c31] at H
        have c31b0 : decide (x8_1 < (t807.length : Int)) = true := decide_eq_true c31
        clear c31
        obtain ⟨bq32, hbq32⟩ : ∃ b_ : Bool, b_ = (rdOf false t807 x8_1) := ⟨_, rfl⟩
        replace H : (if bq32 = true then (spec_SafeLate.l0 k1 (x5_1.set (x8_1 : Int).toNat true) t804 t807 (wrap64 (x8_1 + 1)) l0_0) else (if x8_1 < (l0_0.length : Int) then ((spec_l12Each.f k1 t804 ((rd_T77 l0_0 x8_1).f5)).bind fun t814 => (spec_SafeLate.l0 k1 (x5_1.set (x8_1 : Int).toNat (!t814)) t804 t807 (wrap64 (x8_1 + 1)) l0_0)) else (none))) = some r := by rw [← hbq32] at H; exact H
        have Nbq32 := Aside0.mk hbq32
        clear hbq32
        by_cases c33 : bq32 = true
        ·subst c33
         rw [if_pos rfl] at H
         obtain ⟨y812, hy812⟩ : ∃ y_ : List Bool, y_ = (x5_1.set (x8_1 : Int).toNat true) := ⟨_, rfl⟩
         replace H : (spec_SafeLate.l0 k1 y812 t804 t807 (wrap64 (x8_1 + 1)) l0_0) = some r := by first | (rw [hy812]; with_reducible exact H) | (have H2_ := (Option.bind_some _ _).symm.trans H; rw [hy812]; with_reducible exact H2_) | (have H2_ := (Option.bind_some _ _).symm.trans H; with_reducible exact H2_) | with_reducible exact H | (rw [hy812]; exact H) | exact H
         have Ny812 := Aside0.mk hy812
         clear hy812
         have H' := Aside0.mk H
         clear H
         have p810 : 0 ≤ (x8_1 : Int) := oda
         have q810 : x8_1 < (x5_1.length : Int) := oda
         obtain ⟨ad810, e810, hx810_0⟩ := Kd.at_bool (Kd.R_reads' HO_5.out).2.2 x8_1 p810 q810
         (try rw [← Nbq29.out] at hx810_0)
         (try rw [← Nbq32.out] at hx810_0)
         cases e810
         replace p810 := eq_true p810
         replace q810 := eq_true q810
         obtain ⟨Ao35, co35, eo35⟩ := Kd.R_slice HO_7.out
         subst eo35
         have p811 : 0 ≤ (x8_1 : Int) := oda
         have q811 : x8_1 < (t807.length : Int) := oda
         obtain ⟨ad811, e811, hx811_0⟩ := Kd.at_bool (Kd.R_reads' HO_7.out).2.2 x8_1 p811 q811
         (try rw [← Nbq29.out] at hx811_0)
         (try rw [← Nbq32.out] at hx811_0)
         cases e811
         replace p811 := eq_true p811
         replace q811 := eq_true q811
         have p34 : 0 ≤ (x8_1 : Int) := oda
         have q34 : (x8_1 : Int) < ((x5_1.length : Int) : Int) := oda
         obtain ⟨go34, co34, eo34, gb34, gl34, cl34, HG34⟩ := Kd.R_form HO_5.out (by omega)
         (first | cases eo34 | (injection eo34 with ea_ en_ ec_; (first | subst ea_ | (injection ea_ with ea_; subst ea_)); subst ec_; clear en_))
         have GB34 := Aside0.mk gb34
         have GG34 := Aside0.mk HG34
         clear gb34 gl34 HG34
         (first | simp only [add_plain] at hx810_0 | skip)
         obtain ⟨hx34_0, hf34_0⟩ := Kd.R_celln false HO_5.out (x8_1 : Int) p34 q34
         replace p34 := eq_true p34
         replace q34 := eq_true q34
         have HP36 := Kd.R_putg HO_5.out (x8_1 : Int) true
         go_wp2_with (first | ((with_reducible refine gate_store (t := 4) (p := 51) rfl ?_); refine store_event (t := 4) (p := 51) (v := ?vo_w37) (w1 := (wr.setCell ⟨go34, (x8_1 : Int).toNat, none⟩ (.bool true))) ?hg ?ho ?hn ?hr ?_; (case ho => rfl); (case hg => rfl); (case hn => rfl); (case hr => first | (go_simp; done) | (go_simp; rfl) | (go_simp; rfl)); intro w37 hw; have hg : wr.grownBy w37 (some go34) := (by rw [hw]; exact HP36.2); have hp_ : Kd.R Kd.bool 4 w37 w.heap.size (fun k_ => some k_ ≠ (v805 : Value).ownBlock ∧ some k_ ≠ (.slice (some ad811) t807.length co35 : Value).ownBlock) (.slice (some ⟨go34, 0, none⟩) x5_1.length co20) y812 := (by rw [hw, Ny812.out]; exact HP36.1); clear HP36; replace HO_6 := Aside0.mk (Kd.R_after (v := (.slice (some ⟨go34, 0, none⟩) x5_1.length co20)) (v1 := (.slice (some ⟨go34, 0, none⟩) x5_1.length co20)) (ok := (fun k_ => some k_ ≠ (.slice (some ad811) t807.length co35 : Value).ownBlock)) (by (with_reducible repeat (first | apply Kd.R_alloc | apply Kd.R_drewN | apply Kd.R_drew)); exact Kd.R_mono HO_6.out (fun _ hk => ⟨hk.2, hk.1⟩)) hg (.inl rfl)); replace HO_7 := Aside0.mk (Kd.R_after (v := (.slice (some ⟨go34, 0, none⟩) x5_1.length co20)) (v1 := (.slice (some ⟨go34, 0, none⟩) x5_1.length co20)) (ok := (fun k_ => some k_ ≠ (v805 : Value).ownBlock)) (by (with_reducible repeat (first | apply Kd.R_alloc | apply Kd.R_drewN | apply Kd.R_drew)); exact Kd.R_mono HO_7.out (fun _ hk => ⟨hk.2, hk.1⟩)) hg (.inl rfl)); replace BK799 := Aside0.mk (blk_grown (g := gb799) (o := .cells #[.slice A0_0 l0_0.length c0_0] 38 (0, 0)) (bkq BK799) hg (Kd.R_ne HO_5.out BK799.out (by decide))); replace BK800 := Aside0.mk (blk_grown (g := gb800) (o := .cells #[.int .i64 a1_0, .int .i64 a1_1, .int .i64 a1_2, .int .i64 a1_3, .int .i64 a1_4] 42 (0, 0)) (bkq BK800) hg (Kd.R_ne HO_5.out BK800.out (by decide))); replace HO_5 := Aside0.mk (hp_); replace HB := Aside0.mk ((by rw [hw]; exact below_set (HB.out) GB34.out : Below w.heap.size w w37)); clear hg hw hp_))
         (try simp only [← hl5_1])
         go_roundg k1
         case measure => have := HK1.out; omega
         case rel => exact ⟨(y812), (wrap64 (x8_1 + 1)), (by first | rfl | (simp; done) | (simp [*]; done)), H', ⟨by have := HK1.out; omega⟩, ⟨by (try simp only [hl5_1]); exact Rq HO_5.out⟩, ⟨by (try simp only [hl5_1]); (with_reducible repeat (first | apply Kd.R_alloc | apply Kd.R_drewN | apply Kd.R_drew)); exact Kd.R_mono HO_6.out (fun _ hk => ⟨hk.2, hk.1⟩)⟩, ⟨by (try simp only [hl5_1]); (with_reducible repeat (first | apply Kd.R_alloc | apply Kd.R_drewN | apply Kd.R_drew)); exact Kd.R_mono HO_7.out (fun _ hk => ⟨hk.2, hk.1⟩)⟩, ⟨by (try simp only [hl5_1]); exact bkq BK799⟩, ⟨by (try simp only [hl5_1]); exact bkq BK800⟩, ⟨bwq HB⟩⟩
        ·replace c33 := Bool.eq_false_iff.mpr c33
         subst c33
         have H1 : (if x8_1 < (l0_0.length : Int) then ((spec_l12Each.f k1 t804 ((rd_T77 l0_0 x8_1).f5)).bind fun t814 => (spec_SafeLate.l0 k1 (x5_1.set (x8_1 : Int).toNat (!t814)) t804 t807 (wrap64 (x8_1 + 1)) l0_0)) else (none)) = some r := by rw [if_neg (show ¬ (false = true) by decide)] at H; exact H
         clear H
         have H := H1
         clear H1
         by_cases c38 : x8_1 < (l0_0.length : Int)
         ·rw [if_pos c38] at H
          have c38b0 : decide (x8_1 < (l0_0.length : Int)) = true := decide_eq_true c38
          clear c38
          replace H := Option.bind_eq_some_iff.mp H
          obtain ⟨t814, A390, H⟩ := H
          have A39 := Aside0.mk A390
          clear A390
          obtain ⟨y815, hy815⟩ : ∃ y_ : List Bool, y_ = (x5_1.set (x8_1 : Int).toNat (!t814)) := ⟨_, rfl⟩
          replace H : (spec_SafeLate.l0 k1 y815 t804 t807 (wrap64 (x8_1 + 1)) l0_0) = some r := by first | (rw [hy815]; with_reducible exact H) | (have H2_ := (Option.bind_some _ _).symm.trans H; rw [hy815]; with_reducible exact H2_) | (have H2_ := (Option.bind_some _ _).symm.trans H; with_reducible exact H2_) | with_reducible exact H | (rw [hy815]; exact H) | exact H
          have Ny815 := Aside0.mk hy815
          clear hy815
          have H' := Aside0.mk H
          clear H
          have p810 : 0 ≤ (x8_1 : Int) := oda
          have q810 : x8_1 < (x5_1.length : Int) := oda
          obtain ⟨ad810, e810, hx810_0⟩ := Kd.at_bool (Kd.R_reads' HO_5.out).2.2 x8_1 p810 q810
          (try rw [← Nbq29.out] at hx810_0)
          (try rw [← Nbq32.out] at hx810_0)
          cases e810
          replace p810 := eq_true p810
          replace q810 := eq_true q810
          obtain ⟨Ao41, co41, eo41⟩ := Kd.R_slice HO_7.out
          subst eo41
          have p811 : 0 ≤ (x8_1 : Int) := oda
          have q811 : x8_1 < (t807.length : Int) := oda
          obtain ⟨ad811, e811, hx811_0⟩ := Kd.at_bool (Kd.R_reads' HO_7.out).2.2 x8_1 p811 q811
          (try rw [← Nbq29.out] at hx811_0)
          (try rw [← Nbq32.out] at hx811_0)
          cases e811
          replace p811 := eq_true p811
          replace q811 := eq_true q811
          have hnb42 := NB799_800.out
          have hnc42 := NB800_799.out
          obtain ⟨hcz43, hfz43⟩ := bcf BK799
          have p813 : 0 ≤ (x8_1 : Int) := oda
          have q813 : x8_1 < (l0_0.length : Int) := oda
          obtain ⟨ad813, A813_7, c813_7, e813, hx813_0, hx813_1, hx813_2, hx813_3, hx813_4, hx813_5, hx813_6, hx813_7, hl813_7, hi813_7⟩ := at_T77 HR0_0.out x8_1 p813 q813
          cases e813
          replace hx813_0 := hxb HB hx813_0
          replace hx813_1 := hxb HB hx813_1
          replace hx813_2 := hxb HB hx813_2
          replace hx813_3 := hxb HB hx813_3
          replace hx813_4 := hxb HB hx813_4
          replace hx813_5 := hxb HB hx813_5
          replace hx813_6 := hxb HB hx813_6
          replace hx813_7 := hxb HB hx813_7
          have HR813_7 := Aside0.mk hi813_7
          have HC813_7 := Aside0.mk hl813_7
          clear hi813_7 hl813_7
          replace p813 := eq_true p813
          replace q813 := eq_true q813
          obtain ⟨Ao44, co44, eo44⟩ := Kd.R_slice HO_6.out
          subst eo44
          go_wp2_with (first | (go_at_call 68; (with_reducible refine (spec_l12Each.calls k1 _ _ t804 _ _ ((rd_T77 l0_0 x8_1).f5) t814 _ ?side1 ?side2 ?side3 ?side4 A39.out).mono ?_); (case side1 => repeat (first | exact (Kd.R_reads' HO_6.out).2.2 | (with_reducible refine Kd.C_alloc ?_ _) | (with_reducible refine Kd.C_drewN ?_ _) | (with_reducible refine Kd.C_drew ?_))); (case side2 => exact (Kd.R_reads' HO_6.out).2.1); (case side3 => exact Cq (Kd.C_below HR813_7.out HB.out)); (case side4 => exact HC813_7.out); rintro e w' ⟨rfl, ⟨nd, rfl⟩⟩; (try (rw [drewN_self wr]; generalize hq_ : World.drewN wr _ = wr; have n0_ : Aside0 (Kd.R Kd.bool 4 wr w.heap.size (fun k_ => some k_ ≠ (.slice Ao44 t804.length co44 : Value).ownBlock ∧ some k_ ≠ (.slice (some ad811) t807.length co41 : Value).ownBlock) (.slice (some ad810) x5_1.length co20) x5_1) := ⟨by rw [← hq_]; exact (Rq HO_5.out)⟩; have n1_ : Aside0 (Kd.R Kd.bool 4 wr w.heap.size (fun k_ => some k_ ≠ (.slice (some ad810) x5_1.length co20 : Value).ownBlock ∧ some k_ ≠ (.slice (some ad811) t807.length co41 : Value).ownBlock) (.slice Ao44 t804.length co44) t804) := ⟨by rw [← hq_]; exact (Rq HO_6.out)⟩; have n2_ : Aside0 (Kd.R Kd.bool 4 wr w.heap.size (fun k_ => some k_ ≠ (.slice (some ad810) x5_1.length co20 : Value).ownBlock ∧ some k_ ≠ (.slice Ao44 t804.length co44 : Value).ownBlock) (.slice (some ad811) t807.length co41) t807) := ⟨by rw [← hq_]; exact (Rq HO_7.out)⟩; have n3_ : Aside0 (wr.heap[gb799]? = some (.cells #[.slice (some ad813) l0_0.length c0_0] 38 (0, 0))) := ⟨by rw [← hq_]; exact (bkq BK799)⟩; have n4_ : Aside0 (wr.heap[gb800]? = some (.cells #[.int .i64 a1_0, .int .i64 a1_1, .int .i64 a1_2, .int .i64 a1_3, .int .i64 a1_4] 42 (0, 0))) := ⟨by rw [← hq_]; exact (bkq BK800)⟩; have n5_ : Aside0 (Below w.heap.size w wr) := ⟨by rw [← hq_]; exact (bwq HB)⟩; clear HO_5 HO_6 HO_7 BK799 BK800 HB hq_; have HO_5 := n0_; have HO_6 := n1_; have HO_7 := n2_; have BK799 := n3_; have BK800 := n4_; have HB := n5_; clear n0_ n1_ n2_ n3_ n4_ n5_)); have p40 : 0 ≤ (x8_1 : Int) := oda; have q40 : (x8_1 : Int) < ((x5_1.length : Int) : Int) := oda; obtain ⟨go40, co40, eo40, gb40, gl40, cl40, HG40⟩ := Kd.R_form HO_5.out (by omega); (first | cases eo40 | (injection eo40 with ea_ en_ ec_; (first | subst ea_ | (injection ea_ with ea_; subst ea_)); subst ec_; clear en_)); have GB40 := Aside0.mk gb40; have GG40 := Aside0.mk HG40; clear gb40 gl40 HG40; (first | simp only [add_plain] at hx810_0 | skip); obtain ⟨hx40_0, hf40_0⟩ := Kd.R_celln false HO_5.out (x8_1 : Int) p40 q40; replace p40 := eq_true p40; replace q40 := eq_true q40; obtain ⟨hy45_, hz45_⟩ := Kd.R_celln false HO_5.out (x8_1 : Int) (oda) (oda); have HP45 := Kd.R_putg HO_5.out (x8_1 : Int) (!t814)) | ((with_reducible refine gate_store (t := 4) (p := 51) rfl ?_); refine store_event (t := 4) (p := 51) (v := ?vo_w46) (w1 := (wr.setCell ⟨go40, (x8_1 : Int).toNat, none⟩ (.bool (!t814)))) ?hg ?ho ?hn ?hr ?_; (case ho => rfl); (case hg => rfl); (case hn => rfl); (case hr => first | (go_simp; done) | (go_simp; rfl) | (go_simp; rfl)); intro w46 hw; have hg : wr.grownBy w46 (some go40) := (by rw [hw]; exact HP45.2); have hp_ : Kd.R Kd.bool 4 w46 w.heap.size (fun k_ => some k_ ≠ (.slice Ao44 t804.length co44 : Value).ownBlock ∧ some k_ ≠ (.slice (some ad811) t807.length co41 : Value).ownBlock) (.slice (some ⟨go40, 0, none⟩) x5_1.length co20) y815 := (by rw [hw, Ny815.out]; exact HP45.1); clear HP45; replace HO_6 := Aside0.mk (Kd.R_after (v := (.slice (some ⟨go40, 0, none⟩) x5_1.length co20)) (v1 := (.slice (some ⟨go40, 0, none⟩) x5_1.length co20)) (ok := (fun k_ => some k_ ≠ (.slice (some ad811) t807.length co41 : Value).ownBlock)) (by (with_reducible repeat (first | apply Kd.R_alloc | apply Kd.R_drewN | apply Kd.R_drew)); exact Kd.R_mono HO_6.out (fun _ hk => ⟨hk.2, hk.1⟩)) hg (.inl rfl)); replace HO_7 := Aside0.mk (Kd.R_after (v := (.slice (some ⟨go40, 0, none⟩) x5_1.length co20)) (v1 := (.slice (some ⟨go40, 0, none⟩) x5_1.length co20)) (ok := (fun k_ => some k_ ≠ (.slice Ao44 t804.length co44 : Value).ownBlock)) (by (with_reducible repeat (first | apply Kd.R_alloc | apply Kd.R_drewN | apply Kd.R_drew)); exact Kd.R_mono HO_7.out (fun _ hk => ⟨hk.2, hk.1⟩)) hg (.inl rfl)); replace BK799 := Aside0.mk (blk_grown (g := gb799) (o := .cells #[.slice (some ad813) l0_0.length c0_0] 38 (0, 0)) (bkq BK799) hg (Kd.R_ne HO_5.out BK799.out (by decide))); replace BK800 := Aside0.mk (blk_grown (g := gb800) (o := .cells #[.int .i64 a1_0, .int .i64 a1_1, .int .i64 a1_2, .int .i64 a1_3, .int .i64 a1_4] 42 (0, 0)) (bkq BK800) hg (Kd.R_ne HO_5.out BK800.out (by decide))); replace HO_5 := Aside0.mk (hp_); replace HB := Aside0.mk ((by rw [hw]; exact below_set (HB.out) GB40.out : Below w.heap.size w w46)); clear hg hw hp_))
          (try simp only [← hl5_1])
          go_roundg k1
          case measure => have := HK1.out; omega
          case rel => exact ⟨(y815), (wrap64 (x8_1 + 1)), (by first | rfl | (simp; done) | (simp [*]; done)), H', ⟨by have := HK1.out; omega⟩, ⟨by (try simp only [hl5_1]); exact Rq HO_5.out⟩, ⟨by (try simp only [hl5_1]); (with_reducible repeat (first | apply Kd.R_alloc | apply Kd.R_drewN | apply Kd.R_drew)); exact Kd.R_mono HO_6.out (fun _ hk => ⟨hk.2, hk.1⟩)⟩, ⟨by (try simp only [hl5_1]); (with_reducible repeat (first | apply Kd.R_alloc | apply Kd.R_drewN | apply Kd.R_drew)); exact Kd.R_mono HO_7.out (fun _ hk => ⟨hk.2, hk.1⟩)⟩, ⟨by (try simp only [hl5_1]); exact bkq BK799⟩, ⟨by (try simp only [hl5_1]); exact bkq BK800⟩, ⟨bwq HB⟩⟩
         ·rw [if_neg c38] at H
          exact absurd H (by simp)
       ·rw [if_neg c31] at H
        exact absurd H (by simp)
      ·replace c30 := Bool.eq_false_iff.mpr c30
       subst c30
       have H1 : (spec_SafeLate.l0 k1 (x5_1.set (x8_1 : Int).toNat false) t804 t807 (wrap64 (x8_1 + 1)) l0_0) = some r := by rw [if_neg (show ¬ (false = true) by decide)] at H; exact H
       clear H
       have H := H1
       clear H1
       obtain ⟨y816, hy816⟩ : ∃ y_ : List Bool, y_ = (x5_1.set (x8_1 : Int).toNat false) := ⟨_, rfl⟩
       replace H : (spec_SafeLate.l0 k1 y816 t804 t807 (wrap64 (x8_1 + 1)) l0_0) = some r := by first | (rw [hy816]; with_reducible exact H) | (have H2_ := (Option.bind_some _ _).symm.trans H; rw [hy816]; with_reducible exact H2_) | (have H2_ := (Option.bind_some _ _).symm.trans H; with_reducible exact H2_) | with_reducible exact H | (rw [hy816]; exact H) | exact H
       have Ny816 := Aside0.mk hy816
       clear hy816
       have H' := Aside0.mk H
       clear H
       have p810 : 0 ≤ (x8_1 : Int) := oda
       have q810 : x8_1 < (x5_1.length : Int) := oda
       obtain ⟨ad810, e810, hx810_0⟩ := Kd.at_bool (Kd.R_reads' HO_5.out).2.2 x8_1 p810 q810
       (try rw [← Nbq29.out] at hx810_0)
       cases e810
       replace p810 := eq_true p810
       replace q810 := eq_true q810
       have p47 : 0 ≤ (x8_1 : Int) := oda
       have q47 : (x8_1 : Int) < ((x5_1.length : Int) : Int) := oda
       obtain ⟨go47, co47, eo47, gb47, gl47, cl47, HG47⟩ := Kd.R_form HO_5.out (by omega)
       (first | cases eo47 | (injection eo47 with ea_ en_ ec_; (first | subst ea_ | (injection ea_ with ea_; subst ea_)); subst ec_; clear en_))
       have GB47 := Aside0.mk gb47
       have GG47 := Aside0.mk HG47
       clear gb47 gl47 HG47
       (first | simp only [add_plain] at hx810_0 | skip)
       obtain ⟨hx47_0, hf47_0⟩ := Kd.R_celln false HO_5.out (x8_1 : Int) p47 q47
       replace p47 := eq_true p47
       replace q47 := eq_true q47
       have HP48 := Kd.R_putg HO_5.out (x8_1 : Int) false
       go_wp2_with (first | ((with_reducible refine gate_store (t := 4) (p := 51) rfl ?_); refine store_event (t := 4) (p := 51) (v := ?vo_w49) (w1 := (wr.setCell ⟨go47, (x8_1 : Int).toNat, none⟩ (.bool false))) ?hg ?ho ?hn ?hr ?_; (case ho => rfl); (case hg => rfl); (case hn => rfl); (case hr => first | (go_simp; done) | (go_simp; rfl) | (go_simp; rfl)); intro w49 hw; have hg : wr.grownBy w49 (some go47) := (by rw [hw]; exact HP48.2); have hp_ : Kd.R Kd.bool 4 w49 w.heap.size (fun k_ => some k_ ≠ (v805 : Value).ownBlock ∧ some k_ ≠ (v808 : Value).ownBlock) (.slice (some ⟨go47, 0, none⟩) x5_1.length co20) y816 := (by rw [hw, Ny816.out]; exact HP48.1); clear HP48; replace HO_6 := Aside0.mk (Kd.R_after (v := (.slice (some ⟨go47, 0, none⟩) x5_1.length co20)) (v1 := (.slice (some ⟨go47, 0, none⟩) x5_1.length co20)) (ok := (fun k_ => some k_ ≠ (v808 : Value).ownBlock)) (by (with_reducible repeat (first | apply Kd.R_alloc | apply Kd.R_drewN | apply Kd.R_drew)); exact Kd.R_mono HO_6.out (fun _ hk => ⟨hk.2, hk.1⟩)) hg (.inl rfl)); replace HO_7 := Aside0.mk (Kd.R_after (v := (.slice (some ⟨go47, 0, none⟩) x5_1.length co20)) (v1 := (.slice (some ⟨go47, 0, none⟩) x5_1.length co20)) (ok := (fun k_ => some k_ ≠ (v805 : Value).ownBlock)) (by (with_reducible repeat (first | apply Kd.R_alloc | apply Kd.R_drewN | apply Kd.R_drew)); exact Kd.R_mono HO_7.out (fun _ hk => ⟨hk.2, hk.1⟩)) hg (.inl rfl)); replace BK799 := Aside0.mk (blk_grown (g := gb799) (o := .cells #[.slice A0_0 l0_0.length c0_0] 38 (0, 0)) (bkq BK799) hg (Kd.R_ne HO_5.out BK799.out (by decide))); replace BK800 := Aside0.mk (blk_grown (g := gb800) (o := .cells #[.int .i64 a1_0, .int .i64 a1_1, .int .i64 a1_2, .int .i64 a1_3, .int .i64 a1_4] 42 (0, 0)) (bkq BK800) hg (Kd.R_ne HO_5.out BK800.out (by decide))); replace HO_5 := Aside0.mk (hp_); replace HB := Aside0.mk ((by rw [hw]; exact below_set (HB.out) GB47.out : Below w.heap.size w w49)); clear hg hw hp_))
       (try simp only [← hl5_1])
       go_roundg k1
       case measure => have := HK1.out; omega
       case rel => exact ⟨(y816), (wrap64 (x8_1 + 1)), (by first | rfl | (simp; done) | (simp [*]; done)), H', ⟨by have := HK1.out; omega⟩, ⟨by (try simp only [hl5_1]); exact Rq HO_5.out⟩, ⟨by (try simp only [hl5_1]); (with_reducible repeat (first | apply Kd.R_alloc | apply Kd.R_drewN | apply Kd.R_drew)); exact Kd.R_mono HO_6.out (fun _ hk => ⟨hk.2, hk.1⟩)⟩, ⟨by (try simp only [hl5_1]); (with_reducible repeat (first | apply Kd.R_alloc | apply Kd.R_drewN | apply Kd.R_drew)); exact Kd.R_mono HO_7.out (fun _ hk => ⟨hk.2, hk.1⟩)⟩, ⟨by (try simp only [hl5_1]); exact bkq BK799⟩, ⟨by (try simp only [hl5_1]); exact bkq BK800⟩, ⟨bwq HB⟩⟩
     ·rw [if_neg c28] at H
      exact absurd H (by simp)
    ·rw [if_neg c27] at H
     have c27b0 : decide (x8_1 < (x5_1.length : Int)) = false := decide_eq_false c27
     clear c27
     obtain rfl := Option.some.inj H
     go_wp2
     go_ret
     exact ⟨_, by first | rfl | (simp [errW_none, errW_some] <;> rfl) | (simp [*, errW_none, errW_some] <;> rfl), by (with_reducible repeat (first | apply Kd.R_alloc | apply Kd.R_drewN | apply Kd.R_drew)); exact Kd.R_mono HO_5.out (fun _ hk => trivial), bwq HB⟩
mutual
def spec_SafeAlone.l0 : Nat → List Bool → List Bool → List Bool → Bool → List (S77) → Option (List Bool)
 | 0, _, _, _, _, _ => none
 | k + 1, x5, x6, x7, x8, x843000 => if x8 = true then (spec_SafeAlone.l1 k x5 x6 x7 false 0 x843000) else (some x6)
def spec_SafeAlone.l1 : Nat → List Bool → List Bool → List Bool → Bool → Int → List (S77) → Option (List Bool)
 | 0, _, _, _, _, _, _ => none
 | k + 1, x5, x6, x7, x8, x9, x843000 => if x9 < (x6.length : Int) then (spec_SafeAlone.l2 k x5 x6 x7 x8 x9 0 x843000) else (spec_SafeAlone.l0 k x5 x6 x7 x8 x843000)
def spec_SafeAlone.l2 : Nat → List Bool → List Bool → List Bool → Bool → Int → Int → List (S77) → Option (List Bool)
 | 0, _, _, _, _, _, _, _ => none
 | k + 1, x5, x6, x7, x8, x9, x10, x843000 => if 0 ≤ x9 then (if x9 < (x843000.length : Int) then (if x10 < (((rd_T77 x843000 x9).f5).length : Int) then (if x9 < (x6.length : Int) then (spec_SafeAlone.j3 k x5 x6 x7 x8 x9 x10 (rdOf false x6 x9) x843000) else (none)) else (spec_SafeAlone.j3 k x5 x6 x7 x8 x9 x10 false x843000)) else (none)) else (none)
def spec_SafeAlone.j3 : Nat → List Bool → List Bool → List Bool → Bool → Int → Int → Bool → List (S77) → Option (List Bool)
 | 0, _, _, _, _, _, _, _, _ => none
 | k + 1, x5, x6, x7, x8, x9, x10, x45, x843000 => if x45 = true then (if 0 ≤ x9 then (if x9 < (x843000.length : Int) then (if 0 ≤ x10 then (if x10 < (((rd_T77 x843000 x9).f5).length : Int) then (if 0 ≤ (rd ((rd_T77 x843000 x9).f5) x10) then (if (rd ((rd_T77 x843000 x9).f5) x10) < (x5.length : Int) then (if (rdOf false x5 (rd ((rd_T77 x843000 x9).f5) x10) = true) then (spec_SafeAlone.l2 k x5 x6 x7 x8 x9 (wrap64 (x10 + 1)) x843000) else (if (rd ((rd_T77 x843000 x9).f5) x10) < (x7.length : Int) then (if rdOf false x7 (rd ((rd_T77 x843000 x9).f5) x10) = true then (if x9 < (x6.length : Int) then (spec_SafeAlone.l2 k x5 (x6.set (x9 : Int).toNat false) x7 true x9 (wrap64 (x10 + 1)) x843000) else (none)) else (if (rd ((rd_T77 x843000 x9).f5) x10) < (x6.length : Int) then (if (rdOf false x6 (rd ((rd_T77 x843000 x9).f5) x10) = true) then (spec_SafeAlone.l2 k x5 x6 x7 x8 x9 (wrap64 (x10 + 1)) x843000) else (if x9 < (x6.length : Int) then (spec_SafeAlone.l2 k x5 (x6.set (x9 : Int).toNat false) x7 true x9 (wrap64 (x10 + 1)) x843000) else (none))) else (none))) else (none))) else (none)) else (none)) else (none)) else (none)) else (none)) else (none)) else (spec_SafeAlone.l1 k x5 x6 x7 x8 (wrap64 (x9 + 1)) x843000)
end
def spec_SafeAlone.f (k : Nat) (l0_0 : List (S77)) (a1_0 : Int) (a1_1 : Int) (a1_2 : Int) (a1_3 : Int) (a1_4 : Int) : Option (List Bool) := (spec_SafeLate.f k l0_0 a1_0 a1_1 a1_2 a1_3 a1_4).bind fun t844 => (if (t844.length : Int) = 0 then (some t844) else ((spec_l12All.f k l0_0).bind fun t847 => ((spec_ExprComp.f k l0_0 a1_0 a1_1 a1_2 a1_3 a1_4).bind fun t850 => (spec_SafeAlone.l0 k t844 t847 t850 true l0_0))))
set_option maxHeartbeats 8000000 in
set_option maxRecDepth 100000 in
theorem spec_SafeAlone.calls (k : Nat) (A0_0 : Option Addr) (c0_0 : Nat) (l0_0 : List (S77)) (a1_0 : Int) (a1_1 : Int) (a1_2 : Int) (a1_3 : Int) (a1_4 : Int) (r : List Bool) (w : World) (hr0_0 : Kd.C k77 w A0_0 l0_0.length l0_0) (hc0_0 : l0_0.length ≤ c0_0) (h : spec_SafeAlone.f k l0_0 a1_0 a1_1 a1_2 a1_3 a1_4 = some r) :
  Calls Try.prog 38 #[.agg #[.slice A0_0 l0_0.length c0_0], .agg #[.int .i64 a1_0, .int .i64 a1_1, .int .i64 a1_2, .int .i64 a1_3, .int .i64 a1_4]] w fun e w' => ∃ v0_ : Value, e = .returned (v0_) ∧ Kd.R Kd.bool 4 w' w.heap.size (fun _ => True) v0_ r ∧ Below w.heap.size w w' := by
 have hu38 := Try.underlying38
 have hu42 := Try.underlying42
 have HR0_0 := Aside0.mk hr0_0
 have HC0_0 := Aside0.mk hc0_0
 clear hr0_0 hc0_0
 have HB := Aside0.mk (Below.refl w.heap.size w)
 have H : ((spec_SafeLate.f k l0_0 a1_0 a1_1 a1_2 a1_3 a1_4).bind fun t844 => (if (t844.length : Int) = 0 then (some t844) else ((spec_l12All.f k l0_0).bind fun t847 => ((spec_ExprComp.f k l0_0 a1_0 a1_1 a1_2 a1_3 a1_4).bind fun t850 => (spec_SafeAlone.l0 k t844 t847 t850 true l0_0))))) = some r := h
 clear h
 replace H := Option.bind_eq_some_iff.mp H
 obtain ⟨t844, A30, H⟩ := H
 have A3 := Aside0.mk A30
 clear A30
 by_cases c4 : (t844.length : Int) = 0
 ·rw [if_pos c4] at H
  have c4b0 : ((t844.length : Int) == 0) = true := beq_iff_eq.mpr c4
  have c4b1 : ((t844.length : Int) != 0) = false := bne_eq_false_iff_eq.mpr c4
  clear c4
  obtain rfl := Option.some.inj H
  go_enter Try.func38, Try.ntmps38
  go_wp2_with (first | ((with_reducible refine gate_dst (N := 2) rfl ?_); refine bxe (cs := #[.slice A0_0 l0_0.length c0_0]) (t := 38) ?_; intro gb842 hg w5 hbox hb; have BK842 := Aside0.mk (hbox); have GW842 := bwz HB hg; have GE842 := bwz HB hg; replace HB := bwb HB hb; clear hb hbox hg) | ((with_reducible refine gate_dst (N := 3) rfl ?_); refine bxe (cs := #[.int .i64 a1_0, .int .i64 a1_1, .int .i64 a1_2, .int .i64 a1_3, .int .i64 a1_4]) (t := 42) ?_; intro gb843 hg w6 hbox hb; have BK843 := Aside0.mk (hbox); have GW843 := bwz HB hg; have GE843 := bwz HB hg; replace HB := bwb HB hb; have NB842_843 := bkl BK842 hg; have NB843_842 := bkg BK842 hg; replace BK842 := bkb BK842 hb; clear hb hbox hg; have hnb7 := NB842_843.out; have hnc7 := NB843_842.out; obtain ⟨hcz8, hfz8⟩ := bcf BK842; obtain ⟨hcz9, hfz9⟩ := bcf BK843) | ((with_reducible refine gate_callee (f := 36) rfl ?_); refine goesM (some 14) rfl rfl Try.func36 #[.agg #[.slice A0_0 l0_0.length c0_0], .agg #[.int .i64 a1_0, .int .i64 a1_1, .int .i64 a1_2, .int .i64 a1_3, .int .i64 a1_4]] rfl ?_; (with_reducible refine (spec_SafeLate.calls k _ _ l0_0 a1_0 a1_1 a1_2 a1_3 a1_4 t844 _ ?side1 ?side2 A3.out).mono ?_); (case side1 => exact Cq (Kd.C_below HR0_0.out HB.out)); (case side2 => exact HC0_0.out); rintro e w10 ⟨v845, rfl, ho0, hb⟩; refine ⟨_, rfl, ?_⟩; have HO846 := Aside0.mk (Kd.R_lower ho0 (below_size (bwq HB))); replace BK842 := bkb BK842 hb; replace BK843 := bkb BK843 hb; replace HB := bwb HB hb; (try clear hb); (try clear hb2); (try clear hk); (try clear hi); (try clear ho0); obtain ⟨Ao11, co11, eo11⟩ := Kd.R_slice HO846.out; subst eo11))
  go_ret
  exact ⟨_, by first | rfl | (simp [errW_none, errW_some] <;> rfl) | (simp [*, errW_none, errW_some] <;> rfl), Rq HO846.out, bwq HB⟩
 ·rw [if_neg c4] at H
  have c4b0 : ((t844.length : Int) == 0) = false := beq_eq_false_iff_ne.mpr c4
  have c4b1 : ((t844.length : Int) != 0) = true := bne_iff_ne.mpr c4
  have c4b2 : ¬ (t844 = []) := fun h_ => c4 (by rw [h_]; rfl)
  replace H := Option.bind_eq_some_iff.mp H
  obtain ⟨t847, A120, H⟩ := H
  have A12 := Aside0.mk A120
  clear A120
  replace H := Option.bind_eq_some_iff.mp H
  obtain ⟨t850, A130, H⟩ := H
  have A13 := Aside0.mk A130
  clear A130
  have H' := Aside0.mk H
  clear H
  go_enter Try.func38, Try.ntmps38
  go_wp2_with (first | ((with_reducible refine gate_dst (N := 2) rfl ?_); refine bxe (cs := #[.slice A0_0 l0_0.length c0_0]) (t := 38) ?_; intro gb842 hg w14 hbox hb; have BK842 := Aside0.mk (hbox); have GW842 := bwz HB hg; have GE842 := bwz HB hg; replace HB := bwb HB hb; clear hb hbox hg) | ((with_reducible refine gate_dst (N := 3) rfl ?_); refine bxe (cs := #[.int .i64 a1_0, .int .i64 a1_1, .int .i64 a1_2, .int .i64 a1_3, .int .i64 a1_4]) (t := 42) ?_; intro gb843 hg w15 hbox hb; have BK843 := Aside0.mk (hbox); have GW843 := bwz HB hg; have GE843 := bwz HB hg; replace HB := bwb HB hb; have NB842_843 := bkl BK842 hg; have NB843_842 := bkg BK842 hg; replace BK842 := bkb BK842 hb; clear hb hbox hg; have hnb16 := NB842_843.out; have hnc16 := NB843_842.out; obtain ⟨hcz17, hfz17⟩ := bcf BK842; obtain ⟨hcz18, hfz18⟩ := bcf BK843) | ((with_reducible refine gate_callee (f := 36) rfl ?_); refine goesM (some 14) rfl rfl Try.func36 #[.agg #[.slice A0_0 l0_0.length c0_0], .agg #[.int .i64 a1_0, .int .i64 a1_1, .int .i64 a1_2, .int .i64 a1_3, .int .i64 a1_4]] rfl ?_; (with_reducible refine (spec_SafeLate.calls k _ _ l0_0 a1_0 a1_1 a1_2 a1_3 a1_4 t844 _ ?side1 ?side2 A3.out).mono ?_); (case side1 => exact Cq (Kd.C_below HR0_0.out HB.out)); (case side2 => exact HC0_0.out); rintro e w19 ⟨v845, rfl, ho0, hb⟩; refine ⟨_, rfl, ?_⟩; have HO846 := Aside0.mk (Kd.R_lower ho0 (below_size (bwq HB))); replace BK842 := bkb BK842 hb; replace BK843 := bkb BK843 hb; replace HB := bwb HB hb; (try clear hb); (try clear hb2); (try clear hk); (try clear hi); (try clear ho0); obtain ⟨Ao20, co20, eo20⟩ := Kd.R_slice HO846.out; subst eo20; obtain ⟨hcz21, hfz21⟩ := bcf BK842) | ((with_reducible refine gate_callee (f := 71) rfl ?_); refine goesM (some 20) rfl rfl Try.func71 #[.agg #[.slice A0_0 l0_0.length c0_0]] rfl ?_; (with_reducible refine (spec_l12All.calls k _ _ l0_0 t847 _ ?side1 ?side2 A12.out).mono ?_); (case side1 => exact Cq (Kd.C_below HR0_0.out HB.out)); (case side2 => exact HC0_0.out); rintro e w22 ⟨v848, rfl, ho0, hb⟩; refine ⟨_, rfl, ?_⟩; have HO849 := Aside0.mk (Kd.R_lower (Kd.R_new' ho0 (Kd.R_lt (Rq HO846.out))) (below_size (bwq HB))); replace HO846 := Aside0.mk (Kd.R_elder' (Rq HO846.out) (Kd.R_base ho0) hb); replace BK842 := bkb BK842 hb; replace BK843 := bkb BK843 hb; replace HB := bwb HB hb; (try clear hb); (try clear hb2); (try clear hk); (try clear hi); (try clear ho0); obtain ⟨hcz23, hfz23⟩ := bcf BK842; obtain ⟨hcz24, hfz24⟩ := bcf BK843) | ((with_reducible refine gate_callee (f := 46) rfl ?_); refine goesM (some 23) rfl rfl Try.func46 #[.agg #[.slice A0_0 l0_0.length c0_0], .agg #[.int .i64 a1_0, .int .i64 a1_1, .int .i64 a1_2, .int .i64 a1_3, .int .i64 a1_4]] rfl ?_; (with_reducible refine (spec_ExprComp.calls k _ _ l0_0 a1_0 a1_1 a1_2 a1_3 a1_4 t850 _ ?side1 ?side2 A13.out).mono ?_); (case side1 => exact Cq (Kd.C_below HR0_0.out HB.out)); (case side2 => exact HC0_0.out); rintro e w25 ⟨v851, rfl, ho0, hb⟩; refine ⟨_, rfl, ?_⟩; have HO852 := Aside0.mk (Kd.R_lower (Kd.R_new' (Kd.R_new' ho0 (Kd.R_lt (Rq HO846.out))) (Kd.R_lt (Rq HO849.out))) (below_size (bwq HB))); replace HO846 := Aside0.mk (Kd.R_elder' (Rq HO846.out) (Kd.R_base ho0) hb); replace HO849 := Aside0.mk (Kd.R_elder' (Rq HO849.out) (Kd.R_base ho0) hb); replace BK842 := bkb BK842 hb; replace BK843 := bkb BK843 hb; replace HB := bwb HB hb; (try clear hb); (try clear hb2); (try clear hk); (try clear hi); (try clear ho0)))
  go_loopg [8] k (fun kq v8 w' => ∃ (x6_1 : List Bool) (x8_1 : Bool), v8 = .bool x8_1 ∧ Aside0 (spec_SafeAlone.l0 kq t844 x6_1 t850 x8_1 l0_0 = some r) ∧ Aside0 (kq ≤ k) ∧ Aside0 (Kd.R Kd.bool 4 w' w.heap.size (fun k_ => some k_ ≠ (v848 : Value).ownBlock ∧ some k_ ≠ (v851 : Value).ownBlock) (.slice Ao20 t844.length co20) t844) ∧ Aside0 (Kd.R Kd.bool 4 w' w.heap.size (fun k_ => some k_ ≠ ((.slice Ao20 t844.length co20) : Value).ownBlock ∧ some k_ ≠ (v851 : Value).ownBlock) v848 x6_1) ∧ Aside0 (Kd.R Kd.bool 4 w' w.heap.size (fun k_ => some k_ ≠ ((.slice Ao20 t844.length co20) : Value).ownBlock ∧ some k_ ≠ (v848 : Value).ownBlock) v851 t850) ∧ Aside0 (w'.heap[gb842]? = some (.cells #[(.slice A0_0 l0_0.length c0_0)] 38 (0, 0))) ∧ Aside0 (w'.heap[gb843]? = some (.cells #[.int .i64 a1_0, .int .i64 a1_1, .int .i64 a1_2, .int .i64 a1_3, .int .i64 a1_4] 42 (0, 0))) ∧ Aside0 (Below w.heap.size w w'))
  case atStart => exact ⟨(t847), (true), (by first | rfl | (simp; done) | (simp [*]; done)), H', ⟨Nat.le_refl _⟩, ⟨by (with_reducible repeat (first | apply Kd.R_alloc | apply Kd.R_drewN | apply Kd.R_drew)); exact Kd.R_mono HO846.out (fun _ hk => ⟨hk.1.2, hk.2⟩)⟩, ⟨by (with_reducible repeat (first | apply Kd.R_alloc | apply Kd.R_drewN | apply Kd.R_drew)); exact Kd.R_mono HO849.out (fun _ hk => ⟨hk.1.2, hk.2⟩)⟩, ⟨by (with_reducible repeat (first | apply Kd.R_alloc | apply Kd.R_drewN | apply Kd.R_drew)); exact Kd.R_mono HO852.out (fun _ hk => ⟨hk.1.2, hk.2⟩)⟩, ⟨bkq BK842⟩, ⟨bkq BK843⟩, ⟨bwq HB⟩⟩
  case round =>
   clear H'
   try clear c1
   try clear p2
   try clear c3
   try clear c4
   try clear c4b0
   try clear c4b1
   try clear c4b2
   try clear c7
   try clear c16
   try clear hcz17
   try clear hcz18
   try clear hcz21
   try clear hcz23
   try clear hcz24
   try clear hcz8
   try clear hcz9
   try clear hfz17
   try clear hfz18
   try clear hfz21
   try clear hfz23
   try clear hfz24
   try clear hfz8
   try clear hfz9
   obtain ⟨x6_1, x8_1, rfl, HA, HK1, HO_5, HO_6, HO_7, BK842, BK843, HB⟩ := hrel
   cases gk with
   | zero => exact absurd HA.out (by intro h_; first | (cases h_; done) | (simp [spec_SafeAlone.l0] at h_))
   | succ k1 =>
    have H := HA.out
    clear HA
    simp only [spec_SafeAlone.l0] at H
    by_cases c26 : x8_1 = true
    ·subst c26
     rw [if_pos rfl] at H
     have H' := Aside0.mk H
     clear H
     go_wp2
     go_loopg [8, 9] k1 (fun kq v8 v9 w' => ∃ (x6_2 : List Bool) (x8_2 : Bool) (x9_2 : Int), v8 = .bool x8_2 ∧ v9 = .int .i64 x9_2 ∧ Aside0 (spec_SafeAlone.l1 kq t844 x6_2 t850 x8_2 x9_2 l0_0 = some r) ∧ Aside0 (kq ≤ k1) ∧ Aside0 (Kd.R Kd.bool 4 w' w.heap.size (fun k_ => some k_ ≠ (v848 : Value).ownBlock ∧ some k_ ≠ (v851 : Value).ownBlock) (.slice Ao20 t844.length co20) t844) ∧ Aside0 (Kd.R Kd.bool 4 w' w.heap.size (fun k_ => some k_ ≠ ((.slice Ao20 t844.length co20) : Value).ownBlock ∧ some k_ ≠ (v851 : Value).ownBlock) v848 x6_2) ∧ Aside0 (Kd.R Kd.bool 4 w' w.heap.size (fun k_ => some k_ ≠ ((.slice Ao20 t844.length co20) : Value).ownBlock ∧ some k_ ≠ (v848 : Value).ownBlock) v851 t850) ∧ Aside0 (w'.heap[gb842]? = some (.cells #[(.slice A0_0 l0_0.length c0_0)] 38 (0, 0))) ∧ Aside0 (w'.heap[gb843]? = some (.cells #[.int .i64 a1_0, .int .i64 a1_1, .int .i64 a1_2, .int .i64 a1_3, .int .i64 a1_4] 42 (0, 0))) ∧ Aside0 (Below w.heap.size w w'))
     case atStart => exact ⟨(x6_1), (false), (0), (by first | rfl | (simp; done) | (simp [*]; done)), (by first | rfl | (simp; done) | (simp [*]; done)), H', ⟨Nat.le_refl _⟩, ⟨Rq HO_5.out⟩, ⟨Rq HO_6.out⟩, ⟨Rq HO_7.out⟩, ⟨bkq BK842⟩, ⟨bkq BK843⟩, ⟨bwq HB⟩⟩
     case round =>
      clear H'
      try clear c1
      try clear c2
      try clear p2
      try clear c3
      try clear c4
      try clear c4b0
      try clear c4b1
      try clear c4b2
      try clear c7
      try clear c16
      try clear c26
      try clear hcz17
      try clear hcz18
      try clear hcz21
      try clear hcz23
      try clear hcz24
      try clear hcz8
      try clear hcz9
      try clear hfz17
      try clear hfz18
      try clear hfz21
      try clear hfz23
      try clear hfz24
      try clear hfz8
      try clear hfz9
      try clear p2
      obtain ⟨x6_2, x8_2, x9_2, rfl, rfl, HA, HK2, HO_5, HO_6, HO_7, BK842, BK843, HB⟩ := hrel
      cases gk with
      | zero => exact absurd HA.out (by intro h_; first | (cases h_; done) | (simp [spec_SafeAlone.l1] at h_))
      | succ k2 =>
       have H := HA.out
       clear HA
       simp only [spec_SafeAlone.l1] at H
       by_cases c27 : x9_2 < (x6_2.length : Int)
       ·rw [if_pos c27] at H
        have c27b0 : decide (x9_2 < (x6_2.length : Int)) = true := decide_eq_true c27
        clear c27
        have H' := Aside0.mk H
        clear H
        obtain ⟨Ao28, co28, eo28⟩ := Kd.R_slice HO_6.out
        subst eo28
        go_wp2
        go_loopg [8, 10] k2 (fun kq v8 v10 w' => ∃ (x6_3 : List Bool) (x8_3 : Bool) (x10_3 : Int), v8 = .bool x8_3 ∧ v10 = .int .i64 x10_3 ∧ Aside0 (spec_SafeAlone.l2 kq t844 x6_3 t850 x8_3 x9_2 x10_3 l0_0 = some r) ∧ Aside0 (kq ≤ k2) ∧ Aside0 (Kd.R Kd.bool 4 w' w.heap.size (fun k_ => some k_ ≠ ((.slice Ao28 x6_2.length co28) : Value).ownBlock ∧ some k_ ≠ (v851 : Value).ownBlock) (.slice Ao20 t844.length co20) t844) ∧ Aside0 (Kd.R Kd.bool 4 w' w.heap.size (fun k_ => some k_ ≠ ((.slice Ao20 t844.length co20) : Value).ownBlock ∧ some k_ ≠ (v851 : Value).ownBlock) (.slice Ao28 x6_2.length co28) x6_3) ∧ Aside0 (Kd.R Kd.bool 4 w' w.heap.size (fun k_ => some k_ ≠ ((.slice Ao20 t844.length co20) : Value).ownBlock ∧ some k_ ≠ ((.slice Ao28 x6_2.length co28) : Value).ownBlock) v851 t850) ∧ Aside0 (w'.heap[gb842]? = some (.cells #[(.slice A0_0 l0_0.length c0_0)] 38 (0, 0))) ∧ Aside0 (w'.heap[gb843]? = some (.cells #[.int .i64 a1_0, .int .i64 a1_1, .int .i64 a1_2, .int .i64 a1_3, .int .i64 a1_4] 42 (0, 0))) ∧ Aside0 (Below w.heap.size w w'))
        case atStart => exact ⟨(x6_2), (x8_2), (0), (by first | rfl | (simp; done) | (simp [*]; done)), (by first | rfl | (simp; done) | (simp [*]; done)), H', ⟨Nat.le_refl _⟩, ⟨Rq HO_5.out⟩, ⟨Rq HO_6.out⟩, ⟨Rq HO_7.out⟩, ⟨bkq BK842⟩, ⟨bkq BK843⟩, ⟨bwq HB⟩⟩
        case round =>
         clear H'
         try clear c1
         try clear c2
         try clear p2
         try clear c3
         try clear c4
         try clear c4b0
         try clear c4b1
         try clear c4b2
         try clear c7
         try clear c16
         try clear c26
         try clear c27
         try clear c27b0
         try clear hcz17
         try clear hcz18
         try clear hcz21
         try clear hcz23
         try clear hcz24
         try clear hcz8
         try clear hcz9
         try clear hfz17
         try clear hfz18
         try clear hfz21
         try clear hfz23
         try clear hfz24
         try clear hfz8
         try clear hfz9
         try clear p2
         obtain ⟨x6_3, x8_3, x10_3, rfl, rfl, HA, HK3, HO_5, HO_6, HO_7, BK842, BK843, HB⟩ := hrel
         have hl6_3 := (Kd.R_reads' HO_6.out).1
         rw [hl6_3] at HO_6
         (try simp only [hl6_3])
         (try simp only [hl6_3] at BK842)
         (try simp only [hl6_3] at BK843)
         (try simp only [hl6_3] at HO_5)
         (try simp only [hl6_3] at HO_7)
         cases gk with
         | zero => exact absurd HA.out (by intro h_; first | (cases h_; done) | (simp [spec_SafeAlone.l2] at h_))
         | succ k3 =>
          have H := HA.out
          clear HA
          simp only [spec_SafeAlone.l2] at H
          have HC29 := Aside0.mk H
          clear H
          go_upto_region 13 with (fail)
          go_cut [45] (fun v45 wc => ∃ (kq : Nat) (x45_28 : Bool), v45 = .bool x45_28 ∧ Aside0 (spec_SafeAlone.j3 kq t844 x6_3 t850 x8_3 x9_2 x10_3 x45_28 l0_0 = some r) ∧ Aside0 (kq ≤ k3) ∧ Aside0 (Kd.R Kd.bool 4 wc w.heap.size (fun k_ => some k_ ≠ ((.slice Ao28 x6_3.length co28) : Value).ownBlock ∧ some k_ ≠ (v851 : Value).ownBlock) (.slice Ao20 t844.length co20) t844) ∧ Aside0 (Kd.R Kd.bool 4 wc w.heap.size (fun k_ => some k_ ≠ ((.slice Ao20 t844.length co20) : Value).ownBlock ∧ some k_ ≠ (v851 : Value).ownBlock) (.slice Ao28 x6_3.length co28) x6_3) ∧ Aside0 (Kd.R Kd.bool 4 wc w.heap.size (fun k_ => some k_ ≠ ((.slice Ao20 t844.length co20) : Value).ownBlock ∧ some k_ ≠ ((.slice Ao28 x6_3.length co28) : Value).ownBlock) v851 t850) ∧ Aside0 (wc.heap[gb842]? = some (.cells #[(.slice A0_0 l0_0.length c0_0)] 38 (0, 0))) ∧ Aside0 (wc.heap[gb843]? = some (.cells #[.int .i64 a1_0, .int .i64 a1_1, .int .i64 a1_2, .int .i64 a1_3, .int .i64 a1_4] 42 (0, 0))) ∧ Aside0 (Below w.heap.size w wc))
          case first =>
           have H := HC29.out
           clear HC29
           by_cases c30 : 0 ≤ x9_2
           ·rw [if_pos c30] at H
            have c30b0 : decide (0 ≤ x9_2) = true := decide_eq_true c30
            clear c30
            (first | rw [c30b0] | (simp only [i64_w, i32_w]; rw [c30b0]) | skip)
            by_cases c31 : x9_2 < (l0_0.length : Int)
            ·rw [if_pos c31] at H
             have c31b0 : decide (x9_2 < (l0_0.length : Int)) = true := decide_eq_true c31
             clear c31
             by_cases c32 : x10_3 < (((rd_T77 l0_0 x9_2).f5).length : Int)
             ·rw [if_pos c32] at H
              have c32b0 : decide (x10_3 < (((rd_T77 l0_0 x9_2).f5).length : Int)) = true := decide_eq_true c32
              clear c32
              by_cases c33 : x9_2 < (x6_3.length : Int)
              ·rw [if_pos c33] at H
               have c33b0 : decide (x9_2 < (x6_3.length : Int)) = true := decide_eq_true c33
               clear c33
               have H' := Aside0.mk H
               clear H
               have hnb34 := NB842_843.out
               have hnc34 := NB843_842.out
               obtain ⟨hcz35, hfz35⟩ := bcf BK842
               have p853 : 0 ≤ (x9_2 : Int) := oda
               have q853 : x9_2 < (l0_0.length : Int) := oda
               obtain ⟨ad853, A853_7, c853_7, e853, hx853_0, hx853_1, hx853_2, hx853_3, hx853_4, hx853_5, hx853_6, hx853_7, hl853_7, hi853_7⟩ := at_T77 HR0_0.out x9_2 p853 q853
               cases e853
               replace hx853_0 := hxb HB hx853_0
               replace hx853_1 := hxb HB hx853_1
               replace hx853_2 := hxb HB hx853_2
               replace hx853_3 := hxb HB hx853_3
               replace hx853_4 := hxb HB hx853_4
               replace hx853_5 := hxb HB hx853_5
               replace hx853_6 := hxb HB hx853_6
               replace hx853_7 := hxb HB hx853_7
               have HR853_7 := Aside0.mk hi853_7
               have HC853_7 := Aside0.mk hl853_7
               clear hi853_7 hl853_7
               replace p853 := eq_true p853
               replace q853 := eq_true q853
               have p854 : 0 ≤ (x9_2 : Int) := oda
               have q854 : x9_2 < (x6_3.length : Int) := oda
               obtain ⟨ad854, e854, hx854_0⟩ := Kd.at_bool (Kd.R_reads' HO_6.out).2.2 x9_2 p854 q854
               cases e854
               replace p854 := eq_true p854
               replace q854 := eq_true q854
               go_wp2
               go_meet
               case rel => exact ⟨_, (rdOf false x6_3 x9_2), (by first | rfl | (simp; done) | (simp [*]; done)), H', ⟨by have := HK1.out; have := HK2.out; have := HK3.out; first | omega | exact Nat.le_refl _⟩, ⟨by (try simp only [hl6_3]); exact Rq HO_5.out⟩, ⟨by (try simp only [hl6_3]); exact Rq HO_6.out⟩, ⟨by (try simp only [hl6_3]); exact Rq HO_7.out⟩, ⟨by (try simp only [hl6_3]); exact bkq BK842⟩, ⟨by (try simp only [hl6_3]); exact bkq BK843⟩, ⟨bwq HB⟩⟩
              ·rw [if_neg c33] at H
               exact absurd H (by simp)
             ·rw [if_neg c32] at H
              have c32b0 : decide (x10_3 < (((rd_T77 l0_0 x9_2).f5).length : Int)) = false := decide_eq_false c32
              clear c32
              have H' := Aside0.mk H
              clear H
              have hnb36 := NB842_843.out
              have hnc36 := NB843_842.out
              obtain ⟨hcz37, hfz37⟩ := bcf BK842
              have p853 : 0 ≤ (x9_2 : Int) := oda
              have q853 : x9_2 < (l0_0.length : Int) := oda
              obtain ⟨ad853, A853_7, c853_7, e853, hx853_0, hx853_1, hx853_2, hx853_3, hx853_4, hx853_5, hx853_6, hx853_7, hl853_7, hi853_7⟩ := at_T77 HR0_0.out x9_2 p853 q853
              cases e853
              replace hx853_0 := hxb HB hx853_0
              replace hx853_1 := hxb HB hx853_1
              replace hx853_2 := hxb HB hx853_2
              replace hx853_3 := hxb HB hx853_3
              replace hx853_4 := hxb HB hx853_4
              replace hx853_5 := hxb HB hx853_5
              replace hx853_6 := hxb HB hx853_6
              replace hx853_7 := hxb HB hx853_7
              have HR853_7 := Aside0.mk hi853_7
              have HC853_7 := Aside0.mk hl853_7
              clear hi853_7 hl853_7
              replace p853 := eq_true p853
              replace q853 := eq_true q853
              go_wp2
              go_meet
              case rel => exact ⟨_, (false), (by first | rfl | (simp; done) | (simp [*]; done)), H', ⟨by have := HK1.out; have := HK2.out; have := HK3.out; first | omega | exact Nat.le_refl _⟩, ⟨by (try simp only [hl6_3]); exact Rq HO_5.out⟩, ⟨by (try simp only [hl6_3]); exact Rq HO_6.out⟩, ⟨by (try simp only [hl6_3]); exact Rq HO_7.out⟩, ⟨by (try simp only [hl6_3]); exact bkq BK842⟩, ⟨by (try simp only [hl6_3]); exact bkq BK843⟩, ⟨bwq HB⟩⟩
            ·rw [if_neg c31] at H
             exact absurd H (by simp)
           ·rw [if_neg c30] at H
            exact absurd H (by simp)
          case rest =>
           clear HC29
           try clear c1
           try clear c2
           try clear p2
           try clear c3
           try clear c4
           try clear c4b0
           try clear c4b1
           try clear c4b2
           try clear c7
           try clear c8
           try clear p8
           try clear q8
           try clear hx8
           try clear c16
           try clear c26
           try clear c27
           try clear c27b0
           try clear c30
           try clear c30b0
           try clear c31
           try clear c31b0
           try clear c32
           try clear c32b0
           try clear c33
           try clear c33b0
           try clear c34
           try clear c36
           try clear hcz17
           try clear hcz18
           try clear hcz21
           try clear hcz23
           try clear hcz24
           try clear hcz35
           try clear hcz37
           try clear hcz8
           try clear hcz9
           try clear hfz17
           try clear hfz18
           try clear hfz21
           try clear hfz23
           try clear hfz24
           try clear hfz35
           try clear hfz37
           try clear hfz8
           try clear hfz9
           try clear hx853_0
           try clear hx853_1
           try clear hx853_2
           try clear hx853_3
           try clear hx853_4
           try clear hx853_5
           try clear hx853_6
           try clear hx853_7
           try clear hx854_0
           try clear p2
           try clear p853
           try clear p854
           try clear q853
           try clear q854
           obtain ⟨kq, x45_28, rfl, HA, HJ28, HO_5, HO_6, HO_7, BK842, BK843, HB⟩ := hcut
           cases kq with
           | zero => exact absurd HA.out (by intro h_; first | (cases h_; done) | (simp [spec_SafeAlone.j3] at h_))
           | succ kj28 =>
            have H := HA.out
            clear HA
            simp only [spec_SafeAlone.j3] at H
            by_cases c38 : x45_28 = true
            ·subst c38
             rw [if_pos rfl] at H
             by_cases c39 : 0 ≤ x9_2
             ·rw [if_pos c39] at H
              have c39b0 : decide (0 ≤ x9_2) = true := decide_eq_true c39
              clear c39
              by_cases c40 : x9_2 < (l0_0.length : Int)
              ·rw [if_pos c40] at H
               have c40b0 : decide (x9_2 < (l0_0.length : Int)) = true := decide_eq_true c40
               clear c40
               by_cases c41 : 0 ≤ x10_3
               ·rw [if_pos c41] at H
                have c41b0 : decide (0 ≤ x10_3) = true := decide_eq_true c41
                clear c41
                by_cases c42 : x10_3 < (((rd_T77 l0_0 x9_2).f5).length : Int)
                ·rw [if_pos c42] at H
                 have c42b0 : decide (x10_3 < (((rd_T77 l0_0 x9_2).f5).length : Int)) = true := decide_eq_true c42
                 clear c42
                 by_cases c43 : 0 ≤ (rd ((rd_T77 l0_0 x9_2).f5) x10_3)
                 ·rw [if_pos c43] at H
                  have c43b0 : decide (0 ≤ (rd ((rd_T77 l0_0 x9_2).f5) x10_3)) = true := decide_eq_true c43
                  clear c43
                  by_cases c44 : (rd ((rd_T77 l0_0 x9_2).f5) x10_3) < (t844.length : Int)
                  ·rw [if_pos c44] at H
                   have c44b0 : decide ((rd ((rd_T77 l0_0 x9_2).f5) x10_3) < (t844.length : Int)) = true := decide_eq_true c44
                   clear c44
                   obtain ⟨bq45, hbq45⟩ : ∃ b_ : Bool, b_ = (rdOf false t844 (rd ((rd_T77 l0_0 x9_2).f5) x10_3)) := ⟨_, rfl⟩
                   replace H : (if (bq45 = true) then (spec_SafeAlone.l2 kj28 t844 x6_3 t850 x8_3 x9_2 (wrap64 (x10_3 + 1)) l0_0) else (if (rd ((rd_T77 l0_0 x9_2).f5) x10_3) < (t850.length : Int) then (if rdOf false t850 (rd ((rd_T77 l0_0 x9_2).f5) x10_3) = true then (if x9_2 < (x6_3.length : Int) then (spec_SafeAlone.l2 kj28 t844 (x6_3.set (x9_2 : Int).toNat false) t850 true x9_2 (wrap64 (x10_3 + 1)) l0_0) else (none)) else (if (rd ((rd_T77 l0_0 x9_2).f5) x10_3) < (x6_3.length : Int) then (if (rdOf false x6_3 (rd ((rd_T77 l0_0 x9_2).f5) x10_3) = true) then (spec_SafeAlone.l2 kj28 t844 x6_3 t850 x8_3 x9_2 (wrap64 (x10_3 + 1)) l0_0) else (if x9_2 < (x6_3.length : Int) then (spec_SafeAlone.l2 kj28 t844 (x6_3.set (x9_2 : Int).toNat false) t850 true x9_2 (wrap64 (x10_3 + 1)) l0_0) else (none))) else (none))) else (none))) = some r := by rw [← hbq45] at H; exact H
                   have Nbq45 := Aside0.mk hbq45
                   clear hbq45
                   by_cases c46 : (bq45 = true)
                   ·subst c46
                    rw [if_pos rfl] at H
                    have H' := Aside0.mk H
                    clear H
                    have hnb47 := NB842_843.out
                    have hnc47 := NB843_842.out
                    obtain ⟨hcz48, hfz48⟩ := bcf BK842
                    have p855 : 0 ≤ (x9_2 : Int) := oda
                    have q855 : x9_2 < (l0_0.length : Int) := oda
                    obtain ⟨ad855, A855_7, c855_7, e855, hx855_0, hx855_1, hx855_2, hx855_3, hx855_4, hx855_5, hx855_6, hx855_7, hl855_7, hi855_7⟩ := at_T77 HR0_0.out x9_2 p855 q855
                    cases e855
                    replace hx855_0 := hxb HB hx855_0
                    replace hx855_1 := hxb HB hx855_1
                    replace hx855_2 := hxb HB hx855_2
                    replace hx855_3 := hxb HB hx855_3
                    replace hx855_4 := hxb HB hx855_4
                    replace hx855_5 := hxb HB hx855_5
                    replace hx855_6 := hxb HB hx855_6
                    replace hx855_7 := hxb HB hx855_7
                    have HR855_7 := Aside0.mk hi855_7
                    have HC855_7 := Aside0.mk hl855_7
                    clear hi855_7 hl855_7
                    replace p855 := eq_true p855
                    replace q855 := eq_true q855
                    have p856 : 0 ≤ (x10_3 : Int) := oda
                    have q856 : x10_3 < (((rd_T77 l0_0 x9_2).f5).length : Int) := oda
                    obtain ⟨ad856, e856, hx856_0⟩ := Kd.at_int HR855_7.out x10_3 p856 q856
                    cases e856
                    replace hx856_0 := hxb HB hx856_0
                    replace p856 := eq_true p856
                    replace q856 := eq_true q856
                    have p857 : 0 ≤ ((rd ((rd_T77 l0_0 x9_2).f5) x10_3) : Int) := oda
                    have q857 : (rd ((rd_T77 l0_0 x9_2).f5) x10_3) < (t844.length : Int) := oda
                    obtain ⟨ad857, e857, hx857_0⟩ := Kd.at_bool (Kd.R_reads' HO_5.out).2.2 (rd ((rd_T77 l0_0 x9_2).f5) x10_3) p857 q857
                    (try rw [← Nbq45.out] at hx857_0)
                    cases e857
                    replace p857 := eq_true p857
                    replace q857 := eq_true q857
                    go_wp2
                    (try simp only [← hl6_3])
                    go_roundg kj28
                    case measure => have := HK1.out; have := HK2.out; have := HK3.out; have := HJ28.out; omega
                    case rel => exact ⟨(x6_3), (x8_3), (wrap64 (x10_3 + 1)), (by first | rfl | (simp; done) | (simp [*]; done)), (by first | rfl | (simp; done) | (simp [*]; done)), H', ⟨by have := HK1.out; have := HK2.out; have := HK3.out; have := HJ28.out; omega⟩, ⟨by (try simp only [hl6_3]); exact Rq HO_5.out⟩, ⟨by (try simp only [hl6_3]); exact Rq HO_6.out⟩, ⟨by (try simp only [hl6_3]); exact Rq HO_7.out⟩, ⟨by (try simp only [hl6_3]); exact bkq BK842⟩, ⟨by (try simp only [hl6_3]); exact bkq BK843⟩, ⟨bwq HB⟩⟩
                   ·replace c46 := Bool.eq_false_iff.mpr c46
                    subst c46
                    have H1 : (if (rd ((rd_T77 l0_0 x9_2).f5) x10_3) < (t850.length : Int) then (if rdOf false t850 (rd ((rd_T77 l0_0 x9_2).f5) x10_3) = true then (if x9_2 < (x6_3.length : Int) then (spec_SafeAlone.l2 kj28 t844 (x6_3.set (x9_2 : Int).toNat false) t850 true x9_2 (wrap64 (x10_3 + 1)) l0_0) else (none)) else (if (rd ((rd_T77 l0_0 x9_2).f5) x10_3) < (x6_3.length : Int) then (if (rdOf false x6_3 (rd ((rd_T77 l0_0 x9_2).f5) x10_3) = true) then (spec_SafeAlone.l2 kj28 t844 x6_3 t850 x8_3 x9_2 (wrap64 (x10_3 + 1)) l0_0) else (if x9_2 < (x6_3.length : Int) then (spec_SafeAlone.l2 kj28 t844 (x6_3.set (x9_2 : Int).toNat false) t850 true x9_2 (wrap64 (x10_3 + 1)) l0_0) else (none))) else (none))) else (none)) = some r := by rw [if_neg (show ¬ (false = true) by decide)] at H; exact H
                    clear H
                    have H := H1
                    clear H1
                    by_cases c49 : (rd ((rd_T77 l0_0 x9_2).f5) x10_3) < (t850.length : Int)
                    ·rw [if_pos c49] at H
                     have c49b0 : decide ((rd ((rd_T77 l0_0 x9_2).f5) x10_3) < (t850.length : Int)) = true := decide_eq_true c49
                     clear c49
                     obtain ⟨bq50, hbq50⟩ : ∃ b_ : Bool, b_ = (rdOf false t850 (rd ((rd_T77 l0_0 x9_2).f5) x10_3)) := ⟨_, rfl⟩
                     replace H : (if bq50 = true then (if x9_2 < (x6_3.length : Int) then (spec_SafeAlone.l2 kj28 t844 (x6_3.set (x9_2 : Int).toNat false) t850 true x9_2 (wrap64 (x10_3 + 1)) l0_0) else (none)) else (if (rd ((rd_T77 l0_0 x9_2).f5) x10_3) < (x6_3.length : Int) then (if (rdOf false x6_3 (rd ((rd_T77 l0_0 x9_2).f5) x10_3) = true) then (spec_SafeAlone.l2 kj28 t844 x6_3 t850 x8_3 x9_2 (wrap64 (x10_3 + 1)) l0_0) else (if x9_2 < (x6_3.length : Int) then (spec_SafeAlone.l2 kj28 t844 (x6_3.set (x9_2 : Int).toNat false) t850 true x9_2 (wrap64 (x10_3 + 1)) l0_0) else (none))) else (none))) = some r := by rw [← hbq50] at H; exact H
                     have Nbq50 := Aside0.mk hbq50
                     clear hbq50
                     by_cases c51 : bq50 = true
                     ·subst c51
                      rw [if_pos rfl] at H
                      by_cases c52 : x9_2 < (x6_3.length : Int)
                      ·rw [if_pos c52] at H
                       have c52b0 : decide (x9_2 < (x6_3.length : Int)) = true := decide_eq_true c52
                       clear c52
                       obtain ⟨y859, hy859⟩ : ∃ y_ : List Bool, y_ = (x6_3.set (x9_2 : Int).toNat false) := ⟨_, rfl⟩
                       replace H : (spec_SafeAlone.l2 kj28 t844 y859 t850 true x9_2 (wrap64 (x10_3 + 1)) l0_0) = some r := by first | (rw [hy859]; with_reducible exact H) | (have H2_ := (Option.bind_some _ _).symm.trans H; rw [hy859]; with_reducible exact H2_) | (have H2_ := (Option.bind_some _ _).symm.trans H; with_reducible exact H2_) | with_reducible exact H | (rw [hy859]; exact H) | exact H
                       have Ny859 := Aside0.mk hy859
                       clear hy859
                       have H' := Aside0.mk H
                       clear H
                       have hnb54 := NB842_843.out
                       have hnc54 := NB843_842.out
                       obtain ⟨hcz55, hfz55⟩ := bcf BK842
                       have p855 : 0 ≤ (x9_2 : Int) := oda
                       have q855 : x9_2 < (l0_0.length : Int) := oda
                       obtain ⟨ad855, A855_7, c855_7, e855, hx855_0, hx855_1, hx855_2, hx855_3, hx855_4, hx855_5, hx855_6, hx855_7, hl855_7, hi855_7⟩ := at_T77 HR0_0.out x9_2 p855 q855
                       cases e855
                       replace hx855_0 := hxb HB hx855_0
                       replace hx855_1 := hxb HB hx855_1
                       replace hx855_2 := hxb HB hx855_2
                       replace hx855_3 := hxb HB hx855_3
                       replace hx855_4 := hxb HB hx855_4
                       replace hx855_5 := hxb HB hx855_5
                       replace hx855_6 := hxb HB hx855_6
                       replace hx855_7 := hxb HB hx855_7
                       have HR855_7 := Aside0.mk hi855_7
                       have HC855_7 := Aside0.mk hl855_7
                       clear hi855_7 hl855_7
                       replace p855 := eq_true p855
                       replace q855 := eq_true q855
                       have p856 : 0 ≤ (x10_3 : Int) := oda
                       have q856 : x10_3 < (((rd_T77 l0_0 x9_2).f5).length : Int) := oda
                       obtain ⟨ad856, e856, hx856_0⟩ := Kd.at_int HR855_7.out x10_3 p856 q856
                       cases e856
                       replace hx856_0 := hxb HB hx856_0
                       replace p856 := eq_true p856
                       replace q856 := eq_true q856
                       have p857 : 0 ≤ ((rd ((rd_T77 l0_0 x9_2).f5) x10_3) : Int) := oda
                       have q857 : (rd ((rd_T77 l0_0 x9_2).f5) x10_3) < (t844.length : Int) := oda
                       obtain ⟨ad857, e857, hx857_0⟩ := Kd.at_bool (Kd.R_reads' HO_5.out).2.2 (rd ((rd_T77 l0_0 x9_2).f5) x10_3) p857 q857
                       (try rw [← Nbq45.out] at hx857_0)
                       (try rw [← Nbq50.out] at hx857_0)
                       cases e857
                       replace p857 := eq_true p857
                       replace q857 := eq_true q857
                       obtain ⟨Ao56, co56, eo56⟩ := Kd.R_slice HO_7.out
                       subst eo56
                       have p858 : 0 ≤ ((rd ((rd_T77 l0_0 x9_2).f5) x10_3) : Int) := oda
                       have q858 : (rd ((rd_T77 l0_0 x9_2).f5) x10_3) < (t850.length : Int) := oda
                       obtain ⟨ad858, e858, hx858_0⟩ := Kd.at_bool (Kd.R_reads' HO_7.out).2.2 (rd ((rd_T77 l0_0 x9_2).f5) x10_3) p858 q858
                       (try rw [← Nbq45.out] at hx858_0)
                       (try rw [← Nbq50.out] at hx858_0)
                       cases e858
                       replace p858 := eq_true p858
                       replace q858 := eq_true q858
                       have p53 : 0 ≤ (x9_2 : Int) := oda
                       have q53 : (x9_2 : Int) < ((x6_3.length : Int) : Int) := oda
                       obtain ⟨go53, co53, eo53, gb53, gl53, cl53, HG53⟩ := Kd.R_form HO_6.out (by omega)
                       (first | cases eo53 | (injection eo53 with ea_ en_ ec_; (first | subst ea_ | (injection ea_ with ea_; subst ea_)); subst ec_; clear en_))
                       have GB53 := Aside0.mk gb53
                       have GG53 := Aside0.mk HG53
                       clear gb53 gl53 HG53
                       obtain ⟨hx53_0, hf53_0⟩ := Kd.R_celln false HO_6.out (x9_2 : Int) p53 q53
                       replace p53 := eq_true p53
                       replace q53 := eq_true q53
                       have HP57 := Kd.R_putg HO_6.out (x9_2 : Int) false
                       go_wp2_with (first | ((with_reducible refine gate_store (t := 4) (p := 77) rfl ?_); refine store_event (t := 4) (p := 77) (v := ?vo_w58) (w1 := (wc.setCell ⟨go53, (x9_2 : Int).toNat, none⟩ (.bool false))) ?hg ?ho ?hn ?hr ?_; (case ho => rfl); (case hg => rfl); (case hn => rfl); (case hr => first | (go_simp; done) | (go_simp; rfl) | (go_simp; rfl)); intro w58 hw; have hg : wc.grownBy w58 (some go53) := (by rw [hw]; exact HP57.2); have hp_ : Kd.R Kd.bool 4 w58 w.heap.size (fun k_ => some k_ ≠ (.slice (some ad857) t844.length co20 : Value).ownBlock ∧ some k_ ≠ (.slice (some ad858) t850.length co56 : Value).ownBlock) (.slice (some ⟨go53, 0, none⟩) x6_3.length co28) y859 := (by rw [hw, Ny859.out]; exact HP57.1); clear HP57; replace HO_5 := Aside0.mk (Kd.R_after (v := (.slice (some ⟨go53, 0, none⟩) x6_3.length co28)) (v1 := (.slice (some ⟨go53, 0, none⟩) x6_3.length co28)) (ok := (fun k_ => some k_ ≠ (.slice (some ad858) t850.length co56 : Value).ownBlock)) (by (with_reducible repeat (first | apply Kd.R_alloc | apply Kd.R_drewN | apply Kd.R_drew)); exact Kd.R_mono HO_5.out (fun _ hk => ⟨hk.2, hk.1⟩)) hg (.inl rfl)); replace HO_7 := Aside0.mk (Kd.R_after (v := (.slice (some ⟨go53, 0, none⟩) x6_3.length co28)) (v1 := (.slice (some ⟨go53, 0, none⟩) x6_3.length co28)) (ok := (fun k_ => some k_ ≠ (.slice (some ad857) t844.length co20 : Value).ownBlock)) (Rq HO_7.out) hg (.inl rfl)); replace BK842 := Aside0.mk (blk_grown (g := gb842) (o := .cells #[.slice (some ad855) l0_0.length c0_0] 38 (0, 0)) (bkq BK842) hg (Kd.R_ne HO_6.out BK842.out (by decide))); replace BK843 := Aside0.mk (blk_grown (g := gb843) (o := .cells #[.int .i64 a1_0, .int .i64 a1_1, .int .i64 a1_2, .int .i64 a1_3, .int .i64 a1_4] 42 (0, 0)) (bkq BK843) hg (Kd.R_ne HO_6.out BK843.out (by decide))); replace HO_6 := Aside0.mk (hp_); replace HB := Aside0.mk ((by rw [hw]; exact below_set (HB.out) GB53.out : Below w.heap.size w w58)); clear hg hw hp_))
                       (try simp only [← hl6_3])
                       go_roundg kj28
                       case measure => have := HK1.out; have := HK2.out; have := HK3.out; have := HJ28.out; omega
                       case rel => exact ⟨(y859), (true), (wrap64 (x10_3 + 1)), (by first | rfl | (simp; done) | (simp [*]; done)), (by first | rfl | (simp; done) | (simp [*]; done)), H', ⟨by have := HK1.out; have := HK2.out; have := HK3.out; have := HJ28.out; omega⟩, ⟨by (try simp only [hl6_3]); (with_reducible repeat (first | apply Kd.R_alloc | apply Kd.R_drewN | apply Kd.R_drew)); exact Kd.R_mono HO_5.out (fun _ hk => ⟨hk.2, hk.1⟩)⟩, ⟨by (try simp only [hl6_3]); exact Rq HO_6.out⟩, ⟨by (try simp only [hl6_3]); exact Rq HO_7.out⟩, ⟨by (try simp only [hl6_3]); exact bkq BK842⟩, ⟨by (try simp only [hl6_3]); exact bkq BK843⟩, ⟨bwq HB⟩⟩
                      ·rw [if_neg c52] at H
                       exact absurd H (by simp)
                     ·replace c51 := Bool.eq_false_iff.mpr c51
                      subst c51
                      have H1 : (if (rd ((rd_T77 l0_0 x9_2).f5) x10_3) < (x6_3.length : Int) then (if (rdOf false x6_3 (rd ((rd_T77 l0_0 x9_2).f5) x10_3) = true) then (spec_SafeAlone.l2 kj28 t844 x6_3 t850 x8_3 x9_2 (wrap64 (x10_3 + 1)) l0_0) else (if x9_2 < (x6_3.length : Int) then (spec_SafeAlone.l2 kj28 t844 (x6_3.set (x9_2 : Int).toNat false) t850 true x9_2 (wrap64 (x10_3 + 1)) l0_0) else (none))) else (none)) = some r := by rw [if_neg (show ¬ (false = true) by decide)] at H; exact H
                      clear H
                      have H := H1
                      clear H1
                      by_cases c59 : (rd ((rd_T77 l0_0 x9_2).f5) x10_3) < (x6_3.length : Int)
                      ·rw [if_pos c59] at H
                       have c59b0 : decide ((rd ((rd_T77 l0_0 x9_2).f5) x10_3) < (x6_3.length : Int)) = true := decide_eq_true c59
                       clear c59
                       obtain ⟨bq60, hbq60⟩ : ∃ b_ : Bool, b_ = (rdOf false x6_3 (rd ((rd_T77 l0_0 x9_2).f5) x10_3)) := ⟨_, rfl⟩
                       replace H : (if (bq60 = true) then (spec_SafeAlone.l2 kj28 t844 x6_3 t850 x8_3 x9_2 (wrap64 (x10_3 + 1)) l0_0) else (if x9_2 < (x6_3.length : Int) then (spec_SafeAlone.l2 kj28 t844 (x6_3.set (x9_2 : Int).toNat false) t850 true x9_2 (wrap64 (x10_3 + 1)) l0_0) else (none))) = some r := by rw [← hbq60] at H; exact H
                       have Nbq60 := Aside0.mk hbq60
                       clear hbq60
                       by_cases c61 : (bq60 = true)
                       ·subst c61
                        rw [if_pos rfl] at H
                        have H' := Aside0.mk H
                        clear H
                        have hnb62 := NB842_843.out
                        have hnc62 := NB843_842.out
                        obtain ⟨hcz63, hfz63⟩ := bcf BK842
                        have p855 : 0 ≤ (x9_2 : Int) := oda
                        have q855 : x9_2 < (l0_0.length : Int) := oda
                        obtain ⟨ad855, A855_7, c855_7, e855, hx855_0, hx855_1, hx855_2, hx855_3, hx855_4, hx855_5, hx855_6, hx855_7, hl855_7, hi855_7⟩ := at_T77 HR0_0.out x9_2 p855 q855
                        cases e855
                        replace hx855_0 := hxb HB hx855_0
                        replace hx855_1 := hxb HB hx855_1
                        replace hx855_2 := hxb HB hx855_2
                        replace hx855_3 := hxb HB hx855_3
                        replace hx855_4 := hxb HB hx855_4
                        replace hx855_5 := hxb HB hx855_5
                        replace hx855_6 := hxb HB hx855_6
                        replace hx855_7 := hxb HB hx855_7
                        have HR855_7 := Aside0.mk hi855_7
                        have HC855_7 := Aside0.mk hl855_7
                        clear hi855_7 hl855_7
                        replace p855 := eq_true p855
                        replace q855 := eq_true q855
                        have p856 : 0 ≤ (x10_3 : Int) := oda
                        have q856 : x10_3 < (((rd_T77 l0_0 x9_2).f5).length : Int) := oda
                        obtain ⟨ad856, e856, hx856_0⟩ := Kd.at_int HR855_7.out x10_3 p856 q856
                        cases e856
                        replace hx856_0 := hxb HB hx856_0
                        replace p856 := eq_true p856
                        replace q856 := eq_true q856
                        have p857 : 0 ≤ ((rd ((rd_T77 l0_0 x9_2).f5) x10_3) : Int) := oda
                        have q857 : (rd ((rd_T77 l0_0 x9_2).f5) x10_3) < (t844.length : Int) := oda
                        obtain ⟨ad857, e857, hx857_0⟩ := Kd.at_bool (Kd.R_reads' HO_5.out).2.2 (rd ((rd_T77 l0_0 x9_2).f5) x10_3) p857 q857
                        (try rw [← Nbq45.out] at hx857_0)
                        (try rw [← Nbq50.out] at hx857_0)
                        (try rw [← Nbq60.out] at hx857_0)
                        cases e857
                        replace p857 := eq_true p857
                        replace q857 := eq_true q857
                        obtain ⟨Ao64, co64, eo64⟩ := Kd.R_slice HO_7.out
                        subst eo64
                        have p858 : 0 ≤ ((rd ((rd_T77 l0_0 x9_2).f5) x10_3) : Int) := oda
                        have q858 : (rd ((rd_T77 l0_0 x9_2).f5) x10_3) < (t850.length : Int) := oda
                        obtain ⟨ad858, e858, hx858_0⟩ := Kd.at_bool (Kd.R_reads' HO_7.out).2.2 (rd ((rd_T77 l0_0 x9_2).f5) x10_3) p858 q858
                        (try rw [← Nbq45.out] at hx858_0)
                        (try rw [← Nbq50.out] at hx858_0)
                        (try rw [← Nbq60.out] at hx858_0)
                        cases e858
                        replace p858 := eq_true p858
                        replace q858 := eq_true q858
                        have p860 : 0 ≤ ((rd ((rd_T77 l0_0 x9_2).f5) x10_3) : Int) := oda
                        have q860 : (rd ((rd_T77 l0_0 x9_2).f5) x10_3) < (x6_3.length : Int) := oda
                        obtain ⟨ad860, e860, hx860_0⟩ := Kd.at_bool (Kd.R_reads' HO_6.out).2.2 (rd ((rd_T77 l0_0 x9_2).f5) x10_3) p860 q860
                        (try rw [← Nbq45.out] at hx860_0)
                        (try rw [← Nbq50.out] at hx860_0)
                        (try rw [← Nbq60.out] at hx860_0)
                        cases e860
                        replace p860 := eq_true p860
                        replace q860 := eq_true q860
                        go_wp2
                        (try simp only [← hl6_3])
                        go_roundg kj28
                        case measure => have := HK1.out; have := HK2.out; have := HK3.out; have := HJ28.out; omega
                        case rel => exact ⟨(x6_3), (x8_3), (wrap64 (x10_3 + 1)), (by first | rfl | (simp; done) | (simp [*]; done)), (by first | rfl | (simp; done) | (simp [*]; done)), H', ⟨by have := HK1.out; have := HK2.out; have := HK3.out; have := HJ28.out; omega⟩, ⟨by (try simp only [hl6_3]); exact Rq HO_5.out⟩, ⟨by (try simp only [hl6_3]); exact Rq HO_6.out⟩, ⟨by (try simp only [hl6_3]); exact Rq HO_7.out⟩, ⟨by (try simp only [hl6_3]); exact bkq BK842⟩, ⟨by (try simp only [hl6_3]); exact bkq BK843⟩, ⟨bwq HB⟩⟩
                       ·replace c61 := Bool.eq_false_iff.mpr c61
                        subst c61
                        have H1 : (if x9_2 < (x6_3.length : Int) then (spec_SafeAlone.l2 kj28 t844 (x6_3.set (x9_2 : Int).toNat false) t850 true x9_2 (wrap64 (x10_3 + 1)) l0_0) else (none)) = some r := by rw [if_neg (show ¬ (false = true) by decide)] at H; exact H
                        clear H
                        have H := H1
                        clear H1
                        by_cases c65 : x9_2 < (x6_3.length : Int)
                        ·rw [if_pos c65] at H
                         have c65b0 : decide (x9_2 < (x6_3.length : Int)) = true := decide_eq_true c65
                         clear c65
                         obtain ⟨y861, hy861⟩ : ∃ y_ : List Bool, y_ = (x6_3.set (x9_2 : Int).toNat false) := ⟨_, rfl⟩
                         replace H : (spec_SafeAlone.l2 kj28 t844 y861 t850 true x9_2 (wrap64 (x10_3 + 1)) l0_0) = some r := by first | (rw [hy861]; with_reducible exact H) | (have H2_ := (Option.bind_some _ _).symm.trans H; rw [hy861]; with_reducible exact H2_) | (have H2_ := (Option.bind_some _ _).symm.trans H; with_reducible exact H2_) | with_reducible exact H | (rw [hy861]; exact H) | exact H
                         have Ny861 := Aside0.mk hy861
                         clear hy861
                         have H' := Aside0.mk H
                         clear H
                         have hnb67 := NB842_843.out
                         have hnc67 := NB843_842.out
                         obtain ⟨hcz68, hfz68⟩ := bcf BK842
                         have p855 : 0 ≤ (x9_2 : Int) := oda
                         have q855 : x9_2 < (l0_0.length : Int) := oda
                         obtain ⟨ad855, A855_7, c855_7, e855, hx855_0, hx855_1, hx855_2, hx855_3, hx855_4, hx855_5, hx855_6, hx855_7, hl855_7, hi855_7⟩ := at_T77 HR0_0.out x9_2 p855 q855
                         cases e855
                         replace hx855_0 := hxb HB hx855_0
                         replace hx855_1 := hxb HB hx855_1
                         replace hx855_2 := hxb HB hx855_2
                         replace hx855_3 := hxb HB hx855_3
                         replace hx855_4 := hxb HB hx855_4
                         replace hx855_5 := hxb HB hx855_5
                         replace hx855_6 := hxb HB hx855_6
                         replace hx855_7 := hxb HB hx855_7
                         have HR855_7 := Aside0.mk hi855_7
                         have HC855_7 := Aside0.mk hl855_7
                         clear hi855_7 hl855_7
                         replace p855 := eq_true p855
                         replace q855 := eq_true q855
                         have p856 : 0 ≤ (x10_3 : Int) := oda
                         have q856 : x10_3 < (((rd_T77 l0_0 x9_2).f5).length : Int) := oda
                         obtain ⟨ad856, e856, hx856_0⟩ := Kd.at_int HR855_7.out x10_3 p856 q856
                         cases e856
                         replace hx856_0 := hxb HB hx856_0
                         replace p856 := eq_true p856
                         replace q856 := eq_true q856
                         have p857 : 0 ≤ ((rd ((rd_T77 l0_0 x9_2).f5) x10_3) : Int) := oda
                         have q857 : (rd ((rd_T77 l0_0 x9_2).f5) x10_3) < (t844.length : Int) := oda
                         obtain ⟨ad857, e857, hx857_0⟩ := Kd.at_bool (Kd.R_reads' HO_5.out).2.2 (rd ((rd_T77 l0_0 x9_2).f5) x10_3) p857 q857
                         (try rw [← Nbq45.out] at hx857_0)
                         (try rw [← Nbq50.out] at hx857_0)
                         (try rw [← Nbq60.out] at hx857_0)
                         cases e857
                         replace p857 := eq_true p857
                         replace q857 := eq_true q857
                         obtain ⟨Ao69, co69, eo69⟩ := Kd.R_slice HO_7.out
                         subst eo69
                         have p858 : 0 ≤ ((rd ((rd_T77 l0_0 x9_2).f5) x10_3) : Int) := oda
                         have q858 : (rd ((rd_T77 l0_0 x9_2).f5) x10_3) < (t850.length : Int) := oda
                         obtain ⟨ad858, e858, hx858_0⟩ := Kd.at_bool (Kd.R_reads' HO_7.out).2.2 (rd ((rd_T77 l0_0 x9_2).f5) x10_3) p858 q858
                         (try rw [← Nbq45.out] at hx858_0)
                         (try rw [← Nbq50.out] at hx858_0)
                         (try rw [← Nbq60.out] at hx858_0)
                         cases e858
                         replace p858 := eq_true p858
                         replace q858 := eq_true q858
                         have p860 : 0 ≤ ((rd ((rd_T77 l0_0 x9_2).f5) x10_3) : Int) := oda
                         have q860 : (rd ((rd_T77 l0_0 x9_2).f5) x10_3) < (x6_3.length : Int) := oda
                         obtain ⟨ad860, e860, hx860_0⟩ := Kd.at_bool (Kd.R_reads' HO_6.out).2.2 (rd ((rd_T77 l0_0 x9_2).f5) x10_3) p860 q860
                         (try rw [← Nbq45.out] at hx860_0)
                         (try rw [← Nbq50.out] at hx860_0)
                         (try rw [← Nbq60.out] at hx860_0)
                         cases e860
                         replace p860 := eq_true p860
                         replace q860 := eq_true q860
                         have p66 : 0 ≤ (x9_2 : Int) := oda
                         have q66 : (x9_2 : Int) < ((x6_3.length : Int) : Int) := oda
                         obtain ⟨go66, co66, eo66, gb66, gl66, cl66, HG66⟩ := Kd.R_form HO_6.out (by omega)
                         (first | cases eo66 | (injection eo66 with ea_ en_ ec_; (first | subst ea_ | (injection ea_ with ea_; subst ea_)); subst ec_; clear en_))
                         have GB66 := Aside0.mk gb66
                         have GG66 := Aside0.mk HG66
                         clear gb66 gl66 HG66
                         (first | simp only [add_plain] at hx860_0 | skip)
                         obtain ⟨hx66_0, hf66_0⟩ := Kd.R_celln false HO_6.out (x9_2 : Int) p66 q66
                         replace p66 := eq_true p66
                         replace q66 := eq_true q66
                         have HP70 := Kd.R_putg HO_6.out (x9_2 : Int) false
                         go_wp2_with (first | ((with_reducible refine gate_store (t := 4) (p := 77) rfl ?_); refine store_event (t := 4) (p := 77) (v := ?vo_w71) (w1 := (wc.setCell ⟨go66, (x9_2 : Int).toNat, none⟩ (.bool false))) ?hg ?ho ?hn ?hr ?_; (case ho => rfl); (case hg => rfl); (case hn => rfl); (case hr => first | (go_simp; done) | (go_simp; rfl) | (go_simp; rfl)); intro w71 hw; have hg : wc.grownBy w71 (some go66) := (by rw [hw]; exact HP70.2); have hp_ : Kd.R Kd.bool 4 w71 w.heap.size (fun k_ => some k_ ≠ (.slice (some ad857) t844.length co20 : Value).ownBlock ∧ some k_ ≠ (.slice (some ad858) t850.length co69 : Value).ownBlock) (.slice (some ⟨go66, 0, none⟩) x6_3.length co28) y861 := (by rw [hw, Ny861.out]; exact HP70.1); clear HP70; replace HO_5 := Aside0.mk (Kd.R_after (v := (.slice (some ⟨go66, 0, none⟩) x6_3.length co28)) (v1 := (.slice (some ⟨go66, 0, none⟩) x6_3.length co28)) (ok := (fun k_ => some k_ ≠ (.slice (some ad858) t850.length co69 : Value).ownBlock)) (by (with_reducible repeat (first | apply Kd.R_alloc | apply Kd.R_drewN | apply Kd.R_drew)); exact Kd.R_mono HO_5.out (fun _ hk => ⟨hk.2, hk.1⟩)) hg (.inl rfl)); replace HO_7 := Aside0.mk (Kd.R_after (v := (.slice (some ⟨go66, 0, none⟩) x6_3.length co28)) (v1 := (.slice (some ⟨go66, 0, none⟩) x6_3.length co28)) (ok := (fun k_ => some k_ ≠ (.slice (some ad857) t844.length co20 : Value).ownBlock)) (Rq HO_7.out) hg (.inl rfl)); replace BK842 := Aside0.mk (blk_grown (g := gb842) (o := .cells #[.slice (some ad855) l0_0.length c0_0] 38 (0, 0)) (bkq BK842) hg (Kd.R_ne HO_6.out BK842.out (by decide))); replace BK843 := Aside0.mk (blk_grown (g := gb843) (o := .cells #[.int .i64 a1_0, .int .i64 a1_1, .int .i64 a1_2, .int .i64 a1_3, .int .i64 a1_4] 42 (0, 0)) (bkq BK843) hg (Kd.R_ne HO_6.out BK843.out (by decide))); replace HO_6 := Aside0.mk (hp_); replace HB := Aside0.mk ((by rw [hw]; exact below_set (HB.out) GB66.out : Below w.heap.size w w71)); clear hg hw hp_))
                         (try simp only [← hl6_3])
                         go_roundg kj28
                         case measure => have := HK1.out; have := HK2.out; have := HK3.out; have := HJ28.out; omega
                         case rel => exact ⟨(y861), (true), (wrap64 (x10_3 + 1)), (by first | rfl | (simp; done) | (simp [*]; done)), (by first | rfl | (simp; done) | (simp [*]; done)), H', ⟨by have := HK1.out; have := HK2.out; have := HK3.out; have := HJ28.out; omega⟩, ⟨by (try simp only [hl6_3]); (with_reducible repeat (first | apply Kd.R_alloc | apply Kd.R_drewN | apply Kd.R_drew)); exact Kd.R_mono HO_5.out (fun _ hk => ⟨hk.2, hk.1⟩)⟩, ⟨by (try simp only [hl6_3]); exact Rq HO_6.out⟩, ⟨by (try simp only [hl6_3]); exact Rq HO_7.out⟩, ⟨by (try simp only [hl6_3]); exact bkq BK842⟩, ⟨by (try simp only [hl6_3]); exact bkq BK843⟩, ⟨bwq HB⟩⟩
                        ·rw [if_neg c65] at H
                         exact absurd H (by simp)
                      ·rw [if_neg c59] at H
                       exact absurd H (by simp)
                    ·rw [if_neg c49] at H
                     exact absurd H (by simp)
                  ·rw [if_neg c44] at H
                   exact absurd H (by simp)
                 ·rw [if_neg c43] at H
                  exact absurd H (by simp)
                ·rw [if_neg c42] at H
                 exact absurd H (by simp)
               ·rw [if_neg c41] at H
                exact absurd H (by simp)
              ·rw [if_neg c40] at H
               exact absurd H (by simp)
             ·rw [if_neg c39] at H
              exact absurd H (by simp)
            ·replace c38 := Bool.eq_false_iff.mpr c38
             subst c38
             have H1 : (spec_SafeAlone.l1 kj28 t844 x6_3 t850 x8_3 (wrap64 (x9_2 + 1)) l0_0) = some r := by rw [if_neg (show ¬ (false = true) by decide)] at H; exact H
             clear H
             have H := H1
             clear H1
             have H' := Aside0.mk H
             clear H
             go_wp2
             (try simp only [← hl6_3])
             go_roundg kj28
             case measure => have := HK1.out; have := HK2.out; have := HK3.out; have := HJ28.out; omega
             case rel => exact ⟨(x6_3), (x8_3), (wrap64 (x9_2 + 1)), (by first | rfl | (simp; done) | (simp [*]; done)), (by first | rfl | (simp; done) | (simp [*]; done)), H', ⟨by have := HK1.out; have := HK2.out; have := HK3.out; have := HJ28.out; omega⟩, ⟨by (try simp only [hl6_3]); exact Rq HO_5.out⟩, ⟨by (try simp only [hl6_3]); exact Rq HO_6.out⟩, ⟨by (try simp only [hl6_3]); exact Rq HO_7.out⟩, ⟨by (try simp only [hl6_3]); exact bkq BK842⟩, ⟨by (try simp only [hl6_3]); exact bkq BK843⟩, ⟨bwq HB⟩⟩
       ·rw [if_neg c27] at H
        have c27b0 : decide (x9_2 < (x6_2.length : Int)) = false := decide_eq_false c27
        clear c27
        have H' := Aside0.mk H
        clear H
        obtain ⟨Ao72, co72, eo72⟩ := Kd.R_slice HO_6.out
        subst eo72
        go_wp2
        go_roundg k2
        case measure => have := HK1.out; have := HK2.out; omega
        case rel => exact ⟨(x6_2), (x8_2), (by first | rfl | (simp; done) | (simp [*]; done)), H', ⟨by have := HK1.out; have := HK2.out; omega⟩, ⟨Rq HO_5.out⟩, ⟨Rq HO_6.out⟩, ⟨Rq HO_7.out⟩, ⟨bkq BK842⟩, ⟨bkq BK843⟩, ⟨bwq HB⟩⟩
    ·replace c26 := Bool.eq_false_iff.mpr c26
     subst c26
     have H1 : (some x6_1) = some r := by rw [if_neg (show ¬ (false = true) by decide)] at H; exact H
     clear H
     have H := H1
     clear H1
     obtain rfl := Option.some.inj H
     go_wp2
     go_ret
     exact ⟨_, by first | rfl | (simp [errW_none, errW_some] <;> rfl) | (simp [*, errW_none, errW_some] <;> rfl), by (with_reducible repeat (first | apply Kd.R_alloc | apply Kd.R_drewN | apply Kd.R_drew)); exact Kd.R_mono HO_6.out (fun _ hk => trivial), bwq HB⟩
end Go.Proofs.Ytcgbbhkjkkpfoaa.P
namespace Go.Proofs.Ytcgbbhkjkkpfoaa.P
open Go.RowKit Go.Proofs.YtcgbbhkjkkpfoaaW.PrintWords Go.Proofs.YtcgbbhkjkkpfoaaW.PrintLast Go.Proofs.YtcgbbhkjkkpfoaaW.PrintMore
set_option linter.unusedVariables false
set_option linter.unusedSimpArgs false
set_option maxHeartbeats 16000000 in
set_option maxRecDepth 100000 in
theorem xSafeAlone_many (A0 : Option Addr) (c0 : Nat) (l0 : List LStp) (e0 e1 e2 e3 e4 : Int) (w : World) (hr : Kd.C k90 w A0 l0.length l0) (hc : l0.length ≤ c0) (K : Nat) (z : Int) (hz : laws_szProg.f K l0 1048576 = some z) (hz0 : z < 0) :
  Calls Try.prog 9 #[.agg #[.slice A0 l0.length c0], .agg #[.int .i64 e0, .int .i64 e1, .int .i64 e2, .int .i64 e3, .int .i64 e4]] w fun e w' => e = .returned (.bool true) ∧ Below w.heap.size w w' := by
 have hu1 := Try.underlying24
 have hu2 := Try.underlying38
 have hu3 := Try.underlying28
 have hu4 := Try.underlying26
 have HR := Aside0.mk hr
 have HC := Aside0.mk hc
 have HB := Aside0.mk (Below.refl w.heap.size w)
 clear hr hc
 have HZ := Aside0.mk hz
 have zb : decide (z < 0) = true := decide_eq_true hz0
 clear hz hz0
 go_enter Try.func9, Try.ntmps9
 go_wp2_with (first | ((with_reducible refine gate_dst (N := 2) rfl ?_); refine box_event ?hg (N := 2) ?hd (cs := #[.slice A0 l0.length c0]) (t := 24) ?hr ?_; (case hd => rfl); (case hg => rfl); (case hr => first | (go_simp; done) | (go_simp; rfl)); intro g hg_g wq hbox hb; have hkp_ := Kept.of_below hb (fun _ => False); have sz_ := hkp_.1; (try simp only [drew_heap_, size_alloc_] at sz_); have n_ := Aside0.mk (below_step HB.out hb); clear HB; have HB := n_; clear n_ hkp_; have BKg := Aside0.mk hbox; have gw_g := Nat.le_of_eq hg_g.symm; have gl_g := blk_lt hbox; clear hbox hb hg_g; have zg_0 := blkC1 BKg.out; have yg_0 := blk_frozen BKg.out 0) | ((with_reducible refine gate_dst (N := 3) rfl ?_); refine box_event ?hg (N := 3) ?hd (cs := #[.int .i64 e0, .int .i64 e1, .int .i64 e2, .int .i64 e3, .int .i64 e4]) (t := 28) ?hr ?_; (case hd => rfl); (case hg => rfl); (case hr => first | (go_simp; done) | (go_simp; rfl)); intro h hg_h wq hbox hb; have hkp_ := Kept.of_below hb (fun _ => False); have sz_ := hkp_.1; (try simp only [drew_heap_, size_alloc_] at sz_); have n_ := Aside0.mk (blk_kept BKg.out hkp_ (fun p_ => p_)); clear BKg; have BKg := n_; clear n_; have n_ := Aside0.mk (below_step HB.out hb); clear HB; have HB := n_; clear n_ hkp_; have BKh := Aside0.mk hbox; have gw_h := Nat.le_of_eq hg_h.symm; have gl_h := blk_lt hbox; clear hbox hb hg_h; have zg_0 := blkC1 BKg.out; obtain ⟨zh_0, zh_1, zh_2, zh_3, zh_4⟩ := blkC5 BKh.out; have yh_0 := blk_frozen BKh.out 0; have yh_1 := blk_frozen BKh.out 1; have yh_2 := blk_frozen BKh.out 2; have yh_3 := blk_frozen BKh.out 3; have yh_4 := blk_frozen BKh.out 4) | ((with_reducible refine gate_callee (f := 11) rfl ?_); refine goesL_ (some 15) rfl rfl Try.func11 (by kernel_rfl) rfl #[.agg #[.slice A0 l0.length c0], .int .i64 1048576] rfl (by (try simp only [List.map_toArray, List.map_cons, List.map_nil]); first | done | rfl) ?_; refine (laws_szProg.calls K A0 c0 l0 1048576 z _ (Kd.C_below HR.out HB.out) HC.out HZ.out).mono ?_; rintro e wq ⟨rfl, hb⟩; refine ⟨_, rfl, ?_⟩; have hkp_ := Kept.of_below hb (fun _ => False); have sz_ := hkp_.1; (try simp only [drew_heap_, size_alloc_] at sz_); have n_ := Aside0.mk (blk_kept BKg.out hkp_ (fun p_ => p_)); clear BKg; have BKg := n_; clear n_; have n_ := Aside0.mk (blk_kept BKh.out hkp_ (fun p_ => p_)); clear BKh; have BKh := n_; clear n_; have n_ := Aside0.mk (below_step HB.out hb); clear HB; have HB := n_; clear n_ hkp_; skip; (try clear hb); have zg_0 := blkC1 BKg.out; obtain ⟨zh_0, zh_1, zh_2, zh_3, zh_4⟩ := blkC5 BKh.out))
 go_ret
 exact ⟨rfl, HB.out⟩
set_option maxHeartbeats 16000000 in
set_option maxRecDepth 100000 in
theorem xSafeAlone_calls (A0 : Option Addr) (c0 : Nat) (l0 : List LStp) (e0 e1 e2 e3 e4 : Int) (w : World) (hr : Kd.C k90 w A0 l0.length l0) (hc : l0.length ≤ c0)
  (K : Nat) (z : Int) (hz : laws_szProg.f K l0 1048576 = some z) (hz0 : 0 ≤ z) (p : List Stp) (hp : laws_toProg.f K l0 = some p) (he : laws_toExpr.f e0 e1 e2 e3 e4 = some (e0, e1, e2, e3, e4)) (q1 : List Bool) (hs : spec_SafeAlone.f K p e0 e1 e2 e3 e4 = some q1) (hi : impl_SafeAlone.f p e0 e1 e2 e3 e4 = some q1) (he1 : laws_eqBoolS.f K q1 q1 = some true) (he3 : laws_eqProg.f K p p = some true) (hpl : p.length ≤ 1048576) (hpf : ∀ s, s ∈ p → s.f5.length ≤ 1048576)
  (hk2 : 0 ≤ markE p 1) (m1 : Int) (q1m : List Bool) (hm2 : laws_markBoolS.f K q1 1 = some (m1, q1m)) (hq : q1.length = q1m.length) (hh : laws_heldBoolS.f K q1m 1 = some m1) (hm0 : 0 ≤ m1) :
  Calls Try.prog 9 #[.agg #[.slice A0 l0.length c0], .agg #[.int .i64 e0, .int .i64 e1, .int .i64 e2, .int .i64 e3, .int .i64 e4]] w fun e w' => e = .returned (.bool true) ∧ Below w.heap.size w w' := by
 have hu1 := Try.underlying24
 have hu2 := Try.underlying38
 have hu3 := Try.underlying28
 have hu4 := Try.underlying26
 have HR := Aside0.mk hr
 have HC := Aside0.mk hc
 have HB := Aside0.mk (Below.refl w.heap.size w)
 clear hr hc
 have zb : decide (z < 0) = false := decide_eq_false (by omega)
 have HZ := Aside0.mk hz
 have HP := Aside0.mk hp
 have HE := Aside0.mk he
 have HS := Aside0.mk hs
 have HI := Aside0.mk hi
 have HE1 := Aside0.mk he1
 have HE3 := Aside0.mk he3
 have HPL := Aside0.mk hpl
 have HPF := Aside0.mk hpf
 have HM2 := Aside0.mk hm2
 have HH := Aside0.mk hh
 have HQ := Aside0.mk hq
 have zk : decide (markE p 1 < 0) = false := decide_eq_false (by omega)
 have zm : decide (m1 < 0) = false := decide_eq_false (by omega)
 clear he he1 he3 hpl hpf hm2 hh hq hk2 hm0 hz hp hs hi hz0
 go_enter Try.func9, Try.ntmps9
 go_upto_region 5 with (first | ((with_reducible refine gate_dst (N := 2) rfl ?_); refine box_event ?hg (N := 2) ?hd (cs := #[.slice A0 l0.length c0]) (t := 24) ?hr ?_; (case hd => rfl); (case hg => rfl); (case hr => first | (go_simp; done) | (go_simp; rfl)); intro g hg_g wq hbox hb; have hkp_ := Kept.of_below hb (fun _ => False); have sz_ := hkp_.1; (try simp only [drew_heap_, size_alloc_] at sz_); have n_ := Aside0.mk (below_step HB.out hb); clear HB; have HB := n_; clear n_ hkp_; have BKg := Aside0.mk hbox; have gw_g := Nat.le_of_eq hg_g.symm; have gl_g := blk_lt hbox; clear hbox hb hg_g; have zg_0 := blkC1 BKg.out; have yg_0 := blk_frozen BKg.out 0) | ((with_reducible refine gate_dst (N := 3) rfl ?_); refine box_event ?hg (N := 3) ?hd (cs := #[.int .i64 e0, .int .i64 e1, .int .i64 e2, .int .i64 e3, .int .i64 e4]) (t := 28) ?hr ?_; (case hd => rfl); (case hg => rfl); (case hr => first | (go_simp; done) | (go_simp; rfl)); intro h hg_h wq hbox hb; have hkp_ := Kept.of_below hb (fun _ => False); have sz_ := hkp_.1; (try simp only [drew_heap_, size_alloc_] at sz_); have n_ := Aside0.mk (blk_kept BKg.out hkp_ (fun p_ => p_)); clear BKg; have BKg := n_; clear n_; have n_ := Aside0.mk (below_step HB.out hb); clear HB; have HB := n_; clear n_ hkp_; have BKh := Aside0.mk hbox; have gw_h := Nat.le_of_eq hg_h.symm; have gl_h := blk_lt hbox; clear hbox hb hg_h; have zg_0 := blkC1 BKg.out; obtain ⟨zh_0, zh_1, zh_2, zh_3, zh_4⟩ := blkC5 BKh.out; have yh_0 := blk_frozen BKh.out 0; have yh_1 := blk_frozen BKh.out 1; have yh_2 := blk_frozen BKh.out 2; have yh_3 := blk_frozen BKh.out 3; have yh_4 := blk_frozen BKh.out 4) | ((with_reducible refine gate_callee (f := 11) rfl ?_); refine goesL_ (some 15) rfl rfl Try.func11 (by kernel_rfl) rfl #[.agg #[.slice A0 l0.length c0], .int .i64 1048576] rfl (by (try simp only [List.map_toArray, List.map_cons, List.map_nil]); first | done | rfl) ?_; refine (laws_szProg.calls K A0 c0 l0 1048576 z _ (Kd.C_below HR.out HB.out) HC.out HZ.out).mono ?_; rintro e wq ⟨rfl, hb⟩; refine ⟨_, rfl, ?_⟩; have hkp_ := Kept.of_below hb (fun _ => False); have sz_ := hkp_.1; (try simp only [drew_heap_, size_alloc_] at sz_); have n_ := Aside0.mk (blk_kept BKg.out hkp_ (fun p_ => p_)); clear BKg; have BKg := n_; clear n_; have n_ := Aside0.mk (blk_kept BKh.out hkp_ (fun p_ => p_)); clear BKh; have BKh := n_; clear n_; have n_ := Aside0.mk (below_step HB.out hb); clear HB; have HB := n_; clear n_ hkp_; skip; (try clear hb); have zg_0 := blkC1 BKg.out; obtain ⟨zh_0, zh_1, zh_2, zh_3, zh_4⟩ := blkC5 BKh.out))
 go_region_held3 (fun w' => w'.cell? ⟨g, 0, none⟩ = some (.slice A0 l0.length c0) ∧ w'.cell? ⟨h, 0, none⟩ = some (.int .i64 e0) ∧ w'.cell? ⟨h, 1, none⟩ = some (.int .i64 e1) ∧ w'.cell? ⟨h, 2, none⟩ = some (.int .i64 e2) ∧ w'.cell? ⟨h, 3, none⟩ = some (.int .i64 e3) ∧ w'.cell? ⟨h, 4, none⟩ = some (.int .i64 e4)) (exact ⟨zg_0, zh_0, zh_1, zh_2, zh_3, zh_4⟩) (first | (go_at_call 14; refine (laws_toProg.calls K A0 c0 l0 p _ (Kd.C_below HR.out (by repeat (first | (with_reducible first | exact HB.out | apply below_alloc | apply pw_below_drewN | apply below_drew1) | exact HB.out))) HC.out HP.out).mono ?_; rintro e wr ⟨v_, rfl, h_, hb⟩; have hb := below_step (below_drew (Below.refl _ _)) hb; have hkp_ := Kept.of_below hb (fun _ => False); have sz_ := hkp_.1; (try simp only [drew_heap_, size_alloc_] at sz_); have n_ := Aside0.mk (blk_kept BKg.out hkp_ (fun p_ => p_)); clear BKg; have BKg := n_; clear n_; have n_ := Aside0.mk (blk_kept BKh.out hkp_ (fun p_ => p_)); clear BKh; have BKh := n_; clear n_; have n_ := Aside0.mk (below_step HB.out hb); clear HB; have HB := n_; clear n_ hkp_; clear hb; have Ha := Aside0.mk (S_ages0 h_); obtain ⟨Aa, ca, rfl⟩ := Kd.S_slice h_; clear h_; have zg_0 := blkC1 BKg.out; obtain ⟨zh_0, zh_1, zh_2, zh_3, zh_4⟩ := blkC5 BKh.out) | (go_at_call 15; refine (laws_toExpr.calls _ _ _ _ _ _ _ _ _ _ _ HE.out).mono ?_; rintro e wr ⟨rfl, hb⟩; have hkp_ := Kept.of_below hb (fun _ => False); have sz_ := hkp_.1; (try simp only [drew_heap_, size_alloc_] at sz_); have n_ := Aside0.mk (blk_kept BKg.out hkp_ (fun p_ => p_)); clear BKg; have BKg := n_; clear n_; have n_ := Aside0.mk (blk_kept BKh.out hkp_ (fun p_ => p_)); clear BKh; have BKh := n_; clear n_; have n_ := Aside0.mk (Kd.S_kept Ha.out hkp_ (fun k_ a_ p_ => p_)); clear Ha; have Ha := n_; clear n_; have n_ := Aside0.mk (below_step HB.out hb); clear HB; have HB := n_; clear n_ hkp_; clear hb; have zg_0 := blkC1 BKg.out; obtain ⟨zh_0, zh_1, zh_2, zh_3, zh_4⟩ := blkC5 BKh.out) | (go_at_call 38; refine (spec_SafeAlone.calls K Aa ca p e0 e1 e2 e3 e4 q1 _ (Kd.S_reads' Ha.out).2.2 (Kd.S_reads' Ha.out).2.1 HS.out).mono ?_; rintro e wr ⟨v_, rfl, h_, hb⟩; have hkp_ := Kept.of_below hb (fun _ => False); have sz_ := hkp_.1; (try simp only [drew_heap_, size_alloc_] at sz_); have n_ := Aside0.mk (blk_kept BKg.out hkp_ (fun p_ => p_)); clear BKg; have BKg := n_; clear n_; have n_ := Aside0.mk (blk_kept BKh.out hkp_ (fun p_ => p_)); clear BKh; have BKh := n_; clear n_; have n_ := Aside0.mk (Kd.S_kept Ha.out hkp_ (fun k_ a_ p_ => p_)); clear Ha; have Ha := n_; clear n_; have n_ := Aside0.mk (below_step HB.out hb); clear HB; have HB := n_; clear n_ hkp_; clear hb; have Hw := Aside0.mk (R_ages0 h_); obtain ⟨Aw, cw, rfl⟩ := Kd.R_slice h_; clear h_; have zg_0 := blkC1 BKg.out; obtain ⟨zh_0, zh_1, zh_2, zh_3, zh_4⟩ := blkC5 BKh.out))
 clear Ha
 go_upto_region 7 with (first | ((with_reducible refine gate_callee (f := 14) rfl ?_); refine goesL_ (some 24) rfl rfl Try.func14 (by kernel_rfl) rfl #[.agg #[.slice A0 l0.length c0]] rfl (by (try simp only [List.map_toArray, List.map_cons, List.map_nil]); first | done | rfl) ?_; refine (laws_toProg.calls K A0 c0 l0 p _ (Kd.C_below HR.out HB.out) HC.out HP.out).mono ?_; rintro e wq ⟨v_, rfl, h_, hb⟩; refine ⟨_, rfl, ?_⟩; have hkp_ := Kept.of_below hb (fun _ => False); have sz_ := hkp_.1; (try simp only [drew_heap_, size_alloc_] at sz_); have n_ := Aside0.mk (blk_kept BKg.out hkp_ (fun p_ => p_)); clear BKg; have BKg := n_; clear n_; have n_ := Aside0.mk (blk_kept BKh.out hkp_ (fun p_ => p_)); clear BKh; have BKh := n_; clear n_; have n_ := Aside0.mk (Kd.R_kept Hw.out hkp_ (fun k_ a_ p_ => p_)); clear Hw; have Hw := n_; clear n_; have n_ := Aside0.mk (below_step HB.out hb); clear HB; have HB := n_; clear n_ hkp_; skip; have Hx := Aside0.mk (S_ages0 h_); obtain ⟨Ax, cx, rfl⟩ := Kd.S_slice h_; clear h_; (try clear hb); have zg_0 := blkC1 BKg.out; obtain ⟨zh_0, zh_1, zh_2, zh_3, zh_4⟩ := blkC5 BKh.out) | ((with_reducible refine gate_dst (N := 7) rfl ?_); refine box_event ?hg (N := 7) ?hd (cs := #[.slice none 0 0]) (t := 38) ?hr ?_; (case hd => rfl); (case hg => rfl); (case hr => first | (go_simp; done) | (go_simp; rfl)); intro g8 hg_g8 wq hbox hb; have hkp_ := Kept.of_below hb (fun _ => False); have sz_ := hkp_.1; (try simp only [drew_heap_, size_alloc_] at sz_); have n_ := Aside0.mk (blk_kept BKg.out hkp_ (fun p_ => p_)); clear BKg; have BKg := n_; clear n_; have n_ := Aside0.mk (blk_kept BKh.out hkp_ (fun p_ => p_)); clear BKh; have BKh := n_; clear n_; have n_ := Aside0.mk (Kd.R_kept Hw.out hkp_ (fun k_ a_ p_ => p_)); clear Hw; have Hw := n_; clear n_; have n_ := Aside0.mk (Kd.S_kept Hx.out hkp_ (fun k_ a_ p_ => p_)); clear Hx; have Hx := n_; clear n_; have n_ := Aside0.mk (below_step HB.out hb); clear HB; have HB := n_; clear n_ hkp_; have BKg8 := Aside0.mk hbox; have gw_g8 := Nat.le_of_eq hg_g8.symm; have gl_g8 := blk_lt hbox; clear hbox hb hg_g8; have zg_0 := blkC1 BKg.out; obtain ⟨zh_0, zh_1, zh_2, zh_3, zh_4⟩ := blkC5 BKh.out; have zg8_0 := blkC1 BKg8.out; have yg8_0 := blk_frozen BKg8.out 0) | ((with_reducible refine gate_store (t := 38) (p := 7) rfl ?_); refine store_event (t := 38) (p := 7) (v := ?vo) (w1 := wq.setCell ⟨g8, 0, none⟩ (.slice Ax p.length cx)) ?hg ?ho ?hn ?hr ?_; (case ho => rfl); (case hg => rfl); (case hn => rfl); (case hr => first | (go_simp; done) | (go_simp; rfl)); intro wz hw_; have nb_ := Aside0.mk (show wz.heap[g8]? = some (.cells #[(.slice Ax p.length cx)] 38 (0, 0)) from by rw [hw_]; exact blk_set BKg8.out 0 _); clear yg8_0; have hkp_ := (by rw [hw_]; exact Kept.setCell (Kept.refl _ (fun k_ => k_ = g8)) (.inl rfl) _ : Kept _ wz (fun k_ => k_ = g8)); have sz_ := hkp_.1; (try simp only [drew_heap_, size_alloc_] at sz_); have n_ := Aside0.mk (blk_kept BKg.out hkp_ (fun p_ => by omega)); clear BKg; have BKg := n_; clear n_; have n_ := Aside0.mk (blk_kept BKh.out hkp_ (fun p_ => by omega)); clear BKh; have BKh := n_; clear n_; have n_ := Aside0.mk (Kd.R_kept Hw.out hkp_ (fun k_ a_ p_ => by unfold Ages0 at a_; omega)); clear Hw; have Hw := n_; clear n_; have n_ := Aside0.mk (Kd.S_kept Hx.out hkp_ (fun k_ a_ p_ => by unfold Ages0 at a_; omega)); clear Hx; have Hx := n_; clear n_; have n_ := Aside0.mk (show Below w.heap.size w wz from by rw [hw_]; exact below_set HB.out (by omega)); clear HB; have HB := n_; clear n_ hkp_; clear BKg8; have BKg8 := nb_; clear nb_ hw_; have zg_0 := blkC1 BKg.out; obtain ⟨zh_0, zh_1, zh_2, zh_3, zh_4⟩ := blkC5 BKh.out; have zg8_0 := blkC1 BKg8.out))
 go_region_held3 (fun w' => w'.cell? ⟨h, 0, none⟩ = some (.int .i64 e0) ∧ w'.cell? ⟨h, 1, none⟩ = some (.int .i64 e1) ∧ w'.cell? ⟨h, 2, none⟩ = some (.int .i64 e2) ∧ w'.cell? ⟨h, 3, none⟩ = some (.int .i64 e3) ∧ w'.cell? ⟨h, 4, none⟩ = some (.int .i64 e4) ∧ w'.cell? ⟨g8, 0, none⟩ = some (.slice Ax p.length cx)) (exact ⟨zh_0, zh_1, zh_2, zh_3, zh_4, zg8_0⟩) (first | (go_at_call 15; refine (laws_toExpr.calls _ _ _ _ _ _ _ _ _ _ _ HE.out).mono ?_; rintro e wr ⟨rfl, hb⟩; have hb := below_step (below_drew (Below.refl _ _)) hb; have hkp_ := Kept.of_below hb (fun _ => False); have sz_ := hkp_.1; (try simp only [drew_heap_, size_alloc_] at sz_); have n_ := Aside0.mk (blk_kept BKg.out hkp_ (fun p_ => p_)); clear BKg; have BKg := n_; clear n_; have n_ := Aside0.mk (blk_kept BKh.out hkp_ (fun p_ => p_)); clear BKh; have BKh := n_; clear n_; have n_ := Aside0.mk (blk_kept BKg8.out hkp_ (fun p_ => p_)); clear BKg8; have BKg8 := n_; clear n_; have n_ := Aside0.mk (Kd.R_kept Hw.out hkp_ (fun k_ a_ p_ => p_)); clear Hw; have Hw := n_; clear n_; have n_ := Aside0.mk (Kd.S_kept Hx.out hkp_ (fun k_ a_ p_ => p_)); clear Hx; have Hx := n_; clear n_; have n_ := Aside0.mk (below_step HB.out hb); clear HB; have HB := n_; clear n_ hkp_; clear hb; have zg_0 := blkC1 BKg.out; obtain ⟨zh_0, zh_1, zh_2, zh_3, zh_4⟩ := blkC5 BKh.out; have zg8_0 := blkC1 BKg8.out) | (go_at_call 39; refine (impl_SafeAlone.calls Ax cx p e0 e1 e2 e3 e4 q1 _ (Kd.S_reads' Hx.out).2.2 (Kd.S_reads' Hx.out).2.1 HI.out).mono ?_; rintro e wr ⟨v_, rfl, h_, hb⟩; have hkp_ := Kept.of_below hb (fun _ => False); have sz_ := hkp_.1; (try simp only [drew_heap_, size_alloc_] at sz_); have n_ := Aside0.mk (blk_kept BKg.out hkp_ (fun p_ => p_)); clear BKg; have BKg := n_; clear n_; have n_ := Aside0.mk (blk_kept BKh.out hkp_ (fun p_ => p_)); clear BKh; have BKh := n_; clear n_; have n_ := Aside0.mk (blk_kept BKg8.out hkp_ (fun p_ => p_)); clear BKg8; have BKg8 := n_; clear n_; have n_ := Aside0.mk (Kd.R_kept Hw.out hkp_ (fun k_ a_ p_ => p_)); clear Hw; have Hw := n_; clear n_; have n_ := Aside0.mk (Kd.S_kept Hx.out hkp_ (fun k_ a_ p_ => p_)); clear Hx; have Hx := n_; clear n_; have n_ := Aside0.mk (below_step HB.out hb); clear HB; have HB := n_; clear n_ hkp_; clear hb; have Hg := Aside0.mk (R_ages0 h_); obtain ⟨Ag, cg, rfl⟩ := Kd.R_slice h_; clear h_; have zg_0 := blkC1 BKg.out; obtain ⟨zh_0, zh_1, zh_2, zh_3, zh_4⟩ := blkC5 BKh.out; have zg8_0 := blkC1 BKg8.out))
 go_upto_region 10 with (first | ((with_reducible refine gate_callee (f := 24) rfl ?_); refine goesL_ (some 31) rfl rfl Try.func24 (by kernel_rfl) rfl #[.slice Ag q1.length cg, .slice Aw q1.length cw] rfl (by (try simp only [List.map_toArray, List.map_cons, List.map_nil]); first | done | rfl) ?_; refine (laws_eqBoolS.calls K Ag cg q1 Aw cw q1 true _ (Kd.R_reads' Hg.out).2.2 (Kd.R_reads' Hg.out).2.1 (Kd.R_reads' Hw.out).2.2 (Kd.R_reads' Hw.out).2.1 HE1.out).mono ?_; rintro e wq ⟨rfl, hd_⟩; have hb := drawn_below hd_; clear hd_; refine ⟨_, rfl, ?_⟩; have hkp_ := Kept.of_below hb (fun _ => False); have sz_ := hkp_.1; (try simp only [drew_heap_, size_alloc_] at sz_); have n_ := Aside0.mk (blk_kept BKg.out hkp_ (fun p_ => p_)); clear BKg; have BKg := n_; clear n_; have n_ := Aside0.mk (blk_kept BKh.out hkp_ (fun p_ => p_)); clear BKh; have BKh := n_; clear n_; have n_ := Aside0.mk (blk_kept BKg8.out hkp_ (fun p_ => p_)); clear BKg8; have BKg8 := n_; clear n_; have n_ := Aside0.mk (Kd.R_kept Hw.out hkp_ (fun k_ a_ p_ => p_)); clear Hw; have Hw := n_; clear n_; have n_ := Aside0.mk (Kd.S_kept Hx.out hkp_ (fun k_ a_ p_ => p_)); clear Hx; have Hx := n_; clear n_; have n_ := Aside0.mk (Kd.R_kept Hg.out hkp_ (fun k_ a_ p_ => p_)); clear Hg; have Hg := n_; clear n_; have n_ := Aside0.mk (below_step HB.out hb); clear HB; have HB := n_; clear n_ hkp_; skip; (try clear hb); have zg_0 := blkC1 BKg.out; obtain ⟨zh_0, zh_1, zh_2, zh_3, zh_4⟩ := blkC5 BKh.out; have zg8_0 := blkC1 BKg8.out))
 go_region_held3 (fun w' => w'.cell? ⟨g8, 0, none⟩ = some (.slice Ax p.length cx) ∧ w'.cell? ⟨g, 0, none⟩ = some (.slice A0 l0.length c0)) (exact ⟨zg8_0, zg_0⟩) (first | (go_at_call 14; refine (laws_toProg.calls K A0 c0 l0 p _ (Kd.C_below HR.out (by repeat (first | (with_reducible first | exact HB.out | apply below_alloc | apply pw_below_drewN | apply below_drew1) | exact HB.out))) HC.out HP.out).mono ?_; rintro e wr ⟨v_, rfl, h_, hb⟩; have hb := below_step (below_drew (Below.refl _ _)) hb; have hkp_ := Kept.of_below hb (fun _ => False); have sz_ := hkp_.1; (try simp only [drew_heap_, size_alloc_] at sz_); have n_ := Aside0.mk (blk_kept BKg.out hkp_ (fun p_ => p_)); clear BKg; have BKg := n_; clear n_; have n_ := Aside0.mk (blk_kept BKh.out hkp_ (fun p_ => p_)); clear BKh; have BKh := n_; clear n_; have n_ := Aside0.mk (blk_kept BKg8.out hkp_ (fun p_ => p_)); clear BKg8; have BKg8 := n_; clear n_; have n_ := Aside0.mk (Kd.R_kept Hw.out hkp_ (fun k_ a_ p_ => p_)); clear Hw; have Hw := n_; clear n_; have n_ := Aside0.mk (Kd.S_kept Hx.out hkp_ (fun k_ a_ p_ => p_)); clear Hx; have Hx := n_; clear n_; have n_ := Aside0.mk (Kd.R_kept Hg.out hkp_ (fun k_ a_ p_ => p_)); clear Hg; have Hg := n_; clear n_; have n_ := Aside0.mk (below_step HB.out hb); clear HB; have HB := n_; clear n_ hkp_; clear hb; have Hn := Aside0.mk (S_ages0 h_); obtain ⟨An, cn, rfl⟩ := Kd.S_slice h_; clear h_; have zg_0 := blkC1 BKg.out; obtain ⟨zh_0, zh_1, zh_2, zh_3, zh_4⟩ := blkC5 BKh.out; have zg8_0 := blkC1 BKg8.out) | (go_at_call 19; refine (laws_eqProg.calls K Ax cx p An cn p true _ (Kd.S_reads' Hx.out).2.2 (Kd.S_reads' Hx.out).2.1 (Kd.S_reads' Hn.out).2.2 (Kd.S_reads' Hn.out).2.1 HE3.out).mono ?_; rintro e wr ⟨rfl, hb⟩; have hkp_ := Kept.of_below hb (fun _ => False); have sz_ := hkp_.1; (try simp only [drew_heap_, size_alloc_] at sz_); have n_ := Aside0.mk (blk_kept BKg.out hkp_ (fun p_ => p_)); clear BKg; have BKg := n_; clear n_; have n_ := Aside0.mk (blk_kept BKh.out hkp_ (fun p_ => p_)); clear BKh; have BKh := n_; clear n_; have n_ := Aside0.mk (blk_kept BKg8.out hkp_ (fun p_ => p_)); clear BKg8; have BKg8 := n_; clear n_; have n_ := Aside0.mk (Kd.R_kept Hw.out hkp_ (fun k_ a_ p_ => p_)); clear Hw; have Hw := n_; clear n_; have n_ := Aside0.mk (Kd.S_kept Hx.out hkp_ (fun k_ a_ p_ => p_)); clear Hx; have Hx := n_; clear n_; have n_ := Aside0.mk (Kd.R_kept Hg.out hkp_ (fun k_ a_ p_ => p_)); clear Hg; have Hg := n_; clear n_; have n_ := Aside0.mk (Kd.S_kept Hn.out hkp_ (fun k_ a_ p_ => p_)); clear Hn; have Hn := n_; clear n_; have n_ := Aside0.mk (below_step HB.out hb); clear HB; have HB := n_; clear n_ hkp_; clear hb; have zg_0 := blkC1 BKg.out; obtain ⟨zh_0, zh_1, zh_2, zh_3, zh_4⟩ := blkC5 BKh.out; have zg8_0 := blkC1 BKg8.out))
 go_upto_region 14 with (first | ((with_reducible refine gate_callee (f := 25) rfl ?_); refine goesL_ (some 40) rfl rfl Try.func25 (by kernel_rfl) rfl #[.agg #[.slice Ax p.length cx], .int .i64 1] rfl (by (try simp only [List.map_toArray, List.map_cons, List.map_nil]); first | done | rfl) ?_; refine (markProg_calls _ (.slice Ax p.length cx) p 1 w _ HB.out (Kd.S_lower Hx.out (by omega)) (by decide) HPL.out HPF.out (by decide)).mono ?_; rintro e wq ⟨rfl, h_, hb2, hk2⟩; refine ⟨_, rfl, ?_⟩; have hkp_ := hk2; have sz_ := hkp_.1; (try simp only [drew_heap_, size_alloc_] at sz_); have n_ := Aside0.mk (blk_kept BKg.out hkp_ (fun p_ => by unfold Ages0 at p_; omega)); clear BKg; have BKg := n_; clear n_; have n_ := Aside0.mk (blk_kept BKh.out hkp_ (fun p_ => by unfold Ages0 at p_; omega)); clear BKh; have BKh := n_; clear n_; have n_ := Aside0.mk (blk_kept BKg8.out hkp_ (fun p_ => by unfold Ages0 at p_; omega)); clear BKg8; have BKg8 := n_; clear n_; have n_ := Aside0.mk (Kd.R_kept Hw.out hkp_ (fun k_ a_ p_ => by unfold Ages0 at a_ p_; omega)); clear Hw; have Hw := n_; clear n_; have n_ := Aside0.mk (Kd.R_kept Hg.out hkp_ (fun k_ a_ p_ => by unfold Ages0 at a_ p_; omega)); clear Hg; have Hg := n_; clear n_; have n_ := Aside0.mk (hb2); clear HB; have HB := n_; clear n_ hkp_; clear Hx; clear h_ hb2 hk2; have zg_0 := blkC1 BKg.out; obtain ⟨zh_0, zh_1, zh_2, zh_3, zh_4⟩ := blkC5 BKh.out; have zg8_0 := blkC1 BKg8.out))
 go_upto_region 17 with (first | ((with_reducible refine gate_callee (f := 24) rfl ?_); (try (refine gate_guard (by rfl) ?_; dsimp only)); refine goesL_ (some 46) rfl rfl Try.func24 (by kernel_rfl) rfl #[.slice Ag q1.length cg, .slice Aw q1.length cw] rfl (by (try simp only [List.map_toArray, List.map_cons, List.map_nil]); first | done | rfl) ?_; refine (laws_eqBoolS.calls K Ag cg q1 Aw cw q1 true _ (Kd.R_reads' Hg.out).2.2 (Kd.R_reads' Hg.out).2.1 (Kd.R_reads' Hw.out).2.2 (Kd.R_reads' Hw.out).2.1 HE1.out).mono ?_; rintro e wq ⟨rfl, hd_⟩; have hb := drawn_below hd_; clear hd_; refine ⟨_, rfl, ?_⟩; have hkp_ := Kept.of_below hb (fun _ => False); have sz_ := hkp_.1; (try simp only [drew_heap_, size_alloc_] at sz_); have n_ := Aside0.mk (blk_kept BKg.out hkp_ (fun p_ => p_)); clear BKg; have BKg := n_; clear n_; have n_ := Aside0.mk (blk_kept BKh.out hkp_ (fun p_ => p_)); clear BKh; have BKh := n_; clear n_; have n_ := Aside0.mk (blk_kept BKg8.out hkp_ (fun p_ => p_)); clear BKg8; have BKg8 := n_; clear n_; have n_ := Aside0.mk (Kd.R_kept Hw.out hkp_ (fun k_ a_ p_ => p_)); clear Hw; have Hw := n_; clear n_; have n_ := Aside0.mk (Kd.R_kept Hg.out hkp_ (fun k_ a_ p_ => p_)); clear Hg; have Hg := n_; clear n_; have n_ := Aside0.mk (below_step HB.out hb); clear HB; have HB := n_; clear n_ hkp_; skip; (try clear hb); have zg_0 := blkC1 BKg.out; obtain ⟨zh_0, zh_1, zh_2, zh_3, zh_4⟩ := blkC5 BKh.out; have zg8_0 := blkC1 BKg8.out))
 go_upto_region 19 with (first | ((with_reducible refine gate_callee (f := 27) rfl ?_); refine goesL_ (some 51) rfl rfl Try.func27 (by kernel_rfl) rfl #[.slice Ag q1.length cg, .int .i64 1] rfl (by (try simp only [List.map_toArray, List.map_cons, List.map_nil]); first | done | rfl) ?_; refine (laws_markBoolS.calls K _ (.slice Ag q1.length cg) q1 1 m1 q1m w _ HB.out (Kd.R_lower Hg.out (by omega)) HM2.out).mono ?_; rintro e wq ⟨rfl, h_, hb2, hk2⟩; refine ⟨_, rfl, ?_⟩; have hkp_ := hk2; have sz_ := hkp_.1; (try simp only [drew_heap_, size_alloc_] at sz_); have n_ := Aside0.mk (blk_kept BKg.out hkp_ (fun p_ => by unfold Ages0 at p_; omega)); clear BKg; have BKg := n_; clear n_; have n_ := Aside0.mk (blk_kept BKh.out hkp_ (fun p_ => by unfold Ages0 at p_; omega)); clear BKh; have BKh := n_; clear n_; have n_ := Aside0.mk (blk_kept BKg8.out hkp_ (fun p_ => by unfold Ages0 at p_; omega)); clear BKg8; have BKg8 := n_; clear n_; have n_ := Aside0.mk (Kd.R_kept Hw.out hkp_ (fun k_ a_ p_ => by unfold Ages0 at a_ p_; omega)); clear Hw; have Hw := n_; clear n_; have n_ := Aside0.mk (hb2); clear HB; have HB := n_; clear n_ hkp_; have n_ := Aside0.mk h_; clear Hg; have Hg := n_; clear n_; clear h_ hb2 hk2; have zg_0 := blkC1 BKg.out; obtain ⟨zh_0, zh_1, zh_2, zh_3, zh_4⟩ := blkC5 BKh.out; have zg8_0 := blkC1 BKg8.out))
 go_upto_region 24 with (first | ((with_reducible refine gate_callee (f := 28) rfl ?_); refine goesL_ (some 54) rfl rfl Try.func28 (by kernel_rfl) rfl #[.slice Ag q1.length cg, .int .i64 1] rfl (by (try simp only [List.map_toArray, List.map_cons, List.map_nil]); first | done | rfl) ?_; refine (heldBools_len K Ag cg q1m 1 m1 _ q1.length HQ.out (Kd.R_reads' Hg.out) HH.out).mono ?_; rintro e wq ⟨rfl, hd_⟩; have hb := drawn_below hd_; clear hd_; refine ⟨_, rfl, ?_⟩; have hkp_ := Kept.of_below hb (fun _ => False); have sz_ := hkp_.1; (try simp only [drew_heap_, size_alloc_] at sz_); have n_ := Aside0.mk (blk_kept BKg.out hkp_ (fun p_ => p_)); clear BKg; have BKg := n_; clear n_; have n_ := Aside0.mk (blk_kept BKh.out hkp_ (fun p_ => p_)); clear BKh; have BKh := n_; clear n_; have n_ := Aside0.mk (blk_kept BKg8.out hkp_ (fun p_ => p_)); clear BKg8; have BKg8 := n_; clear n_; have n_ := Aside0.mk (Kd.R_kept Hw.out hkp_ (fun k_ a_ p_ => p_)); clear Hw; have Hw := n_; clear n_; have n_ := Aside0.mk (Kd.R_kept Hg.out hkp_ (fun k_ a_ p_ => p_)); clear Hg; have Hg := n_; clear n_; have n_ := Aside0.mk (below_step HB.out hb); clear HB; have HB := n_; clear n_ hkp_; skip; (try clear hb); have zg_0 := blkC1 BKg.out; obtain ⟨zh_0, zh_1, zh_2, zh_3, zh_4⟩ := blkC5 BKh.out; have zg8_0 := blkC1 BKg8.out))
 go_region_held3 (fun w' => w'.cell? ⟨g, 0, none⟩ = some (.slice A0 l0.length c0) ∧ w'.cell? ⟨h, 0, none⟩ = some (.int .i64 e0) ∧ w'.cell? ⟨h, 1, none⟩ = some (.int .i64 e1) ∧ w'.cell? ⟨h, 2, none⟩ = some (.int .i64 e2) ∧ w'.cell? ⟨h, 3, none⟩ = some (.int .i64 e3) ∧ w'.cell? ⟨h, 4, none⟩ = some (.int .i64 e4)) (exact ⟨zg_0, zh_0, zh_1, zh_2, zh_3, zh_4⟩) (first | (go_at_call 14; refine (laws_toProg.calls K A0 c0 l0 p _ (Kd.C_below HR.out (by repeat (first | (with_reducible first | exact HB.out | apply below_alloc | apply pw_below_drewN | apply below_drew1) | exact HB.out))) HC.out HP.out).mono ?_; rintro e wr ⟨v_, rfl, h_, hb⟩; have hb := below_step (below_drew (Below.refl _ _)) hb; have hkp_ := Kept.of_below hb (fun _ => False); have sz_ := hkp_.1; (try simp only [drew_heap_, size_alloc_] at sz_); have n_ := Aside0.mk (blk_kept BKg.out hkp_ (fun p_ => p_)); clear BKg; have BKg := n_; clear n_; have n_ := Aside0.mk (blk_kept BKh.out hkp_ (fun p_ => p_)); clear BKh; have BKh := n_; clear n_; have n_ := Aside0.mk (blk_kept BKg8.out hkp_ (fun p_ => p_)); clear BKg8; have BKg8 := n_; clear n_; have n_ := Aside0.mk (Kd.R_kept Hw.out hkp_ (fun k_ a_ p_ => p_)); clear Hw; have Hw := n_; clear n_; have n_ := Aside0.mk (Kd.R_kept Hg.out hkp_ (fun k_ a_ p_ => p_)); clear Hg; have Hg := n_; clear n_; have n_ := Aside0.mk (below_step HB.out hb); clear HB; have HB := n_; clear n_ hkp_; clear hb; have Hn := Aside0.mk (S_ages0 h_); obtain ⟨An, cn, rfl⟩ := Kd.S_slice h_; clear h_; have zg_0 := blkC1 BKg.out; obtain ⟨zh_0, zh_1, zh_2, zh_3, zh_4⟩ := blkC5 BKh.out; have zg8_0 := blkC1 BKg8.out) | (go_at_call 15; refine (laws_toExpr.calls _ _ _ _ _ _ _ _ _ _ _ HE.out).mono ?_; rintro e wr ⟨rfl, hb⟩; have hkp_ := Kept.of_below hb (fun _ => False); have sz_ := hkp_.1; (try simp only [drew_heap_, size_alloc_] at sz_); have n_ := Aside0.mk (blk_kept BKg.out hkp_ (fun p_ => p_)); clear BKg; have BKg := n_; clear n_; have n_ := Aside0.mk (blk_kept BKh.out hkp_ (fun p_ => p_)); clear BKh; have BKh := n_; clear n_; have n_ := Aside0.mk (blk_kept BKg8.out hkp_ (fun p_ => p_)); clear BKg8; have BKg8 := n_; clear n_; have n_ := Aside0.mk (Kd.R_kept Hw.out hkp_ (fun k_ a_ p_ => p_)); clear Hw; have Hw := n_; clear n_; have n_ := Aside0.mk (Kd.R_kept Hg.out hkp_ (fun k_ a_ p_ => p_)); clear Hg; have Hg := n_; clear n_; have n_ := Aside0.mk (Kd.S_kept Hn.out hkp_ (fun k_ a_ p_ => p_)); clear Hn; have Hn := n_; clear n_; have n_ := Aside0.mk (below_step HB.out hb); clear HB; have HB := n_; clear n_ hkp_; clear hb; have zg_0 := blkC1 BKg.out; obtain ⟨zh_0, zh_1, zh_2, zh_3, zh_4⟩ := blkC5 BKh.out; have zg8_0 := blkC1 BKg8.out) | (go_at_call 39; refine (impl_SafeAlone.calls An cn p e0 e1 e2 e3 e4 q1 _ (Kd.S_reads' Hn.out).2.2 (Kd.S_reads' Hn.out).2.1 HI.out).mono ?_; rintro e wr ⟨v_, rfl, h_, hb⟩; have hkp_ := Kept.of_below hb (fun _ => False); have sz_ := hkp_.1; (try simp only [drew_heap_, size_alloc_] at sz_); have n_ := Aside0.mk (blk_kept BKg.out hkp_ (fun p_ => p_)); clear BKg; have BKg := n_; clear n_; have n_ := Aside0.mk (blk_kept BKh.out hkp_ (fun p_ => p_)); clear BKh; have BKh := n_; clear n_; have n_ := Aside0.mk (blk_kept BKg8.out hkp_ (fun p_ => p_)); clear BKg8; have BKg8 := n_; clear n_; have n_ := Aside0.mk (Kd.R_kept Hw.out hkp_ (fun k_ a_ p_ => p_)); clear Hw; have Hw := n_; clear n_; have n_ := Aside0.mk (Kd.R_kept Hg.out hkp_ (fun k_ a_ p_ => p_)); clear Hg; have Hg := n_; clear n_; have n_ := Aside0.mk (Kd.S_kept Hn.out hkp_ (fun k_ a_ p_ => p_)); clear Hn; have Hn := n_; clear n_; have n_ := Aside0.mk (below_step HB.out hb); clear HB; have HB := n_; clear n_ hkp_; clear hb; have Hk := Aside0.mk (R_ages0 h_); obtain ⟨Ak, ck, rfl⟩ := Kd.R_slice h_; clear h_; have zg_0 := blkC1 BKg.out; obtain ⟨zh_0, zh_1, zh_2, zh_3, zh_4⟩ := blkC5 BKh.out; have zg8_0 := blkC1 BKg8.out))
 go_upto_region 28 with (first | ((with_reducible refine gate_callee (f := 24) rfl ?_); refine goesL_ (some 67) rfl rfl Try.func24 (by kernel_rfl) rfl #[.slice Ak q1.length ck, .slice Aw q1.length cw] rfl (by (try simp only [List.map_toArray, List.map_cons, List.map_nil]); first | done | rfl) ?_; refine (laws_eqBoolS.calls K Ak ck q1 Aw cw q1 true _ (Kd.R_reads' Hk.out).2.2 (Kd.R_reads' Hk.out).2.1 (Kd.R_reads' Hw.out).2.2 (Kd.R_reads' Hw.out).2.1 HE1.out).mono ?_; rintro e wq ⟨rfl, hd_⟩; have hb := drawn_below hd_; clear hd_; refine ⟨_, rfl, ?_⟩; have hkp_ := Kept.of_below hb (fun _ => False); have sz_ := hkp_.1; (try simp only [drew_heap_, size_alloc_] at sz_); have n_ := Aside0.mk (blk_kept BKg.out hkp_ (fun p_ => p_)); clear BKg; have BKg := n_; clear n_; have n_ := Aside0.mk (blk_kept BKh.out hkp_ (fun p_ => p_)); clear BKh; have BKh := n_; clear n_; have n_ := Aside0.mk (blk_kept BKg8.out hkp_ (fun p_ => p_)); clear BKg8; have BKg8 := n_; clear n_; have n_ := Aside0.mk (Kd.R_kept Hw.out hkp_ (fun k_ a_ p_ => p_)); clear Hw; have Hw := n_; clear n_; have n_ := Aside0.mk (Kd.R_kept Hg.out hkp_ (fun k_ a_ p_ => p_)); clear Hg; have Hg := n_; clear n_; have n_ := Aside0.mk (Kd.R_kept Hk.out hkp_ (fun k_ a_ p_ => p_)); clear Hk; have Hk := n_; clear n_; have n_ := Aside0.mk (below_step HB.out hb); clear HB; have HB := n_; clear n_ hkp_; skip; (try clear hb); have zg_0 := blkC1 BKg.out; obtain ⟨zh_0, zh_1, zh_2, zh_3, zh_4⟩ := blkC5 BKh.out; have zg8_0 := blkC1 BKg8.out))
 go_wp2_with (first | ((with_reducible refine gate_callee (f := 28) rfl ?_); refine goesL_ (some 71) rfl rfl Try.func28 (by kernel_rfl) rfl #[.slice Ag q1.length cg, .int .i64 1] rfl (by (try simp only [List.map_toArray, List.map_cons, List.map_nil]); first | done | rfl) ?_; refine (heldBools_len K Ag cg q1m 1 m1 _ q1.length HQ.out (Kd.R_reads' Hg.out) HH.out).mono ?_; rintro e wq ⟨rfl, hd_⟩; have hb := drawn_below hd_; clear hd_; refine ⟨_, rfl, ?_⟩; have hkp_ := Kept.of_below hb (fun _ => False); have sz_ := hkp_.1; (try simp only [drew_heap_, size_alloc_] at sz_); have n_ := Aside0.mk (blk_kept BKg.out hkp_ (fun p_ => p_)); clear BKg; have BKg := n_; clear n_; have n_ := Aside0.mk (blk_kept BKh.out hkp_ (fun p_ => p_)); clear BKh; have BKh := n_; clear n_; have n_ := Aside0.mk (blk_kept BKg8.out hkp_ (fun p_ => p_)); clear BKg8; have BKg8 := n_; clear n_; have n_ := Aside0.mk (Kd.R_kept Hw.out hkp_ (fun k_ a_ p_ => p_)); clear Hw; have Hw := n_; clear n_; have n_ := Aside0.mk (Kd.R_kept Hg.out hkp_ (fun k_ a_ p_ => p_)); clear Hg; have Hg := n_; clear n_; have n_ := Aside0.mk (Kd.R_kept Hk.out hkp_ (fun k_ a_ p_ => p_)); clear Hk; have Hk := n_; clear n_; have n_ := Aside0.mk (below_step HB.out hb); clear HB; have HB := n_; clear n_ hkp_; skip; (try clear hb); have zg_0 := blkC1 BKg.out; obtain ⟨zh_0, zh_1, zh_2, zh_3, zh_4⟩ := blkC5 BKh.out; have zg8_0 := blkC1 BKg8.out))
 go_ret
 exact ⟨rfl, HB.out⟩
end Go.Proofs.Ytcgbbhkjkkpfoaa.P
namespace Go.Proofs.Ytcgbbhkjkkpfoaa.P
open Go.RowKit Go.Proofs.YtcgbbhkjkkpfoaaW.PrintWords Go.Proofs.YtcgbbhkjkkpfoaaW.PrintLast Go.Proofs.YtcgbbhkjkkpfoaaW.PrintMore
theorem C_len {α : Type} {d : Kd α} {w : World} {A : Option Addr} {n : Nat} {l : List α} (h : d.C w A n l) : l.length ≤ ml := by have := h.1; have := h.2.1; unfold ml; omega
theorem lprog_few {w : World} {A : Option Addr} {l : List LStp} (h : Kd.C k90 w A l.length l) : ∀ s, s ∈ l → s.f5.length ≤ ml := fun s hs => by
 obtain ⟨i, hi, rfl⟩ := List.mem_iff_getElem.1 hs
 obtain ⟨ad, c, _, _, hK, _⟩ := Kd.C_get h z90 (i : Int) (by omega) (by omega)
 obtain ⟨A7, c7, _, _, g7⟩ := k90_open hK
 rw [Int.toNat_natCast, List.getD_eq_getElem?_getD, List.getElem?_eq_getElem hi, Option.getD_some] at g7
 exact C_len g7
theorem small_of {l : List LStp} (h : ¬ (if (1048576 : Int) < (l.length + szSum l : Int) then (-1 : Int) else 1048576 - (l.length + szSum l)) < 0) : l.length ≤ 1048576 ∧ ∀ s, s ∈ l → s.f5.length ≤ 1048576 := by
 by_cases c : (1048576 : Int) < (l.length + szSum l : Int)
 ·rw [if_pos c] at h; omega
 ·exact ⟨by omega, fun s hs => by have := szSum_mem hs; omega⟩
theorem eqBoolS_refl_l (l : List Bool) (hl : l.length ≤ 35184372088832) : ∀ (d i : Nat), i + d = l.length → Ev (fun k => laws_eqBoolS.l0 k l l (i : Int)) true
 | 0, i, hd => Ev.step (fun k => by rw [laws_eqBoolS.l0]) (Ev.neg (by omega) (Ev.now _))
 | d + 1, i, hd => by
  refine Ev.step (fun k => by rw [laws_eqBoolS.l0]) ?_
  refine Ev.pos (by omega) (Ev.pos (by omega) (Ev.pos (by omega) (Ev.neg (by simp) ?_)))
  rw [wrapN (by omega)]
  exact eqBoolS_refl_l l hl d (i + 1) (by omega)
theorem eqBoolS_refl (l : List Bool) (hl : l.length ≤ 35184372088832) : Ev (fun k => laws_eqBoolS.f k l l) true := by
 unfold laws_eqBoolS.f
 exact Ev.pos rfl (eqBoolS_refl_l l hl l.length 0 (by omega))
def iotaB : Int → Nat → List Bool
 | _, 0 => []
 | a, n + 1 => (Int.tmod a 3 == 0) :: iotaB (a + 1) n
theorem iotaB_len : ∀ (n : Nat) (a : Int), (iotaB a n).length = n
 | 0, _ => rfl
 | n + 1, a => by unfold iotaB; rw [List.length_cons, iotaB_len n]
theorem iotaB_get : ∀ (n : Nat) (a : Int) (i : Nat) (h : i < (iotaB a n).length), (iotaB a n)[i] = (Int.tmod (a + i) 3 == 0)
 | 0, _, _, h => absurd h (by simp [iotaB])
 | n + 1, a, 0, h => by simp [iotaB]
 | n + 1, a, i + 1, h => by
  simp only [iotaB, List.getElem_cons_succ]
  rw [iotaB_get n, show a + 1 + (i : Int) = a + ((i + 1 : Nat) : Int) by omega]
theorem iotaB_snoc : ∀ (n : Nat) (a : Int), iotaB a (n + 1) = iotaB a n ++ [Int.tmod (a + n) 3 == 0]
 | 0, a => by simp [iotaB]
 | n + 1, a => by
  rw [iotaB, iotaB_snoc n, iotaB]
  rw [show a + 1 + (n : Int) = a + ((n + 1 : Nat) : Int) by omega]; rfl
theorem markBools_loop (l : List Bool) (a : Int) (ha : 0 ≤ a) (hl : a + l.length ≤ 4611686018427387904) : ∀ (d i : Nat) (o : List Bool), i + d = l.length → o.length = l.length → o.take i = iotaB a i →
  Ev (fun k => laws_markBoolS.l0 k o (a + i) (i : Int)) (a + l.length, iotaB a l.length)
 | 0, i, o, hd, ho, ht => by
  refine Ev.step (fun k => by rw [laws_markBoolS.l0]) ?_
  obtain rfl : i = l.length := by omega
  refine Ev.neg (by omega) (Ev.eq (Ev.now _) ?_)
  rw [List.take_of_length_le (by omega)] at ht
  rw [ht]
 | d + 1, i, o, hd, ho, ht => by
  refine Ev.step (fun k => by rw [laws_markBoolS.l0]) ?_
  refine Ev.pos (by omega) (Ev.pos (by omega) ?_)
  rw [wrapN (by omega), wrapI (by omega) (by omega), Int.toNat_natCast, show a + (i : Int) + 1 = a + ((i + 1 : Nat) : Int) by omega]
  refine markBools_loop l a ha hl d (i + 1) _ (by omega) (by rw [List.length_set]; omega) ?_
  rw [List.take_add_one, List.take_set_of_le (Nat.le_refl i), List.getElem?_set_self (by omega), ht, iotaB_snoc]; rfl
theorem markBools_ev (l : List Bool) (a : Int) (ha : 0 ≤ a) (hl : a + l.length ≤ 4611686018427387904) : Ev (fun k => laws_markBoolS.f k l a) (a + l.length, iotaB a l.length) := by
 unfold laws_markBoolS.f
 have h := markBools_loop l a ha hl l.length 0 l (by omega) rfl (by simp [iotaB])
 rw [show a + ((0 : Nat) : Int) = a by omega] at h
 exact h
theorem heldBools_loop (n : Nat) (a : Int) (ha : 0 ≤ a) (hl : a + n ≤ 4611686018427387904) : ∀ (d i : Nat), i + d = n → Ev (fun k => laws_heldBoolS.l0 k (iotaB a n) (a + i) (i : Int)) (a + n)
 | 0, i, hd => by
  refine Ev.step (fun k => by rw [laws_heldBoolS.l0]) (Ev.neg (by rw [iotaB_len]; omega) (Ev.eq (Ev.now _) (by omega)))
 | d + 1, i, hd => by
  have hi : i < (iotaB a n).length := by rw [iotaB_len]; omega
  refine Ev.step (fun k => by rw [laws_heldBoolS.l0]) (Ev.pos (by omega) (Ev.pos (by omega) (Ev.neg ?_ ?_)))
  ·rw [rdB hi, iotaB_get]; simp
  ·rw [wrapN (by omega), wrapI (by omega) (by omega), show a + (i : Int) + 1 = a + ((i + 1 : Nat) : Int) by omega]
   exact heldBools_loop n a ha hl d (i + 1) (by omega)
theorem heldBools_ev (n : Nat) (a : Int) (ha : 0 ≤ a) (hl : a + n ≤ 4611686018427387904) : Ev (fun k => laws_heldBoolS.f k (iotaB a n) a) (a + n) := by
 unfold laws_heldBoolS.f
 have h := heldBools_loop n a ha hl n 0 (by omega)
 rw [show a + ((0 : Nat) : Int) = a by omega] at h
 exact h
end Go.Proofs.Ytcgbbhkjkkpfoaa.P
namespace Go.Proofs.Ytcgbbhkjkkpfoaa.P
open Go.RowKit Go.Proofs.YtcgbbhkjkkpfoaaW.PrintWords Go.Proofs.YtcgbbhkjkkpfoaaW.PrintLast Go.Proofs.YtcgbbhkjkkpfoaaW.PrintMore Lcm Lcm.G
theorem specExprOk_eq (e0 e1 e2 e3 e4 : Int) : spec_ExprOk.f e0 e1 e2 e3 e4 = some (exOkB e0 e1 e2 e3 e4) := by
 unfold spec_ExprOk.f exOkB
 rw [l6In_eq, l1Opnd_eq, l1Opnd_eq]
 cases inB e0 1 4 <;> cases opOkB e1 e2 <;> simp
theorem l12Ok_ev (p : List Stp) (e0 e1 e2 e3 e4 : Int) : Ev (fun k => spec_l12Ok.f k p e0 e1 e2 e3 e4) (progOkB p && exOkB e0 e1 e2 e3 e4) := by
 unfold spec_l12Ok.f
 refine Ev.bind (specProgOk_ev p) (Ev.cases (fun h => ?_) (fun h => ?_))
 ·rw [h]; exact Ev.const (by rw [specExprOk_eq]; simp)
 ·rw [show progOkB p = false by simpa using h]; exact Ev.now _
theorem rd_bl {n i : Nat} {P : Nat → Prop} (h : i < n) : rdOf false (bl n P) (i : Int) = true ↔ P i := by rw [on_rd (by rw [bl_len]; exact h), on_bl]; exact ⟨fun h => h.2, fun q => ⟨h, q⟩⟩
theorem rd_prl {g : G} {n i : Nat} (h : i < n) : rd_L2 (prl g n) (i : Int) = ints (preds g n i) := by rw [rdRow (by rw [prl_len]; exact h)]; unfold prl; simp
theorem map_take {α β : Type} (f : α → β) {l : List α} {i : Nat} (h : i < l.length) : (l.take i).map f ++ [f l[i]] = (l.take (i + 1)).map f := by rw [List.take_add_one, List.getElem?_eq_getElem h, List.map_append]; rfl
theorem comp_yes (e0 e1 e2 e3 e4 : Int) (s : Stp) : yes (CompP e0 e1 e2 e3 e4 s) = (s.f0 == 1 && (s.f2 == e0 && ((s.f3.f0 == e1 && s.f3.f1 == e2) && (s.f4.f0 == e3 && s.f4.f1 == e4)))) := yes_eq (by unfold CompP; simp [and_assoc])
theorem comp_loop (p : List Stp) (hl : p.length ≤ 60) (e0 e1 e2 e3 e4 : Int) : ∀ (d i : Nat), i + d = p.length → Ev (fun k => spec_ExprComp.l0 k ((p.take i).map fun s => yes (CompP e0 e1 e2 e3 e4 s)) (i : Int) p e0 e1 e2 e3 e4) (p.map fun s => yes (CompP e0 e1 e2 e3 e4 s))
 | 0, i, hd => by
  refine Ev.step (fun k => by rw [spec_ExprComp.l0]) (Ev.neg (by omega) (Ev.eq (Ev.now _) ?_))
  rw [List.take_of_length_le (by omega)]
 | d + 1, i, hd => by
  have hi : i < p.length := by omega
  have ih := comp_loop p hl e0 e1 e2 e3 e4 d (i + 1) (by omega)
  rw [← map_take _ hi, comp_yes] at ih
  refine Ev.step (fun k => by rw [spec_ExprComp.l0]) (Ev.pos (by omega) (Ev.pos (by omega) ?_))
  rw [rdS hi, wrapN (by omega)]
  have hlen : (List.map (fun s => yes (CompP e0 e1 e2 e3 e4 s)) (List.take i p)).length < 140737488355328 := by rw [List.length_map, List.length_take]; omega
  refine Ev.cases (fun h => ?_) (fun h => ?_)
  ·unfold spec_l11Of.f
   refine Ev.put (Ev.pos hlen ?_)
   rw [show (p[i].f0 == 1) = true from beq_iff_eq.2 h, Bool.true_and] at ih
   exact ih
  ·rw [show (p[i].f0 == 1) = false from beq_eq_false_iff_ne.2 h, Bool.false_and] at ih
   exact Ev.pos hlen ih
theorem specComp_ev (p : List Stp) (e0 e1 e2 e3 e4 : Int) : Ev (fun k => spec_ExprComp.f k p e0 e1 e2 e3 e4) (safeL (fun g => g.comp) p e0 e1 e2 e3 e4) := by
 unfold spec_ExprComp.f safeL
 refine Ev.put (Ev.bind (specProgOk_ev p) (Ev.cases (fun h => ?_) (fun h => ?_)))
 ·refine Ev.bind (Ev.const (specExprOk_eq _ _ _ _ _)) (Ev.step (fun k => by rw [spec_ExprComp.j0]) (Ev.cases (fun h2 => ?_) (fun h2 => ?_)))
  ·rw [if_neg (by rw [h]; simpa using h2)]; exact Ev.now _
  ·rw [if_pos (by rw [h]; simpa using h2), ← map_comp]
   exact comp_loop p (progOk_len h).2 _ _ _ _ _ p.length 0 (by omega)
 ·rw [if_neg (by simp [h])]
  refine Ev.step (fun k => by rw [spec_ExprComp.j0]) ?_
  exact Ev.pos rfl (Ev.now _)
theorem keeps_loop (p : List Stp) (hp : progOkB p = true) (e0 e1 e2 e3 e4 : Int) : ∀ (d i : Nat), i + d = p.length → Ev (fun k => spec_ExprKeeps.l0 k ((p.take i).map fun s => yes (KeepsP e1 e3 s)) (i : Int) p e0 e1 e2 e3 e4) (p.map fun s => yes (KeepsP e1 e3 s))
 | 0, i, hd => by
  refine Ev.step (fun k => by rw [spec_ExprKeeps.l0]) (Ev.neg (by omega) (Ev.eq (Ev.now _) ?_))
  rw [List.take_of_length_le (by omega)]
 | d + 1, i, hd => by
  have hi : i < p.length := by omega
  have hl := (progOk_len hp).2
  have ih := keeps_loop p hp e0 e1 e2 e3 e4 d (i + 1) (by omega)
  rw [← map_take _ hi] at ih
  have hs := progOk_step hp (List.getElem_mem hi)
  have hk := stepOk_kind hs
  have hd1 : chB p[i].f0 = true → 0 ≤ p[i].f1 := fun hc => by
   unfold stepOkB at hs
   simp [hc] at hs
   have := hs.2.2.2.1
   unfold inB at this
   simp at this
   exact this.1
  refine Ev.step (fun k => by rw [spec_ExprKeeps.l0]) (Ev.pos (by omega) (Ev.pos (by omega) ?_))
  rw [rdS hi, wrapN (by omega)]
  have hlen : (List.map (fun s => yes (KeepsP e1 e3 s)) (List.take i p)).length < 140737488355328 := by rw [List.length_map, List.length_take]; omega
  have hset : spec_l11Sets.f p[i].f0 p[i].f1 p[i].f2 p[i].f3.f0 p[i].f3.f1 p[i].f4.f0 p[i].f4.f1 p[i].f5 = some (if chB p[i].f0 = true then p[i].f1 else -1) := by
   unfold spec_l11Sets.f chB inB
   by_cases h1 : p[i].f0 = 1
   ·simp [h1]
   by_cases h2 : p[i].f0 = 2
   ·simp [h2]
   by_cases h3 : p[i].f0 = 3
   ·simp [h3]
   rw [if_neg h1, if_neg h2, if_neg h3, if_neg]
   simp; omega
  refine Ev.bind (Ev.const hset) ?_
  by_cases hc : chB p[i].f0 = true
  ·rw [if_pos hc]
   refine Ev.neg (by have := hd1 hc; omega) (Ev.cases (fun h => ?_) (fun h => ?_))
   ·rw [yes_neg (P := KeepsP e1 e3 p[i]) (fun c => c ⟨hc, .inl h.symm⟩)] at ih
    exact Ev.pos hlen ih
   ·rw [yes_eq (P := KeepsP e1 e3 p[i]) (r := p[i].f1 != e3) (by unfold KeepsP; simp [hc]; exact ⟨fun q => ⟨fun c => h c.symm, fun c => q c.symm⟩, fun q c => q.2 c.symm⟩)] at ih
    exact Ev.pos hlen ih
  ·rw [if_neg hc]
   rw [yes_pos (P := KeepsP e1 e3 p[i]) (fun c => hc c.1)] at ih
   exact Ev.pos (by omega) (Ev.pos hlen ih)
theorem specKeeps_ev (p : List Stp) (e0 e1 e2 e3 e4 : Int) : Ev (fun k => spec_ExprKeeps.f k p e0 e1 e2 e3 e4) (safeL (fun g => g.keeps) p e0 e1 e2 e3 e4) := by
 unfold spec_ExprKeeps.f safeL
 refine Ev.put (Ev.bind (specProgOk_ev p) (Ev.cases (fun h => ?_) (fun h => ?_)))
 ·refine Ev.bind (Ev.const (specExprOk_eq _ _ _ _ _)) (Ev.step (fun k => by rw [spec_ExprKeeps.j0]) (Ev.cases (fun h2 => ?_) (fun h2 => ?_)))
  ·rw [if_neg (by rw [h]; simpa using h2)]; exact Ev.now _
  ·rw [if_pos (by rw [h]; simpa using h2), ← map_keeps]
   exact keeps_loop p h _ _ _ _ _ p.length 0 (by omega)
 ·rw [if_neg (by simp [h])]
  refine Ev.step (fun k => by rw [spec_ExprKeeps.j0]) ?_
  exact Ev.pos rfl (Ev.now _)
section
variable {g : G} {p : List Stp}
def RchI (g : G) (n : Nat) (l : List Bool) : Prop := LInv g.Reach n l ∧ on l 0
theorem sreach_in (hf : Fit g p) (r s : List Bool) (a : Bool) (i : Nat) (hi : i < p.length) (hI : RchI g p.length s)
  (K : ∀ s' a', RchI g p.length s' → (a' = a ∧ s' = s ∧ ¬ (on s i ∧ ∃ k, k ∈ g.next i ∧ ¬ on s k) ∨ a' = true ∧ p.length - many s' < p.length - many s) → Ev (fun k => spec_FlowReach.l1 k s' a' ((i + 1 : Nat) : Int) p) r) :
  ∀ (d t : Nat) (l : List Bool) (b : Bool), t + d = (g.next i).length → RchI g p.length l → (b = a ∧ l = s ∧ (∀ k, k ∈ (g.next i).take t → on s k) ∨ b = true ∧ p.length - many l < p.length - many s) → Ev (fun k => spec_FlowReach.l2 k l b (i : Int) (t : Int) p) r
 | 0, t, l, b, hd, hl, h => by
  have htwo := hf.two i hi
  have hfew := hf.few
  refine Ev.step (fun k => by rw [spec_FlowReach.l2]) ?_
  rw [rdS hi, hf.next i hi, ints_len]
  refine Ev.pos (by omega) (Ev.pos (by omega) (Ev.neg (by omega) (Ev.step (fun k => by rw [spec_FlowReach.j3]) (Ev.neg (by decide) ?_))))
  rw [wrapN (by omega)]
  exact K l b hl (h.imp (fun ⟨h1, h2, h3⟩ => ⟨h1, h2, fun ⟨_, k, hk, hn⟩ => hn (h3 k (by rw [List.take_of_length_le (by omega)]; exact hk))⟩) id)
 | d + 1, t, l, b, hd, hl, h => by
  have htwo := hf.two i hi
  have hfew := hf.few
  have ht : t < (g.next i).length := by omega
  have hlt := hf.lt i hi _ (List.getElem_mem ht)
  have hlen := hl.1.len
  have htk : ∀ j, j ∈ (g.next i).take (t + 1) → j ∈ (g.next i).take t ∨ j = (g.next i)[t] := fun j => by
   rw [List.take_add_one, List.getElem?_eq_getElem ht, List.mem_append]; simp
  refine Ev.step (fun k => by rw [spec_FlowReach.l2]) ?_
  rw [rdS hi, hf.next i hi]
  refine Ev.pos (by omega) (Ev.pos (by omega) (Ev.pos (by rw [ints_len]; omega) (Ev.pos (by omega) (Ev.step (fun k => by rw [spec_FlowReach.j3]) (Ev.cases (fun ho => ?_) (fun ho => ?_))))))
  ·have hon : on l i := (on_rd (by omega)).1 ho
   rw [rdS hi, hf.next i hi, rd_ints ht, Int.toNat_natCast]
   refine Ev.pos (by omega) (Ev.pos (by omega) (Ev.pos (by omega) (Ev.pos (by rw [ints_len]; omega) (Ev.pos (by omega) (Ev.pos (by omega) ?_)))))
   rw [wrapN (by omega)]
   refine Ev.cases (fun hk => ?_) (fun hk => ?_)
   ·have hk2 : on l (g.next i)[t] := (on_rd (by omega)).1 hk
    refine sreach_in hf r s a i hi hI K d (t + 1) l b (by omega) hl (h.imp (fun ⟨h1, h2, h3⟩ => ⟨h1, h2, fun j hj => (htk j hj).elim (h3 j) fun e => by rw [e, ← h2]; exact hk2⟩) id)
   ·have hk2 : ¬ on l (g.next i)[t] := fun c => hk ((on_rd (by omega)).2 c)
    have hm := many_on (by omega) hk2
    have hml := many_le (l.set (g.next i)[t] true)
    rw [List.length_set, hlen] at hml
    refine sreach_in hf r s a i hi hI K d (t + 1) _ true (by omega) ⟨hl.1.on hlt (.step (hl.1.sub i hon) (List.getElem_mem ht)), (on_on (by omega)).2 (.inl hl.2)⟩ (.inr ⟨rfl, ?_⟩)
    rcases h with ⟨_, h2, _⟩ | ⟨_, h2⟩
    ·rw [h2] at hm hml; rw [h2]; omega
    ·omega
  ·have hoff : ¬ on l i := fun c => ho ((on_rd (by omega)).2 c)
   rw [wrapN (by omega)]
   exact K l b hl (h.imp (fun ⟨h1, h2, h3⟩ => ⟨h1, h2, fun ⟨c, _⟩ => hoff (by rw [h2]; exact c)⟩) id)
theorem sreach_ev (hf : Fit g p) (hp : progOkB p = true) : Ev (fun k => spec_FlowReach.f k p) (bl p.length g.Reach) := by
 have hfew := hf.few
 have hpos := hf.pos
 have hs : 0 < (List.replicate p.length false).length := by rw [List.length_replicate]; exact hpos
 unfold spec_FlowReach.f
 rw [Int.toNat_natCast]
 refine Ev.bind (specProgOk_ev p) (Ev.pos hp (Ev.pos (by omega) (Ev.pos (by omega) (Ev.put (Ev.pos (by rw [List.length_replicate]; omega) ?_)))))
 refine sweep (RchI g p.length) (fun l => p.length - many l) p.length (fun i l => on l i ∧ ∃ k, k ∈ g.next i ∧ ¬ on l k) (fun l a => Ev (fun k => spec_FlowReach.l0 k l a p) (bl p.length g.Reach)) (fun i l a => Ev (fun k => spec_FlowReach.l1 k l a (i : Int) p) (bl p.length g.Reach)) ?_ ?_ ?_ ?_ _ ⟨(LInv.start g.Reach p.length).on hpos .zero, (on_on hs).2 (.inr rfl)⟩
 ·intro l hl h
  refine Ev.step (fun k => by rw [spec_FlowReach.l0]) ?_
  exact Ev.pos rfl h
 ·intro l hl h
  have e : l = bl p.length g.Reach := eq_bl hl.1.len fun i hi => ⟨hl.1.sub i, fun hr => by
   clear hi
   induction hr with
   | zero => exact hl.2
   | step hu hn ih => exact Classical.byContradiction fun c => h _ (hf.reach _ hu) ⟨ih, _, hn, c⟩⟩
  rw [e]
  refine Ev.step (fun k => by rw [spec_FlowReach.l0]) ?_
  exact Ev.neg (by decide) (Ev.now _)
 ·intro i l a hi hl K
  refine Ev.step (fun k => by rw [spec_FlowReach.l1]) (Ev.pos (by omega) ?_)
  exact sreach_in hf _ l a i hi hl K _ 0 l a (Nat.zero_add _) hl (.inl ⟨rfl, rfl, fun k hk => by simp at hk⟩)
 ·intro l a hl h
  refine Ev.step (fun k => by rw [spec_FlowReach.l1]) ?_
  exact Ev.neg (by omega) h
theorem goes_iff (hf : Fit g p) {k i : Nat} (hk : k < p.length) : ((i : Int) ∈ p[k].f5) ↔ i ∈ g.next k := by
  rw [hf.next k hk]
  unfold ints
  rw [List.mem_map]
  exact ⟨fun ⟨a, h1, h2⟩ => by have : a = i := by omega
                               rwa [this] at h1, fun h => ⟨i, h, rfl⟩⟩
theorem spreds_in (hf : Fit g p) (r rows : List (List Int)) (i : Nat) (hr : rows.length ≤ 60) (K : Ev (fun k => spec_FlowPreds.l0 k (rows ++ [ints (preds g p.length i)]) (bl p.length g.Reach) (wrap64 ((i : Int) + 1)) p) r) :
  ∀ (d j : Nat), j + d = p.length → Ev (fun k => spec_FlowPreds.l1 k rows (bl p.length g.Reach) (i : Int) (ints ((List.range j).filter fun u => yes (g.Pred u i))) (j : Int) p) r
 | 0, j, hd => by
  obtain rfl : p.length = j := by omega
  refine Ev.step (fun k => by rw [spec_FlowPreds.l1]) ?_
  exact Ev.neg (by omega) (Ev.pos (by omega) K)
 | d + 1, j, hd => by
  have hj : j < p.length := by omega
  have hfew := hf.few
  have hle := List.length_filter_le (fun u => yes (g.Pred u i)) (List.range j)
  rw [List.length_range] at hle
  have ih := spreds_in hf r rows i hr K d (j + 1) (by omega)
  rw [List.range_succ, List.filter_append] at ih
  refine Ev.step (fun k => by rw [spec_FlowPreds.l1]) (Ev.pos (by omega) (Ev.pos (by omega) (Ev.pos (by rw [bl_len]; omega) ?_)))
  rw [rdS hj, wrapN (by omega)]
  refine Ev.cases (fun h => ?_) (fun h => ?_)
  ·have hr : g.Reach j := (rd_bl hj).1 h
   refine Ev.bind (goes_ev p[j] (i : Int) (by rw [hf.next j hj, ints_len]; have := hf.two j hj; omega)) (Ev.cases (fun h2 => ?_) (fun h2 => ?_))
   ·have hp : g.Pred j i := ⟨hr, (goes_iff hf hj).1 (by simpa using h2)⟩
    rw [show List.filter (fun u => yes (g.Pred u i)) [j] = [j] by simp [List.filter_cons, yes_iff.2 hp]] at ih
    refine Ev.pos (by rw [ints_len]; omega) ?_
    unfold ints at ih ⊢
    rw [List.map_append] at ih
    exact ih
   ·have hp : ¬ g.Pred j i := fun c => h2 (by simpa using (goes_iff hf hj).2 c.2)
    rw [show List.filter (fun u => yes (g.Pred u i)) [j] = [] by simp [List.filter_cons, yes_neg hp], List.append_nil] at ih
    exact ih
  ·have hp : ¬ g.Pred j i := fun c => h ((rd_bl hj).2 c.1)
   rw [show List.filter (fun u => yes (g.Pred u i)) [j] = [] by simp [List.filter_cons, yes_neg hp], List.append_nil] at ih
   exact ih
theorem spreds_loop (hf : Fit g p) : ∀ (d i : Nat), i + d = p.length → Ev (fun k => spec_FlowPreds.l0 k ((List.range i).map fun i => ints (preds g p.length i)) (bl p.length g.Reach) (i : Int) p) (prl g p.length)
 | 0, i, hd => by
  obtain rfl : p.length = i := by omega
  refine Ev.step (fun k => by rw [spec_FlowPreds.l0]) ?_
  exact Ev.neg (by omega) (Ev.now _)
 | d + 1, i, hd => by
  have hi : i < p.length := by omega
  have hfew := hf.few
  refine Ev.step (fun k => by rw [spec_FlowPreds.l0]) (Ev.pos (by omega) ?_)
  refine spreds_in hf _ _ i (by rw [List.length_map, List.length_range]; omega) ?_ p.length 0 (by omega)
  rw [wrapN (by omega)]
  have ih := spreds_loop hf d (i + 1) (by omega)
  rw [List.range_succ, List.map_append] at ih
  exact ih
theorem spreds_ev (hf : Fit g p) (hp : progOkB p = true) : Ev (fun k => spec_FlowPreds.f k p) (prl g p.length) := by
 unfold spec_FlowPreds.f
 exact Ev.put (Ev.bind (specProgOk_ev p) (Ev.pos hp (Ev.bind (sreach_ev hf hp) (spreds_loop hf p.length 0 (by omega)))))
theorem sall_ev (hf : Fit g p) (hp : progOkB p = true) : Ev (fun k => spec_l12All.f k p) (bl p.length g.Reach) := by
 have hfew := hf.few
 unfold spec_l12All.f
 refine Ev.put (Ev.bind (sreach_ev hf hp) (Ev.pos (by rw [bl_len]; simp; omega) (Ev.now _)))
theorem each_loop (l : List Bool) (ks : List Nat) (hk : ∀ k, k ∈ ks → k < l.length) (hl : ks.length ≤ 60) : ∀ (d i : Nat), i + d = ks.length → Ev (fun k => spec_l12Each.l0 k l (ints ks) (i : Int)) (yes (∀ k, k ∈ ks.drop i → on l k))
 | 0, i, hd => by
  refine Ev.step (fun k => by rw [spec_l12Each.l0]) (Ev.neg (by rw [ints_len]; omega) (Ev.eq (Ev.now _) ?_))
  rw [List.drop_eq_nil_of_le (by omega), yes_pos (by simp)]
 | d + 1, i, hd => by
  have hi : i < ks.length := by omega
  have hlt := hk _ (List.getElem_mem hi)
  refine Ev.step (fun k => by rw [spec_l12Each.l0]) ?_
  rw [rd_ints hi, wrapN (by omega)]
  refine Ev.pos (by rw [ints_len]; omega) (Ev.pos (by omega) (Ev.pos (by omega) (Ev.pos (by omega) (Ev.cases (fun h => ?_) (fun h => ?_)))))
  ·refine Ev.eq (each_loop l ks hk hl d (i + 1) (by omega)) (yes_congr ?_)
   rw [drop_at hi]
   exact ⟨fun q k hk => (List.mem_cons.1 hk).elim (fun e => e ▸ (on_rd hlt).1 h) (q k), fun q k hk => q k (List.mem_cons_of_mem _ hk)⟩
  ·refine Ev.eq (Ev.now _) (yes_neg fun q => h ((on_rd hlt).2 (q _ ?_))).symm
   rw [drop_at hi]; exact List.mem_cons_self
theorem seach_ev (l : List Bool) (ks : List Nat) (hk : ∀ k, k ∈ ks → k < l.length) (hl : ks.length ≤ 60) : Ev (fun k => spec_l12Each.f k l (ints ks)) (yes (∀ k, k ∈ ks → on l k)) := by
 unfold spec_l12Each.f
 exact Ev.eq (each_loop l ks hk hl ks.length 0 (by omega)) (by rw [List.drop_zero])
end
theorem safe_of {P : G → Nat → Prop} {p : List Stp} {e0 e1 e2 e3 e4 : Int} {f : Nat → Option (List Bool)} (h : Ev f (safeL P p e0 e1 e2 e3 e4)) (hok : (progOkB p && exOkB e0 e1 e2 e3 e4) = true) : Ev f (bl p.length (P (gOf p e0 e1 e2 e3 e4))) := by
 unfold safeL at h; rwa [if_pos hok] at h
theorem safe_no {P : G → Nat → Prop} {p : List Stp} {e0 e1 e2 e3 e4 : Int} {f : Nat → Option (List Bool)} (h : Ev f (safeL P p e0 e1 e2 e3 e4)) (hok : ¬ (progOkB p && exOkB e0 e1 e2 e3 e4) = true) : Ev f [] := by
 unfold safeL at h; rwa [if_neg hok] at h
theorem ok_l {a b : Bool} (h : (a && b) = true) : a = true := by cases a <;> simp_all
section
variable {g : G} {p : List Stp}
theorem sdown_loop (hf : Fit g p) : Ev (fun k => spec_SafeDown.l0 k (bl p.length g.Reach) (bl p.length g.comp) (bl p.length g.keeps) true p) (bl p.length g.Down) := by
 have hfew := hf.few
 refine gfp_sweep g.downF_mono hf.reach (fun l a => Ev (fun k => spec_SafeDown.l0 k l (bl p.length g.comp) (bl p.length g.keeps) a p) (bl p.length g.Down)) (fun i l a => Ev (fun k => spec_SafeDown.l1 k l (bl p.length g.comp) (bl p.length g.keeps) a (i : Int) p) (bl p.length g.Down)) ?_ ?_ ?_ ?_ _ GInv.start
 ·intro l hl h
  refine Ev.step (fun k => by rw [spec_SafeDown.l0]) ?_
  exact Ev.pos rfl h
 ·refine Ev.step (fun k => by rw [spec_SafeDown.l0]) ?_
  exact Ev.neg (by decide) (Ev.now _)
 ·intro i l a hi hl K1 K2
  have hlen := hl.len
  refine Ev.step (fun k => by rw [spec_SafeDown.l1]) (Ev.pos (by omega) (Ev.pos (by omega) ?_))
  rw [rdS hi, hf.next i hi, ints_len, wrapN (by omega), Int.toNat_natCast]
  refine Ev.cases (fun h => ?_) (fun h => ?_)
  ·have ho : on l i := (on_rd (by omega)).1 h
   refine Ev.pos (by rw [bl_len]; omega) (Ev.cases (fun h1 => ?_) (fun h1 => ?_))
   ·exact K2 fun _ => .inl ((rd_bl hi).1 h1)
   ·have hc : ¬ g.comp i := fun c => h1 ((rd_bl hi).2 c)
    refine Ev.pos (by rw [bl_len]; omega) (Ev.cases (fun h2 => ?_) (fun h2 => ?_))
    ·refine Ev.pos (by omega) (Ev.cases (fun h3 => ?_) (fun h3 => ?_))
     ·exact K1 ho fun c => (c.resolve_left hc).2.1 (List.eq_nil_of_length_eq_zero (by omega))
     ·refine Ev.bind (seach_ev l (g.next i) (fun k hk => by have := hf.lt i hi k hk; omega) (by have := hf.two i hi; omega)) (Ev.cases (fun h4 => ?_) (fun h4 => ?_))
      ·exact K2 fun _ => .inr ⟨(rd_bl hi).1 h2, fun e => h3 (by rw [e]; rfl), yes_iff.1 h4⟩
      ·exact K1 ho fun c => h4 (yes_iff.2 (c.resolve_left hc).2.2)
    ·exact K1 ho fun c => h2 ((rd_bl hi).2 (c.resolve_left hc).1)
  ·exact K2 fun c => absurd ((on_rd (by omega)).2 c) h
 ·intro l a hl h
  have hlen := hl.len
  refine Ev.step (fun k => by rw [spec_SafeDown.l1]) ?_
  exact Ev.neg (by omega) h
theorem sup_in (hf : Fit g p) (r s : List Bool) (a : Bool) (i : Nat) (hi : i < p.length) (hs : GInv g g.UpF p.length s) (hz : ¬ on s 0)
  (K1 : on s i → ¬ g.UpF (on s) i → Ev (fun k => spec_SafeUp.l1 k (s.set i false) (bl p.length g.comp) (bl p.length g.keeps) (prl g p.length) true ((i + 1 : Nat) : Int)) r)
  (K2 : (on s i → g.UpF (on s) i) → Ev (fun k => spec_SafeUp.l1 k s (bl p.length g.comp) (bl p.length g.keeps) (prl g p.length) a ((i + 1 : Nat) : Int)) r) :
  ∀ (d t : Nat), t + d = (preds g p.length i).length → (∀ u, u ∈ (preds g p.length i).take t → g.keeps u ∧ (g.comp u ∨ on s u)) → Ev (fun k => spec_SafeUp.l2 k s (bl p.length g.comp) (bl p.length g.keeps) (prl g p.length) a (i : Int) (t : Int)) r
 | 0, t, hd, ht => by
  have hfew := hf.few
  have hpl := preds_len g p.length i
  refine Ev.step (fun k => by rw [spec_SafeUp.l2]) ?_
  rw [rd_prl hi, ints_len]
  refine Ev.pos (by omega) (Ev.pos (by rw [prl_len]; omega) (Ev.neg (by omega) (Ev.step (fun k => by rw [spec_SafeUp.j3]) (Ev.neg (by decide) ?_))))
  rw [wrapN (by omega)]
  refine K2 fun ho => ⟨?_, (pred_all hf i _).1 fun u hu => ht u (by rw [List.take_of_length_le (by omega)]; exact hu)⟩
  rcases Nat.eq_zero_or_pos i with e | e
  ·exact absurd (e ▸ ho) hz
  ·exact e
 | d + 1, t, hd, ht => by
  have hfew := hf.few
  have hpl := preds_len g p.length i
  have hlen := hs.len
  have htl : t < (preds g p.length i).length := by omega
  have hm := mem_preds.1 (List.getElem_mem htl)
  have htk : ∀ j, j ∈ (preds g p.length i).take (t + 1) → j ∈ (preds g p.length i).take t ∨ j = (preds g p.length i)[t] := fun j => by
   rw [List.take_add_one, List.getElem?_eq_getElem htl, List.mem_append]; simp
  have fall : ¬ (g.keeps (preds g p.length i)[t] ∧ (g.comp (preds g p.length i)[t] ∨ on s (preds g p.length i)[t])) → on s i → Ev (fun k => spec_SafeUp.l2 k (s.set i false) (bl p.length g.comp) (bl p.length g.keeps) (prl g p.length) true (i : Int) (wrap64 ((t : Int) + 1))) r := fun hn ho => by
   have hk := K1 ho fun c => hn (c.2 _ hm.2)
   have hoff : ¬ on (s.set i false) i := fun c => (on_off.1 c).2 rfl
   have e : rdOf false (s.set i false) (i : Int) = false := by cases q : rdOf false (s.set i false) (i : Int) with
    | false => rfl
    | true => exact absurd ((on_rd (by rw [List.length_set]; omega)).1 q) hoff
   refine Ev.step (fun k => by rw [spec_SafeUp.l2]) ?_
   rw [rd_prl hi, ints_len, e]
   refine Ev.pos (by omega) (Ev.pos (by rw [prl_len]; omega) (Ev.cases (fun _ => Ev.pos (by rw [List.length_set]; omega) ?_) (fun _ => ?_)))
   all_goals
    refine Ev.step (fun k => by rw [spec_SafeUp.j3]) (Ev.neg (by decide) ?_)
    rw [wrapN (by omega)]
    exact hk
  refine Ev.step (fun k => by rw [spec_SafeUp.l2]) ?_
  rw [rd_prl hi, ints_len]
  refine Ev.pos (by omega) (Ev.pos (by rw [prl_len]; omega) (Ev.pos (by omega) (Ev.pos (by omega) (Ev.step (fun k => by rw [spec_SafeUp.j3]) (Ev.cases (fun ho => ?_) (fun ho => ?_))))))
  ·have hon : on s i := (on_rd (by omega)).1 ho
   rw [rd_prl hi, rd_ints htl, ints_len, Int.toNat_natCast]
   refine Ev.pos (by omega) (Ev.pos (by rw [prl_len]; omega) (Ev.pos (by omega) (Ev.pos (by omega) (Ev.pos (by omega) (Ev.pos (by rw [bl_len]; omega) (Ev.cases (fun h1 => ?_) (fun h1 => ?_)))))))
   ·refine Ev.pos (by rw [bl_len]; omega) (Ev.cases (fun h2 => ?_) (fun h2 => ?_))
    ·rw [wrapN (by omega)]
     exact sup_in hf r s a i hi hs hz K1 K2 d (t + 1) (by omega) fun u hu => (htk u hu).elim (ht u) fun e => by rw [e]; exact ⟨(rd_bl hm.1).1 h1, .inl ((rd_bl hm.1).1 h2)⟩
    ·refine Ev.pos (by omega) (Ev.cases (fun h3 => ?_) (fun h3 => ?_))
     ·rw [wrapN (by omega)]
      exact sup_in hf r s a i hi hs hz K1 K2 d (t + 1) (by omega) fun u hu => (htk u hu).elim (ht u) fun e => by rw [e]; exact ⟨(rd_bl hm.1).1 h1, .inr ((on_rd (by omega)).1 h3)⟩
     ·exact Ev.pos (by omega) (fall (fun c => c.2.elim (fun c => h2 ((rd_bl hm.1).2 c)) fun c => h3 ((on_rd (by omega)).2 c)) hon)
   ·exact Ev.pos (by omega) (fall (fun c => h1 ((rd_bl hm.1).2 c.1)) hon)
  ·rw [wrapN (by omega)]
   exact K2 fun c => absurd ((on_rd (by omega)).2 c) ho
theorem sup_loop (hf : Fit g p) : Ev (fun k => spec_SafeUp.l0 k ((bl p.length g.Reach).set 0 false) (bl p.length g.comp) (bl p.length g.keeps) (prl g p.length) true) (bl p.length g.Up) := by
 have hfew := hf.few
 refine sweep (fun l => GInv g g.UpF p.length l ∧ ¬ on l 0) many p.length (fun i l => on l i ∧ ¬ g.UpF (on l) i) (fun l a => Ev (fun k => spec_SafeUp.l0 k l (bl p.length g.comp) (bl p.length g.keeps) (prl g p.length) a) (bl p.length g.Up)) (fun i l a => Ev (fun k => spec_SafeUp.l1 k l (bl p.length g.comp) (bl p.length g.keeps) (prl g p.length) a (i : Int)) (bl p.length g.Up)) ?_ ?_ ?_ ?_ _ ⟨GInv.start.off g.upF_mono hf.reach (fun c => absurd c.1 (by omega)), fun c => (on_off.1 c).2 rfl⟩
 ·intro l hl h
  refine Ev.step (fun k => by rw [spec_SafeUp.l0]) ?_
  exact Ev.pos rfl h
 ·intro l hl h
  have e : l = bl p.length g.Up := hl.1.done (fun j hj => Classical.byContradiction fun c => h j (by rw [← hl.1.len]; exact on_lt hj) ⟨hj, c⟩)
  rw [e]
  refine Ev.step (fun k => by rw [spec_SafeUp.l0]) ?_
  exact Ev.neg (by decide) (Ev.now _)
 ·intro i l a hi hl K
  have hlen := hl.1.len
  refine Ev.step (fun k => by rw [spec_SafeUp.l1]) (Ev.pos (by omega) ?_)
  refine sup_in hf _ l a i hi hl.1 hl.2 (fun h1 h2 => ?_) (fun h => ?_) _ 0 (Nat.zero_add _) (fun u hu => by simp at hu)
  ·exact K _ _ ⟨hl.1.off g.upF_mono hf.reach h2, fun c => hl.2 (on_off.1 c).1⟩ (.inr ⟨rfl, by have := many_off h1; omega⟩)
  ·exact K _ _ hl (.inl ⟨rfl, rfl, fun c => c.2 (h c.1)⟩)
 ·intro l a hl h
  have hlen := hl.1.len
  refine Ev.step (fun k => by rw [spec_SafeUp.l1]) ?_
  exact Ev.neg (by omega) h
theorem searly_in (hf : Fit g p) (r l : List Bool) (i : Nat) (hi : i < p.length) (hl : l.length = p.length)
  (K : ∀ b : Bool, (b = true ↔ ∃ u, g.Pred u i ∧ ¬ (g.keeps u ∧ (g.Down u ∨ g.Up u))) → Ev (fun k => if (i : Int) < (l.length : Int) then (if rdOf false l (i : Int) = true then spec_SafeEarly.l0 k (l.set ((i : Int)).toNat b) (bl p.length g.Down) (bl p.length g.Up) (bl p.length g.keeps) (prl g p.length) (wrap64 ((i : Int) + 1)) else spec_SafeEarly.l0 k (l.set ((i : Int)).toNat false) (bl p.length g.Down) (bl p.length g.Up) (bl p.length g.keeps) (prl g p.length) (wrap64 ((i : Int) + 1))) else none) r) :
  ∀ (d t : Nat) (b : Bool), t + d = (preds g p.length i).length → (b = true ↔ ∃ u, u ∈ (preds g p.length i).take t ∧ ¬ (g.keeps u ∧ (g.Down u ∨ g.Up u))) → Ev (fun k => spec_SafeEarly.l1 k l (bl p.length g.Down) (bl p.length g.Up) (bl p.length g.keeps) (prl g p.length) (i : Int) b (t : Int)) r
 | 0, t, b, hd, hb => by
  refine Ev.step (fun k => by rw [spec_SafeEarly.l1]) ?_
  rw [rd_prl hi, ints_len]
  refine Ev.pos (by omega) (Ev.pos (by rw [prl_len]; omega) (Ev.neg (by omega) (K b ?_)))
  rw [hb, List.take_of_length_le (by omega)]
  exact ⟨fun ⟨u, h1, h2⟩ => ⟨u, (mem_preds.1 h1).2, h2⟩, fun ⟨u, h1, h2⟩ => ⟨u, mem_preds.2 ⟨hf.reach u h1.1, h1⟩, h2⟩⟩
 | d + 1, t, b, hd, hb => by
  have hfew := hf.few
  have hpl := preds_len g p.length i
  have htl : t < (preds g p.length i).length := by omega
  have hm := mem_preds.1 (List.getElem_mem htl)
  have htk : ∀ j, j ∈ (preds g p.length i).take (t + 1) ↔ j ∈ (preds g p.length i).take t ∨ j = (preds g p.length i)[t] := fun j => by
   rw [List.take_add_one, List.getElem?_eq_getElem htl, List.mem_append]; simp
  have yes_ : ¬ (g.keeps (preds g p.length i)[t] ∧ (g.Down (preds g p.length i)[t] ∨ g.Up (preds g p.length i)[t])) → (true = true ↔ ∃ u, u ∈ (preds g p.length i).take (t + 1) ∧ ¬ (g.keeps u ∧ (g.Down u ∨ g.Up u))) := fun h => ⟨fun _ => ⟨_, (htk _).2 (.inr rfl), h⟩, fun _ => rfl⟩
  have no_ : b = false → (g.keeps (preds g p.length i)[t] ∧ (g.Down (preds g p.length i)[t] ∨ g.Up (preds g p.length i)[t])) → (false = true ↔ ∃ u, u ∈ (preds g p.length i).take (t + 1) ∧ ¬ (g.keeps u ∧ (g.Down u ∨ g.Up u))) := by
   intro hb0 h
   constructor
   ·intro c; cases c
   ·rintro ⟨u, h1, h2⟩
    rcases (htk u).1 h1 with h1 | h1
    ·rw [hb0] at hb; exact hb.2 ⟨u, h1, h2⟩
    ·exact absurd h (h1 ▸ h2)
  refine Ev.step (fun k => by rw [spec_SafeEarly.l1]) ?_
  rw [rd_prl hi, rd_ints htl, ints_len, wrapN (n := t) (by omega)]
  refine Ev.pos (by omega) (Ev.pos (by rw [prl_len]; omega) (Ev.pos (by omega) (Ev.pos (by omega) (Ev.cases (fun h => ?_) (fun h => ?_)))))
  ·refine searly_in hf r l i hi hl K d (t + 1) true (by omega) ⟨fun _ => ?_, fun _ => rfl⟩
   obtain ⟨u, h1, h2⟩ := hb.1 h
   exact ⟨u, (htk u).2 (.inl h1), h2⟩
  ·have hb0 : b = false := by simpa using h
   refine Ev.pos (by omega) (Ev.pos (by rw [bl_len]; omega) (Ev.cases (fun h1 => ?_) (fun h1 => ?_)))
   ·have hk := (rd_bl hm.1).1 h1
    refine Ev.pos (by rw [bl_len]; omega) (Ev.cases (fun h2 => ?_) (fun h2 => ?_))
    ·exact searly_in hf r l i hi hl K d (t + 1) false (by omega) (no_ hb0 ⟨hk, .inl ((rd_bl hm.1).1 h2)⟩)
    ·refine Ev.pos (by rw [bl_len]; omega) ?_
     have h2' : ¬ g.Down (preds g p.length i)[t] := fun c => h2 ((rd_bl hm.1).2 c)
     cases h3 : rdOf false (bl p.length g.Up) ((preds g p.length i)[t] : Int) with
     | true => exact searly_in hf r l i hi hl K d (t + 1) false (by omega) (no_ hb0 ⟨hk, .inr ((rd_bl hm.1).1 h3)⟩)
     | false => exact searly_in hf r l i hi hl K d (t + 1) true (by omega) (yes_ fun c => c.2.elim h2' fun c => by rw [(rd_bl hm.1).2 c] at h3; cases h3)
   ·exact searly_in hf r l i hi hl K d (t + 1) true (by omega) (yes_ fun c => h1 ((rd_bl hm.1).2 c.1))
theorem searly_loop (hf : Fit g p) : ∀ (d i : Nat) (l : List Bool), i + d = p.length → 0 < i → Way p.length g.Early g.Down i l → Ev (fun k => spec_SafeEarly.l0 k l (bl p.length g.Down) (bl p.length g.Up) (bl p.length g.keeps) (prl g p.length) (i : Int)) (bl p.length g.Early)
 | 0, i, l, hd, h0, hw => by
  have hlen := hw.1
  obtain rfl : p.length = i := by omega
  refine Ev.step (fun k => by rw [spec_SafeEarly.l0]) (Ev.neg (by omega) (Ev.eq (Ev.now _) hw.done))
 | d + 1, i, l, hd, h0, hw => by
  have hi : i < p.length := by omega
  have hfew := hf.few
  have hlen := hw.1
  refine Ev.step (fun k => by rw [spec_SafeEarly.l0]) (Ev.pos (by omega) ?_)
  refine searly_in hf _ l i hi hlen (fun b hb => ?_) _ 0 false (Nat.zero_add _) ⟨(fun c => by cases c), fun ⟨u, h, _⟩ => by simp at h⟩
  have hE : g.Early i ↔ g.Down i ∧ b = true := by
   unfold G.Early
   rw [hb]
   exact ⟨fun h => ⟨h.1, h.2.resolve_left (by omega)⟩, fun h => ⟨h.1, .inr h.2⟩⟩
  rw [wrapN (by omega), Int.toNat_natCast]
  refine Ev.pos (by omega) (Ev.cases (fun h => ?_) (fun h => ?_))
  ·have hd1 := (hw.at_ hi).1 ((on_rd (by omega)).1 h)
   exact searly_loop hf d (i + 1) _ (by omega) (by omega) (hw.step hi (by rw [hE]; exact ⟨fun q => ⟨hd1, q⟩, fun q => q.2⟩))
  ·have hd1 : ¬ g.Down i := fun c => h ((on_rd (by omega)).2 ((hw.at_ hi).2 c))
   exact searly_loop hf d (i + 1) _ (by omega) (by omega) (hw.step hi (by rw [hE]; exact ⟨(fun q => by cases q), fun q => absurd q.1 hd1⟩))
theorem sdelay_in (hf : Fit g p) (r s : List Bool) (a : Bool) (i : Nat) (hi : i < p.length) (hs : s.length = p.length) (hE : ¬ g.Early i) (ho : on s i)
  (K1 : on s i → ¬ g.DelayF (on s) i → Ev (fun k => spec_SafeDelay.l1 k (bl p.length g.Early) (s.set i false) (bl p.length g.comp) (prl g p.length) true ((i + 1 : Nat) : Int)) r)
  (K2 : (on s i → g.DelayF (on s) i) → Ev (fun k => spec_SafeDelay.l1 k (bl p.length g.Early) s (bl p.length g.comp) (prl g p.length) a ((i + 1 : Nat) : Int)) r) :
  ∀ (d t : Nat) (b : Bool), t + d = (preds g p.length i).length → (b = true ↔ 0 < i ∧ ∀ u, u ∈ (preds g p.length i).take t → on s u ∧ ¬ g.comp u) → Ev (fun k => spec_SafeDelay.l2 k (bl p.length g.Early) s (bl p.length g.comp) (prl g p.length) a (i : Int) b (t : Int)) r
 | 0, t, b, hd, hb => by
  have hfew := hf.few
  have hpl := preds_len g p.length i
  have hF : g.DelayF (on s) i ↔ b = true := by
   rw [hb, List.take_of_length_le (by omega), pred_all hf]
   unfold G.DelayF
   exact ⟨fun h => h.resolve_left hE, .inr⟩
  refine Ev.step (fun k => by rw [spec_SafeDelay.l2]) ?_
  rw [rd_prl hi, ints_len, wrapN (n := i) (by omega), Int.toNat_natCast]
  refine Ev.pos (by omega) (Ev.pos (by rw [prl_len]; omega) (Ev.neg (by omega) (Ev.cases (fun h => ?_) (fun h => ?_))))
  ·exact K2 fun _ => hF.2 h
  ·exact Ev.pos (by omega) (K1 ho fun c => h (hF.1 c))
 | d + 1, t, b, hd, hb => by
  have hfew := hf.few
  have hpl := preds_len g p.length i
  have htl : t < (preds g p.length i).length := by omega
  have hm := mem_preds.1 (List.getElem_mem htl)
  have htk : ∀ j, j ∈ (preds g p.length i).take (t + 1) ↔ j ∈ (preds g p.length i).take t ∨ j = (preds g p.length i)[t] := fun j => by
   rw [List.take_add_one, List.getElem?_eq_getElem htl, List.mem_append]; simp
  have no_ : ¬ (on s (preds g p.length i)[t] ∧ ¬ g.comp (preds g p.length i)[t]) → (false = true ↔ 0 < i ∧ ∀ u, u ∈ (preds g p.length i).take (t + 1) → on s u ∧ ¬ g.comp u) := fun h => ⟨(fun c => by cases c), fun q => absurd (q.2 _ ((htk _).2 (.inr rfl))) h⟩
  refine Ev.step (fun k => by rw [spec_SafeDelay.l2]) ?_
  rw [rd_prl hi, rd_ints htl, ints_len, wrapN (n := t) (by omega)]
  refine Ev.pos (by omega) (Ev.pos (by rw [prl_len]; omega) (Ev.pos (by omega) (Ev.cases (fun h => ?_) (fun h => ?_))))
  ·refine Ev.pos (by omega) (Ev.pos (by omega) (Ev.pos (by omega) (Ev.cases (fun h1 => ?_) (fun h1 => ?_))))
   ·refine Ev.pos (by rw [bl_len]; omega) ?_
    have hon : on s (preds g p.length i)[t] := (on_rd (by omega)).1 h1
    cases h2 : rdOf false (bl p.length g.comp) ((preds g p.length i)[t] : Int) with
    | true => exact sdelay_in hf r s a i hi hs hE ho K1 K2 d (t + 1) false (by omega) (no_ fun c => c.2 ((rd_bl hm.1).1 h2))
    | false =>
     have hc : ¬ g.comp (preds g p.length i)[t] := fun c => by rw [(rd_bl hm.1).2 c] at h2; cases h2
     refine sdelay_in hf r s a i hi hs hE ho K1 K2 d (t + 1) true (by omega) ⟨fun _ => ?_, fun _ => rfl⟩
     obtain ⟨q1, q2⟩ := hb.1 h
     exact ⟨q1, fun u hu => ((htk u).1 hu).elim (q2 u) fun e => by rw [e]; exact ⟨hon, hc⟩⟩
   ·exact sdelay_in hf r s a i hi hs hE ho K1 K2 d (t + 1) false (by omega) (no_ fun c => h1 ((on_rd (by omega)).2 c.1))
  ·refine sdelay_in hf r s a i hi hs hE ho K1 K2 d (t + 1) false (by omega) ⟨(fun c => by cases c), fun q => ?_⟩
   exact absurd (hb.2 ⟨q.1, fun u hu => q.2 u ((htk u).2 (.inl hu))⟩) h
theorem sdelay_loop (hf : Fit g p) : Ev (fun k => spec_SafeDelay.l0 k (bl p.length g.Early) (bl p.length g.Reach) (bl p.length g.comp) (prl g p.length) true) (bl p.length g.Delay) := by
 have hfew := hf.few
 refine gfp_sweep g.delayF_mono hf.reach (fun l a => Ev (fun k => spec_SafeDelay.l0 k (bl p.length g.Early) l (bl p.length g.comp) (prl g p.length) a) (bl p.length g.Delay)) (fun i l a => Ev (fun k => spec_SafeDelay.l1 k (bl p.length g.Early) l (bl p.length g.comp) (prl g p.length) a (i : Int)) (bl p.length g.Delay)) ?_ ?_ ?_ ?_ _ GInv.start
 ·intro l hl h
  refine Ev.step (fun k => by rw [spec_SafeDelay.l0]) ?_
  exact Ev.pos rfl h
 ·refine Ev.step (fun k => by rw [spec_SafeDelay.l0]) ?_
  exact Ev.neg (by decide) (Ev.now _)
 ·intro i l a hi hl K1 K2
  have hlen := hl.len
  refine Ev.step (fun k => by rw [spec_SafeDelay.l1]) (Ev.pos (by omega) (Ev.pos (by omega) (Ev.cases (fun h => ?_) (fun h => ?_))))
  ·refine Ev.pos (by rw [bl_len]; omega) (Ev.step (fun k => by rw [spec_SafeDelay.j2]) (Ev.cases (fun h1 => ?_) (fun h1 => ?_)))
   ·rw [wrapN (by omega)]
    exact K2 fun _ => .inl ((rd_bl hi).1 h1)
   ·refine sdelay_in hf _ l a i hi hlen (fun c => h1 ((rd_bl hi).2 c)) ((on_rd (by omega)).1 h) K1 K2 _ 0 _ (Nat.zero_add _) ?_
    rw [decide_eq_true_iff]
    exact ⟨fun h => ⟨by omega, fun u hu => by simp at hu⟩, fun h => by have := h.1; omega⟩
  ·refine Ev.step (fun k => by rw [spec_SafeDelay.j2]) (Ev.pos rfl ?_)
   rw [wrapN (by omega)]
   exact K2 fun c => absurd ((on_rd (by omega)).2 c) h
 ·intro l a hl h
  have hlen := hl.len
  refine Ev.step (fun k => by rw [spec_SafeDelay.l1]) ?_
  exact Ev.neg (by omega) h
theorem slate_loop (hf : Fit g p) : ∀ (d i : Nat) (l : List Bool), i + d = p.length → Way p.length g.Late g.Delay i l → Ev (fun k => spec_SafeLate.l0 k l (bl p.length g.Delay) (bl p.length g.comp) (i : Int) p) (bl p.length g.Late)
 | 0, i, l, hd, hw => by
  have hlen := hw.1
  obtain rfl : p.length = i := by omega
  refine Ev.step (fun k => by rw [spec_SafeLate.l0]) ?_
  exact Ev.neg (by omega) (Ev.eq (Ev.now _) hw.done)
 | d + 1, i, l, hd, hw => by
  have hi : i < p.length := by omega
  have hfew := hf.few
  have hlen := hw.1
  refine Ev.step (fun k => by rw [spec_SafeLate.l0]) (Ev.pos (by omega) (Ev.pos (by omega) ?_))
  rw [rdS hi, hf.next i hi, wrapN (by omega), Int.toNat_natCast]
  refine Ev.cases (fun h => ?_) (fun h => ?_)
  ·have hd1 := (hw.at_ hi).1 ((on_rd (by omega)).1 h)
   refine Ev.pos (by rw [bl_len]; omega) (Ev.cases (fun h1 => ?_) (fun h1 => ?_))
   ·exact slate_loop hf d (i + 1) _ (by omega) (hw.step hi ⟨fun _ => ⟨hd1, .inl ((rd_bl hi).1 h1)⟩, fun _ => rfl⟩)
   ·have hc : ¬ g.comp i := fun c => h1 ((rd_bl hi).2 c)
    refine Ev.pos (by omega) (Ev.bind (seach_ev (bl p.length g.Delay) (g.next i) (fun k hk => by rw [bl_len]; exact hf.lt i hi k hk) (by have := hf.two i hi; omega)) ?_)
    refine slate_loop hf d (i + 1) _ (by omega) (hw.step hi ?_)
    have hx := yes_iff (P := ∀ k, k ∈ g.next i → on (bl p.length g.Delay) k)
    cases hy : yes (∀ k, k ∈ g.next i → on (bl p.length g.Delay) k) with
    | true =>
     refine ⟨(fun c => by cases c), fun c => ?_⟩
     obtain ⟨n, hn, h2⟩ := c.2.resolve_left hc
     exact absurd (on_bl.1 (hx.1 hy n hn)).2 h2
    | false =>
     refine ⟨fun _ => ⟨hd1, .inr (Classical.byContradiction fun c => ?_)⟩, fun _ => rfl⟩
     rw [hx.2 fun k hk => on_bl.2 ⟨hf.lt i hi k hk, Classical.byContradiction fun q => c ⟨k, hk, q⟩⟩] at hy
     cases hy
  ·have hd1 : ¬ g.Delay i := fun c => h ((on_rd (by omega)).2 ((hw.at_ hi).2 c))
   exact slate_loop hf d (i + 1) _ (by omega) (hw.step hi ⟨(fun q => by cases q), fun q => absurd q.1 hd1⟩)
theorem salone_in (hf : Fit g p) (r s : List Bool) (a : Bool) (i : Nat) (hi : i < p.length) (hs : s.length = p.length)
  (K1 : on s i → ¬ g.AloneF (on s) i → Ev (fun k => spec_SafeAlone.l1 k (bl p.length g.Late) (s.set i false) (bl p.length g.comp) true ((i + 1 : Nat) : Int) p) r)
  (K2 : (on s i → g.AloneF (on s) i) → Ev (fun k => spec_SafeAlone.l1 k (bl p.length g.Late) s (bl p.length g.comp) a ((i + 1 : Nat) : Int) p) r) :
  ∀ (d t : Nat), t + d = (g.next i).length → (∀ n, n ∈ (g.next i).take t → g.Late n ∨ ¬ g.comp n ∧ on s n) → Ev (fun k => spec_SafeAlone.l2 k (bl p.length g.Late) s (bl p.length g.comp) a (i : Int) (t : Int) p) r
 | 0, t, hd, ht => by
  have hfew := hf.few
  have htwo := hf.two i hi
  refine Ev.step (fun k => by rw [spec_SafeAlone.l2]) ?_
  rw [rdS hi, hf.next i hi, ints_len]
  refine Ev.pos (by omega) (Ev.pos (by omega) (Ev.neg (by omega) (Ev.step (fun k => by rw [spec_SafeAlone.j3]) (Ev.neg (by decide) ?_))))
  rw [wrapN (by omega)]
  exact K2 fun _ n hn => ht n (by rw [List.take_of_length_le (by omega)]; exact hn)
 | d + 1, t, hd, ht => by
  have hfew := hf.few
  have htwo := hf.two i hi
  have htl : t < (g.next i).length := by omega
  have hlt := hf.lt i hi _ (List.getElem_mem htl)
  have htk : ∀ j, j ∈ (g.next i).take (t + 1) → j ∈ (g.next i).take t ∨ j = (g.next i)[t] := fun j => by
   rw [List.take_add_one, List.getElem?_eq_getElem htl, List.mem_append]; simp
  have fall : ¬ (g.Late (g.next i)[t] ∨ ¬ g.comp (g.next i)[t] ∧ on s (g.next i)[t]) → on s i → Ev (fun k => spec_SafeAlone.l2 k (bl p.length g.Late) (s.set i false) (bl p.length g.comp) true (i : Int) (wrap64 ((t : Int) + 1)) p) r := fun hn ho => by
   have hk := K1 ho fun c => hn (c _ (List.getElem_mem htl))
   have hoff : ¬ on (s.set i false) i := fun c => (on_off.1 c).2 rfl
   have e : rdOf false (s.set i false) (i : Int) = false := by cases q : rdOf false (s.set i false) (i : Int) with
    | false => rfl
    | true => exact absurd ((on_rd (by rw [List.length_set]; omega)).1 q) hoff
   refine Ev.step (fun k => by rw [spec_SafeAlone.l2]) ?_
   rw [rdS hi, hf.next i hi, ints_len, e]
   refine Ev.pos (by omega) (Ev.pos (by omega) (Ev.cases (fun _ => Ev.pos (by rw [List.length_set]; omega) ?_) (fun _ => ?_)))
   all_goals
    refine Ev.step (fun k => by rw [spec_SafeAlone.j3]) (Ev.neg (by decide) ?_)
    rw [wrapN (by omega)]
    exact hk
  refine Ev.step (fun k => by rw [spec_SafeAlone.l2]) ?_
  rw [rdS hi, hf.next i hi, ints_len]
  refine Ev.pos (by omega) (Ev.pos (by omega) (Ev.pos (by omega) (Ev.pos (by omega) (Ev.step (fun k => by rw [spec_SafeAlone.j3]) (Ev.cases (fun ho => ?_) (fun ho => ?_))))))
  ·have hon : on s i := (on_rd (by omega)).1 ho
   rw [rdS hi, hf.next i hi, rd_ints htl, ints_len, Int.toNat_natCast]
   refine Ev.pos (by omega) (Ev.pos (by omega) (Ev.pos (by omega) (Ev.pos (by omega) (Ev.pos (by omega) (Ev.pos (by rw [bl_len]; omega) (Ev.cases (fun h1 => ?_) (fun h1 => ?_)))))))
   ·rw [wrapN (by omega)]
    exact salone_in hf r s a i hi hs K1 K2 d (t + 1) (by omega) fun u hu => (htk u hu).elim (ht u) fun e => by rw [e]; exact .inl ((rd_bl hlt).1 h1)
   ·have hL : ¬ g.Late (g.next i)[t] := fun c => h1 ((rd_bl hlt).2 c)
    refine Ev.pos (by rw [bl_len]; omega) (Ev.cases (fun h2 => ?_) (fun h2 => ?_))
    ·exact Ev.pos (by omega) (fall (fun c => (c.resolve_left hL).1 ((rd_bl hlt).1 h2)) hon)
    ·have hc : ¬ g.comp (g.next i)[t] := fun c => h2 ((rd_bl hlt).2 c)
     refine Ev.pos (by omega) (Ev.cases (fun h3 => ?_) (fun h3 => ?_))
     ·rw [wrapN (by omega)]
      exact salone_in hf r s a i hi hs K1 K2 d (t + 1) (by omega) fun u hu => (htk u hu).elim (ht u) fun e => by rw [e]; exact .inr ⟨hc, (on_rd (by omega)).1 h3⟩
     ·exact Ev.pos (by omega) (fall (fun c => h3 ((on_rd (by omega)).2 (c.resolve_left hL).2)) hon)
  ·rw [wrapN (by omega)]
   exact K2 fun c => absurd ((on_rd (by omega)).2 c) ho
theorem salone_loop (hf : Fit g p) : Ev (fun k => spec_SafeAlone.l0 k (bl p.length g.Late) (bl p.length g.Reach) (bl p.length g.comp) true p) (bl p.length g.Alone) := by
 have hfew := hf.few
 refine gfp_sweep g.aloneF_mono hf.reach (fun l a => Ev (fun k => spec_SafeAlone.l0 k (bl p.length g.Late) l (bl p.length g.comp) a p) (bl p.length g.Alone)) (fun i l a => Ev (fun k => spec_SafeAlone.l1 k (bl p.length g.Late) l (bl p.length g.comp) a (i : Int) p) (bl p.length g.Alone)) ?_ ?_ ?_ ?_ _ GInv.start
 ·intro l hl h
  refine Ev.step (fun k => by rw [spec_SafeAlone.l0]) ?_
  exact Ev.pos rfl h
 ·refine Ev.step (fun k => by rw [spec_SafeAlone.l0]) ?_
  exact Ev.neg (by decide) (Ev.now _)
 ·intro i l a hi hl K1 K2
  have hlen := hl.len
  refine Ev.step (fun k => by rw [spec_SafeAlone.l1]) (Ev.pos (by omega) ?_)
  exact salone_in hf _ l a i hi hlen K1 K2 _ 0 (Nat.zero_add _) (fun n hn => by simp at hn)
 ·intro l a hl h
  have hlen := hl.len
  refine Ev.step (fun k => by rw [spec_SafeAlone.l1]) ?_
  exact Ev.neg (by omega) h
end
section
variable (p : List Stp) (e0 e1 e2 e3 e4 : Int)
theorem sdown_ev : Ev (fun k => spec_SafeDown.f k p e0 e1 e2 e3 e4) (safeL G.Down p e0 e1 e2 e3 e4) := by
 unfold spec_SafeDown.f safeL
 refine Ev.bind (l12Ok_ev p _ _ _ _ _) (Ev.cases (fun h => ?_) (fun h => ?_))
 ·have hf := fit_of (ok_l h) e0 e1 e2 e3 e4
  rw [if_pos h]
  exact Ev.bind (sall_ev hf (ok_l h)) (Ev.bind (safe_of (specComp_ev p _ _ _ _ _) h) (Ev.bind (safe_of (specKeeps_ev p _ _ _ _ _) h) (sdown_loop hf)))
 ·rw [if_neg h]; exact Ev.now _
theorem sup_ev : Ev (fun k => spec_SafeUp.f k p e0 e1 e2 e3 e4) (safeL G.Up p e0 e1 e2 e3 e4) := by
 unfold spec_SafeUp.f safeL
 refine Ev.bind (l12Ok_ev p _ _ _ _ _) (Ev.cases (fun h => ?_) (fun h => ?_))
 ·have hf := fit_of (ok_l h) e0 e1 e2 e3 e4
  have hpos := hf.pos
  rw [if_pos h]
  refine Ev.bind (sall_ev hf (ok_l h)) (Ev.pos (by rw [bl_len]; omega) (Ev.bind (safe_of (specComp_ev p _ _ _ _ _) h) (Ev.bind (safe_of (specKeeps_ev p _ _ _ _ _) h) (Ev.bind (spreds_ev hf (ok_l h)) (sup_loop hf)))))
 ·rw [if_neg h]; exact Ev.now _
theorem searly_ev : Ev (fun k => spec_SafeEarly.f k p e0 e1 e2 e3 e4) (safeL G.Early p e0 e1 e2 e3 e4) := by
 unfold spec_SafeEarly.f
 by_cases h : (progOkB p && exOkB e0 e1 e2 e3 e4) = true
 ·have hf := fit_of (ok_l h) e0 e1 e2 e3 e4
  have hpos := hf.pos
  unfold safeL
  rw [if_pos h]
  refine Ev.bind (safe_of (sdown_ev p _ _ _ _ _) h) (Ev.neg (by rw [bl_len]; omega) (Ev.bind (safe_of (sdown_ev p _ _ _ _ _) h) (Ev.bind (safe_of (sup_ev p _ _ _ _ _) h) (Ev.bind (safe_of (specKeeps_ev p _ _ _ _ _) h) (Ev.bind (spreds_ev hf (ok_l h)) ?_)))))
  refine searly_loop hf (p.length - 1) 1 _ (by omega) (by omega) ⟨bl_len _ _, fun j hj => ?_⟩
  rw [on_bl]
  by_cases e : j < 1
  ·rw [if_pos e]
   obtain rfl : j = 0 := by omega
   unfold G.Early
   exact ⟨fun q => ⟨q.2, .inl rfl⟩, fun q => ⟨hj, q.1⟩⟩
  ·rw [if_neg e]; exact ⟨fun q => q.2, fun q => ⟨hj, q⟩⟩
 ·unfold safeL
  rw [if_neg h]
  exact Ev.bind (safe_no (sdown_ev p _ _ _ _ _) h) (Ev.pos rfl (Ev.now _))
theorem sdelay_ev : Ev (fun k => spec_SafeDelay.f k p e0 e1 e2 e3 e4) (safeL G.Delay p e0 e1 e2 e3 e4) := by
 unfold spec_SafeDelay.f
 by_cases h : (progOkB p && exOkB e0 e1 e2 e3 e4) = true
 ·have hf := fit_of (ok_l h) e0 e1 e2 e3 e4
  have hpos := hf.pos
  unfold safeL
  rw [if_pos h]
  exact Ev.bind (safe_of (searly_ev p _ _ _ _ _) h) (Ev.neg (by rw [bl_len]; omega) (Ev.bind (sall_ev hf (ok_l h)) (Ev.bind (safe_of (specComp_ev p _ _ _ _ _) h) (Ev.bind (spreds_ev hf (ok_l h)) (sdelay_loop hf)))))
 ·unfold safeL
  rw [if_neg h]
  exact Ev.bind (safe_no (searly_ev p _ _ _ _ _) h) (Ev.pos rfl (Ev.now _))
theorem slate_ev : Ev (fun k => spec_SafeLate.f k p e0 e1 e2 e3 e4) (safeL G.Late p e0 e1 e2 e3 e4) := by
 unfold spec_SafeLate.f
 by_cases h : (progOkB p && exOkB e0 e1 e2 e3 e4) = true
 ·have hf := fit_of (ok_l h) e0 e1 e2 e3 e4
  have hpos := hf.pos
  unfold safeL
  rw [if_pos h]
  exact Ev.bind (safe_of (sdelay_ev p _ _ _ _ _) h) (Ev.neg (by rw [bl_len]; omega) (Ev.bind (safe_of (sdelay_ev p _ _ _ _ _) h) (Ev.bind (safe_of (specComp_ev p _ _ _ _ _) h) (slate_loop hf p.length 0 _ (by omega) (Way.start _ _ _)))))
 ·unfold safeL
  rw [if_neg h]
  exact Ev.bind (safe_no (sdelay_ev p _ _ _ _ _) h) (Ev.pos rfl (Ev.now _))
theorem salone_ev : Ev (fun k => spec_SafeAlone.f k p e0 e1 e2 e3 e4) (safeL G.Alone p e0 e1 e2 e3 e4) := by
 unfold spec_SafeAlone.f
 by_cases h : (progOkB p && exOkB e0 e1 e2 e3 e4) = true
 ·have hf := fit_of (ok_l h) e0 e1 e2 e3 e4
  have hpos := hf.pos
  unfold safeL
  rw [if_pos h]
  exact Ev.bind (safe_of (slate_ev p _ _ _ _ _) h) (Ev.neg (by rw [bl_len]; omega) (Ev.bind (sall_ev hf (ok_l h)) (Ev.bind (safe_of (specComp_ev p _ _ _ _ _) h) (salone_loop hf))))
 ·unfold safeL
  rw [if_neg h]
  exact Ev.bind (safe_no (slate_ev p _ _ _ _ _) h) (Ev.pos rfl (Ev.now _))
end
theorem exactSafeAlone_runs (A0 : Option Addr) (c0 : Nat) (l0 : List LStp) (e0 e1 e2 e3 e4 : Int) (w : World) (hr : Kd.C k90 w A0 l0.length l0) (hc : l0.length ≤ c0) :
  Calls Try.prog 9 #[.agg #[.slice A0 l0.length c0], .agg #[.int .i64 e0, .int .i64 e1, .int .i64 e2, .int .i64 e3, .int .i64 e4]] w fun e w' => e = .returned (.bool true) ∧ Below w.heap.size w w' := by
 obtain ⟨K0, q0⟩ := szProg_ev l0 (C_len hr) (lprog_few hr) 1048576 (by omega) (by omega)
 by_cases hz : (if (1048576 : Int) < (l0.length + szSum l0 : Int) then (-1 : Int) else 1048576 - (l0.length + szSum l0)) < 0
 ·exact xSafeAlone_many A0 c0 l0 e0 e1 e2 e3 e4 w hr hc K0 _ (q0 K0 (Nat.le_refl _)) hz
 ·obtain ⟨h2, h3⟩ := small_of hz
  have hpl : (l0.map toS).length ≤ 1048576 := by rw [List.length_map]; omega
  have hpf := toS_few h3
  have hq := safeL_len G.Alone (l0.map toS) e0 e1 e2 e3 e4
  have hk : 0 ≤ markE (l0.map toS) 1 := Int.le_trans (by decide) (markE_le _ _)
  obtain ⟨K1, q1⟩ := toProg_ev l0 h2 h3
  obtain ⟨K2, q2⟩ := salone_ev (l0.map toS) e0 e1 e2 e3 e4
  obtain ⟨K3, q3⟩ := eqBoolS_refl (safeL G.Alone (l0.map toS) e0 e1 e2 e3 e4) (by omega)
  obtain ⟨K4, q4⟩ := eqProg_refl (l0.map toS) (by omega) (fun s hs => by have := hpf s hs; omega)
  obtain ⟨K5, q5⟩ := markBools_ev (safeL G.Alone (l0.map toS) e0 e1 e2 e3 e4) 1 (by omega) (by omega)
  obtain ⟨K6, q6⟩ := heldBools_ev (safeL G.Alone (l0.map toS) e0 e1 e2 e3 e4).length 1 (by omega) (by omega)
  generalize hK : K0 + K1 + K2 + K3 + K4 + K5 + K6 = K
  exact xSafeAlone_calls A0 c0 l0 e0 e1 e2 e3 e4 w hr hc K _ (q0 K (by omega)) (Int.not_lt.1 hz) _ (q1 K (by omega)) (toExpr_eq _ _ _ _ _) _ (q2 K (by omega)) rfl (q3 K (by omega)) (q4 K (by omega)) hpl hpf hk _ _ (q5 K (by omega)) (iotaB_len _ _).symm (q6 K (by omega)) (by omega)
end Go.Proofs.Ytcgbbhkjkkpfoaa.P
namespace Go.Proofs.Ytcgbbhkjkkpfoaa.P
set_option linter.unusedSimpArgs false
set_option maxRecDepth 100000
open Go.RowKit Go.Proofs.YtcgbbhkjkkpfoaaW.PrintWords Go.Proofs.YtcgbbhkjkkpfoaaW.PrintLast Go.Proofs.YtcgbbhkjkkpfoaaW.PrintMore
def Opens (P : Program) (t : TypeId) {α : Type} (d : Kd α) : Prop :=
 ∀ (H : Type) (enc : TypeId × Value → H) (W : World) (base fuel : Nat) (cs : List Value) (x : DataW H × List MemPlace), DataW.trod enc P W base (fun _ => true) true fuel t cs = some x → ∃ v, d.K W v cs
theorem opens_int {P : Program} {t : TypeId} {k : IntKind} (ht : P.underlying t = some (.int k)) : Opens P t (Kd.int k) := fun H enc W base fuel cs x h => by
 obtain ⟨n, rfl, _, _⟩ := DataW.trod_int ht h
 exact ⟨n, rfl⟩
theorem cells_at {w : World} {base n : Nat} {a : Addr} {cs : List Value} (h : w.cells? base a n = some cs) : cs.length = n ∧ ∀ i u, cs[i]? = some u → w.cell? (a.add i) = some u := by
 unfold World.cells? at h
 by_cases hb : base ≤ a.block
 ·rw [if_pos hb] at h
  have hl := mapM_some_length h
  rw [List.length_range] at hl
  refine ⟨hl, fun i u hu => ?_⟩
  have hi : i < n := by rw [← hl]; exact (List.getElem?_eq_some_iff.1 hu).1
  have := mapM_some_get h i i (by rw [List.getElem?_range hi])
  rw [this, hu]
 ·rw [if_neg hb] at h; cases h
theorem opens_slice {P : Program} {t e : TypeId} {α : Type} {d : Kd α} (ht : P.underlying t = some (.slice e)) (hc : P.cellsOf e = d.sz) (he : Opens P e d) : Opens P t (Kd.slice e d) := fun H enc W base fuel cs x h => by
 rcases Go.Deep.open_slice ht h with ⟨rfl, _⟩ | ⟨a, len, cap, m, n, D, Pl, rfl, hb, hl, hm, hmm, rfl, hx⟩
 ·exact ⟨[], none, 0, rfl, Nat.le_refl _, rfl, by simp, fun h => absurd h (by simp)⟩
 ·simp only [if_true] at hmm
  subst hmm
  have each : ∀ i, i < len → ∃ y : α × List Value, d.K W y.1 y.2 ∧ W.cells? base (a.add (i * P.cellsOf e)) (P.cellsOf e) = some y.2 := fun i hi => by
   obtain ⟨cs', h1, h2⟩ := hx i (by omega)
   obtain ⟨v, hv⟩ := he H enc W base n cs' _ h2
   exact ⟨(v, cs'), hv, h1⟩
  have : Nonempty (α × List Value) ∨ len = 0 := by
   by_cases h0 : len = 0
   ·exact .inr h0
   ·obtain ⟨y, _⟩ := each 0 (by omega); exact .inl ⟨y⟩
  rcases this with inh | rfl
  ·have := Classical.inhabited_of_nonempty inh
   obtain ⟨y, hy⟩ := Go.Deep.choose_lt each
   refine ⟨(List.range len).map fun i => (y i).1, some a, m, by simp, by simp; exact hl, by simp, by simp; unfold maxLen at hm; omega, fun _ => ⟨a, rfl, fun j p hp => ?_⟩⟩
   rw [List.getElem?_map] at hp
   have hj : j < len := by
    rcases Nat.lt_or_ge j len with h | h
    ·exact h
    ·rw [List.getElem?_eq_none (by simpa using h)] at hp; cases hp
   rw [List.getElem?_range hj] at hp
   obtain rfl := Option.some.inj hp
   obtain ⟨h1, h2⟩ := hy j hj
   obtain ⟨h3, h4⟩ := cells_at h2
   rw [hc] at h3 h4
   refine ⟨(y j).2, h3, h1, fun i u hu => ?_⟩
   rw [← Addr.add_add]
   exact h4 i u hu
  ·exact ⟨[], some a, m, rfl, Nat.zero_le _, rfl, by simp, fun h => absurd h (by simp)⟩
theorem opens_lopnd : Opens Try.prog 26 k26 := fun H enc W base fuel cs x h => by
 obtain ⟨y0, y1, n, _, hl, h0, h1⟩ := Go.ChangeShapes.trod_struct2 Try.underlying26 h
 have hc : Try.prog.cellsOf 26 = 2 := by kernel_rfl
 have hi : Try.prog.cellsOf 3 = 1 := by kernel_rfl
 rw [hc] at hl
 match cs, hl with
 | [a, b], _ =>
  simp only [hi, List.drop, List.take] at h0 h1
  obtain ⟨v0, e0, _⟩ := DataW.trod_int Try.underlying3 h0
  obtain ⟨v1, e1, _⟩ := DataW.trod_int Try.underlying3 h1
  injection e0 with e0 _
  injection e1 with e1 _
  subst e0 e1
  exact ⟨⟨v0, v1⟩, k26_mk W ⟨v0, v1⟩⟩
theorem opens_ints : Opens Try.prog 32 (Kd.slice 3 (Kd.int .i64)) := opens_slice Try.underlying32 (by kernel_rfl) (opens_int Try.underlying3)
theorem opens_lstep : Opens Try.prog 90 k90 := fun H enc W base fuel cs x h => by
 obtain ⟨xs, n, _, _, hl, hlen, hf⟩ := DataW.trod_struct Try.underlying90 h
 have hc : Try.prog.cellsOf 90 = 8 := by kernel_rfl
 have hi : Try.prog.cellsOf 3 = 1 := by kernel_rfl
 have ho : Try.prog.cellsOf 26 = 2 := by kernel_rfl
 have hs : Try.prog.cellsOf 32 = 1 := by kernel_rfl
 rw [hc] at hl
 match xs, hlen with
 | [y0, y1, y2, y3, y4, y5], _ =>
  match cs, hl with
  | [c0, c1, c2, c3, c4, c5, c6, c7], _ =>
   have g0 := hf 0 _ rfl
   have g1 := hf 1 _ rfl
   have g2 := hf 2 _ rfl
   have g3 := hf 3 _ rfl
   have g4 := hf 4 _ rfl
   have g5 := hf 5 _ rfl
   simp only [hi, List.drop, List.take, List.getElem?_cons_zero, List.getElem?_cons_succ] at g0
   simp only [hi, List.drop, List.take, List.getElem?_cons_zero, List.getElem?_cons_succ] at g1
   simp only [hi, List.drop, List.take, List.getElem?_cons_zero, List.getElem?_cons_succ] at g2
   simp only [ho, List.drop, List.take, List.getElem?_cons_zero, List.getElem?_cons_succ] at g3
   simp only [ho, List.drop, List.take, List.getElem?_cons_zero, List.getElem?_cons_succ] at g4
   simp only [hs, List.drop, List.take, List.getElem?_cons_zero, List.getElem?_cons_succ] at g5
   obtain ⟨v0, e0, _⟩ := DataW.trod_int Try.underlying3 g0
   obtain ⟨v1, e1, _⟩ := DataW.trod_int Try.underlying3 g1
   obtain ⟨v2, e2, _⟩ := DataW.trod_int Try.underlying3 g2
   obtain ⟨v3, e3⟩ := opens_lopnd H enc W base n _ _ g3
   obtain ⟨v4, e4⟩ := opens_lopnd H enc W base n _ _ g4
   obtain ⟨v5, A, c, e5, hcap, hC⟩ := opens_ints H enc W base n _ _ g5
   have q3 := k26_open e3
   have q4 := k26_open e4
   injection e0 with e0 _
   injection e1 with e1 _
   injection e2 with e2 _
   injection q3 with q3 r3
   injection r3 with r3 _
   injection q4 with q4 r4
   injection r4 with r4 _
   injection e5 with e5 _
   subst e0 e1 e2 q3 r3 q4 r4 e5
   exact ⟨⟨v0, v1, v2, v3, v4, v5⟩, k90_mk W ⟨v0, v1, v2, v3, v4, v5⟩ hcap hC⟩
theorem opens_lsteps : Opens Try.prog 22 (Kd.slice 90 k90) := opens_slice Try.underlying22 (by kernel_rfl) opens_lstep
theorem opens_one {P : Program} {t : TypeId} {f : Field} {α : Type} {d : Kd α} (ht : P.underlying t = some (.struct #[f])) (ho : f.offset = 0) (hc : P.cellsOf t = 1) (hf : P.cellsOf f.type = 1) (he : Opens P f.type d) : Opens P t d := fun H enc W base fuel cs x h => by
 obtain ⟨y0, n, _, hl, h0⟩ := Go.ChangeShapes.trod_struct1 ht h
 rw [hc] at hl
 rw [ho, hf, List.drop_zero, List.take_of_length_le (by omega)] at h0
 exact he H enc W base n cs _ h0
theorem opens_lprog : Opens Try.prog 24 (Kd.slice 90 k90) := opens_one Try.underlying24 rfl (by kernel_rfl) (by kernel_rfl) opens_lsteps
section
variable {H : Type} {enc : TypeId × Value → H} {W : World} {v : Value} {x : DataW H} {p : List MemPlace} {r : Reach} {base : Nat}
theorem open_one_arg {P : Program} {t e : TypeId} {fs : Array Field} {α : Type} {d : Kd α} (ht : P.underlying t = some (.struct fs)) (ho : Opens P t (Kd.slice e d)) (hv : Value.okWide P W r base t v) (h : DataW.Trod enc P W 0 (fun _ => true) true t v x p) :
  ∃ (A : Option Addr) (c : Nat) (l : List α), v = .agg #[.slice A l.length c] ∧ l.length ≤ c ∧ d.C W A l.length l := by
 obtain ⟨cs, rfl, _⟩ := Go.WideShapes.okWide_struct ht hv
 obtain ⟨fuel, h⟩ := h
 obtain ⟨l, A, c, e, hc, hC⟩ := ho H enc W 0 fuel _ _ h
 simp only [Value.cells] at e
 exact ⟨A, c, l, by rw [← Array.toArray_toList (xs := cs), e], hc, hC⟩
end
set_option maxRecDepth 100000
open Go.RowKit Go.Proofs.YtcgbbhkjkkpfoaaW.PrintWords Go.Proofs.YtcgbbhkjkkpfoaaW.PrintLast Go.Proofs.YtcgbbhkjkkpfoaaW.PrintMore
structure LExp where
 f0 : Int
 f1 : S26
 f2 : S26
section
variable {H : Type} {enc : TypeId × Value → H} {W : World} {v : Value} {x : DataW H} {p : List MemPlace} {r : Reach} {base : Nat}
theorem open_expr_arg (hv : Value.okWide Try.prog W r base 28 v) (h : DataW.Trod enc Try.prog W 0 (fun _ => true) true 28 v x p) :
  ∃ x : LExp, v = .agg #[.int .i64 x.f0, .int .i64 x.f1.f0, .int .i64 x.f1.f1, .int .i64 x.f2.f0, .int .i64 x.f2.f1] := by
 obtain ⟨cs, rfl, _⟩ := Go.WideShapes.okWide_struct Try.underlying28 hv
 obtain ⟨fuel, h⟩ := h
 obtain ⟨xs, n, _, _, hl, hlen, hf⟩ := DataW.trod_struct Try.underlying28 h
 have hc : Try.prog.cellsOf 28 = 5 := by kernel_rfl
 have hi : Try.prog.cellsOf 3 = 1 := by kernel_rfl
 have ho : Try.prog.cellsOf 26 = 2 := by kernel_rfl
 rw [hc] at hl
 simp only [Value.cells] at hl hf
 have hcs : cs = cs.toList.toArray := (Array.toArray_toList (xs := cs)).symm
 match xs, hlen with
 | [y0, y1, y2], _ =>
  generalize cs.toList = l at hl hf hcs
  match l, hl with
  | [c0, c1, c2, c3, c4], _ =>
   have g0 := hf 0 _ rfl
   have g1 := hf 1 _ rfl
   have g2 := hf 2 _ rfl
   simp only [hi, List.drop, List.take, List.getElem?_cons_zero, List.getElem?_cons_succ] at g0
   simp only [ho, List.drop, List.take, List.getElem?_cons_zero, List.getElem?_cons_succ] at g1
   simp only [ho, List.drop, List.take, List.getElem?_cons_zero, List.getElem?_cons_succ] at g2
   obtain ⟨v0, e0, _⟩ := DataW.trod_int Try.underlying3 g0
   obtain ⟨v1, e1⟩ := opens_lopnd H enc W 0 n _ _ g1
   obtain ⟨v2, e2⟩ := opens_lopnd H enc W 0 n _ _ g2
   have q1 := k26_open e1
   have q2 := k26_open e2
   injection e0 with e0 _
   injection q1 with q1 r1
   injection r1 with r1 _
   injection q2 with q2 r2
   injection r2 with r2 _
   subst e0 q1 r1 q2 r2
   exact ⟨⟨v0, v1, v2⟩, by rw [hcs]⟩
end
end Go.Proofs.Ytcgbbhkjkkpfoaa.P
namespace Go.Proofs.Ytcgbbhkjkkpfoaa.fnExactSafeAlone
open Go.ChangeShapes Go.WideShapes Go.ChangeAt Go.RowKit Go.Proofs.Ytcgbbhkjkkpfoaa.P Go.Proofs.YtcgbbhkjkkpfoaaW.PrintWords
set_option linter.unusedVariables false
theorem own : ownKnob Try.prog.godebug = none := by kernel_rfl
theorem laidOut : laidOutB Try.prog = true := by kernel_rfl
theorem walk (W : World) (A0 : Option Addr) (c0 : Nat) (l0 : List LStp) (x1 : LExp) (hc0 : l0.length ≤ c0) (hr0 : Kd.C k90 W A0 l0.length l0) :
  Calls Try.prog 9 #[.agg #[.slice A0 l0.length c0], .agg #[.int .i64 x1.f0, .int .i64 x1.f1.f0, .int .i64 x1.f1.f1, .int .i64 x1.f2.f0, .int .i64 x1.f2.f1]] W fun e w' => e = .returned (.bool true) ∧ Below W.heap.size W w' := by
 exact exactSafeAlone_runs A0 c0 l0 x1.f0 x1.f1.f0 x1.f1.f1 x1.f2.f0 x1.f2.f1 W hr0 hc0
set_option maxRecDepth 100000 in
theorem lifted (os : Os) (started : os.Started) (H : Type) (enc : TypeId × Value → H) :
  ReturnsInHanded {} Try.checked os 9 .any (Rows.fnExactSafeAloneSpec.pre6 enc Try.prog Try.f9 Rows.fnExactSafeAloneRow.domain false) (Rows.fnExactSafeAloneSpec.post enc Try.prog Try.f9 false true false false) := by
 refine returnsInHanded_of_change_sized (C := Try.checked) own started (by kernel_rfl) Try.func9
  (ChangeSpec.witness6 (enc := enc) (C := Try.checked) false ⟨#[], #[.agg #[.slice none 0 0], .agg #[.int .i64 0, .int .i64 0, .int .i64 0, .int .i64 0, .int .i64 0]], []⟩ 8 (by kernel_rfl) (by kernel_rfl) (by kernel_rfl) (by kernel_rfl)) ?_
 intro W base args ds gs before hval0 hW hcnd hsz0 _
 have hval : ∀ (j : Nat) t v, Try.f9.params[j]? = some t → args[j]? = some v → Value.okWide Try.prog W .any base t v := hval0
 have hW' := hW
 obtain ⟨p, q, hA0, hV, rfl, hfz, hnd⟩ := hW
 have hA : DataW.TrodAll enc Try.prog W 0 (fun _ => true) true Try.f9.params.toList args.toList ds p := hA0
 rw [Try.params9] at hA hval
 obtain ⟨v0, vs0, d0, ds0, p0, q0, hargs, rfl, rfl, h0, r0⟩ := trodAll_cons hA
 obtain ⟨v1, vs1, d1, ds1, p1, q1, rfl, rfl, rfl, h1, r1⟩ := trodAll_cons r0
 obtain ⟨rfl, rfl, rfl⟩ := trodAll_nil r1
 obtain rfl : args = #[v0, v1] := by cases args; simp_all
 obtain ⟨rfl, rfl⟩ := trodVars_none hV
 have lt0 : ∀ x ∈ p0, x.block < W.heap.size := by obtain ⟨m, hm⟩ := h0; exact DataW.trod_lt m _ _ _ hm
 have k0 := h0
 obtain ⟨A0, c0, l0, rfl, hc0, hr0⟩ := open_one_arg Try.underlying24 opens_lprog (hval 0 24 v0 rfl rfl) h0
 have lt1 : ∀ x ∈ p1, x.block < W.heap.size := by obtain ⟨m, hm⟩ := h1; exact DataW.trod_lt m _ _ _ hm
 have k1 := h1
 obtain ⟨x1, rfl⟩ := open_expr_arg (hval 1 28 v1 rfl rfl) h1
 clear hA0 hval0 hsz0
 refine (walk W A0 c0 l0 x1 hc0 hr0).mono fun e W' ⟨he, bel⟩ => ?_
 subst he
 exact ⟨_, rfl, _, _, _, [], _, [], hW', trodAll_mk1 (shut_bool Try.underlying4 _), (trodAll_cons_mk (Below.trod laidOut (by kernel_rfl) (of_decide_eq_true (by kernel_rfl)) k0 bel lt0) (trodAll_cons_mk (Below.trod laidOut (by kernel_rfl) (of_decide_eq_true (by kernel_rfl)) k1 bel lt1) trodAll_mk0)), rfl, bel.frame _, fun h => by cases h⟩
theorem over : Rows.fnExactSafeAloneRow.holds Try.pinned (OpenSpec.ofChange Rows.fnExactSafeAloneSpec) :=
 OpenClaim.holds_of_wide 9 Try.f9 rfl rfl rfl rfl rfl rfl rfl ⟨rfl, rfl, rfl, rfl, rfl⟩ rfl rfl rfl rfl rfl (by kernel_rfl) Try.func9 (by kernel_rfl)
  (of_decide_eq_true (by kernel_rfl)) (by unfold Func.isWrapper; first | (rw [if_pos (by decide +kernel)]; kernel_rfl) | (rw [if_neg (by decide +kernel)]; exact ⟨rfl, rfl⟩))
  (fun os started H enc _ => lifted os started H enc)
end Go.Proofs.Ytcgbbhkjkkpfoaa.fnExactSafeAlone
namespace Go.Proofs.Ytcgbbhkjkkpfoaa
theorem fnExactSafeAlone_holds : Rows.FnExactSafeAloneSaid := fnExactSafeAlone.over
end Go.Proofs.Ytcgbbhkjkkpfoaa
