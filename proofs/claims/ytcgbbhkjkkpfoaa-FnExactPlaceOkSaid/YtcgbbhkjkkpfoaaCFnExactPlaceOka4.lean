/- FnExactPlaceOk: for every argument the law returns true, and each argument reads behind the call as it read before; no condition. Part 5 of 6: written together by a program out of the session's texts and what the print wrote. -/
import Derived.Test.YtcgbbhkjkkpfoaaCFnExactPlaceOka3
set_option linter.unusedVariables false
set_option linter.unusedSimpArgs false
set_option maxHeartbeats 16000000
set_option maxRecDepth 100000
namespace Go.Proofs.Ytcgbbhkjkkpfoaa.P
open Go.RowKit Go.Proofs.YtcgbbhkjkkpfoaaW.PrintWords Go.Proofs.YtcgbbhkjkkpfoaaW.PrintLast Go.Proofs.YtcgbbhkjkkpfoaaW.PrintMore
attribute [local go_sem] max2_int min2_int max_two min_two max_three min_three max_four min_four
mutual
def spec_SafeDown.l0 : Nat → List Bool → List Bool → List Bool → Bool → List (S77) → Option (List Bool)
 | 0, _, _, _, _, _ => none
 | k + 1, x5, x6, x7, x8, x512000 => if x8 = true then (spec_SafeDown.l1 k x5 x6 x7 false 0 x512000) else (some x5)
def spec_SafeDown.l1 : Nat → List Bool → List Bool → List Bool → Bool → Int → List (S77) → Option (List Bool)
 | 0, _, _, _, _, _, _ => none
 | k + 1, x5, x6, x7, x8, x9, x512000 => if x9 < (x5.length : Int) then (if 0 ≤ x9 then (if rdOf false x5 x9 = true then (if x9 < (x6.length : Int) then (if rdOf false x6 x9 = true then (spec_SafeDown.l1 k x5 x6 x7 x8 (wrap64 (x9 + 1)) x512000) else (if x9 < (x7.length : Int) then (if rdOf false x7 x9 = true then (if x9 < (x512000.length : Int) then (if (((rd_T77 x512000 x9).f5).length : Int) = 0 then (spec_SafeDown.l1 k (x5.set (x9 : Int).toNat false) x6 x7 true (wrap64 (x9 + 1)) x512000) else ((spec_l12Each.f k x5 ((rd_T77 x512000 x9).f5)).bind fun t532 => (if t532 = true then (spec_SafeDown.l1 k x5 x6 x7 x8 (wrap64 (x9 + 1)) x512000) else (spec_SafeDown.l1 k (x5.set (x9 : Int).toNat false) x6 x7 true (wrap64 (x9 + 1)) x512000)))) else (none)) else (spec_SafeDown.l1 k (x5.set (x9 : Int).toNat false) x6 x7 true (wrap64 (x9 + 1)) x512000)) else (none))) else (none)) else (spec_SafeDown.l1 k x5 x6 x7 x8 (wrap64 (x9 + 1)) x512000)) else (none)) else (spec_SafeDown.l0 k x5 x6 x7 x8 x512000)
end
def spec_SafeDown.f (k : Nat) (l0_0 : List (S77)) (a1_0 : Int) (a1_1 : Int) (a1_2 : Int) (a1_3 : Int) (a1_4 : Int) : Option (List Bool) := (spec_l12Ok.f k l0_0 a1_0 a1_1 a1_2 a1_3 a1_4).bind fun t513 => (if t513 = true then ((spec_l12All.f k l0_0).bind fun t517 => ((spec_ExprComp.f k l0_0 a1_0 a1_1 a1_2 a1_3 a1_4).bind fun t520 => ((spec_ExprKeeps.f k l0_0 a1_0 a1_1 a1_2 a1_3 a1_4).bind fun t523 => (spec_SafeDown.l0 k t517 t520 t523 true l0_0)))) else (some (([] : List Bool))))
theorem spec_SafeDown.calls (k : Nat) (A0_0 : Option Addr) (c0_0 : Nat) (l0_0 : List (S77)) (a1_0 : Int) (a1_1 : Int) (a1_2 : Int) (a1_3 : Int) (a1_4 : Int) (r : List Bool) (w : World) (hr0_0 : Kd.C k77 w A0_0 l0_0.length l0_0) (hc0_0 : l0_0.length ≤ c0_0) (h : spec_SafeDown.f k l0_0 a1_0 a1_1 a1_2 a1_3 a1_4 = some r) :
  Calls Try.prog 57 #[.agg #[.slice A0_0 l0_0.length c0_0], .agg #[.int .i64 a1_0, .int .i64 a1_1, .int .i64 a1_2, .int .i64 a1_3, .int .i64 a1_4]] w fun e w' => ∃ v0_ : Value, e = .returned (v0_) ∧ Kd.R Kd.bool 4 w' w.heap.size (fun _ => True) v0_ r ∧ Below w.heap.size w w' := by
 have hu38 := Try.underlying38
 have hu42 := Try.underlying42
 have HR0_0 := Aside0.mk hr0_0
 have HC0_0 := Aside0.mk hc0_0
 clear hr0_0 hc0_0
 have HB := Aside0.mk (Below.refl w.heap.size w)
 have H : ((spec_l12Ok.f k l0_0 a1_0 a1_1 a1_2 a1_3 a1_4).bind fun t513 => (if t513 = true then ((spec_l12All.f k l0_0).bind fun t517 => ((spec_ExprComp.f k l0_0 a1_0 a1_1 a1_2 a1_3 a1_4).bind fun t520 => ((spec_ExprKeeps.f k l0_0 a1_0 a1_1 a1_2 a1_3 a1_4).bind fun t523 => (spec_SafeDown.l0 k t517 t520 t523 true l0_0)))) else (some (([] : List Bool))))) = some r := h
 clear h
 replace H := Option.bind_eq_some_iff.mp H
 obtain ⟨t513, A30, H⟩ := H
 have A3 := Aside0.mk A30
 clear A30
 by_cases c4 : t513 = true
 ·subst c4
  rw [if_pos rfl] at H
  replace H := Option.bind_eq_some_iff.mp H
  obtain ⟨t517, A50, H⟩ := H
  have A5 := Aside0.mk A50
  clear A50
  replace H := Option.bind_eq_some_iff.mp H
  obtain ⟨t520, A60, H⟩ := H
  have A6 := Aside0.mk A60
  clear A60
  replace H := Option.bind_eq_some_iff.mp H
  obtain ⟨t523, A70, H⟩ := H
  have A7 := Aside0.mk A70
  clear A70
  have H' := Aside0.mk H
  clear H
  go_enter Try.func57, Try.ntmps57
  go_wp2_with (first | ((with_reducible refine gate_dst (N := 2) rfl ?_); (try (refine gate_guard (by rfl) ?_; dsimp only)); refine bxe (cs := #[.slice A0_0 l0_0.length c0_0]) (t := 38) ?_; intro gb511 hg w8 hbox hb; have BK511 := Aside0.mk (hbox); have GW511 := bwz HB hg; have GE511 := bwz HB hg; replace HB := bwb HB hb; clear hb hbox hg) | ((with_reducible refine gate_dst (N := 3) rfl ?_); (try (refine gate_guard (by rfl) ?_; dsimp only)); refine bxe (cs := #[.int .i64 a1_0, .int .i64 a1_1, .int .i64 a1_2, .int .i64 a1_3, .int .i64 a1_4]) (t := 42) ?_; intro gb512 hg w9 hbox hb; have BK512 := Aside0.mk (hbox); have GW512 := bwz HB hg; have GE512 := bwz HB hg; replace HB := bwb HB hb; have NB511_512 := bkl BK511 hg; have NB512_511 := bkg BK511 hg; replace BK511 := bkb BK511 hb; clear hb hbox hg; have hnb10 := NB511_512.out; have hnc10 := NB512_511.out; obtain ⟨hcz11, hfz11⟩ := bcf BK511; obtain ⟨hcz12, hfz12⟩ := bcf BK512) | ((with_reducible refine gate_callee (f := 63) rfl ?_); refine goesM (some 12) rfl rfl Try.func63 #[.agg #[.slice A0_0 l0_0.length c0_0], .agg #[.int .i64 a1_0, .int .i64 a1_1, .int .i64 a1_2, .int .i64 a1_3, .int .i64 a1_4]] rfl ?_; (with_reducible refine (spec_l12Ok.calls k _ _ l0_0 a1_0 a1_1 a1_2 a1_3 a1_4 true _ ?side1 ?side2 A3.out).mono ?_); (case side1 => exact Cq (Kd.C_below HR0_0.out HB.out)); (case side2 => exact HC0_0.out); rintro e w13 ⟨rfl, hb⟩; refine ⟨_, rfl, ?_⟩; replace BK511 := bkb BK511 hb; replace BK512 := bkb BK512 hb; replace HB := bwb HB hb; (try clear hb); (try clear hb2); (try clear hk); (try clear hi); obtain ⟨hcz14, hfz14⟩ := bcf BK511) | ((with_reducible refine gate_callee (f := 71) rfl ?_); refine goesM (some 16) rfl rfl Try.func71 #[.agg #[.slice A0_0 l0_0.length c0_0]] rfl ?_; (with_reducible refine (spec_l12All.calls k _ _ l0_0 t517 _ ?side1 ?side2 A5.out).mono ?_); (case side1 => exact Cq (Kd.C_below HR0_0.out HB.out)); (case side2 => exact HC0_0.out); rintro e w15 ⟨v518, rfl, ho0, hb⟩; refine ⟨_, rfl, ?_⟩; have HO519 := Aside0.mk (Kd.R_lower ho0 (below_size (bwq HB))); replace BK511 := bkb BK511 hb; replace BK512 := bkb BK512 hb; replace HB := bwb HB hb; (try clear hb); (try clear hb2); (try clear hk); (try clear hi); (try clear ho0); obtain ⟨hcz16, hfz16⟩ := bcf BK511; obtain ⟨hcz17, hfz17⟩ := bcf BK512) | ((with_reducible refine gate_callee (f := 46) rfl ?_); refine goesM (some 19) rfl rfl Try.func46 #[.agg #[.slice A0_0 l0_0.length c0_0], .agg #[.int .i64 a1_0, .int .i64 a1_1, .int .i64 a1_2, .int .i64 a1_3, .int .i64 a1_4]] rfl ?_; (with_reducible refine (spec_ExprComp.calls k _ _ l0_0 a1_0 a1_1 a1_2 a1_3 a1_4 t520 _ ?side1 ?side2 A6.out).mono ?_); (case side1 => exact Cq (Kd.C_below HR0_0.out HB.out)); (case side2 => exact HC0_0.out); rintro e w18 ⟨v521, rfl, ho0, hb⟩; refine ⟨_, rfl, ?_⟩; have HO522 := Aside0.mk (Kd.R_lower (Kd.R_new' ho0 (Kd.R_lt (Rq HO519.out))) (below_size (bwq HB))); replace HO519 := Aside0.mk (Kd.R_elder' (Rq HO519.out) (Kd.R_base ho0) hb); replace BK511 := bkb BK511 hb; replace BK512 := bkb BK512 hb; replace HB := bwb HB hb; (try clear hb); (try clear hb2); (try clear hk); (try clear hi); (try clear ho0); obtain ⟨hcz19, hfz19⟩ := bcf BK511; obtain ⟨hcz20, hfz20⟩ := bcf BK512) | ((with_reducible refine gate_callee (f := 93) rfl ?_); refine goesM (some 22) rfl rfl Try.func93 #[.agg #[.slice A0_0 l0_0.length c0_0], .agg #[.int .i64 a1_0, .int .i64 a1_1, .int .i64 a1_2, .int .i64 a1_3, .int .i64 a1_4]] rfl ?_; (with_reducible refine (spec_ExprKeeps.calls k _ _ l0_0 a1_0 a1_1 a1_2 a1_3 a1_4 t523 _ ?side1 ?side2 A7.out).mono ?_); (case side1 => exact Cq (Kd.C_below HR0_0.out HB.out)); (case side2 => exact HC0_0.out); rintro e w21 ⟨v524, rfl, ho0, hb⟩; refine ⟨_, rfl, ?_⟩; have HO525 := Aside0.mk (Kd.R_lower (Kd.R_new' (Kd.R_new' ho0 (Kd.R_lt (Rq HO519.out))) (Kd.R_lt (Rq HO522.out))) (below_size (bwq HB))); replace HO519 := Aside0.mk (Kd.R_elder' (Rq HO519.out) (Kd.R_base ho0) hb); replace HO522 := Aside0.mk (Kd.R_elder' (Rq HO522.out) (Kd.R_base ho0) hb); replace BK511 := bkb BK511 hb; replace BK512 := bkb BK512 hb; replace HB := bwb HB hb; (try clear hb); (try clear hb2); (try clear hk); (try clear hi); (try clear ho0)))
  go_loopg [8] k (fun kq v8 w' => ∃ (x5_1 : List Bool) (x8_1 : Bool), v8 = .bool x8_1 ∧ Aside0 (spec_SafeDown.l0 kq x5_1 t520 t523 x8_1 l0_0 = some r) ∧ Aside0 (kq ≤ k) ∧ Aside0 (Kd.R Kd.bool 4 w' w.heap.size (fun k_ => some k_ ≠ (v521 : Value).ownBlock ∧ some k_ ≠ (v524 : Value).ownBlock) v518 x5_1) ∧ Aside0 (Kd.R Kd.bool 4 w' w.heap.size (fun k_ => some k_ ≠ (v518 : Value).ownBlock ∧ some k_ ≠ (v524 : Value).ownBlock) v521 t520) ∧ Aside0 (Kd.R Kd.bool 4 w' w.heap.size (fun k_ => some k_ ≠ (v518 : Value).ownBlock ∧ some k_ ≠ (v521 : Value).ownBlock) v524 t523) ∧ Aside0 (w'.heap[gb511]? = some (.cells #[(.slice A0_0 l0_0.length c0_0)] 38 (0, 0))) ∧ Aside0 (w'.heap[gb512]? = some (.cells #[.int .i64 a1_0, .int .i64 a1_1, .int .i64 a1_2, .int .i64 a1_3, .int .i64 a1_4] 42 (0, 0))) ∧ Aside0 (Below w.heap.size w w'))
  case atStart => exact ⟨(t517), (true), (by first | rfl | (simp; done) | (simp [*]; done)), H', ⟨Nat.le_refl _⟩, ⟨by (with_reducible repeat (first | apply Kd.R_alloc | apply Kd.R_drewN | apply Kd.R_drew)); exact Kd.R_mono HO519.out (fun _ hk => ⟨hk.1.2, hk.2⟩)⟩, ⟨by (with_reducible repeat (first | apply Kd.R_alloc | apply Kd.R_drewN | apply Kd.R_drew)); exact Kd.R_mono HO522.out (fun _ hk => ⟨hk.1.2, hk.2⟩)⟩, ⟨by (with_reducible repeat (first | apply Kd.R_alloc | apply Kd.R_drewN | apply Kd.R_drew)); exact Kd.R_mono HO525.out (fun _ hk => ⟨hk.1.2, hk.2⟩)⟩, ⟨bkq BK511⟩, ⟨bkq BK512⟩, ⟨bwq HB⟩⟩
  case round =>
   clear H'
   try clear c1
   try clear p2
   try clear c4
   try clear c5
   try clear c6
   try clear c7
   try clear c9
   try clear c10
   try clear hcz11
   try clear hcz12
   try clear hcz14
   try clear hcz16
   try clear hcz17
   try clear hcz19
   try clear hcz20
   try clear hfz11
   try clear hfz12
   try clear hfz14
   try clear hfz16
   try clear hfz17
   try clear hfz19
   try clear hfz20
   obtain ⟨x5_1, x8_1, rfl, HA, HK1, HO_5, HO_6, HO_7, BK511, BK512, HB⟩ := hrel
   cases gk with
   | zero => exact absurd HA.out (by intro h_; first | (cases h_; done) | (simp [spec_SafeDown.l0] at h_))
   | succ k1 =>
    have H := HA.out
    clear HA
    simp only [spec_SafeDown.l0] at H
    by_cases c22 : x8_1 = true
    ·subst c22
     rw [if_pos rfl] at H
     have H' := Aside0.mk H
     clear H
     go_wp2
     go_loopg [8, 9] k1 (fun kq v8 v9 w' => ∃ (x5_2 : List Bool) (x8_2 : Bool) (x9_2 : Int), v8 = .bool x8_2 ∧ v9 = .int .i64 x9_2 ∧ Aside0 (spec_SafeDown.l1 kq x5_2 t520 t523 x8_2 x9_2 l0_0 = some r) ∧ Aside0 (kq ≤ k1) ∧ Aside0 (Kd.R Kd.bool 4 w' w.heap.size (fun k_ => some k_ ≠ (v521 : Value).ownBlock ∧ some k_ ≠ (v524 : Value).ownBlock) v518 x5_2) ∧ Aside0 (Kd.R Kd.bool 4 w' w.heap.size (fun k_ => some k_ ≠ (v518 : Value).ownBlock ∧ some k_ ≠ (v524 : Value).ownBlock) v521 t520) ∧ Aside0 (Kd.R Kd.bool 4 w' w.heap.size (fun k_ => some k_ ≠ (v518 : Value).ownBlock ∧ some k_ ≠ (v521 : Value).ownBlock) v524 t523) ∧ Aside0 (w'.heap[gb511]? = some (.cells #[(.slice A0_0 l0_0.length c0_0)] 38 (0, 0))) ∧ Aside0 (w'.heap[gb512]? = some (.cells #[.int .i64 a1_0, .int .i64 a1_1, .int .i64 a1_2, .int .i64 a1_3, .int .i64 a1_4] 42 (0, 0))) ∧ Aside0 (Below w.heap.size w w'))
     case atStart => exact ⟨(x5_1), (false), (0), (by first | rfl | (simp; done) | (simp [*]; done)), (by first | rfl | (simp; done) | (simp [*]; done)), H', ⟨Nat.le_refl _⟩, ⟨Rq HO_5.out⟩, ⟨Rq HO_6.out⟩, ⟨Rq HO_7.out⟩, ⟨bkq BK511⟩, ⟨bkq BK512⟩, ⟨bwq HB⟩⟩
     case round =>
      clear H'
      try clear c1
      try clear c2
      try clear p2
      try clear c4
      try clear c5
      try clear c6
      try clear c7
      try clear c9
      try clear c10
      try clear c22
      try clear hcz11
      try clear hcz12
      try clear hcz14
      try clear hcz16
      try clear hcz17
      try clear hcz19
      try clear hcz20
      try clear hfz11
      try clear hfz12
      try clear hfz14
      try clear hfz16
      try clear hfz17
      try clear hfz19
      try clear hfz20
      try clear p2
      obtain ⟨x5_2, x8_2, x9_2, rfl, rfl, HA, HK2, HO_5, HO_6, HO_7, BK511, BK512, HB⟩ := hrel
      cases gk with
      | zero => exact absurd HA.out (by intro h_; first | (cases h_; done) | (simp [spec_SafeDown.l1] at h_))
      | succ k2 =>
       have H := HA.out
       clear HA
       simp only [spec_SafeDown.l1] at H
       by_cases c23 : x9_2 < (x5_2.length : Int)
       ·rw [if_pos c23] at H
        have c23b0 : decide (x9_2 < (x5_2.length : Int)) = true := decide_eq_true c23
        clear c23
        by_cases c24 : 0 ≤ x9_2
        ·rw [if_pos c24] at H
         have c24b0 : decide (0 ≤ x9_2) = true := decide_eq_true c24
         clear c24
         obtain ⟨bq25, hbq25⟩ : ∃ b_ : Bool, b_ = (rdOf false x5_2 x9_2) := ⟨_, rfl⟩
         replace H : (if bq25 = true then (if x9_2 < (t520.length : Int) then (if rdOf false t520 x9_2 = true then (spec_SafeDown.l1 k2 x5_2 t520 t523 x8_2 (wrap64 (x9_2 + 1)) l0_0) else (if x9_2 < (t523.length : Int) then (if rdOf false t523 x9_2 = true then (if x9_2 < (l0_0.length : Int) then (if (((rd_T77 l0_0 x9_2).f5).length : Int) = 0 then (spec_SafeDown.l1 k2 (x5_2.set (x9_2 : Int).toNat false) t520 t523 true (wrap64 (x9_2 + 1)) l0_0) else ((spec_l12Each.f k2 x5_2 ((rd_T77 l0_0 x9_2).f5)).bind fun t532 => (if t532 = true then (spec_SafeDown.l1 k2 x5_2 t520 t523 x8_2 (wrap64 (x9_2 + 1)) l0_0) else (spec_SafeDown.l1 k2 (x5_2.set (x9_2 : Int).toNat false) t520 t523 true (wrap64 (x9_2 + 1)) l0_0)))) else (none)) else (spec_SafeDown.l1 k2 (x5_2.set (x9_2 : Int).toNat false) t520 t523 true (wrap64 (x9_2 + 1)) l0_0)) else (none))) else (none)) else (spec_SafeDown.l1 k2 x5_2 t520 t523 x8_2 (wrap64 (x9_2 + 1)) l0_0)) = some r := by rw [← hbq25] at H; exact H
         have Nbq25 := Aside0.mk hbq25
         clear hbq25
         by_cases c26 : bq25 = true
         ·subst c26
          rw [if_pos rfl] at H
          by_cases c27 : x9_2 < (t520.length : Int)
          ·rw [if_pos c27] at H
           have c27b0 : decide (x9_2 < (t520.length : Int)) = true := decide_eq_true c27
           clear c27
           obtain ⟨bq28, hbq28⟩ : ∃ b_ : Bool, b_ = (rdOf false t520 x9_2) := ⟨_, rfl⟩
           replace H : (if bq28 = true then (spec_SafeDown.l1 k2 x5_2 t520 t523 x8_2 (wrap64 (x9_2 + 1)) l0_0) else (if x9_2 < (t523.length : Int) then (if rdOf false t523 x9_2 = true then (if x9_2 < (l0_0.length : Int) then (if (((rd_T77 l0_0 x9_2).f5).length : Int) = 0 then (spec_SafeDown.l1 k2 (x5_2.set (x9_2 : Int).toNat false) t520 t523 true (wrap64 (x9_2 + 1)) l0_0) else ((spec_l12Each.f k2 x5_2 ((rd_T77 l0_0 x9_2).f5)).bind fun t532 => (if t532 = true then (spec_SafeDown.l1 k2 x5_2 t520 t523 x8_2 (wrap64 (x9_2 + 1)) l0_0) else (spec_SafeDown.l1 k2 (x5_2.set (x9_2 : Int).toNat false) t520 t523 true (wrap64 (x9_2 + 1)) l0_0)))) else (none)) else (spec_SafeDown.l1 k2 (x5_2.set (x9_2 : Int).toNat false) t520 t523 true (wrap64 (x9_2 + 1)) l0_0)) else (none))) = some r := by rw [← hbq28] at H; exact H
           have Nbq28 := Aside0.mk hbq28
           clear hbq28
           by_cases c29 : bq28 = true
           ·subst c29
            rw [if_pos rfl] at H
            have H' := Aside0.mk H
            clear H
            obtain ⟨Ao30, co30, eo30⟩ := Kd.R_slice HO_5.out
            subst eo30
            have p526 : 0 ≤ (x9_2 : Int) := oda
            have q526 : x9_2 < (x5_2.length : Int) := oda
            obtain ⟨ad526, e526, hx526_0⟩ := Kd.at_bool (Kd.R_reads' HO_5.out).2.2 x9_2 p526 q526
            (try rw [← Nbq25.out] at hx526_0)
            (try rw [← Nbq28.out] at hx526_0)
            cases e526
            replace p526 := eq_true p526
            replace q526 := eq_true q526
            obtain ⟨Ao31, co31, eo31⟩ := Kd.R_slice HO_6.out
            subst eo31
            have p527 : 0 ≤ (x9_2 : Int) := oda
            have q527 : x9_2 < (t520.length : Int) := oda
            obtain ⟨ad527, e527, hx527_0⟩ := Kd.at_bool (Kd.R_reads' HO_6.out).2.2 x9_2 p527 q527
            (try rw [← Nbq25.out] at hx527_0)
            (try rw [← Nbq28.out] at hx527_0)
            cases e527
            replace p527 := eq_true p527
            replace q527 := eq_true q527
            go_wp2
            go_roundg k2
            case measure => have := HK1.out; have := HK2.out; omega
            case rel => exact ⟨(x5_2), (x8_2), (wrap64 (x9_2 + 1)), (by first | rfl | (simp; done) | (simp [*]; done)), (by first | rfl | (simp; done) | (simp [*]; done)), H', ⟨by have := HK1.out; have := HK2.out; omega⟩, ⟨Rq HO_5.out⟩, ⟨Rq HO_6.out⟩, ⟨Rq HO_7.out⟩, ⟨bkq BK511⟩, ⟨bkq BK512⟩, ⟨bwq HB⟩⟩
           ·replace c29 := Bool.eq_false_iff.mpr c29
            subst c29
            have H1 : (if x9_2 < (t523.length : Int) then (if rdOf false t523 x9_2 = true then (if x9_2 < (l0_0.length : Int) then (if (((rd_T77 l0_0 x9_2).f5).length : Int) = 0 then (spec_SafeDown.l1 k2 (x5_2.set (x9_2 : Int).toNat false) t520 t523 true (wrap64 (x9_2 + 1)) l0_0) else ((spec_l12Each.f k2 x5_2 ((rd_T77 l0_0 x9_2).f5)).bind fun t532 => (if t532 = true then (spec_SafeDown.l1 k2 x5_2 t520 t523 x8_2 (wrap64 (x9_2 + 1)) l0_0) else (spec_SafeDown.l1 k2 (x5_2.set (x9_2 : Int).toNat false) t520 t523 true (wrap64 (x9_2 + 1)) l0_0)))) else (none)) else (spec_SafeDown.l1 k2 (x5_2.set (x9_2 : Int).toNat false) t520 t523 true (wrap64 (x9_2 + 1)) l0_0)) else (none)) = some r := by rw [if_neg (show ¬ (false = true) by decide)] at H; exact H
            clear H
            have H := H1
            clear H1
            by_cases c32 : x9_2 < (t523.length : Int)
            ·rw [if_pos c32] at H
             have c32b0 : decide (x9_2 < (t523.length : Int)) = true := decide_eq_true c32
             clear c32
             obtain ⟨bq33, hbq33⟩ : ∃ b_ : Bool, b_ = (rdOf false t523 x9_2) := ⟨_, rfl⟩
             replace H : (if bq33 = true then (if x9_2 < (l0_0.length : Int) then (if (((rd_T77 l0_0 x9_2).f5).length : Int) = 0 then (spec_SafeDown.l1 k2 (x5_2.set (x9_2 : Int).toNat false) t520 t523 true (wrap64 (x9_2 + 1)) l0_0) else ((spec_l12Each.f k2 x5_2 ((rd_T77 l0_0 x9_2).f5)).bind fun t532 => (if t532 = true then (spec_SafeDown.l1 k2 x5_2 t520 t523 x8_2 (wrap64 (x9_2 + 1)) l0_0) else (spec_SafeDown.l1 k2 (x5_2.set (x9_2 : Int).toNat false) t520 t523 true (wrap64 (x9_2 + 1)) l0_0)))) else (none)) else (spec_SafeDown.l1 k2 (x5_2.set (x9_2 : Int).toNat false) t520 t523 true (wrap64 (x9_2 + 1)) l0_0)) = some r := by rw [← hbq33] at H; exact H
             have Nbq33 := Aside0.mk hbq33
             clear hbq33
             by_cases c34 : bq33 = true
             ·subst c34
              rw [if_pos rfl] at H
              by_cases c35 : x9_2 < (l0_0.length : Int)
              ·rw [if_pos c35] at H
               have c35b0 : decide (x9_2 < (l0_0.length : Int)) = true := decide_eq_true c35
               clear c35
               by_cases c36 : (((rd_T77 l0_0 x9_2).f5).length : Int) = 0
               ·rw [if_pos c36] at H
                have c36b0 : ((((rd_T77 l0_0 x9_2).f5).length : Int) == 0) = true := beq_iff_eq.mpr c36
                have c36b1 : ((((rd_T77 l0_0 x9_2).f5).length : Int) != 0) = false := bne_eq_false_iff_eq.mpr c36
                clear c36
                obtain ⟨y530, hy530⟩ : ∃ y_ : List Bool, y_ = (x5_2.set (x9_2 : Int).toNat false) := ⟨_, rfl⟩
                replace H : (spec_SafeDown.l1 k2 y530 t520 t523 true (wrap64 (x9_2 + 1)) l0_0) = some r := by first | (rw [hy530]; with_reducible exact H) | (have H2_ := (Option.bind_some _ _).symm.trans H; rw [hy530]; with_reducible exact H2_) | (have H2_ := (Option.bind_some _ _).symm.trans H; with_reducible exact H2_) | with_reducible exact H | (rw [hy530]; exact H) | exact H
                have Ny530 := Aside0.mk hy530
                clear hy530
                have H' := Aside0.mk H
                clear H
                obtain ⟨Ao38, co38, eo38⟩ := Kd.R_slice HO_5.out
                subst eo38
                have p526 : 0 ≤ (x9_2 : Int) := oda
                have q526 : x9_2 < (x5_2.length : Int) := oda
                obtain ⟨ad526, e526, hx526_0⟩ := Kd.at_bool (Kd.R_reads' HO_5.out).2.2 x9_2 p526 q526
                (try rw [← Nbq25.out] at hx526_0)
                (try rw [← Nbq28.out] at hx526_0)
                (try rw [← Nbq33.out] at hx526_0)
                cases e526
                replace p526 := eq_true p526
                replace q526 := eq_true q526
                obtain ⟨Ao39, co39, eo39⟩ := Kd.R_slice HO_6.out
                subst eo39
                have p527 : 0 ≤ (x9_2 : Int) := oda
                have q527 : x9_2 < (t520.length : Int) := oda
                obtain ⟨ad527, e527, hx527_0⟩ := Kd.at_bool (Kd.R_reads' HO_6.out).2.2 x9_2 p527 q527
                (try rw [← Nbq25.out] at hx527_0)
                (try rw [← Nbq28.out] at hx527_0)
                (try rw [← Nbq33.out] at hx527_0)
                cases e527
                replace p527 := eq_true p527
                replace q527 := eq_true q527
                obtain ⟨Ao40, co40, eo40⟩ := Kd.R_slice HO_7.out
                subst eo40
                have p528 : 0 ≤ (x9_2 : Int) := oda
                have q528 : x9_2 < (t523.length : Int) := oda
                obtain ⟨ad528, e528, hx528_0⟩ := Kd.at_bool (Kd.R_reads' HO_7.out).2.2 x9_2 p528 q528
                (try rw [← Nbq25.out] at hx528_0)
                (try rw [← Nbq28.out] at hx528_0)
                (try rw [← Nbq33.out] at hx528_0)
                cases e528
                replace p528 := eq_true p528
                replace q528 := eq_true q528
                have hnb41 := NB511_512.out
                have hnc41 := NB512_511.out
                obtain ⟨hcz42, hfz42⟩ := bcf BK511
                have p529 : 0 ≤ (x9_2 : Int) := oda
                have q529 : x9_2 < (l0_0.length : Int) := oda
                obtain ⟨ad529, A529_7, c529_7, e529, hx529_0, hx529_1, hx529_2, hx529_3, hx529_4, hx529_5, hx529_6, hx529_7, hl529_7, hi529_7⟩ := at_T77 HR0_0.out x9_2 p529 q529
                cases e529
                replace hx529_0 := hxb HB hx529_0
                replace hx529_1 := hxb HB hx529_1
                replace hx529_2 := hxb HB hx529_2
                replace hx529_3 := hxb HB hx529_3
                replace hx529_4 := hxb HB hx529_4
                replace hx529_5 := hxb HB hx529_5
                replace hx529_6 := hxb HB hx529_6
                replace hx529_7 := hxb HB hx529_7
                have HR529_7 := Aside0.mk hi529_7
                have HC529_7 := Aside0.mk hl529_7
                clear hi529_7 hl529_7
                replace p529 := eq_true p529
                replace q529 := eq_true q529
                have p37 : 0 ≤ (x9_2 : Int) := oda
                have q37 : (x9_2 : Int) < ((x5_2.length : Int) : Int) := oda
                obtain ⟨go37, co37, eo37, gb37, gl37, cl37, HG37⟩ := Kd.R_form HO_5.out (by omega)
                (first | cases eo37 | (injection eo37 with ea_ en_ ec_; (first | subst ea_ | (injection ea_ with ea_; subst ea_)); subst ec_; clear en_))
                have GB37 := Aside0.mk gb37
                have GG37 := Aside0.mk HG37
                clear gb37 gl37 HG37
                (first | simp only [add_plain] at hx526_0 | skip)
                obtain ⟨hx37_0, hf37_0⟩ := Kd.R_celln false HO_5.out (x9_2 : Int) p37 q37
                replace p37 := eq_true p37
                replace q37 := eq_true q37
                have HP43 := Kd.R_putg HO_5.out (x9_2 : Int) false
                go_wp2_with (first | ((with_reducible refine gate_store (t := 4) (p := 71) rfl ?_); refine store_event (t := 4) (p := 71) (v := ?vo_w44) (w1 := (wr.setCell ⟨go37, (x9_2 : Int).toNat, none⟩ (.bool false))) ?hg ?ho ?hn ?hr ?_; (case ho => rfl); (case hg => rfl); (case hn => rfl); (case hr => first | (go_simp; done) | (go_simp; rfl) | (go_simp; rfl)); intro w44 hw; have hg : wr.grownBy w44 (some go37) := (by rw [hw]; exact HP43.2); have hp_ : Kd.R Kd.bool 4 w44 w.heap.size (fun k_ => some k_ ≠ (.slice (some ad527) t520.length co39 : Value).ownBlock ∧ some k_ ≠ (.slice (some ad528) t523.length co40 : Value).ownBlock) (.slice (some ⟨go37, 0, none⟩) x5_2.length co38) y530 := (by rw [hw, Ny530.out]; exact HP43.1); clear HP43; replace HO_6 := Aside0.mk (Kd.R_after (v := (.slice (some ⟨go37, 0, none⟩) x5_2.length co38)) (v1 := (.slice (some ⟨go37, 0, none⟩) x5_2.length co38)) (ok := (fun k_ => some k_ ≠ (.slice (some ad528) t523.length co40 : Value).ownBlock)) (by (with_reducible repeat (first | apply Kd.R_alloc | apply Kd.R_drewN | apply Kd.R_drew)); exact Kd.R_mono HO_6.out (fun _ hk => ⟨hk.2, hk.1⟩)) hg (.inl rfl)); replace HO_7 := Aside0.mk (Kd.R_after (v := (.slice (some ⟨go37, 0, none⟩) x5_2.length co38)) (v1 := (.slice (some ⟨go37, 0, none⟩) x5_2.length co38)) (ok := (fun k_ => some k_ ≠ (.slice (some ad527) t520.length co39 : Value).ownBlock)) (by (with_reducible repeat (first | apply Kd.R_alloc | apply Kd.R_drewN | apply Kd.R_drew)); exact Kd.R_mono HO_7.out (fun _ hk => ⟨hk.2, hk.1⟩)) hg (.inl rfl)); replace BK511 := Aside0.mk (blk_grown (g := gb511) (o := .cells #[.slice (some ad529) l0_0.length c0_0] 38 (0, 0)) (bkq BK511) hg (Kd.R_ne HO_5.out BK511.out (by decide))); replace BK512 := Aside0.mk (blk_grown (g := gb512) (o := .cells #[.int .i64 a1_0, .int .i64 a1_1, .int .i64 a1_2, .int .i64 a1_3, .int .i64 a1_4] 42 (0, 0)) (bkq BK512) hg (Kd.R_ne HO_5.out BK512.out (by decide))); replace HO_5 := Aside0.mk (hp_); replace HB := Aside0.mk ((by rw [hw]; exact below_set (HB.out) GB37.out : Below w.heap.size w w44)); clear hg hw hp_))
                go_roundg k2
                case measure => have := HK1.out; have := HK2.out; omega
                case rel => exact ⟨(y530), (true), (wrap64 (x9_2 + 1)), (by first | rfl | (simp; done) | (simp [*]; done)), (by first | rfl | (simp; done) | (simp [*]; done)), H', ⟨by have := HK1.out; have := HK2.out; omega⟩, ⟨Rq HO_5.out⟩, ⟨by (with_reducible repeat (first | apply Kd.R_alloc | apply Kd.R_drewN | apply Kd.R_drew)); exact Kd.R_mono HO_6.out (fun _ hk => ⟨hk.2, hk.1⟩)⟩, ⟨by (with_reducible repeat (first | apply Kd.R_alloc | apply Kd.R_drewN | apply Kd.R_drew)); exact Kd.R_mono HO_7.out (fun _ hk => ⟨hk.2, hk.1⟩)⟩, ⟨bkq BK511⟩, ⟨bkq BK512⟩, ⟨bwq HB⟩⟩
               ·rw [if_neg c36] at H
                have c36b0 : ((((rd_T77 l0_0 x9_2).f5).length : Int) == 0) = false := beq_eq_false_iff_ne.mpr c36
                have c36b1 : ((((rd_T77 l0_0 x9_2).f5).length : Int) != 0) = true := bne_iff_ne.mpr c36
                have c36b2 : ¬ (((rd_T77 l0_0 x9_2).f5) = []) := fun h_ => c36 (by rw [h_]; rfl)
                replace H := Option.bind_eq_some_iff.mp H
                obtain ⟨t532, A450, H⟩ := H
                have A45 := Aside0.mk A450
                clear A450
                by_cases c46 : t532 = true
                ·subst c46
                 rw [if_pos rfl] at H
                 have H' := Aside0.mk H
                 clear H
                 obtain ⟨Ao47, co47, eo47⟩ := Kd.R_slice HO_5.out
                 subst eo47
                 have p526 : 0 ≤ (x9_2 : Int) := oda
                 have q526 : x9_2 < (x5_2.length : Int) := oda
                 obtain ⟨ad526, e526, hx526_0⟩ := Kd.at_bool (Kd.R_reads' HO_5.out).2.2 x9_2 p526 q526
                 (try rw [← Nbq25.out] at hx526_0)
                 (try rw [← Nbq28.out] at hx526_0)
                 (try rw [← Nbq33.out] at hx526_0)
                 cases e526
                 replace p526 := eq_true p526
                 replace q526 := eq_true q526
                 obtain ⟨Ao48, co48, eo48⟩ := Kd.R_slice HO_6.out
                 subst eo48
                 have p527 : 0 ≤ (x9_2 : Int) := oda
                 have q527 : x9_2 < (t520.length : Int) := oda
                 obtain ⟨ad527, e527, hx527_0⟩ := Kd.at_bool (Kd.R_reads' HO_6.out).2.2 x9_2 p527 q527
                 (try rw [← Nbq25.out] at hx527_0)
                 (try rw [← Nbq28.out] at hx527_0)
                 (try rw [← Nbq33.out] at hx527_0)
                 cases e527
                 replace p527 := eq_true p527
                 replace q527 := eq_true q527
                 obtain ⟨Ao49, co49, eo49⟩ := Kd.R_slice HO_7.out
                 subst eo49
                 have p528 : 0 ≤ (x9_2 : Int) := oda
                 have q528 : x9_2 < (t523.length : Int) := oda
                 obtain ⟨ad528, e528, hx528_0⟩ := Kd.at_bool (Kd.R_reads' HO_7.out).2.2 x9_2 p528 q528
                 (try rw [← Nbq25.out] at hx528_0)
                 (try rw [← Nbq28.out] at hx528_0)
                 (try rw [← Nbq33.out] at hx528_0)
                 cases e528
                 replace p528 := eq_true p528
                 replace q528 := eq_true q528
                 have hnb50 := NB511_512.out
                 have hnc50 := NB512_511.out
                 obtain ⟨hcz51, hfz51⟩ := bcf BK511
                 have p529 : 0 ≤ (x9_2 : Int) := oda
                 have q529 : x9_2 < (l0_0.length : Int) := oda
                 obtain ⟨ad529, A529_7, c529_7, e529, hx529_0, hx529_1, hx529_2, hx529_3, hx529_4, hx529_5, hx529_6, hx529_7, hl529_7, hi529_7⟩ := at_T77 HR0_0.out x9_2 p529 q529
                 cases e529
                 replace hx529_0 := hxb HB hx529_0
                 replace hx529_1 := hxb HB hx529_1
                 replace hx529_2 := hxb HB hx529_2
                 replace hx529_3 := hxb HB hx529_3
                 replace hx529_4 := hxb HB hx529_4
                 replace hx529_5 := hxb HB hx529_5
                 replace hx529_6 := hxb HB hx529_6
                 replace hx529_7 := hxb HB hx529_7
                 have HR529_7 := Aside0.mk hi529_7
                 have HC529_7 := Aside0.mk hl529_7
                 clear hi529_7 hl529_7
                 replace p529 := eq_true p529
                 replace q529 := eq_true q529
                 have p531 : 0 ≤ (x9_2 : Int) := oda
                 have q531 : x9_2 < (l0_0.length : Int) := oda
                 obtain ⟨ad531, A531_7, c531_7, e531, hx531_0, hx531_1, hx531_2, hx531_3, hx531_4, hx531_5, hx531_6, hx531_7, hl531_7, hi531_7⟩ := at_T77 HR0_0.out x9_2 p531 q531
                 obtain rfl : ad529 = ad531 := (by injection e531)
                 replace hx531_0 := hxb HB hx531_0
                 replace hx531_1 := hxb HB hx531_1
                 replace hx531_2 := hxb HB hx531_2
                 replace hx531_3 := hxb HB hx531_3
                 replace hx531_4 := hxb HB hx531_4
                 replace hx531_5 := hxb HB hx531_5
                 replace hx531_6 := hxb HB hx531_6
                 replace hx531_7 := hxb HB hx531_7
                 have HR531_7 := Aside0.mk hi531_7
                 have HC531_7 := Aside0.mk hl531_7
                 clear hi531_7 hl531_7
                 replace p531 := eq_true p531
                 replace q531 := eq_true q531
                 have ea_ := Option.some.inj (hx529_7.symm.trans hx531_7)
                 injection ea_ with ea_ en_ ec_
                 subst ea_
                 subst ec_
                 clear en_
                 go_wp2_with (first | (go_at_call 68; (with_reducible refine (spec_l12Each.calls k2 _ _ x5_2 _ _ ((rd_T77 l0_0 x9_2).f5) true _ ?side1 ?side2 ?side3 ?side4 A45.out).mono ?_); (case side1 => repeat (first | exact (Kd.R_reads' HO_5.out).2.2 | (with_reducible refine Kd.C_alloc ?_ _) | (with_reducible refine Kd.C_drewN ?_ _) | (with_reducible refine Kd.C_drew ?_))); (case side2 => exact (Kd.R_reads' HO_5.out).2.1); (case side3 => exact Cq (Kd.C_below HR531_7.out HB.out)); (case side4 => exact HC531_7.out); rintro e w' ⟨rfl, ⟨nd, rfl⟩⟩))
                 go_roundg k2
                 case measure => have := HK1.out; have := HK2.out; omega
                 case rel => exact ⟨(x5_2), (x8_2), (wrap64 (x9_2 + 1)), (by first | rfl | (simp; done) | (simp [*]; done)), (by first | rfl | (simp; done) | (simp [*]; done)), H', ⟨by have := HK1.out; have := HK2.out; omega⟩, ⟨Rq HO_5.out⟩, ⟨Rq HO_6.out⟩, ⟨Rq HO_7.out⟩, ⟨bkq BK511⟩, ⟨bkq BK512⟩, ⟨bwq HB⟩⟩
                ·replace c46 := Bool.eq_false_iff.mpr c46
                 subst c46
                 have H1 : (spec_SafeDown.l1 k2 (x5_2.set (x9_2 : Int).toNat false) t520 t523 true (wrap64 (x9_2 + 1)) l0_0) = some r := by rw [if_neg (show ¬ (false = true) by decide)] at H; exact H
                 clear H
                 have H := H1
                 clear H1
                 obtain ⟨y533, hy533⟩ : ∃ y_ : List Bool, y_ = (x5_2.set (x9_2 : Int).toNat false) := ⟨_, rfl⟩
                 replace H : (spec_SafeDown.l1 k2 y533 t520 t523 true (wrap64 (x9_2 + 1)) l0_0) = some r := by first | (rw [hy533]; with_reducible exact H) | (have H2_ := (Option.bind_some _ _).symm.trans H; rw [hy533]; with_reducible exact H2_) | (have H2_ := (Option.bind_some _ _).symm.trans H; with_reducible exact H2_) | with_reducible exact H | (rw [hy533]; exact H) | exact H
                 have Ny533 := Aside0.mk hy533
                 clear hy533
                 have H' := Aside0.mk H
                 clear H
                 obtain ⟨Ao53, co53, eo53⟩ := Kd.R_slice HO_5.out
                 subst eo53
                 have p526 : 0 ≤ (x9_2 : Int) := oda
                 have q526 : x9_2 < (x5_2.length : Int) := oda
                 obtain ⟨ad526, e526, hx526_0⟩ := Kd.at_bool (Kd.R_reads' HO_5.out).2.2 x9_2 p526 q526
                 (try rw [← Nbq25.out] at hx526_0)
                 (try rw [← Nbq28.out] at hx526_0)
                 (try rw [← Nbq33.out] at hx526_0)
                 cases e526
                 replace p526 := eq_true p526
                 replace q526 := eq_true q526
                 obtain ⟨Ao54, co54, eo54⟩ := Kd.R_slice HO_6.out
                 subst eo54
                 have p527 : 0 ≤ (x9_2 : Int) := oda
                 have q527 : x9_2 < (t520.length : Int) := oda
                 obtain ⟨ad527, e527, hx527_0⟩ := Kd.at_bool (Kd.R_reads' HO_6.out).2.2 x9_2 p527 q527
                 (try rw [← Nbq25.out] at hx527_0)
                 (try rw [← Nbq28.out] at hx527_0)
                 (try rw [← Nbq33.out] at hx527_0)
                 cases e527
                 replace p527 := eq_true p527
                 replace q527 := eq_true q527
                 obtain ⟨Ao55, co55, eo55⟩ := Kd.R_slice HO_7.out
                 subst eo55
                 have p528 : 0 ≤ (x9_2 : Int) := oda
                 have q528 : x9_2 < (t523.length : Int) := oda
                 obtain ⟨ad528, e528, hx528_0⟩ := Kd.at_bool (Kd.R_reads' HO_7.out).2.2 x9_2 p528 q528
                 (try rw [← Nbq25.out] at hx528_0)
                 (try rw [← Nbq28.out] at hx528_0)
                 (try rw [← Nbq33.out] at hx528_0)
                 cases e528
                 replace p528 := eq_true p528
                 replace q528 := eq_true q528
                 have hnb56 := NB511_512.out
                 have hnc56 := NB512_511.out
                 obtain ⟨hcz57, hfz57⟩ := bcf BK511
                 have p529 : 0 ≤ (x9_2 : Int) := oda
                 have q529 : x9_2 < (l0_0.length : Int) := oda
                 obtain ⟨ad529, A529_7, c529_7, e529, hx529_0, hx529_1, hx529_2, hx529_3, hx529_4, hx529_5, hx529_6, hx529_7, hl529_7, hi529_7⟩ := at_T77 HR0_0.out x9_2 p529 q529
                 cases e529
                 replace hx529_0 := hxb HB hx529_0
                 replace hx529_1 := hxb HB hx529_1
                 replace hx529_2 := hxb HB hx529_2
                 replace hx529_3 := hxb HB hx529_3
                 replace hx529_4 := hxb HB hx529_4
                 replace hx529_5 := hxb HB hx529_5
                 replace hx529_6 := hxb HB hx529_6
                 replace hx529_7 := hxb HB hx529_7
                 have HR529_7 := Aside0.mk hi529_7
                 have HC529_7 := Aside0.mk hl529_7
                 clear hi529_7 hl529_7
                 replace p529 := eq_true p529
                 replace q529 := eq_true q529
                 have p531 : 0 ≤ (x9_2 : Int) := oda
                 have q531 : x9_2 < (l0_0.length : Int) := oda
                 obtain ⟨ad531, A531_7, c531_7, e531, hx531_0, hx531_1, hx531_2, hx531_3, hx531_4, hx531_5, hx531_6, hx531_7, hl531_7, hi531_7⟩ := at_T77 HR0_0.out x9_2 p531 q531
                 obtain rfl : ad529 = ad531 := (by injection e531)
                 replace hx531_0 := hxb HB hx531_0
                 replace hx531_1 := hxb HB hx531_1
                 replace hx531_2 := hxb HB hx531_2
                 replace hx531_3 := hxb HB hx531_3
                 replace hx531_4 := hxb HB hx531_4
                 replace hx531_5 := hxb HB hx531_5
                 replace hx531_6 := hxb HB hx531_6
                 replace hx531_7 := hxb HB hx531_7
                 have HR531_7 := Aside0.mk hi531_7
                 have HC531_7 := Aside0.mk hl531_7
                 clear hi531_7 hl531_7
                 replace p531 := eq_true p531
                 replace q531 := eq_true q531
                 have ea_ := Option.some.inj (hx529_7.symm.trans hx531_7)
                 injection ea_ with ea_ en_ ec_
                 subst ea_
                 subst ec_
                 clear en_
                 go_wp2_with (first | (go_at_call 68; (with_reducible refine (spec_l12Each.calls k2 _ _ x5_2 _ _ ((rd_T77 l0_0 x9_2).f5) false _ ?side1 ?side2 ?side3 ?side4 A45.out).mono ?_); (case side1 => repeat (first | exact (Kd.R_reads' HO_5.out).2.2 | (with_reducible refine Kd.C_alloc ?_ _) | (with_reducible refine Kd.C_drewN ?_ _) | (with_reducible refine Kd.C_drew ?_))); (case side2 => exact (Kd.R_reads' HO_5.out).2.1); (case side3 => exact Cq (Kd.C_below HR531_7.out HB.out)); (case side4 => exact HC531_7.out); rintro e w' ⟨rfl, ⟨nd, rfl⟩⟩; (try (rw [drewN_self wr]; generalize hq_ : World.drewN wr _ = wr; have n0_ : Aside0 (Kd.R Kd.bool 4 wr w.heap.size (fun k_ => some k_ ≠ (.slice (some ad527) t520.length co54 : Value).ownBlock ∧ some k_ ≠ (.slice (some ad528) t523.length co55 : Value).ownBlock) (.slice (some ad526) x5_2.length co53) x5_2) := ⟨by rw [← hq_]; exact (Rq HO_5.out)⟩; have n1_ : Aside0 (Kd.R Kd.bool 4 wr w.heap.size (fun k_ => some k_ ≠ (.slice (some ad526) x5_2.length co53 : Value).ownBlock ∧ some k_ ≠ (.slice (some ad528) t523.length co55 : Value).ownBlock) (.slice (some ad527) t520.length co54) t520) := ⟨by rw [← hq_]; exact (Rq HO_6.out)⟩; have n2_ : Aside0 (Kd.R Kd.bool 4 wr w.heap.size (fun k_ => some k_ ≠ (.slice (some ad526) x5_2.length co53 : Value).ownBlock ∧ some k_ ≠ (.slice (some ad527) t520.length co54 : Value).ownBlock) (.slice (some ad528) t523.length co55) t523) := ⟨by rw [← hq_]; exact (Rq HO_7.out)⟩; have n3_ : Aside0 (wr.heap[gb511]? = some (.cells #[.slice (some ad529) l0_0.length c0_0] 38 (0, 0))) := ⟨by rw [← hq_]; exact (bkq BK511)⟩; have n4_ : Aside0 (wr.heap[gb512]? = some (.cells #[.int .i64 a1_0, .int .i64 a1_1, .int .i64 a1_2, .int .i64 a1_3, .int .i64 a1_4] 42 (0, 0))) := ⟨by rw [← hq_]; exact (bkq BK512)⟩; have n5_ : Aside0 (Below w.heap.size w wr) := ⟨by rw [← hq_]; exact (bwq HB)⟩; clear HO_5 HO_6 HO_7 BK511 BK512 HB hq_; have HO_5 := n0_; have HO_6 := n1_; have HO_7 := n2_; have BK511 := n3_; have BK512 := n4_; have HB := n5_; clear n0_ n1_ n2_ n3_ n4_ n5_)); have p52 : 0 ≤ (x9_2 : Int) := oda; have q52 : (x9_2 : Int) < ((x5_2.length : Int) : Int) := oda; obtain ⟨go52, co52, eo52, gb52, gl52, cl52, HG52⟩ := Kd.R_form HO_5.out (by omega); (first | cases eo52 | (injection eo52 with ea_ en_ ec_; (first | subst ea_ | (injection ea_ with ea_; subst ea_)); subst ec_; clear en_)); have GB52 := Aside0.mk gb52; have GG52 := Aside0.mk HG52; clear gb52 gl52 HG52; (first | simp only [add_plain] at hx526_0 | skip); obtain ⟨hx52_0, hf52_0⟩ := Kd.R_celln false HO_5.out (x9_2 : Int) p52 q52; replace p52 := eq_true p52; replace q52 := eq_true q52; obtain ⟨hy58_, hz58_⟩ := Kd.R_celln false HO_5.out (x9_2 : Int) (oda) (oda); have HP58 := Kd.R_putg HO_5.out (x9_2 : Int) false) | ((with_reducible refine gate_store (t := 4) (p := 71) rfl ?_); refine store_event (t := 4) (p := 71) (v := ?vo_w59) (w1 := (wr.setCell ⟨go52, (x9_2 : Int).toNat, none⟩ (.bool false))) ?hg ?ho ?hn ?hr ?_; (case ho => rfl); (case hg => rfl); (case hn => rfl); (case hr => first | (go_simp; done) | (go_simp; rfl) | (go_simp; rfl)); intro w59 hw; have hg : wr.grownBy w59 (some go52) := (by rw [hw]; exact HP58.2); have hp_ : Kd.R Kd.bool 4 w59 w.heap.size (fun k_ => some k_ ≠ (.slice (some ad527) t520.length co54 : Value).ownBlock ∧ some k_ ≠ (.slice (some ad528) t523.length co55 : Value).ownBlock) (.slice (some ⟨go52, 0, none⟩) x5_2.length co53) y533 := (by rw [hw, Ny533.out]; exact HP58.1); clear HP58; replace HO_6 := Aside0.mk (Kd.R_after (v := (.slice (some ⟨go52, 0, none⟩) x5_2.length co53)) (v1 := (.slice (some ⟨go52, 0, none⟩) x5_2.length co53)) (ok := (fun k_ => some k_ ≠ (.slice (some ad528) t523.length co55 : Value).ownBlock)) (by (with_reducible repeat (first | apply Kd.R_alloc | apply Kd.R_drewN | apply Kd.R_drew)); exact Kd.R_mono HO_6.out (fun _ hk => ⟨hk.2, hk.1⟩)) hg (.inl rfl)); replace HO_7 := Aside0.mk (Kd.R_after (v := (.slice (some ⟨go52, 0, none⟩) x5_2.length co53)) (v1 := (.slice (some ⟨go52, 0, none⟩) x5_2.length co53)) (ok := (fun k_ => some k_ ≠ (.slice (some ad527) t520.length co54 : Value).ownBlock)) (by (with_reducible repeat (first | apply Kd.R_alloc | apply Kd.R_drewN | apply Kd.R_drew)); exact Kd.R_mono HO_7.out (fun _ hk => ⟨hk.2, hk.1⟩)) hg (.inl rfl)); replace BK511 := Aside0.mk (blk_grown (g := gb511) (o := .cells #[.slice (some ad529) l0_0.length c0_0] 38 (0, 0)) (bkq BK511) hg (Kd.R_ne HO_5.out BK511.out (by decide))); replace BK512 := Aside0.mk (blk_grown (g := gb512) (o := .cells #[.int .i64 a1_0, .int .i64 a1_1, .int .i64 a1_2, .int .i64 a1_3, .int .i64 a1_4] 42 (0, 0)) (bkq BK512) hg (Kd.R_ne HO_5.out BK512.out (by decide))); replace HO_5 := Aside0.mk (hp_); replace HB := Aside0.mk ((by rw [hw]; exact below_set (HB.out) GB52.out : Below w.heap.size w w59)); clear hg hw hp_))
                 go_roundg k2
                 case measure => have := HK1.out; have := HK2.out; omega
                 case rel => exact ⟨(y533), (true), (wrap64 (x9_2 + 1)), (by first | rfl | (simp; done) | (simp [*]; done)), (by first | rfl | (simp; done) | (simp [*]; done)), H', ⟨by have := HK1.out; have := HK2.out; omega⟩, ⟨Rq HO_5.out⟩, ⟨by (with_reducible repeat (first | apply Kd.R_alloc | apply Kd.R_drewN | apply Kd.R_drew)); exact Kd.R_mono HO_6.out (fun _ hk => ⟨hk.2, hk.1⟩)⟩, ⟨by (with_reducible repeat (first | apply Kd.R_alloc | apply Kd.R_drewN | apply Kd.R_drew)); exact Kd.R_mono HO_7.out (fun _ hk => ⟨hk.2, hk.1⟩)⟩, ⟨bkq BK511⟩, ⟨bkq BK512⟩, ⟨bwq HB⟩⟩
              ·rw [if_neg c35] at H
               exact absurd H (by simp)
             ·replace c34 := Bool.eq_false_iff.mpr c34
              subst c34
              have H1 : (spec_SafeDown.l1 k2 (x5_2.set (x9_2 : Int).toNat false) t520 t523 true (wrap64 (x9_2 + 1)) l0_0) = some r := by rw [if_neg (show ¬ (false = true) by decide)] at H; exact H
              clear H
              have H := H1
              clear H1
              obtain ⟨y534, hy534⟩ : ∃ y_ : List Bool, y_ = (x5_2.set (x9_2 : Int).toNat false) := ⟨_, rfl⟩
              replace H : (spec_SafeDown.l1 k2 y534 t520 t523 true (wrap64 (x9_2 + 1)) l0_0) = some r := by first | (rw [hy534]; with_reducible exact H) | (have H2_ := (Option.bind_some _ _).symm.trans H; rw [hy534]; with_reducible exact H2_) | (have H2_ := (Option.bind_some _ _).symm.trans H; with_reducible exact H2_) | with_reducible exact H | (rw [hy534]; exact H) | exact H
              have Ny534 := Aside0.mk hy534
              clear hy534
              have H' := Aside0.mk H
              clear H
              obtain ⟨Ao61, co61, eo61⟩ := Kd.R_slice HO_5.out
              subst eo61
              have p526 : 0 ≤ (x9_2 : Int) := oda
              have q526 : x9_2 < (x5_2.length : Int) := oda
              obtain ⟨ad526, e526, hx526_0⟩ := Kd.at_bool (Kd.R_reads' HO_5.out).2.2 x9_2 p526 q526
              (try rw [← Nbq25.out] at hx526_0)
              (try rw [← Nbq28.out] at hx526_0)
              (try rw [← Nbq33.out] at hx526_0)
              cases e526
              replace p526 := eq_true p526
              replace q526 := eq_true q526
              obtain ⟨Ao62, co62, eo62⟩ := Kd.R_slice HO_6.out
              subst eo62
              have p527 : 0 ≤ (x9_2 : Int) := oda
              have q527 : x9_2 < (t520.length : Int) := oda
              obtain ⟨ad527, e527, hx527_0⟩ := Kd.at_bool (Kd.R_reads' HO_6.out).2.2 x9_2 p527 q527
              (try rw [← Nbq25.out] at hx527_0)
              (try rw [← Nbq28.out] at hx527_0)
              (try rw [← Nbq33.out] at hx527_0)
              cases e527
              replace p527 := eq_true p527
              replace q527 := eq_true q527
              obtain ⟨Ao63, co63, eo63⟩ := Kd.R_slice HO_7.out
              subst eo63
              have p528 : 0 ≤ (x9_2 : Int) := oda
              have q528 : x9_2 < (t523.length : Int) := oda
              obtain ⟨ad528, e528, hx528_0⟩ := Kd.at_bool (Kd.R_reads' HO_7.out).2.2 x9_2 p528 q528
              (try rw [← Nbq25.out] at hx528_0)
              (try rw [← Nbq28.out] at hx528_0)
              (try rw [← Nbq33.out] at hx528_0)
              cases e528
              replace p528 := eq_true p528
              replace q528 := eq_true q528
              have p60 : 0 ≤ (x9_2 : Int) := oda
              have q60 : (x9_2 : Int) < ((x5_2.length : Int) : Int) := oda
              obtain ⟨go60, co60, eo60, gb60, gl60, cl60, HG60⟩ := Kd.R_form HO_5.out (by omega)
              (first | cases eo60 | (injection eo60 with ea_ en_ ec_; (first | subst ea_ | (injection ea_ with ea_; subst ea_)); subst ec_; clear en_))
              have GB60 := Aside0.mk gb60
              have GG60 := Aside0.mk HG60
              clear gb60 gl60 HG60
              (first | simp only [add_plain] at hx526_0 | skip)
              obtain ⟨hx60_0, hf60_0⟩ := Kd.R_celln false HO_5.out (x9_2 : Int) p60 q60
              replace p60 := eq_true p60
              replace q60 := eq_true q60
              have HP64 := Kd.R_putg HO_5.out (x9_2 : Int) false
              go_wp2_with (first | ((with_reducible refine gate_store (t := 4) (p := 71) rfl ?_); refine store_event (t := 4) (p := 71) (v := ?vo_w65) (w1 := (wr.setCell ⟨go60, (x9_2 : Int).toNat, none⟩ (.bool false))) ?hg ?ho ?hn ?hr ?_; (case ho => rfl); (case hg => rfl); (case hn => rfl); (case hr => first | (go_simp; done) | (go_simp; rfl) | (go_simp; rfl)); intro w65 hw; have hg : wr.grownBy w65 (some go60) := (by rw [hw]; exact HP64.2); have hp_ : Kd.R Kd.bool 4 w65 w.heap.size (fun k_ => some k_ ≠ (.slice (some ad527) t520.length co62 : Value).ownBlock ∧ some k_ ≠ (.slice (some ad528) t523.length co63 : Value).ownBlock) (.slice (some ⟨go60, 0, none⟩) x5_2.length co61) y534 := (by rw [hw, Ny534.out]; exact HP64.1); clear HP64; replace HO_6 := Aside0.mk (Kd.R_after (v := (.slice (some ⟨go60, 0, none⟩) x5_2.length co61)) (v1 := (.slice (some ⟨go60, 0, none⟩) x5_2.length co61)) (ok := (fun k_ => some k_ ≠ (.slice (some ad528) t523.length co63 : Value).ownBlock)) (by (with_reducible repeat (first | apply Kd.R_alloc | apply Kd.R_drewN | apply Kd.R_drew)); exact Kd.R_mono HO_6.out (fun _ hk => ⟨hk.2, hk.1⟩)) hg (.inl rfl)); replace HO_7 := Aside0.mk (Kd.R_after (v := (.slice (some ⟨go60, 0, none⟩) x5_2.length co61)) (v1 := (.slice (some ⟨go60, 0, none⟩) x5_2.length co61)) (ok := (fun k_ => some k_ ≠ (.slice (some ad527) t520.length co62 : Value).ownBlock)) (by (with_reducible repeat (first | apply Kd.R_alloc | apply Kd.R_drewN | apply Kd.R_drew)); exact Kd.R_mono HO_7.out (fun _ hk => ⟨hk.2, hk.1⟩)) hg (.inl rfl)); replace BK511 := Aside0.mk (blk_grown (g := gb511) (o := .cells #[.slice A0_0 l0_0.length c0_0] 38 (0, 0)) (bkq BK511) hg (Kd.R_ne HO_5.out BK511.out (by decide))); replace BK512 := Aside0.mk (blk_grown (g := gb512) (o := .cells #[.int .i64 a1_0, .int .i64 a1_1, .int .i64 a1_2, .int .i64 a1_3, .int .i64 a1_4] 42 (0, 0)) (bkq BK512) hg (Kd.R_ne HO_5.out BK512.out (by decide))); replace HO_5 := Aside0.mk (hp_); replace HB := Aside0.mk ((by rw [hw]; exact below_set (HB.out) GB60.out : Below w.heap.size w w65)); clear hg hw hp_))
              go_roundg k2
              case measure => have := HK1.out; have := HK2.out; omega
              case rel => exact ⟨(y534), (true), (wrap64 (x9_2 + 1)), (by first | rfl | (simp; done) | (simp [*]; done)), (by first | rfl | (simp; done) | (simp [*]; done)), H', ⟨by have := HK1.out; have := HK2.out; omega⟩, ⟨Rq HO_5.out⟩, ⟨by (with_reducible repeat (first | apply Kd.R_alloc | apply Kd.R_drewN | apply Kd.R_drew)); exact Kd.R_mono HO_6.out (fun _ hk => ⟨hk.2, hk.1⟩)⟩, ⟨by (with_reducible repeat (first | apply Kd.R_alloc | apply Kd.R_drewN | apply Kd.R_drew)); exact Kd.R_mono HO_7.out (fun _ hk => ⟨hk.2, hk.1⟩)⟩, ⟨bkq BK511⟩, ⟨bkq BK512⟩, ⟨bwq HB⟩⟩
            ·rw [if_neg c32] at H
             exact absurd H (by simp)
          ·rw [if_neg c27] at H
           exact absurd H (by simp)
         ·replace c26 := Bool.eq_false_iff.mpr c26
          subst c26
          have H1 : (spec_SafeDown.l1 k2 x5_2 t520 t523 x8_2 (wrap64 (x9_2 + 1)) l0_0) = some r := by rw [if_neg (show ¬ (false = true) by decide)] at H; exact H
          clear H
          have H := H1
          clear H1
          have H' := Aside0.mk H
          clear H
          obtain ⟨Ao66, co66, eo66⟩ := Kd.R_slice HO_5.out
          subst eo66
          have p526 : 0 ≤ (x9_2 : Int) := oda
          have q526 : x9_2 < (x5_2.length : Int) := oda
          obtain ⟨ad526, e526, hx526_0⟩ := Kd.at_bool (Kd.R_reads' HO_5.out).2.2 x9_2 p526 q526
          (try rw [← Nbq25.out] at hx526_0)
          cases e526
          replace p526 := eq_true p526
          replace q526 := eq_true q526
          go_wp2
          go_roundg k2
          case measure => have := HK1.out; have := HK2.out; omega
          case rel => exact ⟨(x5_2), (x8_2), (wrap64 (x9_2 + 1)), (by first | rfl | (simp; done) | (simp [*]; done)), (by first | rfl | (simp; done) | (simp [*]; done)), H', ⟨by have := HK1.out; have := HK2.out; omega⟩, ⟨Rq HO_5.out⟩, ⟨Rq HO_6.out⟩, ⟨Rq HO_7.out⟩, ⟨bkq BK511⟩, ⟨bkq BK512⟩, ⟨bwq HB⟩⟩
        ·rw [if_neg c24] at H
         exact absurd H (by simp)
       ·rw [if_neg c23] at H
        have c23b0 : decide (x9_2 < (x5_2.length : Int)) = false := decide_eq_false c23
        clear c23
        have H' := Aside0.mk H
        clear H
        obtain ⟨Ao67, co67, eo67⟩ := Kd.R_slice HO_5.out
        subst eo67
        go_wp2
        go_roundg k2
        case measure => have := HK1.out; have := HK2.out; omega
        case rel => exact ⟨(x5_2), (x8_2), (by first | rfl | (simp; done) | (simp [*]; done)), H', ⟨by have := HK1.out; have := HK2.out; omega⟩, ⟨Rq HO_5.out⟩, ⟨Rq HO_6.out⟩, ⟨Rq HO_7.out⟩, ⟨bkq BK511⟩, ⟨bkq BK512⟩, ⟨bwq HB⟩⟩
    ·replace c22 := Bool.eq_false_iff.mpr c22
     subst c22
     have H1 : (some x5_1) = some r := by rw [if_neg (show ¬ (false = true) by decide)] at H; exact H
     clear H
     have H := H1
     clear H1
     obtain rfl := Option.some.inj H
     go_wp2
     go_ret
     exact ⟨_, by first | rfl | (simp [errW_none, errW_some] <;> rfl) | (simp [*, errW_none, errW_some] <;> rfl), by (with_reducible repeat (first | apply Kd.R_alloc | apply Kd.R_drewN | apply Kd.R_drew)); exact Kd.R_mono HO_5.out (fun _ hk => trivial), bwq HB⟩
 ·replace c4 := Bool.eq_false_iff.mpr c4
  subst c4
  have H1 : (some (([] : List Bool))) = some r := by rw [if_neg (show ¬ (false = true) by decide)] at H; exact H
  clear H
  have H := H1
  clear H1
  obtain ⟨y514, hy514⟩ : ∃ y_ : List Bool, y_ = (([] : List Bool)) := ⟨_, rfl⟩
  replace H : (some y514) = some r := by first | (rw [hy514]; with_reducible exact H) | (have H2_ := (Option.bind_some _ _).symm.trans H; rw [hy514]; with_reducible exact H2_) | (have H2_ := (Option.bind_some _ _).symm.trans H; with_reducible exact H2_) | with_reducible exact H | (rw [hy514]; exact H) | exact H
  have Ny514 := Aside0.mk hy514
  clear hy514
  obtain rfl := Option.some.inj H
  go_enter Try.func57, Try.ntmps57
  go_wp2_with (first | ((with_reducible refine gate_dst (N := 2) rfl ?_); (try (refine gate_guard (by rfl) ?_; dsimp only)); refine bxe (cs := #[.slice A0_0 l0_0.length c0_0]) (t := 38) ?_; intro gb511 hg w68 hbox hb; have BK511 := Aside0.mk (hbox); have GW511 := bwz HB hg; have GE511 := bwz HB hg; replace HB := bwb HB hb; clear hb hbox hg) | ((with_reducible refine gate_dst (N := 3) rfl ?_); (try (refine gate_guard (by rfl) ?_; dsimp only)); refine bxe (cs := #[.int .i64 a1_0, .int .i64 a1_1, .int .i64 a1_2, .int .i64 a1_3, .int .i64 a1_4]) (t := 42) ?_; intro gb512 hg w69 hbox hb; have BK512 := Aside0.mk (hbox); have GW512 := bwz HB hg; have GE512 := bwz HB hg; replace HB := bwb HB hb; have NB511_512 := bkl BK511 hg; have NB512_511 := bkg BK511 hg; replace BK511 := bkb BK511 hb; clear hb hbox hg; have hnb70 := NB511_512.out; have hnc70 := NB512_511.out; obtain ⟨hcz71, hfz71⟩ := bcf BK511; obtain ⟨hcz72, hfz72⟩ := bcf BK512) | ((with_reducible refine gate_callee (f := 63) rfl ?_); refine goesM (some 12) rfl rfl Try.func63 #[.agg #[.slice A0_0 l0_0.length c0_0], .agg #[.int .i64 a1_0, .int .i64 a1_1, .int .i64 a1_2, .int .i64 a1_3, .int .i64 a1_4]] rfl ?_; (with_reducible refine (spec_l12Ok.calls k _ _ l0_0 a1_0 a1_1 a1_2 a1_3 a1_4 false _ ?side1 ?side2 A3.out).mono ?_); (case side1 => exact Cq (Kd.C_below HR0_0.out HB.out)); (case side2 => exact HC0_0.out); rintro e w73 ⟨rfl, hb⟩; refine ⟨_, rfl, ?_⟩; replace BK511 := bkb BK511 hb; replace BK512 := bkb BK512 hb; replace HB := bwb HB hb; (try clear hb); (try clear hb2); (try clear hk); (try clear hi)) | ((with_reducible refine gate_dst (N := 14) rfl ?_); (try (refine gate_guard (by rfl) ?_; dsimp only)); refine Kd.R_lit Kd.bool _ 4 ?hg (N := 14) ?hd (xs := ([] : List Bool)) (inner := []) (ok := fun _ => True) (okp := fun _ => True) ?hr ?hp (fun _ hk => hk) trivial (Below.refl _ _) (Nat.le_refl _) (by simp) ?_; (case hd => rfl); (case hg => rfl); (case hr => first | (go_simp; done) | (go_simp; rfl) | (go_simp; rfl)); (case hp => exact (Reps.none _ _)); intro v515 w74 ho75 hb hg_ hnew_; clear hg_ hnew_; (first | rw [← Ny514.out] at ho75 | (simp only [Int.reduceToNat] at ho75; rw [← Ny514.out] at ho75)); have HO516 := Aside0.mk (Kd.R_lower ho75 (below_size (bwq HB))); replace BK511 := bkb BK511 hb; replace BK512 := bkb BK512 hb; replace HB := bwb HB hb; clear hb ho75))
  go_ret
  exact ⟨_, by first | rfl | (simp [errW_none, errW_some] <;> rfl) | (simp [*, errW_none, errW_some] <;> rfl), Rq HO516.out, bwq HB⟩
mutual
def spec_SafeUp.l0 : Nat → List Bool → List Bool → List Bool → List (List Int) → Bool → Option (List Bool)
 | 0, _, _, _, _, _ => none
 | k + 1, x5, x6, x7, x8, x9 => if x9 = true then (spec_SafeUp.l1 k x5 x6 x7 x8 false 0) else (some x5)
def spec_SafeUp.l1 : Nat → List Bool → List Bool → List Bool → List (List Int) → Bool → Int → Option (List Bool)
 | 0, _, _, _, _, _, _ => none
 | k + 1, x5, x6, x7, x8, x9, x10 => if x10 < (x5.length : Int) then (spec_SafeUp.l2 k x5 x6 x7 x8 x9 x10 0) else (spec_SafeUp.l0 k x5 x6 x7 x8 x9)
def spec_SafeUp.l2 : Nat → List Bool → List Bool → List Bool → List (List Int) → Bool → Int → Int → Option (List Bool)
 | 0, _, _, _, _, _, _, _ => none
 | k + 1, x5, x6, x7, x8, x9, x10, x11 => if 0 ≤ x10 then (if x10 < (x8.length : Int) then (if x11 < ((rd_L2 x8 x10).length : Int) then (if x10 < (x5.length : Int) then (spec_SafeUp.j3 k x5 x6 x7 x8 x9 x10 x11 (rdOf false x5 x10)) else (none)) else (spec_SafeUp.j3 k x5 x6 x7 x8 x9 x10 x11 false)) else (none)) else (none)
def spec_SafeUp.j3 : Nat → List Bool → List Bool → List Bool → List (List Int) → Bool → Int → Int → Bool → Option (List Bool)
 | 0, _, _, _, _, _, _, _, _ => none
 | k + 1, x5, x6, x7, x8, x9, x10, x11, x49 => if x49 = true then (if 0 ≤ x10 then (if x10 < (x8.length : Int) then (if 0 ≤ x11 then (if x11 < ((rd_L2 x8 x10).length : Int) then (if 0 ≤ (rd (rd_L2 x8 x10) x11) then (if (rd (rd_L2 x8 x10) x11) < (x7.length : Int) then (if (rdOf false x7 (rd (rd_L2 x8 x10) x11) = true) then (if (rd (rd_L2 x8 x10) x11) < (x6.length : Int) then (if (rdOf false x6 (rd (rd_L2 x8 x10) x11) = true) then (spec_SafeUp.l2 k x5 x6 x7 x8 x9 x10 (wrap64 (x11 + 1))) else (if (rd (rd_L2 x8 x10) x11) < (x5.length : Int) then (if (rdOf false x5 (rd (rd_L2 x8 x10) x11) = true) then (spec_SafeUp.l2 k x5 x6 x7 x8 x9 x10 (wrap64 (x11 + 1))) else (if x10 < (x5.length : Int) then (spec_SafeUp.l2 k (x5.set (x10 : Int).toNat false) x6 x7 x8 true x10 (wrap64 (x11 + 1))) else (none))) else (none))) else (none)) else (if x10 < (x5.length : Int) then (spec_SafeUp.l2 k (x5.set (x10 : Int).toNat false) x6 x7 x8 true x10 (wrap64 (x11 + 1))) else (none))) else (none)) else (none)) else (none)) else (none)) else (none)) else (none)) else (spec_SafeUp.l1 k x5 x6 x7 x8 x9 (wrap64 (x10 + 1)))
end
def spec_SafeUp.f (k : Nat) (l0_0 : List (S77)) (a1_0 : Int) (a1_1 : Int) (a1_2 : Int) (a1_3 : Int) (a1_4 : Int) : Option (List Bool) := (spec_l12Ok.f k l0_0 a1_0 a1_1 a1_2 a1_3 a1_4).bind fun t557 => (if t557 = true then ((spec_l12All.f k l0_0).bind fun t561 => (if 0 < (t561.length : Int) then ((spec_ExprComp.f k l0_0 a1_0 a1_1 a1_2 a1_3 a1_4).bind fun t565 => ((spec_ExprKeeps.f k l0_0 a1_0 a1_1 a1_2 a1_3 a1_4).bind fun t568 => ((spec_FlowPreds.f k l0_0).bind fun t571 => (spec_SafeUp.l0 k (t561.set (0 : Int).toNat false) t565 t568 t571 true)))) else (none))) else (some (([] : List Bool))))
theorem spec_SafeUp.calls (k : Nat) (A0_0 : Option Addr) (c0_0 : Nat) (l0_0 : List (S77)) (a1_0 : Int) (a1_1 : Int) (a1_2 : Int) (a1_3 : Int) (a1_4 : Int) (r : List Bool) (w : World) (hr0_0 : Kd.C k77 w A0_0 l0_0.length l0_0) (hc0_0 : l0_0.length ≤ c0_0) (h : spec_SafeUp.f k l0_0 a1_0 a1_1 a1_2 a1_3 a1_4 = some r) :
  Calls Try.prog 58 #[.agg #[.slice A0_0 l0_0.length c0_0], .agg #[.int .i64 a1_0, .int .i64 a1_1, .int .i64 a1_2, .int .i64 a1_3, .int .i64 a1_4]] w fun e w' => ∃ v0_ : Value, e = .returned (v0_) ∧ Kd.R Kd.bool 4 w' w.heap.size (fun _ => True) v0_ r ∧ Below w.heap.size w w' := by
 have hu38 := Try.underlying38
 have hu42 := Try.underlying42
 have HR0_0 := Aside0.mk hr0_0
 have HC0_0 := Aside0.mk hc0_0
 clear hr0_0 hc0_0
 have HB := Aside0.mk (Below.refl w.heap.size w)
 have H : ((spec_l12Ok.f k l0_0 a1_0 a1_1 a1_2 a1_3 a1_4).bind fun t557 => (if t557 = true then ((spec_l12All.f k l0_0).bind fun t561 => (if 0 < (t561.length : Int) then ((spec_ExprComp.f k l0_0 a1_0 a1_1 a1_2 a1_3 a1_4).bind fun t565 => ((spec_ExprKeeps.f k l0_0 a1_0 a1_1 a1_2 a1_3 a1_4).bind fun t568 => ((spec_FlowPreds.f k l0_0).bind fun t571 => (spec_SafeUp.l0 k (t561.set (0 : Int).toNat false) t565 t568 t571 true)))) else (none))) else (some (([] : List Bool))))) = some r := h
 clear h
 replace H := Option.bind_eq_some_iff.mp H
 obtain ⟨t557, A30, H⟩ := H
 have A3 := Aside0.mk A30
 clear A30
 by_cases c4 : t557 = true
 ·subst c4
  rw [if_pos rfl] at H
  replace H := Option.bind_eq_some_iff.mp H
  obtain ⟨t561, A50, H⟩ := H
  have A5 := Aside0.mk A50
  clear A50
  by_cases c6 : 0 < (t561.length : Int)
  ·rw [if_pos c6] at H
   have c6b0 : decide (0 < (t561.length : Int)) = true := decide_eq_true c6
   have c6b1 : decide (0 < t561.length) = true := decide_eq_true (by omega)
   clear c6
   obtain ⟨y564, hy564⟩ : ∃ y_ : List Bool, y_ = (t561.set (0 : Int).toNat false) := ⟨_, rfl⟩
   replace H : ((spec_ExprComp.f k l0_0 a1_0 a1_1 a1_2 a1_3 a1_4).bind fun t565 => ((spec_ExprKeeps.f k l0_0 a1_0 a1_1 a1_2 a1_3 a1_4).bind fun t568 => ((spec_FlowPreds.f k l0_0).bind fun t571 => (spec_SafeUp.l0 k y564 t565 t568 t571 true)))) = some r := by first | (rw [hy564]; with_reducible exact H) | (have H2_ := (Option.bind_some _ _).symm.trans H; rw [hy564]; with_reducible exact H2_) | (have H2_ := (Option.bind_some _ _).symm.trans H; with_reducible exact H2_) | with_reducible exact H | (rw [hy564]; exact H) | exact H
   have Ny564 := Aside0.mk hy564
   clear hy564
   replace H := Option.bind_eq_some_iff.mp H
   obtain ⟨t565, A80, H⟩ := H
   have A8 := Aside0.mk A80
   clear A80
   replace H := Option.bind_eq_some_iff.mp H
   obtain ⟨t568, A90, H⟩ := H
   have A9 := Aside0.mk A90
   clear A90
   replace H := Option.bind_eq_some_iff.mp H
   obtain ⟨t571, A100, H⟩ := H
   have A10 := Aside0.mk A100
   clear A100
   have H' := Aside0.mk H
   clear H
   go_enter Try.func58, Try.ntmps58
   go_wp2_with (first | ((with_reducible refine gate_dst (N := 2) rfl ?_); refine bxe (cs := #[.slice A0_0 l0_0.length c0_0]) (t := 38) ?_; intro gb555 hg w11 hbox hb; have BK555 := Aside0.mk (hbox); have GW555 := bwz HB hg; have GE555 := bwz HB hg; replace HB := bwb HB hb; clear hb hbox hg) | ((with_reducible refine gate_dst (N := 3) rfl ?_); refine bxe (cs := #[.int .i64 a1_0, .int .i64 a1_1, .int .i64 a1_2, .int .i64 a1_3, .int .i64 a1_4]) (t := 42) ?_; intro gb556 hg w12 hbox hb; have BK556 := Aside0.mk (hbox); have GW556 := bwz HB hg; have GE556 := bwz HB hg; replace HB := bwb HB hb; have NB555_556 := bkl BK555 hg; have NB556_555 := bkg BK555 hg; replace BK555 := bkb BK555 hb; clear hb hbox hg; have hnb13 := NB555_556.out; have hnc13 := NB556_555.out; obtain ⟨hcz14, hfz14⟩ := bcf BK555; obtain ⟨hcz15, hfz15⟩ := bcf BK556) | ((with_reducible refine gate_callee (f := 63) rfl ?_); refine goesM (some 15) rfl rfl Try.func63 #[.agg #[.slice A0_0 l0_0.length c0_0], .agg #[.int .i64 a1_0, .int .i64 a1_1, .int .i64 a1_2, .int .i64 a1_3, .int .i64 a1_4]] rfl ?_; (with_reducible refine (spec_l12Ok.calls k _ _ l0_0 a1_0 a1_1 a1_2 a1_3 a1_4 true _ ?side1 ?side2 A3.out).mono ?_); (case side1 => exact Cq (Kd.C_below HR0_0.out HB.out)); (case side2 => exact HC0_0.out); rintro e w16 ⟨rfl, hb⟩; refine ⟨_, rfl, ?_⟩; replace BK555 := bkb BK555 hb; replace BK556 := bkb BK556 hb; replace HB := bwb HB hb; (try clear hb); (try clear hb2); (try clear hk); (try clear hi); obtain ⟨hcz17, hfz17⟩ := bcf BK555) | ((with_reducible refine gate_callee (f := 71) rfl ?_); refine goesM (some 19) rfl rfl Try.func71 #[.agg #[.slice A0_0 l0_0.length c0_0]] rfl ?_; (with_reducible refine (spec_l12All.calls k _ _ l0_0 t561 _ ?side1 ?side2 A5.out).mono ?_); (case side1 => exact Cq (Kd.C_below HR0_0.out HB.out)); (case side2 => exact HC0_0.out); rintro e w18 ⟨v562, rfl, ho0, hb⟩; refine ⟨_, rfl, ?_⟩; have HO563 := Aside0.mk (Kd.R_lower ho0 (below_size (bwq HB))); replace BK555 := bkb BK555 hb; replace BK556 := bkb BK556 hb; replace HB := bwb HB hb; (try clear hb); (try clear hb2); (try clear hk); (try clear hi); (try clear ho0); have p7 : 0 ≤ (0 : Int) := (by omega); have q7 : (0 : Int) < ((t561.length : Int) : Int) := oda; have qi7 : (0 < t561.length) = True := eq_true (by omega); obtain ⟨go7, co7, eo7, gb7, gl7, cl7, HG7⟩ := Kd.R_form HO563.out (by omega); (first | cases eo7 | (injection eo7 with ea_ en_ ec_; (first | subst ea_ | (injection ea_ with ea_; subst ea_)); subst ec_; clear en_)); have GB7 := Aside0.mk gb7; have GG7 := Aside0.mk HG7; clear gb7 gl7 HG7; obtain ⟨hx7_0, hf7_0⟩ := Kd.R_celln false HO563.out (0 : Int) p7 q7; (try rw [show ((0 : Int)).toNat = 0 from rfl] at hx7_0); (try simp only [Nat.reduceMul, Nat.zero_mul, Nat.zero_add, Nat.reduceAdd] at hx7_0); (try rw [show ((0 : Int)).toNat = 0 from rfl] at hf7_0); (try simp only [Nat.reduceMul, Nat.zero_mul, Nat.zero_add, Nat.reduceAdd] at hf7_0); replace p7 := eq_true p7; replace q7 := eq_true q7; obtain ⟨hy19_, hz19_⟩ := Kd.R_celln false HO563.out (0 : Int) (by omega) (oda); (try simp only [Int.reduceToNat, Int.toNat_zero, Int.toNat_ofNat, Nat.reduceMul, Nat.zero_mul, Nat.zero_add] at hy19_ hz19_); (try rw [show ((0 : Int)).toNat = 0 from rfl] at hy19_); (try rw [show ((0 : Int)).toNat = 0 from rfl] at hz19_); have HP19 := Kd.R_putg HO563.out (0 : Int) false) | ((with_reducible refine gate_store (t := 4) (p := 21) rfl ?_); refine store_event (t := 4) (p := 21) (v := ?vo_w20) (w1 := (w18.setCell ⟨go7, (0 : Int).toNat, none⟩ (.bool false))) ?hg ?ho ?hn ?hr ?_; (case ho => rfl); (case hg => rfl); (case hn => rfl); (case hr => first | (go_simp; done) | (go_simp; rfl) | (go_simp; rfl)); intro w20 hw; have hg : w18.grownBy w20 (some go7) := (by rw [hw]; exact HP19.2); have hp_ : Kd.R Kd.bool 4 w20 w.heap.size (fun _ => True) (.slice (some ⟨go7, 0, none⟩) t561.length co7) y564 := (by rw [hw, Ny564.out]; exact HP19.1); clear HP19; replace BK555 := Aside0.mk (blk_grown (g := gb555) (o := .cells #[.slice A0_0 l0_0.length c0_0] 38 (0, 0)) (bkq BK555) hg (Kd.R_ne HO563.out BK555.out (by decide))); replace BK556 := Aside0.mk (blk_grown (g := gb556) (o := .cells #[.int .i64 a1_0, .int .i64 a1_1, .int .i64 a1_2, .int .i64 a1_3, .int .i64 a1_4] 42 (0, 0)) (bkq BK556) hg (Kd.R_ne HO563.out BK556.out (by decide))); replace HO563 := Aside0.mk (hp_); replace HB := Aside0.mk ((by rw [hw]; exact below_set (HB.out) GB7.out : Below w.heap.size w w20)); clear hg hw hp_; obtain ⟨hcz21, hfz21⟩ := bcf BK555; obtain ⟨hcz22, hfz22⟩ := bcf BK556) | ((with_reducible refine gate_callee (f := 46) rfl ?_); refine goesM (some 24) rfl rfl Try.func46 #[.agg #[.slice A0_0 l0_0.length c0_0], .agg #[.int .i64 a1_0, .int .i64 a1_1, .int .i64 a1_2, .int .i64 a1_3, .int .i64 a1_4]] rfl ?_; (with_reducible refine (spec_ExprComp.calls k _ _ l0_0 a1_0 a1_1 a1_2 a1_3 a1_4 t565 _ ?side1 ?side2 A8.out).mono ?_); (case side1 => exact Cq (Kd.C_below HR0_0.out HB.out)); (case side2 => exact HC0_0.out); rintro e w23 ⟨v566, rfl, ho0, hb⟩; refine ⟨_, rfl, ?_⟩; have HO567 := Aside0.mk (Kd.R_lower (Kd.R_new' ho0 (Kd.R_lt (Rq HO563.out))) (below_size (bwq HB))); replace HO563 := Aside0.mk (Kd.R_elder' (Rq HO563.out) (Kd.R_base ho0) hb); replace BK555 := bkb BK555 hb; replace BK556 := bkb BK556 hb; replace HB := bwb HB hb; (try clear hb); (try clear hb2); (try clear hk); (try clear hi); (try clear ho0); obtain ⟨hcz24, hfz24⟩ := bcf BK555; obtain ⟨hcz25, hfz25⟩ := bcf BK556) | ((with_reducible refine gate_callee (f := 93) rfl ?_); refine goesM (some 27) rfl rfl Try.func93 #[.agg #[.slice A0_0 l0_0.length c0_0], .agg #[.int .i64 a1_0, .int .i64 a1_1, .int .i64 a1_2, .int .i64 a1_3, .int .i64 a1_4]] rfl ?_; (with_reducible refine (spec_ExprKeeps.calls k _ _ l0_0 a1_0 a1_1 a1_2 a1_3 a1_4 t568 _ ?side1 ?side2 A9.out).mono ?_); (case side1 => exact Cq (Kd.C_below HR0_0.out HB.out)); (case side2 => exact HC0_0.out); rintro e w26 ⟨v569, rfl, ho0, hb⟩; refine ⟨_, rfl, ?_⟩; have HO570 := Aside0.mk (Kd.R_lower (Kd.R_new' (Kd.R_new' ho0 (Kd.R_lt (Rq HO563.out))) (Kd.R_lt (Rq HO567.out))) (below_size (bwq HB))); replace HO563 := Aside0.mk (Kd.R_elder' (Rq HO563.out) (Kd.R_base ho0) hb); replace HO567 := Aside0.mk (Kd.R_elder' (Rq HO567.out) (Kd.R_base ho0) hb); replace BK555 := bkb BK555 hb; replace BK556 := bkb BK556 hb; replace HB := bwb HB hb; (try clear hb); (try clear hb2); (try clear hk); (try clear hi); (try clear ho0); obtain ⟨hcz27, hfz27⟩ := bcf BK555) | ((with_reducible refine gate_callee (f := 94) rfl ?_); refine goesM (some 29) rfl rfl Try.func94 #[.agg #[.slice A0_0 l0_0.length c0_0]] rfl ?_; (with_reducible refine (spec_FlowPreds.calls k _ _ l0_0 t571 _ ?side1 ?side2 A10.out).mono ?_); (case side1 => exact Cq (Kd.C_below HR0_0.out HB.out)); (case side2 => exact HC0_0.out); rintro e w28 ⟨v572, rfl, ho0, hb⟩; refine ⟨_, rfl, ?_⟩; replace HO563 := Aside0.mk (Kd.R_below (Rq HO563.out) hb); replace HO567 := Aside0.mk (Kd.R_below (Rq HO567.out) hb); replace HO570 := Aside0.mk (Kd.R_below (Rq HO570.out) hb); have HO573 := Aside0.mk (Kd.S_lower ho0 (below_size (bwq HB))); replace BK555 := bkb BK555 hb; replace BK556 := bkb BK556 hb; replace HB := bwb HB hb; (try clear hb); (try clear hb2); (try clear hk); (try clear hi); (try clear ho0)))
   go_loopg [9] k (fun kq v9 w' => ∃ (x5_1 : List Bool) (x9_1 : Bool), v9 = .bool x9_1 ∧ Aside0 (spec_SafeUp.l0 kq x5_1 t565 t568 t571 x9_1 = some r) ∧ Aside0 (kq ≤ k) ∧ Aside0 (Kd.R Kd.bool 4 w' w.heap.size (fun k_ => some k_ ≠ (v566 : Value).ownBlock ∧ some k_ ≠ (v569 : Value).ownBlock) (.slice (some ⟨go7, 0, none⟩) t561.length co7) x5_1) ∧ Aside0 (Kd.R Kd.bool 4 w' w.heap.size (fun k_ => some k_ ≠ ((.slice (some ⟨go7, 0, none⟩) t561.length co7) : Value).ownBlock ∧ some k_ ≠ (v569 : Value).ownBlock) v566 t565) ∧ Aside0 (Kd.R Kd.bool 4 w' w.heap.size (fun k_ => some k_ ≠ ((.slice (some ⟨go7, 0, none⟩) t561.length co7) : Value).ownBlock ∧ some k_ ≠ (v566 : Value).ownBlock) v569 t568) ∧ Aside0 (Kd.S (Kd.slice 3 (Kd.int .i64)) 32 w' w.heap.size (fun _ => True) v572 t571) ∧ Aside0 (w'.heap[gb555]? = some (.cells #[(.slice A0_0 l0_0.length c0_0)] 38 (0, 0))) ∧ Aside0 (w'.heap[gb556]? = some (.cells #[.int .i64 a1_0, .int .i64 a1_1, .int .i64 a1_2, .int .i64 a1_3, .int .i64 a1_4] 42 (0, 0))) ∧ Aside0 (Below w.heap.size w w'))
   case atStart => exact ⟨(y564), (true), (by first | rfl | (simp; done) | (simp [*]; done)), H', ⟨Nat.le_refl _⟩, ⟨by (with_reducible repeat (first | apply Kd.R_alloc | apply Kd.R_drewN | apply Kd.R_drew)); exact Kd.R_mono HO563.out (fun _ hk => ⟨hk.1.2, hk.2⟩)⟩, ⟨by (with_reducible repeat (first | apply Kd.R_alloc | apply Kd.R_drewN | apply Kd.R_drew)); exact Kd.R_mono HO567.out (fun _ hk => ⟨hk.1.2, hk.2⟩)⟩, ⟨by (with_reducible repeat (first | apply Kd.R_alloc | apply Kd.R_drewN | apply Kd.R_drew)); exact Kd.R_mono HO570.out (fun _ hk => ⟨hk.1.2, hk.2⟩)⟩, ⟨Sq HO573.out⟩, ⟨bkq BK555⟩, ⟨bkq BK556⟩, ⟨bwq HB⟩⟩
   case round =>
    clear H'
    try clear c1
    try clear p2
    try clear c4
    try clear c5
    try clear c6
    try clear c6b0
    try clear c6b1
    try clear c7
    try clear p7
    try clear q7
    try clear hx7
    try clear qi7
    try clear hf7
    try clear c9
    try clear c13
    try clear hcz14
    try clear hcz15
    try clear hcz17
    try clear hcz21
    try clear hcz22
    try clear hcz24
    try clear hcz25
    try clear hcz27
    try clear hfz14
    try clear hfz15
    try clear hfz17
    try clear hfz21
    try clear hfz22
    try clear hfz24
    try clear hfz25
    try clear hfz27
    try clear hx7_0
    try clear p7
    try clear q7
    obtain ⟨x5_1, x9_1, rfl, HA, HK1, HO_5, HO_6, HO_7, HO_8, BK555, BK556, HB⟩ := hrel
    have hl5_1 := (Kd.R_reads' HO_5.out).1
    rw [hl5_1] at HO_5
    (try simp only [hl5_1])
    (try simp only [hl5_1] at BK555)
    (try simp only [hl5_1] at BK556)
    (try simp only [hl5_1] at HO_6)
    (try simp only [hl5_1] at HO_7)
    (try simp only [hl5_1] at HO_8)
    cases gk with
    | zero => exact absurd HA.out (by intro h_; first | (cases h_; done) | (simp [spec_SafeUp.l0] at h_))
    | succ k1 =>
     have H := HA.out
     clear HA
     simp only [spec_SafeUp.l0] at H
     by_cases c29 : x9_1 = true
     ·subst c29
      rw [if_pos rfl] at H
      have H' := Aside0.mk H
      clear H
      go_wp2
      go_loopg [9, 10] k1 (fun kq v9 v10 w' => ∃ (x5_2 : List Bool) (x9_2 : Bool) (x10_2 : Int), v9 = .bool x9_2 ∧ v10 = .int .i64 x10_2 ∧ Aside0 (spec_SafeUp.l1 kq x5_2 t565 t568 t571 x9_2 x10_2 = some r) ∧ Aside0 (kq ≤ k1) ∧ Aside0 (Kd.R Kd.bool 4 w' w.heap.size (fun k_ => some k_ ≠ (v566 : Value).ownBlock ∧ some k_ ≠ (v569 : Value).ownBlock) (.slice (some ⟨go7, 0, none⟩) x5_1.length co7) x5_2) ∧ Aside0 (Kd.R Kd.bool 4 w' w.heap.size (fun k_ => some k_ ≠ ((.slice (some ⟨go7, 0, none⟩) x5_1.length co7) : Value).ownBlock ∧ some k_ ≠ (v569 : Value).ownBlock) v566 t565) ∧ Aside0 (Kd.R Kd.bool 4 w' w.heap.size (fun k_ => some k_ ≠ ((.slice (some ⟨go7, 0, none⟩) x5_1.length co7) : Value).ownBlock ∧ some k_ ≠ (v566 : Value).ownBlock) v569 t568) ∧ Aside0 (Kd.S (Kd.slice 3 (Kd.int .i64)) 32 w' w.heap.size (fun _ => True) v572 t571) ∧ Aside0 (w'.heap[gb555]? = some (.cells #[(.slice A0_0 l0_0.length c0_0)] 38 (0, 0))) ∧ Aside0 (w'.heap[gb556]? = some (.cells #[.int .i64 a1_0, .int .i64 a1_1, .int .i64 a1_2, .int .i64 a1_3, .int .i64 a1_4] 42 (0, 0))) ∧ Aside0 (Below w.heap.size w w'))
      case atStart => exact ⟨(x5_1), (false), (0), (by first | rfl | (simp; done) | (simp [*]; done)), (by first | rfl | (simp; done) | (simp [*]; done)), H', ⟨Nat.le_refl _⟩, ⟨by (try simp only [hl5_1]); exact Rq HO_5.out⟩, ⟨by (try simp only [hl5_1]); exact Rq HO_6.out⟩, ⟨by (try simp only [hl5_1]); exact Rq HO_7.out⟩, ⟨by (try simp only [hl5_1]); exact Sq HO_8.out⟩, ⟨by (try simp only [hl5_1]); exact bkq BK555⟩, ⟨by (try simp only [hl5_1]); exact bkq BK556⟩, ⟨bwq HB⟩⟩
      case round =>
       clear H'
       try clear c1
       try clear c2
       try clear p2
       try clear c4
       try clear c5
       try clear c6
       try clear c6b0
       try clear c6b1
       try clear c7
       try clear p7
       try clear q7
       try clear hx7
       try clear qi7
       try clear hf7
       try clear c9
       try clear c13
       try clear c29
       try clear hcz14
       try clear hcz15
       try clear hcz17
       try clear hcz21
       try clear hcz22
       try clear hcz24
       try clear hcz25
       try clear hcz27
       try clear hfz14
       try clear hfz15
       try clear hfz17
       try clear hfz21
       try clear hfz22
       try clear hfz24
       try clear hfz25
       try clear hfz27
       try clear hx7_0
       try clear p2
       try clear p7
       try clear q7
       obtain ⟨x5_2, x9_2, x10_2, rfl, rfl, HA, HK2, HO_5, HO_6, HO_7, HO_8, BK555, BK556, HB⟩ := hrel
       have hl5_2 := (Kd.R_reads' HO_5.out).1
       rw [hl5_2] at HO_5
       (try simp only [hl5_2])
       (try simp only [hl5_2] at BK555)
       (try simp only [hl5_2] at BK556)
       (try simp only [hl5_2] at HO_6)
       (try simp only [hl5_2] at HO_7)
       (try simp only [hl5_2] at HO_8)
       cases gk with
       | zero => exact absurd HA.out (by intro h_; first | (cases h_; done) | (simp [spec_SafeUp.l1] at h_))
       | succ k2 =>
        have H := HA.out
        clear HA
        simp only [spec_SafeUp.l1] at H
        by_cases c30 : x10_2 < (x5_2.length : Int)
        ·rw [if_pos c30] at H
         have c30b0 : decide (x10_2 < (x5_2.length : Int)) = true := decide_eq_true c30
         clear c30
         have H' := Aside0.mk H
         clear H
         go_wp2
         go_loopg [9, 11] k2 (fun kq v9 v11 w' => ∃ (x5_3 : List Bool) (x9_3 : Bool) (x11_3 : Int), v9 = .bool x9_3 ∧ v11 = .int .i64 x11_3 ∧ Aside0 (spec_SafeUp.l2 kq x5_3 t565 t568 t571 x9_3 x10_2 x11_3 = some r) ∧ Aside0 (kq ≤ k2) ∧ Aside0 (Kd.R Kd.bool 4 w' w.heap.size (fun k_ => some k_ ≠ (v566 : Value).ownBlock ∧ some k_ ≠ (v569 : Value).ownBlock) (.slice (some ⟨go7, 0, none⟩) x5_2.length co7) x5_3) ∧ Aside0 (Kd.R Kd.bool 4 w' w.heap.size (fun k_ => some k_ ≠ ((.slice (some ⟨go7, 0, none⟩) x5_2.length co7) : Value).ownBlock ∧ some k_ ≠ (v569 : Value).ownBlock) v566 t565) ∧ Aside0 (Kd.R Kd.bool 4 w' w.heap.size (fun k_ => some k_ ≠ ((.slice (some ⟨go7, 0, none⟩) x5_2.length co7) : Value).ownBlock ∧ some k_ ≠ (v566 : Value).ownBlock) v569 t568) ∧ Aside0 (Kd.S (Kd.slice 3 (Kd.int .i64)) 32 w' w.heap.size (fun _ => True) v572 t571) ∧ Aside0 (w'.heap[gb555]? = some (.cells #[(.slice A0_0 l0_0.length c0_0)] 38 (0, 0))) ∧ Aside0 (w'.heap[gb556]? = some (.cells #[.int .i64 a1_0, .int .i64 a1_1, .int .i64 a1_2, .int .i64 a1_3, .int .i64 a1_4] 42 (0, 0))) ∧ Aside0 (Below w.heap.size w w'))
         case atStart => exact ⟨(x5_2), (x9_2), (0), (by first | rfl | (simp; done) | (simp [*]; done)), (by first | rfl | (simp; done) | (simp [*]; done)), H', ⟨Nat.le_refl _⟩, ⟨by (try simp only [hl5_1]); (try simp only [hl5_2]); exact Rq HO_5.out⟩, ⟨by (try simp only [hl5_1]); (try simp only [hl5_2]); exact Rq HO_6.out⟩, ⟨by (try simp only [hl5_1]); (try simp only [hl5_2]); exact Rq HO_7.out⟩, ⟨by (try simp only [hl5_1]); (try simp only [hl5_2]); exact Sq HO_8.out⟩, ⟨by (try simp only [hl5_1]); (try simp only [hl5_2]); exact bkq BK555⟩, ⟨by (try simp only [hl5_1]); (try simp only [hl5_2]); exact bkq BK556⟩, ⟨bwq HB⟩⟩
         case round =>
          clear H'
          try clear c1
          try clear c2
          try clear p2
          try clear c3
          try clear c4
          try clear c5
          try clear c6
          try clear c6b0
          try clear c6b1
          try clear c7
          try clear p7
          try clear q7
          try clear hx7
          try clear qi7
          try clear hf7
          try clear c9
          try clear c13
          try clear c29
          try clear c30
          try clear c30b0
          try clear hcz14
          try clear hcz15
          try clear hcz17
          try clear hcz21
          try clear hcz22
          try clear hcz24
          try clear hcz25
          try clear hcz27
          try clear hfz14
          try clear hfz15
          try clear hfz17
          try clear hfz21
          try clear hfz22
          try clear hfz24
          try clear hfz25
          try clear hfz27
          try clear hx7_0
          try clear p2
          try clear p7
          try clear q7
          obtain ⟨x5_3, x9_3, x11_3, rfl, rfl, HA, HK3, HO_5, HO_6, HO_7, HO_8, BK555, BK556, HB⟩ := hrel
          have hl5_3 := (Kd.R_reads' HO_5.out).1
          rw [hl5_3] at HO_5
          (try simp only [hl5_3])
          (try simp only [hl5_3] at BK555)
          (try simp only [hl5_3] at BK556)
          (try simp only [hl5_3] at HO_6)
          (try simp only [hl5_3] at HO_7)
          (try simp only [hl5_3] at HO_8)
          cases gk with
          | zero => exact absurd HA.out (by intro h_; first | (cases h_; done) | (simp [spec_SafeUp.l2] at h_))
          | succ k3 =>
           have H := HA.out
           clear HA
           simp only [spec_SafeUp.l2] at H
           have HC31 := Aside0.mk H
           clear H
           go_upto_region 15 with (fail)
           go_cut [49] (fun v49 wc => ∃ (kq : Nat) (x49_30 : Bool), v49 = .bool x49_30 ∧ Aside0 (spec_SafeUp.j3 kq x5_3 t565 t568 t571 x9_3 x10_2 x11_3 x49_30 = some r) ∧ Aside0 (kq ≤ k3) ∧ Aside0 (Kd.R Kd.bool 4 wc w.heap.size (fun k_ => some k_ ≠ (v566 : Value).ownBlock ∧ some k_ ≠ (v569 : Value).ownBlock) (.slice (some ⟨go7, 0, none⟩) x5_3.length co7) x5_3) ∧ Aside0 (Kd.R Kd.bool 4 wc w.heap.size (fun k_ => some k_ ≠ ((.slice (some ⟨go7, 0, none⟩) x5_3.length co7) : Value).ownBlock ∧ some k_ ≠ (v569 : Value).ownBlock) v566 t565) ∧ Aside0 (Kd.R Kd.bool 4 wc w.heap.size (fun k_ => some k_ ≠ ((.slice (some ⟨go7, 0, none⟩) x5_3.length co7) : Value).ownBlock ∧ some k_ ≠ (v566 : Value).ownBlock) v569 t568) ∧ Aside0 (Kd.S (Kd.slice 3 (Kd.int .i64)) 32 wc w.heap.size (fun _ => True) v572 t571) ∧ Aside0 (wc.heap[gb555]? = some (.cells #[(.slice A0_0 l0_0.length c0_0)] 38 (0, 0))) ∧ Aside0 (wc.heap[gb556]? = some (.cells #[.int .i64 a1_0, .int .i64 a1_1, .int .i64 a1_2, .int .i64 a1_3, .int .i64 a1_4] 42 (0, 0))) ∧ Aside0 (Below w.heap.size w wc))
           case first =>
            have H := HC31.out
            clear HC31
            by_cases c32 : 0 ≤ x10_2
            ·rw [if_pos c32] at H
             have c32b0 : decide (0 ≤ x10_2) = true := decide_eq_true c32
             clear c32
             (first | rw [c32b0] | (simp only [i64_w, i32_w]; rw [c32b0]) | skip)
             by_cases c33 : x10_2 < (t571.length : Int)
             ·rw [if_pos c33] at H
              have c33b0 : decide (x10_2 < (t571.length : Int)) = true := decide_eq_true c33
              clear c33
              by_cases c34 : x11_3 < ((rd_L2 t571 x10_2).length : Int)
              ·rw [if_pos c34] at H
               have c34b0 : decide (x11_3 < ((rd_L2 t571 x10_2).length : Int)) = true := decide_eq_true c34
               clear c34
               by_cases c35 : x10_2 < (x5_3.length : Int)
               ·rw [if_pos c35] at H
                have c35b0 : decide (x10_2 < (x5_3.length : Int)) = true := decide_eq_true c35
                clear c35
                have H' := Aside0.mk H
                clear H
                obtain ⟨Ao36, co36, eo36⟩ := Kd.S_slice HO_8.out
                subst eo36
                have p574 : 0 ≤ (x10_2 : Int) := oda
                have q574 : x10_2 < (t571.length : Int) := oda
                obtain ⟨ad574, A574_0, c574_0, e574, hx574_0, hl574_0, hi574_0⟩ := at_L2 (Kd.S_reads' HO_8.out).2.2 x10_2 p574 q574
                cases e574
                obtain ⟨ce574, hce574, hMe574, hcc574⟩ := Kd.S_get HO_8.out [] x10_2 p574 (by first | exact q574 | exact oda | (have e_ := (Kd.S_reads' HO_8.out).1; omega))
                obtain ⟨ve574_0, rfl, ge574_0⟩ := hMe574
                have hv574_0 := hcc574 0 _ rfl
                rw [Nat.add_zero, show ((Kd.slice 3 (Kd.int .i64))).sz = 1 from rfl, Nat.mul_one] at hv574_0
                replace hv574_0 := Option.some.inj (hv574_0.symm.trans hx574_0)
                rw [hv574_0] at ge574_0
                have HL574_0 := Aside0.mk (show Kd.R (Kd.int .i64) 3 _ _ _ _ (rd_L2 t571 x10_2) from ge574_0)
                clear hv574_0 ge574_0
                clear hcc574 hce574
                have HR574_0 := Aside0.mk hi574_0
                have HC574_0 := Aside0.mk hl574_0
                clear hi574_0 hl574_0
                replace p574 := eq_true p574
                replace q574 := eq_true q574
                have p575 : 0 ≤ (x10_2 : Int) := oda
                have q575 : x10_2 < (x5_3.length : Int) := oda
                obtain ⟨ad575, e575, hx575_0⟩ := Kd.at_bool (Kd.R_reads' HO_5.out).2.2 x10_2 p575 q575
                obtain rfl : (⟨go7, 0, none⟩ : Addr) = ad575 := (by injection e575)
                (first | simp only [add_plain] at hx575_0 | simp only [add_at] at hx575_0 | simp only [Addr.add, Nat.zero_add] at hx575_0 | skip)
                replace p575 := eq_true p575
                replace q575 := eq_true q575
                go_wp2
                go_meet
                case rel => exact ⟨_, (rdOf false x5_3 x10_2), (by first | rfl | (simp; done) | (simp [*]; done)), H', ⟨by have := HK1.out; have := HK2.out; have := HK3.out; first | omega | exact Nat.le_refl _⟩, ⟨by (try simp only [hl5_1]); (try simp only [hl5_2]); (try simp only [hl5_3]); exact Rq HO_5.out⟩, ⟨by (try simp only [hl5_1]); (try simp only [hl5_2]); (try simp only [hl5_3]); exact Rq HO_6.out⟩, ⟨by (try simp only [hl5_1]); (try simp only [hl5_2]); (try simp only [hl5_3]); exact Rq HO_7.out⟩, ⟨by (try simp only [hl5_1]); (try simp only [hl5_2]); (try simp only [hl5_3]); exact Sq HO_8.out⟩, ⟨by (try simp only [hl5_1]); (try simp only [hl5_2]); (try simp only [hl5_3]); exact bkq BK555⟩, ⟨by (try simp only [hl5_1]); (try simp only [hl5_2]); (try simp only [hl5_3]); exact bkq BK556⟩, ⟨bwq HB⟩⟩
               ·rw [if_neg c35] at H
                exact absurd H (by simp)
              ·rw [if_neg c34] at H
               have c34b0 : decide (x11_3 < ((rd_L2 t571 x10_2).length : Int)) = false := decide_eq_false c34
               clear c34
               have H' := Aside0.mk H
               clear H
               obtain ⟨Ao37, co37, eo37⟩ := Kd.S_slice HO_8.out
               subst eo37
               have p574 : 0 ≤ (x10_2 : Int) := oda
               have q574 : x10_2 < (t571.length : Int) := oda
               obtain ⟨ad574, A574_0, c574_0, e574, hx574_0, hl574_0, hi574_0⟩ := at_L2 (Kd.S_reads' HO_8.out).2.2 x10_2 p574 q574
               cases e574
               obtain ⟨ce574, hce574, hMe574, hcc574⟩ := Kd.S_get HO_8.out [] x10_2 p574 (by first | exact q574 | exact oda | (have e_ := (Kd.S_reads' HO_8.out).1; omega))
               obtain ⟨ve574_0, rfl, ge574_0⟩ := hMe574
               have hv574_0 := hcc574 0 _ rfl
               rw [Nat.add_zero, show ((Kd.slice 3 (Kd.int .i64))).sz = 1 from rfl, Nat.mul_one] at hv574_0
               replace hv574_0 := Option.some.inj (hv574_0.symm.trans hx574_0)
               rw [hv574_0] at ge574_0
               have HL574_0 := Aside0.mk (show Kd.R (Kd.int .i64) 3 _ _ _ _ (rd_L2 t571 x10_2) from ge574_0)
               clear hv574_0 ge574_0
               clear hcc574 hce574
               have HR574_0 := Aside0.mk hi574_0
               have HC574_0 := Aside0.mk hl574_0
               clear hi574_0 hl574_0
               replace p574 := eq_true p574
               replace q574 := eq_true q574
               go_wp2
               go_meet
               case rel => exact ⟨_, (false), (by first | rfl | (simp; done) | (simp [*]; done)), H', ⟨by have := HK1.out; have := HK2.out; have := HK3.out; first | omega | exact Nat.le_refl _⟩, ⟨by (try simp only [hl5_1]); (try simp only [hl5_2]); (try simp only [hl5_3]); exact Rq HO_5.out⟩, ⟨by (try simp only [hl5_1]); (try simp only [hl5_2]); (try simp only [hl5_3]); exact Rq HO_6.out⟩, ⟨by (try simp only [hl5_1]); (try simp only [hl5_2]); (try simp only [hl5_3]); exact Rq HO_7.out⟩, ⟨by (try simp only [hl5_1]); (try simp only [hl5_2]); (try simp only [hl5_3]); exact Sq HO_8.out⟩, ⟨by (try simp only [hl5_1]); (try simp only [hl5_2]); (try simp only [hl5_3]); exact bkq BK555⟩, ⟨by (try simp only [hl5_1]); (try simp only [hl5_2]); (try simp only [hl5_3]); exact bkq BK556⟩, ⟨bwq HB⟩⟩
             ·rw [if_neg c33] at H
              exact absurd H (by simp)
            ·rw [if_neg c32] at H
             exact absurd H (by simp)
           case rest =>
            clear HC31
            try clear c1
            try clear c2
            try clear p2
            try clear c3
            try clear c4
            try clear c5
            try clear p5
            try clear q5
            try clear hx5
            try clear c6
            try clear c6b0
            try clear c6b1
            try clear c7
            try clear p7
            try clear q7
            try clear hx7
            try clear qi7
            try clear hf7
            try clear c9
            try clear c13
            try clear c29
            try clear c30
            try clear c30b0
            try clear c32
            try clear c32b0
            try clear c33
            try clear c33b0
            try clear c34
            try clear c34b0
            try clear c35
            try clear c35b0
            try clear hcz14
            try clear hcz15
            try clear hcz17
            try clear hcz21
            try clear hcz22
            try clear hcz24
            try clear hcz25
            try clear hcz27
            try clear hfz14
            try clear hfz15
            try clear hfz17
            try clear hfz21
            try clear hfz22
            try clear hfz24
            try clear hfz25
            try clear hfz27
            try clear hx574_0
            try clear hx575_0
            try clear hx7_0
            try clear p2
            try clear p574
            try clear p575
            try clear p7
            try clear q574
            try clear q575
            try clear q7
            obtain ⟨kq, x49_30, rfl, HA, HJ30, HO_5, HO_6, HO_7, HO_8, BK555, BK556, HB⟩ := hcut
            cases kq with
            | zero => exact absurd HA.out (by intro h_; first | (cases h_; done) | (simp [spec_SafeUp.j3] at h_))
            | succ kj30 =>
             have H := HA.out
             clear HA
             simp only [spec_SafeUp.j3] at H
             by_cases c38 : x49_30 = true
             ·subst c38
              rw [if_pos rfl] at H
              by_cases c39 : 0 ≤ x10_2
              ·rw [if_pos c39] at H
               have c39b0 : decide (0 ≤ x10_2) = true := decide_eq_true c39
               clear c39
               by_cases c40 : x10_2 < (t571.length : Int)
               ·rw [if_pos c40] at H
                have c40b0 : decide (x10_2 < (t571.length : Int)) = true := decide_eq_true c40
                clear c40
                by_cases c41 : 0 ≤ x11_3
                ·rw [if_pos c41] at H
                 have c41b0 : decide (0 ≤ x11_3) = true := decide_eq_true c41
                 clear c41
                 by_cases c42 : x11_3 < ((rd_L2 t571 x10_2).length : Int)
                 ·rw [if_pos c42] at H
                  have c42b0 : decide (x11_3 < ((rd_L2 t571 x10_2).length : Int)) = true := decide_eq_true c42
                  clear c42
                  by_cases c43 : 0 ≤ (rd (rd_L2 t571 x10_2) x11_3)
                  ·rw [if_pos c43] at H
                   have c43b0 : decide (0 ≤ (rd (rd_L2 t571 x10_2) x11_3)) = true := decide_eq_true c43
                   clear c43
                   by_cases c44 : (rd (rd_L2 t571 x10_2) x11_3) < (t568.length : Int)
                   ·rw [if_pos c44] at H
                    have c44b0 : decide ((rd (rd_L2 t571 x10_2) x11_3) < (t568.length : Int)) = true := decide_eq_true c44
                    clear c44
                    obtain ⟨bq45, hbq45⟩ : ∃ b_ : Bool, b_ = (rdOf false t568 (rd (rd_L2 t571 x10_2) x11_3)) := ⟨_, rfl⟩
                    replace H : (if (bq45 = true) then (if (rd (rd_L2 t571 x10_2) x11_3) < (t565.length : Int) then (if (rdOf false t565 (rd (rd_L2 t571 x10_2) x11_3) = true) then (spec_SafeUp.l2 kj30 x5_3 t565 t568 t571 x9_3 x10_2 (wrap64 (x11_3 + 1))) else (if (rd (rd_L2 t571 x10_2) x11_3) < (x5_3.length : Int) then (if (rdOf false x5_3 (rd (rd_L2 t571 x10_2) x11_3) = true) then (spec_SafeUp.l2 kj30 x5_3 t565 t568 t571 x9_3 x10_2 (wrap64 (x11_3 + 1))) else (if x10_2 < (x5_3.length : Int) then (spec_SafeUp.l2 kj30 (x5_3.set (x10_2 : Int).toNat false) t565 t568 t571 true x10_2 (wrap64 (x11_3 + 1))) else (none))) else (none))) else (none)) else (if x10_2 < (x5_3.length : Int) then (spec_SafeUp.l2 kj30 (x5_3.set (x10_2 : Int).toNat false) t565 t568 t571 true x10_2 (wrap64 (x11_3 + 1))) else (none))) = some r := by rw [← hbq45] at H; exact H
                    have Nbq45 := Aside0.mk hbq45
                    clear hbq45
                    by_cases c46 : (bq45 = true)
                    ·subst c46
                     rw [if_pos rfl] at H
                     by_cases c47 : (rd (rd_L2 t571 x10_2) x11_3) < (t565.length : Int)
                     ·rw [if_pos c47] at H
                      have c47b0 : decide ((rd (rd_L2 t571 x10_2) x11_3) < (t565.length : Int)) = true := decide_eq_true c47
                      clear c47
                      obtain ⟨bq48, hbq48⟩ : ∃ b_ : Bool, b_ = (rdOf false t565 (rd (rd_L2 t571 x10_2) x11_3)) := ⟨_, rfl⟩
                      replace H : (if (bq48 = true) then (spec_SafeUp.l2 kj30 x5_3 t565 t568 t571 x9_3 x10_2 (wrap64 (x11_3 + 1))) else (if (rd (rd_L2 t571 x10_2) x11_3) < (x5_3.length : Int) then (if (rdOf false x5_3 (rd (rd_L2 t571 x10_2) x11_3) = true) then (spec_SafeUp.l2 kj30 x5_3 t565 t568 t571 x9_3 x10_2 (wrap64 (x11_3 + 1))) else (if x10_2 < (x5_3.length : Int) then (spec_SafeUp.l2 kj30 (x5_3.set (x10_2 : Int).toNat false) t565 t568 t571 true x10_2 (wrap64 (x11_3 + 1))) else (none))) else (none))) = some r := by rw [← hbq48] at H; exact H
                      have Nbq48 := Aside0.mk hbq48
                      clear hbq48
                      by_cases c49 : (bq48 = true)
                      ·subst c49
                       rw [if_pos rfl] at H
                       have H' := Aside0.mk H
                       clear H
                       obtain ⟨Ao50, co50, eo50⟩ := Kd.S_slice HO_8.out
                       subst eo50
                       have p576 : 0 ≤ (x10_2 : Int) := oda
                       have q576 : x10_2 < (t571.length : Int) := oda
                       obtain ⟨ad576, A576_0, c576_0, e576, hx576_0, hl576_0, hi576_0⟩ := at_L2 (Kd.S_reads' HO_8.out).2.2 x10_2 p576 q576
                       cases e576
                       obtain ⟨ce576, hce576, hMe576, hcc576⟩ := Kd.S_get HO_8.out [] x10_2 p576 (by first | exact q576 | exact oda | (have e_ := (Kd.S_reads' HO_8.out).1; omega))
                       obtain ⟨ve576_0, rfl, ge576_0⟩ := hMe576
                       have hv576_0 := hcc576 0 _ rfl
                       rw [Nat.add_zero, show ((Kd.slice 3 (Kd.int .i64))).sz = 1 from rfl, Nat.mul_one] at hv576_0
                       replace hv576_0 := Option.some.inj (hv576_0.symm.trans hx576_0)
                       rw [hv576_0] at ge576_0
                       have HL576_0 := Aside0.mk (show Kd.R (Kd.int .i64) 3 _ _ _ _ (rd_L2 t571 x10_2) from ge576_0)
                       clear hv576_0 ge576_0
                       clear hcc576 hce576
                       have HR576_0 := Aside0.mk hi576_0
                       have HC576_0 := Aside0.mk hl576_0
                       clear hi576_0 hl576_0
                       replace p576 := eq_true p576
                       replace q576 := eq_true q576
                       have p577 : 0 ≤ (x11_3 : Int) := oda
                       have q577 : x11_3 < ((rd_L2 t571 x10_2).length : Int) := oda
                       obtain ⟨ad577, e577, hx577_0⟩ := Kd.at_int (by repeat (first | (with_reducible exact HR576_0.out) | (with_reducible refine Kd.C_alloc ?_ _) | (with_reducible refine Kd.C_drewN ?_ _) | (with_reducible refine Kd.C_drew ?_) | exact HR576_0.out)) x11_3 p577 q577
                       cases e577
                       replace p577 := eq_true p577
                       replace q577 := eq_true q577
                       obtain ⟨Ao51, co51, eo51⟩ := Kd.R_slice HO_7.out
                       subst eo51
                       have p578 : 0 ≤ ((rd (rd_L2 t571 x10_2) x11_3) : Int) := oda
                       have q578 : (rd (rd_L2 t571 x10_2) x11_3) < (t568.length : Int) := oda
                       obtain ⟨ad578, e578, hx578_0⟩ := Kd.at_bool (Kd.R_reads' HO_7.out).2.2 (rd (rd_L2 t571 x10_2) x11_3) p578 q578
                       (try rw [← Nbq45.out] at hx578_0)
                       (try rw [← Nbq48.out] at hx578_0)
                       cases e578
                       replace p578 := eq_true p578
                       replace q578 := eq_true q578
                       obtain ⟨Ao52, co52, eo52⟩ := Kd.R_slice HO_6.out
                       subst eo52
                       have p579 : 0 ≤ ((rd (rd_L2 t571 x10_2) x11_3) : Int) := oda
                       have q579 : (rd (rd_L2 t571 x10_2) x11_3) < (t565.length : Int) := oda
                       obtain ⟨ad579, e579, hx579_0⟩ := Kd.at_bool (Kd.R_reads' HO_6.out).2.2 (rd (rd_L2 t571 x10_2) x11_3) p579 q579
                       (try rw [← Nbq45.out] at hx579_0)
                       (try rw [← Nbq48.out] at hx579_0)
                       cases e579
                       replace p579 := eq_true p579
                       replace q579 := eq_true q579
                       go_wp2
                       (try simp only [← hl5_3])
                       go_roundg kj30
                       case measure => have := HK1.out; have := HK2.out; have := HK3.out; have := HJ30.out; omega
                       case rel => exact ⟨(x5_3), (x9_3), (wrap64 (x11_3 + 1)), (by first | rfl | (simp; done) | (simp [*]; done)), (by first | rfl | (simp; done) | (simp [*]; done)), H', ⟨by have := HK1.out; have := HK2.out; have := HK3.out; have := HJ30.out; omega⟩, ⟨by (try simp only [hl5_1]); (try simp only [hl5_2]); (try simp only [hl5_3]); exact Rq HO_5.out⟩, ⟨by (try simp only [hl5_1]); (try simp only [hl5_2]); (try simp only [hl5_3]); exact Rq HO_6.out⟩, ⟨by (try simp only [hl5_1]); (try simp only [hl5_2]); (try simp only [hl5_3]); exact Rq HO_7.out⟩, ⟨by (try simp only [hl5_1]); (try simp only [hl5_2]); (try simp only [hl5_3]); exact Sq HO_8.out⟩, ⟨by (try simp only [hl5_1]); (try simp only [hl5_2]); (try simp only [hl5_3]); exact bkq BK555⟩, ⟨by (try simp only [hl5_1]); (try simp only [hl5_2]); (try simp only [hl5_3]); exact bkq BK556⟩, ⟨bwq HB⟩⟩
                      ·replace c49 := Bool.eq_false_iff.mpr c49
                       subst c49
                       have H1 : (if (rd (rd_L2 t571 x10_2) x11_3) < (x5_3.length : Int) then (if (rdOf false x5_3 (rd (rd_L2 t571 x10_2) x11_3) = true) then (spec_SafeUp.l2 kj30 x5_3 t565 t568 t571 x9_3 x10_2 (wrap64 (x11_3 + 1))) else (if x10_2 < (x5_3.length : Int) then (spec_SafeUp.l2 kj30 (x5_3.set (x10_2 : Int).toNat false) t565 t568 t571 true x10_2 (wrap64 (x11_3 + 1))) else (none))) else (none)) = some r := by rw [if_neg (show ¬ (false = true) by decide)] at H; exact H
                       clear H
                       have H := H1
                       clear H1
                       by_cases c53 : (rd (rd_L2 t571 x10_2) x11_3) < (x5_3.length : Int)
                       ·rw [if_pos c53] at H
                        have c53b0 : decide ((rd (rd_L2 t571 x10_2) x11_3) < (x5_3.length : Int)) = true := decide_eq_true c53
                        clear c53
                        obtain ⟨bq54, hbq54⟩ : ∃ b_ : Bool, b_ = (rdOf false x5_3 (rd (rd_L2 t571 x10_2) x11_3)) := ⟨_, rfl⟩
                        replace H : (if (bq54 = true) then (spec_SafeUp.l2 kj30 x5_3 t565 t568 t571 x9_3 x10_2 (wrap64 (x11_3 + 1))) else (if x10_2 < (x5_3.length : Int) then (spec_SafeUp.l2 kj30 (x5_3.set (x10_2 : Int).toNat false) t565 t568 t571 true x10_2 (wrap64 (x11_3 + 1))) else (none))) = some r := by rw [← hbq54] at H; exact H
                        have Nbq54 := Aside0.mk hbq54
                        clear hbq54
                        by_cases c55 : (bq54 = true)
                        ·subst c55
                         rw [if_pos rfl] at H
                         have H' := Aside0.mk H
                         clear H
                         obtain ⟨Ao56, co56, eo56⟩ := Kd.S_slice HO_8.out
                         subst eo56
                         have p576 : 0 ≤ (x10_2 : Int) := oda
                         have q576 : x10_2 < (t571.length : Int) := oda
                         obtain ⟨ad576, A576_0, c576_0, e576, hx576_0, hl576_0, hi576_0⟩ := at_L2 (Kd.S_reads' HO_8.out).2.2 x10_2 p576 q576
                         cases e576
                         obtain ⟨ce576, hce576, hMe576, hcc576⟩ := Kd.S_get HO_8.out [] x10_2 p576 (by first | exact q576 | exact oda | (have e_ := (Kd.S_reads' HO_8.out).1; omega))
                         obtain ⟨ve576_0, rfl, ge576_0⟩ := hMe576
                         have hv576_0 := hcc576 0 _ rfl
                         rw [Nat.add_zero, show ((Kd.slice 3 (Kd.int .i64))).sz = 1 from rfl, Nat.mul_one] at hv576_0
                         replace hv576_0 := Option.some.inj (hv576_0.symm.trans hx576_0)
                         rw [hv576_0] at ge576_0
                         have HL576_0 := Aside0.mk (show Kd.R (Kd.int .i64) 3 _ _ _ _ (rd_L2 t571 x10_2) from ge576_0)
                         clear hv576_0 ge576_0
                         clear hcc576 hce576
                         have HR576_0 := Aside0.mk hi576_0
                         have HC576_0 := Aside0.mk hl576_0
                         clear hi576_0 hl576_0
                         replace p576 := eq_true p576
                         replace q576 := eq_true q576
                         have p577 : 0 ≤ (x11_3 : Int) := oda
                         have q577 : x11_3 < ((rd_L2 t571 x10_2).length : Int) := oda
                         obtain ⟨ad577, e577, hx577_0⟩ := Kd.at_int (by repeat (first | (with_reducible exact HR576_0.out) | (with_reducible refine Kd.C_alloc ?_ _) | (with_reducible refine Kd.C_drewN ?_ _) | (with_reducible refine Kd.C_drew ?_) | exact HR576_0.out)) x11_3 p577 q577
                         cases e577
                         replace p577 := eq_true p577
                         replace q577 := eq_true q577
                         obtain ⟨Ao57, co57, eo57⟩ := Kd.R_slice HO_7.out
                         subst eo57
                         have p578 : 0 ≤ ((rd (rd_L2 t571 x10_2) x11_3) : Int) := oda
                         have q578 : (rd (rd_L2 t571 x10_2) x11_3) < (t568.length : Int) := oda
                         obtain ⟨ad578, e578, hx578_0⟩ := Kd.at_bool (Kd.R_reads' HO_7.out).2.2 (rd (rd_L2 t571 x10_2) x11_3) p578 q578
                         (try rw [← Nbq45.out] at hx578_0)
                         (try rw [← Nbq48.out] at hx578_0)
                         (try rw [← Nbq54.out] at hx578_0)
                         cases e578
                         replace p578 := eq_true p578
                         replace q578 := eq_true q578
                         obtain ⟨Ao58, co58, eo58⟩ := Kd.R_slice HO_6.out
                         subst eo58
                         have p579 : 0 ≤ ((rd (rd_L2 t571 x10_2) x11_3) : Int) := oda
                         have q579 : (rd (rd_L2 t571 x10_2) x11_3) < (t565.length : Int) := oda
                         obtain ⟨ad579, e579, hx579_0⟩ := Kd.at_bool (Kd.R_reads' HO_6.out).2.2 (rd (rd_L2 t571 x10_2) x11_3) p579 q579
                         (try rw [← Nbq45.out] at hx579_0)
                         (try rw [← Nbq48.out] at hx579_0)
                         (try rw [← Nbq54.out] at hx579_0)
                         cases e579
                         replace p579 := eq_true p579
                         replace q579 := eq_true q579
                         have p580 : 0 ≤ ((rd (rd_L2 t571 x10_2) x11_3) : Int) := oda
                         have q580 : (rd (rd_L2 t571 x10_2) x11_3) < (x5_3.length : Int) := oda
                         obtain ⟨ad580, e580, hx580_0⟩ := Kd.at_bool (Kd.R_reads' HO_5.out).2.2 (rd (rd_L2 t571 x10_2) x11_3) p580 q580
                         (try rw [← Nbq45.out] at hx580_0)
                         (try rw [← Nbq48.out] at hx580_0)
                         (try rw [← Nbq54.out] at hx580_0)
                         obtain rfl : (⟨go7, 0, none⟩ : Addr) = ad580 := (by injection e580)
                         (first | simp only [add_plain] at hx580_0 | simp only [add_at] at hx580_0 | simp only [Addr.add, Nat.zero_add] at hx580_0 | skip)
                         replace p580 := eq_true p580
                         replace q580 := eq_true q580
                         go_wp2
                         (try simp only [← hl5_3])
                         go_roundg kj30
                         case measure => have := HK1.out; have := HK2.out; have := HK3.out; have := HJ30.out; omega
                         case rel => exact ⟨(x5_3), (x9_3), (wrap64 (x11_3 + 1)), (by first | rfl | (simp; done) | (simp [*]; done)), (by first | rfl | (simp; done) | (simp [*]; done)), H', ⟨by have := HK1.out; have := HK2.out; have := HK3.out; have := HJ30.out; omega⟩, ⟨by (try simp only [hl5_1]); (try simp only [hl5_2]); (try simp only [hl5_3]); exact Rq HO_5.out⟩, ⟨by (try simp only [hl5_1]); (try simp only [hl5_2]); (try simp only [hl5_3]); exact Rq HO_6.out⟩, ⟨by (try simp only [hl5_1]); (try simp only [hl5_2]); (try simp only [hl5_3]); exact Rq HO_7.out⟩, ⟨by (try simp only [hl5_1]); (try simp only [hl5_2]); (try simp only [hl5_3]); exact Sq HO_8.out⟩, ⟨by (try simp only [hl5_1]); (try simp only [hl5_2]); (try simp only [hl5_3]); exact bkq BK555⟩, ⟨by (try simp only [hl5_1]); (try simp only [hl5_2]); (try simp only [hl5_3]); exact bkq BK556⟩, ⟨bwq HB⟩⟩
                        ·replace c55 := Bool.eq_false_iff.mpr c55
                         subst c55
                         have H1 : (if x10_2 < (x5_3.length : Int) then (spec_SafeUp.l2 kj30 (x5_3.set (x10_2 : Int).toNat false) t565 t568 t571 true x10_2 (wrap64 (x11_3 + 1))) else (none)) = some r := by rw [if_neg (show ¬ (false = true) by decide)] at H; exact H
                         clear H
                         have H := H1
                         clear H1
                         by_cases c59 : x10_2 < (x5_3.length : Int)
                         ·rw [if_pos c59] at H
                          have c59b0 : decide (x10_2 < (x5_3.length : Int)) = true := decide_eq_true c59
                          clear c59
                          obtain ⟨y581, hy581⟩ : ∃ y_ : List Bool, y_ = (x5_3.set (x10_2 : Int).toNat false) := ⟨_, rfl⟩
                          replace H : (spec_SafeUp.l2 kj30 y581 t565 t568 t571 true x10_2 (wrap64 (x11_3 + 1))) = some r := by first | (rw [hy581]; with_reducible exact H) | (have H2_ := (Option.bind_some _ _).symm.trans H; rw [hy581]; with_reducible exact H2_) | (have H2_ := (Option.bind_some _ _).symm.trans H; with_reducible exact H2_) | with_reducible exact H | (rw [hy581]; exact H) | exact H
                          have Ny581 := Aside0.mk hy581
                          clear hy581
                          have H' := Aside0.mk H
                          clear H
                          obtain ⟨Ao61, co61, eo61⟩ := Kd.S_slice HO_8.out
                          subst eo61
                          have p576 : 0 ≤ (x10_2 : Int) := oda
                          have q576 : x10_2 < (t571.length : Int) := oda
                          obtain ⟨ad576, A576_0, c576_0, e576, hx576_0, hl576_0, hi576_0⟩ := at_L2 (Kd.S_reads' HO_8.out).2.2 x10_2 p576 q576
                          cases e576
                          obtain ⟨ce576, hce576, hMe576, hcc576⟩ := Kd.S_get HO_8.out [] x10_2 p576 (by first | exact q576 | exact oda | (have e_ := (Kd.S_reads' HO_8.out).1; omega))
                          obtain ⟨ve576_0, rfl, ge576_0⟩ := hMe576
                          have hv576_0 := hcc576 0 _ rfl
                          rw [Nat.add_zero, show ((Kd.slice 3 (Kd.int .i64))).sz = 1 from rfl, Nat.mul_one] at hv576_0
                          replace hv576_0 := Option.some.inj (hv576_0.symm.trans hx576_0)
                          rw [hv576_0] at ge576_0
                          have HL576_0 := Aside0.mk (show Kd.R (Kd.int .i64) 3 _ _ _ _ (rd_L2 t571 x10_2) from ge576_0)
                          clear hv576_0 ge576_0
                          clear hcc576 hce576
                          have HR576_0 := Aside0.mk hi576_0
                          have HC576_0 := Aside0.mk hl576_0
                          clear hi576_0 hl576_0
                          replace p576 := eq_true p576
                          replace q576 := eq_true q576
                          have p577 : 0 ≤ (x11_3 : Int) := oda
                          have q577 : x11_3 < ((rd_L2 t571 x10_2).length : Int) := oda
                          obtain ⟨ad577, e577, hx577_0⟩ := Kd.at_int (by repeat (first | (with_reducible exact HR576_0.out) | (with_reducible refine Kd.C_alloc ?_ _) | (with_reducible refine Kd.C_drewN ?_ _) | (with_reducible refine Kd.C_drew ?_) | exact HR576_0.out)) x11_3 p577 q577
                          cases e577
                          replace p577 := eq_true p577
                          replace q577 := eq_true q577
                          obtain ⟨Ao62, co62, eo62⟩ := Kd.R_slice HO_7.out
                          subst eo62
                          have p578 : 0 ≤ ((rd (rd_L2 t571 x10_2) x11_3) : Int) := oda
                          have q578 : (rd (rd_L2 t571 x10_2) x11_3) < (t568.length : Int) := oda
                          obtain ⟨ad578, e578, hx578_0⟩ := Kd.at_bool (Kd.R_reads' HO_7.out).2.2 (rd (rd_L2 t571 x10_2) x11_3) p578 q578
                          (try rw [← Nbq45.out] at hx578_0)
                          (try rw [← Nbq48.out] at hx578_0)
                          (try rw [← Nbq54.out] at hx578_0)
                          cases e578
                          replace p578 := eq_true p578
                          replace q578 := eq_true q578
                          obtain ⟨Ao63, co63, eo63⟩ := Kd.R_slice HO_6.out
                          subst eo63
                          have p579 : 0 ≤ ((rd (rd_L2 t571 x10_2) x11_3) : Int) := oda
                          have q579 : (rd (rd_L2 t571 x10_2) x11_3) < (t565.length : Int) := oda
                          obtain ⟨ad579, e579, hx579_0⟩ := Kd.at_bool (Kd.R_reads' HO_6.out).2.2 (rd (rd_L2 t571 x10_2) x11_3) p579 q579
                          (try rw [← Nbq45.out] at hx579_0)
                          (try rw [← Nbq48.out] at hx579_0)
                          (try rw [← Nbq54.out] at hx579_0)
                          cases e579
                          replace p579 := eq_true p579
                          replace q579 := eq_true q579
                          have p580 : 0 ≤ ((rd (rd_L2 t571 x10_2) x11_3) : Int) := oda
                          have q580 : (rd (rd_L2 t571 x10_2) x11_3) < (x5_3.length : Int) := oda
                          obtain ⟨ad580, e580, hx580_0⟩ := Kd.at_bool (Kd.R_reads' HO_5.out).2.2 (rd (rd_L2 t571 x10_2) x11_3) p580 q580
                          (try rw [← Nbq45.out] at hx580_0)
                          (try rw [← Nbq48.out] at hx580_0)
                          (try rw [← Nbq54.out] at hx580_0)
                          obtain rfl : (⟨go7, 0, none⟩ : Addr) = ad580 := (by injection e580)
                          (first | simp only [add_plain] at hx580_0 | simp only [add_at] at hx580_0 | simp only [Addr.add, Nat.zero_add] at hx580_0 | skip)
                          replace p580 := eq_true p580
                          replace q580 := eq_true q580
                          have p60 : 0 ≤ (x10_2 : Int) := oda
                          have q60 : (x10_2 : Int) < ((x5_3.length : Int) : Int) := oda
                          obtain ⟨hx60_0, hf60_0⟩ := Kd.R_celln false HO_5.out (x10_2 : Int) p60 q60
                          replace p60 := eq_true p60
                          replace q60 := eq_true q60
                          have HP64 := Kd.R_putg HO_5.out (x10_2 : Int) false
                          go_wp2_with (first | ((with_reducible refine gate_store (t := 4) (p := 80) rfl ?_); refine store_event (t := 4) (p := 80) (v := ?vo_w65) (w1 := (wc.setCell ⟨go7, (x10_2 : Int).toNat, none⟩ (.bool false))) ?hg ?ho ?hn ?hr ?_; (case ho => rfl); (case hg => rfl); (case hn => rfl); (case hr => first | (go_simp; done) | (go_simp; rfl) | (go_simp; rfl)); intro w65 hw; have hg : wc.grownBy w65 (some go7) := (by rw [hw]; exact HP64.2); have hp_ : Kd.R Kd.bool 4 w65 w.heap.size (fun k_ => some k_ ≠ (.slice (some ad579) t565.length co63 : Value).ownBlock ∧ some k_ ≠ (.slice (some ad578) t568.length co62 : Value).ownBlock) (.slice (some ⟨go7, 0, none⟩) x5_3.length co7) y581 := (by rw [hw, Ny581.out]; exact HP64.1); clear HP64; replace HO_6 := Aside0.mk (Kd.R_after (v := (.slice (some ⟨go7, 0, none⟩) x5_3.length co7)) (v1 := (.slice (some ⟨go7, 0, none⟩) x5_3.length co7)) (ok := (fun k_ => some k_ ≠ (.slice (some ad578) t568.length co62 : Value).ownBlock)) (by (with_reducible repeat (first | apply Kd.R_alloc | apply Kd.R_drewN | apply Kd.R_drew)); exact Kd.R_mono HO_6.out (fun _ hk => ⟨hk.2, hk.1⟩)) hg (.inl rfl)); replace HO_7 := Aside0.mk (Kd.R_after (v := (.slice (some ⟨go7, 0, none⟩) x5_3.length co7)) (v1 := (.slice (some ⟨go7, 0, none⟩) x5_3.length co7)) (ok := (fun k_ => some k_ ≠ (.slice (some ad579) t565.length co63 : Value).ownBlock)) (by (with_reducible repeat (first | apply Kd.R_alloc | apply Kd.R_drewN | apply Kd.R_drew)); exact Kd.R_mono HO_7.out (fun _ hk => ⟨hk.2, hk.1⟩)) hg (.inl rfl)); replace HO_8 := Aside0.mk (Kd.S_over' (v := (.slice (some ⟨go7, 0, none⟩) x5_3.length co7)) (Sq HO_8.out) (Kd.R_typed HO_5.out) (by decide) hg); replace BK555 := Aside0.mk (blk_grown (g := gb555) (o := .cells #[.slice A0_0 l0_0.length c0_0] 38 (0, 0)) (bkq BK555) hg (Kd.R_ne HO_5.out BK555.out (by decide))); replace BK556 := Aside0.mk (blk_grown (g := gb556) (o := .cells #[.int .i64 a1_0, .int .i64 a1_1, .int .i64 a1_2, .int .i64 a1_3, .int .i64 a1_4] 42 (0, 0)) (bkq BK556) hg (Kd.R_ne HO_5.out BK556.out (by decide))); replace HL576_0 := Aside0.mk (Kd.R_over' (v := (.slice (some ⟨go7, 0, none⟩) x5_3.length co7)) (by (with_reducible repeat (first | apply Kd.R_alloc | apply Kd.R_drewN | apply Kd.R_drew)); exact HL576_0.out) (Kd.R_typed HO_5.out) (by decide) hg); replace HO_5 := Aside0.mk (hp_); replace HB := Aside0.mk ((by rw [hw]; exact below_set (HB.out) GB7.out : Below w.heap.size w w65)); clear hg hw hp_))
                          (try simp only [← hl5_3])
                          go_roundg kj30
                          case measure => have := HK1.out; have := HK2.out; have := HK3.out; have := HJ30.out; omega
                          case rel => exact ⟨(y581), (true), (wrap64 (x11_3 + 1)), (by first | rfl | (simp; done) | (simp [*]; done)), (by first | rfl | (simp; done) | (simp [*]; done)), H', ⟨by have := HK1.out; have := HK2.out; have := HK3.out; have := HJ30.out; omega⟩, ⟨by (try simp only [hl5_1]); (try simp only [hl5_2]); (try simp only [hl5_3]); exact Rq HO_5.out⟩, ⟨by (try simp only [hl5_1]); (try simp only [hl5_2]); (try simp only [hl5_3]); (with_reducible repeat (first | apply Kd.R_alloc | apply Kd.R_drewN | apply Kd.R_drew)); exact Kd.R_mono HO_6.out (fun _ hk => ⟨hk.2, hk.1⟩)⟩, ⟨by (try simp only [hl5_1]); (try simp only [hl5_2]); (try simp only [hl5_3]); (with_reducible repeat (first | apply Kd.R_alloc | apply Kd.R_drewN | apply Kd.R_drew)); exact Kd.R_mono HO_7.out (fun _ hk => ⟨hk.2, hk.1⟩)⟩, ⟨by (try simp only [hl5_1]); (try simp only [hl5_2]); (try simp only [hl5_3]); exact Sq HO_8.out⟩, ⟨by (try simp only [hl5_1]); (try simp only [hl5_2]); (try simp only [hl5_3]); exact bkq BK555⟩, ⟨by (try simp only [hl5_1]); (try simp only [hl5_2]); (try simp only [hl5_3]); exact bkq BK556⟩, ⟨bwq HB⟩⟩
                         ·rw [if_neg c59] at H
                          exact absurd H (by simp)
                       ·rw [if_neg c53] at H
                        exact absurd H (by simp)
                     ·rw [if_neg c47] at H
                      exact absurd H (by simp)
                    ·replace c46 := Bool.eq_false_iff.mpr c46
                     subst c46
                     have H1 : (if x10_2 < (x5_3.length : Int) then (spec_SafeUp.l2 kj30 (x5_3.set (x10_2 : Int).toNat false) t565 t568 t571 true x10_2 (wrap64 (x11_3 + 1))) else (none)) = some r := by rw [if_neg (show ¬ (false = true) by decide)] at H; exact H
                     clear H
                     have H := H1
                     clear H1
                     by_cases c66 : x10_2 < (x5_3.length : Int)
                     ·rw [if_pos c66] at H
                      have c66b0 : decide (x10_2 < (x5_3.length : Int)) = true := decide_eq_true c66
                      clear c66
                      obtain ⟨y582, hy582⟩ : ∃ y_ : List Bool, y_ = (x5_3.set (x10_2 : Int).toNat false) := ⟨_, rfl⟩
                      replace H : (spec_SafeUp.l2 kj30 y582 t565 t568 t571 true x10_2 (wrap64 (x11_3 + 1))) = some r := by first | (rw [hy582]; with_reducible exact H) | (have H2_ := (Option.bind_some _ _).symm.trans H; rw [hy582]; with_reducible exact H2_) | (have H2_ := (Option.bind_some _ _).symm.trans H; with_reducible exact H2_) | with_reducible exact H | (rw [hy582]; exact H) | exact H
                      have Ny582 := Aside0.mk hy582
                      clear hy582
                      have H' := Aside0.mk H
                      clear H
                      obtain ⟨Ao68, co68, eo68⟩ := Kd.S_slice HO_8.out
                      subst eo68
                      have p576 : 0 ≤ (x10_2 : Int) := oda
                      have q576 : x10_2 < (t571.length : Int) := oda
                      obtain ⟨ad576, A576_0, c576_0, e576, hx576_0, hl576_0, hi576_0⟩ := at_L2 (Kd.S_reads' HO_8.out).2.2 x10_2 p576 q576
                      cases e576
                      obtain ⟨ce576, hce576, hMe576, hcc576⟩ := Kd.S_get HO_8.out [] x10_2 p576 (by first | exact q576 | exact oda | (have e_ := (Kd.S_reads' HO_8.out).1; omega))
                      obtain ⟨ve576_0, rfl, ge576_0⟩ := hMe576
                      have hv576_0 := hcc576 0 _ rfl
                      rw [Nat.add_zero, show ((Kd.slice 3 (Kd.int .i64))).sz = 1 from rfl, Nat.mul_one] at hv576_0
                      replace hv576_0 := Option.some.inj (hv576_0.symm.trans hx576_0)
                      rw [hv576_0] at ge576_0
                      have HL576_0 := Aside0.mk (show Kd.R (Kd.int .i64) 3 _ _ _ _ (rd_L2 t571 x10_2) from ge576_0)
                      clear hv576_0 ge576_0
                      clear hcc576 hce576
                      have HR576_0 := Aside0.mk hi576_0
                      have HC576_0 := Aside0.mk hl576_0
                      clear hi576_0 hl576_0
                      replace p576 := eq_true p576
                      replace q576 := eq_true q576
                      have p577 : 0 ≤ (x11_3 : Int) := oda
                      have q577 : x11_3 < ((rd_L2 t571 x10_2).length : Int) := oda
                      obtain ⟨ad577, e577, hx577_0⟩ := Kd.at_int (by repeat (first | (with_reducible exact HR576_0.out) | (with_reducible refine Kd.C_alloc ?_ _) | (with_reducible refine Kd.C_drewN ?_ _) | (with_reducible refine Kd.C_drew ?_) | exact HR576_0.out)) x11_3 p577 q577
                      cases e577
                      replace p577 := eq_true p577
                      replace q577 := eq_true q577
                      obtain ⟨Ao69, co69, eo69⟩ := Kd.R_slice HO_7.out
                      subst eo69
                      have p578 : 0 ≤ ((rd (rd_L2 t571 x10_2) x11_3) : Int) := oda
                      have q578 : (rd (rd_L2 t571 x10_2) x11_3) < (t568.length : Int) := oda
                      obtain ⟨ad578, e578, hx578_0⟩ := Kd.at_bool (Kd.R_reads' HO_7.out).2.2 (rd (rd_L2 t571 x10_2) x11_3) p578 q578
                      (try rw [← Nbq45.out] at hx578_0)
                      cases e578
                      replace p578 := eq_true p578
                      replace q578 := eq_true q578
                      have p67 : 0 ≤ (x10_2 : Int) := oda
                      have q67 : (x10_2 : Int) < ((x5_3.length : Int) : Int) := oda
                      obtain ⟨hx67_0, hf67_0⟩ := Kd.R_celln false HO_5.out (x10_2 : Int) p67 q67
                      replace p67 := eq_true p67
                      replace q67 := eq_true q67
                      have HP70 := Kd.R_putg HO_5.out (x10_2 : Int) false
                      go_wp2_with (first | ((with_reducible refine gate_store (t := 4) (p := 80) rfl ?_); refine store_event (t := 4) (p := 80) (v := ?vo_w71) (w1 := (wc.setCell ⟨go7, (x10_2 : Int).toNat, none⟩ (.bool false))) ?hg ?ho ?hn ?hr ?_; (case ho => rfl); (case hg => rfl); (case hn => rfl); (case hr => first | (go_simp; done) | (go_simp; rfl) | (go_simp; rfl)); intro w71 hw; have hg : wc.grownBy w71 (some go7) := (by rw [hw]; exact HP70.2); have hp_ : Kd.R Kd.bool 4 w71 w.heap.size (fun k_ => some k_ ≠ (v566 : Value).ownBlock ∧ some k_ ≠ (.slice (some ad578) t568.length co69 : Value).ownBlock) (.slice (some ⟨go7, 0, none⟩) x5_3.length co7) y582 := (by rw [hw, Ny582.out]; exact HP70.1); clear HP70; replace HO_6 := Aside0.mk (Kd.R_after (v := (.slice (some ⟨go7, 0, none⟩) x5_3.length co7)) (v1 := (.slice (some ⟨go7, 0, none⟩) x5_3.length co7)) (ok := (fun k_ => some k_ ≠ (.slice (some ad578) t568.length co69 : Value).ownBlock)) (by (with_reducible repeat (first | apply Kd.R_alloc | apply Kd.R_drewN | apply Kd.R_drew)); exact Kd.R_mono HO_6.out (fun _ hk => ⟨hk.2, hk.1⟩)) hg (.inl rfl)); replace HO_7 := Aside0.mk (Kd.R_after (v := (.slice (some ⟨go7, 0, none⟩) x5_3.length co7)) (v1 := (.slice (some ⟨go7, 0, none⟩) x5_3.length co7)) (ok := (fun k_ => some k_ ≠ (v566 : Value).ownBlock)) (by (with_reducible repeat (first | apply Kd.R_alloc | apply Kd.R_drewN | apply Kd.R_drew)); exact Kd.R_mono HO_7.out (fun _ hk => ⟨hk.2, hk.1⟩)) hg (.inl rfl)); replace HO_8 := Aside0.mk (Kd.S_over' (v := (.slice (some ⟨go7, 0, none⟩) x5_3.length co7)) (Sq HO_8.out) (Kd.R_typed HO_5.out) (by decide) hg); replace BK555 := Aside0.mk (blk_grown (g := gb555) (o := .cells #[.slice A0_0 l0_0.length c0_0] 38 (0, 0)) (bkq BK555) hg (Kd.R_ne HO_5.out BK555.out (by decide))); replace BK556 := Aside0.mk (blk_grown (g := gb556) (o := .cells #[.int .i64 a1_0, .int .i64 a1_1, .int .i64 a1_2, .int .i64 a1_3, .int .i64 a1_4] 42 (0, 0)) (bkq BK556) hg (Kd.R_ne HO_5.out BK556.out (by decide))); replace HL576_0 := Aside0.mk (Kd.R_over' (v := (.slice (some ⟨go7, 0, none⟩) x5_3.length co7)) (by (with_reducible repeat (first | apply Kd.R_alloc | apply Kd.R_drewN | apply Kd.R_drew)); exact HL576_0.out) (Kd.R_typed HO_5.out) (by decide) hg); replace HO_5 := Aside0.mk (hp_); replace HB := Aside0.mk ((by rw [hw]; exact below_set (HB.out) GB7.out : Below w.heap.size w w71)); clear hg hw hp_))
                      (try simp only [← hl5_3])
                      go_roundg kj30
                      case measure => have := HK1.out; have := HK2.out; have := HK3.out; have := HJ30.out; omega
                      case rel => exact ⟨(y582), (true), (wrap64 (x11_3 + 1)), (by first | rfl | (simp; done) | (simp [*]; done)), (by first | rfl | (simp; done) | (simp [*]; done)), H', ⟨by have := HK1.out; have := HK2.out; have := HK3.out; have := HJ30.out; omega⟩, ⟨by (try simp only [hl5_1]); (try simp only [hl5_2]); (try simp only [hl5_3]); exact Rq HO_5.out⟩, ⟨by (try simp only [hl5_1]); (try simp only [hl5_2]); (try simp only [hl5_3]); (with_reducible repeat (first | apply Kd.R_alloc | apply Kd.R_drewN | apply Kd.R_drew)); exact Kd.R_mono HO_6.out (fun _ hk => ⟨hk.2, hk.1⟩)⟩, ⟨by (try simp only [hl5_1]); (try simp only [hl5_2]); (try simp only [hl5_3]); (with_reducible repeat (first | apply Kd.R_alloc | apply Kd.R_drewN | apply Kd.R_drew)); exact Kd.R_mono HO_7.out (fun _ hk => ⟨hk.2, hk.1⟩)⟩, ⟨by (try simp only [hl5_1]); (try simp only [hl5_2]); (try simp only [hl5_3]); exact Sq HO_8.out⟩, ⟨by (try simp only [hl5_1]); (try simp only [hl5_2]); (try simp only [hl5_3]); exact bkq BK555⟩, ⟨by (try simp only [hl5_1]); (try simp only [hl5_2]); (try simp only [hl5_3]); exact bkq BK556⟩, ⟨bwq HB⟩⟩
                     ·rw [if_neg c66] at H
                      exact absurd H (by simp)
                   ·rw [if_neg c44] at H
                    exact absurd H (by simp)
                  ·rw [if_neg c43] at H
                   exact absurd H (by simp)
                 ·rw [if_neg c42] at H
                  exact absurd H (by simp)
                ·rw [if_neg c41] at H
                 exact absurd H (by simp)
               ·rw [if_neg c40] at H
                exact absurd H (by simp)
              ·rw [if_neg c39] at H
               exact absurd H (by simp)
             ·replace c38 := Bool.eq_false_iff.mpr c38
              subst c38
              have H1 : (spec_SafeUp.l1 kj30 x5_3 t565 t568 t571 x9_3 (wrap64 (x10_2 + 1))) = some r := by rw [if_neg (show ¬ (false = true) by decide)] at H; exact H
              clear H
              have H := H1
              clear H1
              have H' := Aside0.mk H
              clear H
              go_wp2
              (try simp only [← hl5_2, ← hl5_3])
              go_roundg kj30
              case measure => have := HK1.out; have := HK2.out; have := HK3.out; have := HJ30.out; omega
              case rel => exact ⟨(x5_3), (x9_3), (wrap64 (x10_2 + 1)), (by first | rfl | (simp; done) | (simp [*]; done)), (by first | rfl | (simp; done) | (simp [*]; done)), H', ⟨by have := HK1.out; have := HK2.out; have := HK3.out; have := HJ30.out; omega⟩, ⟨by (try simp only [hl5_1]); (try simp only [hl5_2]); (try simp only [hl5_3]); exact Rq HO_5.out⟩, ⟨by (try simp only [hl5_1]); (try simp only [hl5_2]); (try simp only [hl5_3]); exact Rq HO_6.out⟩, ⟨by (try simp only [hl5_1]); (try simp only [hl5_2]); (try simp only [hl5_3]); exact Rq HO_7.out⟩, ⟨by (try simp only [hl5_1]); (try simp only [hl5_2]); (try simp only [hl5_3]); exact Sq HO_8.out⟩, ⟨by (try simp only [hl5_1]); (try simp only [hl5_2]); (try simp only [hl5_3]); exact bkq BK555⟩, ⟨by (try simp only [hl5_1]); (try simp only [hl5_2]); (try simp only [hl5_3]); exact bkq BK556⟩, ⟨bwq HB⟩⟩
        ·rw [if_neg c30] at H
         have c30b0 : decide (x10_2 < (x5_2.length : Int)) = false := decide_eq_false c30
         clear c30
         have H' := Aside0.mk H
         clear H
         go_wp2
         (try simp only [← hl5_1, ← hl5_2])
         go_roundg k2
         case measure => have := HK1.out; have := HK2.out; omega
         case rel => exact ⟨(x5_2), (x9_2), (by first | rfl | (simp; done) | (simp [*]; done)), H', ⟨by have := HK1.out; have := HK2.out; omega⟩, ⟨by (try simp only [hl5_1]); (try simp only [hl5_2]); exact Rq HO_5.out⟩, ⟨by (try simp only [hl5_1]); (try simp only [hl5_2]); exact Rq HO_6.out⟩, ⟨by (try simp only [hl5_1]); (try simp only [hl5_2]); exact Rq HO_7.out⟩, ⟨by (try simp only [hl5_1]); (try simp only [hl5_2]); exact Sq HO_8.out⟩, ⟨by (try simp only [hl5_1]); (try simp only [hl5_2]); exact bkq BK555⟩, ⟨by (try simp only [hl5_1]); (try simp only [hl5_2]); exact bkq BK556⟩, ⟨bwq HB⟩⟩
     ·replace c29 := Bool.eq_false_iff.mpr c29
      subst c29
      have H1 : (some x5_1) = some r := by rw [if_neg (show ¬ (false = true) by decide)] at H; exact H
      clear H
      have H := H1
      clear H1
      obtain rfl := Option.some.inj H
      go_wp2
      go_ret
      exact ⟨_, by first | rfl | (simp [errW_none, errW_some] <;> rfl) | (simp [*, errW_none, errW_some] <;> rfl), by (with_reducible repeat (first | apply Kd.R_alloc | apply Kd.R_drewN | apply Kd.R_drew)); exact Kd.R_mono HO_5.out (fun _ hk => trivial), bwq HB⟩
  ·rw [if_neg c6] at H
   exact absurd H (by simp)
 ·replace c4 := Bool.eq_false_iff.mpr c4
  subst c4
  have H1 : (some (([] : List Bool))) = some r := by rw [if_neg (show ¬ (false = true) by decide)] at H; exact H
  clear H
  have H := H1
  clear H1
  obtain ⟨y558, hy558⟩ : ∃ y_ : List Bool, y_ = (([] : List Bool)) := ⟨_, rfl⟩
  replace H : (some y558) = some r := by first | (rw [hy558]; with_reducible exact H) | (have H2_ := (Option.bind_some _ _).symm.trans H; rw [hy558]; with_reducible exact H2_) | (have H2_ := (Option.bind_some _ _).symm.trans H; with_reducible exact H2_) | with_reducible exact H | (rw [hy558]; exact H) | exact H
  have Ny558 := Aside0.mk hy558
  clear hy558
  obtain rfl := Option.some.inj H
  go_enter Try.func58, Try.ntmps58
  go_wp2_with (first | ((with_reducible refine gate_dst (N := 2) rfl ?_); refine bxe (cs := #[.slice A0_0 l0_0.length c0_0]) (t := 38) ?_; intro gb555 hg w72 hbox hb; have BK555 := Aside0.mk (hbox); have GW555 := bwz HB hg; have GE555 := bwz HB hg; replace HB := bwb HB hb; clear hb hbox hg) | ((with_reducible refine gate_dst (N := 3) rfl ?_); refine bxe (cs := #[.int .i64 a1_0, .int .i64 a1_1, .int .i64 a1_2, .int .i64 a1_3, .int .i64 a1_4]) (t := 42) ?_; intro gb556 hg w73 hbox hb; have BK556 := Aside0.mk (hbox); have GW556 := bwz HB hg; have GE556 := bwz HB hg; replace HB := bwb HB hb; have NB555_556 := bkl BK555 hg; have NB556_555 := bkg BK555 hg; replace BK555 := bkb BK555 hb; clear hb hbox hg; have hnb74 := NB555_556.out; have hnc74 := NB556_555.out; obtain ⟨hcz75, hfz75⟩ := bcf BK555; obtain ⟨hcz76, hfz76⟩ := bcf BK556) | ((with_reducible refine gate_callee (f := 63) rfl ?_); refine goesM (some 15) rfl rfl Try.func63 #[.agg #[.slice A0_0 l0_0.length c0_0], .agg #[.int .i64 a1_0, .int .i64 a1_1, .int .i64 a1_2, .int .i64 a1_3, .int .i64 a1_4]] rfl ?_; (with_reducible refine (spec_l12Ok.calls k _ _ l0_0 a1_0 a1_1 a1_2 a1_3 a1_4 false _ ?side1 ?side2 A3.out).mono ?_); (case side1 => exact Cq (Kd.C_below HR0_0.out HB.out)); (case side2 => exact HC0_0.out); rintro e w77 ⟨rfl, hb⟩; refine ⟨_, rfl, ?_⟩; replace BK555 := bkb BK555 hb; replace BK556 := bkb BK556 hb; replace HB := bwb HB hb; (try clear hb); (try clear hb2); (try clear hk); (try clear hi)) | ((with_reducible refine gate_dst (N := 17) rfl ?_); refine Kd.R_lit Kd.bool _ 4 ?hg (N := 17) ?hd (xs := ([] : List Bool)) (inner := []) (ok := fun _ => True) (okp := fun _ => True) ?hr ?hp (fun _ hk => hk) trivial (Below.refl _ _) (Nat.le_refl _) (by simp) ?_; (case hd => rfl); (case hg => rfl); (case hr => first | (go_simp; done) | (go_simp; rfl) | (go_simp; rfl)); (case hp => exact (Reps.none _ _)); intro v559 w78 ho79 hb hg_ hnew_; clear hg_ hnew_; (first | rw [← Ny558.out] at ho79 | (simp only [Int.reduceToNat] at ho79; rw [← Ny558.out] at ho79)); have HO560 := Aside0.mk (Kd.R_lower ho79 (below_size (bwq HB))); replace BK555 := bkb BK555 hb; replace BK556 := bkb BK556 hb; replace HB := bwb HB hb; clear hb ho79))
  go_ret
  exact ⟨_, by first | rfl | (simp [errW_none, errW_some] <;> rfl) | (simp [*, errW_none, errW_some] <;> rfl), Rq HO560.out, bwq HB⟩
end Go.Proofs.Ytcgbbhkjkkpfoaa.P
namespace Go.Proofs.Ytcgbbhkjkkpfoaa.P
open Go.RowKit Go.Proofs.YtcgbbhkjkkpfoaaW.PrintWords Go.Proofs.YtcgbbhkjkkpfoaaW.PrintLast Go.Proofs.YtcgbbhkjkkpfoaaW.PrintMore Lcm Lcm.G
theorem safe_of {P : G → Nat → Prop} {p : List Stp} {e0 e1 e2 e3 e4 : Int} {f : Nat → Option (List Bool)} (h : Ev f (safeL P p e0 e1 e2 e3 e4)) (hok : (progOkB p && exOkB e0 e1 e2 e3 e4) = true) : Ev f (bl p.length (P (gOf p e0 e1 e2 e3 e4))) := by
 unfold safeL at h; rwa [if_pos hok] at h
section
variable {g : G} {p : List Stp}
theorem sdown_loop (hf : Fit g p) : Ev (fun k => spec_SafeDown.l0 k (bl p.length g.Reach) (bl p.length g.comp) (bl p.length g.keeps) true p) (bl p.length g.Down) := by
 have hfew := hf.few
 refine gfp_sweep g.downF_mono hf.reach (fun l a => Ev (fun k => spec_SafeDown.l0 k l (bl p.length g.comp) (bl p.length g.keeps) a p) (bl p.length g.Down)) (fun i l a => Ev (fun k => spec_SafeDown.l1 k l (bl p.length g.comp) (bl p.length g.keeps) a (i : Int) p) (bl p.length g.Down)) ?_ ?_ ?_ ?_ _ GInv.start
 ·intro l hl h
  refine Ev.step (fun k => by rw [spec_SafeDown.l0]) ?_
  exact Ev.pos rfl h
 ·refine Ev.step (fun k => by rw [spec_SafeDown.l0]) ?_
  exact Ev.neg (by decide) (Ev.now _)
 ·intro i l a hi hl K1 K2
  have hlen := hl.len
  refine Ev.step (fun k => by rw [spec_SafeDown.l1]) (Ev.pos (by omega) (Ev.pos (by omega) ?_))
  rw [rdS hi, hf.next i hi, ints_len, wrapN (by omega), Int.toNat_natCast]
  refine Ev.cases (fun h => ?_) (fun h => ?_)
  ·have ho : on l i := (on_rd (by omega)).1 h
   refine Ev.pos (by rw [bl_len]; omega) (Ev.cases (fun h1 => ?_) (fun h1 => ?_))
   ·exact K2 fun _ => .inl ((rd_bl hi).1 h1)
   ·have hc : ¬ g.comp i := fun c => h1 ((rd_bl hi).2 c)
    refine Ev.pos (by rw [bl_len]; omega) (Ev.cases (fun h2 => ?_) (fun h2 => ?_))
    ·refine Ev.pos (by omega) (Ev.cases (fun h3 => ?_) (fun h3 => ?_))
     ·exact K1 ho fun c => (c.resolve_left hc).2.1 (List.eq_nil_of_length_eq_zero (by omega))
     ·refine Ev.bind (seach_ev l (g.next i) (fun k hk => by have := hf.lt i hi k hk; omega) (by have := hf.two i hi; omega)) (Ev.cases (fun h4 => ?_) (fun h4 => ?_))
      ·exact K2 fun _ => .inr ⟨(rd_bl hi).1 h2, fun e => h3 (by rw [e]; rfl), yes_iff.1 h4⟩
      ·exact K1 ho fun c => h4 (yes_iff.2 (c.resolve_left hc).2.2)
    ·exact K1 ho fun c => h2 ((rd_bl hi).2 (c.resolve_left hc).1)
  ·exact K2 fun c => absurd ((on_rd (by omega)).2 c) h
 ·intro l a hl h
  have hlen := hl.len
  refine Ev.step (fun k => by rw [spec_SafeDown.l1]) ?_
  exact Ev.neg (by omega) h
theorem sup_in (hf : Fit g p) (r s : List Bool) (a : Bool) (i : Nat) (hi : i < p.length) (hs : GInv g g.UpF p.length s) (hz : ¬ on s 0)
  (K1 : on s i → ¬ g.UpF (on s) i → Ev (fun k => spec_SafeUp.l1 k (s.set i false) (bl p.length g.comp) (bl p.length g.keeps) (prl g p.length) true ((i + 1 : Nat) : Int)) r)
  (K2 : (on s i → g.UpF (on s) i) → Ev (fun k => spec_SafeUp.l1 k s (bl p.length g.comp) (bl p.length g.keeps) (prl g p.length) a ((i + 1 : Nat) : Int)) r) :
  ∀ (d t : Nat), t + d = (preds g p.length i).length → (∀ u, u ∈ (preds g p.length i).take t → g.keeps u ∧ (g.comp u ∨ on s u)) → Ev (fun k => spec_SafeUp.l2 k s (bl p.length g.comp) (bl p.length g.keeps) (prl g p.length) a (i : Int) (t : Int)) r
 | 0, t, hd, ht => by
  have hfew := hf.few
  have hpl := preds_len g p.length i
  refine Ev.step (fun k => by rw [spec_SafeUp.l2]) ?_
  rw [rd_prl hi, ints_len]
  refine Ev.pos (by omega) (Ev.pos (by rw [prl_len]; omega) (Ev.neg (by omega) (Ev.step (fun k => by rw [spec_SafeUp.j3]) (Ev.neg (by decide) ?_))))
  rw [wrapN (by omega)]
  refine K2 fun ho => ⟨?_, (pred_all hf i _).1 fun u hu => ht u (by rw [List.take_of_length_le (by omega)]; exact hu)⟩
  rcases Nat.eq_zero_or_pos i with e | e
  ·exact absurd (e ▸ ho) hz
  ·exact e
 | d + 1, t, hd, ht => by
  have hfew := hf.few
  have hpl := preds_len g p.length i
  have hlen := hs.len
  have htl : t < (preds g p.length i).length := by omega
  have hm := mem_preds.1 (List.getElem_mem htl)
  have htk : ∀ j, j ∈ (preds g p.length i).take (t + 1) → j ∈ (preds g p.length i).take t ∨ j = (preds g p.length i)[t] := fun j => by
   rw [List.take_add_one, List.getElem?_eq_getElem htl, List.mem_append]; simp
  have fall : ¬ (g.keeps (preds g p.length i)[t] ∧ (g.comp (preds g p.length i)[t] ∨ on s (preds g p.length i)[t])) → on s i → Ev (fun k => spec_SafeUp.l2 k (s.set i false) (bl p.length g.comp) (bl p.length g.keeps) (prl g p.length) true (i : Int) (wrap64 ((t : Int) + 1))) r := fun hn ho => by
   have hk := K1 ho fun c => hn (c.2 _ hm.2)
   have hoff : ¬ on (s.set i false) i := fun c => (on_off.1 c).2 rfl
   have e : rdOf false (s.set i false) (i : Int) = false := by cases q : rdOf false (s.set i false) (i : Int) with
    | false => rfl
    | true => exact absurd ((on_rd (by rw [List.length_set]; omega)).1 q) hoff
   refine Ev.step (fun k => by rw [spec_SafeUp.l2]) ?_
   rw [rd_prl hi, ints_len, e]
   refine Ev.pos (by omega) (Ev.pos (by rw [prl_len]; omega) (Ev.cases (fun _ => Ev.pos (by rw [List.length_set]; omega) ?_) (fun _ => ?_)))
   all_goals
    refine Ev.step (fun k => by rw [spec_SafeUp.j3]) (Ev.neg (by decide) ?_)
    rw [wrapN (by omega)]
    exact hk
  refine Ev.step (fun k => by rw [spec_SafeUp.l2]) ?_
  rw [rd_prl hi, ints_len]
  refine Ev.pos (by omega) (Ev.pos (by rw [prl_len]; omega) (Ev.pos (by omega) (Ev.pos (by omega) (Ev.step (fun k => by rw [spec_SafeUp.j3]) (Ev.cases (fun ho => ?_) (fun ho => ?_))))))
  ·have hon : on s i := (on_rd (by omega)).1 ho
   rw [rd_prl hi, rd_ints htl, ints_len, Int.toNat_natCast]
   refine Ev.pos (by omega) (Ev.pos (by rw [prl_len]; omega) (Ev.pos (by omega) (Ev.pos (by omega) (Ev.pos (by omega) (Ev.pos (by rw [bl_len]; omega) (Ev.cases (fun h1 => ?_) (fun h1 => ?_)))))))
   ·refine Ev.pos (by rw [bl_len]; omega) (Ev.cases (fun h2 => ?_) (fun h2 => ?_))
    ·rw [wrapN (by omega)]
     exact sup_in hf r s a i hi hs hz K1 K2 d (t + 1) (by omega) fun u hu => (htk u hu).elim (ht u) fun e => by rw [e]; exact ⟨(rd_bl hm.1).1 h1, .inl ((rd_bl hm.1).1 h2)⟩
    ·refine Ev.pos (by omega) (Ev.cases (fun h3 => ?_) (fun h3 => ?_))
     ·rw [wrapN (by omega)]
      exact sup_in hf r s a i hi hs hz K1 K2 d (t + 1) (by omega) fun u hu => (htk u hu).elim (ht u) fun e => by rw [e]; exact ⟨(rd_bl hm.1).1 h1, .inr ((on_rd (by omega)).1 h3)⟩
     ·exact Ev.pos (by omega) (fall (fun c => c.2.elim (fun c => h2 ((rd_bl hm.1).2 c)) fun c => h3 ((on_rd (by omega)).2 c)) hon)
   ·exact Ev.pos (by omega) (fall (fun c => h1 ((rd_bl hm.1).2 c.1)) hon)
  ·rw [wrapN (by omega)]
   exact K2 fun c => absurd ((on_rd (by omega)).2 c) ho
theorem sup_loop (hf : Fit g p) : Ev (fun k => spec_SafeUp.l0 k ((bl p.length g.Reach).set 0 false) (bl p.length g.comp) (bl p.length g.keeps) (prl g p.length) true) (bl p.length g.Up) := by
 have hfew := hf.few
 refine sweep (fun l => GInv g g.UpF p.length l ∧ ¬ on l 0) many p.length (fun i l => on l i ∧ ¬ g.UpF (on l) i) (fun l a => Ev (fun k => spec_SafeUp.l0 k l (bl p.length g.comp) (bl p.length g.keeps) (prl g p.length) a) (bl p.length g.Up)) (fun i l a => Ev (fun k => spec_SafeUp.l1 k l (bl p.length g.comp) (bl p.length g.keeps) (prl g p.length) a (i : Int)) (bl p.length g.Up)) ?_ ?_ ?_ ?_ _ ⟨GInv.start.off g.upF_mono hf.reach (fun c => absurd c.1 (by omega)), fun c => (on_off.1 c).2 rfl⟩
 ·intro l hl h
  refine Ev.step (fun k => by rw [spec_SafeUp.l0]) ?_
  exact Ev.pos rfl h
 ·intro l hl h
  have e : l = bl p.length g.Up := hl.1.done (fun j hj => Classical.byContradiction fun c => h j (by rw [← hl.1.len]; exact on_lt hj) ⟨hj, c⟩)
  rw [e]
  refine Ev.step (fun k => by rw [spec_SafeUp.l0]) ?_
  exact Ev.neg (by decide) (Ev.now _)
 ·intro i l a hi hl K
  have hlen := hl.1.len
  refine Ev.step (fun k => by rw [spec_SafeUp.l1]) (Ev.pos (by omega) ?_)
  refine sup_in hf _ l a i hi hl.1 hl.2 (fun h1 h2 => ?_) (fun h => ?_) _ 0 (Nat.zero_add _) (fun u hu => by simp at hu)
  ·exact K _ _ ⟨hl.1.off g.upF_mono hf.reach h2, fun c => hl.2 (on_off.1 c).1⟩ (.inr ⟨rfl, by have := many_off h1; omega⟩)
  ·exact K _ _ hl (.inl ⟨rfl, rfl, fun c => c.2 (h c.1)⟩)
 ·intro l a hl h
  have hlen := hl.1.len
  refine Ev.step (fun k => by rw [spec_SafeUp.l1]) ?_
  exact Ev.neg (by omega) h
end
section
variable (p : List Stp) (e0 e1 e2 e3 e4 : Int)
theorem sdown_ev : Ev (fun k => spec_SafeDown.f k p e0 e1 e2 e3 e4) (safeL G.Down p e0 e1 e2 e3 e4) := by
 unfold spec_SafeDown.f safeL
 refine Ev.bind (l12Ok_ev p _ _ _ _ _) (Ev.cases (fun h => ?_) (fun h => ?_))
 ·have hf := fit_of (ok_l h) e0 e1 e2 e3 e4
  rw [if_pos h]
  exact Ev.bind (sall_ev hf (ok_l h)) (Ev.bind (safe_of (specComp_ev p _ _ _ _ _) h) (Ev.bind (safe_of (specKeeps_ev p _ _ _ _ _) h) (sdown_loop hf)))
 ·rw [if_neg h]; exact Ev.now _
theorem sup_ev : Ev (fun k => spec_SafeUp.f k p e0 e1 e2 e3 e4) (safeL G.Up p e0 e1 e2 e3 e4) := by
 unfold spec_SafeUp.f safeL
 refine Ev.bind (l12Ok_ev p _ _ _ _ _) (Ev.cases (fun h => ?_) (fun h => ?_))
 ·have hf := fit_of (ok_l h) e0 e1 e2 e3 e4
  have hpos := hf.pos
  rw [if_pos h]
  refine Ev.bind (sall_ev hf (ok_l h)) (Ev.pos (by rw [bl_len]; omega) (Ev.bind (safe_of (specComp_ev p _ _ _ _ _) h) (Ev.bind (safe_of (specKeeps_ev p _ _ _ _ _) h) (Ev.bind (spreds_ev hf (ok_l h)) (sup_loop hf)))))
 ·rw [if_neg h]; exact Ev.now _
end
end Go.Proofs.Ytcgbbhkjkkpfoaa.P
namespace Go.Proofs.Ytcgbbhkjkkpfoaa.P
open Go.RowKit Go.Proofs.YtcgbbhkjkkpfoaaW.PrintWords Go.Proofs.YtcgbbhkjkkpfoaaW.PrintLast Go.Proofs.YtcgbbhkjkkpfoaaW.PrintMore
attribute [local go_sem] max2_int min2_int max_two min_two max_three min_three max_four min_four
def spec_l13Form.f (k : Nat) (l0_0 : List (S77)) (a1_0 : Int) (a1_1 : Int) (a1_2 : Int) (a1_3 : Int) (a1_4 : Int) (l2_0 : List Bool) (l2_1 : List Bool) : Option (Bool) := (spec_l12Ok.f k l0_0 a1_0 a1_1 a1_2 a1_3 a1_4).bind fun t139 => (if t139 = true then (if (l2_0.length : Int) = (l0_0.length : Int) then (some ((l2_1.length : Int) == (l0_0.length : Int))) else (some false)) else (some false))
theorem spec_l13Form.calls (k : Nat) (A0_0 : Option Addr) (c0_0 : Nat) (l0_0 : List (S77)) (a1_0 : Int) (a1_1 : Int) (a1_2 : Int) (a1_3 : Int) (a1_4 : Int) (A2_0 : Option Addr) (c2_0 : Nat) (l2_0 : List Bool) (A2_1 : Option Addr) (c2_1 : Nat) (l2_1 : List Bool) (r : Bool) (w : World) (hr0_0 : Kd.C k77 w A0_0 l0_0.length l0_0) (hc0_0 : l0_0.length ≤ c0_0) (hr2_0 : Kd.C Kd.bool w A2_0 l2_0.length l2_0) (hc2_0 : l2_0.length ≤ c2_0) (hr2_1 : Kd.C Kd.bool w A2_1 l2_1.length l2_1) (hc2_1 : l2_1.length ≤ c2_1) (h : spec_l13Form.f k l0_0 a1_0 a1_1 a1_2 a1_3 a1_4 l2_0 l2_1 = some r) :
  Calls Try.prog 44 #[.agg #[.slice A0_0 l0_0.length c0_0], .agg #[.int .i64 a1_0, .int .i64 a1_1, .int .i64 a1_2, .int .i64 a1_3, .int .i64 a1_4], .agg #[.slice A2_0 l2_0.length c2_0, .slice A2_1 l2_1.length c2_1]] w fun e w' => e = .returned (.bool r) ∧ Below w.heap.size w w' := by
 have hu38 := Try.underlying38
 have hu42 := Try.underlying42
 have hu44 := Try.underlying44
 have HR0_0 := Aside0.mk hr0_0
 have HC0_0 := Aside0.mk hc0_0
 clear hr0_0 hc0_0
 have HR2_0 := Aside0.mk hr2_0
 have HC2_0 := Aside0.mk hc2_0
 clear hr2_0 hc2_0
 have HR2_1 := Aside0.mk hr2_1
 have HC2_1 := Aside0.mk hc2_1
 clear hr2_1 hc2_1
 have HB := Aside0.mk (Below.refl w.heap.size w)
 have H : ((spec_l12Ok.f k l0_0 a1_0 a1_1 a1_2 a1_3 a1_4).bind fun t139 => (if t139 = true then (if (l2_0.length : Int) = (l0_0.length : Int) then (some ((l2_1.length : Int) == (l0_0.length : Int))) else (some false)) else (some false))) = some r := h
 clear h
 replace H := Option.bind_eq_some_iff.mp H
 obtain ⟨t139, A40, H⟩ := H
 have A4 := Aside0.mk A40
 clear A40
 by_cases c5 : t139 = true
 ·subst c5
  rw [if_pos rfl] at H
  by_cases c6 : (l2_0.length : Int) = (l0_0.length : Int)
  ·rw [if_pos c6] at H
   have c6b0 : ((l2_0.length : Int) == (l0_0.length : Int)) = true := beq_iff_eq.mpr c6
   have c6b1 : ((l2_0.length : Int) != (l0_0.length : Int)) = false := bne_eq_false_iff_eq.mpr c6
   have c6b2 : (l2_0.length == l0_0.length) = true := by first | simpa using c6 | (simp at c6 ⊢; omega)
   clear c6
   obtain rfl := Option.some.inj H
   go_enter Try.func44, Try.ntmps44
   go_wp2_with (first | ((with_reducible refine gate_dst (N := 3) rfl ?_); (try (refine gate_guard (by rfl) ?_; dsimp only)); refine bxe (cs := #[.slice A0_0 l0_0.length c0_0]) (t := 38) ?_; intro gb136 hg w7 hbox hb; have BK136 := Aside0.mk (hbox); have GW136 := bwz HB hg; have GE136 := bwz HB hg; replace HB := bwb HB hb; clear hb hbox hg) | ((with_reducible refine gate_dst (N := 4) rfl ?_); (try (refine gate_guard (by rfl) ?_; dsimp only)); refine bxe (cs := #[.int .i64 a1_0, .int .i64 a1_1, .int .i64 a1_2, .int .i64 a1_3, .int .i64 a1_4]) (t := 42) ?_; intro gb137 hg w8 hbox hb; have BK137 := Aside0.mk (hbox); have GW137 := bwz HB hg; have GE137 := bwz HB hg; replace HB := bwb HB hb; have NB136_137 := bkl BK136 hg; have NB137_136 := bkg BK136 hg; replace BK136 := bkb BK136 hb; clear hb hbox hg) | ((with_reducible refine gate_dst (N := 5) rfl ?_); (try (refine gate_guard (by rfl) ?_; dsimp only)); refine bxe (cs := #[.slice A2_0 l2_0.length c2_0, .slice A2_1 l2_1.length c2_1]) (t := 44) ?_; intro gb138 hg w9 hbox hb; have BK138 := Aside0.mk (hbox); have GW138 := bwz HB hg; have GE138 := bwz HB hg; replace HB := bwb HB hb; have NB136_138 := bkl BK136 hg; have NB138_136 := bkg BK136 hg; replace BK136 := bkb BK136 hb; have NB137_138 := bkl BK137 hg; have NB138_137 := bkg BK137 hg; replace BK137 := bkb BK137 hb; clear hb hbox hg; have hnb10 := NB136_137.out; have hnc10 := NB137_136.out; have hnb11 := NB136_138.out; have hnc11 := NB138_136.out; obtain ⟨hcz12, hfz12⟩ := bcf BK136; have hnb13 := NB137_138.out; have hnc13 := NB138_137.out; obtain ⟨hcz14, hfz14⟩ := bcf BK137) | ((with_reducible refine gate_callee (f := 63) rfl ?_); refine goesM (some 9) rfl rfl Try.func63 #[.agg #[.slice A0_0 l0_0.length c0_0], .agg #[.int .i64 a1_0, .int .i64 a1_1, .int .i64 a1_2, .int .i64 a1_3, .int .i64 a1_4]] rfl ?_; (with_reducible refine (spec_l12Ok.calls k _ _ l0_0 a1_0 a1_1 a1_2 a1_3 a1_4 true _ ?side1 ?side2 A4.out).mono ?_); (case side1 => exact Cq (Kd.C_below HR0_0.out HB.out)); (case side2 => exact HC0_0.out); rintro e w15 ⟨rfl, hb⟩; refine ⟨_, rfl, ?_⟩; replace BK136 := bkb BK136 hb; replace BK137 := bkb BK137 hb; replace BK138 := bkb BK138 hb; replace HB := bwb HB hb; (try clear hb); (try clear hb2); (try clear hk); (try clear hi); obtain ⟨hcz16, hfz16⟩ := bcf BK138; obtain ⟨hcz17, hfz17⟩ := bcf BK136))
   go_ret
   exact ⟨by first | rfl | (simp [errW_none, errW_some] <;> rfl) | (simp [*, errW_none, errW_some] <;> rfl), bwq HB⟩
  ·rw [if_neg c6] at H
   have c6b0 : ((l2_0.length : Int) == (l0_0.length : Int)) = false := beq_eq_false_iff_ne.mpr c6
   have c6b1 : ((l2_0.length : Int) != (l0_0.length : Int)) = true := bne_iff_ne.mpr c6
   have c6b2 : (l2_0.length == l0_0.length) = false := by first | simpa using c6 | (simp at c6 ⊢; omega)
   obtain rfl := Option.some.inj H
   go_enter Try.func44, Try.ntmps44
   go_wp2_with (first | ((with_reducible refine gate_dst (N := 3) rfl ?_); (try (refine gate_guard (by rfl) ?_; dsimp only)); refine bxe (cs := #[.slice A0_0 l0_0.length c0_0]) (t := 38) ?_; intro gb136 hg w18 hbox hb; have BK136 := Aside0.mk (hbox); have GW136 := bwz HB hg; have GE136 := bwz HB hg; replace HB := bwb HB hb; clear hb hbox hg) | ((with_reducible refine gate_dst (N := 4) rfl ?_); (try (refine gate_guard (by rfl) ?_; dsimp only)); refine bxe (cs := #[.int .i64 a1_0, .int .i64 a1_1, .int .i64 a1_2, .int .i64 a1_3, .int .i64 a1_4]) (t := 42) ?_; intro gb137 hg w19 hbox hb; have BK137 := Aside0.mk (hbox); have GW137 := bwz HB hg; have GE137 := bwz HB hg; replace HB := bwb HB hb; have NB136_137 := bkl BK136 hg; have NB137_136 := bkg BK136 hg; replace BK136 := bkb BK136 hb; clear hb hbox hg) | ((with_reducible refine gate_dst (N := 5) rfl ?_); (try (refine gate_guard (by rfl) ?_; dsimp only)); refine bxe (cs := #[.slice A2_0 l2_0.length c2_0, .slice A2_1 l2_1.length c2_1]) (t := 44) ?_; intro gb138 hg w20 hbox hb; have BK138 := Aside0.mk (hbox); have GW138 := bwz HB hg; have GE138 := bwz HB hg; replace HB := bwb HB hb; have NB136_138 := bkl BK136 hg; have NB138_136 := bkg BK136 hg; replace BK136 := bkb BK136 hb; have NB137_138 := bkl BK137 hg; have NB138_137 := bkg BK137 hg; replace BK137 := bkb BK137 hb; clear hb hbox hg; have hnb21 := NB136_137.out; have hnc21 := NB137_136.out; have hnb22 := NB136_138.out; have hnc22 := NB138_136.out; obtain ⟨hcz23, hfz23⟩ := bcf BK136; have hnb24 := NB137_138.out; have hnc24 := NB138_137.out; obtain ⟨hcz25, hfz25⟩ := bcf BK137) | ((with_reducible refine gate_callee (f := 63) rfl ?_); refine goesM (some 9) rfl rfl Try.func63 #[.agg #[.slice A0_0 l0_0.length c0_0], .agg #[.int .i64 a1_0, .int .i64 a1_1, .int .i64 a1_2, .int .i64 a1_3, .int .i64 a1_4]] rfl ?_; (with_reducible refine (spec_l12Ok.calls k _ _ l0_0 a1_0 a1_1 a1_2 a1_3 a1_4 true _ ?side1 ?side2 A4.out).mono ?_); (case side1 => exact Cq (Kd.C_below HR0_0.out HB.out)); (case side2 => exact HC0_0.out); rintro e w26 ⟨rfl, hb⟩; refine ⟨_, rfl, ?_⟩; replace BK136 := bkb BK136 hb; replace BK137 := bkb BK137 hb; replace BK138 := bkb BK138 hb; replace HB := bwb HB hb; (try clear hb); (try clear hb2); (try clear hk); (try clear hi); obtain ⟨hcz27, hfz27⟩ := bcf BK138; obtain ⟨hcz28, hfz28⟩ := bcf BK136))
   go_ret
   exact ⟨by first | rfl | (simp [errW_none, errW_some] <;> rfl) | (simp [*, errW_none, errW_some] <;> rfl), bwq HB⟩
 ·replace c5 := Bool.eq_false_iff.mpr c5
  subst c5
  have H1 : (some false) = some r := by rw [if_neg (show ¬ (false = true) by decide)] at H; exact H
  clear H
  have H := H1
  clear H1
  obtain rfl := Option.some.inj H
  go_enter Try.func44, Try.ntmps44
  go_wp2_with (first | ((with_reducible refine gate_dst (N := 3) rfl ?_); (try (refine gate_guard (by rfl) ?_; dsimp only)); refine bxe (cs := #[.slice A0_0 l0_0.length c0_0]) (t := 38) ?_; intro gb136 hg w29 hbox hb; have BK136 := Aside0.mk (hbox); have GW136 := bwz HB hg; have GE136 := bwz HB hg; replace HB := bwb HB hb; clear hb hbox hg) | ((with_reducible refine gate_dst (N := 4) rfl ?_); (try (refine gate_guard (by rfl) ?_; dsimp only)); refine bxe (cs := #[.int .i64 a1_0, .int .i64 a1_1, .int .i64 a1_2, .int .i64 a1_3, .int .i64 a1_4]) (t := 42) ?_; intro gb137 hg w30 hbox hb; have BK137 := Aside0.mk (hbox); have GW137 := bwz HB hg; have GE137 := bwz HB hg; replace HB := bwb HB hb; have NB136_137 := bkl BK136 hg; have NB137_136 := bkg BK136 hg; replace BK136 := bkb BK136 hb; clear hb hbox hg) | ((with_reducible refine gate_dst (N := 5) rfl ?_); (try (refine gate_guard (by rfl) ?_; dsimp only)); refine bxe (cs := #[.slice A2_0 l2_0.length c2_0, .slice A2_1 l2_1.length c2_1]) (t := 44) ?_; intro gb138 hg w31 hbox hb; have BK138 := Aside0.mk (hbox); have GW138 := bwz HB hg; have GE138 := bwz HB hg; replace HB := bwb HB hb; have NB136_138 := bkl BK136 hg; have NB138_136 := bkg BK136 hg; replace BK136 := bkb BK136 hb; have NB137_138 := bkl BK137 hg; have NB138_137 := bkg BK137 hg; replace BK137 := bkb BK137 hb; clear hb hbox hg; have hnb32 := NB136_137.out; have hnc32 := NB137_136.out; have hnb33 := NB136_138.out; have hnc33 := NB138_136.out; obtain ⟨hcz34, hfz34⟩ := bcf BK136; have hnb35 := NB137_138.out; have hnc35 := NB138_137.out; obtain ⟨hcz36, hfz36⟩ := bcf BK137) | ((with_reducible refine gate_callee (f := 63) rfl ?_); refine goesM (some 9) rfl rfl Try.func63 #[.agg #[.slice A0_0 l0_0.length c0_0], .agg #[.int .i64 a1_0, .int .i64 a1_1, .int .i64 a1_2, .int .i64 a1_3, .int .i64 a1_4]] rfl ?_; (with_reducible refine (spec_l12Ok.calls k _ _ l0_0 a1_0 a1_1 a1_2 a1_3 a1_4 false _ ?side1 ?side2 A4.out).mono ?_); (case side1 => exact Cq (Kd.C_below HR0_0.out HB.out)); (case side2 => exact HC0_0.out); rintro e w37 ⟨rfl, hb⟩; refine ⟨_, rfl, ?_⟩; replace BK136 := bkb BK136 hb; replace BK137 := bkb BK137 hb; replace BK138 := bkb BK138 hb; replace HB := bwb HB hb; (try clear hb); (try clear hb2); (try clear hk); (try clear hi)))
  go_ret
  exact ⟨by first | rfl | (simp [errW_none, errW_some] <;> rfl) | (simp [*, errW_none, errW_some] <;> rfl), bwq HB⟩
mutual
def spec_l13Held.l0 : Nat → List Bool → List Bool → List (List Int) → Bool → List Bool → List Bool → Option (List Bool)
 | 0, _, _, _, _, _, _ => none
 | k + 1, x7, x8, x9, x10, x586000, x586001 => if x10 = true then (spec_l13Held.l1 k x7 x8 x9 false 0 x586000 x586001) else (some x7)
def spec_l13Held.l1 : Nat → List Bool → List Bool → List (List Int) → Bool → Int → List Bool → List Bool → Option (List Bool)
 | 0, _, _, _, _, _, _, _ => none
 | k + 1, x7, x8, x9, x10, x11, x586000, x586001 => if x11 < (x7.length : Int) then (if 0 ≤ x11 then (if rdOf false x7 x11 = true then (if x11 < (x586000.length : Int) then (spec_l13Held.j2 k x7 x8 x9 x10 x11 (rdOf false x586000 x11) x586000 x586001) else (none)) else (spec_l13Held.j2 k x7 x8 x9 x10 x11 true x586000 x586001)) else (none)) else (spec_l13Held.l0 k x7 x8 x9 x10 x586000 x586001)
def spec_l13Held.j2 : Nat → List Bool → List Bool → List (List Int) → Bool → Int → Bool → List Bool → List Bool → Option (List Bool)
 | 0, _, _, _, _, _, _, _, _ => none
 | k + 1, x7, x8, x9, x10, x11, x39, x586000, x586001 => if x39 = true then (spec_l13Held.l1 k x7 x8 x9 x10 (wrap64 (x11 + 1)) x586000 x586001) else (spec_l13Held.l2 k x7 x8 x9 x10 x11 (decide (x11 > 0)) 0 x586000 x586001)
def spec_l13Held.l2 : Nat → List Bool → List Bool → List (List Int) → Bool → Int → Bool → Int → List Bool → List Bool → Option (List Bool)
 | 0, _, _, _, _, _, _, _, _, _ => none
 | k + 1, x7, x8, x9, x10, x11, x12, x13, x586000, x586001 => if 0 ≤ x11 then (if x11 < (x9.length : Int) then (if x13 < ((rd_L2 x9 x11).length : Int) then (if x12 = true then (if 0 ≤ x13 then (if 0 ≤ (rd (rd_L2 x9 x11) x13) then (if (rd (rd_L2 x9 x11) x13) < (x8.length : Int) then (if rdOf false x8 (rd (rd_L2 x9 x11) x13) = true then (if (rd (rd_L2 x9 x11) x13) < (x7.length : Int) then (spec_l13Held.l2 k x7 x8 x9 x10 x11 (rdOf false x7 (rd (rd_L2 x9 x11) x13)) (wrap64 (x13 + 1)) x586000 x586001) else (none)) else (spec_l13Held.l2 k x7 x8 x9 x10 x11 false (wrap64 (x13 + 1)) x586000 x586001)) else (none)) else (none)) else (none)) else (spec_l13Held.l2 k x7 x8 x9 x10 x11 false (wrap64 (x13 + 1)) x586000 x586001)) else (if x12 = true then (spec_l13Held.l1 k x7 x8 x9 x10 (wrap64 (x11 + 1)) x586000 x586001) else (if x11 < (x7.length : Int) then (spec_l13Held.l1 k (x7.set (x11 : Int).toNat false) x8 x9 true (wrap64 (x11 + 1)) x586000 x586001) else (none)))) else (none)) else (none)
end
def spec_l13Held.f (k : Nat) (l0_0 : List (S77)) (a1_0 : Int) (a1_1 : Int) (a1_2 : Int) (a1_3 : Int) (a1_4 : Int) (l2_0 : List Bool) (l2_1 : List Bool) : Option (List Bool) := (spec_l12All.f k l0_0).bind fun t586 => ((spec_ExprKeeps.f k l0_0 a1_0 a1_1 a1_2 a1_3 a1_4).bind fun t589 => ((spec_FlowPreds.f k l0_0).bind fun t592 => (spec_l13Held.l0 k t586 t589 t592 true l2_0 l2_1)))
theorem spec_l13Held.calls (k : Nat) (A0_0 : Option Addr) (c0_0 : Nat) (l0_0 : List (S77)) (a1_0 : Int) (a1_1 : Int) (a1_2 : Int) (a1_3 : Int) (a1_4 : Int) (A2_0 : Option Addr) (c2_0 : Nat) (l2_0 : List Bool) (A2_1 : Option Addr) (c2_1 : Nat) (l2_1 : List Bool) (r : List Bool) (w : World) (hr0_0 : Kd.C k77 w A0_0 l0_0.length l0_0) (hc0_0 : l0_0.length ≤ c0_0) (hr2_0 : Kd.C Kd.bool w A2_0 l2_0.length l2_0) (hc2_0 : l2_0.length ≤ c2_0) (hr2_1 : Kd.C Kd.bool w A2_1 l2_1.length l2_1) (hc2_1 : l2_1.length ≤ c2_1) (h : spec_l13Held.f k l0_0 a1_0 a1_1 a1_2 a1_3 a1_4 l2_0 l2_1 = some r) :
  Calls Try.prog 59 #[.agg #[.slice A0_0 l0_0.length c0_0], .agg #[.int .i64 a1_0, .int .i64 a1_1, .int .i64 a1_2, .int .i64 a1_3, .int .i64 a1_4], .agg #[.slice A2_0 l2_0.length c2_0, .slice A2_1 l2_1.length c2_1]] w fun e w' => ∃ v0_ : Value, e = .returned (v0_) ∧ Kd.R Kd.bool 4 w' w.heap.size (fun _ => True) v0_ r ∧ Below w.heap.size w w' := by
 have hu38 := Try.underlying38
 have hu42 := Try.underlying42
 have hu44 := Try.underlying44
 have HR0_0 := Aside0.mk hr0_0
 have HC0_0 := Aside0.mk hc0_0
 clear hr0_0 hc0_0
 have HR2_0 := Aside0.mk hr2_0
 have HC2_0 := Aside0.mk hc2_0
 clear hr2_0 hc2_0
 have HR2_1 := Aside0.mk hr2_1
 have HC2_1 := Aside0.mk hc2_1
 clear hr2_1 hc2_1
 have HB := Aside0.mk (Below.refl w.heap.size w)
 have H : ((spec_l12All.f k l0_0).bind fun t586 => ((spec_ExprKeeps.f k l0_0 a1_0 a1_1 a1_2 a1_3 a1_4).bind fun t589 => ((spec_FlowPreds.f k l0_0).bind fun t592 => (spec_l13Held.l0 k t586 t589 t592 true l2_0 l2_1)))) = some r := h
 clear h
 replace H := Option.bind_eq_some_iff.mp H
 obtain ⟨t586, A40, H⟩ := H
 have A4 := Aside0.mk A40
 clear A40
 replace H := Option.bind_eq_some_iff.mp H
 obtain ⟨t589, A50, H⟩ := H
 have A5 := Aside0.mk A50
 clear A50
 replace H := Option.bind_eq_some_iff.mp H
 obtain ⟨t592, A60, H⟩ := H
 have A6 := Aside0.mk A60
 clear A60
 have H' := Aside0.mk H
 clear H
 go_enter Try.func59, Try.ntmps59
 go_wp2_with (first | ((with_reducible refine gate_dst (N := 3) rfl ?_); refine bxe (cs := #[.slice A0_0 l0_0.length c0_0]) (t := 38) ?_; intro gb583 hg w7 hbox hb; have BK583 := Aside0.mk (hbox); have GW583 := bwz HB hg; have GE583 := bwz HB hg; replace HB := bwb HB hb; clear hb hbox hg) | ((with_reducible refine gate_dst (N := 4) rfl ?_); refine bxe (cs := #[.int .i64 a1_0, .int .i64 a1_1, .int .i64 a1_2, .int .i64 a1_3, .int .i64 a1_4]) (t := 42) ?_; intro gb584 hg w8 hbox hb; have BK584 := Aside0.mk (hbox); have GW584 := bwz HB hg; have GE584 := bwz HB hg; replace HB := bwb HB hb; have NB583_584 := bkl BK583 hg; have NB584_583 := bkg BK583 hg; replace BK583 := bkb BK583 hb; clear hb hbox hg) | ((with_reducible refine gate_dst (N := 5) rfl ?_); refine bxe (cs := #[.slice A2_0 l2_0.length c2_0, .slice A2_1 l2_1.length c2_1]) (t := 44) ?_; intro gb585 hg w9 hbox hb; have BK585 := Aside0.mk (hbox); have GW585 := bwz HB hg; have GE585 := bwz HB hg; replace HB := bwb HB hb; have NB583_585 := bkl BK583 hg; have NB585_583 := bkg BK583 hg; replace BK583 := bkb BK583 hb; have NB584_585 := bkl BK584 hg; have NB585_584 := bkg BK584 hg; replace BK584 := bkb BK584 hb; clear hb hbox hg; have hnb10 := NB583_584.out; have hnc10 := NB584_583.out; have hnb11 := NB583_585.out; have hnc11 := NB585_583.out; obtain ⟨hcz12, hfz12⟩ := bcf BK583) | ((with_reducible refine gate_callee (f := 71) rfl ?_); refine goesM (some 15) rfl rfl Try.func71 #[.agg #[.slice A0_0 l0_0.length c0_0]] rfl ?_; (with_reducible refine (spec_l12All.calls k _ _ l0_0 t586 _ ?side1 ?side2 A4.out).mono ?_); (case side1 => exact Cq (Kd.C_below HR0_0.out HB.out)); (case side2 => exact HC0_0.out); rintro e w13 ⟨v587, rfl, ho0, hb⟩; refine ⟨_, rfl, ?_⟩; have HO588 := Aside0.mk (Kd.R_lower ho0 (below_size (bwq HB))); replace BK583 := bkb BK583 hb; replace BK584 := bkb BK584 hb; replace BK585 := bkb BK585 hb; replace HB := bwb HB hb; (try clear hb); (try clear hb2); (try clear hk); (try clear hi); (try clear ho0); obtain ⟨hcz14, hfz14⟩ := bcf BK583; have hnb15 := NB584_585.out; have hnc15 := NB585_584.out; obtain ⟨hcz16, hfz16⟩ := bcf BK584) | ((with_reducible refine gate_callee (f := 93) rfl ?_); refine goesM (some 18) rfl rfl Try.func93 #[.agg #[.slice A0_0 l0_0.length c0_0], .agg #[.int .i64 a1_0, .int .i64 a1_1, .int .i64 a1_2, .int .i64 a1_3, .int .i64 a1_4]] rfl ?_; (with_reducible refine (spec_ExprKeeps.calls k _ _ l0_0 a1_0 a1_1 a1_2 a1_3 a1_4 t589 _ ?side1 ?side2 A5.out).mono ?_); (case side1 => exact Cq (Kd.C_below HR0_0.out HB.out)); (case side2 => exact HC0_0.out); rintro e w17 ⟨v590, rfl, ho0, hb⟩; refine ⟨_, rfl, ?_⟩; have HO591 := Aside0.mk (Kd.R_lower (Kd.R_new' ho0 (Kd.R_lt (Rq HO588.out))) (below_size (bwq HB))); replace HO588 := Aside0.mk (Kd.R_elder' (Rq HO588.out) (Kd.R_base ho0) hb); replace BK583 := bkb BK583 hb; replace BK584 := bkb BK584 hb; replace BK585 := bkb BK585 hb; replace HB := bwb HB hb; (try clear hb); (try clear hb2); (try clear hk); (try clear hi); (try clear ho0); obtain ⟨hcz18, hfz18⟩ := bcf BK583) | ((with_reducible refine gate_callee (f := 94) rfl ?_); refine goesM (some 20) rfl rfl Try.func94 #[.agg #[.slice A0_0 l0_0.length c0_0]] rfl ?_; (with_reducible refine (spec_FlowPreds.calls k _ _ l0_0 t592 _ ?side1 ?side2 A6.out).mono ?_); (case side1 => exact Cq (Kd.C_below HR0_0.out HB.out)); (case side2 => exact HC0_0.out); rintro e w19 ⟨v593, rfl, ho0, hb⟩; refine ⟨_, rfl, ?_⟩; replace HO588 := Aside0.mk (Kd.R_below (Rq HO588.out) hb); replace HO591 := Aside0.mk (Kd.R_below (Rq HO591.out) hb); have HO594 := Aside0.mk (Kd.S_lower ho0 (below_size (bwq HB))); replace BK583 := bkb BK583 hb; replace BK584 := bkb BK584 hb; replace BK585 := bkb BK585 hb; replace HB := bwb HB hb; (try clear hb); (try clear hb2); (try clear hk); (try clear hi); (try clear ho0)))
 go_loopg [10] k (fun kq v10 w' => ∃ (x7_1 : List Bool) (x10_1 : Bool), v10 = .bool x10_1 ∧ Aside0 (spec_l13Held.l0 kq x7_1 t589 t592 x10_1 l2_0 l2_1 = some r) ∧ Aside0 (kq ≤ k) ∧ Aside0 (Kd.R Kd.bool 4 w' w.heap.size (fun k_ => some k_ ≠ (v590 : Value).ownBlock) v587 x7_1) ∧ Aside0 (Kd.R Kd.bool 4 w' w.heap.size (fun k_ => some k_ ≠ (v587 : Value).ownBlock) v590 t589) ∧ Aside0 (Kd.S (Kd.slice 3 (Kd.int .i64)) 32 w' w.heap.size (fun _ => True) v593 t592) ∧ Aside0 (w'.heap[gb583]? = some (.cells #[(.slice A0_0 l0_0.length c0_0)] 38 (0, 0))) ∧ Aside0 (w'.heap[gb584]? = some (.cells #[.int .i64 a1_0, .int .i64 a1_1, .int .i64 a1_2, .int .i64 a1_3, .int .i64 a1_4] 42 (0, 0))) ∧ Aside0 (w'.heap[gb585]? = some (.cells #[(.slice A2_0 l2_0.length c2_0), (.slice A2_1 l2_1.length c2_1)] 44 (0, 0))) ∧ Aside0 (Below w.heap.size w w'))
 case atStart => exact ⟨(t586), (true), (by first | rfl | (simp; done) | (simp [*]; done)), H', ⟨Nat.le_refl _⟩, ⟨by (with_reducible repeat (first | apply Kd.R_alloc | apply Kd.R_drewN | apply Kd.R_drew)); exact Kd.R_mono HO588.out (fun _ hk => hk.2)⟩, ⟨by (with_reducible repeat (first | apply Kd.R_alloc | apply Kd.R_drewN | apply Kd.R_drew)); exact Kd.R_mono HO591.out (fun _ hk => hk.2)⟩, ⟨Sq HO594.out⟩, ⟨bkq BK583⟩, ⟨bkq BK584⟩, ⟨bkq BK585⟩, ⟨bwq HB⟩⟩
 case round =>
  clear H'
  try clear c1
  try clear c2
  try clear p2
  try clear c5
  try clear c7
  try clear c9
  try clear c10
  try clear c11
  try clear c15
  try clear hcz12
  try clear hcz14
  try clear hcz16
  try clear hcz18
  try clear hfz12
  try clear hfz14
  try clear hfz16
  try clear hfz18
  obtain ⟨x7_1, x10_1, rfl, HA, HK1, HO_7, HO_8, HO_9, BK583, BK584, BK585, HB⟩ := hrel
  cases gk with
  | zero => exact absurd HA.out (by intro h_; first | (cases h_; done) | (simp [spec_l13Held.l0] at h_))
  | succ k1 =>
   have H := HA.out
   clear HA
   simp only [spec_l13Held.l0] at H
   by_cases c20 : x10_1 = true
   ·subst c20
    rw [if_pos rfl] at H
    have H' := Aside0.mk H
    clear H
    go_wp2
    go_loopg [10, 11] k1 (fun kq v10 v11 w' => ∃ (x7_2 : List Bool) (x10_2 : Bool) (x11_2 : Int), v10 = .bool x10_2 ∧ v11 = .int .i64 x11_2 ∧ Aside0 (spec_l13Held.l1 kq x7_2 t589 t592 x10_2 x11_2 l2_0 l2_1 = some r) ∧ Aside0 (kq ≤ k1) ∧ Aside0 (Kd.R Kd.bool 4 w' w.heap.size (fun k_ => some k_ ≠ (v590 : Value).ownBlock) v587 x7_2) ∧ Aside0 (Kd.R Kd.bool 4 w' w.heap.size (fun k_ => some k_ ≠ (v587 : Value).ownBlock) v590 t589) ∧ Aside0 (Kd.S (Kd.slice 3 (Kd.int .i64)) 32 w' w.heap.size (fun _ => True) v593 t592) ∧ Aside0 (w'.heap[gb583]? = some (.cells #[(.slice A0_0 l0_0.length c0_0)] 38 (0, 0))) ∧ Aside0 (w'.heap[gb584]? = some (.cells #[.int .i64 a1_0, .int .i64 a1_1, .int .i64 a1_2, .int .i64 a1_3, .int .i64 a1_4] 42 (0, 0))) ∧ Aside0 (w'.heap[gb585]? = some (.cells #[(.slice A2_0 l2_0.length c2_0), (.slice A2_1 l2_1.length c2_1)] 44 (0, 0))) ∧ Aside0 (Below w.heap.size w w'))
    case atStart => exact ⟨(x7_1), (false), (0), (by first | rfl | (simp; done) | (simp [*]; done)), (by first | rfl | (simp; done) | (simp [*]; done)), H', ⟨Nat.le_refl _⟩, ⟨Rq HO_7.out⟩, ⟨Rq HO_8.out⟩, ⟨Sq HO_9.out⟩, ⟨bkq BK583⟩, ⟨bkq BK584⟩, ⟨bkq BK585⟩, ⟨bwq HB⟩⟩
    case round =>
     clear H'
     try clear c1
     try clear c2
     try clear p2
     try clear c5
     try clear c7
     try clear c9
     try clear c10
     try clear c11
     try clear c15
     try clear c20
     try clear hcz12
     try clear hcz14
     try clear hcz16
     try clear hcz18
     try clear hfz12
     try clear hfz14
     try clear hfz16
     try clear hfz18
     try clear p2
     obtain ⟨x7_2, x10_2, x11_2, rfl, rfl, HA, HK2, HO_7, HO_8, HO_9, BK583, BK584, BK585, HB⟩ := hrel
     cases gk with
     | zero => exact absurd HA.out (by intro h_; first | (cases h_; done) | (simp [spec_l13Held.l1] at h_))
     | succ k2 =>
      have H := HA.out
      clear HA
      simp only [spec_l13Held.l1] at H
      by_cases c21 : x11_2 < (x7_2.length : Int)
      ·rw [if_pos c21] at H
       have c21b0 : decide (x11_2 < (x7_2.length : Int)) = true := decide_eq_true c21
       clear c21
       have HC22 := Aside0.mk H
       clear H
       obtain ⟨Ao23, co23, eo23⟩ := Kd.R_slice HO_7.out
       subst eo23
       go_upto_region 10 with (fail)
       go_cut [39] (fun v39 wc => ∃ (kq : Nat) (x39_21 : Bool), v39 = .bool x39_21 ∧ Aside0 (spec_l13Held.j2 kq x7_2 t589 t592 x10_2 x11_2 x39_21 l2_0 l2_1 = some r) ∧ Aside0 (kq ≤ k2) ∧ Aside0 (Kd.R Kd.bool 4 wc w.heap.size (fun k_ => some k_ ≠ (v590 : Value).ownBlock) (.slice Ao23 x7_2.length co23) x7_2) ∧ Aside0 (Kd.R Kd.bool 4 wc w.heap.size (fun k_ => some k_ ≠ ((.slice Ao23 x7_2.length co23) : Value).ownBlock) v590 t589) ∧ Aside0 (Kd.S (Kd.slice 3 (Kd.int .i64)) 32 wc w.heap.size (fun _ => True) v593 t592) ∧ Aside0 (wc.heap[gb583]? = some (.cells #[(.slice A0_0 l0_0.length c0_0)] 38 (0, 0))) ∧ Aside0 (wc.heap[gb584]? = some (.cells #[.int .i64 a1_0, .int .i64 a1_1, .int .i64 a1_2, .int .i64 a1_3, .int .i64 a1_4] 42 (0, 0))) ∧ Aside0 (wc.heap[gb585]? = some (.cells #[(.slice A2_0 l2_0.length c2_0), (.slice A2_1 l2_1.length c2_1)] 44 (0, 0))) ∧ Aside0 (Below w.heap.size w wc))
       case first =>
        have H := HC22.out
        clear HC22
        by_cases c24 : 0 ≤ x11_2
        ·rw [if_pos c24] at H
         have c24b0 : decide (0 ≤ x11_2) = true := decide_eq_true c24
         clear c24
         (first | rw [c24b0] | (simp only [i64_w, i32_w]; rw [c24b0]) | skip)
         obtain ⟨bq25, hbq25⟩ : ∃ b_ : Bool, b_ = (rdOf false x7_2 x11_2) := ⟨_, rfl⟩
         replace H : (if bq25 = true then (if x11_2 < (l2_0.length : Int) then (spec_l13Held.j2 k2 x7_2 t589 t592 x10_2 x11_2 (rdOf false l2_0 x11_2) l2_0 l2_1) else (none)) else (spec_l13Held.j2 k2 x7_2 t589 t592 x10_2 x11_2 true l2_0 l2_1)) = some r := by rw [← hbq25] at H; exact H
         have Nbq25 := Aside0.mk hbq25
         clear hbq25
         by_cases c26 : bq25 = true
         ·subst c26
          rw [if_pos rfl] at H
          by_cases c27 : x11_2 < (l2_0.length : Int)
          ·rw [if_pos c27] at H
           have c27b0 : decide (x11_2 < (l2_0.length : Int)) = true := decide_eq_true c27
           clear c27
           have H' := Aside0.mk H
           clear H
           have p595 : 0 ≤ (x11_2 : Int) := oda
           have q595 : x11_2 < (x7_2.length : Int) := oda
           obtain ⟨ad595, e595, hx595_0⟩ := Kd.at_bool (Kd.R_reads' HO_7.out).2.2 x11_2 p595 q595
           (try rw [← Nbq25.out] at hx595_0)
           cases e595
           replace p595 := eq_true p595
           replace q595 := eq_true q595
           have hnb28 := NB585_583.out
           have hnc28 := NB583_585.out
           have hnb29 := NB585_584.out
           have hnc29 := NB584_585.out
           obtain ⟨hcz30, hfz30⟩ := bcf BK585
           have p596 : 0 ≤ (x11_2 : Int) := oda
           have q596 : x11_2 < (l2_0.length : Int) := oda
           obtain ⟨ad596, e596, hx596_0⟩ := Kd.at_bool HR2_0.out x11_2 p596 q596
           (try rw [← Nbq25.out] at hx596_0)
           cases e596
           replace hx596_0 := hxb HB hx596_0
           replace p596 := eq_true p596
           replace q596 := eq_true q596
           go_wp2
           go_meet
           case rel => exact ⟨_, (rdOf false l2_0 x11_2), (by first | rfl | (simp; done) | (simp [*]; done)), H', ⟨by have := HK1.out; have := HK2.out; first | omega | exact Nat.le_refl _⟩, ⟨Rq HO_7.out⟩, ⟨Rq HO_8.out⟩, ⟨Sq HO_9.out⟩, ⟨bkq BK583⟩, ⟨bkq BK584⟩, ⟨bkq BK585⟩, ⟨bwq HB⟩⟩
          ·rw [if_neg c27] at H
           exact absurd H (by simp)
         ·replace c26 := Bool.eq_false_iff.mpr c26
          subst c26
          have H1 : (spec_l13Held.j2 k2 x7_2 t589 t592 x10_2 x11_2 true l2_0 l2_1) = some r := by rw [if_neg (show ¬ (false = true) by decide)] at H; exact H
          clear H
          have H := H1
          clear H1
          have H' := Aside0.mk H
          clear H
          have p595 : 0 ≤ (x11_2 : Int) := oda
          have q595 : x11_2 < (x7_2.length : Int) := oda
          obtain ⟨ad595, e595, hx595_0⟩ := Kd.at_bool (Kd.R_reads' HO_7.out).2.2 x11_2 p595 q595
          (try rw [← Nbq25.out] at hx595_0)
          cases e595
          replace p595 := eq_true p595
          replace q595 := eq_true q595
          go_wp2
          go_meet
          case rel => exact ⟨_, (true), (by first | rfl | (simp; done) | (simp [*]; done)), H', ⟨by have := HK1.out; have := HK2.out; first | omega | exact Nat.le_refl _⟩, ⟨Rq HO_7.out⟩, ⟨Rq HO_8.out⟩, ⟨Sq HO_9.out⟩, ⟨bkq BK583⟩, ⟨bkq BK584⟩, ⟨bkq BK585⟩, ⟨bwq HB⟩⟩
        ·rw [if_neg c24] at H
         exact absurd H (by simp)
       case rest =>
        clear HC22
        try clear c1
        try clear c2
        try clear p2
        try clear q2
        try clear c5
        try clear p5
        try clear q5
        try clear hx5
        try clear c7
        try clear c9
        try clear c10
        try clear c11
        try clear c15
        try clear c20
        try clear c21
        try clear c21b0
        try clear c24
        try clear c24b0
        try clear q25
        try clear c26
        try clear c27
        try clear c27b0
        try clear c28
        try clear c29
        try clear hcz12
        try clear hcz14
        try clear hcz16
        try clear hcz18
        try clear hcz30
        try clear hfz12
        try clear hfz14
        try clear hfz16
        try clear hfz18
        try clear hfz30
        try clear hx595_0
        try clear hx596_0
        try clear p2
        try clear p595
        try clear p596
        try clear q595
        try clear q596
        obtain ⟨kq, x39_21, rfl, HA, HJ21, HO_7, HO_8, HO_9, BK583, BK584, BK585, HB⟩ := hcut
        cases kq with
        | zero => exact absurd HA.out (by intro h_; first | (cases h_; done) | (simp [spec_l13Held.j2] at h_))
        | succ kj21 =>
         have H := HA.out
         clear HA
         simp only [spec_l13Held.j2] at H
         by_cases c31 : x39_21 = true
         ·subst c31
          rw [if_pos rfl] at H
          have H' := Aside0.mk H
          clear H
          go_wp2
          go_roundg kj21
          case measure => have := HK1.out; have := HK2.out; have := HJ21.out; omega
          case rel => exact ⟨(x7_2), (x10_2), (wrap64 (x11_2 + 1)), (by first | rfl | (simp; done) | (simp [*]; done)), (by first | rfl | (simp; done) | (simp [*]; done)), H', ⟨by have := HK1.out; have := HK2.out; have := HJ21.out; omega⟩, ⟨Rq HO_7.out⟩, ⟨Rq HO_8.out⟩, ⟨Sq HO_9.out⟩, ⟨bkq BK583⟩, ⟨bkq BK584⟩, ⟨bkq BK585⟩, ⟨bwq HB⟩⟩
         ·replace c31 := Bool.eq_false_iff.mpr c31
          subst c31
          have H1 : (spec_l13Held.l2 kj21 x7_2 t589 t592 x10_2 x11_2 (decide (x11_2 > 0)) 0 l2_0 l2_1) = some r := by rw [if_neg (show ¬ (false = true) by decide)] at H; exact H
          clear H
          have H := H1
          clear H1
          have H' := Aside0.mk H
          clear H
          go_wp2
          go_loopg [12, 13] kj21 (fun kq v12 v13 w' => ∃ (x12_4 : Bool) (x13_4 : Int), v12 = .bool x12_4 ∧ v13 = .int .i64 x13_4 ∧ Aside0 (spec_l13Held.l2 kq x7_2 t589 t592 x10_2 x11_2 x12_4 x13_4 l2_0 l2_1 = some r) ∧ Aside0 (kq ≤ kj21) ∧ Aside0 (Kd.R Kd.bool 4 w' w.heap.size (fun k_ => some k_ ≠ (v590 : Value).ownBlock) (.slice Ao23 x7_2.length co23) x7_2) ∧ Aside0 (Kd.R Kd.bool 4 w' w.heap.size (fun k_ => some k_ ≠ ((.slice Ao23 x7_2.length co23) : Value).ownBlock) v590 t589) ∧ Aside0 (Kd.S (Kd.slice 3 (Kd.int .i64)) 32 w' w.heap.size (fun _ => True) v593 t592) ∧ Aside0 (w'.heap[gb583]? = some (.cells #[(.slice A0_0 l0_0.length c0_0)] 38 (0, 0))) ∧ Aside0 (w'.heap[gb584]? = some (.cells #[.int .i64 a1_0, .int .i64 a1_1, .int .i64 a1_2, .int .i64 a1_3, .int .i64 a1_4] 42 (0, 0))) ∧ Aside0 (w'.heap[gb585]? = some (.cells #[(.slice A2_0 l2_0.length c2_0), (.slice A2_1 l2_1.length c2_1)] 44 (0, 0))) ∧ Aside0 (Below w.heap.size w w'))
          case atStart => exact ⟨(decide (x11_2 > 0)), (0), (by first | rfl | (simp; done) | (simp [*]; done)), (by first | rfl | (simp; done) | (simp [*]; done)), H', ⟨Nat.le_refl _⟩, ⟨Rq HO_7.out⟩, ⟨Rq HO_8.out⟩, ⟨Sq HO_9.out⟩, ⟨bkq BK583⟩, ⟨bkq BK584⟩, ⟨bkq BK585⟩, ⟨bwq HB⟩⟩
          case round =>
           clear H'
           try clear c1
           try clear c2
           try clear p2
           try clear q2
           try clear c3
           try clear c5
           try clear p5
           try clear q5
           try clear hx5
           try clear p6
           try clear c7
           try clear c9
           try clear c10
           try clear c11
           try clear c15
           try clear c20
           try clear c21
           try clear c21b0
           try clear c24
           try clear c24b0
           try clear q25
           try clear c26
           try clear c27
           try clear c27b0
           try clear c28
           try clear c29
           try clear c31
           try clear hcz12
           try clear hcz14
           try clear hcz16
           try clear hcz18
           try clear hcz30
           try clear hfz12
           try clear hfz14
           try clear hfz16
           try clear hfz18
           try clear hfz30
           try clear hx595_0
           try clear hx596_0
           try clear p2
           try clear p5
           try clear p595
           try clear p596
           try clear q2
           try clear q25
           try clear q5
           try clear q595
           try clear q596
           obtain ⟨x12_4, x13_4, rfl, rfl, HA, HK4, HO_7, HO_8, HO_9, BK583, BK584, BK585, HB⟩ := hrel
           cases gk with
           | zero => exact absurd HA.out (by intro h_; first | (cases h_; done) | (simp [spec_l13Held.l2] at h_))
           | succ k4 =>
            have H := HA.out
            clear HA
            simp only [spec_l13Held.l2] at H
            by_cases c32 : 0 ≤ x11_2
            ·rw [if_pos c32] at H
             have c32b0 : decide (0 ≤ x11_2) = true := decide_eq_true c32
             clear c32
             by_cases c33 : x11_2 < (t592.length : Int)
             ·rw [if_pos c33] at H
              have c33b0 : decide (x11_2 < (t592.length : Int)) = true := decide_eq_true c33
              clear c33
              by_cases c34 : x13_4 < ((rd_L2 t592 x11_2).length : Int)
              ·rw [if_pos c34] at H
               have c34b0 : decide (x13_4 < ((rd_L2 t592 x11_2).length : Int)) = true := decide_eq_true c34
               clear c34
               by_cases c35 : x12_4 = true
               ·subst c35
                rw [if_pos rfl] at H
                by_cases c36 : 0 ≤ x13_4
                ·rw [if_pos c36] at H
                 have c36b0 : decide (0 ≤ x13_4) = true := decide_eq_true c36
                 clear c36
                 by_cases c37 : 0 ≤ (rd (rd_L2 t592 x11_2) x13_4)
                 ·rw [if_pos c37] at H
                  have c37b0 : decide (0 ≤ (rd (rd_L2 t592 x11_2) x13_4)) = true := decide_eq_true c37
                  clear c37
                  by_cases c38 : (rd (rd_L2 t592 x11_2) x13_4) < (t589.length : Int)
                  ·rw [if_pos c38] at H
                   have c38b0 : decide ((rd (rd_L2 t592 x11_2) x13_4) < (t589.length : Int)) = true := decide_eq_true c38
                   clear c38
                   obtain ⟨bq39, hbq39⟩ : ∃ b_ : Bool, b_ = (rdOf false t589 (rd (rd_L2 t592 x11_2) x13_4)) := ⟨_, rfl⟩
                   replace H : (if bq39 = true then (if (rd (rd_L2 t592 x11_2) x13_4) < (x7_2.length : Int) then (spec_l13Held.l2 k4 x7_2 t589 t592 x10_2 x11_2 (rdOf false x7_2 (rd (rd_L2 t592 x11_2) x13_4)) (wrap64 (x13_4 + 1)) l2_0 l2_1) else (none)) else (spec_l13Held.l2 k4 x7_2 t589 t592 x10_2 x11_2 false (wrap64 (x13_4 + 1)) l2_0 l2_1)) = some r := by rw [← hbq39] at H; exact H
                   have Nbq39 := Aside0.mk hbq39
                   clear hbq39
                   by_cases c40 : bq39 = true
                   ·subst c40
                    rw [if_pos rfl] at H
                    by_cases c41 : (rd (rd_L2 t592 x11_2) x13_4) < (x7_2.length : Int)
                    ·rw [if_pos c41] at H
                     have c41b0 : decide ((rd (rd_L2 t592 x11_2) x13_4) < (x7_2.length : Int)) = true := decide_eq_true c41
                     clear c41
                     have H' := Aside0.mk H
                     clear H
                     obtain ⟨Ao42, co42, eo42⟩ := Kd.S_slice HO_9.out
                     subst eo42
                     have p597 : 0 ≤ (x11_2 : Int) := oda
                     have q597 : x11_2 < (t592.length : Int) := oda
                     obtain ⟨ad597, A597_0, c597_0, e597, hx597_0, hl597_0, hi597_0⟩ := at_L2 (Kd.S_reads' HO_9.out).2.2 x11_2 p597 q597
                     cases e597
                     obtain ⟨ce597, hce597, hMe597, hcc597⟩ := Kd.S_get HO_9.out [] x11_2 p597 (by first | exact q597 | exact oda | (have e_ := (Kd.S_reads' HO_9.out).1; omega))
                     obtain ⟨ve597_0, rfl, ge597_0⟩ := hMe597
                     have hv597_0 := hcc597 0 _ rfl
                     rw [Nat.add_zero, show ((Kd.slice 3 (Kd.int .i64))).sz = 1 from rfl, Nat.mul_one] at hv597_0
                     replace hv597_0 := Option.some.inj (hv597_0.symm.trans hx597_0)
                     rw [hv597_0] at ge597_0
                     have HL597_0 := Aside0.mk (show Kd.R (Kd.int .i64) 3 _ _ _ _ (rd_L2 t592 x11_2) from ge597_0)
                     clear hv597_0 ge597_0
                     clear hcc597 hce597
                     have HR597_0 := Aside0.mk hi597_0
                     have HC597_0 := Aside0.mk hl597_0
                     clear hi597_0 hl597_0
                     replace p597 := eq_true p597
                     replace q597 := eq_true q597
                     have p598 : 0 ≤ (x11_2 : Int) := oda
                     have q598 : x11_2 < (t592.length : Int) := oda
                     obtain ⟨ad598, A598_0, c598_0, e598, hx598_0, hl598_0, hi598_0⟩ := at_L2 (Kd.S_reads' HO_9.out).2.2 x11_2 p598 q598
                     obtain rfl : ad597 = ad598 := (by injection e598)
                     obtain ⟨ce598, hce598, hMe598, hcc598⟩ := Kd.S_get HO_9.out [] x11_2 p598 (by first | exact q598 | exact oda | (have e_ := (Kd.S_reads' HO_9.out).1; omega))
                     obtain ⟨ve598_0, rfl, ge598_0⟩ := hMe598
                     have hv598_0 := hcc598 0 _ rfl
                     rw [Nat.add_zero, show ((Kd.slice 3 (Kd.int .i64))).sz = 1 from rfl, Nat.mul_one] at hv598_0
                     replace hv598_0 := Option.some.inj (hv598_0.symm.trans hx598_0)
                     rw [hv598_0] at ge598_0
                     have HL598_0 := Aside0.mk (show Kd.R (Kd.int .i64) 3 _ _ _ _ (rd_L2 t592 x11_2) from ge598_0)
                     clear hv598_0 ge598_0
                     clear hcc598 hce598
                     have HR598_0 := Aside0.mk hi598_0
                     have HC598_0 := Aside0.mk hl598_0
                     clear hi598_0 hl598_0
                     replace p598 := eq_true p598
                     replace q598 := eq_true q598
                     have ea_ := Option.some.inj (hx597_0.symm.trans hx598_0)
                     injection ea_ with ea_ en_ ec_
                     subst ea_
                     subst ec_
                     clear en_
                     have p599 : 0 ≤ (x13_4 : Int) := oda
                     have q599 : x13_4 < ((rd_L2 t592 x11_2).length : Int) := oda
                     obtain ⟨ad599, e599, hx599_0⟩ := Kd.at_int (by repeat (first | (with_reducible exact HR598_0.out) | (with_reducible refine Kd.C_alloc ?_ _) | (with_reducible refine Kd.C_drewN ?_ _) | (with_reducible refine Kd.C_drew ?_) | exact HR598_0.out)) x13_4 p599 q599
                     cases e599
                     replace p599 := eq_true p599
                     replace q599 := eq_true q599
                     obtain ⟨Ao43, co43, eo43⟩ := Kd.R_slice HO_8.out
                     subst eo43
                     have p600 : 0 ≤ ((rd (rd_L2 t592 x11_2) x13_4) : Int) := oda
                     have q600 : (rd (rd_L2 t592 x11_2) x13_4) < (t589.length : Int) := oda
                     obtain ⟨ad600, e600, hx600_0⟩ := Kd.at_bool (Kd.R_reads' HO_8.out).2.2 (rd (rd_L2 t592 x11_2) x13_4) p600 q600
                     (try rw [← Nbq39.out] at hx600_0)
                     cases e600
                     replace p600 := eq_true p600
                     replace q600 := eq_true q600
                     have p601 : 0 ≤ (x11_2 : Int) := oda
                     have q601 : x11_2 < (t592.length : Int) := oda
                     obtain ⟨ad601, A601_0, c601_0, e601, hx601_0, hl601_0, hi601_0⟩ := at_L2 (Kd.S_reads' HO_9.out).2.2 x11_2 p601 q601
                     obtain rfl : ad597 = ad601 := (by injection e601)
                     obtain ⟨ce601, hce601, hMe601, hcc601⟩ := Kd.S_get HO_9.out [] x11_2 p601 (by first | exact q601 | exact oda | (have e_ := (Kd.S_reads' HO_9.out).1; omega))
                     obtain ⟨ve601_0, rfl, ge601_0⟩ := hMe601
                     have hv601_0 := hcc601 0 _ rfl
                     rw [Nat.add_zero, show ((Kd.slice 3 (Kd.int .i64))).sz = 1 from rfl, Nat.mul_one] at hv601_0
                     replace hv601_0 := Option.some.inj (hv601_0.symm.trans hx601_0)
                     rw [hv601_0] at ge601_0
                     have HL601_0 := Aside0.mk (show Kd.R (Kd.int .i64) 3 _ _ _ _ (rd_L2 t592 x11_2) from ge601_0)
                     clear hv601_0 ge601_0
                     clear hcc601 hce601
                     have HR601_0 := Aside0.mk hi601_0
                     have HC601_0 := Aside0.mk hl601_0
                     clear hi601_0 hl601_0
                     replace p601 := eq_true p601
                     replace q601 := eq_true q601
                     have ea_ := Option.some.inj (hx597_0.symm.trans hx601_0)
                     injection ea_ with ea_ en_ ec_
                     subst ea_
                     subst ec_
                     clear en_
                     have p602 : 0 ≤ (x13_4 : Int) := oda
                     have q602 : x13_4 < ((rd_L2 t592 x11_2).length : Int) := oda
                     obtain ⟨ad602, e602, hx602_0⟩ := Kd.at_int (by repeat (first | (with_reducible exact HR601_0.out) | (with_reducible refine Kd.C_alloc ?_ _) | (with_reducible refine Kd.C_drewN ?_ _) | (with_reducible refine Kd.C_drew ?_) | exact HR601_0.out)) x13_4 p602 q602
                     cases e602
                     replace p602 := eq_true p602
                     replace q602 := eq_true q602
                     have p603 : 0 ≤ ((rd (rd_L2 t592 x11_2) x13_4) : Int) := oda
                     have q603 : (rd (rd_L2 t592 x11_2) x13_4) < (x7_2.length : Int) := oda
                     obtain ⟨ad603, e603, hx603_0⟩ := Kd.at_bool (Kd.R_reads' HO_7.out).2.2 (rd (rd_L2 t592 x11_2) x13_4) p603 q603
                     (try rw [← Nbq39.out] at hx603_0)
                     cases e603
                     replace p603 := eq_true p603
                     replace q603 := eq_true q603
                     go_wp2
                     go_roundg k4
                     case measure => have := HK1.out; have := HK2.out; have := HJ21.out; have := HK4.out; omega
                     case rel => exact ⟨(rdOf false x7_2 (rd (rd_L2 t592 x11_2) x13_4)), (wrap64 (x13_4 + 1)), (by first | rfl | (simp; done) | (simp [*]; done)), (by first | rfl | (simp; done) | (simp [*]; done)), H', ⟨by have := HK1.out; have := HK2.out; have := HJ21.out; have := HK4.out; omega⟩, ⟨Rq HO_7.out⟩, ⟨Rq HO_8.out⟩, ⟨Sq HO_9.out⟩, ⟨bkq BK583⟩, ⟨bkq BK584⟩, ⟨bkq BK585⟩, ⟨bwq HB⟩⟩
                    ·rw [if_neg c41] at H
                     exact absurd H (by simp)
                   ·replace c40 := Bool.eq_false_iff.mpr c40
                    subst c40
                    have H1 : (spec_l13Held.l2 k4 x7_2 t589 t592 x10_2 x11_2 false (wrap64 (x13_4 + 1)) l2_0 l2_1) = some r := by rw [if_neg (show ¬ (false = true) by decide)] at H; exact H
                    clear H
                    have H := H1
                    clear H1
                    have H' := Aside0.mk H
                    clear H
                    obtain ⟨Ao44, co44, eo44⟩ := Kd.S_slice HO_9.out
                    subst eo44
                    have p597 : 0 ≤ (x11_2 : Int) := oda
                    have q597 : x11_2 < (t592.length : Int) := oda
                    obtain ⟨ad597, A597_0, c597_0, e597, hx597_0, hl597_0, hi597_0⟩ := at_L2 (Kd.S_reads' HO_9.out).2.2 x11_2 p597 q597
                    cases e597
                    obtain ⟨ce597, hce597, hMe597, hcc597⟩ := Kd.S_get HO_9.out [] x11_2 p597 (by first | exact q597 | exact oda | (have e_ := (Kd.S_reads' HO_9.out).1; omega))
                    obtain ⟨ve597_0, rfl, ge597_0⟩ := hMe597
                    have hv597_0 := hcc597 0 _ rfl
                    rw [Nat.add_zero, show ((Kd.slice 3 (Kd.int .i64))).sz = 1 from rfl, Nat.mul_one] at hv597_0
                    replace hv597_0 := Option.some.inj (hv597_0.symm.trans hx597_0)
                    rw [hv597_0] at ge597_0
                    have HL597_0 := Aside0.mk (show Kd.R (Kd.int .i64) 3 _ _ _ _ (rd_L2 t592 x11_2) from ge597_0)
                    clear hv597_0 ge597_0
                    clear hcc597 hce597
                    have HR597_0 := Aside0.mk hi597_0
                    have HC597_0 := Aside0.mk hl597_0
                    clear hi597_0 hl597_0
                    replace p597 := eq_true p597
                    replace q597 := eq_true q597
                    have p598 : 0 ≤ (x11_2 : Int) := oda
                    have q598 : x11_2 < (t592.length : Int) := oda
                    obtain ⟨ad598, A598_0, c598_0, e598, hx598_0, hl598_0, hi598_0⟩ := at_L2 (Kd.S_reads' HO_9.out).2.2 x11_2 p598 q598
                    obtain rfl : ad597 = ad598 := (by injection e598)
                    obtain ⟨ce598, hce598, hMe598, hcc598⟩ := Kd.S_get HO_9.out [] x11_2 p598 (by first | exact q598 | exact oda | (have e_ := (Kd.S_reads' HO_9.out).1; omega))
                    obtain ⟨ve598_0, rfl, ge598_0⟩ := hMe598
                    have hv598_0 := hcc598 0 _ rfl
                    rw [Nat.add_zero, show ((Kd.slice 3 (Kd.int .i64))).sz = 1 from rfl, Nat.mul_one] at hv598_0
                    replace hv598_0 := Option.some.inj (hv598_0.symm.trans hx598_0)
                    rw [hv598_0] at ge598_0
                    have HL598_0 := Aside0.mk (show Kd.R (Kd.int .i64) 3 _ _ _ _ (rd_L2 t592 x11_2) from ge598_0)
                    clear hv598_0 ge598_0
                    clear hcc598 hce598
                    have HR598_0 := Aside0.mk hi598_0
                    have HC598_0 := Aside0.mk hl598_0
                    clear hi598_0 hl598_0
                    replace p598 := eq_true p598
                    replace q598 := eq_true q598
                    have ea_ := Option.some.inj (hx597_0.symm.trans hx598_0)
                    injection ea_ with ea_ en_ ec_
                    subst ea_
                    subst ec_
                    clear en_
                    have p599 : 0 ≤ (x13_4 : Int) := oda
                    have q599 : x13_4 < ((rd_L2 t592 x11_2).length : Int) := oda
                    obtain ⟨ad599, e599, hx599_0⟩ := Kd.at_int (by repeat (first | (with_reducible exact HR598_0.out) | (with_reducible refine Kd.C_alloc ?_ _) | (with_reducible refine Kd.C_drewN ?_ _) | (with_reducible refine Kd.C_drew ?_) | exact HR598_0.out)) x13_4 p599 q599
                    cases e599
                    replace p599 := eq_true p599
                    replace q599 := eq_true q599
                    obtain ⟨Ao45, co45, eo45⟩ := Kd.R_slice HO_8.out
                    subst eo45
                    have p600 : 0 ≤ ((rd (rd_L2 t592 x11_2) x13_4) : Int) := oda
                    have q600 : (rd (rd_L2 t592 x11_2) x13_4) < (t589.length : Int) := oda
                    obtain ⟨ad600, e600, hx600_0⟩ := Kd.at_bool (Kd.R_reads' HO_8.out).2.2 (rd (rd_L2 t592 x11_2) x13_4) p600 q600
                    (try rw [← Nbq39.out] at hx600_0)
                    cases e600
                    replace p600 := eq_true p600
                    replace q600 := eq_true q600
                    go_wp2
                    go_roundg k4
                    case measure => have := HK1.out; have := HK2.out; have := HJ21.out; have := HK4.out; omega
                    case rel => exact ⟨(false), (wrap64 (x13_4 + 1)), (by first | rfl | (simp; done) | (simp [*]; done)), (by first | rfl | (simp; done) | (simp [*]; done)), H', ⟨by have := HK1.out; have := HK2.out; have := HJ21.out; have := HK4.out; omega⟩, ⟨Rq HO_7.out⟩, ⟨Rq HO_8.out⟩, ⟨Sq HO_9.out⟩, ⟨bkq BK583⟩, ⟨bkq BK584⟩, ⟨bkq BK585⟩, ⟨bwq HB⟩⟩
                  ·rw [if_neg c38] at H
                   exact absurd H (by simp)
                 ·rw [if_neg c37] at H
                  exact absurd H (by simp)
                ·rw [if_neg c36] at H
                 exact absurd H (by simp)
               ·replace c35 := Bool.eq_false_iff.mpr c35
                subst c35
                have H1 : (spec_l13Held.l2 k4 x7_2 t589 t592 x10_2 x11_2 false (wrap64 (x13_4 + 1)) l2_0 l2_1) = some r := by rw [if_neg (show ¬ (false = true) by decide)] at H; exact H
                clear H
                have H := H1
                clear H1
                have H' := Aside0.mk H
                clear H
                obtain ⟨Ao46, co46, eo46⟩ := Kd.S_slice HO_9.out
                subst eo46
                have p597 : 0 ≤ (x11_2 : Int) := oda
                have q597 : x11_2 < (t592.length : Int) := oda
                obtain ⟨ad597, A597_0, c597_0, e597, hx597_0, hl597_0, hi597_0⟩ := at_L2 (Kd.S_reads' HO_9.out).2.2 x11_2 p597 q597
                cases e597
                obtain ⟨ce597, hce597, hMe597, hcc597⟩ := Kd.S_get HO_9.out [] x11_2 p597 (by first | exact q597 | exact oda | (have e_ := (Kd.S_reads' HO_9.out).1; omega))
                obtain ⟨ve597_0, rfl, ge597_0⟩ := hMe597
                have hv597_0 := hcc597 0 _ rfl
                rw [Nat.add_zero, show ((Kd.slice 3 (Kd.int .i64))).sz = 1 from rfl, Nat.mul_one] at hv597_0
                replace hv597_0 := Option.some.inj (hv597_0.symm.trans hx597_0)
                rw [hv597_0] at ge597_0
                have HL597_0 := Aside0.mk (show Kd.R (Kd.int .i64) 3 _ _ _ _ (rd_L2 t592 x11_2) from ge597_0)
                clear hv597_0 ge597_0
                clear hcc597 hce597
                have HR597_0 := Aside0.mk hi597_0
                have HC597_0 := Aside0.mk hl597_0
                clear hi597_0 hl597_0
                replace p597 := eq_true p597
                replace q597 := eq_true q597
                go_wp2
                go_roundg k4
                case measure => have := HK1.out; have := HK2.out; have := HJ21.out; have := HK4.out; omega
                case rel => exact ⟨(false), (wrap64 (x13_4 + 1)), (by first | rfl | (simp; done) | (simp [*]; done)), (by first | rfl | (simp; done) | (simp [*]; done)), H', ⟨by have := HK1.out; have := HK2.out; have := HJ21.out; have := HK4.out; omega⟩, ⟨Rq HO_7.out⟩, ⟨Rq HO_8.out⟩, ⟨Sq HO_9.out⟩, ⟨bkq BK583⟩, ⟨bkq BK584⟩, ⟨bkq BK585⟩, ⟨bwq HB⟩⟩
              ·rw [if_neg c34] at H
               have c34b0 : decide (x13_4 < ((rd_L2 t592 x11_2).length : Int)) = false := decide_eq_false c34
               clear c34
               by_cases c47 : x12_4 = true
               ·subst c47
                rw [if_pos rfl] at H
                have H' := Aside0.mk H
                clear H
                obtain ⟨Ao48, co48, eo48⟩ := Kd.S_slice HO_9.out
                subst eo48
                have p597 : 0 ≤ (x11_2 : Int) := oda
                have q597 : x11_2 < (t592.length : Int) := oda
                obtain ⟨ad597, A597_0, c597_0, e597, hx597_0, hl597_0, hi597_0⟩ := at_L2 (Kd.S_reads' HO_9.out).2.2 x11_2 p597 q597
                cases e597
                obtain ⟨ce597, hce597, hMe597, hcc597⟩ := Kd.S_get HO_9.out [] x11_2 p597 (by first | exact q597 | exact oda | (have e_ := (Kd.S_reads' HO_9.out).1; omega))
                obtain ⟨ve597_0, rfl, ge597_0⟩ := hMe597
                have hv597_0 := hcc597 0 _ rfl
                rw [Nat.add_zero, show ((Kd.slice 3 (Kd.int .i64))).sz = 1 from rfl, Nat.mul_one] at hv597_0
                replace hv597_0 := Option.some.inj (hv597_0.symm.trans hx597_0)
                rw [hv597_0] at ge597_0
                have HL597_0 := Aside0.mk (show Kd.R (Kd.int .i64) 3 _ _ _ _ (rd_L2 t592 x11_2) from ge597_0)
                clear hv597_0 ge597_0
                clear hcc597 hce597
                have HR597_0 := Aside0.mk hi597_0
                have HC597_0 := Aside0.mk hl597_0
                clear hi597_0 hl597_0
                replace p597 := eq_true p597
                replace q597 := eq_true q597
                go_wp2
                go_roundg k4
                case measure => have := HK1.out; have := HK2.out; have := HJ21.out; have := HK4.out; omega
                case rel => exact ⟨(x7_2), (x10_2), (wrap64 (x11_2 + 1)), (by first | rfl | (simp; done) | (simp [*]; done)), (by first | rfl | (simp; done) | (simp [*]; done)), H', ⟨by have := HK1.out; have := HK2.out; have := HJ21.out; have := HK4.out; omega⟩, ⟨Rq HO_7.out⟩, ⟨Rq HO_8.out⟩, ⟨Sq HO_9.out⟩, ⟨bkq BK583⟩, ⟨bkq BK584⟩, ⟨bkq BK585⟩, ⟨bwq HB⟩⟩
               ·replace c47 := Bool.eq_false_iff.mpr c47
                subst c47
                have H1 : (if x11_2 < (x7_2.length : Int) then (spec_l13Held.l1 k4 (x7_2.set (x11_2 : Int).toNat false) t589 t592 true (wrap64 (x11_2 + 1)) l2_0 l2_1) else (none)) = some r := by rw [if_neg (show ¬ (false = true) by decide)] at H; exact H
                clear H
                have H := H1
                clear H1
                by_cases c49 : x11_2 < (x7_2.length : Int)
                ·rw [if_pos c49] at H
                 have c49b0 : decide (x11_2 < (x7_2.length : Int)) = true := decide_eq_true c49
                 clear c49
                 obtain ⟨y604, hy604⟩ : ∃ y_ : List Bool, y_ = (x7_2.set (x11_2 : Int).toNat false) := ⟨_, rfl⟩
                 replace H : (spec_l13Held.l1 k4 y604 t589 t592 true (wrap64 (x11_2 + 1)) l2_0 l2_1) = some r := by first | (rw [hy604]; with_reducible exact H) | (have H2_ := (Option.bind_some _ _).symm.trans H; rw [hy604]; with_reducible exact H2_) | (have H2_ := (Option.bind_some _ _).symm.trans H; with_reducible exact H2_) | with_reducible exact H | (rw [hy604]; exact H) | exact H
                 have Ny604 := Aside0.mk hy604
                 clear hy604
                 have H' := Aside0.mk H
                 clear H
                 obtain ⟨Ao51, co51, eo51⟩ := Kd.S_slice HO_9.out
                 subst eo51
                 have p597 : 0 ≤ (x11_2 : Int) := oda
                 have q597 : x11_2 < (t592.length : Int) := oda
                 obtain ⟨ad597, A597_0, c597_0, e597, hx597_0, hl597_0, hi597_0⟩ := at_L2 (Kd.S_reads' HO_9.out).2.2 x11_2 p597 q597
                 cases e597
                 obtain ⟨ce597, hce597, hMe597, hcc597⟩ := Kd.S_get HO_9.out [] x11_2 p597 (by first | exact q597 | exact oda | (have e_ := (Kd.S_reads' HO_9.out).1; omega))
                 obtain ⟨ve597_0, rfl, ge597_0⟩ := hMe597
                 have hv597_0 := hcc597 0 _ rfl
                 rw [Nat.add_zero, show ((Kd.slice 3 (Kd.int .i64))).sz = 1 from rfl, Nat.mul_one] at hv597_0
                 replace hv597_0 := Option.some.inj (hv597_0.symm.trans hx597_0)
                 rw [hv597_0] at ge597_0
                 have HL597_0 := Aside0.mk (show Kd.R (Kd.int .i64) 3 _ _ _ _ (rd_L2 t592 x11_2) from ge597_0)
                 clear hv597_0 ge597_0
                 clear hcc597 hce597
                 have HR597_0 := Aside0.mk hi597_0
                 have HC597_0 := Aside0.mk hl597_0
                 clear hi597_0 hl597_0
                 replace p597 := eq_true p597
                 replace q597 := eq_true q597
                 have p50 : 0 ≤ (x11_2 : Int) := oda
                 have q50 : (x11_2 : Int) < ((x7_2.length : Int) : Int) := oda
                 obtain ⟨go50, co50, eo50, gb50, gl50, cl50, HG50⟩ := Kd.R_form HO_7.out (by omega)
                 (first | cases eo50 | (injection eo50 with ea_ en_ ec_; (first | subst ea_ | (injection ea_ with ea_; subst ea_)); subst ec_; clear en_))
                 have GB50 := Aside0.mk gb50
                 have GG50 := Aside0.mk HG50
                 clear gb50 gl50 HG50
                 obtain ⟨hx50_0, hf50_0⟩ := Kd.R_celln false HO_7.out (x11_2 : Int) p50 q50
                 replace p50 := eq_true p50
                 replace q50 := eq_true q50
                 have HP52 := Kd.R_putg HO_7.out (x11_2 : Int) false
                 go_wp2_with (first | ((with_reducible refine gate_store (t := 4) (p := 80) rfl ?_); refine store_event (t := 4) (p := 80) (v := ?vo_w53) (w1 := (wr.setCell ⟨go50, (x11_2 : Int).toNat, none⟩ (.bool false))) ?hg ?ho ?hn ?hr ?_; (case ho => rfl); (case hg => rfl); (case hn => rfl); (case hr => first | (go_simp; done) | (go_simp; rfl) | (go_simp; rfl)); intro w53 hw; have hg : wr.grownBy w53 (some go50) := (by rw [hw]; exact HP52.2); have hp_ : Kd.R Kd.bool 4 w53 w.heap.size (fun k_ => some k_ ≠ (v590 : Value).ownBlock) (.slice (some ⟨go50, 0, none⟩) x7_2.length co23) y604 := (by rw [hw, Ny604.out]; exact HP52.1); clear HP52; replace HO_8 := Aside0.mk (Kd.R_after (v := (.slice (some ⟨go50, 0, none⟩) x7_2.length co23)) (v1 := (.slice (some ⟨go50, 0, none⟩) x7_2.length co23)) (ok := (fun _ => True)) (by (with_reducible repeat (first | apply Kd.R_alloc | apply Kd.R_drewN | apply Kd.R_drew)); exact Kd.R_mono HO_8.out (fun _ hk => ⟨trivial, hk⟩)) hg (.inl rfl)); replace HO_9 := Aside0.mk (Kd.S_over' (v := (.slice (some ⟨go50, 0, none⟩) x7_2.length co23)) (Sq HO_9.out) (Kd.R_typed HO_7.out) (by decide) hg); replace BK583 := Aside0.mk (blk_grown (g := gb583) (o := .cells #[.slice A0_0 l0_0.length c0_0] 38 (0, 0)) (bkq BK583) hg (Kd.R_ne HO_7.out BK583.out (by decide))); replace BK584 := Aside0.mk (blk_grown (g := gb584) (o := .cells #[.int .i64 a1_0, .int .i64 a1_1, .int .i64 a1_2, .int .i64 a1_3, .int .i64 a1_4] 42 (0, 0)) (bkq BK584) hg (Kd.R_ne HO_7.out BK584.out (by decide))); replace BK585 := Aside0.mk (blk_grown (g := gb585) (o := .cells #[.slice A2_0 l2_0.length c2_0, .slice A2_1 l2_1.length c2_1] 44 (0, 0)) (bkq BK585) hg (Kd.R_ne HO_7.out BK585.out (by decide))); replace HL597_0 := Aside0.mk (Kd.R_over' (v := (.slice (some ⟨go50, 0, none⟩) x7_2.length co23)) (by (with_reducible repeat (first | apply Kd.R_alloc | apply Kd.R_drewN | apply Kd.R_drew)); exact HL597_0.out) (Kd.R_typed HO_7.out) (by decide) hg); replace HO_7 := Aside0.mk (hp_); replace HB := Aside0.mk ((by rw [hw]; exact below_set (HB.out) GB50.out : Below w.heap.size w w53)); clear hg hw hp_))
                 go_roundg k4
                 case measure => have := HK1.out; have := HK2.out; have := HJ21.out; have := HK4.out; omega
                 case rel => exact ⟨(y604), (true), (wrap64 (x11_2 + 1)), (by first | rfl | (simp; done) | (simp [*]; done)), (by first | rfl | (simp; done) | (simp [*]; done)), H', ⟨by have := HK1.out; have := HK2.out; have := HJ21.out; have := HK4.out; omega⟩, ⟨Rq HO_7.out⟩, ⟨by (with_reducible repeat (first | apply Kd.R_alloc | apply Kd.R_drewN | apply Kd.R_drew)); exact Kd.R_mono HO_8.out (fun _ hk => hk.2)⟩, ⟨Sq HO_9.out⟩, ⟨bkq BK583⟩, ⟨bkq BK584⟩, ⟨bkq BK585⟩, ⟨bwq HB⟩⟩
                ·rw [if_neg c49] at H
                 exact absurd H (by simp)
             ·rw [if_neg c33] at H
              exact absurd H (by simp)
            ·rw [if_neg c32] at H
             exact absurd H (by simp)
      ·rw [if_neg c21] at H
       have c21b0 : decide (x11_2 < (x7_2.length : Int)) = false := decide_eq_false c21
       clear c21
       have H' := Aside0.mk H
       clear H
       obtain ⟨Ao54, co54, eo54⟩ := Kd.R_slice HO_7.out
       subst eo54
       go_wp2
       go_roundg k2
       case measure => have := HK1.out; have := HK2.out; omega
       case rel => exact ⟨(x7_2), (x10_2), (by first | rfl | (simp; done) | (simp [*]; done)), H', ⟨by have := HK1.out; have := HK2.out; omega⟩, ⟨Rq HO_7.out⟩, ⟨Rq HO_8.out⟩, ⟨Sq HO_9.out⟩, ⟨bkq BK583⟩, ⟨bkq BK584⟩, ⟨bkq BK585⟩, ⟨bwq HB⟩⟩
   ·replace c20 := Bool.eq_false_iff.mpr c20
    subst c20
    have H1 : (some x7_1) = some r := by rw [if_neg (show ¬ (false = true) by decide)] at H; exact H
    clear H
    have H := H1
    clear H1
    obtain rfl := Option.some.inj H
    go_wp2
    go_ret
    exact ⟨_, by first | rfl | (simp [errW_none, errW_some] <;> rfl) | (simp [*, errW_none, errW_some] <;> rfl), by (with_reducible repeat (first | apply Kd.R_alloc | apply Kd.R_drewN | apply Kd.R_drew)); exact Kd.R_mono HO_7.out (fun _ hk => trivial), bwq HB⟩
def spec_PlaceOk.l0 : Nat → List Bool → List Bool → List Bool → List Bool → Int → List (S77) → List Bool → List Bool → Option (Bool)
 | 0, _, _, _, _, _, _, _, _ => none
 | k + 1, x7, x8, x9, x10, x11, x606000, x608000, x608001 => if x11 < (x606000.length : Int) then (if 0 ≤ x11 then (if x11 < (x608000.length : Int) then (if rdOf false x608000 x11 = true then (if x11 < (x7.length : Int) then (if rdOf false x7 x11 = true then (if x11 < (x608001.length : Int) then (if rdOf false x608001 x11 = true then (if x11 < (x9.length : Int) then (if rdOf false x9 x11 = true then (if x11 < (x10.length : Int) then (if rdOf false x10 x11 = true then (spec_PlaceOk.l0 k x7 x8 x9 x10 (wrap64 (x11 + 1)) x606000 x608000 x608001) else (some false)) else (none)) else (some false)) else (none)) else (spec_PlaceOk.l0 k x7 x8 x9 x10 (wrap64 (x11 + 1)) x606000 x608000 x608001)) else (none)) else (if x11 < (x8.length : Int) then (if rdOf false x8 x11 = true then (if x11 < (x608001.length : Int) then (if rdOf false x608001 x11 = true then (if x11 < (x9.length : Int) then (if rdOf false x9 x11 = true then (if x11 < (x10.length : Int) then (if rdOf false x10 x11 = true then (spec_PlaceOk.l0 k x7 x8 x9 x10 (wrap64 (x11 + 1)) x606000 x608000 x608001) else (some false)) else (none)) else (some false)) else (none)) else (spec_PlaceOk.l0 k x7 x8 x9 x10 (wrap64 (x11 + 1)) x606000 x608000 x608001)) else (none)) else (some false)) else (none))) else (none)) else (if x11 < (x608001.length : Int) then (if rdOf false x608001 x11 = true then (if x11 < (x9.length : Int) then (if rdOf false x9 x11 = true then (if x11 < (x10.length : Int) then (if rdOf false x10 x11 = true then (spec_PlaceOk.l0 k x7 x8 x9 x10 (wrap64 (x11 + 1)) x606000 x608000 x608001) else (some false)) else (none)) else (some false)) else (none)) else (spec_PlaceOk.l0 k x7 x8 x9 x10 (wrap64 (x11 + 1)) x606000 x608000 x608001)) else (none))) else (none)) else (none)) else (some true)
def spec_PlaceOk.f (k : Nat) (l0_0 : List (S77)) (a1_0 : Int) (a1_1 : Int) (a1_2 : Int) (a1_3 : Int) (a1_4 : Int) (l2_0 : List Bool) (l2_1 : List Bool) : Option (Bool) := (spec_l13Form.f k l0_0 a1_0 a1_1 a1_2 a1_3 a1_4 l2_0 l2_1).bind fun t608 => (if t608 = true then ((spec_SafeDown.f k l0_0 a1_0 a1_1 a1_2 a1_3 a1_4).bind fun t609 => ((spec_SafeUp.f k l0_0 a1_0 a1_1 a1_2 a1_3 a1_4).bind fun t612 => ((spec_ExprComp.f k l0_0 a1_0 a1_1 a1_2 a1_3 a1_4).bind fun t615 => ((spec_l13Held.f k l0_0 a1_0 a1_1 a1_2 a1_3 a1_4 l2_0 l2_1).bind fun t618 => (spec_PlaceOk.l0 k t609 t612 t615 t618 0 l0_0 l2_0 l2_1))))) else (some false))
theorem spec_PlaceOk.calls (k : Nat) (A0_0 : Option Addr) (c0_0 : Nat) (l0_0 : List (S77)) (a1_0 : Int) (a1_1 : Int) (a1_2 : Int) (a1_3 : Int) (a1_4 : Int) (A2_0 : Option Addr) (c2_0 : Nat) (l2_0 : List Bool) (A2_1 : Option Addr) (c2_1 : Nat) (l2_1 : List Bool) (r : Bool) (w : World) (hr0_0 : Kd.C k77 w A0_0 l0_0.length l0_0) (hc0_0 : l0_0.length ≤ c0_0) (hr2_0 : Kd.C Kd.bool w A2_0 l2_0.length l2_0) (hc2_0 : l2_0.length ≤ c2_0) (hr2_1 : Kd.C Kd.bool w A2_1 l2_1.length l2_1) (hc2_1 : l2_1.length ≤ c2_1) (h : spec_PlaceOk.f k l0_0 a1_0 a1_1 a1_2 a1_3 a1_4 l2_0 l2_1 = some r) :
  Calls Try.prog 29 #[.agg #[.slice A0_0 l0_0.length c0_0], .agg #[.int .i64 a1_0, .int .i64 a1_1, .int .i64 a1_2, .int .i64 a1_3, .int .i64 a1_4], .agg #[.slice A2_0 l2_0.length c2_0, .slice A2_1 l2_1.length c2_1]] w fun e w' => e = .returned (.bool r) ∧ Below w.heap.size w w' := by
 have hu38 := Try.underlying38
 have hu42 := Try.underlying42
 have hu44 := Try.underlying44
 have HR0_0 := Aside0.mk hr0_0
 have HC0_0 := Aside0.mk hc0_0
 clear hr0_0 hc0_0
 have HR2_0 := Aside0.mk hr2_0
 have HC2_0 := Aside0.mk hc2_0
 clear hr2_0 hc2_0
 have HR2_1 := Aside0.mk hr2_1
 have HC2_1 := Aside0.mk hc2_1
 clear hr2_1 hc2_1
 have HB := Aside0.mk (Below.refl w.heap.size w)
 have H : ((spec_l13Form.f k l0_0 a1_0 a1_1 a1_2 a1_3 a1_4 l2_0 l2_1).bind fun t608 => (if t608 = true then ((spec_SafeDown.f k l0_0 a1_0 a1_1 a1_2 a1_3 a1_4).bind fun t609 => ((spec_SafeUp.f k l0_0 a1_0 a1_1 a1_2 a1_3 a1_4).bind fun t612 => ((spec_ExprComp.f k l0_0 a1_0 a1_1 a1_2 a1_3 a1_4).bind fun t615 => ((spec_l13Held.f k l0_0 a1_0 a1_1 a1_2 a1_3 a1_4 l2_0 l2_1).bind fun t618 => (spec_PlaceOk.l0 k t609 t612 t615 t618 0 l0_0 l2_0 l2_1))))) else (some false))) = some r := h
 clear h
 replace H := Option.bind_eq_some_iff.mp H
 obtain ⟨t608, A40, H⟩ := H
 have A4 := Aside0.mk A40
 clear A40
 by_cases c5 : t608 = true
 ·subst c5
  rw [if_pos rfl] at H
  replace H := Option.bind_eq_some_iff.mp H
  obtain ⟨t609, A60, H⟩ := H
  have A6 := Aside0.mk A60
  clear A60
  replace H := Option.bind_eq_some_iff.mp H
  obtain ⟨t612, A70, H⟩ := H
  have A7 := Aside0.mk A70
  clear A70
  replace H := Option.bind_eq_some_iff.mp H
  obtain ⟨t615, A80, H⟩ := H
  have A8 := Aside0.mk A80
  clear A80
  replace H := Option.bind_eq_some_iff.mp H
  obtain ⟨t618, A90, H⟩ := H
  have A9 := Aside0.mk A90
  clear A90
  have H' := Aside0.mk H
  clear H
  go_enter Try.func29, Try.ntmps29
  go_wp2_with (first | ((with_reducible refine gate_dst (N := 3) rfl ?_); refine bxe (cs := #[.slice A0_0 l0_0.length c0_0]) (t := 38) ?_; intro gb605 hg w10 hbox hb; have BK605 := Aside0.mk (hbox); have GW605 := bwz HB hg; have GE605 := bwz HB hg; replace HB := bwb HB hb; clear hb hbox hg) | ((with_reducible refine gate_dst (N := 4) rfl ?_); refine bxe (cs := #[.int .i64 a1_0, .int .i64 a1_1, .int .i64 a1_2, .int .i64 a1_3, .int .i64 a1_4]) (t := 42) ?_; intro gb606 hg w11 hbox hb; have BK606 := Aside0.mk (hbox); have GW606 := bwz HB hg; have GE606 := bwz HB hg; replace HB := bwb HB hb; have NB605_606 := bkl BK605 hg; have NB606_605 := bkg BK605 hg; replace BK605 := bkb BK605 hb; clear hb hbox hg) | ((with_reducible refine gate_dst (N := 5) rfl ?_); refine bxe (cs := #[.slice A2_0 l2_0.length c2_0, .slice A2_1 l2_1.length c2_1]) (t := 44) ?_; intro gb607 hg w12 hbox hb; have BK607 := Aside0.mk (hbox); have GW607 := bwz HB hg; have GE607 := bwz HB hg; replace HB := bwb HB hb; have NB605_607 := bkl BK605 hg; have NB607_605 := bkg BK605 hg; replace BK605 := bkb BK605 hb; have NB606_607 := bkl BK606 hg; have NB607_606 := bkg BK606 hg; replace BK606 := bkb BK606 hb; clear hb hbox hg; have hnb13 := NB605_606.out; have hnc13 := NB606_605.out; have hnb14 := NB605_607.out; have hnc14 := NB607_605.out; obtain ⟨hcz15, hfz15⟩ := bcf BK605; have hnb16 := NB606_607.out; have hnc16 := NB607_606.out; obtain ⟨hcz17, hfz17⟩ := bcf BK606; obtain ⟨hcz18, hfz18⟩ := bcf BK607) | ((with_reducible refine gate_callee (f := 44) rfl ?_); refine goesM (some 15) rfl rfl Try.func44 #[.agg #[.slice A0_0 l0_0.length c0_0], .agg #[.int .i64 a1_0, .int .i64 a1_1, .int .i64 a1_2, .int .i64 a1_3, .int .i64 a1_4], .agg #[.slice A2_0 l2_0.length c2_0, .slice A2_1 l2_1.length c2_1]] rfl ?_; (with_reducible refine (spec_l13Form.calls k _ _ l0_0 a1_0 a1_1 a1_2 a1_3 a1_4 _ _ l2_0 _ _ l2_1 true _ ?side1 ?side2 ?side3 ?side4 ?side5 ?side6 A4.out).mono ?_); (case side1 => exact Cq (Kd.C_below HR0_0.out HB.out)); (case side2 => exact HC0_0.out); (case side3 => exact Cq (Kd.C_below HR2_0.out HB.out)); (case side4 => exact HC2_0.out); (case side5 => exact Cq (Kd.C_below HR2_1.out HB.out)); (case side6 => exact HC2_1.out); rintro e w19 ⟨rfl, hb⟩; refine ⟨_, rfl, ?_⟩; replace BK605 := bkb BK605 hb; replace BK606 := bkb BK606 hb; replace BK607 := bkb BK607 hb; replace HB := bwb HB hb; (try clear hb); (try clear hb2); (try clear hk); (try clear hi); obtain ⟨hcz20, hfz20⟩ := bcf BK605; obtain ⟨hcz21, hfz21⟩ := bcf BK606) | ((with_reducible refine gate_callee (f := 57) rfl ?_); refine goesM (some 19) rfl rfl Try.func57 #[.agg #[.slice A0_0 l0_0.length c0_0], .agg #[.int .i64 a1_0, .int .i64 a1_1, .int .i64 a1_2, .int .i64 a1_3, .int .i64 a1_4]] rfl ?_; (with_reducible refine (spec_SafeDown.calls k _ _ l0_0 a1_0 a1_1 a1_2 a1_3 a1_4 t609 _ ?side1 ?side2 A6.out).mono ?_); (case side1 => exact Cq (Kd.C_below HR0_0.out HB.out)); (case side2 => exact HC0_0.out); rintro e w22 ⟨v610, rfl, ho0, hb⟩; refine ⟨_, rfl, ?_⟩; have HO611 := Aside0.mk (Kd.R_lower ho0 (below_size (bwq HB))); replace BK605 := bkb BK605 hb; replace BK606 := bkb BK606 hb; replace BK607 := bkb BK607 hb; replace HB := bwb HB hb; (try clear hb); (try clear hb2); (try clear hk); (try clear hi); (try clear ho0); obtain ⟨hcz23, hfz23⟩ := bcf BK605; obtain ⟨hcz24, hfz24⟩ := bcf BK606) | ((with_reducible refine gate_callee (f := 58) rfl ?_); refine goesM (some 22) rfl rfl Try.func58 #[.agg #[.slice A0_0 l0_0.length c0_0], .agg #[.int .i64 a1_0, .int .i64 a1_1, .int .i64 a1_2, .int .i64 a1_3, .int .i64 a1_4]] rfl ?_; (with_reducible refine (spec_SafeUp.calls k _ _ l0_0 a1_0 a1_1 a1_2 a1_3 a1_4 t612 _ ?side1 ?side2 A7.out).mono ?_); (case side1 => exact Cq (Kd.C_below HR0_0.out HB.out)); (case side2 => exact HC0_0.out); rintro e w25 ⟨v613, rfl, ho0, hb⟩; refine ⟨_, rfl, ?_⟩; have HO614 := Aside0.mk (Kd.R_lower (Kd.R_new' ho0 (Kd.R_lt (Rq HO611.out))) (below_size (bwq HB))); replace HO611 := Aside0.mk (Kd.R_elder' (Rq HO611.out) (Kd.R_base ho0) hb); replace BK605 := bkb BK605 hb; replace BK606 := bkb BK606 hb; replace BK607 := bkb BK607 hb; replace HB := bwb HB hb; (try clear hb); (try clear hb2); (try clear hk); (try clear hi); (try clear ho0); obtain ⟨hcz26, hfz26⟩ := bcf BK605; obtain ⟨hcz27, hfz27⟩ := bcf BK606) | ((with_reducible refine gate_callee (f := 46) rfl ?_); refine goesM (some 25) rfl rfl Try.func46 #[.agg #[.slice A0_0 l0_0.length c0_0], .agg #[.int .i64 a1_0, .int .i64 a1_1, .int .i64 a1_2, .int .i64 a1_3, .int .i64 a1_4]] rfl ?_; (with_reducible refine (spec_ExprComp.calls k _ _ l0_0 a1_0 a1_1 a1_2 a1_3 a1_4 t615 _ ?side1 ?side2 A8.out).mono ?_); (case side1 => exact Cq (Kd.C_below HR0_0.out HB.out)); (case side2 => exact HC0_0.out); rintro e w28 ⟨v616, rfl, ho0, hb⟩; refine ⟨_, rfl, ?_⟩; have HO617 := Aside0.mk (Kd.R_lower (Kd.R_new' (Kd.R_new' ho0 (Kd.R_lt (Rq HO611.out))) (Kd.R_lt (Rq HO614.out))) (below_size (bwq HB))); replace HO611 := Aside0.mk (Kd.R_elder' (Rq HO611.out) (Kd.R_base ho0) hb); replace HO614 := Aside0.mk (Kd.R_elder' (Rq HO614.out) (Kd.R_base ho0) hb); replace BK605 := bkb BK605 hb; replace BK606 := bkb BK606 hb; replace BK607 := bkb BK607 hb; replace HB := bwb HB hb; (try clear hb); (try clear hb2); (try clear hk); (try clear hi); (try clear ho0); obtain ⟨hcz29, hfz29⟩ := bcf BK605; obtain ⟨hcz30, hfz30⟩ := bcf BK606; obtain ⟨hcz31, hfz31⟩ := bcf BK607) | ((with_reducible refine gate_callee (f := 59) rfl ?_); refine goesM (some 29) rfl rfl Try.func59 #[.agg #[.slice A0_0 l0_0.length c0_0], .agg #[.int .i64 a1_0, .int .i64 a1_1, .int .i64 a1_2, .int .i64 a1_3, .int .i64 a1_4], .agg #[.slice A2_0 l2_0.length c2_0, .slice A2_1 l2_1.length c2_1]] rfl ?_; (with_reducible refine (spec_l13Held.calls k _ _ l0_0 a1_0 a1_1 a1_2 a1_3 a1_4 _ _ l2_0 _ _ l2_1 t618 _ ?side1 ?side2 ?side3 ?side4 ?side5 ?side6 A9.out).mono ?_); (case side1 => exact Cq (Kd.C_below HR0_0.out HB.out)); (case side2 => exact HC0_0.out); (case side3 => exact Cq (Kd.C_below HR2_0.out HB.out)); (case side4 => exact HC2_0.out); (case side5 => exact Cq (Kd.C_below HR2_1.out HB.out)); (case side6 => exact HC2_1.out); rintro e w32 ⟨v619, rfl, ho0, hb⟩; refine ⟨_, rfl, ?_⟩; have HO620 := Aside0.mk (Kd.R_lower (Kd.R_new' (Kd.R_new' (Kd.R_new' ho0 (Kd.R_lt (Rq HO611.out))) (Kd.R_lt (Rq HO614.out))) (Kd.R_lt (Rq HO617.out))) (below_size (bwq HB))); replace HO611 := Aside0.mk (Kd.R_elder' (Rq HO611.out) (Kd.R_base ho0) hb); replace HO614 := Aside0.mk (Kd.R_elder' (Rq HO614.out) (Kd.R_base ho0) hb); replace HO617 := Aside0.mk (Kd.R_elder' (Rq HO617.out) (Kd.R_base ho0) hb); replace BK605 := bkb BK605 hb; replace BK606 := bkb BK606 hb; replace BK607 := bkb BK607 hb; replace HB := bwb HB hb; (try clear hb); (try clear hb2); (try clear hk); (try clear hi); (try clear ho0)))
  go_loopg [11] k (fun kq v11 w' => ∃ (x11_1 : Int), v11 = .int .i64 x11_1 ∧ Aside0 (spec_PlaceOk.l0 kq t609 t612 t615 t618 x11_1 l0_0 l2_0 l2_1 = some r) ∧ Aside0 (kq ≤ k) ∧ Aside0 (Kd.R Kd.bool 4 w' w.heap.size (fun k_ => some k_ ≠ (v613 : Value).ownBlock ∧ some k_ ≠ (v616 : Value).ownBlock ∧ some k_ ≠ (v619 : Value).ownBlock) v610 t609) ∧ Aside0 (Kd.R Kd.bool 4 w' w.heap.size (fun k_ => some k_ ≠ (v610 : Value).ownBlock ∧ some k_ ≠ (v616 : Value).ownBlock ∧ some k_ ≠ (v619 : Value).ownBlock) v613 t612) ∧ Aside0 (Kd.R Kd.bool 4 w' w.heap.size (fun k_ => some k_ ≠ (v610 : Value).ownBlock ∧ some k_ ≠ (v613 : Value).ownBlock ∧ some k_ ≠ (v619 : Value).ownBlock) v616 t615) ∧ Aside0 (Kd.R Kd.bool 4 w' w.heap.size (fun k_ => some k_ ≠ (v610 : Value).ownBlock ∧ some k_ ≠ (v613 : Value).ownBlock ∧ some k_ ≠ (v616 : Value).ownBlock) v619 t618) ∧ Aside0 (w'.heap[gb605]? = some (.cells #[(.slice A0_0 l0_0.length c0_0)] 38 (0, 0))) ∧ Aside0 (w'.heap[gb606]? = some (.cells #[.int .i64 a1_0, .int .i64 a1_1, .int .i64 a1_2, .int .i64 a1_3, .int .i64 a1_4] 42 (0, 0))) ∧ Aside0 (w'.heap[gb607]? = some (.cells #[(.slice A2_0 l2_0.length c2_0), (.slice A2_1 l2_1.length c2_1)] 44 (0, 0))) ∧ Aside0 (Below w.heap.size w w'))
  case atStart => exact ⟨(0), (by first | rfl | (simp; done) | (simp [*]; done)), H', ⟨Nat.le_refl _⟩, ⟨by (with_reducible repeat (first | apply Kd.R_alloc | apply Kd.R_drewN | apply Kd.R_drew)); exact Kd.R_mono HO611.out (fun _ hk => ⟨hk.1.1.2, ⟨hk.1.2, hk.2⟩⟩)⟩, ⟨by (with_reducible repeat (first | apply Kd.R_alloc | apply Kd.R_drewN | apply Kd.R_drew)); exact Kd.R_mono HO614.out (fun _ hk => ⟨hk.1.1.2, ⟨hk.1.2, hk.2⟩⟩)⟩, ⟨by (with_reducible repeat (first | apply Kd.R_alloc | apply Kd.R_drewN | apply Kd.R_drew)); exact Kd.R_mono HO617.out (fun _ hk => ⟨hk.1.1.2, ⟨hk.1.2, hk.2⟩⟩)⟩, ⟨by (with_reducible repeat (first | apply Kd.R_alloc | apply Kd.R_drewN | apply Kd.R_drew)); exact Kd.R_mono HO620.out (fun _ hk => ⟨hk.1.1.2, ⟨hk.1.2, hk.2⟩⟩)⟩, ⟨bkq BK605⟩, ⟨bkq BK606⟩, ⟨bkq BK607⟩, ⟨bwq HB⟩⟩
  case round =>
   clear H'
   try clear c1
   try clear c2
   try clear p2
   try clear c4
   try clear c5
   try clear c13
   try clear c14
   try clear c16
   try clear c29
   try clear hcz15
   try clear hcz17
   try clear hcz18
   try clear hcz20
   try clear hcz21
   try clear hcz23
   try clear hcz24
   try clear hcz26
   try clear hcz27
   try clear hcz29
   try clear hcz30
   try clear hcz31
   try clear hfz15
   try clear hfz17
   try clear hfz18
   try clear hfz20
   try clear hfz21
   try clear hfz23
   try clear hfz24
   try clear hfz26
   try clear hfz27
   try clear hfz29
   try clear hfz30
   try clear hfz31
   obtain ⟨x11_1, rfl, HA, HK1, HO_7, HO_8, HO_9, HO_10, BK605, BK606, BK607, HB⟩ := hrel
   cases gk with
   | zero => exact absurd HA.out (by intro h_; first | (cases h_; done) | (simp [spec_PlaceOk.l0] at h_))
   | succ k1 =>
    have H := HA.out
    clear HA
    simp only [spec_PlaceOk.l0] at H
    by_cases c33 : x11_1 < (l0_0.length : Int)
    ·rw [if_pos c33] at H
     have c33b0 : decide (x11_1 < (l0_0.length : Int)) = true := decide_eq_true c33
     clear c33
     by_cases c34 : 0 ≤ x11_1
     ·rw [if_pos c34] at H
      have c34b0 : decide (0 ≤ x11_1) = true := decide_eq_true c34
      clear c34
      by_cases c35 : x11_1 < (l2_0.length : Int)
      ·rw [if_pos c35] at H
       have c35b0 : decide (x11_1 < (l2_0.length : Int)) = true := decide_eq_true c35
       clear c35
       obtain ⟨bq36, hbq36⟩ : ∃ b_ : Bool, b_ = (rdOf false l2_0 x11_1) := ⟨_, rfl⟩
       replace H : (if bq36 = true then (if x11_1 < (t609.length : Int) then (if rdOf false t609 x11_1 = true then (if x11_1 < (l2_1.length : Int) then (if rdOf false l2_1 x11_1 = true then (if x11_1 < (t615.length : Int) then (if rdOf false t615 x11_1 = true then (if x11_1 < (t618.length : Int) then (if rdOf false t618 x11_1 = true then (spec_PlaceOk.l0 k1 t609 t612 t615 t618 (wrap64 (x11_1 + 1)) l0_0 l2_0 l2_1) else (some false)) else (none)) else (some false)) else (none)) else (spec_PlaceOk.l0 k1 t609 t612 t615 t618 (wrap64 (x11_1 + 1)) l0_0 l2_0 l2_1)) else (none)) else (if x11_1 < (t612.length : Int) then (if rdOf false t612 x11_1 = true then (if x11_1 < (l2_1.length : Int) then (if rdOf false l2_1 x11_1 = true then (if x11_1 < (t615.length : Int) then (if rdOf false t615 x11_1 = true then (if x11_1 < (t618.length : Int) then (if rdOf false t618 x11_1 = true then (spec_PlaceOk.l0 k1 t609 t612 t615 t618 (wrap64 (x11_1 + 1)) l0_0 l2_0 l2_1) else (some false)) else (none)) else (some false)) else (none)) else (spec_PlaceOk.l0 k1 t609 t612 t615 t618 (wrap64 (x11_1 + 1)) l0_0 l2_0 l2_1)) else (none)) else (some false)) else (none))) else (none)) else (if x11_1 < (l2_1.length : Int) then (if rdOf false l2_1 x11_1 = true then (if x11_1 < (t615.length : Int) then (if rdOf false t615 x11_1 = true then (if x11_1 < (t618.length : Int) then (if rdOf false t618 x11_1 = true then (spec_PlaceOk.l0 k1 t609 t612 t615 t618 (wrap64 (x11_1 + 1)) l0_0 l2_0 l2_1) else (some false)) else (none)) else (some false)) else (none)) else (spec_PlaceOk.l0 k1 t609 t612 t615 t618 (wrap64 (x11_1 + 1)) l0_0 l2_0 l2_1)) else (none))) = some r := by rw [← hbq36] at H; exact H
       have Nbq36 := Aside0.mk hbq36
       clear hbq36
       by_cases c37 : bq36 = true
       ·subst c37
        rw [if_pos rfl] at H
        by_cases c38 : x11_1 < (t609.length : Int)
        ·rw [if_pos c38] at H
         have c38b0 : decide (x11_1 < (t609.length : Int)) = true := decide_eq_true c38
         clear c38
         obtain ⟨bq39, hbq39⟩ : ∃ b_ : Bool, b_ = (rdOf false t609 x11_1) := ⟨_, rfl⟩
         replace H : (if bq39 = true then (if x11_1 < (l2_1.length : Int) then (if rdOf false l2_1 x11_1 = true then (if x11_1 < (t615.length : Int) then (if rdOf false t615 x11_1 = true then (if x11_1 < (t618.length : Int) then (if rdOf false t618 x11_1 = true then (spec_PlaceOk.l0 k1 t609 t612 t615 t618 (wrap64 (x11_1 + 1)) l0_0 l2_0 l2_1) else (some false)) else (none)) else (some false)) else (none)) else (spec_PlaceOk.l0 k1 t609 t612 t615 t618 (wrap64 (x11_1 + 1)) l0_0 l2_0 l2_1)) else (none)) else (if x11_1 < (t612.length : Int) then (if rdOf false t612 x11_1 = true then (if x11_1 < (l2_1.length : Int) then (if rdOf false l2_1 x11_1 = true then (if x11_1 < (t615.length : Int) then (if rdOf false t615 x11_1 = true then (if x11_1 < (t618.length : Int) then (if rdOf false t618 x11_1 = true then (spec_PlaceOk.l0 k1 t609 t612 t615 t618 (wrap64 (x11_1 + 1)) l0_0 l2_0 l2_1) else (some false)) else (none)) else (some false)) else (none)) else (spec_PlaceOk.l0 k1 t609 t612 t615 t618 (wrap64 (x11_1 + 1)) l0_0 l2_0 l2_1)) else (none)) else (some false)) else (none))) = some r := by rw [← hbq39] at H; exact H
         have Nbq39 := Aside0.mk hbq39
         clear hbq39
         by_cases c40 : bq39 = true
         ·subst c40
          rw [if_pos rfl] at H
          by_cases c41 : x11_1 < (l2_1.length : Int)
          ·rw [if_pos c41] at H
           have c41b0 : decide (x11_1 < (l2_1.length : Int)) = true := decide_eq_true c41
           clear c41
           obtain ⟨bq42, hbq42⟩ : ∃ b_ : Bool, b_ = (rdOf false l2_1 x11_1) := ⟨_, rfl⟩
           replace H : (if bq42 = true then (if x11_1 < (t615.length : Int) then (if rdOf false t615 x11_1 = true then (if x11_1 < (t618.length : Int) then (if rdOf false t618 x11_1 = true then (spec_PlaceOk.l0 k1 t609 t612 t615 t618 (wrap64 (x11_1 + 1)) l0_0 l2_0 l2_1) else (some false)) else (none)) else (some false)) else (none)) else (spec_PlaceOk.l0 k1 t609 t612 t615 t618 (wrap64 (x11_1 + 1)) l0_0 l2_0 l2_1)) = some r := by rw [← hbq42] at H; exact H
           have Nbq42 := Aside0.mk hbq42
           clear hbq42
           by_cases c43 : bq42 = true
           ·subst c43
            rw [if_pos rfl] at H
            by_cases c44 : x11_1 < (t615.length : Int)
            ·rw [if_pos c44] at H
             have c44b0 : decide (x11_1 < (t615.length : Int)) = true := decide_eq_true c44
             clear c44
             obtain ⟨bq45, hbq45⟩ : ∃ b_ : Bool, b_ = (rdOf false t615 x11_1) := ⟨_, rfl⟩
             replace H : (if bq45 = true then (if x11_1 < (t618.length : Int) then (if rdOf false t618 x11_1 = true then (spec_PlaceOk.l0 k1 t609 t612 t615 t618 (wrap64 (x11_1 + 1)) l0_0 l2_0 l2_1) else (some false)) else (none)) else (some false)) = some r := by rw [← hbq45] at H; exact H
             have Nbq45 := Aside0.mk hbq45
             clear hbq45
             by_cases c46 : bq45 = true
             ·subst c46
              rw [if_pos rfl] at H
              by_cases c47 : x11_1 < (t618.length : Int)
              ·rw [if_pos c47] at H
               have c47b0 : decide (x11_1 < (t618.length : Int)) = true := decide_eq_true c47
               clear c47
               obtain ⟨bq48, hbq48⟩ : ∃ b_ : Bool, b_ = (rdOf false t618 x11_1) := ⟨_, rfl⟩
               replace H : (if bq48 = true then (spec_PlaceOk.l0 k1 t609 t612 t615 t618 (wrap64 (x11_1 + 1)) l0_0 l2_0 l2_1) else (some false)) = some r := by rw [← hbq48] at H; exact H
               have Nbq48 := Aside0.mk hbq48
               clear hbq48
               by_cases c49 : bq48 = true
               ·subst c49
                rw [if_pos rfl] at H
                have H' := Aside0.mk H
                clear H
                have hnb50 := NB605_606.out
                have hnc50 := NB606_605.out
                have hnb51 := NB605_607.out
                have hnc51 := NB607_605.out
                obtain ⟨hcz52, hfz52⟩ := bcf BK605
                have hnb53 := NB607_606.out
                have hnc53 := NB606_607.out
                obtain ⟨hcz54, hfz54⟩ := bcf BK607
                have p621 : 0 ≤ (x11_1 : Int) := oda
                have q621 : x11_1 < (l2_0.length : Int) := oda
                obtain ⟨ad621, e621, hx621_0⟩ := Kd.at_bool HR2_0.out x11_1 p621 q621
                (try rw [← Nbq36.out] at hx621_0)
                (try rw [← Nbq39.out] at hx621_0)
                (try rw [← Nbq42.out] at hx621_0)
                (try rw [← Nbq45.out] at hx621_0)
                (try rw [← Nbq48.out] at hx621_0)
                cases e621
                replace hx621_0 := hxb HB hx621_0
                replace p621 := eq_true p621
                replace q621 := eq_true q621
                obtain ⟨Ao55, co55, eo55⟩ := Kd.R_slice HO_7.out
                subst eo55
                have p622 : 0 ≤ (x11_1 : Int) := oda
                have q622 : x11_1 < (t609.length : Int) := oda
                obtain ⟨ad622, e622, hx622_0⟩ := Kd.at_bool (Kd.R_reads' HO_7.out).2.2 x11_1 p622 q622
                (try rw [← Nbq36.out] at hx622_0)
                (try rw [← Nbq39.out] at hx622_0)
                (try rw [← Nbq42.out] at hx622_0)
                (try rw [← Nbq45.out] at hx622_0)
                (try rw [← Nbq48.out] at hx622_0)
                cases e622
                replace p622 := eq_true p622
                replace q622 := eq_true q622
                have p623 : 0 ≤ (x11_1 : Int) := oda
                have q623 : x11_1 < (l2_1.length : Int) := oda
                obtain ⟨ad623, e623, hx623_0⟩ := Kd.at_bool HR2_1.out x11_1 p623 q623
                (try rw [← Nbq36.out] at hx623_0)
                (try rw [← Nbq39.out] at hx623_0)
                (try rw [← Nbq42.out] at hx623_0)
                (try rw [← Nbq45.out] at hx623_0)
                (try rw [← Nbq48.out] at hx623_0)
                cases e623
                replace hx623_0 := hxb HB hx623_0
                replace p623 := eq_true p623
                replace q623 := eq_true q623
                obtain ⟨Ao56, co56, eo56⟩ := Kd.R_slice HO_9.out
                subst eo56
                have p624 : 0 ≤ (x11_1 : Int) := oda
                have q624 : x11_1 < (t615.length : Int) := oda
                obtain ⟨ad624, e624, hx624_0⟩ := Kd.at_bool (Kd.R_reads' HO_9.out).2.2 x11_1 p624 q624
                (try rw [← Nbq36.out] at hx624_0)
                (try rw [← Nbq39.out] at hx624_0)
                (try rw [← Nbq42.out] at hx624_0)
                (try rw [← Nbq45.out] at hx624_0)
                (try rw [← Nbq48.out] at hx624_0)
                cases e624
                replace p624 := eq_true p624
                replace q624 := eq_true q624
                obtain ⟨Ao57, co57, eo57⟩ := Kd.R_slice HO_10.out
                subst eo57
                have p625 : 0 ≤ (x11_1 : Int) := oda
                have q625 : x11_1 < (t618.length : Int) := oda
                obtain ⟨ad625, e625, hx625_0⟩ := Kd.at_bool (Kd.R_reads' HO_10.out).2.2 x11_1 p625 q625
                (try rw [← Nbq36.out] at hx625_0)
                (try rw [← Nbq39.out] at hx625_0)
                (try rw [← Nbq42.out] at hx625_0)
                (try rw [← Nbq45.out] at hx625_0)
                (try rw [← Nbq48.out] at hx625_0)
                cases e625
                replace p625 := eq_true p625
                replace q625 := eq_true q625
                go_wp2
                go_roundg k1
                case measure => have := HK1.out; omega
                case rel => exact ⟨(wrap64 (x11_1 + 1)), (by first | rfl | (simp; done) | (simp [*]; done)), H', ⟨by have := HK1.out; omega⟩, ⟨Rq HO_7.out⟩, ⟨Rq HO_8.out⟩, ⟨Rq HO_9.out⟩, ⟨Rq HO_10.out⟩, ⟨bkq BK605⟩, ⟨bkq BK606⟩, ⟨bkq BK607⟩, ⟨bwq HB⟩⟩
               ·replace c49 := Bool.eq_false_iff.mpr c49
                subst c49
                have H1 : (some false) = some r := by rw [if_neg (show ¬ (false = true) by decide)] at H; exact H
                clear H
                have H := H1
                clear H1
                obtain rfl := Option.some.inj H
                have hnb58 := NB605_606.out
                have hnc58 := NB606_605.out
                have hnb59 := NB605_607.out
                have hnc59 := NB607_605.out
                obtain ⟨hcz60, hfz60⟩ := bcf BK605
                have hnb61 := NB607_606.out
                have hnc61 := NB606_607.out
                obtain ⟨hcz62, hfz62⟩ := bcf BK607
                have p621 : 0 ≤ (x11_1 : Int) := oda
                have q621 : x11_1 < (l2_0.length : Int) := oda
                obtain ⟨ad621, e621, hx621_0⟩ := Kd.at_bool HR2_0.out x11_1 p621 q621
                (try rw [← Nbq36.out] at hx621_0)
                (try rw [← Nbq39.out] at hx621_0)
                (try rw [← Nbq42.out] at hx621_0)
                (try rw [← Nbq45.out] at hx621_0)
                (try rw [← Nbq48.out] at hx621_0)
                cases e621
                replace hx621_0 := hxb HB hx621_0
                replace p621 := eq_true p621
                replace q621 := eq_true q621
                obtain ⟨Ao63, co63, eo63⟩ := Kd.R_slice HO_7.out
                subst eo63
                have p622 : 0 ≤ (x11_1 : Int) := oda
                have q622 : x11_1 < (t609.length : Int) := oda
                obtain ⟨ad622, e622, hx622_0⟩ := Kd.at_bool (Kd.R_reads' HO_7.out).2.2 x11_1 p622 q622
                (try rw [← Nbq36.out] at hx622_0)
                (try rw [← Nbq39.out] at hx622_0)
                (try rw [← Nbq42.out] at hx622_0)
                (try rw [← Nbq45.out] at hx622_0)
                (try rw [← Nbq48.out] at hx622_0)
                cases e622
                replace p622 := eq_true p622
                replace q622 := eq_true q622
                have p623 : 0 ≤ (x11_1 : Int) := oda
                have q623 : x11_1 < (l2_1.length : Int) := oda
                obtain ⟨ad623, e623, hx623_0⟩ := Kd.at_bool HR2_1.out x11_1 p623 q623
                (try rw [← Nbq36.out] at hx623_0)
                (try rw [← Nbq39.out] at hx623_0)
                (try rw [← Nbq42.out] at hx623_0)
                (try rw [← Nbq45.out] at hx623_0)
                (try rw [← Nbq48.out] at hx623_0)
                cases e623
                replace hx623_0 := hxb HB hx623_0
                replace p623 := eq_true p623
                replace q623 := eq_true q623
                obtain ⟨Ao64, co64, eo64⟩ := Kd.R_slice HO_9.out
                subst eo64
                have p624 : 0 ≤ (x11_1 : Int) := oda
                have q624 : x11_1 < (t615.length : Int) := oda
                obtain ⟨ad624, e624, hx624_0⟩ := Kd.at_bool (Kd.R_reads' HO_9.out).2.2 x11_1 p624 q624
                (try rw [← Nbq36.out] at hx624_0)
                (try rw [← Nbq39.out] at hx624_0)
                (try rw [← Nbq42.out] at hx624_0)
                (try rw [← Nbq45.out] at hx624_0)
                (try rw [← Nbq48.out] at hx624_0)
                cases e624
                replace p624 := eq_true p624
                replace q624 := eq_true q624
                obtain ⟨Ao65, co65, eo65⟩ := Kd.R_slice HO_10.out
                subst eo65
                have p625 : 0 ≤ (x11_1 : Int) := oda
                have q625 : x11_1 < (t618.length : Int) := oda
                obtain ⟨ad625, e625, hx625_0⟩ := Kd.at_bool (Kd.R_reads' HO_10.out).2.2 x11_1 p625 q625
                (try rw [← Nbq36.out] at hx625_0)
                (try rw [← Nbq39.out] at hx625_0)
                (try rw [← Nbq42.out] at hx625_0)
                (try rw [← Nbq45.out] at hx625_0)
                (try rw [← Nbq48.out] at hx625_0)
                cases e625
                replace p625 := eq_true p625
                replace q625 := eq_true q625
                go_wp2
                go_ret
                exact ⟨by first | rfl | (simp [errW_none, errW_some] <;> rfl) | (simp [*, errW_none, errW_some] <;> rfl), bwq HB⟩
              ·rw [if_neg c47] at H
               exact absurd H (by simp)
             ·replace c46 := Bool.eq_false_iff.mpr c46
              subst c46
              have H1 : (some false) = some r := by rw [if_neg (show ¬ (false = true) by decide)] at H; exact H
              clear H
              have H := H1
              clear H1
              obtain rfl := Option.some.inj H
              have hnb66 := NB605_606.out
              have hnc66 := NB606_605.out
              have hnb67 := NB605_607.out
              have hnc67 := NB607_605.out
              obtain ⟨hcz68, hfz68⟩ := bcf BK605
              have hnb69 := NB607_606.out
              have hnc69 := NB606_607.out
              obtain ⟨hcz70, hfz70⟩ := bcf BK607
              have p621 : 0 ≤ (x11_1 : Int) := oda
              have q621 : x11_1 < (l2_0.length : Int) := oda
              obtain ⟨ad621, e621, hx621_0⟩ := Kd.at_bool HR2_0.out x11_1 p621 q621
              (try rw [← Nbq36.out] at hx621_0)
              (try rw [← Nbq39.out] at hx621_0)
              (try rw [← Nbq42.out] at hx621_0)
              (try rw [← Nbq45.out] at hx621_0)
              cases e621
              replace hx621_0 := hxb HB hx621_0
              replace p621 := eq_true p621
              replace q621 := eq_true q621
              obtain ⟨Ao71, co71, eo71⟩ := Kd.R_slice HO_7.out
              subst eo71
              have p622 : 0 ≤ (x11_1 : Int) := oda
              have q622 : x11_1 < (t609.length : Int) := oda
              obtain ⟨ad622, e622, hx622_0⟩ := Kd.at_bool (Kd.R_reads' HO_7.out).2.2 x11_1 p622 q622
              (try rw [← Nbq36.out] at hx622_0)
              (try rw [← Nbq39.out] at hx622_0)
              (try rw [← Nbq42.out] at hx622_0)
              (try rw [← Nbq45.out] at hx622_0)
              cases e622
              replace p622 := eq_true p622
              replace q622 := eq_true q622
              have p623 : 0 ≤ (x11_1 : Int) := oda
              have q623 : x11_1 < (l2_1.length : Int) := oda
              obtain ⟨ad623, e623, hx623_0⟩ := Kd.at_bool HR2_1.out x11_1 p623 q623
              (try rw [← Nbq36.out] at hx623_0)
              (try rw [← Nbq39.out] at hx623_0)
              (try rw [← Nbq42.out] at hx623_0)
              (try rw [← Nbq45.out] at hx623_0)
              cases e623
              replace hx623_0 := hxb HB hx623_0
              replace p623 := eq_true p623
              replace q623 := eq_true q623
              obtain ⟨Ao72, co72, eo72⟩ := Kd.R_slice HO_9.out
              subst eo72
              have p624 : 0 ≤ (x11_1 : Int) := oda
              have q624 : x11_1 < (t615.length : Int) := oda
              obtain ⟨ad624, e624, hx624_0⟩ := Kd.at_bool (Kd.R_reads' HO_9.out).2.2 x11_1 p624 q624
              (try rw [← Nbq36.out] at hx624_0)
              (try rw [← Nbq39.out] at hx624_0)
              (try rw [← Nbq42.out] at hx624_0)
              (try rw [← Nbq45.out] at hx624_0)
              cases e624
              replace p624 := eq_true p624
              replace q624 := eq_true q624
              go_wp2
              go_ret
              exact ⟨by first | rfl | (simp [errW_none, errW_some] <;> rfl) | (simp [*, errW_none, errW_some] <;> rfl), bwq HB⟩
            ·rw [if_neg c44] at H
             exact absurd H (by simp)
           ·replace c43 := Bool.eq_false_iff.mpr c43
            subst c43
            have H1 : (spec_PlaceOk.l0 k1 t609 t612 t615 t618 (wrap64 (x11_1 + 1)) l0_0 l2_0 l2_1) = some r := by rw [if_neg (show ¬ (false = true) by decide)] at H; exact H
            clear H
            have H := H1
            clear H1
            have H' := Aside0.mk H
            clear H
            have hnb73 := NB605_606.out
            have hnc73 := NB606_605.out
            have hnb74 := NB605_607.out
            have hnc74 := NB607_605.out
            obtain ⟨hcz75, hfz75⟩ := bcf BK605
            have hnb76 := NB607_606.out
            have hnc76 := NB606_607.out
            obtain ⟨hcz77, hfz77⟩ := bcf BK607
            have p621 : 0 ≤ (x11_1 : Int) := oda
            have q621 : x11_1 < (l2_0.length : Int) := oda
            obtain ⟨ad621, e621, hx621_0⟩ := Kd.at_bool HR2_0.out x11_1 p621 q621
            (try rw [← Nbq36.out] at hx621_0)
            (try rw [← Nbq39.out] at hx621_0)
            (try rw [← Nbq42.out] at hx621_0)
            cases e621
            replace hx621_0 := hxb HB hx621_0
            replace p621 := eq_true p621
            replace q621 := eq_true q621
            obtain ⟨Ao78, co78, eo78⟩ := Kd.R_slice HO_7.out
            subst eo78
            have p622 : 0 ≤ (x11_1 : Int) := oda
            have q622 : x11_1 < (t609.length : Int) := oda
            obtain ⟨ad622, e622, hx622_0⟩ := Kd.at_bool (Kd.R_reads' HO_7.out).2.2 x11_1 p622 q622
            (try rw [← Nbq36.out] at hx622_0)
            (try rw [← Nbq39.out] at hx622_0)
            (try rw [← Nbq42.out] at hx622_0)
            cases e622
            replace p622 := eq_true p622
            replace q622 := eq_true q622
            have p623 : 0 ≤ (x11_1 : Int) := oda
            have q623 : x11_1 < (l2_1.length : Int) := oda
            obtain ⟨ad623, e623, hx623_0⟩ := Kd.at_bool HR2_1.out x11_1 p623 q623
            (try rw [← Nbq36.out] at hx623_0)
            (try rw [← Nbq39.out] at hx623_0)
            (try rw [← Nbq42.out] at hx623_0)
            cases e623
            replace hx623_0 := hxb HB hx623_0
            replace p623 := eq_true p623
            replace q623 := eq_true q623
            go_wp2
            go_roundg k1
            case measure => have := HK1.out; omega
            case rel => exact ⟨(wrap64 (x11_1 + 1)), (by first | rfl | (simp; done) | (simp [*]; done)), H', ⟨by have := HK1.out; omega⟩, ⟨Rq HO_7.out⟩, ⟨Rq HO_8.out⟩, ⟨Rq HO_9.out⟩, ⟨Rq HO_10.out⟩, ⟨bkq BK605⟩, ⟨bkq BK606⟩, ⟨bkq BK607⟩, ⟨bwq HB⟩⟩
          ·rw [if_neg c41] at H
           exact absurd H (by simp)
         ·replace c40 := Bool.eq_false_iff.mpr c40
          subst c40
          have H1 : (if x11_1 < (t612.length : Int) then (if rdOf false t612 x11_1 = true then (if x11_1 < (l2_1.length : Int) then (if rdOf false l2_1 x11_1 = true then (if x11_1 < (t615.length : Int) then (if rdOf false t615 x11_1 = true then (if x11_1 < (t618.length : Int) then (if rdOf false t618 x11_1 = true then (spec_PlaceOk.l0 k1 t609 t612 t615 t618 (wrap64 (x11_1 + 1)) l0_0 l2_0 l2_1) else (some false)) else (none)) else (some false)) else (none)) else (spec_PlaceOk.l0 k1 t609 t612 t615 t618 (wrap64 (x11_1 + 1)) l0_0 l2_0 l2_1)) else (none)) else (some false)) else (none)) = some r := by rw [if_neg (show ¬ (false = true) by decide)] at H; exact H
          clear H
          have H := H1
          clear H1
          by_cases c79 : x11_1 < (t612.length : Int)
          ·rw [if_pos c79] at H
           have c79b0 : decide (x11_1 < (t612.length : Int)) = true := decide_eq_true c79
           clear c79
           obtain ⟨bq80, hbq80⟩ : ∃ b_ : Bool, b_ = (rdOf false t612 x11_1) := ⟨_, rfl⟩
           replace H : (if bq80 = true then (if x11_1 < (l2_1.length : Int) then (if rdOf false l2_1 x11_1 = true then (if x11_1 < (t615.length : Int) then (if rdOf false t615 x11_1 = true then (if x11_1 < (t618.length : Int) then (if rdOf false t618 x11_1 = true then (spec_PlaceOk.l0 k1 t609 t612 t615 t618 (wrap64 (x11_1 + 1)) l0_0 l2_0 l2_1) else (some false)) else (none)) else (some false)) else (none)) else (spec_PlaceOk.l0 k1 t609 t612 t615 t618 (wrap64 (x11_1 + 1)) l0_0 l2_0 l2_1)) else (none)) else (some false)) = some r := by rw [← hbq80] at H; exact H
           have Nbq80 := Aside0.mk hbq80
           clear hbq80
           by_cases c81 : bq80 = true
           ·subst c81
            rw [if_pos rfl] at H
            by_cases c82 : x11_1 < (l2_1.length : Int)
            ·rw [if_pos c82] at H
             have c82b0 : decide (x11_1 < (l2_1.length : Int)) = true := decide_eq_true c82
             clear c82
             obtain ⟨bq83, hbq83⟩ : ∃ b_ : Bool, b_ = (rdOf false l2_1 x11_1) := ⟨_, rfl⟩
             replace H : (if bq83 = true then (if x11_1 < (t615.length : Int) then (if rdOf false t615 x11_1 = true then (if x11_1 < (t618.length : Int) then (if rdOf false t618 x11_1 = true then (spec_PlaceOk.l0 k1 t609 t612 t615 t618 (wrap64 (x11_1 + 1)) l0_0 l2_0 l2_1) else (some false)) else (none)) else (some false)) else (none)) else (spec_PlaceOk.l0 k1 t609 t612 t615 t618 (wrap64 (x11_1 + 1)) l0_0 l2_0 l2_1)) = some r := by rw [← hbq83] at H; exact H
             have Nbq83 := Aside0.mk hbq83
             clear hbq83
             by_cases c84 : bq83 = true
             ·subst c84
              rw [if_pos rfl] at H
              by_cases c85 : x11_1 < (t615.length : Int)
              ·rw [if_pos c85] at H
               have c85b0 : decide (x11_1 < (t615.length : Int)) = true := decide_eq_true c85
               clear c85
               obtain ⟨bq86, hbq86⟩ : ∃ b_ : Bool, b_ = (rdOf false t615 x11_1) := ⟨_, rfl⟩
               replace H : (if bq86 = true then (if x11_1 < (t618.length : Int) then (if rdOf false t618 x11_1 = true then (spec_PlaceOk.l0 k1 t609 t612 t615 t618 (wrap64 (x11_1 + 1)) l0_0 l2_0 l2_1) else (some false)) else (none)) else (some false)) = some r := by rw [← hbq86] at H; exact H
               have Nbq86 := Aside0.mk hbq86
               clear hbq86
               by_cases c87 : bq86 = true
               ·subst c87
                rw [if_pos rfl] at H
                by_cases c88 : x11_1 < (t618.length : Int)
                ·rw [if_pos c88] at H
                 have c88b0 : decide (x11_1 < (t618.length : Int)) = true := decide_eq_true c88
                 clear c88
                 obtain ⟨bq89, hbq89⟩ : ∃ b_ : Bool, b_ = (rdOf false t618 x11_1) := ⟨_, rfl⟩
                 replace H : (if bq89 = true then (spec_PlaceOk.l0 k1 t609 t612 t615 t618 (wrap64 (x11_1 + 1)) l0_0 l2_0 l2_1) else (some false)) = some r := by rw [← hbq89] at H; exact H
                 have Nbq89 := Aside0.mk hbq89
                 clear hbq89
                 by_cases c90 : bq89 = true
                 ·subst c90
                  rw [if_pos rfl] at H
                  have H' := Aside0.mk H
                  clear H
                  have hnb91 := NB605_606.out
                  have hnc91 := NB606_605.out
                  have hnb92 := NB605_607.out
                  have hnc92 := NB607_605.out
                  obtain ⟨hcz93, hfz93⟩ := bcf BK605
                  have hnb94 := NB607_606.out
                  have hnc94 := NB606_607.out
                  obtain ⟨hcz95, hfz95⟩ := bcf BK607
                  have p621 : 0 ≤ (x11_1 : Int) := oda
                  have q621 : x11_1 < (l2_0.length : Int) := oda
                  obtain ⟨ad621, e621, hx621_0⟩ := Kd.at_bool HR2_0.out x11_1 p621 q621
                  (try rw [← Nbq36.out] at hx621_0)
                  (try rw [← Nbq39.out] at hx621_0)
                  (try rw [← Nbq80.out] at hx621_0)
                  (try rw [← Nbq83.out] at hx621_0)
                  (try rw [← Nbq86.out] at hx621_0)
                  (try rw [← Nbq89.out] at hx621_0)
                  cases e621
                  replace hx621_0 := hxb HB hx621_0
                  replace p621 := eq_true p621
                  replace q621 := eq_true q621
                  obtain ⟨Ao96, co96, eo96⟩ := Kd.R_slice HO_7.out
                  subst eo96
                  have p622 : 0 ≤ (x11_1 : Int) := oda
                  have q622 : x11_1 < (t609.length : Int) := oda
                  obtain ⟨ad622, e622, hx622_0⟩ := Kd.at_bool (Kd.R_reads' HO_7.out).2.2 x11_1 p622 q622
                  (try rw [← Nbq36.out] at hx622_0)
                  (try rw [← Nbq39.out] at hx622_0)
                  (try rw [← Nbq80.out] at hx622_0)
                  (try rw [← Nbq83.out] at hx622_0)
                  (try rw [← Nbq86.out] at hx622_0)
                  (try rw [← Nbq89.out] at hx622_0)
                  cases e622
                  replace p622 := eq_true p622
                  replace q622 := eq_true q622
                  obtain ⟨Ao97, co97, eo97⟩ := Kd.R_slice HO_8.out
                  subst eo97
                  have p626 : 0 ≤ (x11_1 : Int) := oda
                  have q626 : x11_1 < (t612.length : Int) := oda
                  obtain ⟨ad626, e626, hx626_0⟩ := Kd.at_bool (Kd.R_reads' HO_8.out).2.2 x11_1 p626 q626
                  (try rw [← Nbq36.out] at hx626_0)
                  (try rw [← Nbq39.out] at hx626_0)
                  (try rw [← Nbq80.out] at hx626_0)
                  (try rw [← Nbq83.out] at hx626_0)
                  (try rw [← Nbq86.out] at hx626_0)
                  (try rw [← Nbq89.out] at hx626_0)
                  cases e626
                  replace p626 := eq_true p626
                  replace q626 := eq_true q626
                  have p627 : 0 ≤ (x11_1 : Int) := oda
                  have q627 : x11_1 < (l2_1.length : Int) := oda
                  obtain ⟨ad627, e627, hx627_0⟩ := Kd.at_bool HR2_1.out x11_1 p627 q627
                  (try rw [← Nbq36.out] at hx627_0)
                  (try rw [← Nbq39.out] at hx627_0)
                  (try rw [← Nbq80.out] at hx627_0)
                  (try rw [← Nbq83.out] at hx627_0)
                  (try rw [← Nbq86.out] at hx627_0)
                  (try rw [← Nbq89.out] at hx627_0)
                  cases e627
                  replace hx627_0 := hxb HB hx627_0
                  replace p627 := eq_true p627
                  replace q627 := eq_true q627
                  obtain ⟨Ao98, co98, eo98⟩ := Kd.R_slice HO_9.out
                  subst eo98
                  have p628 : 0 ≤ (x11_1 : Int) := oda
                  have q628 : x11_1 < (t615.length : Int) := oda
                  obtain ⟨ad628, e628, hx628_0⟩ := Kd.at_bool (Kd.R_reads' HO_9.out).2.2 x11_1 p628 q628
                  (try rw [← Nbq36.out] at hx628_0)
                  (try rw [← Nbq39.out] at hx628_0)
                  (try rw [← Nbq80.out] at hx628_0)
                  (try rw [← Nbq83.out] at hx628_0)
                  (try rw [← Nbq86.out] at hx628_0)
                  (try rw [← Nbq89.out] at hx628_0)
                  cases e628
                  replace p628 := eq_true p628
                  replace q628 := eq_true q628
                  obtain ⟨Ao99, co99, eo99⟩ := Kd.R_slice HO_10.out
                  subst eo99
                  have p629 : 0 ≤ (x11_1 : Int) := oda
                  have q629 : x11_1 < (t618.length : Int) := oda
                  obtain ⟨ad629, e629, hx629_0⟩ := Kd.at_bool (Kd.R_reads' HO_10.out).2.2 x11_1 p629 q629
                  (try rw [← Nbq36.out] at hx629_0)
                  (try rw [← Nbq39.out] at hx629_0)
                  (try rw [← Nbq80.out] at hx629_0)
                  (try rw [← Nbq83.out] at hx629_0)
                  (try rw [← Nbq86.out] at hx629_0)
                  (try rw [← Nbq89.out] at hx629_0)
                  cases e629
                  replace p629 := eq_true p629
                  replace q629 := eq_true q629
                  go_wp2
                  go_roundg k1
                  case measure => have := HK1.out; omega
                  case rel => exact ⟨(wrap64 (x11_1 + 1)), (by first | rfl | (simp; done) | (simp [*]; done)), H', ⟨by have := HK1.out; omega⟩, ⟨Rq HO_7.out⟩, ⟨Rq HO_8.out⟩, ⟨Rq HO_9.out⟩, ⟨Rq HO_10.out⟩, ⟨bkq BK605⟩, ⟨bkq BK606⟩, ⟨bkq BK607⟩, ⟨bwq HB⟩⟩
                 ·replace c90 := Bool.eq_false_iff.mpr c90
                  subst c90
                  have H1 : (some false) = some r := by rw [if_neg (show ¬ (false = true) by decide)] at H; exact H
                  clear H
                  have H := H1
                  clear H1
                  obtain rfl := Option.some.inj H
                  have hnb100 := NB605_606.out
                  have hnc100 := NB606_605.out
                  have hnb101 := NB605_607.out
                  have hnc101 := NB607_605.out
                  obtain ⟨hcz102, hfz102⟩ := bcf BK605
                  have hnb103 := NB607_606.out
                  have hnc103 := NB606_607.out
                  obtain ⟨hcz104, hfz104⟩ := bcf BK607
                  have p621 : 0 ≤ (x11_1 : Int) := oda
                  have q621 : x11_1 < (l2_0.length : Int) := oda
                  obtain ⟨ad621, e621, hx621_0⟩ := Kd.at_bool HR2_0.out x11_1 p621 q621
                  (try rw [← Nbq36.out] at hx621_0)
                  (try rw [← Nbq39.out] at hx621_0)
                  (try rw [← Nbq80.out] at hx621_0)
                  (try rw [← Nbq83.out] at hx621_0)
                  (try rw [← Nbq86.out] at hx621_0)
                  (try rw [← Nbq89.out] at hx621_0)
                  cases e621
                  replace hx621_0 := hxb HB hx621_0
                  replace p621 := eq_true p621
                  replace q621 := eq_true q621
                  obtain ⟨Ao105, co105, eo105⟩ := Kd.R_slice HO_7.out
                  subst eo105
                  have p622 : 0 ≤ (x11_1 : Int) := oda
                  have q622 : x11_1 < (t609.length : Int) := oda
                  obtain ⟨ad622, e622, hx622_0⟩ := Kd.at_bool (Kd.R_reads' HO_7.out).2.2 x11_1 p622 q622
                  (try rw [← Nbq36.out] at hx622_0)
                  (try rw [← Nbq39.out] at hx622_0)
                  (try rw [← Nbq80.out] at hx622_0)
                  (try rw [← Nbq83.out] at hx622_0)
                  (try rw [← Nbq86.out] at hx622_0)
                  (try rw [← Nbq89.out] at hx622_0)
                  cases e622
                  replace p622 := eq_true p622
                  replace q622 := eq_true q622
                  obtain ⟨Ao106, co106, eo106⟩ := Kd.R_slice HO_8.out
                  subst eo106
                  have p626 : 0 ≤ (x11_1 : Int) := oda
                  have q626 : x11_1 < (t612.length : Int) := oda
                  obtain ⟨ad626, e626, hx626_0⟩ := Kd.at_bool (Kd.R_reads' HO_8.out).2.2 x11_1 p626 q626
                  (try rw [← Nbq36.out] at hx626_0)
                  (try rw [← Nbq39.out] at hx626_0)
                  (try rw [← Nbq80.out] at hx626_0)
                  (try rw [← Nbq83.out] at hx626_0)
                  (try rw [← Nbq86.out] at hx626_0)
                  (try rw [← Nbq89.out] at hx626_0)
                  cases e626
                  replace p626 := eq_true p626
                  replace q626 := eq_true q626
                  have p627 : 0 ≤ (x11_1 : Int) := oda
                  have q627 : x11_1 < (l2_1.length : Int) := oda
                  obtain ⟨ad627, e627, hx627_0⟩ := Kd.at_bool HR2_1.out x11_1 p627 q627
                  (try rw [← Nbq36.out] at hx627_0)
                  (try rw [← Nbq39.out] at hx627_0)
                  (try rw [← Nbq80.out] at hx627_0)
                  (try rw [← Nbq83.out] at hx627_0)
                  (try rw [← Nbq86.out] at hx627_0)
                  (try rw [← Nbq89.out] at hx627_0)
                  cases e627
                  replace hx627_0 := hxb HB hx627_0
                  replace p627 := eq_true p627
                  replace q627 := eq_true q627
                  obtain ⟨Ao107, co107, eo107⟩ := Kd.R_slice HO_9.out
                  subst eo107
                  have p628 : 0 ≤ (x11_1 : Int) := oda
                  have q628 : x11_1 < (t615.length : Int) := oda
                  obtain ⟨ad628, e628, hx628_0⟩ := Kd.at_bool (Kd.R_reads' HO_9.out).2.2 x11_1 p628 q628
                  (try rw [← Nbq36.out] at hx628_0)
                  (try rw [← Nbq39.out] at hx628_0)
                  (try rw [← Nbq80.out] at hx628_0)
                  (try rw [← Nbq83.out] at hx628_0)
                  (try rw [← Nbq86.out] at hx628_0)
                  (try rw [← Nbq89.out] at hx628_0)
                  cases e628
                  replace p628 := eq_true p628
                  replace q628 := eq_true q628
                  obtain ⟨Ao108, co108, eo108⟩ := Kd.R_slice HO_10.out
                  subst eo108
                  have p629 : 0 ≤ (x11_1 : Int) := oda
                  have q629 : x11_1 < (t618.length : Int) := oda
                  obtain ⟨ad629, e629, hx629_0⟩ := Kd.at_bool (Kd.R_reads' HO_10.out).2.2 x11_1 p629 q629
                  (try rw [← Nbq36.out] at hx629_0)
                  (try rw [← Nbq39.out] at hx629_0)
                  (try rw [← Nbq80.out] at hx629_0)
                  (try rw [← Nbq83.out] at hx629_0)
                  (try rw [← Nbq86.out] at hx629_0)
                  (try rw [← Nbq89.out] at hx629_0)
                  cases e629
                  replace p629 := eq_true p629
                  replace q629 := eq_true q629
                  go_wp2
                  go_ret
                  exact ⟨by first | rfl | (simp [errW_none, errW_some] <;> rfl) | (simp [*, errW_none, errW_some] <;> rfl), bwq HB⟩
                ·rw [if_neg c88] at H
                 exact absurd H (by simp)
               ·replace c87 := Bool.eq_false_iff.mpr c87
                subst c87
                have H1 : (some false) = some r := by rw [if_neg (show ¬ (false = true) by decide)] at H; exact H
                clear H
                have H := H1
                clear H1
                obtain rfl := Option.some.inj H
                have hnb109 := NB605_606.out
                have hnc109 := NB606_605.out
                have hnb110 := NB605_607.out
                have hnc110 := NB607_605.out
                obtain ⟨hcz111, hfz111⟩ := bcf BK605
                have hnb112 := NB607_606.out
                have hnc112 := NB606_607.out
                obtain ⟨hcz113, hfz113⟩ := bcf BK607
                have p621 : 0 ≤ (x11_1 : Int) := oda
                have q621 : x11_1 < (l2_0.length : Int) := oda
                obtain ⟨ad621, e621, hx621_0⟩ := Kd.at_bool HR2_0.out x11_1 p621 q621
                (try rw [← Nbq36.out] at hx621_0)
                (try rw [← Nbq39.out] at hx621_0)
                (try rw [← Nbq80.out] at hx621_0)
                (try rw [← Nbq83.out] at hx621_0)
                (try rw [← Nbq86.out] at hx621_0)
                cases e621
                replace hx621_0 := hxb HB hx621_0
                replace p621 := eq_true p621
                replace q621 := eq_true q621
                obtain ⟨Ao114, co114, eo114⟩ := Kd.R_slice HO_7.out
                subst eo114
                have p622 : 0 ≤ (x11_1 : Int) := oda
                have q622 : x11_1 < (t609.length : Int) := oda
                obtain ⟨ad622, e622, hx622_0⟩ := Kd.at_bool (Kd.R_reads' HO_7.out).2.2 x11_1 p622 q622
                (try rw [← Nbq36.out] at hx622_0)
                (try rw [← Nbq39.out] at hx622_0)
                (try rw [← Nbq80.out] at hx622_0)
                (try rw [← Nbq83.out] at hx622_0)
                (try rw [← Nbq86.out] at hx622_0)
                cases e622
                replace p622 := eq_true p622
                replace q622 := eq_true q622
                obtain ⟨Ao115, co115, eo115⟩ := Kd.R_slice HO_8.out
                subst eo115
                have p626 : 0 ≤ (x11_1 : Int) := oda
                have q626 : x11_1 < (t612.length : Int) := oda
                obtain ⟨ad626, e626, hx626_0⟩ := Kd.at_bool (Kd.R_reads' HO_8.out).2.2 x11_1 p626 q626
                (try rw [← Nbq36.out] at hx626_0)
                (try rw [← Nbq39.out] at hx626_0)
                (try rw [← Nbq80.out] at hx626_0)
                (try rw [← Nbq83.out] at hx626_0)
                (try rw [← Nbq86.out] at hx626_0)
                cases e626
                replace p626 := eq_true p626
                replace q626 := eq_true q626
                have p627 : 0 ≤ (x11_1 : Int) := oda
                have q627 : x11_1 < (l2_1.length : Int) := oda
                obtain ⟨ad627, e627, hx627_0⟩ := Kd.at_bool HR2_1.out x11_1 p627 q627
                (try rw [← Nbq36.out] at hx627_0)
                (try rw [← Nbq39.out] at hx627_0)
                (try rw [← Nbq80.out] at hx627_0)
                (try rw [← Nbq83.out] at hx627_0)
                (try rw [← Nbq86.out] at hx627_0)
                cases e627
                replace hx627_0 := hxb HB hx627_0
                replace p627 := eq_true p627
                replace q627 := eq_true q627
                obtain ⟨Ao116, co116, eo116⟩ := Kd.R_slice HO_9.out
                subst eo116
                have p628 : 0 ≤ (x11_1 : Int) := oda
                have q628 : x11_1 < (t615.length : Int) := oda
                obtain ⟨ad628, e628, hx628_0⟩ := Kd.at_bool (Kd.R_reads' HO_9.out).2.2 x11_1 p628 q628
                (try rw [← Nbq36.out] at hx628_0)
                (try rw [← Nbq39.out] at hx628_0)
                (try rw [← Nbq80.out] at hx628_0)
                (try rw [← Nbq83.out] at hx628_0)
                (try rw [← Nbq86.out] at hx628_0)
                cases e628
                replace p628 := eq_true p628
                replace q628 := eq_true q628
                go_wp2
                go_ret
                exact ⟨by first | rfl | (simp [errW_none, errW_some] <;> rfl) | (simp [*, errW_none, errW_some] <;> rfl), bwq HB⟩
              ·rw [if_neg c85] at H
               exact absurd H (by simp)
             ·replace c84 := Bool.eq_false_iff.mpr c84
              subst c84
              have H1 : (spec_PlaceOk.l0 k1 t609 t612 t615 t618 (wrap64 (x11_1 + 1)) l0_0 l2_0 l2_1) = some r := by rw [if_neg (show ¬ (false = true) by decide)] at H; exact H
              clear H
              have H := H1
              clear H1
              have H' := Aside0.mk H
              clear H
              have hnb117 := NB605_606.out
              have hnc117 := NB606_605.out
              have hnb118 := NB605_607.out
              have hnc118 := NB607_605.out
              obtain ⟨hcz119, hfz119⟩ := bcf BK605
              have hnb120 := NB607_606.out
              have hnc120 := NB606_607.out
              obtain ⟨hcz121, hfz121⟩ := bcf BK607
              have p621 : 0 ≤ (x11_1 : Int) := oda
              have q621 : x11_1 < (l2_0.length : Int) := oda
              obtain ⟨ad621, e621, hx621_0⟩ := Kd.at_bool HR2_0.out x11_1 p621 q621
              (try rw [← Nbq36.out] at hx621_0)
              (try rw [← Nbq39.out] at hx621_0)
              (try rw [← Nbq80.out] at hx621_0)
              (try rw [← Nbq83.out] at hx621_0)
              cases e621
              replace hx621_0 := hxb HB hx621_0
              replace p621 := eq_true p621
              replace q621 := eq_true q621
              obtain ⟨Ao122, co122, eo122⟩ := Kd.R_slice HO_7.out
              subst eo122
              have p622 : 0 ≤ (x11_1 : Int) := oda
              have q622 : x11_1 < (t609.length : Int) := oda
              obtain ⟨ad622, e622, hx622_0⟩ := Kd.at_bool (Kd.R_reads' HO_7.out).2.2 x11_1 p622 q622
              (try rw [← Nbq36.out] at hx622_0)
              (try rw [← Nbq39.out] at hx622_0)
              (try rw [← Nbq80.out] at hx622_0)
              (try rw [← Nbq83.out] at hx622_0)
              cases e622
              replace p622 := eq_true p622
              replace q622 := eq_true q622
              obtain ⟨Ao123, co123, eo123⟩ := Kd.R_slice HO_8.out
              subst eo123
              have p626 : 0 ≤ (x11_1 : Int) := oda
              have q626 : x11_1 < (t612.length : Int) := oda
              obtain ⟨ad626, e626, hx626_0⟩ := Kd.at_bool (Kd.R_reads' HO_8.out).2.2 x11_1 p626 q626
              (try rw [← Nbq36.out] at hx626_0)
              (try rw [← Nbq39.out] at hx626_0)
              (try rw [← Nbq80.out] at hx626_0)
              (try rw [← Nbq83.out] at hx626_0)
              cases e626
              replace p626 := eq_true p626
              replace q626 := eq_true q626
              have p627 : 0 ≤ (x11_1 : Int) := oda
              have q627 : x11_1 < (l2_1.length : Int) := oda
              obtain ⟨ad627, e627, hx627_0⟩ := Kd.at_bool HR2_1.out x11_1 p627 q627
              (try rw [← Nbq36.out] at hx627_0)
              (try rw [← Nbq39.out] at hx627_0)
              (try rw [← Nbq80.out] at hx627_0)
              (try rw [← Nbq83.out] at hx627_0)
              cases e627
              replace hx627_0 := hxb HB hx627_0
              replace p627 := eq_true p627
              replace q627 := eq_true q627
              go_wp2
              go_roundg k1
              case measure => have := HK1.out; omega
              case rel => exact ⟨(wrap64 (x11_1 + 1)), (by first | rfl | (simp; done) | (simp [*]; done)), H', ⟨by have := HK1.out; omega⟩, ⟨Rq HO_7.out⟩, ⟨Rq HO_8.out⟩, ⟨Rq HO_9.out⟩, ⟨Rq HO_10.out⟩, ⟨bkq BK605⟩, ⟨bkq BK606⟩, ⟨bkq BK607⟩, ⟨bwq HB⟩⟩
            ·rw [if_neg c82] at H
             exact absurd H (by simp)
           ·replace c81 := Bool.eq_false_iff.mpr c81
            subst c81
            have H1 : (some false) = some r := by rw [if_neg (show ¬ (false = true) by decide)] at H; exact H
            clear H
            have H := H1
            clear H1
            obtain rfl := Option.some.inj H
            have hnb124 := NB605_606.out
            have hnc124 := NB606_605.out
            have hnb125 := NB605_607.out
            have hnc125 := NB607_605.out
            obtain ⟨hcz126, hfz126⟩ := bcf BK605
            have hnb127 := NB607_606.out
            have hnc127 := NB606_607.out
            obtain ⟨hcz128, hfz128⟩ := bcf BK607
            have p621 : 0 ≤ (x11_1 : Int) := oda
            have q621 : x11_1 < (l2_0.length : Int) := oda
            obtain ⟨ad621, e621, hx621_0⟩ := Kd.at_bool HR2_0.out x11_1 p621 q621
            (try rw [← Nbq36.out] at hx621_0)
            (try rw [← Nbq39.out] at hx621_0)
            (try rw [← Nbq80.out] at hx621_0)
            cases e621
            replace hx621_0 := hxb HB hx621_0
            replace p621 := eq_true p621
            replace q621 := eq_true q621
            obtain ⟨Ao129, co129, eo129⟩ := Kd.R_slice HO_7.out
            subst eo129
            have p622 : 0 ≤ (x11_1 : Int) := oda
            have q622 : x11_1 < (t609.length : Int) := oda
            obtain ⟨ad622, e622, hx622_0⟩ := Kd.at_bool (Kd.R_reads' HO_7.out).2.2 x11_1 p622 q622
            (try rw [← Nbq36.out] at hx622_0)
            (try rw [← Nbq39.out] at hx622_0)
            (try rw [← Nbq80.out] at hx622_0)
            cases e622
            replace p622 := eq_true p622
            replace q622 := eq_true q622
            obtain ⟨Ao130, co130, eo130⟩ := Kd.R_slice HO_8.out
            subst eo130
            have p626 : 0 ≤ (x11_1 : Int) := oda
            have q626 : x11_1 < (t612.length : Int) := oda
            obtain ⟨ad626, e626, hx626_0⟩ := Kd.at_bool (Kd.R_reads' HO_8.out).2.2 x11_1 p626 q626
            (try rw [← Nbq36.out] at hx626_0)
            (try rw [← Nbq39.out] at hx626_0)
            (try rw [← Nbq80.out] at hx626_0)
            cases e626
            replace p626 := eq_true p626
            replace q626 := eq_true q626
            go_wp2
            go_ret
            exact ⟨by first | rfl | (simp [errW_none, errW_some] <;> rfl) | (simp [*, errW_none, errW_some] <;> rfl), bwq HB⟩
          ·rw [if_neg c79] at H
           exact absurd H (by simp)
        ·rw [if_neg c38] at H
         exact absurd H (by simp)
       ·replace c37 := Bool.eq_false_iff.mpr c37
        subst c37
        have H1 : (if x11_1 < (l2_1.length : Int) then (if rdOf false l2_1 x11_1 = true then (if x11_1 < (t615.length : Int) then (if rdOf false t615 x11_1 = true then (if x11_1 < (t618.length : Int) then (if rdOf false t618 x11_1 = true then (spec_PlaceOk.l0 k1 t609 t612 t615 t618 (wrap64 (x11_1 + 1)) l0_0 l2_0 l2_1) else (some false)) else (none)) else (some false)) else (none)) else (spec_PlaceOk.l0 k1 t609 t612 t615 t618 (wrap64 (x11_1 + 1)) l0_0 l2_0 l2_1)) else (none)) = some r := by rw [if_neg (show ¬ (false = true) by decide)] at H; exact H
        clear H
        have H := H1
        clear H1
        by_cases c131 : x11_1 < (l2_1.length : Int)
        ·rw [if_pos c131] at H
         have c131b0 : decide (x11_1 < (l2_1.length : Int)) = true := decide_eq_true c131
         clear c131
         obtain ⟨bq132, hbq132⟩ : ∃ b_ : Bool, b_ = (rdOf false l2_1 x11_1) := ⟨_, rfl⟩
         replace H : (if bq132 = true then (if x11_1 < (t615.length : Int) then (if rdOf false t615 x11_1 = true then (if x11_1 < (t618.length : Int) then (if rdOf false t618 x11_1 = true then (spec_PlaceOk.l0 k1 t609 t612 t615 t618 (wrap64 (x11_1 + 1)) l0_0 l2_0 l2_1) else (some false)) else (none)) else (some false)) else (none)) else (spec_PlaceOk.l0 k1 t609 t612 t615 t618 (wrap64 (x11_1 + 1)) l0_0 l2_0 l2_1)) = some r := by rw [← hbq132] at H; exact H
         have Nbq132 := Aside0.mk hbq132
         clear hbq132
         by_cases c133 : bq132 = true
         ·subst c133
          rw [if_pos rfl] at H
          by_cases c134 : x11_1 < (t615.length : Int)
          ·rw [if_pos c134] at H
           have c134b0 : decide (x11_1 < (t615.length : Int)) = true := decide_eq_true c134
           clear c134
           obtain ⟨bq135, hbq135⟩ : ∃ b_ : Bool, b_ = (rdOf false t615 x11_1) := ⟨_, rfl⟩
           replace H : (if bq135 = true then (if x11_1 < (t618.length : Int) then (if rdOf false t618 x11_1 = true then (spec_PlaceOk.l0 k1 t609 t612 t615 t618 (wrap64 (x11_1 + 1)) l0_0 l2_0 l2_1) else (some false)) else (none)) else (some false)) = some r := by rw [← hbq135] at H; exact H
           have Nbq135 := Aside0.mk hbq135
           clear hbq135
           by_cases c136 : bq135 = true
           ·subst c136
            rw [if_pos rfl] at H
            by_cases c137 : x11_1 < (t618.length : Int)
            ·rw [if_pos c137] at H
             have c137b0 : decide (x11_1 < (t618.length : Int)) = true := decide_eq_true c137
             clear c137
             obtain ⟨bq138, hbq138⟩ : ∃ b_ : Bool, b_ = (rdOf false t618 x11_1) := ⟨_, rfl⟩
             replace H : (if bq138 = true then (spec_PlaceOk.l0 k1 t609 t612 t615 t618 (wrap64 (x11_1 + 1)) l0_0 l2_0 l2_1) else (some false)) = some r := by rw [← hbq138] at H; exact H
             have Nbq138 := Aside0.mk hbq138
             clear hbq138
             by_cases c139 : bq138 = true
             ·subst c139
              rw [if_pos rfl] at H
              have H' := Aside0.mk H
              clear H
              have hnb140 := NB605_606.out
              have hnc140 := NB606_605.out
              have hnb141 := NB605_607.out
              have hnc141 := NB607_605.out
              obtain ⟨hcz142, hfz142⟩ := bcf BK605
              have hnb143 := NB607_606.out
              have hnc143 := NB606_607.out
              obtain ⟨hcz144, hfz144⟩ := bcf BK607
              have p621 : 0 ≤ (x11_1 : Int) := oda
              have q621 : x11_1 < (l2_0.length : Int) := oda
              obtain ⟨ad621, e621, hx621_0⟩ := Kd.at_bool HR2_0.out x11_1 p621 q621
              (try rw [← Nbq36.out] at hx621_0)
              (try rw [← Nbq132.out] at hx621_0)
              (try rw [← Nbq135.out] at hx621_0)
              (try rw [← Nbq138.out] at hx621_0)
              cases e621
              replace hx621_0 := hxb HB hx621_0
              replace p621 := eq_true p621
              replace q621 := eq_true q621
              have p630 : 0 ≤ (x11_1 : Int) := oda
              have q630 : x11_1 < (l2_1.length : Int) := oda
              obtain ⟨ad630, e630, hx630_0⟩ := Kd.at_bool HR2_1.out x11_1 p630 q630
              (try rw [← Nbq36.out] at hx630_0)
              (try rw [← Nbq132.out] at hx630_0)
              (try rw [← Nbq135.out] at hx630_0)
              (try rw [← Nbq138.out] at hx630_0)
              cases e630
              replace hx630_0 := hxb HB hx630_0
              replace p630 := eq_true p630
              replace q630 := eq_true q630
              obtain ⟨Ao145, co145, eo145⟩ := Kd.R_slice HO_9.out
              subst eo145
              have p631 : 0 ≤ (x11_1 : Int) := oda
              have q631 : x11_1 < (t615.length : Int) := oda
              obtain ⟨ad631, e631, hx631_0⟩ := Kd.at_bool (Kd.R_reads' HO_9.out).2.2 x11_1 p631 q631
              (try rw [← Nbq36.out] at hx631_0)
              (try rw [← Nbq132.out] at hx631_0)
              (try rw [← Nbq135.out] at hx631_0)
              (try rw [← Nbq138.out] at hx631_0)
              cases e631
              replace p631 := eq_true p631
              replace q631 := eq_true q631
              obtain ⟨Ao146, co146, eo146⟩ := Kd.R_slice HO_10.out
              subst eo146
              have p632 : 0 ≤ (x11_1 : Int) := oda
              have q632 : x11_1 < (t618.length : Int) := oda
              obtain ⟨ad632, e632, hx632_0⟩ := Kd.at_bool (Kd.R_reads' HO_10.out).2.2 x11_1 p632 q632
              (try rw [← Nbq36.out] at hx632_0)
              (try rw [← Nbq132.out] at hx632_0)
              (try rw [← Nbq135.out] at hx632_0)
              (try rw [← Nbq138.out] at hx632_0)
              cases e632
              replace p632 := eq_true p632
              replace q632 := eq_true q632
              go_wp2
              go_roundg k1
              case measure => have := HK1.out; omega
              case rel => exact ⟨(wrap64 (x11_1 + 1)), (by first | rfl | (simp; done) | (simp [*]; done)), H', ⟨by have := HK1.out; omega⟩, ⟨Rq HO_7.out⟩, ⟨Rq HO_8.out⟩, ⟨Rq HO_9.out⟩, ⟨Rq HO_10.out⟩, ⟨bkq BK605⟩, ⟨bkq BK606⟩, ⟨bkq BK607⟩, ⟨bwq HB⟩⟩
             ·replace c139 := Bool.eq_false_iff.mpr c139
              subst c139
              have H1 : (some false) = some r := by rw [if_neg (show ¬ (false = true) by decide)] at H; exact H
              clear H
              have H := H1
              clear H1
              obtain rfl := Option.some.inj H
              have hnb147 := NB605_606.out
              have hnc147 := NB606_605.out
              have hnb148 := NB605_607.out
              have hnc148 := NB607_605.out
              obtain ⟨hcz149, hfz149⟩ := bcf BK605
              have hnb150 := NB607_606.out
              have hnc150 := NB606_607.out
              obtain ⟨hcz151, hfz151⟩ := bcf BK607
              have p621 : 0 ≤ (x11_1 : Int) := oda
              have q621 : x11_1 < (l2_0.length : Int) := oda
              obtain ⟨ad621, e621, hx621_0⟩ := Kd.at_bool HR2_0.out x11_1 p621 q621
              (try rw [← Nbq36.out] at hx621_0)
              (try rw [← Nbq132.out] at hx621_0)
              (try rw [← Nbq135.out] at hx621_0)
              (try rw [← Nbq138.out] at hx621_0)
              cases e621
              replace hx621_0 := hxb HB hx621_0
              replace p621 := eq_true p621
              replace q621 := eq_true q621
              have p630 : 0 ≤ (x11_1 : Int) := oda
              have q630 : x11_1 < (l2_1.length : Int) := oda
              obtain ⟨ad630, e630, hx630_0⟩ := Kd.at_bool HR2_1.out x11_1 p630 q630
              (try rw [← Nbq36.out] at hx630_0)
              (try rw [← Nbq132.out] at hx630_0)
              (try rw [← Nbq135.out] at hx630_0)
              (try rw [← Nbq138.out] at hx630_0)
              cases e630
              replace hx630_0 := hxb HB hx630_0
              replace p630 := eq_true p630
              replace q630 := eq_true q630
              obtain ⟨Ao152, co152, eo152⟩ := Kd.R_slice HO_9.out
              subst eo152
              have p631 : 0 ≤ (x11_1 : Int) := oda
              have q631 : x11_1 < (t615.length : Int) := oda
              obtain ⟨ad631, e631, hx631_0⟩ := Kd.at_bool (Kd.R_reads' HO_9.out).2.2 x11_1 p631 q631
              (try rw [← Nbq36.out] at hx631_0)
              (try rw [← Nbq132.out] at hx631_0)
              (try rw [← Nbq135.out] at hx631_0)
              (try rw [← Nbq138.out] at hx631_0)
              cases e631
              replace p631 := eq_true p631
              replace q631 := eq_true q631
              obtain ⟨Ao153, co153, eo153⟩ := Kd.R_slice HO_10.out
              subst eo153
              have p632 : 0 ≤ (x11_1 : Int) := oda
              have q632 : x11_1 < (t618.length : Int) := oda
              obtain ⟨ad632, e632, hx632_0⟩ := Kd.at_bool (Kd.R_reads' HO_10.out).2.2 x11_1 p632 q632
              (try rw [← Nbq36.out] at hx632_0)
              (try rw [← Nbq132.out] at hx632_0)
              (try rw [← Nbq135.out] at hx632_0)
              (try rw [← Nbq138.out] at hx632_0)
              cases e632
              replace p632 := eq_true p632
              replace q632 := eq_true q632
              go_wp2
              go_ret
              exact ⟨by first | rfl | (simp [errW_none, errW_some] <;> rfl) | (simp [*, errW_none, errW_some] <;> rfl), bwq HB⟩
            ·rw [if_neg c137] at H
             exact absurd H (by simp)
           ·replace c136 := Bool.eq_false_iff.mpr c136
            subst c136
            have H1 : (some false) = some r := by rw [if_neg (show ¬ (false = true) by decide)] at H; exact H
            clear H
            have H := H1
            clear H1
            obtain rfl := Option.some.inj H
            have hnb154 := NB605_606.out
            have hnc154 := NB606_605.out
            have hnb155 := NB605_607.out
            have hnc155 := NB607_605.out
            obtain ⟨hcz156, hfz156⟩ := bcf BK605
            have hnb157 := NB607_606.out
            have hnc157 := NB606_607.out
            obtain ⟨hcz158, hfz158⟩ := bcf BK607
            have p621 : 0 ≤ (x11_1 : Int) := oda
            have q621 : x11_1 < (l2_0.length : Int) := oda
            obtain ⟨ad621, e621, hx621_0⟩ := Kd.at_bool HR2_0.out x11_1 p621 q621
            (try rw [← Nbq36.out] at hx621_0)
            (try rw [← Nbq132.out] at hx621_0)
            (try rw [← Nbq135.out] at hx621_0)
            cases e621
            replace hx621_0 := hxb HB hx621_0
            replace p621 := eq_true p621
            replace q621 := eq_true q621
            have p630 : 0 ≤ (x11_1 : Int) := oda
            have q630 : x11_1 < (l2_1.length : Int) := oda
            obtain ⟨ad630, e630, hx630_0⟩ := Kd.at_bool HR2_1.out x11_1 p630 q630
            (try rw [← Nbq36.out] at hx630_0)
            (try rw [← Nbq132.out] at hx630_0)
            (try rw [← Nbq135.out] at hx630_0)
            cases e630
            replace hx630_0 := hxb HB hx630_0
            replace p630 := eq_true p630
            replace q630 := eq_true q630
            obtain ⟨Ao159, co159, eo159⟩ := Kd.R_slice HO_9.out
            subst eo159
            have p631 : 0 ≤ (x11_1 : Int) := oda
            have q631 : x11_1 < (t615.length : Int) := oda
            obtain ⟨ad631, e631, hx631_0⟩ := Kd.at_bool (Kd.R_reads' HO_9.out).2.2 x11_1 p631 q631
            (try rw [← Nbq36.out] at hx631_0)
            (try rw [← Nbq132.out] at hx631_0)
            (try rw [← Nbq135.out] at hx631_0)
            cases e631
            replace p631 := eq_true p631
            replace q631 := eq_true q631
            go_wp2
            go_ret
            exact ⟨by first | rfl | (simp [errW_none, errW_some] <;> rfl) | (simp [*, errW_none, errW_some] <;> rfl), bwq HB⟩
          ·rw [if_neg c134] at H
           exact absurd H (by simp)
         ·replace c133 := Bool.eq_false_iff.mpr c133
          subst c133
          have H1 : (spec_PlaceOk.l0 k1 t609 t612 t615 t618 (wrap64 (x11_1 + 1)) l0_0 l2_0 l2_1) = some r := by rw [if_neg (show ¬ (false = true) by decide)] at H; exact H
          clear H
          have H := H1
          clear H1
          have H' := Aside0.mk H
          clear H
          have hnb160 := NB605_606.out
          have hnc160 := NB606_605.out
          have hnb161 := NB605_607.out
          have hnc161 := NB607_605.out
          obtain ⟨hcz162, hfz162⟩ := bcf BK605
          have hnb163 := NB607_606.out
          have hnc163 := NB606_607.out
          obtain ⟨hcz164, hfz164⟩ := bcf BK607
          have p621 : 0 ≤ (x11_1 : Int) := oda
          have q621 : x11_1 < (l2_0.length : Int) := oda
          obtain ⟨ad621, e621, hx621_0⟩ := Kd.at_bool HR2_0.out x11_1 p621 q621
          (try rw [← Nbq36.out] at hx621_0)
          (try rw [← Nbq132.out] at hx621_0)
          cases e621
          replace hx621_0 := hxb HB hx621_0
          replace p621 := eq_true p621
          replace q621 := eq_true q621
          have p630 : 0 ≤ (x11_1 : Int) := oda
          have q630 : x11_1 < (l2_1.length : Int) := oda
          obtain ⟨ad630, e630, hx630_0⟩ := Kd.at_bool HR2_1.out x11_1 p630 q630
          (try rw [← Nbq36.out] at hx630_0)
          (try rw [← Nbq132.out] at hx630_0)
          cases e630
          replace hx630_0 := hxb HB hx630_0
          replace p630 := eq_true p630
          replace q630 := eq_true q630
          go_wp2
          go_roundg k1
          case measure => have := HK1.out; omega
          case rel => exact ⟨(wrap64 (x11_1 + 1)), (by first | rfl | (simp; done) | (simp [*]; done)), H', ⟨by have := HK1.out; omega⟩, ⟨Rq HO_7.out⟩, ⟨Rq HO_8.out⟩, ⟨Rq HO_9.out⟩, ⟨Rq HO_10.out⟩, ⟨bkq BK605⟩, ⟨bkq BK606⟩, ⟨bkq BK607⟩, ⟨bwq HB⟩⟩
        ·rw [if_neg c131] at H
         exact absurd H (by simp)
      ·rw [if_neg c35] at H
       exact absurd H (by simp)
     ·rw [if_neg c34] at H
      exact absurd H (by simp)
    ·rw [if_neg c33] at H
     have c33b0 : decide (x11_1 < (l0_0.length : Int)) = false := decide_eq_false c33
     clear c33
     obtain rfl := Option.some.inj H
     have hnb165 := NB605_606.out
     have hnc165 := NB606_605.out
     have hnb166 := NB605_607.out
     have hnc166 := NB607_605.out
     obtain ⟨hcz167, hfz167⟩ := bcf BK605
     go_wp2
     go_ret
     exact ⟨by first | rfl | (simp [errW_none, errW_some] <;> rfl) | (simp [*, errW_none, errW_some] <;> rfl), bwq HB⟩
 ·replace c5 := Bool.eq_false_iff.mpr c5
  subst c5
  have H1 : (some false) = some r := by rw [if_neg (show ¬ (false = true) by decide)] at H; exact H
  clear H
  have H := H1
  clear H1
  obtain rfl := Option.some.inj H
  go_enter Try.func29, Try.ntmps29
  go_wp2_with (first | ((with_reducible refine gate_dst (N := 3) rfl ?_); refine bxe (cs := #[.slice A0_0 l0_0.length c0_0]) (t := 38) ?_; intro gb605 hg w168 hbox hb; have BK605 := Aside0.mk (hbox); have GW605 := bwz HB hg; have GE605 := bwz HB hg; replace HB := bwb HB hb; clear hb hbox hg) | ((with_reducible refine gate_dst (N := 4) rfl ?_); refine bxe (cs := #[.int .i64 a1_0, .int .i64 a1_1, .int .i64 a1_2, .int .i64 a1_3, .int .i64 a1_4]) (t := 42) ?_; intro gb606 hg w169 hbox hb; have BK606 := Aside0.mk (hbox); have GW606 := bwz HB hg; have GE606 := bwz HB hg; replace HB := bwb HB hb; have NB605_606 := bkl BK605 hg; have NB606_605 := bkg BK605 hg; replace BK605 := bkb BK605 hb; clear hb hbox hg) | ((with_reducible refine gate_dst (N := 5) rfl ?_); refine bxe (cs := #[.slice A2_0 l2_0.length c2_0, .slice A2_1 l2_1.length c2_1]) (t := 44) ?_; intro gb607 hg w170 hbox hb; have BK607 := Aside0.mk (hbox); have GW607 := bwz HB hg; have GE607 := bwz HB hg; replace HB := bwb HB hb; have NB605_607 := bkl BK605 hg; have NB607_605 := bkg BK605 hg; replace BK605 := bkb BK605 hb; have NB606_607 := bkl BK606 hg; have NB607_606 := bkg BK606 hg; replace BK606 := bkb BK606 hb; clear hb hbox hg; have hnb171 := NB605_606.out; have hnc171 := NB606_605.out; have hnb172 := NB605_607.out; have hnc172 := NB607_605.out; obtain ⟨hcz173, hfz173⟩ := bcf BK605; have hnb174 := NB606_607.out; have hnc174 := NB607_606.out; obtain ⟨hcz175, hfz175⟩ := bcf BK606; obtain ⟨hcz176, hfz176⟩ := bcf BK607) | ((with_reducible refine gate_callee (f := 44) rfl ?_); refine goesM (some 15) rfl rfl Try.func44 #[.agg #[.slice A0_0 l0_0.length c0_0], .agg #[.int .i64 a1_0, .int .i64 a1_1, .int .i64 a1_2, .int .i64 a1_3, .int .i64 a1_4], .agg #[.slice A2_0 l2_0.length c2_0, .slice A2_1 l2_1.length c2_1]] rfl ?_; (with_reducible refine (spec_l13Form.calls k _ _ l0_0 a1_0 a1_1 a1_2 a1_3 a1_4 _ _ l2_0 _ _ l2_1 false _ ?side1 ?side2 ?side3 ?side4 ?side5 ?side6 A4.out).mono ?_); (case side1 => exact Cq (Kd.C_below HR0_0.out HB.out)); (case side2 => exact HC0_0.out); (case side3 => exact Cq (Kd.C_below HR2_0.out HB.out)); (case side4 => exact HC2_0.out); (case side5 => exact Cq (Kd.C_below HR2_1.out HB.out)); (case side6 => exact HC2_1.out); rintro e w177 ⟨rfl, hb⟩; refine ⟨_, rfl, ?_⟩; replace BK605 := bkb BK605 hb; replace BK606 := bkb BK606 hb; replace BK607 := bkb BK607 hb; replace HB := bwb HB hb; (try clear hb); (try clear hb2); (try clear hk); (try clear hi)))
  go_ret
  exact ⟨by first | rfl | (simp [errW_none, errW_some] <;> rfl) | (simp [*, errW_none, errW_some] <;> rfl), bwq HB⟩
def spec_PlaceNone.B3 : List Nat := [0, 1, 3, 7, 0, 16, 48, 112, 255, 511]
def spec_PlaceBusy.B3 : List Nat := [0, 0, 3, 0, 0, 31, 63, 0, 255]
def spec_PlaceBusy.T8 : Bool × List (List Nat × List Nat) := (true, [([], []), ([0], [0]), ([], []), ([], []), ([3], [3]), ([], []), ([4, 5], [4, 5]), ([6], [6]), ([7], [7]), ([8], [8]), ([8], [8]), ([9, 10, 8], [8, 9, 10]), ([11, 8], [8, 11]), ([8, 12], [8, 12]), ([1, 2, 0, 1, 2, 3, 4, 5, 6, 7, 8, 9, 10, 11, 12, 13], [1, 2]), ([14, 13, 8, 0, 1, 2, 3, 4, 5, 6, 7, 8, 9, 10, 11, 12, 13], [13, 14])])
def spec_PlaceBusy.B8 : List Nat := [0, 1, 0, 0, 8, 0, 56, 120, 248, 504, 504, 2040, 4088, 8184, 16383, 32767]
theorem spec_PlaceBusy.tab8 : rtab .any (opsOf Try.f33 8) = spec_PlaceBusy.T8 := by kernel_rfl
theorem spec_PlaceBusy.bits8 : waitsOk spec_PlaceBusy.T8.2 spec_PlaceBusy.B8 = true := by kernel_rfl
end Go.Proofs.Ytcgbbhkjkkpfoaa.P
