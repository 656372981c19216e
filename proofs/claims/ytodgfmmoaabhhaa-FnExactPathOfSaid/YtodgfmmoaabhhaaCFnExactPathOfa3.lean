/- FnExactPathOf: for every argument the law returns true, and each argument reads behind the call as it read before; no condition. Part 4 of 5: written together by a program out of the session's texts and what the print wrote. -/
import Derived.Test.YtodgfmmoaabhhaaCFnExactPathOfa2
namespace Go.Proofs.Ytodgfmmoaabhhaa.P
open Go.RowKit Go.Proofs.YtodgfmmoaabhhaaW.PrintWords Go.Proofs.YtodgfmmoaabhhaaW.PrintLast Go.Proofs.YtodgfmmoaabhhaaW.PrintMore
attribute [local go_sem] max2_int min2_int max_two min_two max_three min_three max_four min_four
set_option linter.unusedVariables false
set_option linter.unusedSimpArgs false
mutual
def spec_ProgOk.j0 : Nat → Bool → List (S69) → Option (Bool)
 | 0, _, _ => none
 | k + 1, x13, x123000 => if x13 = true then (some false) else (spec_ProgOk.l0 k 0 x123000)
def spec_ProgOk.l0 : Nat → Int → List (S69) → Option (Bool)
 | 0, _, _ => none
 | k + 1, x3, x123000 => if x3 < (x123000.length : Int) then (if 0 ≤ x3 then ((spec_l1Step.f k ((rd_T69 x123000 x3).f0) ((rd_T69 x123000 x3).f1) ((rd_T69 x123000 x3).f2) ((rd_T69 x123000 x3).f3.f0) ((rd_T69 x123000 x3).f3.f1) ((rd_T69 x123000 x3).f4.f0) ((rd_T69 x123000 x3).f4.f1) ((rd_T69 x123000 x3).f5) (x123000.length : Int)).bind fun t124 => (if t124 = true then (spec_ProgOk.l0 k (wrap64 (x3 + 1)) x123000) else (some false))) else (none)) else (some true)
end
def spec_ProgOk.f (k : Nat) (l0_0 : List (S69)) : Option (Bool) := if (l0_0.length : Int) < 1 then (spec_ProgOk.j0 k true l0_0) else (spec_ProgOk.j0 k (decide ((l0_0.length : Int) > 60)) l0_0)
def spec_ProgOk.T6 : Bool × List (List Nat × List Nat) := (true, [([], []), ([0], [0]), ([], []), ([1, 2], [1, 2]), ([3], [3]), ([], []), ([5], [5]), ([6], [6]), ([4, 7], [4, 7]), ([8], [8])])
def spec_ProgOk.B6 : List Nat := [0, 1, 0, 7, 15, 0, 32, 96, 255, 511]
theorem spec_ProgOk.tab6 : rtab .any (opsOf Try.f34 6) = spec_ProgOk.T6 := by kernel_rfl
theorem spec_ProgOk.bits6 : waitsOk spec_ProgOk.T6.2 spec_ProgOk.B6 = true := by kernel_rfl
set_option maxHeartbeats 8000000 in
set_option maxRecDepth 100000 in
theorem spec_ProgOk.calls (k : Nat) (A0_0 : Option Addr) (c0_0 : Nat) (l0_0 : List (S69)) (r : Bool) (w : World) (hr0_0 : Kd.C k69 w A0_0 l0_0.length l0_0) (hc0_0 : l0_0.length ≤ c0_0) (h : spec_ProgOk.f k l0_0 = some r) :
  Calls Try.prog 34 #[.agg #[.slice A0_0 l0_0.length c0_0]] w fun e w' => e = .returned (.bool r) ∧ Below w.heap.size w w' := by
 have hu30 := Try.underlying30
 have hu69 := Try.underlying69
 have HR0_0 := Aside0.mk hr0_0
 have HC0_0 := Aside0.mk hc0_0
 clear hr0_0 hc0_0
 have HB := Aside0.mk (Below.refl w.heap.size w)
 have H : (if (l0_0.length : Int) < 1 then (spec_ProgOk.j0 k true l0_0) else (spec_ProgOk.j0 k (decide ((l0_0.length : Int) > 60)) l0_0)) = some r := h
 clear h
 have HC2 := Aside0.mk H
 clear H
 go_enter Try.func34, Try.ntmps34
 go_upto_region 1 with (first | ((with_reducible refine gate_dst (N := 1) rfl ?_); (try (refine gate_guard (by rfl) ?_; dsimp only)); refine box_event ?hg (N := 1) ?hd (cs := #[.slice A0_0 l0_0.length c0_0]) (t := 30) ?hr ?_; (case hd => rfl); (case hg => rfl); (case hr => first | (go_simp; done) | (go_simp; rfl) | (go_simp; rfl)); intro gb122 hg w3 hbox hb; have n0_ := Aside0.mk (below_step (by repeat (first | (with_reducible first | exact HB.out | apply below_alloc | apply pw_below_drewN | apply below_drew1) | exact HB.out)) hb); have n1_ := Aside0.mk (hbox); have n2_ := Aside0.mk ((by rw [hg]; exact (below_size (by repeat (first | (with_reducible first | exact HB.out | apply below_alloc | apply pw_below_drewN | apply below_drew1) | exact HB.out))) : w.heap.size ≤ gb122)); have n3_ := Aside0.mk ((by rw [hg]; exact (below_size (by repeat (first | (with_reducible first | exact HB.out | apply below_alloc | apply pw_below_drewN | apply below_drew1) | exact HB.out))) : w.heap.size ≤ gb122)); clear HB; have HB := n0_; have BK122 := n1_; have GW122 := n2_; have GE122 := n3_; clear n0_ n1_ n2_ n3_; clear hb hbox hg))
 (try simp only [Act.put, List.setIfInBounds_toArray, List.set_cons_zero, List.set_cons_succ])
 go_cut [13] (fun v13 wc => ∃ (kq : Nat) (x13_1 : Bool), v13 = .bool x13_1 ∧ Aside0 (spec_ProgOk.j0 kq x13_1 l0_0 = some r) ∧ Aside0 (kq ≤ k) ∧ Aside0 (wc.heap[gb122]? = some (.cells #[(.slice A0_0 l0_0.length c0_0)] 30 (0, 0))) ∧ Aside0 (Below w.heap.size w wc))
 case first =>
  have H := HC2.out
  clear HC2
  by_cases c4 : (l0_0.length : Int) < 1
  ·rw [if_pos c4] at H
   have c4b0 : decide ((l0_0.length : Int) < 1) = true := decide_eq_true c4
   have c4b1 : decide (l0_0.length < 1) = true := decide_eq_true (by omega)
   clear c4
   (first | rw [c4b0] | (simp only [i64_w, i32_w]; rw [c4b0]) | skip)
   have H' := Aside0.mk H
   clear H
   have hcz5_0 : w3.cell? ⟨gb122, 0, none⟩ = some (.slice A0_0 l0_0.length c0_0) := (blk_cell BK122.out 0).trans rfl
   have hfz5_0 := blk_frozen BK122.out 0
   go_wp2
   go_meet
   case rel => exact ⟨_, (true), (by first | rfl | (simp; done) | (simp [*]; done)), H', ⟨by first | omega | exact Nat.le_refl _⟩, ⟨by (with_reducible repeat (first | refine blk_drewN ?_ _ | refine blk_drew ?_ | refine blk_alloc ?_ _)); exact BK122.out⟩, ⟨by repeat (first | (with_reducible first | exact HB.out | apply below_alloc | apply pw_below_drewN | apply below_drew1 | refine below_set ?_ GE122.out) | exact HB.out)⟩⟩
  ·rw [if_neg c4] at H
   have c4b0 : decide ((l0_0.length : Int) < 1) = false := decide_eq_false c4
   have c4b1 : decide (l0_0.length < 1) = false := decide_eq_false (by omega)
   clear c4
   (first | rw [c4b0] | (simp only [i64_w, i32_w]; rw [c4b0]) | skip)
   have H' := Aside0.mk H
   clear H
   have hcz6_0 : w3.cell? ⟨gb122, 0, none⟩ = some (.slice A0_0 l0_0.length c0_0) := (blk_cell BK122.out 0).trans rfl
   have hfz6_0 := blk_frozen BK122.out 0
   go_wp2
   go_meet
   case rel => exact ⟨_, (decide ((l0_0.length : Int) > 60)), (by first | rfl | (simp; done) | (simp [*]; done)), H', ⟨by first | omega | exact Nat.le_refl _⟩, ⟨by (with_reducible repeat (first | refine blk_drewN ?_ _ | refine blk_drew ?_ | refine blk_alloc ?_ _)); exact BK122.out⟩, ⟨by repeat (first | (with_reducible first | exact HB.out | apply below_alloc | apply pw_below_drewN | apply below_drew1 | refine below_set ?_ GE122.out) | exact HB.out)⟩⟩
 case rest =>
  clear HC2
  try clear p2
  try clear c3
  try clear c4
  try clear c4b0
  try clear c4b1
  try clear hcz5_0
  try clear hcz6_0
  try clear hfz5_0
  try clear hfz6_0
  obtain ⟨kq, x13_1, rfl, HA, HJ1, BK122, HB⟩ := hcut
  cases kq with
  | zero => exact absurd HA.out (by intro h_; first | (cases h_; done) | (simp [spec_ProgOk.j0] at h_))
  | succ kj1 =>
   have H := HA.out
   clear HA
   simp only [spec_ProgOk.j0] at H
   by_cases c7 : x13_1 = true
   ·subst c7
    have H1 : (some false) = some r := by rw [if_pos rfl] at H; exact H
    clear H
    have H := H1
    clear H1
    obtain rfl := Option.some.inj H
    go_wp2
    go_ret
    exact ⟨by first | rfl | (simp [errW_none, errW_some] <;> rfl) | (simp [*, errW_none, errW_some] <;> rfl), by repeat (first | (with_reducible first | exact HB.out | apply below_alloc | apply pw_below_drewN | apply below_drew1 | refine below_set ?_ GE122.out) | exact HB.out)⟩
   ·replace c7 := Bool.eq_false_iff.mpr c7
    subst c7
    have H1 : (spec_ProgOk.l0 kj1 0 l0_0) = some r := by rw [if_neg (show ¬ (false = true) by decide)] at H; exact H
    clear H
    have H := H1
    clear H1
    have H' := Aside0.mk H
    clear H
    go_wp2
    go_loopg [3] kj1 (fun kq v3 w' => ∃ (x3_2 : Int), v3 = .int .i64 x3_2 ∧ Aside0 (spec_ProgOk.l0 kq x3_2 l0_0 = some r) ∧ Aside0 (kq ≤ kj1) ∧ Aside0 (w'.heap[gb122]? = some (.cells #[(.slice A0_0 l0_0.length c0_0)] 30 (0, 0))) ∧ Aside0 (Below w.heap.size w w'))
    case atStart => exact ⟨(0), (by first | rfl | (simp; done) | (simp [*]; done)), H', ⟨Nat.le_refl _⟩, ⟨by (with_reducible repeat (first | refine blk_drewN ?_ _ | refine blk_drew ?_ | refine blk_alloc ?_ _)); exact BK122.out⟩, ⟨by repeat (first | (with_reducible first | exact HB.out | apply below_alloc | apply pw_below_drewN | apply below_drew1 | refine below_set ?_ GE122.out) | exact HB.out)⟩⟩
    case round =>
     clear H'
     try clear p2
     try clear c3
     try clear c4
     try clear c4b0
     try clear c4b1
     try clear c7
     try clear hcz5_0
     try clear hcz6_0
     try clear hfz5_0
     try clear hfz6_0
     try clear p2
     obtain ⟨x3_2, rfl, HA, HK2, BK122, HB⟩ := hrel
     cases gk with
     | zero => exact absurd HA.out (by intro h_; first | (cases h_; done) | (simp [spec_ProgOk.l0] at h_))
     | succ k2 =>
      have H := HA.out
      clear HA
      simp only [spec_ProgOk.l0] at H
      by_cases c8 : x3_2 < (l0_0.length : Int)
      ·rw [if_pos c8] at H
       have c8b0 : decide (x3_2 < (l0_0.length : Int)) = true := decide_eq_true c8
       clear c8
       by_cases c9 : 0 ≤ x3_2
       ·rw [if_pos c9] at H
        have c9b0 : decide (0 ≤ x3_2) = true := decide_eq_true c9
        clear c9
        replace H := Option.bind_eq_some_iff.mp H
        obtain ⟨t124, A100, H⟩ := H
        replace H : (if t124 = true then (spec_ProgOk.l0 k2 (wrap64 (x3_2 + 1)) l0_0) else (some false)) = some r := H
        have A10 := Aside0.mk A100
        clear A100
        by_cases c11 : t124 = true
        ·subst c11
         have H1 : (spec_ProgOk.l0 k2 (wrap64 (x3_2 + 1)) l0_0) = some r := by rw [if_pos rfl] at H; exact H
         clear H
         have H := H1
         clear H1
         have H' := Aside0.mk H
         clear H
         have hcz12_0 : wr.cell? ⟨gb122, 0, none⟩ = some (.slice A0_0 l0_0.length c0_0) := (blk_cell BK122.out 0).trans rfl
         have hfz12_0 := blk_frozen BK122.out 0
         try go_wp2
         have n0_ := Aside0.mk (blk_drew BK122.out)
         have n1_ := Aside0.mk (below_drew1 HB.out)
         clear BK122
         clear HB
         have BK122 := n0_
         have HB := n1_
         clear n0_ n1_
         have p123 : 0 ≤ (x3_2 : Int) := of_decide_eq_true (by first | (with_reducible assumption) | assumption)
         have q123 : x3_2 < (l0_0.length : Int) := of_decide_eq_true (by first | (with_reducible assumption) | assumption)
         obtain ⟨ad123, A123_7, c123_7, e123, hx123_0, hx123_1, hx123_2, hx123_3, hx123_4, hx123_5, hx123_6, hx123_7, hl123_7, hi123_7⟩ := at_T69 HR0_0.out x3_2 p123 q123
         have hw123_7 := hx123_7
         have hw123_6 := hx123_6
         have hw123_5 := hx123_5
         have hw123_4 := hx123_4
         have hw123_3 := hx123_3
         have hw123_2 := hx123_2
         have hw123_1 := hx123_1
         have hw123_0 := hx123_0
         cases e123
         replace hx123_0 := (HB.out.cell (World.block_lt_of_cell? w _ hx123_0)).trans hx123_0
         replace hx123_1 := (HB.out.cell (World.block_lt_of_cell? w _ hx123_1)).trans hx123_1
         replace hx123_2 := (HB.out.cell (World.block_lt_of_cell? w _ hx123_2)).trans hx123_2
         replace hx123_3 := (HB.out.cell (World.block_lt_of_cell? w _ hx123_3)).trans hx123_3
         replace hx123_4 := (HB.out.cell (World.block_lt_of_cell? w _ hx123_4)).trans hx123_4
         replace hx123_5 := (HB.out.cell (World.block_lt_of_cell? w _ hx123_5)).trans hx123_5
         replace hx123_6 := (HB.out.cell (World.block_lt_of_cell? w _ hx123_6)).trans hx123_6
         replace hx123_7 := (HB.out.cell (World.block_lt_of_cell? w _ hx123_7)).trans hx123_7
         have HR123_7 := Aside0.mk hi123_7
         have HC123_7 := Aside0.mk hl123_7
         clear hi123_7 hl123_7
         replace p123 := eq_true p123
         replace q123 := eq_true q123
         refine start_ (n := 10) (S := fun w' => w'.cell? ⟨gb122, 0, none⟩ = some (.slice (some ad123) l0_0.length c0_0) ∧ w'.cell? (ad123.add ((x3_2).toNat * 8)) = some (.int .i64 ((rd_T69 l0_0 x3_2).f0)) ∧ w'.cell? ⟨(ad123.add ((x3_2).toNat * 8)).block, (ad123.add ((x3_2).toNat * 8)).off + 1, none⟩ = some (.int .i64 ((rd_T69 l0_0 x3_2).f1)) ∧ w'.cell? ⟨(ad123.add ((x3_2).toNat * 8)).block, (ad123.add ((x3_2).toNat * 8)).off + 2, none⟩ = some (.int .i64 ((rd_T69 l0_0 x3_2).f2)) ∧ w'.cell? ⟨(ad123.add ((x3_2).toNat * 8)).block, (ad123.add ((x3_2).toNat * 8)).off + 3, none⟩ = some (.int .i64 ((rd_T69 l0_0 x3_2).f3.f0)) ∧ w'.cell? ⟨(ad123.add ((x3_2).toNat * 8)).block, (ad123.add ((x3_2).toNat * 8)).off + 4, none⟩ = some (.int .i64 ((rd_T69 l0_0 x3_2).f3.f1)) ∧ w'.cell? ⟨(ad123.add ((x3_2).toNat * 8)).block, (ad123.add ((x3_2).toNat * 8)).off + 5, none⟩ = some (.int .i64 ((rd_T69 l0_0 x3_2).f4.f0)) ∧ w'.cell? ⟨(ad123.add ((x3_2).toNat * 8)).block, (ad123.add ((x3_2).toNat * 8)).off + 6, none⟩ = some (.int .i64 ((rd_T69 l0_0 x3_2).f4.f1)) ∧ w'.cell? ⟨(ad123.add ((x3_2).toNat * 8)).block, (ad123.add ((x3_2).toNat * 8)).off + 7, none⟩ = some (.slice A123_7 ((rd_T69 l0_0 x3_2).f5).length c123_7)) (ds := []) #[false, false, false, false, false, false, false, false, false, false] (by kernel_rfl) rfl rfl ⟨(blk_cell BK122.out 0).trans rfl, ((HB.out.cell (World.block_lt_of_cell? w _ hw123_0)).trans hw123_0), ((HB.out.cell (World.block_lt_of_cell? w _ hw123_1)).trans hw123_1), ((HB.out.cell (World.block_lt_of_cell? w _ hw123_2)).trans hw123_2), ((HB.out.cell (World.block_lt_of_cell? w _ hw123_3)).trans hw123_3), ((HB.out.cell (World.block_lt_of_cell? w _ hw123_4)).trans hw123_4), ((HB.out.cell (World.block_lt_of_cell? w _ hw123_5)).trans hw123_5), ((HB.out.cell (World.block_lt_of_cell? w _ hw123_6)).trans hw123_6), ((HB.out.cell (World.block_lt_of_cell? w _ hw123_7)).trans hw123_7)⟩ (fun hHeld => ?_); refine with_tabW spec_ProgOk.tab6 spec_ProgOk.bits6 (fun HT_ HW_ => ?_)
         generalize wr.drew = w13 at BK122 HB HR123_7 hx123_0 hx123_1 hx123_2 hx123_3 hx123_4 hx123_5 hx123_6 hx123_7 hHeld ⊢
         refine pure_ (i := 0) (N := some 21) (v := ?_) (a' := ?_) #[true, false, false, false, false, false, false, false, false, false] rfl rfl (any_of HT_.out (by kernel_rfl)) (fun _ _ _ h => h) (Or.inl ⟨by rfl, ?_⟩) ?_ ?_
         rotate_left
         ·intro w'
          go_simp
          with_reducible rfl
         rotate_left
         ·simp only [Act.put, List.setIfInBounds_toArray, List.set_cons_zero, List.set_cons_succ, i64_w, i32_w]
          rfl
         refine pure_ (i := 2) (N := some 23) (v := ?_) (a' := ?_) #[true, false, true, false, false, false, false, false, false, false] rfl rfl (any_of HT_.out (by kernel_rfl)) (fun _ _ _ h => h) (Or.inl ⟨by rfl, ?_⟩) ?_ ?_
         rotate_left
         ·intro w'
          go_simp
          with_reducible rfl
         rotate_left
         ·simp only [Act.put, List.setIfInBounds_toArray, List.set_cons_zero, List.set_cons_succ, i64_w, i32_w]
          rfl
         refine pure_ (i := 5) (N := some 26) (v := ?_) (a' := ?_) #[true, false, true, false, false, true, false, false, false, false] rfl rfl (any_of HT_.out (by kernel_rfl)) (fun _ _ _ h => h) (Or.inl ⟨by rfl, ?_⟩) ?_ ?_
         rotate_left
         ·intro w'
          go_simp
          with_reducible rfl
         rotate_left
         ·simp only [Act.put, List.setIfInBounds_toArray, List.set_cons_zero, List.set_cons_succ, i64_w, i32_w]
          rfl
         refine take_ (i := 1) (N := some 22) (v := ?_) (a' := ?_) #[true, true, true, false, false, true, false, false, false, false] rfl rfl (take_ofW HT_.out HW_.out (by kernel_rfl)) (fun _ _ _ h => h) (Or.inl ⟨by rfl, ?_⟩) hHeld ?_ ?_
         rotate_left
         ·rintro w' ⟨s0, s1, s2, s3, s4, s5, s6, s7, s8⟩
          go_simp
          with_reducible rfl
         rotate_left
         ·simp only [Act.put, List.setIfInBounds_toArray, List.set_cons_zero, List.set_cons_succ, i64_w, i32_w]
          rfl
         refine pure_ (i := 3) (N := some 24) (v := ?_) (a' := ?_) #[true, true, true, true, false, true, false, false, false, false] rfl rfl (any_of HT_.out (by kernel_rfl)) (fun _ _ _ h => h) (Or.inl ⟨by rfl, ?_⟩) ?_ ?_
         rotate_left
         ·intro w'
          go_simp
          with_reducible rfl
         rotate_left
         ·simp only [Act.put, List.setIfInBounds_toArray, List.set_cons_zero, List.set_cons_succ, i64_w, i32_w]
          rfl
         refine take_ (i := 4) (N := some 25) (v := ?_) (a' := ?_) #[true, true, true, true, true, true, false, false, false, false] rfl rfl (take_ofW HT_.out HW_.out (by kernel_rfl)) (fun _ _ _ h => h) (Or.inl ⟨by rfl, ?_⟩) hHeld ?_ ?_
         rotate_left
         ·rintro w' ⟨s0, s1, s2, s3, s4, s5, s6, s7, s8⟩
          go_simp
          with_reducible rfl
         rotate_left
         ·simp only [Act.put, List.setIfInBounds_toArray, List.set_cons_zero, List.set_cons_succ, i64_w, i32_w]
          rfl
         refine take_ (i := 6) (N := some 27) (v := ?_) (a' := ?_) #[true, true, true, true, true, true, true, false, false, false] rfl rfl (take_ofW HT_.out HW_.out (by kernel_rfl)) (fun _ _ _ h => h) (Or.inl ⟨by rfl, ?_⟩) hHeld ?_ ?_
         rotate_left
         ·rintro w' ⟨s0, s1, s2, s3, s4, s5, s6, s7, s8⟩
          go_simp
          with_reducible rfl
         rotate_left
         ·simp only [Act.put, List.setIfInBounds_toArray, List.set_cons_zero, List.set_cons_succ, i64_w, i32_w]
          rfl
         refine pure_ (i := 7) (N := some 28) (v := ?_) (a' := ?_) #[true, true, true, true, true, true, true, true, false, false] rfl rfl (any_of HT_.out (by kernel_rfl)) (fun _ _ _ h => h) (Or.inl ⟨by rfl, ?_⟩) ?_ ?_
         rotate_left
         ·intro w'
          go_simp
          with_reducible rfl
         rotate_left
         ·simp only [Act.put, List.setIfInBounds_toArray, List.set_cons_zero, List.set_cons_succ, i64_w, i32_w]
          rfl
         refine one_ (i := 8) (N := some 29) #[true, true, true, true, true, true, true, true, true, false] rfl rfl (one_of HT_.out (by kernel_rfl)) (by decide) (fun K hK => ?_)
         refine goes_ Try.func52 (by kernel_rfl) rfl #[.agg #[.int .i64 ((rd_T69 l0_0 x3_2).f0), .int .i64 ((rd_T69 l0_0 x3_2).f1), .int .i64 ((rd_T69 l0_0 x3_2).f2), .int .i64 ((rd_T69 l0_0 x3_2).f3.f0), .int .i64 ((rd_T69 l0_0 x3_2).f3.f1), .int .i64 ((rd_T69 l0_0 x3_2).f4.f0), .int .i64 ((rd_T69 l0_0 x3_2).f4.f1), .slice A123_7 ((rd_T69 l0_0 x3_2).f5).length c123_7], .int .i64 (l0_0.length : Int)] (by rfl) rfl rfl (by (try simp only [List.map_toArray, List.map_cons, List.map_nil]); first | done | rfl | (simp only [List.length_drop, List.length_take]; rfl)) ?_
         with_reducible refine (spec_l1Step.calls k2 ((rd_T69 l0_0 x3_2).f0) ((rd_T69 l0_0 x3_2).f1) ((rd_T69 l0_0 x3_2).f2) ((rd_T69 l0_0 x3_2).f3.f0) ((rd_T69 l0_0 x3_2).f3.f1) ((rd_T69 l0_0 x3_2).f4.f0) ((rd_T69 l0_0 x3_2).f4.f1) _ _ ((rd_T69 l0_0 x3_2).f5) (l0_0.length : Int) true _ ?side1 ?side2 A10.out).mono ?_
         (case side1 => repeat (first | exact (Kd.C_below HR123_7.out HB.out) | (with_reducible refine Kd.C_alloc ?_ _) | (with_reducible refine Kd.C_drewN ?_ _) | (with_reducible refine Kd.C_drew ?_)))
         (case side2 => exact HC123_7.out)
         rintro e w14 ⟨rfl, hb⟩
         refine ⟨_, rfl, ?_⟩
         have n0_ := Aside0.mk (blk_below (g := gb122) (o := .cells #[.slice (some ad123) l0_0.length c0_0] 30 (0, 0)) (by (with_reducible repeat (first | refine blk_drewN ?_ _ | refine blk_drew ?_ | refine blk_alloc ?_ _)); exact BK122.out) hb)
         have n1_ := Aside0.mk (below_step (by repeat (first | (with_reducible first | exact HB.out | apply below_alloc | apply pw_below_drewN | apply below_drew1 | refine below_set ?_ GE122.out) | exact HB.out)) hb)
         clear BK122
         clear HB
         have BK122 := n0_
         have HB := n1_
         clear n0_ n1_
         (try clear hb)
         (try clear hb2)
         (try clear hk)
         (try clear hi)
         refine hK.out _ _ ⟨(blk_cell BK122.out 0).trans rfl, ((HB.out.cell (World.block_lt_of_cell? w _ hw123_0)).trans hw123_0), ((HB.out.cell (World.block_lt_of_cell? w _ hw123_1)).trans hw123_1), ((HB.out.cell (World.block_lt_of_cell? w _ hw123_2)).trans hw123_2), ((HB.out.cell (World.block_lt_of_cell? w _ hw123_3)).trans hw123_3), ((HB.out.cell (World.block_lt_of_cell? w _ hw123_4)).trans hw123_4), ((HB.out.cell (World.block_lt_of_cell? w _ hw123_5)).trans hw123_5), ((HB.out.cell (World.block_lt_of_cell? w _ hw123_6)).trans hw123_6), ((HB.out.cell (World.block_lt_of_cell? w _ hw123_7)).trans hw123_7)⟩ (fun hHeld => ?_)
         clear hK K
         refine norm_ (a' := ?_) ?_ ?_
         rotate_left
         ·show Act.put _ (some 29) _ = _
          simp only [Act.put, List.setIfInBounds_toArray, List.set_cons_zero, List.set_cons_succ, i64_w, i32_w]
          rfl
         refine pure_ (i := 9) (N := some 30) (v := ?_) (a' := ?_) #[true, true, true, true, true, true, true, true, true, true] rfl rfl (any_of HT_.out (by kernel_rfl)) (fun _ _ _ h => h) (Or.inl ⟨by rfl, ?_⟩) ?_ ?_
         rotate_left
         ·intro w'
          go_simp
          with_reducible rfl
         rotate_left
         ·simp only [Act.put, List.setIfInBounds_toArray, List.set_cons_zero, List.set_cons_succ, i64_w, i32_w]
          rfl
         refine done_ (done_of HT_.out (by kernel_rfl)) ?_
         try go_wp2
         go_roundg k2
         case measure => have := HJ1.out; have := HK2.out; omega
         case rel => exact ⟨(wrap64 (x3_2 + 1)), (by first | rfl | (simp; done) | (simp [*]; done)), H', ⟨by have := HJ1.out; have := HK2.out; omega⟩, ⟨by (with_reducible repeat (first | refine blk_drewN ?_ _ | refine blk_drew ?_ | refine blk_alloc ?_ _)); exact BK122.out⟩, ⟨by repeat (first | (with_reducible first | exact HB.out | apply below_alloc | apply pw_below_drewN | apply below_drew1 | refine below_set ?_ GE122.out) | exact HB.out)⟩⟩
        ·replace c11 := Bool.eq_false_iff.mpr c11
         subst c11
         have H1 : (some false) = some r := by rw [if_neg (show ¬ (false = true) by decide)] at H; exact H
         clear H
         have H := H1
         clear H1
         obtain rfl := Option.some.inj H
         have hcz15_0 : wr.cell? ⟨gb122, 0, none⟩ = some (.slice A0_0 l0_0.length c0_0) := (blk_cell BK122.out 0).trans rfl
         have hfz15_0 := blk_frozen BK122.out 0
         try go_wp2
         have n0_ := Aside0.mk (blk_drew BK122.out)
         have n1_ := Aside0.mk (below_drew1 HB.out)
         clear BK122
         clear HB
         have BK122 := n0_
         have HB := n1_
         clear n0_ n1_
         have p123 : 0 ≤ (x3_2 : Int) := of_decide_eq_true (by first | (with_reducible assumption) | assumption)
         have q123 : x3_2 < (l0_0.length : Int) := of_decide_eq_true (by first | (with_reducible assumption) | assumption)
         obtain ⟨ad123, A123_7, c123_7, e123, hx123_0, hx123_1, hx123_2, hx123_3, hx123_4, hx123_5, hx123_6, hx123_7, hl123_7, hi123_7⟩ := at_T69 HR0_0.out x3_2 p123 q123
         have hw123_7 := hx123_7
         have hw123_6 := hx123_6
         have hw123_5 := hx123_5
         have hw123_4 := hx123_4
         have hw123_3 := hx123_3
         have hw123_2 := hx123_2
         have hw123_1 := hx123_1
         have hw123_0 := hx123_0
         cases e123
         replace hx123_0 := (HB.out.cell (World.block_lt_of_cell? w _ hx123_0)).trans hx123_0
         replace hx123_1 := (HB.out.cell (World.block_lt_of_cell? w _ hx123_1)).trans hx123_1
         replace hx123_2 := (HB.out.cell (World.block_lt_of_cell? w _ hx123_2)).trans hx123_2
         replace hx123_3 := (HB.out.cell (World.block_lt_of_cell? w _ hx123_3)).trans hx123_3
         replace hx123_4 := (HB.out.cell (World.block_lt_of_cell? w _ hx123_4)).trans hx123_4
         replace hx123_5 := (HB.out.cell (World.block_lt_of_cell? w _ hx123_5)).trans hx123_5
         replace hx123_6 := (HB.out.cell (World.block_lt_of_cell? w _ hx123_6)).trans hx123_6
         replace hx123_7 := (HB.out.cell (World.block_lt_of_cell? w _ hx123_7)).trans hx123_7
         have HR123_7 := Aside0.mk hi123_7
         have HC123_7 := Aside0.mk hl123_7
         clear hi123_7 hl123_7
         replace p123 := eq_true p123
         replace q123 := eq_true q123
         refine start_ (n := 10) (S := fun w' => w'.cell? ⟨gb122, 0, none⟩ = some (.slice (some ad123) l0_0.length c0_0) ∧ w'.cell? (ad123.add ((x3_2).toNat * 8)) = some (.int .i64 ((rd_T69 l0_0 x3_2).f0)) ∧ w'.cell? ⟨(ad123.add ((x3_2).toNat * 8)).block, (ad123.add ((x3_2).toNat * 8)).off + 1, none⟩ = some (.int .i64 ((rd_T69 l0_0 x3_2).f1)) ∧ w'.cell? ⟨(ad123.add ((x3_2).toNat * 8)).block, (ad123.add ((x3_2).toNat * 8)).off + 2, none⟩ = some (.int .i64 ((rd_T69 l0_0 x3_2).f2)) ∧ w'.cell? ⟨(ad123.add ((x3_2).toNat * 8)).block, (ad123.add ((x3_2).toNat * 8)).off + 3, none⟩ = some (.int .i64 ((rd_T69 l0_0 x3_2).f3.f0)) ∧ w'.cell? ⟨(ad123.add ((x3_2).toNat * 8)).block, (ad123.add ((x3_2).toNat * 8)).off + 4, none⟩ = some (.int .i64 ((rd_T69 l0_0 x3_2).f3.f1)) ∧ w'.cell? ⟨(ad123.add ((x3_2).toNat * 8)).block, (ad123.add ((x3_2).toNat * 8)).off + 5, none⟩ = some (.int .i64 ((rd_T69 l0_0 x3_2).f4.f0)) ∧ w'.cell? ⟨(ad123.add ((x3_2).toNat * 8)).block, (ad123.add ((x3_2).toNat * 8)).off + 6, none⟩ = some (.int .i64 ((rd_T69 l0_0 x3_2).f4.f1)) ∧ w'.cell? ⟨(ad123.add ((x3_2).toNat * 8)).block, (ad123.add ((x3_2).toNat * 8)).off + 7, none⟩ = some (.slice A123_7 ((rd_T69 l0_0 x3_2).f5).length c123_7)) (ds := []) #[false, false, false, false, false, false, false, false, false, false] (by kernel_rfl) rfl rfl ⟨(blk_cell BK122.out 0).trans rfl, ((HB.out.cell (World.block_lt_of_cell? w _ hw123_0)).trans hw123_0), ((HB.out.cell (World.block_lt_of_cell? w _ hw123_1)).trans hw123_1), ((HB.out.cell (World.block_lt_of_cell? w _ hw123_2)).trans hw123_2), ((HB.out.cell (World.block_lt_of_cell? w _ hw123_3)).trans hw123_3), ((HB.out.cell (World.block_lt_of_cell? w _ hw123_4)).trans hw123_4), ((HB.out.cell (World.block_lt_of_cell? w _ hw123_5)).trans hw123_5), ((HB.out.cell (World.block_lt_of_cell? w _ hw123_6)).trans hw123_6), ((HB.out.cell (World.block_lt_of_cell? w _ hw123_7)).trans hw123_7)⟩ (fun hHeld => ?_); refine with_tabW spec_ProgOk.tab6 spec_ProgOk.bits6 (fun HT_ HW_ => ?_)
         generalize wr.drew = w16 at BK122 HB HR123_7 hx123_0 hx123_1 hx123_2 hx123_3 hx123_4 hx123_5 hx123_6 hx123_7 hHeld ⊢
         refine pure_ (i := 0) (N := some 21) (v := ?_) (a' := ?_) #[true, false, false, false, false, false, false, false, false, false] rfl rfl (any_of HT_.out (by kernel_rfl)) (fun _ _ _ h => h) (Or.inl ⟨by rfl, ?_⟩) ?_ ?_
         rotate_left
         ·intro w'
          go_simp
          with_reducible rfl
         rotate_left
         ·simp only [Act.put, List.setIfInBounds_toArray, List.set_cons_zero, List.set_cons_succ, i64_w, i32_w]
          rfl
         refine pure_ (i := 2) (N := some 23) (v := ?_) (a' := ?_) #[true, false, true, false, false, false, false, false, false, false] rfl rfl (any_of HT_.out (by kernel_rfl)) (fun _ _ _ h => h) (Or.inl ⟨by rfl, ?_⟩) ?_ ?_
         rotate_left
         ·intro w'
          go_simp
          with_reducible rfl
         rotate_left
         ·simp only [Act.put, List.setIfInBounds_toArray, List.set_cons_zero, List.set_cons_succ, i64_w, i32_w]
          rfl
         refine pure_ (i := 5) (N := some 26) (v := ?_) (a' := ?_) #[true, false, true, false, false, true, false, false, false, false] rfl rfl (any_of HT_.out (by kernel_rfl)) (fun _ _ _ h => h) (Or.inl ⟨by rfl, ?_⟩) ?_ ?_
         rotate_left
         ·intro w'
          go_simp
          with_reducible rfl
         rotate_left
         ·simp only [Act.put, List.setIfInBounds_toArray, List.set_cons_zero, List.set_cons_succ, i64_w, i32_w]
          rfl
         refine take_ (i := 1) (N := some 22) (v := ?_) (a' := ?_) #[true, true, true, false, false, true, false, false, false, false] rfl rfl (take_ofW HT_.out HW_.out (by kernel_rfl)) (fun _ _ _ h => h) (Or.inl ⟨by rfl, ?_⟩) hHeld ?_ ?_
         rotate_left
         ·rintro w' ⟨s0, s1, s2, s3, s4, s5, s6, s7, s8⟩
          go_simp
          with_reducible rfl
         rotate_left
         ·simp only [Act.put, List.setIfInBounds_toArray, List.set_cons_zero, List.set_cons_succ, i64_w, i32_w]
          rfl
         refine pure_ (i := 3) (N := some 24) (v := ?_) (a' := ?_) #[true, true, true, true, false, true, false, false, false, false] rfl rfl (any_of HT_.out (by kernel_rfl)) (fun _ _ _ h => h) (Or.inl ⟨by rfl, ?_⟩) ?_ ?_
         rotate_left
         ·intro w'
          go_simp
          with_reducible rfl
         rotate_left
         ·simp only [Act.put, List.setIfInBounds_toArray, List.set_cons_zero, List.set_cons_succ, i64_w, i32_w]
          rfl
         refine take_ (i := 4) (N := some 25) (v := ?_) (a' := ?_) #[true, true, true, true, true, true, false, false, false, false] rfl rfl (take_ofW HT_.out HW_.out (by kernel_rfl)) (fun _ _ _ h => h) (Or.inl ⟨by rfl, ?_⟩) hHeld ?_ ?_
         rotate_left
         ·rintro w' ⟨s0, s1, s2, s3, s4, s5, s6, s7, s8⟩
          go_simp
          with_reducible rfl
         rotate_left
         ·simp only [Act.put, List.setIfInBounds_toArray, List.set_cons_zero, List.set_cons_succ, i64_w, i32_w]
          rfl
         refine take_ (i := 6) (N := some 27) (v := ?_) (a' := ?_) #[true, true, true, true, true, true, true, false, false, false] rfl rfl (take_ofW HT_.out HW_.out (by kernel_rfl)) (fun _ _ _ h => h) (Or.inl ⟨by rfl, ?_⟩) hHeld ?_ ?_
         rotate_left
         ·rintro w' ⟨s0, s1, s2, s3, s4, s5, s6, s7, s8⟩
          go_simp
          with_reducible rfl
         rotate_left
         ·simp only [Act.put, List.setIfInBounds_toArray, List.set_cons_zero, List.set_cons_succ, i64_w, i32_w]
          rfl
         refine pure_ (i := 7) (N := some 28) (v := ?_) (a' := ?_) #[true, true, true, true, true, true, true, true, false, false] rfl rfl (any_of HT_.out (by kernel_rfl)) (fun _ _ _ h => h) (Or.inl ⟨by rfl, ?_⟩) ?_ ?_
         rotate_left
         ·intro w'
          go_simp
          with_reducible rfl
         rotate_left
         ·simp only [Act.put, List.setIfInBounds_toArray, List.set_cons_zero, List.set_cons_succ, i64_w, i32_w]
          rfl
         refine one_ (i := 8) (N := some 29) #[true, true, true, true, true, true, true, true, true, false] rfl rfl (one_of HT_.out (by kernel_rfl)) (by decide) (fun K hK => ?_)
         refine goes_ Try.func52 (by kernel_rfl) rfl #[.agg #[.int .i64 ((rd_T69 l0_0 x3_2).f0), .int .i64 ((rd_T69 l0_0 x3_2).f1), .int .i64 ((rd_T69 l0_0 x3_2).f2), .int .i64 ((rd_T69 l0_0 x3_2).f3.f0), .int .i64 ((rd_T69 l0_0 x3_2).f3.f1), .int .i64 ((rd_T69 l0_0 x3_2).f4.f0), .int .i64 ((rd_T69 l0_0 x3_2).f4.f1), .slice A123_7 ((rd_T69 l0_0 x3_2).f5).length c123_7], .int .i64 (l0_0.length : Int)] (by rfl) rfl rfl (by (try simp only [List.map_toArray, List.map_cons, List.map_nil]); first | done | rfl | (simp only [List.length_drop, List.length_take]; rfl)) ?_
         with_reducible refine (spec_l1Step.calls k2 ((rd_T69 l0_0 x3_2).f0) ((rd_T69 l0_0 x3_2).f1) ((rd_T69 l0_0 x3_2).f2) ((rd_T69 l0_0 x3_2).f3.f0) ((rd_T69 l0_0 x3_2).f3.f1) ((rd_T69 l0_0 x3_2).f4.f0) ((rd_T69 l0_0 x3_2).f4.f1) _ _ ((rd_T69 l0_0 x3_2).f5) (l0_0.length : Int) false _ ?side1 ?side2 A10.out).mono ?_
         (case side1 => repeat (first | exact (Kd.C_below HR123_7.out HB.out) | (with_reducible refine Kd.C_alloc ?_ _) | (with_reducible refine Kd.C_drewN ?_ _) | (with_reducible refine Kd.C_drew ?_)))
         (case side2 => exact HC123_7.out)
         rintro e w17 ⟨rfl, hb⟩
         refine ⟨_, rfl, ?_⟩
         have n0_ := Aside0.mk (blk_below (g := gb122) (o := .cells #[.slice (some ad123) l0_0.length c0_0] 30 (0, 0)) (by (with_reducible repeat (first | refine blk_drewN ?_ _ | refine blk_drew ?_ | refine blk_alloc ?_ _)); exact BK122.out) hb)
         have n1_ := Aside0.mk (below_step (by repeat (first | (with_reducible first | exact HB.out | apply below_alloc | apply pw_below_drewN | apply below_drew1 | refine below_set ?_ GE122.out) | exact HB.out)) hb)
         clear BK122
         clear HB
         have BK122 := n0_
         have HB := n1_
         clear n0_ n1_
         (try clear hb)
         (try clear hb2)
         (try clear hk)
         (try clear hi)
         refine hK.out _ _ ⟨(blk_cell BK122.out 0).trans rfl, ((HB.out.cell (World.block_lt_of_cell? w _ hw123_0)).trans hw123_0), ((HB.out.cell (World.block_lt_of_cell? w _ hw123_1)).trans hw123_1), ((HB.out.cell (World.block_lt_of_cell? w _ hw123_2)).trans hw123_2), ((HB.out.cell (World.block_lt_of_cell? w _ hw123_3)).trans hw123_3), ((HB.out.cell (World.block_lt_of_cell? w _ hw123_4)).trans hw123_4), ((HB.out.cell (World.block_lt_of_cell? w _ hw123_5)).trans hw123_5), ((HB.out.cell (World.block_lt_of_cell? w _ hw123_6)).trans hw123_6), ((HB.out.cell (World.block_lt_of_cell? w _ hw123_7)).trans hw123_7)⟩ (fun hHeld => ?_)
         clear hK K
         refine norm_ (a' := ?_) ?_ ?_
         rotate_left
         ·show Act.put _ (some 29) _ = _
          simp only [Act.put, List.setIfInBounds_toArray, List.set_cons_zero, List.set_cons_succ, i64_w, i32_w]
          rfl
         refine pure_ (i := 9) (N := some 30) (v := ?_) (a' := ?_) #[true, true, true, true, true, true, true, true, true, true] rfl rfl (any_of HT_.out (by kernel_rfl)) (fun _ _ _ h => h) (Or.inl ⟨by rfl, ?_⟩) ?_ ?_
         rotate_left
         ·intro w'
          go_simp
          with_reducible rfl
         rotate_left
         ·simp only [Act.put, List.setIfInBounds_toArray, List.set_cons_zero, List.set_cons_succ, i64_w, i32_w]
          rfl
         refine done_ (done_of HT_.out (by kernel_rfl)) ?_
         try go_wp2
         go_ret
         exact ⟨by first | rfl | (simp [errW_none, errW_some] <;> rfl) | (simp [*, errW_none, errW_some] <;> rfl), by repeat (first | (with_reducible first | exact HB.out | apply below_alloc | apply pw_below_drewN | apply below_drew1 | refine below_set ?_ GE122.out) | exact HB.out)⟩
       ·rw [if_neg c9] at H
        exact absurd H (by simp)
      ·rw [if_neg c8] at H
       have c8b0 : decide (x3_2 < (l0_0.length : Int)) = false := decide_eq_false c8
       clear c8
       obtain rfl := Option.some.inj H
       have hcz18_0 : wr.cell? ⟨gb122, 0, none⟩ = some (.slice A0_0 l0_0.length c0_0) := (blk_cell BK122.out 0).trans rfl
       have hfz18_0 := blk_frozen BK122.out 0
       go_wp2
       go_ret
       exact ⟨by first | rfl | (simp [errW_none, errW_some] <;> rfl) | (simp [*, errW_none, errW_some] <;> rfl), by repeat (first | (with_reducible first | exact HB.out | apply below_alloc | apply pw_below_drewN | apply below_drew1 | refine below_set ?_ GE122.out) | exact HB.out)⟩
end Go.Proofs.Ytodgfmmoaabhhaa.P
namespace Go.Proofs.Ytodgfmmoaabhhaa.P
open Go.RowKit Go.Proofs.YtodgfmmoaabhhaaW.PrintWords Go.Proofs.YtodgfmmoaabhhaaW.PrintLast Go.Proofs.YtodgfmmoaabhhaaW.PrintMore
attribute [local go_sem] max2_int min2_int max_two min_two max_three min_three max_four min_four
set_option linter.unusedVariables false
set_option linter.unusedSimpArgs false
def spec_PathOf.l0 : Nat → List Bool → List Int → Int → Int → List (S69) → Option (List Int × Bool)
 | 0, _, _, _, _, _ => none
 | k + 1, x1, x6, x7, x8, x357000 => if 0 ≤ x7 then (if x7 < (x357000.length : Int) then (if ((rd_T69 x357000 x7).f0) = 7 then (some (x6, true)) else (if (x6.length : Int) ≥ 200 then (some ((([] : List Int)), false)) else (if ((rd_T69 x357000 x7).f0) = 5 then (if x8 < (x1.length : Int) then (if 0 ≤ x8 then (if rdOf false x1 x8 = true then (if 1 < (((rd_T69 x357000 x7).f5).length : Int) then (if x6.length < 17592186044416 then (spec_PathOf.l0 k x1 (x6 ++ [rd ((rd_T69 x357000 x7).f5) 1]) (rd ((rd_T69 x357000 x7).f5) 1) (wrap64 (x8 + 1)) x357000) else (none)) else (none)) else (if 0 < (((rd_T69 x357000 x7).f5).length : Int) then (if x6.length < 17592186044416 then (spec_PathOf.l0 k x1 (x6 ++ [rd ((rd_T69 x357000 x7).f5) 0]) (rd ((rd_T69 x357000 x7).f5) 0) (wrap64 (x8 + 1)) x357000) else (none)) else (none))) else (none)) else (if 0 < (((rd_T69 x357000 x7).f5).length : Int) then (if x6.length < 17592186044416 then (spec_PathOf.l0 k x1 (x6 ++ [rd ((rd_T69 x357000 x7).f5) 0]) (rd ((rd_T69 x357000 x7).f5) 0) (wrap64 (x8 + 1)) x357000) else (none)) else (none))) else (if 0 < (((rd_T69 x357000 x7).f5).length : Int) then (if x6.length < 17592186044416 then (spec_PathOf.l0 k x1 (x6 ++ [rd ((rd_T69 x357000 x7).f5) 0]) (rd ((rd_T69 x357000 x7).f5) 0) x8 x357000) else (none)) else (none))))) else (none)) else (none)
def spec_PathOf.f (k : Nat) (l0_0 : List (S69)) (l1 : List Bool) : Option (List Int × Bool) := (spec_ProgOk.f k l0_0).bind fun t357 => (if t357 = true then (spec_PathOf.l0 k l1 (([0] : List Int)) 0 0 l0_0) else (some ((([] : List Int)), false)))
set_option maxHeartbeats 8000000 in
set_option maxRecDepth 100000 in
theorem spec_PathOf.calls (k : Nat) (A0_0 : Option Addr) (c0_0 : Nat) (l0_0 : List (S69)) (A1 : Option Addr) (c1 : Nat) (l1 : List Bool) (r1 : List Int) (r2 : Bool) (w : World) (hr0_0 : Kd.C k69 w A0_0 l0_0.length l0_0) (hc0_0 : l0_0.length ≤ c0_0) (hr1 : Kd.C Kd.bool w A1 l1.length l1) (hc1 : l1.length ≤ c1) (h : spec_PathOf.f k l0_0 l1 = some (r1, r2)) :
  Calls Try.prog 21 #[.agg #[.slice A0_0 l0_0.length c0_0], .slice A1 l1.length c1] w fun e w' => ∃ v0_ : Value, e = .returned (.tuple #[v0_, .bool r2]) ∧ Kd.R (Kd.int .i64) 3 w' w.heap.size (fun _ => True) v0_ r1 ∧ Below w.heap.size w w' := by
 have hu30 := Try.underlying30
 have HR0_0 := Aside0.mk hr0_0
 have HC0_0 := Aside0.mk hc0_0
 clear hr0_0 hc0_0
 have HR1 := Aside0.mk hr1
 have HC1 := Aside0.mk hc1
 clear hr1 hc1
 have HB := Aside0.mk (Below.refl w.heap.size w)
 have H : ((spec_ProgOk.f k l0_0).bind fun t357 => (if t357 = true then (spec_PathOf.l0 k l1 (([0] : List Int)) 0 0 l0_0) else (some ((([] : List Int)), false)))) = some (r1, r2) := h
 clear h
 replace H := Option.bind_eq_some_iff.mp H
 obtain ⟨t357, A30, H⟩ := H
 replace H : (if t357 = true then (spec_PathOf.l0 k l1 (([0] : List Int)) 0 0 l0_0) else (some ((([] : List Int)), false))) = some (r1, r2) := H
 have A3 := Aside0.mk A30
 clear A30
 by_cases c4 : t357 = true
 ·subst c4
  have H1 : (spec_PathOf.l0 k l1 (([0] : List Int)) 0 0 l0_0) = some (r1, r2) := by rw [if_pos rfl] at H; exact H
  clear H
  have H := H1
  clear H1
  obtain ⟨y361, hy361⟩ : ∃ y_ : List Int, y_ = (([0] : List Int)) := ⟨_, rfl⟩
  replace H : (spec_PathOf.l0 k l1 y361 0 0 l0_0) = some (r1, r2) := by first | (rw [hy361]; with_reducible exact H) | (have H2_ := (Option.bind_some _ _).symm.trans H; rw [hy361]; with_reducible exact H2_) | (have H2_ := (Option.bind_some _ _).symm.trans H; with_reducible exact H2_) | with_reducible exact H | (rw [hy361]; exact H) | exact H
  have Ny361 := Aside0.mk hy361
  clear hy361
  have H' := Aside0.mk H
  clear H
  go_enter Try.func21, Try.ntmps21
  go_wp2_with (first | ((with_reducible refine gate_dst (N := 2) rfl ?_); refine box_event ?hg (N := 2) ?hd (cs := #[.slice A0_0 l0_0.length c0_0]) (t := 30) ?hr ?_; (case hd => rfl); (case hg => rfl); (case hr => first | (go_simp; done) | (go_simp; rfl) | (go_simp; rfl)); intro gb356 hg w5 hbox hb; have n0_ := Aside0.mk (below_step (by repeat (first | (with_reducible first | exact HB.out | apply below_alloc | apply pw_below_drewN | apply below_drew1) | exact HB.out)) hb); have n1_ := Aside0.mk (hbox); have n2_ := Aside0.mk ((by rw [hg]; exact (below_size (by repeat (first | (with_reducible first | exact HB.out | apply below_alloc | apply pw_below_drewN | apply below_drew1) | exact HB.out))) : w.heap.size ≤ gb356)); have n3_ := Aside0.mk ((by rw [hg]; exact (below_size (by repeat (first | (with_reducible first | exact HB.out | apply below_alloc | apply pw_below_drewN | apply below_drew1) | exact HB.out))) : w.heap.size ≤ gb356)); clear HB; have HB := n0_; have BK356 := n1_; have GW356 := n2_; have GE356 := n3_; clear n0_ n1_ n2_ n3_; clear hb hbox hg; have hcz6_0 : w5.cell? ⟨gb356, 0, none⟩ = some (.slice A0_0 l0_0.length c0_0) := (blk_cell BK356.out 0).trans rfl; have hfz6_0 := blk_frozen BK356.out 0) | ((with_reducible refine gate_callee (f := 34) rfl ?_); refine goesL_ (some 11) rfl rfl Try.func34 (by kernel_rfl) rfl #[.agg #[.slice A0_0 l0_0.length c0_0]] rfl (by (try simp only [List.map_toArray, List.map_cons, List.map_nil]); first | done | rfl | (simp only [List.length_drop, List.length_take]; rfl)) ?_; (with_reducible refine (spec_ProgOk.calls k _ _ l0_0 true _ ?side1 ?side2 A3.out).mono ?_); (case side1 => repeat (first | exact (Kd.C_below HR0_0.out HB.out) | (with_reducible refine Kd.C_alloc ?_ _) | (with_reducible refine Kd.C_drewN ?_ _) | (with_reducible refine Kd.C_drew ?_))); (case side2 => exact HC0_0.out); rintro e w7 ⟨rfl, hb⟩; refine ⟨_, rfl, ?_⟩; have n0_ := Aside0.mk (blk_below (g := gb356) (o := .cells #[.slice A0_0 l0_0.length c0_0] 30 (0, 0)) (by (with_reducible repeat (first | refine blk_drewN ?_ _ | refine blk_drew ?_ | refine blk_alloc ?_ _)); exact BK356.out) hb); have n1_ := Aside0.mk (below_step (by repeat (first | (with_reducible first | exact HB.out | apply below_alloc | apply pw_below_drewN | apply below_drew1 | refine below_set ?_ GE356.out) | exact HB.out)) hb); clear BK356; clear HB; have BK356 := n0_; have HB := n1_; clear n0_ n1_; (try clear hb); (try clear hb2); (try clear hk); (try clear hi)) | ((with_reducible refine gate_dst (N := 14) rfl ?_); refine Kd.R_lit (Kd.int .i64) _ 3 ?hg (N := 14) ?hd (xs := ([0] : List Int)) (inner := [.int .i64 0]) (ok := fun _ => True) (okp := fun _ => True) ?hr ?hp (fun _ hk => hk) trivial (Below.refl _ _) (Nat.le_refl _) (by simp) ?_; (case hd => rfl); (case hg => rfl); (case hr => first | (go_simp; done) | (go_simp; rfl) | (go_simp; rfl)); (case hp => exact (Reps.one (show Kd.M (Kd.int .i64) _ _ _ 0 [.int .i64 0] from rfl) (Reps.none _ _))); intro v362 w8 ho9 hb hg_ hnew_; clear hg_ hnew_; (first | rw [← Ny361.out] at ho9 | (simp only [Int.reduceToNat] at ho9; rw [← Ny361.out] at ho9)); have n0_ := Aside0.mk (Kd.R_lower ho9 (below_size (by repeat (first | (with_reducible first | exact HB.out | apply below_alloc | apply pw_below_drewN | apply below_drew1 | refine below_set ?_ GE356.out) | exact HB.out)))); have n1_ := Aside0.mk (blk_below (g := gb356) (o := .cells #[.slice A0_0 l0_0.length c0_0] 30 (0, 0)) (by (with_reducible repeat (first | refine blk_drewN ?_ _ | refine blk_drew ?_ | refine blk_alloc ?_ _)); exact BK356.out) hb); have n2_ := Aside0.mk (below_step (by repeat (first | (with_reducible first | exact HB.out | apply below_alloc | apply pw_below_drewN | apply below_drew1 | refine below_set ?_ GE356.out) | exact HB.out)) hb); clear BK356; clear HB; have HO363 := n0_; have BK356 := n1_; have HB := n2_; clear n0_ n1_ n2_; clear hb ho9))
  go_loopg [6, 7, 8] k (fun kq v6 v7 v8 w' => ∃ (x6_1 : List Int) (x7_1 : Int) (x8_1 : Int), v7 = .int .i64 x7_1 ∧ v8 = .int .i64 x8_1 ∧ Aside0 (spec_PathOf.l0 kq l1 x6_1 x7_1 x8_1 l0_0 = some (r1, r2)) ∧ Aside0 (kq ≤ k) ∧ Aside0 (Kd.R (Kd.int .i64) 3 w' w.heap.size (fun _ => True) v6 x6_1) ∧ Aside0 (w'.heap[gb356]? = some (.cells #[(.slice A0_0 l0_0.length c0_0)] 30 (0, 0))) ∧ Aside0 (Below w.heap.size w w'))
  case atStart => exact ⟨(y361), (0), (0), (by first | rfl | (simp; done) | (simp [*]; done)), (by first | rfl | (simp; done) | (simp [*]; done)), H', ⟨Nat.le_refl _⟩, ⟨by (with_reducible repeat (first | apply Kd.R_alloc | apply Kd.R_drewN | apply Kd.R_drew)); exact HO363.out⟩, ⟨by (with_reducible repeat (first | refine blk_drewN ?_ _ | refine blk_drew ?_ | refine blk_alloc ?_ _)); exact BK356.out⟩, ⟨by repeat (first | (with_reducible first | exact HB.out | apply below_alloc | apply pw_below_drewN | apply below_drew1 | refine below_set ?_ GE356.out) | exact HB.out)⟩⟩
  case round =>
   clear H'
   try clear c1
   try clear c2
   try clear p2
   try clear c3
   try clear c4
   try clear hcz6_0
   try clear hfz6_0
   obtain ⟨x6_1, x7_1, x8_1, rfl, rfl, HA, HK1, HO_6, BK356, HB⟩ := hrel
   cases gk with
   | zero => exact absurd HA.out (by intro h_; first | (cases h_; done) | (simp [spec_PathOf.l0] at h_))
   | succ k1 =>
    have H := HA.out
    clear HA
    simp only [spec_PathOf.l0] at H
    by_cases c10 : 0 ≤ x7_1
    ·rw [if_pos c10] at H
     have c10b0 : decide (0 ≤ x7_1) = true := decide_eq_true c10
     clear c10
     by_cases c11 : x7_1 < (l0_0.length : Int)
     ·rw [if_pos c11] at H
      have c11b0 : decide (x7_1 < (l0_0.length : Int)) = true := decide_eq_true c11
      clear c11
      by_cases c12 : ((rd_T69 l0_0 x7_1).f0) = 7
      ·rw [if_pos c12] at H
       have c12b0 : (((rd_T69 l0_0 x7_1).f0) == 7) = true := beq_iff_eq.mpr c12
       have c12b1 : (((rd_T69 l0_0 x7_1).f0) != 7) = false := bne_eq_false_iff_eq.mpr c12
       clear c12
       simp only [Option.some.injEq, Prod.mk.injEq] at H
       obtain ⟨rfl, rfl⟩ := H
       have hcz13_0 : wr.cell? ⟨gb356, 0, none⟩ = some (.slice A0_0 l0_0.length c0_0) := (blk_cell BK356.out 0).trans rfl
       have hfz13_0 := blk_frozen BK356.out 0
       have p364 : 0 ≤ (x7_1 : Int) := of_decide_eq_true (by first | (with_reducible assumption) | assumption)
       have q364 : x7_1 < (l0_0.length : Int) := of_decide_eq_true (by first | (with_reducible assumption) | assumption)
       obtain ⟨ad364, A364_7, c364_7, e364, hx364_0, hx364_1, hx364_2, hx364_3, hx364_4, hx364_5, hx364_6, hx364_7, hl364_7, hi364_7⟩ := at_T69 HR0_0.out x7_1 p364 q364
       cases e364
       replace hx364_0 := (HB.out.cell (World.block_lt_of_cell? w _ hx364_0)).trans hx364_0
       replace hx364_1 := (HB.out.cell (World.block_lt_of_cell? w _ hx364_1)).trans hx364_1
       replace hx364_2 := (HB.out.cell (World.block_lt_of_cell? w _ hx364_2)).trans hx364_2
       replace hx364_3 := (HB.out.cell (World.block_lt_of_cell? w _ hx364_3)).trans hx364_3
       replace hx364_4 := (HB.out.cell (World.block_lt_of_cell? w _ hx364_4)).trans hx364_4
       replace hx364_5 := (HB.out.cell (World.block_lt_of_cell? w _ hx364_5)).trans hx364_5
       replace hx364_6 := (HB.out.cell (World.block_lt_of_cell? w _ hx364_6)).trans hx364_6
       replace hx364_7 := (HB.out.cell (World.block_lt_of_cell? w _ hx364_7)).trans hx364_7
       have HR364_7 := Aside0.mk hi364_7
       have HC364_7 := Aside0.mk hl364_7
       clear hi364_7 hl364_7
       replace p364 := eq_true p364
       replace q364 := eq_true q364
       go_wp2
       go_ret2
       exact ⟨_, by first | rfl | (simp [errW_none, errW_some] <;> rfl) | (simp [*, errW_none, errW_some] <;> rfl), by (with_reducible repeat (first | apply Kd.R_alloc | apply Kd.R_drewN | apply Kd.R_drew)); exact HO_6.out, by repeat (first | (with_reducible first | exact HB.out | apply below_alloc | apply pw_below_drewN | apply below_drew1 | refine below_set ?_ GE356.out) | exact HB.out)⟩
      ·rw [if_neg c12] at H
       have c12b0 : (((rd_T69 l0_0 x7_1).f0) == 7) = false := beq_eq_false_iff_ne.mpr c12
       have c12b1 : (((rd_T69 l0_0 x7_1).f0) != 7) = true := bne_iff_ne.mpr c12
       by_cases c14 : (x6_1.length : Int) ≥ 200
       ·rw [if_pos c14] at H
        have c14b0 : decide (200 ≤ (x6_1.length : Int)) = true := decide_eq_true c14
        have c14b1 : decide (200 ≤ x6_1.length) = true := decide_eq_true (by omega)
        clear c14
        obtain ⟨y365, hy365⟩ : ∃ y_ : List Int, y_ = (([] : List Int)) := ⟨_, rfl⟩
        replace H : (some (y365, false)) = some (r1, r2) := by first | (rw [hy365]; with_reducible exact H) | (have H2_ := (Option.bind_some _ _).symm.trans H; rw [hy365]; with_reducible exact H2_) | (have H2_ := (Option.bind_some _ _).symm.trans H; with_reducible exact H2_) | with_reducible exact H | (rw [hy365]; exact H) | exact H
        have Ny365 := Aside0.mk hy365
        clear hy365
        simp only [Option.some.injEq, Prod.mk.injEq] at H
        obtain ⟨rfl, rfl⟩ := H
        have hcz15_0 : wr.cell? ⟨gb356, 0, none⟩ = some (.slice A0_0 l0_0.length c0_0) := (blk_cell BK356.out 0).trans rfl
        have hfz15_0 := blk_frozen BK356.out 0
        have p364 : 0 ≤ (x7_1 : Int) := of_decide_eq_true (by first | (with_reducible assumption) | assumption)
        have q364 : x7_1 < (l0_0.length : Int) := of_decide_eq_true (by first | (with_reducible assumption) | assumption)
        obtain ⟨ad364, A364_7, c364_7, e364, hx364_0, hx364_1, hx364_2, hx364_3, hx364_4, hx364_5, hx364_6, hx364_7, hl364_7, hi364_7⟩ := at_T69 HR0_0.out x7_1 p364 q364
        cases e364
        replace hx364_0 := (HB.out.cell (World.block_lt_of_cell? w _ hx364_0)).trans hx364_0
        replace hx364_1 := (HB.out.cell (World.block_lt_of_cell? w _ hx364_1)).trans hx364_1
        replace hx364_2 := (HB.out.cell (World.block_lt_of_cell? w _ hx364_2)).trans hx364_2
        replace hx364_3 := (HB.out.cell (World.block_lt_of_cell? w _ hx364_3)).trans hx364_3
        replace hx364_4 := (HB.out.cell (World.block_lt_of_cell? w _ hx364_4)).trans hx364_4
        replace hx364_5 := (HB.out.cell (World.block_lt_of_cell? w _ hx364_5)).trans hx364_5
        replace hx364_6 := (HB.out.cell (World.block_lt_of_cell? w _ hx364_6)).trans hx364_6
        replace hx364_7 := (HB.out.cell (World.block_lt_of_cell? w _ hx364_7)).trans hx364_7
        have HR364_7 := Aside0.mk hi364_7
        have HC364_7 := Aside0.mk hl364_7
        clear hi364_7 hl364_7
        replace p364 := eq_true p364
        replace q364 := eq_true q364
        obtain ⟨Ao16, co16, eo16⟩ := Kd.R_slice HO_6.out
        subst eo16
        go_wp2_with (first | ((with_reducible refine gate_dst (N := 25) rfl ?_); refine Kd.R_lit (Kd.int .i64) _ 3 ?hg (N := 25) ?hd (xs := ([] : List Int)) (inner := []) (ok := fun _ => True) (okp := fun _ => True) ?hr ?hp (fun _ hk => hk) trivial (Below.refl _ _) (Nat.le_refl _) (by simp) ?_; (case hd => rfl); (case hg => rfl); (case hr => first | (go_simp; done) | (go_simp; rfl) | (go_simp; rfl)); (case hp => exact (Reps.none _ _)); intro v366 w17 ho18 hb hg_ hnew_; clear hg_ hnew_; (first | rw [← Ny365.out] at ho18 | (simp only [Int.reduceToNat] at ho18; rw [← Ny365.out] at ho18)); have n0_ := Aside0.mk (Kd.R_elder' (by (with_reducible repeat (first | apply Kd.R_alloc | apply Kd.R_drewN | apply Kd.R_drew)); exact HO_6.out) (Kd.R_base ho18) hb); have n1_ := Aside0.mk (Kd.R_lower (Kd.R_new' ho18 (Kd.R_lt (by (with_reducible repeat (first | apply Kd.R_alloc | apply Kd.R_drewN | apply Kd.R_drew)); exact HO_6.out))) (below_size (by repeat (first | (with_reducible first | exact HB.out | apply below_alloc | apply pw_below_drewN | apply below_drew1 | refine below_set ?_ GE356.out) | exact HB.out)))); have n2_ := Aside0.mk (blk_below (g := gb356) (o := .cells #[.slice (some ad364) l0_0.length c0_0] 30 (0, 0)) (by (with_reducible repeat (first | refine blk_drewN ?_ _ | refine blk_drew ?_ | refine blk_alloc ?_ _)); exact BK356.out) hb); have n3_ := Aside0.mk (below_step (by repeat (first | (with_reducible first | exact HB.out | apply below_alloc | apply pw_below_drewN | apply below_drew1 | refine below_set ?_ GE356.out) | exact HB.out)) hb); clear HO_6; clear BK356; clear HB; have HO_6 := n0_; have HO367 := n1_; have BK356 := n2_; have HB := n3_; clear n0_ n1_ n2_ n3_; clear hb ho18))
        go_ret2
        exact ⟨_, by first | rfl | (simp [errW_none, errW_some] <;> rfl) | (simp [*, errW_none, errW_some] <;> rfl), by (with_reducible repeat (first | apply Kd.R_alloc | apply Kd.R_drewN | apply Kd.R_drew)); exact Kd.R_mono HO367.out (fun _ hk => trivial), by repeat (first | (with_reducible first | exact HB.out | apply below_alloc | apply pw_below_drewN | apply below_drew1 | refine below_set ?_ GE356.out) | exact HB.out)⟩
       ·rw [if_neg c14] at H
        have c14b0 : decide (200 ≤ (x6_1.length : Int)) = false := decide_eq_false c14
        have c14b1 : decide (200 ≤ x6_1.length) = false := decide_eq_false (by omega)
        clear c14
        by_cases c19 : ((rd_T69 l0_0 x7_1).f0) = 5
        ·rw [if_pos c19] at H
         have c19b0 : (((rd_T69 l0_0 x7_1).f0) == 5) = true := beq_iff_eq.mpr c19
         have c19b1 : (((rd_T69 l0_0 x7_1).f0) != 5) = false := bne_eq_false_iff_eq.mpr c19
         clear c19
         by_cases c20 : x8_1 < (l1.length : Int)
         ·rw [if_pos c20] at H
          have c20b0 : decide (x8_1 < (l1.length : Int)) = true := decide_eq_true c20
          clear c20
          by_cases c21 : 0 ≤ x8_1
          ·rw [if_pos c21] at H
           have c21b0 : decide (0 ≤ x8_1) = true := decide_eq_true c21
           clear c21
           obtain ⟨bq22, hbq22⟩ : ∃ b_ : Bool, b_ = (rdOf false l1 x8_1) := ⟨_, rfl⟩
           replace H : (if bq22 = true then (if 1 < (((rd_T69 l0_0 x7_1).f5).length : Int) then (if x6_1.length < 17592186044416 then (spec_PathOf.l0 k1 l1 (x6_1 ++ [rd ((rd_T69 l0_0 x7_1).f5) 1]) (rd ((rd_T69 l0_0 x7_1).f5) 1) (wrap64 (x8_1 + 1)) l0_0) else (none)) else (none)) else (if 0 < (((rd_T69 l0_0 x7_1).f5).length : Int) then (if x6_1.length < 17592186044416 then (spec_PathOf.l0 k1 l1 (x6_1 ++ [rd ((rd_T69 l0_0 x7_1).f5) 0]) (rd ((rd_T69 l0_0 x7_1).f5) 0) (wrap64 (x8_1 + 1)) l0_0) else (none)) else (none))) = some (r1, r2) := by rw [← hbq22] at H; exact H
           have Nbq22 := Aside0.mk hbq22
           clear hbq22
           by_cases c23 : bq22 = true
           ·subst c23
            have H1 : (if 1 < (((rd_T69 l0_0 x7_1).f5).length : Int) then (if x6_1.length < 17592186044416 then (spec_PathOf.l0 k1 l1 (x6_1 ++ [rd ((rd_T69 l0_0 x7_1).f5) 1]) (rd ((rd_T69 l0_0 x7_1).f5) 1) (wrap64 (x8_1 + 1)) l0_0) else (none)) else (none)) = some (r1, r2) := by rw [if_pos rfl] at H; exact H
            clear H
            have H := H1
            clear H1
            by_cases c24 : 1 < (((rd_T69 l0_0 x7_1).f5).length : Int)
            ·rw [if_pos c24] at H
             have c24b0 : decide (1 < (((rd_T69 l0_0 x7_1).f5).length : Int)) = true := decide_eq_true c24
             have c24b1 : decide (1 < ((rd_T69 l0_0 x7_1).f5).length) = true := decide_eq_true (by omega)
             clear c24
             by_cases c25 : x6_1.length < 17592186044416
             ·rw [if_pos c25] at H
              have LMc25 := Aside0.mk c25
              clear c25
              obtain ⟨y372, hy372⟩ : ∃ y_ : List Int, y_ = (x6_1 ++ [rd ((rd_T69 l0_0 x7_1).f5) 1]) := ⟨_, rfl⟩
              replace H : (spec_PathOf.l0 k1 l1 y372 (rd ((rd_T69 l0_0 x7_1).f5) 1) (wrap64 (x8_1 + 1)) l0_0) = some (r1, r2) := by first | (rw [hy372]; with_reducible exact H) | (have H2_ := (Option.bind_some _ _).symm.trans H; rw [hy372]; with_reducible exact H2_) | (have H2_ := (Option.bind_some _ _).symm.trans H; with_reducible exact H2_) | with_reducible exact H | (rw [hy372]; exact H) | exact H
              have Ny372 := Aside0.mk hy372
              clear hy372
              have H' := Aside0.mk H
              clear H
              have hcz26_0 : wr.cell? ⟨gb356, 0, none⟩ = some (.slice A0_0 l0_0.length c0_0) := (blk_cell BK356.out 0).trans rfl
              have hfz26_0 := blk_frozen BK356.out 0
              have p364 : 0 ≤ (x7_1 : Int) := of_decide_eq_true (by first | (with_reducible assumption) | assumption)
              have q364 : x7_1 < (l0_0.length : Int) := of_decide_eq_true (by first | (with_reducible assumption) | assumption)
              obtain ⟨ad364, A364_7, c364_7, e364, hx364_0, hx364_1, hx364_2, hx364_3, hx364_4, hx364_5, hx364_6, hx364_7, hl364_7, hi364_7⟩ := at_T69 HR0_0.out x7_1 p364 q364
              cases e364
              replace hx364_0 := (HB.out.cell (World.block_lt_of_cell? w _ hx364_0)).trans hx364_0
              replace hx364_1 := (HB.out.cell (World.block_lt_of_cell? w _ hx364_1)).trans hx364_1
              replace hx364_2 := (HB.out.cell (World.block_lt_of_cell? w _ hx364_2)).trans hx364_2
              replace hx364_3 := (HB.out.cell (World.block_lt_of_cell? w _ hx364_3)).trans hx364_3
              replace hx364_4 := (HB.out.cell (World.block_lt_of_cell? w _ hx364_4)).trans hx364_4
              replace hx364_5 := (HB.out.cell (World.block_lt_of_cell? w _ hx364_5)).trans hx364_5
              replace hx364_6 := (HB.out.cell (World.block_lt_of_cell? w _ hx364_6)).trans hx364_6
              replace hx364_7 := (HB.out.cell (World.block_lt_of_cell? w _ hx364_7)).trans hx364_7
              have HR364_7 := Aside0.mk hi364_7
              have HC364_7 := Aside0.mk hl364_7
              clear hi364_7 hl364_7
              replace p364 := eq_true p364
              replace q364 := eq_true q364
              obtain ⟨Ao27, co27, eo27⟩ := Kd.R_slice HO_6.out
              subst eo27
              have p368 : 0 ≤ (x7_1 : Int) := of_decide_eq_true (by first | (with_reducible assumption) | assumption)
              have q368 : x7_1 < (l0_0.length : Int) := of_decide_eq_true (by first | (with_reducible assumption) | assumption)
              obtain ⟨ad368, A368_7, c368_7, e368, hx368_0, hx368_1, hx368_2, hx368_3, hx368_4, hx368_5, hx368_6, hx368_7, hl368_7, hi368_7⟩ := at_T69 HR0_0.out x7_1 p368 q368
              obtain rfl : ad364 = ad368 := (by injection e368)
              replace hx368_0 := (HB.out.cell (World.block_lt_of_cell? w _ hx368_0)).trans hx368_0
              replace hx368_1 := (HB.out.cell (World.block_lt_of_cell? w _ hx368_1)).trans hx368_1
              replace hx368_2 := (HB.out.cell (World.block_lt_of_cell? w _ hx368_2)).trans hx368_2
              replace hx368_3 := (HB.out.cell (World.block_lt_of_cell? w _ hx368_3)).trans hx368_3
              replace hx368_4 := (HB.out.cell (World.block_lt_of_cell? w _ hx368_4)).trans hx368_4
              replace hx368_5 := (HB.out.cell (World.block_lt_of_cell? w _ hx368_5)).trans hx368_5
              replace hx368_6 := (HB.out.cell (World.block_lt_of_cell? w _ hx368_6)).trans hx368_6
              replace hx368_7 := (HB.out.cell (World.block_lt_of_cell? w _ hx368_7)).trans hx368_7
              have HR368_7 := Aside0.mk hi368_7
              have HC368_7 := Aside0.mk hl368_7
              clear hi368_7 hl368_7
              replace p368 := eq_true p368
              replace q368 := eq_true q368
              have ea_ := Option.some.inj (hx364_7.symm.trans hx368_7)
              injection ea_ with ea_ en_ ec_
              subst ea_
              subst ec_
              clear en_
              have p369 : 0 ≤ (x8_1 : Int) := of_decide_eq_true (by first | (with_reducible assumption) | assumption)
              have q369 : x8_1 < (l1.length : Int) := of_decide_eq_true (by first | (with_reducible assumption) | assumption)
              obtain ⟨ad369, e369, hx369_0⟩ := Kd.at_bool HR1.out x8_1 p369 q369
              (try rw [← Nbq22.out] at hx369_0)
              cases e369
              replace hx369_0 := (HB.out.cell (World.block_lt_of_cell? w _ hx369_0)).trans hx369_0
              replace p369 := eq_true p369
              replace q369 := eq_true q369
              have p370 : 0 ≤ (x7_1 : Int) := of_decide_eq_true (by first | (with_reducible assumption) | assumption)
              have q370 : x7_1 < (l0_0.length : Int) := of_decide_eq_true (by first | (with_reducible assumption) | assumption)
              obtain ⟨ad370, A370_7, c370_7, e370, hx370_0, hx370_1, hx370_2, hx370_3, hx370_4, hx370_5, hx370_6, hx370_7, hl370_7, hi370_7⟩ := at_T69 HR0_0.out x7_1 p370 q370
              obtain rfl : ad364 = ad370 := (by injection e370)
              replace hx370_0 := (HB.out.cell (World.block_lt_of_cell? w _ hx370_0)).trans hx370_0
              replace hx370_1 := (HB.out.cell (World.block_lt_of_cell? w _ hx370_1)).trans hx370_1
              replace hx370_2 := (HB.out.cell (World.block_lt_of_cell? w _ hx370_2)).trans hx370_2
              replace hx370_3 := (HB.out.cell (World.block_lt_of_cell? w _ hx370_3)).trans hx370_3
              replace hx370_4 := (HB.out.cell (World.block_lt_of_cell? w _ hx370_4)).trans hx370_4
              replace hx370_5 := (HB.out.cell (World.block_lt_of_cell? w _ hx370_5)).trans hx370_5
              replace hx370_6 := (HB.out.cell (World.block_lt_of_cell? w _ hx370_6)).trans hx370_6
              replace hx370_7 := (HB.out.cell (World.block_lt_of_cell? w _ hx370_7)).trans hx370_7
              have HR370_7 := Aside0.mk hi370_7
              have HC370_7 := Aside0.mk hl370_7
              clear hi370_7 hl370_7
              replace p370 := eq_true p370
              replace q370 := eq_true q370
              have ea_ := Option.some.inj (hx364_7.symm.trans hx370_7)
              injection ea_ with ea_ en_ ec_
              subst ea_
              subst ec_
              clear en_
              have p371 : 0 ≤ (1 : Int) := (by omega)
              have q371 : 1 < (((rd_T69 l0_0 x7_1).f5).length : Int) := of_decide_eq_true (by first | (with_reducible assumption) | assumption)
              obtain ⟨ad371, e371, hx371_0⟩ := Kd.at_int HR370_7.out 1 p371 q371
              cases e371
              (try simp only [show (1 : Int).toNat = 1 from rfl, Nat.reduceMul, Nat.reduceEqDiff, Go.Addr.add, ↓reduceIte] at hx371_0)
              have qi371 : (1 < ((rd_T69 l0_0 x7_1).f5).length) = True := eq_true (by omega)
              (try rw [show ((1 : Int)).toNat = 1 from rfl] at hx371_0)
              replace hx371_0 := (HB.out.cell (World.block_lt_of_cell? w _ hx371_0)).trans hx371_0
              replace p371 := eq_true p371
              replace q371 := eq_true q371
              go_wp2_with (first | ((with_reducible refine gate_builtin (b := .append) (xs := #[.tmp 54, .tmp 56]) rfl ?_); at_builtin; refine Kd.R_append (Kd.int .i64) (w0 := w) w.heap.size rfl (.tmp 54) (.tmp 56) 25 3 (.int .i64 0) 8 rfl Try.underlying25 info3 rfl (by decide) (by omega) (.slice Ao27 x6_1.length co27) x6_1 (rd ((rd_T69 l0_0 x7_1).f5) 1) [.int .i64 (rd ((rd_T69 l0_0 x7_1).f5) 1)] (fun _ => True) (fun _ => False) rfl rfl ?aP (fun _ hk => hk.elim) ?aF ?aO ?aB ?aS ?aL ?_; (case aP => exact rfl); (case aB => exact (by repeat (first | (with_reducible first | exact HB.out | apply below_alloc | apply pw_below_drewN | apply below_drew1 | refine below_set ?_ GE356.out) | exact HB.out))); (case aF => exact (fun _ _ => trivial)); (case aO => exact (by (with_reducible repeat (first | apply Kd.R_alloc | apply Kd.R_drewN | apply Kd.R_drew)); exact HO_6.out)); (case aS => exact (below_size (by repeat (first | (with_reducible first | exact HB.out | apply below_alloc | apply pw_below_drewN | apply below_drew1 | refine below_set ?_ GE356.out) | exact HB.out)))); (case aL => have := LMc25.out; omega); intro v373 w28 ho hb hg hat; rw [← Ny372.out] at ho; have n0_ := Aside0.mk (blk_grown (g := gb356) (o := .cells #[.slice (some ad364) l0_0.length c0_0] 30 (0, 0)) (by (with_reducible repeat (first | refine blk_drewN ?_ _ | refine blk_drew ?_ | refine blk_alloc ?_ _)); exact BK356.out) hg (Kd.R_ne HO_6.out BK356.out (by decide))); have n1_ := Aside0.mk (hb); have n2_ := Aside0.mk (ho); clear BK356; clear HB; clear HO_6; have BK356 := n0_; have HB := n1_; have HO374 := n2_; clear n0_ n1_ n2_; clear ho hb hg hat))
              go_roundg k1
              case measure => have := HK1.out; omega
              case rel => exact ⟨(y372), (rd ((rd_T69 l0_0 x7_1).f5) 1), (wrap64 (x8_1 + 1)), (by first | rfl | (simp; done) | (simp [*]; done)), (by first | rfl | (simp; done) | (simp [*]; done)), H', ⟨by have := HK1.out; omega⟩, ⟨by (with_reducible repeat (first | apply Kd.R_alloc | apply Kd.R_drewN | apply Kd.R_drew)); exact HO374.out⟩, ⟨by (with_reducible repeat (first | refine blk_drewN ?_ _ | refine blk_drew ?_ | refine blk_alloc ?_ _)); exact BK356.out⟩, ⟨by repeat (first | (with_reducible first | exact HB.out | apply below_alloc | apply pw_below_drewN | apply below_drew1 | refine below_set ?_ GE356.out) | exact HB.out)⟩⟩
             ·rw [if_neg c25] at H
              exact absurd H (by simp)
            ·rw [if_neg c24] at H
             exact absurd H (by simp)
           ·replace c23 := Bool.eq_false_iff.mpr c23
            subst c23
            have H1 : (if 0 < (((rd_T69 l0_0 x7_1).f5).length : Int) then (if x6_1.length < 17592186044416 then (spec_PathOf.l0 k1 l1 (x6_1 ++ [rd ((rd_T69 l0_0 x7_1).f5) 0]) (rd ((rd_T69 l0_0 x7_1).f5) 0) (wrap64 (x8_1 + 1)) l0_0) else (none)) else (none)) = some (r1, r2) := by rw [if_neg (show ¬ (false = true) by decide)] at H; exact H
            clear H
            have H := H1
            clear H1
            by_cases c29 : 0 < (((rd_T69 l0_0 x7_1).f5).length : Int)
            ·rw [if_pos c29] at H
             have c29b0 : decide (0 < (((rd_T69 l0_0 x7_1).f5).length : Int)) = true := decide_eq_true c29
             have c29b1 : decide (0 < ((rd_T69 l0_0 x7_1).f5).length) = true := decide_eq_true (by omega)
             clear c29
             by_cases c30 : x6_1.length < 17592186044416
             ·rw [if_pos c30] at H
              have LMc30 := Aside0.mk c30
              clear c30
              obtain ⟨y377, hy377⟩ : ∃ y_ : List Int, y_ = (x6_1 ++ [rd ((rd_T69 l0_0 x7_1).f5) 0]) := ⟨_, rfl⟩
              replace H : (spec_PathOf.l0 k1 l1 y377 (rd ((rd_T69 l0_0 x7_1).f5) 0) (wrap64 (x8_1 + 1)) l0_0) = some (r1, r2) := by first | (rw [hy377]; with_reducible exact H) | (have H2_ := (Option.bind_some _ _).symm.trans H; rw [hy377]; with_reducible exact H2_) | (have H2_ := (Option.bind_some _ _).symm.trans H; with_reducible exact H2_) | with_reducible exact H | (rw [hy377]; exact H) | exact H
              have Ny377 := Aside0.mk hy377
              clear hy377
              have H' := Aside0.mk H
              clear H
              have hcz31_0 : wr.cell? ⟨gb356, 0, none⟩ = some (.slice A0_0 l0_0.length c0_0) := (blk_cell BK356.out 0).trans rfl
              have hfz31_0 := blk_frozen BK356.out 0
              have p364 : 0 ≤ (x7_1 : Int) := of_decide_eq_true (by first | (with_reducible assumption) | assumption)
              have q364 : x7_1 < (l0_0.length : Int) := of_decide_eq_true (by first | (with_reducible assumption) | assumption)
              obtain ⟨ad364, A364_7, c364_7, e364, hx364_0, hx364_1, hx364_2, hx364_3, hx364_4, hx364_5, hx364_6, hx364_7, hl364_7, hi364_7⟩ := at_T69 HR0_0.out x7_1 p364 q364
              cases e364
              replace hx364_0 := (HB.out.cell (World.block_lt_of_cell? w _ hx364_0)).trans hx364_0
              replace hx364_1 := (HB.out.cell (World.block_lt_of_cell? w _ hx364_1)).trans hx364_1
              replace hx364_2 := (HB.out.cell (World.block_lt_of_cell? w _ hx364_2)).trans hx364_2
              replace hx364_3 := (HB.out.cell (World.block_lt_of_cell? w _ hx364_3)).trans hx364_3
              replace hx364_4 := (HB.out.cell (World.block_lt_of_cell? w _ hx364_4)).trans hx364_4
              replace hx364_5 := (HB.out.cell (World.block_lt_of_cell? w _ hx364_5)).trans hx364_5
              replace hx364_6 := (HB.out.cell (World.block_lt_of_cell? w _ hx364_6)).trans hx364_6
              replace hx364_7 := (HB.out.cell (World.block_lt_of_cell? w _ hx364_7)).trans hx364_7
              have HR364_7 := Aside0.mk hi364_7
              have HC364_7 := Aside0.mk hl364_7
              clear hi364_7 hl364_7
              replace p364 := eq_true p364
              replace q364 := eq_true q364
              obtain ⟨Ao32, co32, eo32⟩ := Kd.R_slice HO_6.out
              subst eo32
              have p368 : 0 ≤ (x7_1 : Int) := of_decide_eq_true (by first | (with_reducible assumption) | assumption)
              have q368 : x7_1 < (l0_0.length : Int) := of_decide_eq_true (by first | (with_reducible assumption) | assumption)
              obtain ⟨ad368, A368_7, c368_7, e368, hx368_0, hx368_1, hx368_2, hx368_3, hx368_4, hx368_5, hx368_6, hx368_7, hl368_7, hi368_7⟩ := at_T69 HR0_0.out x7_1 p368 q368
              obtain rfl : ad364 = ad368 := (by injection e368)
              replace hx368_0 := (HB.out.cell (World.block_lt_of_cell? w _ hx368_0)).trans hx368_0
              replace hx368_1 := (HB.out.cell (World.block_lt_of_cell? w _ hx368_1)).trans hx368_1
              replace hx368_2 := (HB.out.cell (World.block_lt_of_cell? w _ hx368_2)).trans hx368_2
              replace hx368_3 := (HB.out.cell (World.block_lt_of_cell? w _ hx368_3)).trans hx368_3
              replace hx368_4 := (HB.out.cell (World.block_lt_of_cell? w _ hx368_4)).trans hx368_4
              replace hx368_5 := (HB.out.cell (World.block_lt_of_cell? w _ hx368_5)).trans hx368_5
              replace hx368_6 := (HB.out.cell (World.block_lt_of_cell? w _ hx368_6)).trans hx368_6
              replace hx368_7 := (HB.out.cell (World.block_lt_of_cell? w _ hx368_7)).trans hx368_7
              have HR368_7 := Aside0.mk hi368_7
              have HC368_7 := Aside0.mk hl368_7
              clear hi368_7 hl368_7
              replace p368 := eq_true p368
              replace q368 := eq_true q368
              have ea_ := Option.some.inj (hx364_7.symm.trans hx368_7)
              injection ea_ with ea_ en_ ec_
              subst ea_
              subst ec_
              clear en_
              have p369 : 0 ≤ (x8_1 : Int) := of_decide_eq_true (by first | (with_reducible assumption) | assumption)
              have q369 : x8_1 < (l1.length : Int) := of_decide_eq_true (by first | (with_reducible assumption) | assumption)
              obtain ⟨ad369, e369, hx369_0⟩ := Kd.at_bool HR1.out x8_1 p369 q369
              (try rw [← Nbq22.out] at hx369_0)
              cases e369
              replace hx369_0 := (HB.out.cell (World.block_lt_of_cell? w _ hx369_0)).trans hx369_0
              replace p369 := eq_true p369
              replace q369 := eq_true q369
              have p375 : 0 ≤ (x7_1 : Int) := of_decide_eq_true (by first | (with_reducible assumption) | assumption)
              have q375 : x7_1 < (l0_0.length : Int) := of_decide_eq_true (by first | (with_reducible assumption) | assumption)
              obtain ⟨ad375, A375_7, c375_7, e375, hx375_0, hx375_1, hx375_2, hx375_3, hx375_4, hx375_5, hx375_6, hx375_7, hl375_7, hi375_7⟩ := at_T69 HR0_0.out x7_1 p375 q375
              obtain rfl : ad364 = ad375 := (by injection e375)
              replace hx375_0 := (HB.out.cell (World.block_lt_of_cell? w _ hx375_0)).trans hx375_0
              replace hx375_1 := (HB.out.cell (World.block_lt_of_cell? w _ hx375_1)).trans hx375_1
              replace hx375_2 := (HB.out.cell (World.block_lt_of_cell? w _ hx375_2)).trans hx375_2
              replace hx375_3 := (HB.out.cell (World.block_lt_of_cell? w _ hx375_3)).trans hx375_3
              replace hx375_4 := (HB.out.cell (World.block_lt_of_cell? w _ hx375_4)).trans hx375_4
              replace hx375_5 := (HB.out.cell (World.block_lt_of_cell? w _ hx375_5)).trans hx375_5
              replace hx375_6 := (HB.out.cell (World.block_lt_of_cell? w _ hx375_6)).trans hx375_6
              replace hx375_7 := (HB.out.cell (World.block_lt_of_cell? w _ hx375_7)).trans hx375_7
              have HR375_7 := Aside0.mk hi375_7
              have HC375_7 := Aside0.mk hl375_7
              clear hi375_7 hl375_7
              replace p375 := eq_true p375
              replace q375 := eq_true q375
              have ea_ := Option.some.inj (hx364_7.symm.trans hx375_7)
              injection ea_ with ea_ en_ ec_
              subst ea_
              subst ec_
              clear en_
              have p376 : 0 ≤ (0 : Int) := (by omega)
              have q376 : 0 < (((rd_T69 l0_0 x7_1).f5).length : Int) := of_decide_eq_true (by first | (with_reducible assumption) | assumption)
              obtain ⟨ad376, e376, hx376_0⟩ := Kd.at_int HR375_7.out 0 p376 q376
              cases e376
              have qi376 : (0 < ((rd_T69 l0_0 x7_1).f5).length) = True := eq_true (by omega)
              (try rw [show ((0 : Int)).toNat = 0 from rfl] at hx376_0)
              (try rw [Addr.add_zero'] at hx376_0)
              replace hx376_0 := (HB.out.cell (World.block_lt_of_cell? w _ hx376_0)).trans hx376_0
              replace p376 := eq_true p376
              replace q376 := eq_true q376
              go_wp2_with (first | ((with_reducible refine gate_builtin (b := .append) (xs := #[.tmp 54, .tmp 56]) rfl ?_); at_builtin; refine Kd.R_append (Kd.int .i64) (w0 := w) w.heap.size rfl (.tmp 54) (.tmp 56) 25 3 (.int .i64 0) 8 rfl Try.underlying25 info3 rfl (by decide) (by omega) (.slice Ao32 x6_1.length co32) x6_1 (rd ((rd_T69 l0_0 x7_1).f5) 0) [.int .i64 (rd ((rd_T69 l0_0 x7_1).f5) 0)] (fun _ => True) (fun _ => False) rfl rfl ?aP (fun _ hk => hk.elim) ?aF ?aO ?aB ?aS ?aL ?_; (case aP => exact rfl); (case aB => exact (by repeat (first | (with_reducible first | exact HB.out | apply below_alloc | apply pw_below_drewN | apply below_drew1 | refine below_set ?_ GE356.out) | exact HB.out))); (case aF => exact (fun _ _ => trivial)); (case aO => exact (by (with_reducible repeat (first | apply Kd.R_alloc | apply Kd.R_drewN | apply Kd.R_drew)); exact HO_6.out)); (case aS => exact (below_size (by repeat (first | (with_reducible first | exact HB.out | apply below_alloc | apply pw_below_drewN | apply below_drew1 | refine below_set ?_ GE356.out) | exact HB.out)))); (case aL => have := LMc30.out; omega); intro v378 w33 ho hb hg hat; rw [← Ny377.out] at ho; have n0_ := Aside0.mk (blk_grown (g := gb356) (o := .cells #[.slice (some ad364) l0_0.length c0_0] 30 (0, 0)) (by (with_reducible repeat (first | refine blk_drewN ?_ _ | refine blk_drew ?_ | refine blk_alloc ?_ _)); exact BK356.out) hg (Kd.R_ne HO_6.out BK356.out (by decide))); have n1_ := Aside0.mk (hb); have n2_ := Aside0.mk (ho); clear BK356; clear HB; clear HO_6; have BK356 := n0_; have HB := n1_; have HO379 := n2_; clear n0_ n1_ n2_; clear ho hb hg hat))
              go_roundg k1
              case measure => have := HK1.out; omega
              case rel => exact ⟨(y377), (rd ((rd_T69 l0_0 x7_1).f5) 0), (wrap64 (x8_1 + 1)), (by first | rfl | (simp; done) | (simp [*]; done)), (by first | rfl | (simp; done) | (simp [*]; done)), H', ⟨by have := HK1.out; omega⟩, ⟨by (with_reducible repeat (first | apply Kd.R_alloc | apply Kd.R_drewN | apply Kd.R_drew)); exact HO379.out⟩, ⟨by (with_reducible repeat (first | refine blk_drewN ?_ _ | refine blk_drew ?_ | refine blk_alloc ?_ _)); exact BK356.out⟩, ⟨by repeat (first | (with_reducible first | exact HB.out | apply below_alloc | apply pw_below_drewN | apply below_drew1 | refine below_set ?_ GE356.out) | exact HB.out)⟩⟩
             ·rw [if_neg c30] at H
              exact absurd H (by simp)
            ·rw [if_neg c29] at H
             exact absurd H (by simp)
          ·rw [if_neg c21] at H
           exact absurd H (by simp)
         ·rw [if_neg c20] at H
          have c20b0 : decide (x8_1 < (l1.length : Int)) = false := decide_eq_false c20
          clear c20
          by_cases c34 : 0 < (((rd_T69 l0_0 x7_1).f5).length : Int)
          ·rw [if_pos c34] at H
           have c34b0 : decide (0 < (((rd_T69 l0_0 x7_1).f5).length : Int)) = true := decide_eq_true c34
           have c34b1 : decide (0 < ((rd_T69 l0_0 x7_1).f5).length) = true := decide_eq_true (by omega)
           clear c34
           by_cases c35 : x6_1.length < 17592186044416
           ·rw [if_pos c35] at H
            have LMc35 := Aside0.mk c35
            clear c35
            obtain ⟨y382, hy382⟩ : ∃ y_ : List Int, y_ = (x6_1 ++ [rd ((rd_T69 l0_0 x7_1).f5) 0]) := ⟨_, rfl⟩
            replace H : (spec_PathOf.l0 k1 l1 y382 (rd ((rd_T69 l0_0 x7_1).f5) 0) (wrap64 (x8_1 + 1)) l0_0) = some (r1, r2) := by first | (rw [hy382]; with_reducible exact H) | (have H2_ := (Option.bind_some _ _).symm.trans H; rw [hy382]; with_reducible exact H2_) | (have H2_ := (Option.bind_some _ _).symm.trans H; with_reducible exact H2_) | with_reducible exact H | (rw [hy382]; exact H) | exact H
            have Ny382 := Aside0.mk hy382
            clear hy382
            have H' := Aside0.mk H
            clear H
            have hcz36_0 : wr.cell? ⟨gb356, 0, none⟩ = some (.slice A0_0 l0_0.length c0_0) := (blk_cell BK356.out 0).trans rfl
            have hfz36_0 := blk_frozen BK356.out 0
            have p364 : 0 ≤ (x7_1 : Int) := of_decide_eq_true (by first | (with_reducible assumption) | assumption)
            have q364 : x7_1 < (l0_0.length : Int) := of_decide_eq_true (by first | (with_reducible assumption) | assumption)
            obtain ⟨ad364, A364_7, c364_7, e364, hx364_0, hx364_1, hx364_2, hx364_3, hx364_4, hx364_5, hx364_6, hx364_7, hl364_7, hi364_7⟩ := at_T69 HR0_0.out x7_1 p364 q364
            cases e364
            replace hx364_0 := (HB.out.cell (World.block_lt_of_cell? w _ hx364_0)).trans hx364_0
            replace hx364_1 := (HB.out.cell (World.block_lt_of_cell? w _ hx364_1)).trans hx364_1
            replace hx364_2 := (HB.out.cell (World.block_lt_of_cell? w _ hx364_2)).trans hx364_2
            replace hx364_3 := (HB.out.cell (World.block_lt_of_cell? w _ hx364_3)).trans hx364_3
            replace hx364_4 := (HB.out.cell (World.block_lt_of_cell? w _ hx364_4)).trans hx364_4
            replace hx364_5 := (HB.out.cell (World.block_lt_of_cell? w _ hx364_5)).trans hx364_5
            replace hx364_6 := (HB.out.cell (World.block_lt_of_cell? w _ hx364_6)).trans hx364_6
            replace hx364_7 := (HB.out.cell (World.block_lt_of_cell? w _ hx364_7)).trans hx364_7
            have HR364_7 := Aside0.mk hi364_7
            have HC364_7 := Aside0.mk hl364_7
            clear hi364_7 hl364_7
            replace p364 := eq_true p364
            replace q364 := eq_true q364
            obtain ⟨Ao37, co37, eo37⟩ := Kd.R_slice HO_6.out
            subst eo37
            have p368 : 0 ≤ (x7_1 : Int) := of_decide_eq_true (by first | (with_reducible assumption) | assumption)
            have q368 : x7_1 < (l0_0.length : Int) := of_decide_eq_true (by first | (with_reducible assumption) | assumption)
            obtain ⟨ad368, A368_7, c368_7, e368, hx368_0, hx368_1, hx368_2, hx368_3, hx368_4, hx368_5, hx368_6, hx368_7, hl368_7, hi368_7⟩ := at_T69 HR0_0.out x7_1 p368 q368
            obtain rfl : ad364 = ad368 := (by injection e368)
            replace hx368_0 := (HB.out.cell (World.block_lt_of_cell? w _ hx368_0)).trans hx368_0
            replace hx368_1 := (HB.out.cell (World.block_lt_of_cell? w _ hx368_1)).trans hx368_1
            replace hx368_2 := (HB.out.cell (World.block_lt_of_cell? w _ hx368_2)).trans hx368_2
            replace hx368_3 := (HB.out.cell (World.block_lt_of_cell? w _ hx368_3)).trans hx368_3
            replace hx368_4 := (HB.out.cell (World.block_lt_of_cell? w _ hx368_4)).trans hx368_4
            replace hx368_5 := (HB.out.cell (World.block_lt_of_cell? w _ hx368_5)).trans hx368_5
            replace hx368_6 := (HB.out.cell (World.block_lt_of_cell? w _ hx368_6)).trans hx368_6
            replace hx368_7 := (HB.out.cell (World.block_lt_of_cell? w _ hx368_7)).trans hx368_7
            have HR368_7 := Aside0.mk hi368_7
            have HC368_7 := Aside0.mk hl368_7
            clear hi368_7 hl368_7
            replace p368 := eq_true p368
            replace q368 := eq_true q368
            have ea_ := Option.some.inj (hx364_7.symm.trans hx368_7)
            injection ea_ with ea_ en_ ec_
            subst ea_
            subst ec_
            clear en_
            have p380 : 0 ≤ (x7_1 : Int) := of_decide_eq_true (by first | (with_reducible assumption) | assumption)
            have q380 : x7_1 < (l0_0.length : Int) := of_decide_eq_true (by first | (with_reducible assumption) | assumption)
            obtain ⟨ad380, A380_7, c380_7, e380, hx380_0, hx380_1, hx380_2, hx380_3, hx380_4, hx380_5, hx380_6, hx380_7, hl380_7, hi380_7⟩ := at_T69 HR0_0.out x7_1 p380 q380
            obtain rfl : ad364 = ad380 := (by injection e380)
            replace hx380_0 := (HB.out.cell (World.block_lt_of_cell? w _ hx380_0)).trans hx380_0
            replace hx380_1 := (HB.out.cell (World.block_lt_of_cell? w _ hx380_1)).trans hx380_1
            replace hx380_2 := (HB.out.cell (World.block_lt_of_cell? w _ hx380_2)).trans hx380_2
            replace hx380_3 := (HB.out.cell (World.block_lt_of_cell? w _ hx380_3)).trans hx380_3
            replace hx380_4 := (HB.out.cell (World.block_lt_of_cell? w _ hx380_4)).trans hx380_4
            replace hx380_5 := (HB.out.cell (World.block_lt_of_cell? w _ hx380_5)).trans hx380_5
            replace hx380_6 := (HB.out.cell (World.block_lt_of_cell? w _ hx380_6)).trans hx380_6
            replace hx380_7 := (HB.out.cell (World.block_lt_of_cell? w _ hx380_7)).trans hx380_7
            have HR380_7 := Aside0.mk hi380_7
            have HC380_7 := Aside0.mk hl380_7
            clear hi380_7 hl380_7
            replace p380 := eq_true p380
            replace q380 := eq_true q380
            have ea_ := Option.some.inj (hx364_7.symm.trans hx380_7)
            injection ea_ with ea_ en_ ec_
            subst ea_
            subst ec_
            clear en_
            have p381 : 0 ≤ (0 : Int) := (by omega)
            have q381 : 0 < (((rd_T69 l0_0 x7_1).f5).length : Int) := of_decide_eq_true (by first | (with_reducible assumption) | assumption)
            obtain ⟨ad381, e381, hx381_0⟩ := Kd.at_int HR380_7.out 0 p381 q381
            cases e381
            have qi381 : (0 < ((rd_T69 l0_0 x7_1).f5).length) = True := eq_true (by omega)
            (try rw [show ((0 : Int)).toNat = 0 from rfl] at hx381_0)
            (try rw [Addr.add_zero'] at hx381_0)
            replace hx381_0 := (HB.out.cell (World.block_lt_of_cell? w _ hx381_0)).trans hx381_0
            replace p381 := eq_true p381
            replace q381 := eq_true q381
            go_wp2_with (first | ((with_reducible refine gate_builtin (b := .append) (xs := #[.tmp 54, .tmp 56]) rfl ?_); at_builtin; refine Kd.R_append (Kd.int .i64) (w0 := w) w.heap.size rfl (.tmp 54) (.tmp 56) 25 3 (.int .i64 0) 8 rfl Try.underlying25 info3 rfl (by decide) (by omega) (.slice Ao37 x6_1.length co37) x6_1 (rd ((rd_T69 l0_0 x7_1).f5) 0) [.int .i64 (rd ((rd_T69 l0_0 x7_1).f5) 0)] (fun _ => True) (fun _ => False) rfl rfl ?aP (fun _ hk => hk.elim) ?aF ?aO ?aB ?aS ?aL ?_; (case aP => exact rfl); (case aB => exact (by repeat (first | (with_reducible first | exact HB.out | apply below_alloc | apply pw_below_drewN | apply below_drew1 | refine below_set ?_ GE356.out) | exact HB.out))); (case aF => exact (fun _ _ => trivial)); (case aO => exact (by (with_reducible repeat (first | apply Kd.R_alloc | apply Kd.R_drewN | apply Kd.R_drew)); exact HO_6.out)); (case aS => exact (below_size (by repeat (first | (with_reducible first | exact HB.out | apply below_alloc | apply pw_below_drewN | apply below_drew1 | refine below_set ?_ GE356.out) | exact HB.out)))); (case aL => have := LMc35.out; omega); intro v383 w38 ho hb hg hat; rw [← Ny382.out] at ho; have n0_ := Aside0.mk (blk_grown (g := gb356) (o := .cells #[.slice (some ad364) l0_0.length c0_0] 30 (0, 0)) (by (with_reducible repeat (first | refine blk_drewN ?_ _ | refine blk_drew ?_ | refine blk_alloc ?_ _)); exact BK356.out) hg (Kd.R_ne HO_6.out BK356.out (by decide))); have n1_ := Aside0.mk (hb); have n2_ := Aside0.mk (ho); clear BK356; clear HB; clear HO_6; have BK356 := n0_; have HB := n1_; have HO384 := n2_; clear n0_ n1_ n2_; clear ho hb hg hat))
            go_roundg k1
            case measure => have := HK1.out; omega
            case rel => exact ⟨(y382), (rd ((rd_T69 l0_0 x7_1).f5) 0), (wrap64 (x8_1 + 1)), (by first | rfl | (simp; done) | (simp [*]; done)), (by first | rfl | (simp; done) | (simp [*]; done)), H', ⟨by have := HK1.out; omega⟩, ⟨by (with_reducible repeat (first | apply Kd.R_alloc | apply Kd.R_drewN | apply Kd.R_drew)); exact HO384.out⟩, ⟨by (with_reducible repeat (first | refine blk_drewN ?_ _ | refine blk_drew ?_ | refine blk_alloc ?_ _)); exact BK356.out⟩, ⟨by repeat (first | (with_reducible first | exact HB.out | apply below_alloc | apply pw_below_drewN | apply below_drew1 | refine below_set ?_ GE356.out) | exact HB.out)⟩⟩
           ·rw [if_neg c35] at H
            exact absurd H (by simp)
          ·rw [if_neg c34] at H
           exact absurd H (by simp)
        ·rw [if_neg c19] at H
         have c19b0 : (((rd_T69 l0_0 x7_1).f0) == 5) = false := beq_eq_false_iff_ne.mpr c19
         have c19b1 : (((rd_T69 l0_0 x7_1).f0) != 5) = true := bne_iff_ne.mpr c19
         by_cases c39 : 0 < (((rd_T69 l0_0 x7_1).f5).length : Int)
         ·rw [if_pos c39] at H
          have c39b0 : decide (0 < (((rd_T69 l0_0 x7_1).f5).length : Int)) = true := decide_eq_true c39
          have c39b1 : decide (0 < ((rd_T69 l0_0 x7_1).f5).length) = true := decide_eq_true (by omega)
          clear c39
          by_cases c40 : x6_1.length < 17592186044416
          ·rw [if_pos c40] at H
           have LMc40 := Aside0.mk c40
           clear c40
           obtain ⟨y387, hy387⟩ : ∃ y_ : List Int, y_ = (x6_1 ++ [rd ((rd_T69 l0_0 x7_1).f5) 0]) := ⟨_, rfl⟩
           replace H : (spec_PathOf.l0 k1 l1 y387 (rd ((rd_T69 l0_0 x7_1).f5) 0) x8_1 l0_0) = some (r1, r2) := by first | (rw [hy387]; with_reducible exact H) | (have H2_ := (Option.bind_some _ _).symm.trans H; rw [hy387]; with_reducible exact H2_) | (have H2_ := (Option.bind_some _ _).symm.trans H; with_reducible exact H2_) | with_reducible exact H | (rw [hy387]; exact H) | exact H
           have Ny387 := Aside0.mk hy387
           clear hy387
           have H' := Aside0.mk H
           clear H
           have hcz41_0 : wr.cell? ⟨gb356, 0, none⟩ = some (.slice A0_0 l0_0.length c0_0) := (blk_cell BK356.out 0).trans rfl
           have hfz41_0 := blk_frozen BK356.out 0
           have p364 : 0 ≤ (x7_1 : Int) := of_decide_eq_true (by first | (with_reducible assumption) | assumption)
           have q364 : x7_1 < (l0_0.length : Int) := of_decide_eq_true (by first | (with_reducible assumption) | assumption)
           obtain ⟨ad364, A364_7, c364_7, e364, hx364_0, hx364_1, hx364_2, hx364_3, hx364_4, hx364_5, hx364_6, hx364_7, hl364_7, hi364_7⟩ := at_T69 HR0_0.out x7_1 p364 q364
           cases e364
           replace hx364_0 := (HB.out.cell (World.block_lt_of_cell? w _ hx364_0)).trans hx364_0
           replace hx364_1 := (HB.out.cell (World.block_lt_of_cell? w _ hx364_1)).trans hx364_1
           replace hx364_2 := (HB.out.cell (World.block_lt_of_cell? w _ hx364_2)).trans hx364_2
           replace hx364_3 := (HB.out.cell (World.block_lt_of_cell? w _ hx364_3)).trans hx364_3
           replace hx364_4 := (HB.out.cell (World.block_lt_of_cell? w _ hx364_4)).trans hx364_4
           replace hx364_5 := (HB.out.cell (World.block_lt_of_cell? w _ hx364_5)).trans hx364_5
           replace hx364_6 := (HB.out.cell (World.block_lt_of_cell? w _ hx364_6)).trans hx364_6
           replace hx364_7 := (HB.out.cell (World.block_lt_of_cell? w _ hx364_7)).trans hx364_7
           have HR364_7 := Aside0.mk hi364_7
           have HC364_7 := Aside0.mk hl364_7
           clear hi364_7 hl364_7
           replace p364 := eq_true p364
           replace q364 := eq_true q364
           obtain ⟨Ao42, co42, eo42⟩ := Kd.R_slice HO_6.out
           subst eo42
           have p368 : 0 ≤ (x7_1 : Int) := of_decide_eq_true (by first | (with_reducible assumption) | assumption)
           have q368 : x7_1 < (l0_0.length : Int) := of_decide_eq_true (by first | (with_reducible assumption) | assumption)
           obtain ⟨ad368, A368_7, c368_7, e368, hx368_0, hx368_1, hx368_2, hx368_3, hx368_4, hx368_5, hx368_6, hx368_7, hl368_7, hi368_7⟩ := at_T69 HR0_0.out x7_1 p368 q368
           obtain rfl : ad364 = ad368 := (by injection e368)
           replace hx368_0 := (HB.out.cell (World.block_lt_of_cell? w _ hx368_0)).trans hx368_0
           replace hx368_1 := (HB.out.cell (World.block_lt_of_cell? w _ hx368_1)).trans hx368_1
           replace hx368_2 := (HB.out.cell (World.block_lt_of_cell? w _ hx368_2)).trans hx368_2
           replace hx368_3 := (HB.out.cell (World.block_lt_of_cell? w _ hx368_3)).trans hx368_3
           replace hx368_4 := (HB.out.cell (World.block_lt_of_cell? w _ hx368_4)).trans hx368_4
           replace hx368_5 := (HB.out.cell (World.block_lt_of_cell? w _ hx368_5)).trans hx368_5
           replace hx368_6 := (HB.out.cell (World.block_lt_of_cell? w _ hx368_6)).trans hx368_6
           replace hx368_7 := (HB.out.cell (World.block_lt_of_cell? w _ hx368_7)).trans hx368_7
           have HR368_7 := Aside0.mk hi368_7
           have HC368_7 := Aside0.mk hl368_7
           clear hi368_7 hl368_7
           replace p368 := eq_true p368
           replace q368 := eq_true q368
           have ea_ := Option.some.inj (hx364_7.symm.trans hx368_7)
           injection ea_ with ea_ en_ ec_
           subst ea_
           subst ec_
           clear en_
           have p385 : 0 ≤ (x7_1 : Int) := of_decide_eq_true (by first | (with_reducible assumption) | assumption)
           have q385 : x7_1 < (l0_0.length : Int) := of_decide_eq_true (by first | (with_reducible assumption) | assumption)
           obtain ⟨ad385, A385_7, c385_7, e385, hx385_0, hx385_1, hx385_2, hx385_3, hx385_4, hx385_5, hx385_6, hx385_7, hl385_7, hi385_7⟩ := at_T69 HR0_0.out x7_1 p385 q385
           obtain rfl : ad364 = ad385 := (by injection e385)
           replace hx385_0 := (HB.out.cell (World.block_lt_of_cell? w _ hx385_0)).trans hx385_0
           replace hx385_1 := (HB.out.cell (World.block_lt_of_cell? w _ hx385_1)).trans hx385_1
           replace hx385_2 := (HB.out.cell (World.block_lt_of_cell? w _ hx385_2)).trans hx385_2
           replace hx385_3 := (HB.out.cell (World.block_lt_of_cell? w _ hx385_3)).trans hx385_3
           replace hx385_4 := (HB.out.cell (World.block_lt_of_cell? w _ hx385_4)).trans hx385_4
           replace hx385_5 := (HB.out.cell (World.block_lt_of_cell? w _ hx385_5)).trans hx385_5
           replace hx385_6 := (HB.out.cell (World.block_lt_of_cell? w _ hx385_6)).trans hx385_6
           replace hx385_7 := (HB.out.cell (World.block_lt_of_cell? w _ hx385_7)).trans hx385_7
           have HR385_7 := Aside0.mk hi385_7
           have HC385_7 := Aside0.mk hl385_7
           clear hi385_7 hl385_7
           replace p385 := eq_true p385
           replace q385 := eq_true q385
           have ea_ := Option.some.inj (hx364_7.symm.trans hx385_7)
           injection ea_ with ea_ en_ ec_
           subst ea_
           subst ec_
           clear en_
           have p386 : 0 ≤ (0 : Int) := (by omega)
           have q386 : 0 < (((rd_T69 l0_0 x7_1).f5).length : Int) := of_decide_eq_true (by first | (with_reducible assumption) | assumption)
           obtain ⟨ad386, e386, hx386_0⟩ := Kd.at_int HR385_7.out 0 p386 q386
           cases e386
           have qi386 : (0 < ((rd_T69 l0_0 x7_1).f5).length) = True := eq_true (by omega)
           (try rw [show ((0 : Int)).toNat = 0 from rfl] at hx386_0)
           (try rw [Addr.add_zero'] at hx386_0)
           replace hx386_0 := (HB.out.cell (World.block_lt_of_cell? w _ hx386_0)).trans hx386_0
           replace p386 := eq_true p386
           replace q386 := eq_true q386
           go_wp2_with (first | ((with_reducible refine gate_builtin (b := .append) (xs := #[.tmp 54, .tmp 56]) rfl ?_); at_builtin; refine Kd.R_append (Kd.int .i64) (w0 := w) w.heap.size rfl (.tmp 54) (.tmp 56) 25 3 (.int .i64 0) 8 rfl Try.underlying25 info3 rfl (by decide) (by omega) (.slice Ao42 x6_1.length co42) x6_1 (rd ((rd_T69 l0_0 x7_1).f5) 0) [.int .i64 (rd ((rd_T69 l0_0 x7_1).f5) 0)] (fun _ => True) (fun _ => False) rfl rfl ?aP (fun _ hk => hk.elim) ?aF ?aO ?aB ?aS ?aL ?_; (case aP => exact rfl); (case aB => exact (by repeat (first | (with_reducible first | exact HB.out | apply below_alloc | apply pw_below_drewN | apply below_drew1 | refine below_set ?_ GE356.out) | exact HB.out))); (case aF => exact (fun _ _ => trivial)); (case aO => exact (by (with_reducible repeat (first | apply Kd.R_alloc | apply Kd.R_drewN | apply Kd.R_drew)); exact HO_6.out)); (case aS => exact (below_size (by repeat (first | (with_reducible first | exact HB.out | apply below_alloc | apply pw_below_drewN | apply below_drew1 | refine below_set ?_ GE356.out) | exact HB.out)))); (case aL => have := LMc40.out; omega); intro v388 w43 ho hb hg hat; rw [← Ny387.out] at ho; have n0_ := Aside0.mk (blk_grown (g := gb356) (o := .cells #[.slice (some ad364) l0_0.length c0_0] 30 (0, 0)) (by (with_reducible repeat (first | refine blk_drewN ?_ _ | refine blk_drew ?_ | refine blk_alloc ?_ _)); exact BK356.out) hg (Kd.R_ne HO_6.out BK356.out (by decide))); have n1_ := Aside0.mk (hb); have n2_ := Aside0.mk (ho); clear BK356; clear HB; clear HO_6; have BK356 := n0_; have HB := n1_; have HO389 := n2_; clear n0_ n1_ n2_; clear ho hb hg hat))
           go_roundg k1
           case measure => have := HK1.out; omega
           case rel => exact ⟨(y387), (rd ((rd_T69 l0_0 x7_1).f5) 0), (x8_1), (by first | rfl | (simp; done) | (simp [*]; done)), (by first | rfl | (simp; done) | (simp [*]; done)), H', ⟨by have := HK1.out; omega⟩, ⟨by (with_reducible repeat (first | apply Kd.R_alloc | apply Kd.R_drewN | apply Kd.R_drew)); exact HO389.out⟩, ⟨by (with_reducible repeat (first | refine blk_drewN ?_ _ | refine blk_drew ?_ | refine blk_alloc ?_ _)); exact BK356.out⟩, ⟨by repeat (first | (with_reducible first | exact HB.out | apply below_alloc | apply pw_below_drewN | apply below_drew1 | refine below_set ?_ GE356.out) | exact HB.out)⟩⟩
          ·rw [if_neg c40] at H
           exact absurd H (by simp)
         ·rw [if_neg c39] at H
          exact absurd H (by simp)
     ·rw [if_neg c11] at H
      exact absurd H (by simp)
    ·rw [if_neg c10] at H
     exact absurd H (by simp)
 ·replace c4 := Bool.eq_false_iff.mpr c4
  subst c4
  have H1 : (some ((([] : List Int)), false)) = some (r1, r2) := by rw [if_neg (show ¬ (false = true) by decide)] at H; exact H
  clear H
  have H := H1
  clear H1
  obtain ⟨y358, hy358⟩ : ∃ y_ : List Int, y_ = (([] : List Int)) := ⟨_, rfl⟩
  replace H : (some (y358, false)) = some (r1, r2) := by first | (rw [hy358]; with_reducible exact H) | (have H2_ := (Option.bind_some _ _).symm.trans H; rw [hy358]; with_reducible exact H2_) | (have H2_ := (Option.bind_some _ _).symm.trans H; with_reducible exact H2_) | with_reducible exact H | (rw [hy358]; exact H) | exact H
  have Ny358 := Aside0.mk hy358
  clear hy358
  simp only [Option.some.injEq, Prod.mk.injEq] at H
  obtain ⟨rfl, rfl⟩ := H
  go_enter Try.func21, Try.ntmps21
  go_wp2_with (first | ((with_reducible refine gate_dst (N := 2) rfl ?_); refine box_event ?hg (N := 2) ?hd (cs := #[.slice A0_0 l0_0.length c0_0]) (t := 30) ?hr ?_; (case hd => rfl); (case hg => rfl); (case hr => first | (go_simp; done) | (go_simp; rfl) | (go_simp; rfl)); intro gb356 hg w44 hbox hb; have n0_ := Aside0.mk (below_step (by repeat (first | (with_reducible first | exact HB.out | apply below_alloc | apply pw_below_drewN | apply below_drew1) | exact HB.out)) hb); have n1_ := Aside0.mk (hbox); have n2_ := Aside0.mk ((by rw [hg]; exact (below_size (by repeat (first | (with_reducible first | exact HB.out | apply below_alloc | apply pw_below_drewN | apply below_drew1) | exact HB.out))) : w.heap.size ≤ gb356)); have n3_ := Aside0.mk ((by rw [hg]; exact (below_size (by repeat (first | (with_reducible first | exact HB.out | apply below_alloc | apply pw_below_drewN | apply below_drew1) | exact HB.out))) : w.heap.size ≤ gb356)); clear HB; have HB := n0_; have BK356 := n1_; have GW356 := n2_; have GE356 := n3_; clear n0_ n1_ n2_ n3_; clear hb hbox hg; have hcz45_0 : w44.cell? ⟨gb356, 0, none⟩ = some (.slice A0_0 l0_0.length c0_0) := (blk_cell BK356.out 0).trans rfl; have hfz45_0 := blk_frozen BK356.out 0) | ((with_reducible refine gate_callee (f := 34) rfl ?_); refine goesL_ (some 11) rfl rfl Try.func34 (by kernel_rfl) rfl #[.agg #[.slice A0_0 l0_0.length c0_0]] rfl (by (try simp only [List.map_toArray, List.map_cons, List.map_nil]); first | done | rfl | (simp only [List.length_drop, List.length_take]; rfl)) ?_; (with_reducible refine (spec_ProgOk.calls k _ _ l0_0 false _ ?side1 ?side2 A3.out).mono ?_); (case side1 => repeat (first | exact (Kd.C_below HR0_0.out HB.out) | (with_reducible refine Kd.C_alloc ?_ _) | (with_reducible refine Kd.C_drewN ?_ _) | (with_reducible refine Kd.C_drew ?_))); (case side2 => exact HC0_0.out); rintro e w46 ⟨rfl, hb⟩; refine ⟨_, rfl, ?_⟩; have n0_ := Aside0.mk (blk_below (g := gb356) (o := .cells #[.slice A0_0 l0_0.length c0_0] 30 (0, 0)) (by (with_reducible repeat (first | refine blk_drewN ?_ _ | refine blk_drew ?_ | refine blk_alloc ?_ _)); exact BK356.out) hb); have n1_ := Aside0.mk (below_step (by repeat (first | (with_reducible first | exact HB.out | apply below_alloc | apply pw_below_drewN | apply below_drew1 | refine below_set ?_ GE356.out) | exact HB.out)) hb); clear BK356; clear HB; have BK356 := n0_; have HB := n1_; clear n0_ n1_; (try clear hb); (try clear hb2); (try clear hk); (try clear hi)) | ((with_reducible refine gate_dst (N := 13) rfl ?_); refine Kd.R_lit (Kd.int .i64) _ 3 ?hg (N := 13) ?hd (xs := ([] : List Int)) (inner := []) (ok := fun _ => True) (okp := fun _ => True) ?hr ?hp (fun _ hk => hk) trivial (Below.refl _ _) (Nat.le_refl _) (by simp) ?_; (case hd => rfl); (case hg => rfl); (case hr => first | (go_simp; done) | (go_simp; rfl) | (go_simp; rfl)); (case hp => exact (Reps.none _ _)); intro v359 w47 ho48 hb hg_ hnew_; clear hg_ hnew_; (first | rw [← Ny358.out] at ho48 | (simp only [Int.reduceToNat] at ho48; rw [← Ny358.out] at ho48)); have n0_ := Aside0.mk (Kd.R_lower ho48 (below_size (by repeat (first | (with_reducible first | exact HB.out | apply below_alloc | apply pw_below_drewN | apply below_drew1 | refine below_set ?_ GE356.out) | exact HB.out)))); have n1_ := Aside0.mk (blk_below (g := gb356) (o := .cells #[.slice A0_0 l0_0.length c0_0] 30 (0, 0)) (by (with_reducible repeat (first | refine blk_drewN ?_ _ | refine blk_drew ?_ | refine blk_alloc ?_ _)); exact BK356.out) hb); have n2_ := Aside0.mk (below_step (by repeat (first | (with_reducible first | exact HB.out | apply below_alloc | apply pw_below_drewN | apply below_drew1 | refine below_set ?_ GE356.out) | exact HB.out)) hb); clear BK356; clear HB; have HO360 := n0_; have BK356 := n1_; have HB := n2_; clear n0_ n1_ n2_; clear hb ho48))
  go_ret2
  exact ⟨_, by first | rfl | (simp [errW_none, errW_some] <;> rfl) | (simp [*, errW_none, errW_some] <;> rfl), by (with_reducible repeat (first | apply Kd.R_alloc | apply Kd.R_drewN | apply Kd.R_drew)); exact HO360.out, by repeat (first | (with_reducible first | exact HB.out | apply below_alloc | apply pw_below_drewN | apply below_drew1 | refine below_set ?_ GE356.out) | exact HB.out)⟩
end Go.Proofs.Ytodgfmmoaabhhaa.P
namespace Go.Proofs.Ytodgfmmoaabhhaa.P
open Go.RowKit Go.Proofs.YtodgfmmoaabhhaaW.PrintWords Go.Proofs.YtodgfmmoaabhhaaW.PrintLast Go.Proofs.YtodgfmmoaabhhaaW.PrintMore
set_option linter.unusedVariables false
set_option linter.unusedSimpArgs false
def idxInt (q : Int → Bool) : Nat → List Int → Int → Option Int
 | 0, _, _ => none
 | k + 1, l, i => if i < (l.length : Int) then (if 0 ≤ i then (if q (rd l i) = true then some i else idxInt q k l (wrap64 (i + 1))) else none) else some (-1)
theorem wrap64_id {x : Int} (h0 : -9223372036854775808 ≤ x) (h1 : x ≤ 9223372036854775807) : wrap64 x = x := by unfold wrap64; omega
def idxI (q : Int → Bool) : List Int → Int → Int
 | [], _ => -1
 | x :: l, i => if q x = true then i else idxI q l (i + 1)
theorem idxInt_eq (q : Int → Bool) (l : List Int) (hl : l.length ≤ 140737488355328) : ∀ (s : List Int) (i : Nat), l.drop i = s → i ≤ l.length → idxInt q (s.length + 1) l (i : Int) = some (idxI q s (i : Int))
 | [], i, hs, hi => by
  have : l.length ≤ i := by simpa [List.drop_eq_nil_iff] using hs
  simp only [idxInt]
  rw [if_neg (by omega)]
  rfl
 | x :: s, i, hs, hi => by
  have hlt : i < l.length := Nat.lt_of_not_le fun c => by rw [List.drop_eq_nil_of_le c] at hs; cases hs
  have hx : l[i] = x := by
   have := List.drop_eq_getElem_cons hlt
   rw [hs] at this
   injection this with h1 _
   exact h1.symm
  have hr : rd l (i : Int) = x := by unfold rd; rw [List.getD_eq_getElem?_getD, Int.toNat_natCast, List.getElem?_eq_getElem hlt, Option.getD_some, hx]
  have ht : l.drop (i + 1) = s := by rw [← List.drop_drop, hs]; rfl
  rw [show (x :: s).length + 1 = (s.length + 1) + 1 from rfl]
  simp only [idxInt, idxI]
  rw [if_pos (by omega), if_pos (by omega), hr]
  by_cases hq : q x = true
  ·rw [if_pos hq, if_pos hq]
  ·rw [if_neg hq, if_neg hq, wrap64_id (by omega) (by omega), show (i : Int) + 1 = ((i + 1 : Nat) : Int) by omega]
   exact idxInt_eq q l hl s (i + 1) ht (by omega)
theorem idxI_any (q : Int → Bool) : ∀ (l : List Int) (i : Int), 0 ≤ i → decide (idxI q l i ≥ 0) = l.any q
 | [], i, _ => rfl
 | x :: l, i, h => by
  unfold idxI
  by_cases hq : q x = true
  ·simp [hq, h]
  ·rw [if_neg hq, idxI_any q l (i + 1) (by omega)]; simp [hq]
def TestsQ (q : Int → Bool) (g : FuncId) (cap : Array Value) (l : List Int) (w0 : World) : Prop :=
 ∀ n x, x ∈ l → CallsV Try.prog (.func (.func g) #[] cap) #[.int .i64 x] (w0.drewN n) fun e w2 => e = .returned (.bool (q x)) ∧ Drawn0 (w0.drewN n) w2
set_option maxHeartbeats 8000000 in
set_option maxRecDepth 100000 in
theorem indexFunc_intQ (q : Int → Bool) (g : FuncId) (cap : Array Value) (k : Nat) (A0 : Option Addr) (c0 : Nat) (l0 : List Int) (r : Int) (w : World) (hr0 : Kd.C (Kd.int .i64) w A0 l0.length l0)
  (hf : TestsQ q g cap l0 w) (h : idxInt q k l0 0 = some r) :
  Calls Try.prog 77 #[.slice A0 l0.length c0, .func (.func g) #[] cap] w fun e w' => e = .returned (.int .i64 r) ∧ Drawn0 w w' := by
 have HR0 := Aside0.mk hr0
 have HF := Aside0.mk hf
 clear hr0 hf
 have H' := Aside0.mk h
 clear h
 go_enter Try.func77, Try.ntmps77
 go_wp2
 go_loopg [8] k (fun kq v8 w' => ∃ (x8 : Int), v8 = .int .i64 x8 ∧ Aside0 (idxInt q kq l0 x8 = some r) ∧ Drawn0 w w')
 case atStart => exact ⟨0, rfl, H', Drawn0.refl _⟩
 case round =>
  clear H'
  obtain ⟨x8, rfl, HA, ⟨m1, rfl⟩⟩ := hrel
  cases gk with
  | zero => exact absurd HA.out (by simp [idxInt])
  | succ k1 =>
   have H := HA.out
   clear HA
   simp only [idxInt] at H
   by_cases c3 : x8 < (l0.length : Int)
   ·rw [if_pos c3] at H
    have c3b0 : decide (x8 < (l0.length : Int)) = true := decide_eq_true c3
    by_cases c4 : 0 ≤ x8
    ·rw [if_pos c4] at H
     have c4b0 : decide (0 ≤ x8) = true := decide_eq_true c4
     obtain ⟨ad, e0, hx⟩ := Kd.at_int HR0.out x8 c4 c3
     cases e0
     have HM : Aside0 (rd l0 x8 ∈ l0) := ⟨by unfold rd; rw [List.getD_eq_getElem?_getD, List.getElem?_eq_getElem (show x8.toNat < l0.length by omega)]; exact List.getElem_mem _⟩
     replace c3 := eq_true c3
     replace c4 := eq_true c4
     have HC := Aside0.mk (HF.out m1 _ HM.out)
     by_cases c5 : q (rd l0 x8) = true
     ·rw [if_pos c5] at H
      rw [c5] at HC
      clear c5
      obtain rfl := Option.some.inj H
      go_wp2_with (first | ((with_reducible refine gate_value (x := 11) rfl ?_); refine goesV_ (some 16) rfl rfl (.func (.func g) #[] cap) #[.int .i64 (rd l0 x8)] rfl rfl (by simp only [List.map_toArray, List.map_cons, List.map_nil]; rfl) ?_; refine HC.out.mono ?_; rintro e w1 ⟨rfl, ⟨m2, rfl⟩⟩; refine ⟨_, rfl, ?_⟩))
      go_ret
      exact ⟨rfl, (by repeat (first | exact Drawn0.refl _ | apply Drawn0.step))⟩
     ·rw [if_neg c5] at H
      rw [show q (rd l0 x8) = false by simpa using c5] at HC
      have H' := Aside0.mk H
      clear H c5
      go_wp2_with (first | ((with_reducible refine gate_value (x := 11) rfl ?_); refine goesV_ (some 16) rfl rfl (.func (.func g) #[] cap) #[.int .i64 (rd l0 x8)] rfl rfl (by simp only [List.map_toArray, List.map_cons, List.map_nil]; rfl) ?_; refine HC.out.mono ?_; rintro e w1 ⟨rfl, ⟨m2, rfl⟩⟩; refine ⟨_, rfl, ?_⟩))
      go_roundg k1
      case measure => omega
      case rel => exact ⟨wrap64 (x8 + 1), (by first | rfl | (simp; done) | (simp [*]; done)), H', (by repeat (first | exact Drawn0.refl _ | apply Drawn0.step))⟩
    ·rw [if_neg c4] at H
     exact absurd H (by simp)
   ·rw [if_neg c3] at H
    have c3b0 : decide (x8 < (l0.length : Int)) = false := decide_eq_false c3
    clear c3
    obtain rfl := Option.some.inj H
    go_wp2
    go_ret
    exact ⟨rfl, (by repeat (first | exact Drawn0.refl _ | apply Drawn0.step))⟩
set_option maxHeartbeats 8000000 in
set_option maxRecDepth 100000 in
theorem containsFunc_intQ (q : Int → Bool) (g : FuncId) (cap : Array Value) (A0 : Option Addr) (c0 : Nat) (l0 : List Int) (w : World) (hr0 : Kd.C (Kd.int .i64) w A0 l0.length l0) (hl : l0.length ≤ 140737488355328)
  (hf : TestsQ q g cap l0 w) :
  Calls Try.prog 64 #[.slice A0 l0.length c0, .func (.func g) #[] cap] w fun e w' => e = .returned (.bool (l0.any q)) ∧ Drawn0 w w' := by
 have HC := Aside0.mk (indexFunc_intQ q g cap _ A0 c0 l0 _ w hr0 hf (idxInt_eq q l0 hl l0 0 (List.drop_zero) (Nat.zero_le _)))
 have e1 := idxI_any q l0 0 (Int.le_refl 0)
 rw [← e1]
 clear e1 hf hr0 hl
 go_enter Try.func64, Try.ntmps64
 go_wp2_with (first | ((with_reducible refine gate_callee (f := 77) rfl ?_); refine goesL_ (some 7) rfl rfl Try.func77 (by kernel_rfl) rfl #[.slice A0 l0.length c0, .func (.func g) #[] cap] rfl (by simp only [List.map_toArray, List.map_cons, List.map_nil]; rfl) ?_; refine HC.out.mono ?_; rintro e w1 ⟨rfl, ⟨m2, rfl⟩⟩; refine ⟨_, rfl, ?_⟩))
 go_ret
 exact ⟨by simp, (by repeat (first | exact Drawn0.refl _ | apply Drawn0.step))⟩
end Go.Proofs.Ytodgfmmoaabhhaa.P
namespace Go.Proofs.Ytodgfmmoaabhhaa.P
open Go.RowKit Go.Proofs.YtodgfmmoaabhhaaW.PrintWords Go.Proofs.YtodgfmmoaabhhaaW.PrintLast Go.Proofs.YtodgfmmoaabhhaaW.PrintMore
attribute [local go_sem] max2_int min2_int max_two min_two max_three min_three max_four min_four
set_option linter.unusedVariables false
set_option linter.unusedSimpArgs false
def impl_in.f (a0 : Int) (a1 : Int) (a2 : Int) : Option (Bool) := if a1 ≤ a0 then (some (decide (a0 ≤ a2))) else (some false)
set_option maxHeartbeats 8000000 in
set_option maxRecDepth 100000 in
theorem impl_in.calls (a0 : Int) (a1 : Int) (a2 : Int) (r : Bool) (w : World) (h : impl_in.f a0 a1 a2 = some r) :
  Calls Try.prog 39 #[.int .i64 a0, .int .i64 a1, .int .i64 a2] w fun e w' => e = .returned (.bool r) ∧ Drawn0 w w' := by
 have H : (if a1 ≤ a0 then (some (decide (a0 ≤ a2))) else (some false)) = some r := h
 clear h
 by_cases c4 : a1 ≤ a0
 ·rw [if_pos c4] at H
  have c4b0 : decide (a1 ≤ a0) = true := decide_eq_true c4
  clear c4
  obtain rfl := Option.some.inj H
  go_enter Try.func39, Try.ntmps39
  go_wp2
  go_ret
  exact ⟨by first | rfl | (simp; done) | (simp [*]; done), by repeat (first | exact Drawn0.refl _ | apply Drawn0.step)⟩
 ·rw [if_neg c4] at H
  have c4b0 : decide (a1 ≤ a0) = false := decide_eq_false c4
  clear c4
  obtain rfl := Option.some.inj H
  go_enter Try.func39, Try.ntmps39
  go_wp2
  go_ret
  exact ⟨by first | rfl | (simp; done) | (simp [*]; done), by repeat (first | exact Drawn0.refl _ | apply Drawn0.step)⟩
end Go.Proofs.Ytodgfmmoaabhhaa.P
namespace Go.Proofs.Ytodgfmmoaabhhaa.P
open Go.RowKit Go.Proofs.YtodgfmmoaabhhaaW.PrintWords Go.Proofs.YtodgfmmoaabhhaaW.PrintLast Go.Proofs.YtodgfmmoaabhhaaW.PrintMore
attribute [local go_sem] max2_int min2_int max_two min_two max_three min_three max_four min_four
set_option linter.unusedVariables false
set_option linter.unusedSimpArgs false
def impl_isOp.f (a0 : Int) : Option (Bool) := (impl_in.f a0 1 4).bind fun t254 => (some t254)
set_option maxHeartbeats 8000000 in
set_option maxRecDepth 100000 in
theorem impl_isOp.calls (a0 : Int) (r : Bool) (w : World) (h : impl_isOp.f a0 = some r) :
  Calls Try.prog 60 #[.int .i64 a0] w fun e w' => e = .returned (.bool r) ∧ Drawn0 w w' := by
 have H : ((impl_in.f a0 1 4).bind fun t254 => (some t254)) = some r := h
 clear h
 replace H := Option.bind_eq_some_iff.mp H
 obtain ⟨t254, A20, H⟩ := H
 replace H : (some t254) = some r := H
 have A2 := Aside0.mk A20
 clear A20
 obtain rfl := Option.some.inj H
 go_enter Try.func60, Try.ntmps60
 go_wp2_with (first | ((with_reducible refine gate_callee (f := 39) rfl ?_); refine goesL_ (some 4) rfl rfl Try.func39 (by kernel_rfl) rfl #[.int .i64 a0, .int .i64 1, .int .i64 4] rfl (by (try simp only [List.map_toArray, List.map_cons, List.map_nil]); first | done | rfl | (simp only [List.length_drop, List.length_take]; rfl)) ?_; (with_reducible refine (impl_in.calls a0 1 4 t254 _ A2.out).mono ?_); rintro e w' ⟨rfl, ⟨nd, rfl⟩⟩; refine ⟨_, rfl, ?_⟩))
 go_ret
 exact ⟨by first | rfl | (simp; done) | (simp [*]; done), by repeat (first | exact Drawn0.refl _ | apply Drawn0.step)⟩
end Go.Proofs.Ytodgfmmoaabhhaa.P
namespace Go.Proofs.Ytodgfmmoaabhhaa.P
open Go.RowKit Go.Proofs.YtodgfmmoaabhhaaW.PrintWords Go.Proofs.YtodgfmmoaabhhaaW.PrintLast Go.Proofs.YtodgfmmoaabhhaaW.PrintMore
attribute [local go_sem] max2_int min2_int max_two min_two max_three min_three max_four min_four
set_option linter.unusedVariables false
set_option linter.unusedSimpArgs false
def impl_isVar.f (a0 : Int) : Option (Bool) := (impl_in.f a0 0 11).bind fun t255 => (some t255)
set_option maxHeartbeats 8000000 in
set_option maxRecDepth 100000 in
theorem impl_isVar.calls (a0 : Int) (r : Bool) (w : World) (h : impl_isVar.f a0 = some r) :
  Calls Try.prog 73 #[.int .i64 a0] w fun e w' => e = .returned (.bool r) ∧ Drawn0 w w' := by
 have H : ((impl_in.f a0 0 11).bind fun t255 => (some t255)) = some r := h
 clear h
 replace H := Option.bind_eq_some_iff.mp H
 obtain ⟨t255, A20, H⟩ := H
 replace H : (some t255) = some r := H
 have A2 := Aside0.mk A20
 clear A20
 obtain rfl := Option.some.inj H
 go_enter Try.func73, Try.ntmps73
 go_wp2_with (first | ((with_reducible refine gate_callee (f := 39) rfl ?_); refine goesL_ (some 4) rfl rfl Try.func39 (by kernel_rfl) rfl #[.int .i64 a0, .int .i64 0, .int .i64 11] rfl (by (try simp only [List.map_toArray, List.map_cons, List.map_nil]); first | done | rfl | (simp only [List.length_drop, List.length_take]; rfl)) ?_; (with_reducible refine (impl_in.calls a0 0 11 t255 _ A2.out).mono ?_); rintro e w' ⟨rfl, ⟨nd, rfl⟩⟩; refine ⟨_, rfl, ?_⟩))
 go_ret
 exact ⟨by first | rfl | (simp; done) | (simp [*]; done), by repeat (first | exact Drawn0.refl _ | apply Drawn0.step)⟩
end Go.Proofs.Ytodgfmmoaabhhaa.P
namespace Go.Proofs.Ytodgfmmoaabhhaa.P
open Go.RowKit Go.Proofs.YtodgfmmoaabhhaaW.PrintWords Go.Proofs.YtodgfmmoaabhhaaW.PrintLast Go.Proofs.YtodgfmmoaabhhaaW.PrintMore
attribute [local go_sem] max2_int min2_int max_two min_two max_three min_three max_four min_four
set_option linter.unusedVariables false
set_option linter.unusedSimpArgs false
def impl_nexts.f (a0 : Int) : Option (Int) := if a0 = 5 then (some 2) else (if a0 = 7 then (some 0) else (some 1))
set_option maxHeartbeats 8000000 in
set_option maxRecDepth 100000 in
theorem impl_nexts.calls (a0 : Int) (r : Int) (w : World) (h : impl_nexts.f a0 = some r) :
  Calls Try.prog 70 #[.int .i64 a0] w fun e w' => e = .returned (.int .i64 r) ∧ Drawn0 w w' := by
 have H : (if a0 = 5 then (some 2) else (if a0 = 7 then (some 0) else (some 1))) = some r := h
 clear h
 by_cases c2 : a0 = 5
 ·rw [if_pos c2] at H
  have c2b0 : (a0 == 5) = true := beq_iff_eq.mpr c2
  have c2b1 : (a0 != 5) = false := bne_eq_false_iff_eq.mpr c2
  clear c2
  obtain rfl := Option.some.inj H
  go_enter Try.func70, Try.ntmps70
  go_wp2
  go_ret
  exact ⟨by first | rfl | (simp; done) | (simp [*]; done), by repeat (first | exact Drawn0.refl _ | apply Drawn0.step)⟩
 ·rw [if_neg c2] at H
  have c2b0 : (a0 == 5) = false := beq_eq_false_iff_ne.mpr c2
  have c2b1 : (a0 != 5) = true := bne_iff_ne.mpr c2
  by_cases c3 : a0 = 7
  ·rw [if_pos c3] at H
   have c3b0 : (a0 == 7) = true := beq_iff_eq.mpr c3
   have c3b1 : (a0 != 7) = false := bne_eq_false_iff_eq.mpr c3
   clear c3
   obtain rfl := Option.some.inj H
   go_enter Try.func70, Try.ntmps70
   go_wp2
   go_ret
   exact ⟨by first | rfl | (simp; done) | (simp [*]; done), by repeat (first | exact Drawn0.refl _ | apply Drawn0.step)⟩
  ·rw [if_neg c3] at H
   have c3b0 : (a0 == 7) = false := beq_eq_false_iff_ne.mpr c3
   have c3b1 : (a0 != 7) = true := bne_iff_ne.mpr c3
   obtain rfl := Option.some.inj H
   go_enter Try.func70, Try.ntmps70
   go_wp2
   go_ret
   exact ⟨by first | rfl | (simp; done) | (simp [*]; done), by repeat (first | exact Drawn0.refl _ | apply Drawn0.step)⟩
end Go.Proofs.Ytodgfmmoaabhhaa.P
namespace Go.Proofs.Ytodgfmmoaabhhaa.P
open Go.RowKit Go.Proofs.YtodgfmmoaabhhaaW.PrintWords Go.Proofs.YtodgfmmoaabhhaaW.PrintLast Go.Proofs.YtodgfmmoaabhhaaW.PrintMore
attribute [local go_sem] max2_int min2_int max_two min_two max_three min_three max_four min_four
set_option linter.unusedVariables false
set_option linter.unusedSimpArgs false
def impl_isNum.f (a0 : Int) : Option (Bool) := (impl_in.f a0 0 65535).bind fun t256 => (some t256)
set_option maxHeartbeats 8000000 in
set_option maxRecDepth 100000 in
theorem impl_isNum.calls (a0 : Int) (r : Bool) (w : World) (h : impl_isNum.f a0 = some r) :
  Calls Try.prog 76 #[.int .i64 a0] w fun e w' => e = .returned (.bool r) ∧ Drawn0 w w' := by
 have H : ((impl_in.f a0 0 65535).bind fun t256 => (some t256)) = some r := h
 clear h
 replace H := Option.bind_eq_some_iff.mp H
 obtain ⟨t256, A20, H⟩ := H
 replace H : (some t256) = some r := H
 have A2 := Aside0.mk A20
 clear A20
 obtain rfl := Option.some.inj H
 go_enter Try.func76, Try.ntmps76
 go_wp2_with (first | ((with_reducible refine gate_callee (f := 39) rfl ?_); refine goesL_ (some 4) rfl rfl Try.func39 (by kernel_rfl) rfl #[.int .i64 a0, .int .i64 0, .int .i64 65535] rfl (by (try simp only [List.map_toArray, List.map_cons, List.map_nil]); first | done | rfl | (simp only [List.length_drop, List.length_take]; rfl)) ?_; (with_reducible refine (impl_in.calls a0 0 65535 t256 _ A2.out).mono ?_); rintro e w' ⟨rfl, ⟨nd, rfl⟩⟩; refine ⟨_, rfl, ?_⟩))
 go_ret
 exact ⟨by first | rfl | (simp; done) | (simp [*]; done), by repeat (first | exact Drawn0.refl _ | apply Drawn0.step)⟩
end Go.Proofs.Ytodgfmmoaabhhaa.P
namespace Go.Proofs.Ytodgfmmoaabhhaa.P
open Go.RowKit Go.Proofs.YtodgfmmoaabhhaaW.PrintWords Go.Proofs.YtodgfmmoaabhhaaW.PrintLast Go.Proofs.YtodgfmmoaabhhaaW.PrintMore
attribute [local go_sem] max2_int min2_int max_two min_two max_three min_three max_four min_four
set_option linter.unusedVariables false
set_option linter.unusedSimpArgs false
def impl_Opnd_ok.f (a0_0 : Int) (a0_1 : Int) : Option (Bool) := (impl_isVar.f a0_0).bind fun t258 => (if t258 = true then (if a0_1 = 0 then (some true) else (if a0_0 = (-1) then ((impl_isNum.f a0_1).bind fun t259 => (some t259)) else (some false))) else (if a0_0 = (-1) then ((impl_isNum.f a0_1).bind fun t260 => (some t260)) else (some false)))
set_option maxHeartbeats 8000000 in
set_option maxRecDepth 100000 in
theorem impl_Opnd_ok.calls (a0_0 : Int) (a0_1 : Int) (r : Bool) (w : World) (h : impl_Opnd_ok.f a0_0 a0_1 = some r) :
  Calls Try.prog 61 #[.agg #[.int .i64 a0_0, .int .i64 a0_1]] w fun e w' => e = .returned (.bool r) ∧ Below w.heap.size w w' := by
 have hu44 := Try.underlying44
 have HB := Aside0.mk (Below.refl w.heap.size w)
 have H : ((impl_isVar.f a0_0).bind fun t258 => (if t258 = true then (if a0_1 = 0 then (some true) else (if a0_0 = (-1) then ((impl_isNum.f a0_1).bind fun t259 => (some t259)) else (some false))) else (if a0_0 = (-1) then ((impl_isNum.f a0_1).bind fun t260 => (some t260)) else (some false)))) = some r := h
 clear h
 replace H := Option.bind_eq_some_iff.mp H
 obtain ⟨t258, A20, H⟩ := H
 replace H : (if t258 = true then (if a0_1 = 0 then (some true) else (if a0_0 = (-1) then ((impl_isNum.f a0_1).bind fun t259 => (some t259)) else (some false))) else (if a0_0 = (-1) then ((impl_isNum.f a0_1).bind fun t260 => (some t260)) else (some false))) = some r := H
 have A2 := Aside0.mk A20
 clear A20
 by_cases c3 : t258 = true
 ·subst c3
  have H1 : (if a0_1 = 0 then (some true) else (if a0_0 = (-1) then ((impl_isNum.f a0_1).bind fun t259 => (some t259)) else (some false))) = some r := by rw [if_pos rfl] at H; exact H
  clear H
  have H := H1
  clear H1
  by_cases c4 : a0_1 = 0
  ·rw [if_pos c4] at H
   have c4b0 : (a0_1 == 0) = true := beq_iff_eq.mpr c4
   have c4b1 : (a0_1 != 0) = false := bne_eq_false_iff_eq.mpr c4
   clear c4
   obtain rfl := Option.some.inj H
   go_enter Try.func61, Try.ntmps61
   go_wp2_with (first | ((with_reducible refine gate_dst (N := 1) rfl ?_); refine box_event ?hg (N := 1) ?hd (cs := #[.int .i64 a0_0, .int .i64 a0_1]) (t := 44) ?hr ?_; (case hd => rfl); (case hg => rfl); (case hr => first | (go_simp; done) | (go_simp; rfl) | (go_simp; rfl)); intro gb257 hg w5 hbox hb; have n0_ := Aside0.mk (below_step (by repeat (first | (with_reducible first | exact HB.out | apply below_alloc | apply pw_below_drewN | apply below_drew1) | exact HB.out)) hb); have n1_ := Aside0.mk (hbox); have n2_ := Aside0.mk ((by rw [hg]; exact (below_size (by repeat (first | (with_reducible first | exact HB.out | apply below_alloc | apply pw_below_drewN | apply below_drew1) | exact HB.out))) : w.heap.size ≤ gb257)); have n3_ := Aside0.mk ((by rw [hg]; exact (below_size (by repeat (first | (with_reducible first | exact HB.out | apply below_alloc | apply pw_below_drewN | apply below_drew1) | exact HB.out))) : w.heap.size ≤ gb257)); clear HB; have HB := n0_; have BK257 := n1_; have GW257 := n2_; have GE257 := n3_; clear n0_ n1_ n2_ n3_; clear hb hbox hg; have hcz6_0 : w5.cell? ⟨gb257, 0, none⟩ = some (.int .i64 a0_0) := (blk_cell BK257.out 0).trans rfl; have hcz6_1 : w5.cell? ⟨gb257, 1, none⟩ = some (.int .i64 a0_1) := (blk_cell BK257.out 1).trans rfl; have hfz6_0 := blk_frozen BK257.out 0; have hfz6_1 := blk_frozen BK257.out 1) | ((with_reducible refine gate_callee (f := 73) rfl ?_); refine goesL_ (some 5) rfl rfl Try.func73 (by kernel_rfl) rfl #[.int .i64 a0_0] rfl (by (try simp only [List.map_toArray, List.map_cons, List.map_nil]); first | done | rfl | (simp only [List.length_drop, List.length_take]; rfl)) ?_; (with_reducible refine (impl_isVar.calls a0_0 true _ A2.out).mono ?_); rintro e w' ⟨rfl, ⟨nd, rfl⟩⟩; refine ⟨_, rfl, ?_⟩))
   go_ret
   exact ⟨by first | rfl | (simp [errW_none, errW_some] <;> rfl) | (simp [*, errW_none, errW_some] <;> rfl), by repeat (first | (with_reducible first | exact HB.out | apply below_alloc | apply pw_below_drewN | apply below_drew1 | refine below_set ?_ GE257.out) | exact HB.out)⟩
  ·rw [if_neg c4] at H
   have c4b0 : (a0_1 == 0) = false := beq_eq_false_iff_ne.mpr c4
   have c4b1 : (a0_1 != 0) = true := bne_iff_ne.mpr c4
   by_cases c7 : a0_0 = (-1)
   ·rw [if_pos c7] at H
    have c7b0 : (a0_0 == (-1)) = true := beq_iff_eq.mpr c7
    have c7b1 : (a0_0 != (-1)) = false := bne_eq_false_iff_eq.mpr c7
    clear c7
    replace H := Option.bind_eq_some_iff.mp H
    obtain ⟨t259, A80, H⟩ := H
    replace H : (some t259) = some r := H
    have A8 := Aside0.mk A80
    clear A80
    obtain rfl := Option.some.inj H
    go_enter Try.func61, Try.ntmps61
    go_wp2_with (first | ((with_reducible refine gate_dst (N := 1) rfl ?_); refine box_event ?hg (N := 1) ?hd (cs := #[.int .i64 a0_0, .int .i64 a0_1]) (t := 44) ?hr ?_; (case hd => rfl); (case hg => rfl); (case hr => first | (go_simp; done) | (go_simp; rfl) | (go_simp; rfl)); intro gb257 hg w9 hbox hb; have n0_ := Aside0.mk (below_step (by repeat (first | (with_reducible first | exact HB.out | apply below_alloc | apply pw_below_drewN | apply below_drew1) | exact HB.out)) hb); have n1_ := Aside0.mk (hbox); have n2_ := Aside0.mk ((by rw [hg]; exact (below_size (by repeat (first | (with_reducible first | exact HB.out | apply below_alloc | apply pw_below_drewN | apply below_drew1) | exact HB.out))) : w.heap.size ≤ gb257)); have n3_ := Aside0.mk ((by rw [hg]; exact (below_size (by repeat (first | (with_reducible first | exact HB.out | apply below_alloc | apply pw_below_drewN | apply below_drew1) | exact HB.out))) : w.heap.size ≤ gb257)); clear HB; have HB := n0_; have BK257 := n1_; have GW257 := n2_; have GE257 := n3_; clear n0_ n1_ n2_ n3_; clear hb hbox hg; have hcz10_0 : w9.cell? ⟨gb257, 0, none⟩ = some (.int .i64 a0_0) := (blk_cell BK257.out 0).trans rfl; have hcz10_1 : w9.cell? ⟨gb257, 1, none⟩ = some (.int .i64 a0_1) := (blk_cell BK257.out 1).trans rfl; have hfz10_0 := blk_frozen BK257.out 0; have hfz10_1 := blk_frozen BK257.out 1) | ((with_reducible refine gate_callee (f := 73) rfl ?_); refine goesL_ (some 5) rfl rfl Try.func73 (by kernel_rfl) rfl #[.int .i64 a0_0] rfl (by (try simp only [List.map_toArray, List.map_cons, List.map_nil]); first | done | rfl | (simp only [List.length_drop, List.length_take]; rfl)) ?_; (with_reducible refine (impl_isVar.calls a0_0 true _ A2.out).mono ?_); rintro e w' ⟨rfl, ⟨nd, rfl⟩⟩; refine ⟨_, rfl, ?_⟩) | (go_at_call 76; (with_reducible refine (impl_isNum.calls a0_1 t259 _ A8.out).mono ?_); rintro e w' ⟨rfl, ⟨nd, rfl⟩⟩))
    go_ret
    exact ⟨by first | rfl | (simp [errW_none, errW_some] <;> rfl) | (simp [*, errW_none, errW_some] <;> rfl), by repeat (first | (with_reducible first | exact HB.out | apply below_alloc | apply pw_below_drewN | apply below_drew1 | refine below_set ?_ GE257.out) | exact HB.out)⟩
   ·rw [if_neg c7] at H
    have c7b0 : (a0_0 == (-1)) = false := beq_eq_false_iff_ne.mpr c7
    have c7b1 : (a0_0 != (-1)) = true := bne_iff_ne.mpr c7
    obtain rfl := Option.some.inj H
    go_enter Try.func61, Try.ntmps61
    go_wp2_with (first | ((with_reducible refine gate_dst (N := 1) rfl ?_); refine box_event ?hg (N := 1) ?hd (cs := #[.int .i64 a0_0, .int .i64 a0_1]) (t := 44) ?hr ?_; (case hd => rfl); (case hg => rfl); (case hr => first | (go_simp; done) | (go_simp; rfl) | (go_simp; rfl)); intro gb257 hg w11 hbox hb; have n0_ := Aside0.mk (below_step (by repeat (first | (with_reducible first | exact HB.out | apply below_alloc | apply pw_below_drewN | apply below_drew1) | exact HB.out)) hb); have n1_ := Aside0.mk (hbox); have n2_ := Aside0.mk ((by rw [hg]; exact (below_size (by repeat (first | (with_reducible first | exact HB.out | apply below_alloc | apply pw_below_drewN | apply below_drew1) | exact HB.out))) : w.heap.size ≤ gb257)); have n3_ := Aside0.mk ((by rw [hg]; exact (below_size (by repeat (first | (with_reducible first | exact HB.out | apply below_alloc | apply pw_below_drewN | apply below_drew1) | exact HB.out))) : w.heap.size ≤ gb257)); clear HB; have HB := n0_; have BK257 := n1_; have GW257 := n2_; have GE257 := n3_; clear n0_ n1_ n2_ n3_; clear hb hbox hg; have hcz12_0 : w11.cell? ⟨gb257, 0, none⟩ = some (.int .i64 a0_0) := (blk_cell BK257.out 0).trans rfl; have hcz12_1 : w11.cell? ⟨gb257, 1, none⟩ = some (.int .i64 a0_1) := (blk_cell BK257.out 1).trans rfl; have hfz12_0 := blk_frozen BK257.out 0; have hfz12_1 := blk_frozen BK257.out 1) | ((with_reducible refine gate_callee (f := 73) rfl ?_); refine goesL_ (some 5) rfl rfl Try.func73 (by kernel_rfl) rfl #[.int .i64 a0_0] rfl (by (try simp only [List.map_toArray, List.map_cons, List.map_nil]); first | done | rfl | (simp only [List.length_drop, List.length_take]; rfl)) ?_; (with_reducible refine (impl_isVar.calls a0_0 true _ A2.out).mono ?_); rintro e w' ⟨rfl, ⟨nd, rfl⟩⟩; refine ⟨_, rfl, ?_⟩))
    go_ret
    exact ⟨by first | rfl | (simp [errW_none, errW_some] <;> rfl) | (simp [*, errW_none, errW_some] <;> rfl), by repeat (first | (with_reducible first | exact HB.out | apply below_alloc | apply pw_below_drewN | apply below_drew1 | refine below_set ?_ GE257.out) | exact HB.out)⟩
 ·replace c3 := Bool.eq_false_iff.mpr c3
  subst c3
  have H1 : (if a0_0 = (-1) then ((impl_isNum.f a0_1).bind fun t260 => (some t260)) else (some false)) = some r := by rw [if_neg (show ¬ (false = true) by decide)] at H; exact H
  clear H
  have H := H1
  clear H1
  by_cases c13 : a0_0 = (-1)
  ·rw [if_pos c13] at H
   have c13b0 : (a0_0 == (-1)) = true := beq_iff_eq.mpr c13
   have c13b1 : (a0_0 != (-1)) = false := bne_eq_false_iff_eq.mpr c13
   clear c13
   replace H := Option.bind_eq_some_iff.mp H
   obtain ⟨t260, A140, H⟩ := H
   replace H : (some t260) = some r := H
   have A14 := Aside0.mk A140
   clear A140
   obtain rfl := Option.some.inj H
   go_enter Try.func61, Try.ntmps61
   go_wp2_with (first | ((with_reducible refine gate_dst (N := 1) rfl ?_); refine box_event ?hg (N := 1) ?hd (cs := #[.int .i64 a0_0, .int .i64 a0_1]) (t := 44) ?hr ?_; (case hd => rfl); (case hg => rfl); (case hr => first | (go_simp; done) | (go_simp; rfl) | (go_simp; rfl)); intro gb257 hg w15 hbox hb; have n0_ := Aside0.mk (below_step (by repeat (first | (with_reducible first | exact HB.out | apply below_alloc | apply pw_below_drewN | apply below_drew1) | exact HB.out)) hb); have n1_ := Aside0.mk (hbox); have n2_ := Aside0.mk ((by rw [hg]; exact (below_size (by repeat (first | (with_reducible first | exact HB.out | apply below_alloc | apply pw_below_drewN | apply below_drew1) | exact HB.out))) : w.heap.size ≤ gb257)); have n3_ := Aside0.mk ((by rw [hg]; exact (below_size (by repeat (first | (with_reducible first | exact HB.out | apply below_alloc | apply pw_below_drewN | apply below_drew1) | exact HB.out))) : w.heap.size ≤ gb257)); clear HB; have HB := n0_; have BK257 := n1_; have GW257 := n2_; have GE257 := n3_; clear n0_ n1_ n2_ n3_; clear hb hbox hg; have hcz16_0 : w15.cell? ⟨gb257, 0, none⟩ = some (.int .i64 a0_0) := (blk_cell BK257.out 0).trans rfl; have hcz16_1 : w15.cell? ⟨gb257, 1, none⟩ = some (.int .i64 a0_1) := (blk_cell BK257.out 1).trans rfl; have hfz16_0 := blk_frozen BK257.out 0; have hfz16_1 := blk_frozen BK257.out 1) | ((with_reducible refine gate_callee (f := 73) rfl ?_); refine goesL_ (some 5) rfl rfl Try.func73 (by kernel_rfl) rfl #[.int .i64 a0_0] rfl (by (try simp only [List.map_toArray, List.map_cons, List.map_nil]); first | done | rfl | (simp only [List.length_drop, List.length_take]; rfl)) ?_; (with_reducible refine (impl_isVar.calls a0_0 false _ A2.out).mono ?_); rintro e w' ⟨rfl, ⟨nd, rfl⟩⟩; refine ⟨_, rfl, ?_⟩) | (go_at_call 76; (with_reducible refine (impl_isNum.calls a0_1 t260 _ A14.out).mono ?_); rintro e w' ⟨rfl, ⟨nd, rfl⟩⟩))
   go_ret
   exact ⟨by first | rfl | (simp [errW_none, errW_some] <;> rfl) | (simp [*, errW_none, errW_some] <;> rfl), by repeat (first | (with_reducible first | exact HB.out | apply below_alloc | apply pw_below_drewN | apply below_drew1 | refine below_set ?_ GE257.out) | exact HB.out)⟩
  ·rw [if_neg c13] at H
   have c13b0 : (a0_0 == (-1)) = false := beq_eq_false_iff_ne.mpr c13
   have c13b1 : (a0_0 != (-1)) = true := bne_iff_ne.mpr c13
   obtain rfl := Option.some.inj H
   go_enter Try.func61, Try.ntmps61
   go_wp2_with (first | ((with_reducible refine gate_dst (N := 1) rfl ?_); refine box_event ?hg (N := 1) ?hd (cs := #[.int .i64 a0_0, .int .i64 a0_1]) (t := 44) ?hr ?_; (case hd => rfl); (case hg => rfl); (case hr => first | (go_simp; done) | (go_simp; rfl) | (go_simp; rfl)); intro gb257 hg w17 hbox hb; have n0_ := Aside0.mk (below_step (by repeat (first | (with_reducible first | exact HB.out | apply below_alloc | apply pw_below_drewN | apply below_drew1) | exact HB.out)) hb); have n1_ := Aside0.mk (hbox); have n2_ := Aside0.mk ((by rw [hg]; exact (below_size (by repeat (first | (with_reducible first | exact HB.out | apply below_alloc | apply pw_below_drewN | apply below_drew1) | exact HB.out))) : w.heap.size ≤ gb257)); have n3_ := Aside0.mk ((by rw [hg]; exact (below_size (by repeat (first | (with_reducible first | exact HB.out | apply below_alloc | apply pw_below_drewN | apply below_drew1) | exact HB.out))) : w.heap.size ≤ gb257)); clear HB; have HB := n0_; have BK257 := n1_; have GW257 := n2_; have GE257 := n3_; clear n0_ n1_ n2_ n3_; clear hb hbox hg; have hcz18_0 : w17.cell? ⟨gb257, 0, none⟩ = some (.int .i64 a0_0) := (blk_cell BK257.out 0).trans rfl; have hcz18_1 : w17.cell? ⟨gb257, 1, none⟩ = some (.int .i64 a0_1) := (blk_cell BK257.out 1).trans rfl; have hfz18_0 := blk_frozen BK257.out 0; have hfz18_1 := blk_frozen BK257.out 1) | ((with_reducible refine gate_callee (f := 73) rfl ?_); refine goesL_ (some 5) rfl rfl Try.func73 (by kernel_rfl) rfl #[.int .i64 a0_0] rfl (by (try simp only [List.map_toArray, List.map_cons, List.map_nil]); first | done | rfl | (simp only [List.length_drop, List.length_take]; rfl)) ?_; (with_reducible refine (impl_isVar.calls a0_0 false _ A2.out).mono ?_); rintro e w' ⟨rfl, ⟨nd, rfl⟩⟩; refine ⟨_, rfl, ?_⟩))
   go_ret
   exact ⟨by first | rfl | (simp [errW_none, errW_some] <;> rfl) | (simp [*, errW_none, errW_some] <;> rfl), by repeat (first | (with_reducible first | exact HB.out | apply below_alloc | apply pw_below_drewN | apply below_drew1 | refine below_set ?_ GE257.out) | exact HB.out)⟩
end Go.Proofs.Ytodgfmmoaabhhaa.P
namespace Go.Proofs.Ytodgfmmoaabhhaa.P
open Go.RowKit Go.Proofs.YtodgfmmoaabhhaaW.PrintWords Go.Proofs.YtodgfmmoaabhhaaW.PrintLast Go.Proofs.YtodgfmmoaabhhaaW.PrintMore
attribute [local go_sem] max2_int min2_int max_two min_two max_three min_three max_four min_four
set_option linter.unusedVariables false
set_option linter.unusedSimpArgs false
def impl_Step_changes.f (a0_0 : Int) (a0_1 : Int) (a0_2 : Int) (a0_3 : Int) (a0_4 : Int) (a0_5 : Int) (a0_6 : Int) (l0_7 : List Int) : Option (Bool) := (impl_in.f a0_0 1 3).bind fun t508 => (some t508)
set_option maxHeartbeats 8000000 in
set_option maxRecDepth 100000 in
theorem impl_Step_changes.calls (a0_0 : Int) (a0_1 : Int) (a0_2 : Int) (a0_3 : Int) (a0_4 : Int) (a0_5 : Int) (a0_6 : Int) (A0_7 : Option Addr) (c0_7 : Nat) (l0_7 : List Int) (r : Bool) (w : World) (hr0_7 : Kd.C (Kd.int .i64) w A0_7 l0_7.length l0_7) (hc0_7 : l0_7.length ≤ c0_7) (h : impl_Step_changes.f a0_0 a0_1 a0_2 a0_3 a0_4 a0_5 a0_6 l0_7 = some r) :
  Calls Try.prog 72 #[.agg #[.int .i64 a0_0, .int .i64 a0_1, .int .i64 a0_2, .int .i64 a0_3, .int .i64 a0_4, .int .i64 a0_5, .int .i64 a0_6, .slice A0_7 l0_7.length c0_7]] w fun e w' => e = .returned (.bool r) ∧ Below w.heap.size w w' := by
 have hu69 := Try.underlying69
 have HR0_7 := Aside0.mk hr0_7
 have HC0_7 := Aside0.mk hc0_7
 clear hr0_7 hc0_7
 have HB := Aside0.mk (Below.refl w.heap.size w)
 have H : ((impl_in.f a0_0 1 3).bind fun t508 => (some t508)) = some r := h
 clear h
 replace H := Option.bind_eq_some_iff.mp H
 obtain ⟨t508, A20, H⟩ := H
 replace H : (some t508) = some r := H
 have A2 := Aside0.mk A20
 clear A20
 obtain rfl := Option.some.inj H
 go_enter Try.func72, Try.ntmps72
 go_wp2_with (first | ((with_reducible refine gate_dst (N := 1) rfl ?_); refine box_event ?hg (N := 1) ?hd (cs := #[.int .i64 a0_0, .int .i64 a0_1, .int .i64 a0_2, .int .i64 a0_3, .int .i64 a0_4, .int .i64 a0_5, .int .i64 a0_6, .slice A0_7 l0_7.length c0_7]) (t := 69) ?hr ?_; (case hd => rfl); (case hg => rfl); (case hr => first | (go_simp; done) | (go_simp; rfl) | (go_simp; rfl)); intro gb507 hg w3 hbox hb; have n0_ := Aside0.mk (below_step (by repeat (first | (with_reducible first | exact HB.out | apply below_alloc | apply pw_below_drewN | apply below_drew1) | exact HB.out)) hb); have n1_ := Aside0.mk (hbox); have n2_ := Aside0.mk ((by rw [hg]; exact (below_size (by repeat (first | (with_reducible first | exact HB.out | apply below_alloc | apply pw_below_drewN | apply below_drew1) | exact HB.out))) : w.heap.size ≤ gb507)); have n3_ := Aside0.mk ((by rw [hg]; exact (below_size (by repeat (first | (with_reducible first | exact HB.out | apply below_alloc | apply pw_below_drewN | apply below_drew1) | exact HB.out))) : w.heap.size ≤ gb507)); clear HB; have HB := n0_; have BK507 := n1_; have GW507 := n2_; have GE507 := n3_; clear n0_ n1_ n2_ n3_; clear hb hbox hg; have hcz4_0 : w3.cell? ⟨gb507, 0, none⟩ = some (.int .i64 a0_0) := (blk_cell BK507.out 0).trans rfl; have hcz4_1 : w3.cell? ⟨gb507, 1, none⟩ = some (.int .i64 a0_1) := (blk_cell BK507.out 1).trans rfl; have hcz4_2 : w3.cell? ⟨gb507, 2, none⟩ = some (.int .i64 a0_2) := (blk_cell BK507.out 2).trans rfl; have hcz4_3 : w3.cell? ⟨gb507, 3, none⟩ = some (.int .i64 a0_3) := (blk_cell BK507.out 3).trans rfl; have hcz4_4 : w3.cell? ⟨gb507, 4, none⟩ = some (.int .i64 a0_4) := (blk_cell BK507.out 4).trans rfl; have hcz4_5 : w3.cell? ⟨gb507, 5, none⟩ = some (.int .i64 a0_5) := (blk_cell BK507.out 5).trans rfl; have hcz4_6 : w3.cell? ⟨gb507, 6, none⟩ = some (.int .i64 a0_6) := (blk_cell BK507.out 6).trans rfl; have hcz4_7 : w3.cell? ⟨gb507, 7, none⟩ = some (.slice A0_7 l0_7.length c0_7) := (blk_cell BK507.out 7).trans rfl; have hfz4_0 := blk_frozen BK507.out 0; have hfz4_1 := blk_frozen BK507.out 1; have hfz4_2 := blk_frozen BK507.out 2; have hfz4_3 := blk_frozen BK507.out 3; have hfz4_4 := blk_frozen BK507.out 4; have hfz4_5 := blk_frozen BK507.out 5; have hfz4_6 := blk_frozen BK507.out 6; have hfz4_7 := blk_frozen BK507.out 7) | ((with_reducible refine gate_callee (f := 39) rfl ?_); refine goesL_ (some 5) rfl rfl Try.func39 (by kernel_rfl) rfl #[.int .i64 a0_0, .int .i64 1, .int .i64 3] rfl (by (try simp only [List.map_toArray, List.map_cons, List.map_nil]); first | done | rfl | (simp only [List.length_drop, List.length_take]; rfl)) ?_; (with_reducible refine (impl_in.calls a0_0 1 3 t508 _ A2.out).mono ?_); rintro e w' ⟨rfl, ⟨nd, rfl⟩⟩; refine ⟨_, rfl, ?_⟩))
 go_ret
 exact ⟨by first | rfl | (simp [errW_none, errW_some] <;> rfl) | (simp [*, errW_none, errW_some] <;> rfl), by repeat (first | (with_reducible first | exact HB.out | apply below_alloc | apply pw_below_drewN | apply below_drew1 | refine below_set ?_ GE507.out) | exact HB.out)⟩
end Go.Proofs.Ytodgfmmoaabhhaa.P
namespace Go.Proofs.Ytodgfmmoaabhhaa.P
open Go.RowKit Go.Proofs.YtodgfmmoaabhhaaW.PrintWords Go.Proofs.YtodgfmmoaabhhaaW.PrintLast Go.Proofs.YtodgfmmoaabhhaaW.PrintMore
attribute [local go_sem] max2_int min2_int max_two min_two max_three min_three max_four min_four
set_option linter.unusedVariables false
set_option linter.unusedSimpArgs false
def impl_Step_usesA.f (a0_0 : Int) (a0_1 : Int) (a0_2 : Int) (a0_3 : Int) (a0_4 : Int) (a0_5 : Int) (a0_6 : Int) (l0_7 : List Int) : Option (Bool) := if a0_0 = 1 then (some true) else (if a0_0 = 2 then (some true) else (if a0_0 = 4 then (some true) else (some (a0_0 == 5))))
set_option maxHeartbeats 8000000 in
set_option maxRecDepth 100000 in
theorem impl_Step_usesA.calls (a0_0 : Int) (a0_1 : Int) (a0_2 : Int) (a0_3 : Int) (a0_4 : Int) (a0_5 : Int) (a0_6 : Int) (A0_7 : Option Addr) (c0_7 : Nat) (l0_7 : List Int) (r : Bool) (w : World) (hr0_7 : Kd.C (Kd.int .i64) w A0_7 l0_7.length l0_7) (hc0_7 : l0_7.length ≤ c0_7) (h : impl_Step_usesA.f a0_0 a0_1 a0_2 a0_3 a0_4 a0_5 a0_6 l0_7 = some r) :
  Calls Try.prog 74 #[.agg #[.int .i64 a0_0, .int .i64 a0_1, .int .i64 a0_2, .int .i64 a0_3, .int .i64 a0_4, .int .i64 a0_5, .int .i64 a0_6, .slice A0_7 l0_7.length c0_7]] w fun e w' => e = .returned (.bool r) ∧ Below w.heap.size w w' := by
 have hu69 := Try.underlying69
 have HR0_7 := Aside0.mk hr0_7
 have HC0_7 := Aside0.mk hc0_7
 clear hr0_7 hc0_7
 have HB := Aside0.mk (Below.refl w.heap.size w)
 have H : (if a0_0 = 1 then (some true) else (if a0_0 = 2 then (some true) else (if a0_0 = 4 then (some true) else (some (a0_0 == 5))))) = some r := h
 clear h
 by_cases c2 : a0_0 = 1
 ·rw [if_pos c2] at H
  have c2b0 : (a0_0 == 1) = true := beq_iff_eq.mpr c2
  have c2b1 : (a0_0 != 1) = false := bne_eq_false_iff_eq.mpr c2
  clear c2
  obtain rfl := Option.some.inj H
  go_enter Try.func74, Try.ntmps74
  go_wp2_with (first | ((with_reducible refine gate_dst (N := 1) rfl ?_); refine box_event ?hg (N := 1) ?hd (cs := #[.int .i64 a0_0, .int .i64 a0_1, .int .i64 a0_2, .int .i64 a0_3, .int .i64 a0_4, .int .i64 a0_5, .int .i64 a0_6, .slice A0_7 l0_7.length c0_7]) (t := 69) ?hr ?_; (case hd => rfl); (case hg => rfl); (case hr => first | (go_simp; done) | (go_simp; rfl) | (go_simp; rfl)); intro gb504 hg w3 hbox hb; have n0_ := Aside0.mk (below_step (by repeat (first | (with_reducible first | exact HB.out | apply below_alloc | apply pw_below_drewN | apply below_drew1) | exact HB.out)) hb); have n1_ := Aside0.mk (hbox); have n2_ := Aside0.mk ((by rw [hg]; exact (below_size (by repeat (first | (with_reducible first | exact HB.out | apply below_alloc | apply pw_below_drewN | apply below_drew1) | exact HB.out))) : w.heap.size ≤ gb504)); have n3_ := Aside0.mk ((by rw [hg]; exact (below_size (by repeat (first | (with_reducible first | exact HB.out | apply below_alloc | apply pw_below_drewN | apply below_drew1) | exact HB.out))) : w.heap.size ≤ gb504)); clear HB; have HB := n0_; have BK504 := n1_; have GW504 := n2_; have GE504 := n3_; clear n0_ n1_ n2_ n3_; clear hb hbox hg; have hcz4_0 : w3.cell? ⟨gb504, 0, none⟩ = some (.int .i64 a0_0) := (blk_cell BK504.out 0).trans rfl; have hcz4_1 : w3.cell? ⟨gb504, 1, none⟩ = some (.int .i64 a0_1) := (blk_cell BK504.out 1).trans rfl; have hcz4_2 : w3.cell? ⟨gb504, 2, none⟩ = some (.int .i64 a0_2) := (blk_cell BK504.out 2).trans rfl; have hcz4_3 : w3.cell? ⟨gb504, 3, none⟩ = some (.int .i64 a0_3) := (blk_cell BK504.out 3).trans rfl; have hcz4_4 : w3.cell? ⟨gb504, 4, none⟩ = some (.int .i64 a0_4) := (blk_cell BK504.out 4).trans rfl; have hcz4_5 : w3.cell? ⟨gb504, 5, none⟩ = some (.int .i64 a0_5) := (blk_cell BK504.out 5).trans rfl; have hcz4_6 : w3.cell? ⟨gb504, 6, none⟩ = some (.int .i64 a0_6) := (blk_cell BK504.out 6).trans rfl; have hcz4_7 : w3.cell? ⟨gb504, 7, none⟩ = some (.slice A0_7 l0_7.length c0_7) := (blk_cell BK504.out 7).trans rfl; have hfz4_0 := blk_frozen BK504.out 0; have hfz4_1 := blk_frozen BK504.out 1; have hfz4_2 := blk_frozen BK504.out 2; have hfz4_3 := blk_frozen BK504.out 3; have hfz4_4 := blk_frozen BK504.out 4; have hfz4_5 := blk_frozen BK504.out 5; have hfz4_6 := blk_frozen BK504.out 6; have hfz4_7 := blk_frozen BK504.out 7))
  go_ret
  exact ⟨by first | rfl | (simp [errW_none, errW_some] <;> rfl) | (simp [*, errW_none, errW_some] <;> rfl), by repeat (first | (with_reducible first | exact HB.out | apply below_alloc | apply pw_below_drewN | apply below_drew1 | refine below_set ?_ GE504.out) | exact HB.out)⟩
 ·rw [if_neg c2] at H
  have c2b0 : (a0_0 == 1) = false := beq_eq_false_iff_ne.mpr c2
  have c2b1 : (a0_0 != 1) = true := bne_iff_ne.mpr c2
  by_cases c5 : a0_0 = 2
  ·rw [if_pos c5] at H
   have c5b0 : (a0_0 == 2) = true := beq_iff_eq.mpr c5
   have c5b1 : (a0_0 != 2) = false := bne_eq_false_iff_eq.mpr c5
   clear c5
   obtain rfl := Option.some.inj H
   go_enter Try.func74, Try.ntmps74
   go_wp2_with (first | ((with_reducible refine gate_dst (N := 1) rfl ?_); refine box_event ?hg (N := 1) ?hd (cs := #[.int .i64 a0_0, .int .i64 a0_1, .int .i64 a0_2, .int .i64 a0_3, .int .i64 a0_4, .int .i64 a0_5, .int .i64 a0_6, .slice A0_7 l0_7.length c0_7]) (t := 69) ?hr ?_; (case hd => rfl); (case hg => rfl); (case hr => first | (go_simp; done) | (go_simp; rfl) | (go_simp; rfl)); intro gb504 hg w6 hbox hb; have n0_ := Aside0.mk (below_step (by repeat (first | (with_reducible first | exact HB.out | apply below_alloc | apply pw_below_drewN | apply below_drew1) | exact HB.out)) hb); have n1_ := Aside0.mk (hbox); have n2_ := Aside0.mk ((by rw [hg]; exact (below_size (by repeat (first | (with_reducible first | exact HB.out | apply below_alloc | apply pw_below_drewN | apply below_drew1) | exact HB.out))) : w.heap.size ≤ gb504)); have n3_ := Aside0.mk ((by rw [hg]; exact (below_size (by repeat (first | (with_reducible first | exact HB.out | apply below_alloc | apply pw_below_drewN | apply below_drew1) | exact HB.out))) : w.heap.size ≤ gb504)); clear HB; have HB := n0_; have BK504 := n1_; have GW504 := n2_; have GE504 := n3_; clear n0_ n1_ n2_ n3_; clear hb hbox hg; have hcz7_0 : w6.cell? ⟨gb504, 0, none⟩ = some (.int .i64 a0_0) := (blk_cell BK504.out 0).trans rfl; have hcz7_1 : w6.cell? ⟨gb504, 1, none⟩ = some (.int .i64 a0_1) := (blk_cell BK504.out 1).trans rfl; have hcz7_2 : w6.cell? ⟨gb504, 2, none⟩ = some (.int .i64 a0_2) := (blk_cell BK504.out 2).trans rfl; have hcz7_3 : w6.cell? ⟨gb504, 3, none⟩ = some (.int .i64 a0_3) := (blk_cell BK504.out 3).trans rfl; have hcz7_4 : w6.cell? ⟨gb504, 4, none⟩ = some (.int .i64 a0_4) := (blk_cell BK504.out 4).trans rfl; have hcz7_5 : w6.cell? ⟨gb504, 5, none⟩ = some (.int .i64 a0_5) := (blk_cell BK504.out 5).trans rfl; have hcz7_6 : w6.cell? ⟨gb504, 6, none⟩ = some (.int .i64 a0_6) := (blk_cell BK504.out 6).trans rfl; have hcz7_7 : w6.cell? ⟨gb504, 7, none⟩ = some (.slice A0_7 l0_7.length c0_7) := (blk_cell BK504.out 7).trans rfl; have hfz7_0 := blk_frozen BK504.out 0; have hfz7_1 := blk_frozen BK504.out 1; have hfz7_2 := blk_frozen BK504.out 2; have hfz7_3 := blk_frozen BK504.out 3; have hfz7_4 := blk_frozen BK504.out 4; have hfz7_5 := blk_frozen BK504.out 5; have hfz7_6 := blk_frozen BK504.out 6; have hfz7_7 := blk_frozen BK504.out 7))
   go_ret
   exact ⟨by first | rfl | (simp [errW_none, errW_some] <;> rfl) | (simp [*, errW_none, errW_some] <;> rfl), by repeat (first | (with_reducible first | exact HB.out | apply below_alloc | apply pw_below_drewN | apply below_drew1 | refine below_set ?_ GE504.out) | exact HB.out)⟩
  ·rw [if_neg c5] at H
   have c5b0 : (a0_0 == 2) = false := beq_eq_false_iff_ne.mpr c5
   have c5b1 : (a0_0 != 2) = true := bne_iff_ne.mpr c5
   by_cases c8 : a0_0 = 4
   ·rw [if_pos c8] at H
    have c8b0 : (a0_0 == 4) = true := beq_iff_eq.mpr c8
    have c8b1 : (a0_0 != 4) = false := bne_eq_false_iff_eq.mpr c8
    clear c8
    obtain rfl := Option.some.inj H
    go_enter Try.func74, Try.ntmps74
    go_wp2_with (first | ((with_reducible refine gate_dst (N := 1) rfl ?_); refine box_event ?hg (N := 1) ?hd (cs := #[.int .i64 a0_0, .int .i64 a0_1, .int .i64 a0_2, .int .i64 a0_3, .int .i64 a0_4, .int .i64 a0_5, .int .i64 a0_6, .slice A0_7 l0_7.length c0_7]) (t := 69) ?hr ?_; (case hd => rfl); (case hg => rfl); (case hr => first | (go_simp; done) | (go_simp; rfl) | (go_simp; rfl)); intro gb504 hg w9 hbox hb; have n0_ := Aside0.mk (below_step (by repeat (first | (with_reducible first | exact HB.out | apply below_alloc | apply pw_below_drewN | apply below_drew1) | exact HB.out)) hb); have n1_ := Aside0.mk (hbox); have n2_ := Aside0.mk ((by rw [hg]; exact (below_size (by repeat (first | (with_reducible first | exact HB.out | apply below_alloc | apply pw_below_drewN | apply below_drew1) | exact HB.out))) : w.heap.size ≤ gb504)); have n3_ := Aside0.mk ((by rw [hg]; exact (below_size (by repeat (first | (with_reducible first | exact HB.out | apply below_alloc | apply pw_below_drewN | apply below_drew1) | exact HB.out))) : w.heap.size ≤ gb504)); clear HB; have HB := n0_; have BK504 := n1_; have GW504 := n2_; have GE504 := n3_; clear n0_ n1_ n2_ n3_; clear hb hbox hg; have hcz10_0 : w9.cell? ⟨gb504, 0, none⟩ = some (.int .i64 a0_0) := (blk_cell BK504.out 0).trans rfl; have hcz10_1 : w9.cell? ⟨gb504, 1, none⟩ = some (.int .i64 a0_1) := (blk_cell BK504.out 1).trans rfl; have hcz10_2 : w9.cell? ⟨gb504, 2, none⟩ = some (.int .i64 a0_2) := (blk_cell BK504.out 2).trans rfl; have hcz10_3 : w9.cell? ⟨gb504, 3, none⟩ = some (.int .i64 a0_3) := (blk_cell BK504.out 3).trans rfl; have hcz10_4 : w9.cell? ⟨gb504, 4, none⟩ = some (.int .i64 a0_4) := (blk_cell BK504.out 4).trans rfl; have hcz10_5 : w9.cell? ⟨gb504, 5, none⟩ = some (.int .i64 a0_5) := (blk_cell BK504.out 5).trans rfl; have hcz10_6 : w9.cell? ⟨gb504, 6, none⟩ = some (.int .i64 a0_6) := (blk_cell BK504.out 6).trans rfl; have hcz10_7 : w9.cell? ⟨gb504, 7, none⟩ = some (.slice A0_7 l0_7.length c0_7) := (blk_cell BK504.out 7).trans rfl; have hfz10_0 := blk_frozen BK504.out 0; have hfz10_1 := blk_frozen BK504.out 1; have hfz10_2 := blk_frozen BK504.out 2; have hfz10_3 := blk_frozen BK504.out 3; have hfz10_4 := blk_frozen BK504.out 4; have hfz10_5 := blk_frozen BK504.out 5; have hfz10_6 := blk_frozen BK504.out 6; have hfz10_7 := blk_frozen BK504.out 7))
    go_ret
    exact ⟨by first | rfl | (simp [errW_none, errW_some] <;> rfl) | (simp [*, errW_none, errW_some] <;> rfl), by repeat (first | (with_reducible first | exact HB.out | apply below_alloc | apply pw_below_drewN | apply below_drew1 | refine below_set ?_ GE504.out) | exact HB.out)⟩
   ·rw [if_neg c8] at H
    have c8b0 : (a0_0 == 4) = false := beq_eq_false_iff_ne.mpr c8
    have c8b1 : (a0_0 != 4) = true := bne_iff_ne.mpr c8
    obtain rfl := Option.some.inj H
    go_enter Try.func74, Try.ntmps74
    go_wp2_with (first | ((with_reducible refine gate_dst (N := 1) rfl ?_); refine box_event ?hg (N := 1) ?hd (cs := #[.int .i64 a0_0, .int .i64 a0_1, .int .i64 a0_2, .int .i64 a0_3, .int .i64 a0_4, .int .i64 a0_5, .int .i64 a0_6, .slice A0_7 l0_7.length c0_7]) (t := 69) ?hr ?_; (case hd => rfl); (case hg => rfl); (case hr => first | (go_simp; done) | (go_simp; rfl) | (go_simp; rfl)); intro gb504 hg w11 hbox hb; have n0_ := Aside0.mk (below_step (by repeat (first | (with_reducible first | exact HB.out | apply below_alloc | apply pw_below_drewN | apply below_drew1) | exact HB.out)) hb); have n1_ := Aside0.mk (hbox); have n2_ := Aside0.mk ((by rw [hg]; exact (below_size (by repeat (first | (with_reducible first | exact HB.out | apply below_alloc | apply pw_below_drewN | apply below_drew1) | exact HB.out))) : w.heap.size ≤ gb504)); have n3_ := Aside0.mk ((by rw [hg]; exact (below_size (by repeat (first | (with_reducible first | exact HB.out | apply below_alloc | apply pw_below_drewN | apply below_drew1) | exact HB.out))) : w.heap.size ≤ gb504)); clear HB; have HB := n0_; have BK504 := n1_; have GW504 := n2_; have GE504 := n3_; clear n0_ n1_ n2_ n3_; clear hb hbox hg; have hcz12_0 : w11.cell? ⟨gb504, 0, none⟩ = some (.int .i64 a0_0) := (blk_cell BK504.out 0).trans rfl; have hcz12_1 : w11.cell? ⟨gb504, 1, none⟩ = some (.int .i64 a0_1) := (blk_cell BK504.out 1).trans rfl; have hcz12_2 : w11.cell? ⟨gb504, 2, none⟩ = some (.int .i64 a0_2) := (blk_cell BK504.out 2).trans rfl; have hcz12_3 : w11.cell? ⟨gb504, 3, none⟩ = some (.int .i64 a0_3) := (blk_cell BK504.out 3).trans rfl; have hcz12_4 : w11.cell? ⟨gb504, 4, none⟩ = some (.int .i64 a0_4) := (blk_cell BK504.out 4).trans rfl; have hcz12_5 : w11.cell? ⟨gb504, 5, none⟩ = some (.int .i64 a0_5) := (blk_cell BK504.out 5).trans rfl; have hcz12_6 : w11.cell? ⟨gb504, 6, none⟩ = some (.int .i64 a0_6) := (blk_cell BK504.out 6).trans rfl; have hcz12_7 : w11.cell? ⟨gb504, 7, none⟩ = some (.slice A0_7 l0_7.length c0_7) := (blk_cell BK504.out 7).trans rfl; have hfz12_0 := blk_frozen BK504.out 0; have hfz12_1 := blk_frozen BK504.out 1; have hfz12_2 := blk_frozen BK504.out 2; have hfz12_3 := blk_frozen BK504.out 3; have hfz12_4 := blk_frozen BK504.out 4; have hfz12_5 := blk_frozen BK504.out 5; have hfz12_6 := blk_frozen BK504.out 6; have hfz12_7 := blk_frozen BK504.out 7))
    go_ret
    exact ⟨by first | rfl | (simp [errW_none, errW_some] <;> rfl) | (simp [*, errW_none, errW_some] <;> rfl), by repeat (first | (with_reducible first | exact HB.out | apply below_alloc | apply pw_below_drewN | apply below_drew1 | refine below_set ?_ GE504.out) | exact HB.out)⟩
end Go.Proofs.Ytodgfmmoaabhhaa.P
namespace Go.Proofs.Ytodgfmmoaabhhaa.P
open Go.RowKit Go.Proofs.YtodgfmmoaabhhaaW.PrintWords Go.Proofs.YtodgfmmoaabhhaaW.PrintLast Go.Proofs.YtodgfmmoaabhhaaW.PrintMore
set_option linter.unusedVariables false
set_option linter.unusedSimpArgs false
def inB (n lo hi : Int) : Bool := decide (lo ≤ n) && decide (n ≤ hi)
def nextsZ (k : Int) : Int := if k = 5 then 2 else if k = 7 then 0 else 1
def chB (k : Int) : Bool := inB k 1 3
def useAB (k : Int) : Bool := k == 1 || k == 2 || k == 4 || k == 5
def opOkB (v n : Int) : Bool := inB v 0 11 && n == 0 || v == -1 && inB n 0 65535
theorem impl_in_eq (a b c : Int) : impl_in.f a b c = some (inB a b c) := by
 unfold impl_in.f inB
 by_cases h : b ≤ a <;> simp [h]
theorem impl_isVar_eq (a : Int) : impl_isVar.f a = some (inB a 0 11) := by unfold impl_isVar.f; rw [impl_in_eq]; rfl
theorem impl_isNum_eq (a : Int) : impl_isNum.f a = some (inB a 0 65535) := by unfold impl_isNum.f; rw [impl_in_eq]; rfl
theorem impl_isOp_eq (a : Int) : impl_isOp.f a = some (inB a 1 4) := by unfold impl_isOp.f; rw [impl_in_eq]; rfl
theorem impl_nexts_eq (a : Int) : impl_nexts.f a = some (nextsZ a) := by
 unfold impl_nexts.f nextsZ
 by_cases h : a = 5
 ·simp [h]
 ·by_cases h2 : a = 7 <;> simp [h, h2]
theorem impl_Opnd_ok_eq (v n : Int) : impl_Opnd_ok.f v n = some (opOkB v n) := by
 unfold impl_Opnd_ok.f opOkB
 rw [impl_isVar_eq, impl_isNum_eq]
 simp only [Option.bind_some]
 generalize inB v 0 11 = b1
 generalize inB n 0 65535 = b2
 cases b1 <;> cases b2 <;> by_cases h2 : n = 0 <;> by_cases h3 : v = -1 <;> simp [h2, h3]
theorem impl_changes_eq (k a2 a3 a4 a5 a6 a7 : Int) (l : List Int) : impl_Step_changes.f k a2 a3 a4 a5 a6 a7 l = some (chB k) := by unfold impl_Step_changes.f chB; rw [impl_in_eq]; rfl
theorem impl_usesA_eq (k a2 a3 a4 a5 a6 a7 : Int) (l : List Int) : impl_Step_usesA.f k a2 a3 a4 a5 a6 a7 l = some (useAB k) := by
 unfold impl_Step_usesA.f useAB
 by_cases h1 : k = 1
 ·simp [h1]
 ·by_cases h2 : k = 2
  ·simp [h2]
  ·by_cases h3 : k = 4 <;> simp [h1, h2, h3]
def stepOkB (n : Int) (s : S69) : Bool :=
 inB s.f0 1 7 && ((s.f5.length : Int) == nextsZ s.f0 && (!s.f5.any (fun x => !inB x 0 (n - 1)) &&
  ((if chB s.f0 = true then inB s.f1 0 11 else s.f1 == 0) && ((if useAB s.f0 = true then opOkB s.f3.f0 s.f3.f1 else s.f3.f0 == 0 && s.f3.f1 == 0) &&
   (if s.f0 = 1 then inB s.f2 1 4 && opOkB s.f4.f0 s.f4.f1 else s.f2 == 0 && (s.f4.f0 == 0 && s.f4.f1 == 0))))))
def progOkB (l : List S69) : Bool := decide (1 ≤ l.length) && (decide (l.length ≤ 60) && l.all (stepOkB l.length))
theorem quiet_D {f : FuncId} {args : Array Value} {w : World} {n : Nat} {v : Value} (h : Calls Try.prog f args (w.drewN n) fun e w' => e = .returned v ∧ Drawn0 (w.drewN n) w') :
  Calls Try.prog f args (w.drewN n) fun e w'' => e = .returned v ∧ ∃ m, w'' = w.drewN m :=
 Calls.quiet_of (h.mono fun _ _ ⟨a, ⟨b⟩⟩ => ⟨a, b⟩)
theorem ok1_calls (x n : Int) (b : Nat) (w : World) (hc : w.cell? ⟨b, 0, none⟩ = some (.int .i64 n)) (h1 : 0 ≤ n) (h2 : n ≤ 140737488355328) :
  Calls Try.prog 71 #[.int .i64 x, .pointer (some ⟨b, 0, none⟩)] w fun e w' => e = .returned (.bool (!inB x 0 (n - 1))) ∧ Drawn0 w w' := by
 have HC := Aside0.mk (impl_in_eq x 0 (n - 1))
 go_enter Try.func71, Try.ntmps71
 go_wp2_with (first | ((with_reducible refine gate_callee (f := 39) rfl ?_); refine goesL_ (some 7) rfl rfl Try.func39 (by kernel_rfl) rfl #[.int .i64 x, .int .i64 0, .int .i64 (n - 1)] rfl (by simp only [List.map_toArray, List.map_cons, List.map_nil]; rfl) ?_; refine (impl_in.calls _ _ _ _ _ HC.out).mono ?_; rintro e w1 ⟨rfl, ⟨m2, rfl⟩⟩; refine ⟨_, rfl, ?_⟩))
 go_ret
 exact ⟨rfl, by repeat (first | exact Drawn0.refl _ | apply Drawn0.step)⟩
theorem ret_bool {a b : Bool} (h : a = b) : Ending.returned (.bool a) = Ending.returned (.bool b) := by rw [h]
theorem Step_any_ch (s : S69) (A : Option Addr) (c : Nat) (w : World) (hr : Kd.C (Kd.int .i64) w A s.f5.length s.f5) (hc : s.f5.length ≤ c) :
  Calls Try.prog 72 #[.agg #[.int .i64 s.f0, .int .i64 s.f1, .int .i64 s.f2, .int .i64 s.f3.f0, .int .i64 s.f3.f1, .int .i64 s.f4.f0, .int .i64 s.f4.f1, .slice A s.f5.length c]] w fun e w' => e = .returned (.bool (chB s.f0)) ∧ Below w.heap.size w w' :=
 impl_Step_changes.calls _ _ _ _ _ _ _ A c s.f5 _ w hr hc (impl_changes_eq _ _ _ _ _ _ _ _)
theorem Step_any_us (s : S69) (A : Option Addr) (c : Nat) (w : World) (hr : Kd.C (Kd.int .i64) w A s.f5.length s.f5) (hc : s.f5.length ≤ c) :
  Calls Try.prog 74 #[.agg #[.int .i64 s.f0, .int .i64 s.f1, .int .i64 s.f2, .int .i64 s.f3.f0, .int .i64 s.f3.f1, .int .i64 s.f4.f0, .int .i64 s.f4.f1, .slice A s.f5.length c]] w fun e w' => e = .returned (.bool (useAB s.f0)) ∧ Below w.heap.size w w' :=
 impl_Step_usesA.calls _ _ _ _ _ _ _ A c s.f5 _ w hr hc (impl_usesA_eq _ _ _ _ _ _ _ _)
theorem Opnd_any (v n : Int) (w : World) : Calls Try.prog 61 #[.agg #[.int .i64 v, .int .i64 n]] w fun e w' => e = .returned (.bool (opOkB v n)) ∧ Below w.heap.size w w' :=
 impl_Opnd_ok.calls v n _ w (impl_Opnd_ok_eq v n)
theorem isVar_any (v : Int) (w : World) : Calls Try.prog 73 #[.int .i64 v] w fun e w' => e = .returned (.bool (inB v 0 11)) ∧ Drawn0 w w' := impl_isVar.calls v _ w (impl_isVar_eq v)
theorem isOp_any (v : Int) (w : World) : Calls Try.prog 60 #[.int .i64 v] w fun e w' => e = .returned (.bool (inB v 1 4)) ∧ Drawn0 w w' := impl_isOp.calls v _ w (impl_isOp_eq v)
set_option maxHeartbeats 16000000 in
set_option maxRecDepth 100000 in
theorem stepOk_calls (s : S69) (A : Option Addr) (c : Nat) (n : Int) (w : World) (hr : Kd.C (Kd.int .i64) w A s.f5.length s.f5) (hc : s.f5.length ≤ c) (h1 : 0 ≤ n) (h2 : n ≤ 140737488355328) :
  Calls Try.prog 56 #[.agg #[.int .i64 s.f0, .int .i64 s.f1, .int .i64 s.f2, .int .i64 s.f3.f0, .int .i64 s.f3.f1, .int .i64 s.f4.f0, .int .i64 s.f4.f1, .slice A s.f5.length c], .int .i64 n] w fun e w' => e = .returned (.bool (stepOkB n s)) ∧ Below w.heap.size w w' := by
 have hmf : ∀ (fn : Fn) (first cap : Array Value) (w : World), (Instr.makeFunc fn first cap).run Try.prog w = .ok (.func fn first cap) w := fun _ _ _ _ => rfl
 have hu1 := Try.underlying69
 have hu2 := Try.underlying44
 have HR := Aside0.mk hr
 have HC := Aside0.mk hc
 have H1 := Aside0.mk h1
 have H2 := Aside0.mk h2
 clear hr hc h1 h2
 have HB := Aside0.mk (Below.refl w.heap.size w)
 by_cases c1 : inB s.f0 1 7 = true
 ·have Q1 := fun w => Aside0.mk (impl_in.calls s.f0 1 7 true w (by rw [impl_in_eq, c1]))
  have Q2 := fun w => Aside0.mk (impl_nexts.calls s.f0 _ w (impl_nexts_eq s.f0))
  by_cases c2 : (s.f5.length : Int) = nextsZ s.f0
  ·have c2b : ((s.f5.length : Int) != nextsZ s.f0) = false := bne_eq_false_iff_eq.mpr c2
   have hz : nextsZ s.f0 ≤ 2 := by unfold nextsZ; split <;> (try split) <;> omega
   have HL : Aside0 (s.f5.length ≤ 140737488355328) := ⟨by omega⟩
   clear hz
   have Q3 : Aside0 (∀ g W m, Below w.heap.size w W → W.cell? ⟨g, 0, none⟩ = some (.int .i64 n) → Calls Try.prog 64 #[.slice A s.f5.length c, .func (.func 71) #[] #[.pointer (some ⟨g, 0, none⟩)]] (W.drewN m) fun e w' => e = .returned (.bool (s.f5.any (fun x => !inB x 0 (n - 1)))) ∧ Drawn0 (W.drewN m) w') := by
    refine ⟨fun g W m hb hc => containsFunc_intQ _ _ _ A c s.f5 _ (Kd.C_drewN (Kd.C_below HR.out hb) m) HL.out fun k x _ => ⟨_, _, _, rfl, Try.func71, by kernel_rfl, rfl, ?_⟩⟩
    exact ok1_calls x n _ _ hc H1.out H2.out
   by_cases c3 : s.f5.any (fun x => !inB x 0 (n - 1)) = true
   ·have e : stepOkB n s = false := by unfold stepOkB; rw [c3]; simp
    rw [e]
    rw [c3] at Q3
    clear e c1 c2 c3
    go_enter Try.func56, Try.ntmps56
    go_wp2_with (first | ((with_reducible refine gate_dst (N := 2) rfl ?_); refine box_event ?hg (N := 2) ?hd (cs := #[.int .i64 s.f0, .int .i64 s.f1, .int .i64 s.f2, .int .i64 s.f3.f0, .int .i64 s.f3.f1, .int .i64 s.f4.f0, .int .i64 s.f4.f1, .slice A s.f5.length c]) (t := 69) ?hr ?_; (case hd => rfl); (case hg => rfl); (case hr => first | (go_simp; done) | (go_simp; rfl)); intro g hg w_ hbox hb; have n1_ := Aside0.mk (below_step HB.out hb); have GWg := Aside0.mk (by rw [hg]; exact below_size HB.out : w.heap.size ≤ g); clear HB; have HB := n1_; have BKg := Aside0.mk hbox; clear n1_ hb hbox hg; obtain ⟨zg_0, zg_1, zg_2, zg_3, zg_4, zg_5, zg_6, zg_7⟩ := blkC8 BKg.out) | ((with_reducible refine gate_dst (N := 3) rfl ?_); refine box_event ?hg (N := 3) ?hd (cs := #[.int .i64 n]) (t := 3) ?hr ?_; (case hd => rfl); (case hg => rfl); (case hr => first | (go_simp; done) | (go_simp; rfl)); intro h hg w_ hbox hb; have n1_ := Aside0.mk (below_step HB.out hb); have GWh := Aside0.mk (by rw [hg]; exact below_size HB.out : w.heap.size ≤ h); have n_ := Aside0.mk (blk_below BKg.out hb); clear BKg; have BKg := n_; clear n_; clear HB; have HB := n1_; have BKh := Aside0.mk hbox; clear n1_ hb hbox hg; obtain ⟨zg_0, zg_1, zg_2, zg_3, zg_4, zg_5, zg_6, zg_7⟩ := blkC8 BKg.out; have zh_0 := blkC1 BKh.out))
    go_quiet (first | (go_at_call 39; exact quiet_D (Q1 _).out) | (go_at_call 70; exact quiet_D (Q2 _).out) | (go_at_call 64; exact quiet_D (Q3.out _ _ _ HB.out zh_0)))
    go_wp2
    go_ret
    exact ⟨rfl, pw_below_drewN HB.out _⟩
   ·have c3' : s.f5.any (fun x => !inB x 0 (n - 1)) = false := by simpa using c3
    have e : stepOkB n s = ((if chB s.f0 = true then inB s.f1 0 11 else s.f1 == 0) && ((if useAB s.f0 = true then opOkB s.f3.f0 s.f3.f1 else s.f3.f0 == 0 && s.f3.f1 == 0) &&
      (if s.f0 = 1 then inB s.f2 1 4 && opOkB s.f4.f0 s.f4.f1 else s.f2 == 0 && (s.f4.f0 == 0 && s.f4.f1 == 0)))) := by unfold stepOkB; rw [c1, c2, c3']; simp
    have E := Aside0.mk e
    rw [c3'] at Q3
    clear e c1 c2 c3 c3'
    go_enter Try.func56, Try.ntmps56
    go_wp2_with (first | ((with_reducible refine gate_dst (N := 2) rfl ?_); refine box_event ?hg (N := 2) ?hd (cs := #[.int .i64 s.f0, .int .i64 s.f1, .int .i64 s.f2, .int .i64 s.f3.f0, .int .i64 s.f3.f1, .int .i64 s.f4.f0, .int .i64 s.f4.f1, .slice A s.f5.length c]) (t := 69) ?hr ?_; (case hd => rfl); (case hg => rfl); (case hr => first | (go_simp; done) | (go_simp; rfl)); intro g hg w_ hbox hb; have n1_ := Aside0.mk (below_step HB.out hb); have GWg := Aside0.mk (by rw [hg]; exact below_size HB.out : w.heap.size ≤ g); clear HB; have HB := n1_; have BKg := Aside0.mk hbox; clear n1_ hb hbox hg; obtain ⟨zg_0, zg_1, zg_2, zg_3, zg_4, zg_5, zg_6, zg_7⟩ := blkC8 BKg.out) | ((with_reducible refine gate_dst (N := 3) rfl ?_); refine box_event ?hg (N := 3) ?hd (cs := #[.int .i64 n]) (t := 3) ?hr ?_; (case hd => rfl); (case hg => rfl); (case hr => first | (go_simp; done) | (go_simp; rfl)); intro h hg w_ hbox hb; have n1_ := Aside0.mk (below_step HB.out hb); have GWh := Aside0.mk (by rw [hg]; exact below_size HB.out : w.heap.size ≤ h); have n_ := Aside0.mk (blk_below BKg.out hb); clear BKg; have BKg := n_; clear n_; clear HB; have HB := n1_; have BKh := Aside0.mk hbox; clear n1_ hb hbox hg; obtain ⟨zg_0, zg_1, zg_2, zg_3, zg_4, zg_5, zg_6, zg_7⟩ := blkC8 BKg.out; have zh_0 := blkC1 BKh.out))
    go_quiet (first | (go_at_call 39; exact quiet_D (Q1 _).out) | (go_at_call 70; exact quiet_D (Q2 _).out) | (go_at_call 64; exact quiet_D (Q3.out _ _ _ HB.out zh_0)))
    have m_ := nq
    have n_ := Aside0.mk (pw_below_drewN HB.out nq)
    clear HB
    have HB := n_
    have n_ := Aside0.mk (blk_drewN BKg.out nq)
    clear BKg
    have BKg := n_
    have n_ := Aside0.mk (blk_drewN BKh.out nq)
    clear BKh
    have BKh := n_
    clear n_ Q1 Q2 Q3 c2b m_
    go_wp2_with (first | ((with_reducible refine gate_callee (f := 72) rfl ?_); refine goesL_ (some 25) rfl rfl Try.func72 (by kernel_rfl) rfl #[.agg #[.int .i64 s.f0, .int .i64 s.f1, .int .i64 s.f2, .int .i64 s.f3.f0, .int .i64 s.f3.f1, .int .i64 s.f4.f0, .int .i64 s.f4.f1, .slice A s.f5.length c]] rfl (by (try simp only [List.map_toArray, List.map_cons, List.map_nil]); first | done | rfl) ?_; refine (Step_any_ch s A c _ (Kd.C_below HR.out HB.out) HC.out).mono ?_; rintro e w_ ⟨rfl, hb⟩; rcases hch : chB s.f0 with _ | _ <;> (refine ⟨_, rfl, ?_⟩; have n_ := Aside0.mk (blk_below BKg.out hb); clear BKg; have BKg := n_; clear n_; have n_ := Aside0.mk (blk_below BKh.out hb); clear BKh; have BKh := n_; clear n_; have n_ := Aside0.mk (below_step HB.out hb); clear HB; have HB := n_; clear n_ hb; obtain ⟨zg_0, zg_1, zg_2, zg_3, zg_4, zg_5, zg_6, zg_7⟩ := blkC8 BKg.out; have zh_0 := blkC1 BKh.out)) | ((with_reducible refine gate_callee (f := 72) rfl ?_); (try (refine gate_guard (by rfl) ?_; dsimp only)); refine goesL_ (some 34) rfl rfl Try.func72 (by kernel_rfl) rfl #[.agg #[.int .i64 s.f0, .int .i64 s.f1, .int .i64 s.f2, .int .i64 s.f3.f0, .int .i64 s.f3.f1, .int .i64 s.f4.f0, .int .i64 s.f4.f1, .slice A s.f5.length c]] rfl (by (try simp only [List.map_toArray, List.map_cons, List.map_nil]); first | done | rfl) ?_; refine (Step_any_ch s A c _ (Kd.C_below HR.out HB.out) HC.out).mono ?_; rintro e w_ ⟨rfl, hb⟩; rw [hch] <;> (refine ⟨_, rfl, ?_⟩; have n_ := Aside0.mk (blk_below BKg.out hb); clear BKg; have BKg := n_; clear n_; have n_ := Aside0.mk (blk_below BKh.out hb); clear BKh; have BKh := n_; clear n_; have n_ := Aside0.mk (below_step HB.out hb); clear HB; have HB := n_; clear n_ hb; obtain ⟨zg_0, zg_1, zg_2, zg_3, zg_4, zg_5, zg_6, zg_7⟩ := blkC8 BKg.out; have zh_0 := blkC1 BKh.out)) | ((with_reducible refine gate_callee (f := 73) rfl ?_); (try (refine gate_guard (by rfl) ?_; dsimp only)); refine goesL_ (some 29) rfl rfl Try.func73 (by kernel_rfl) rfl #[.int .i64 s.f1] rfl (by (try simp only [List.map_toArray, List.map_cons, List.map_nil]); first | done | rfl) ?_; refine (isVar_any s.f1 _).mono ?_; rintro e w_ ⟨rfl, ⟨m_, rfl⟩⟩; rcases hiv : inB s.f1 0 11 with _ | _ <;> (refine ⟨_, rfl, ?_⟩; have n_ := Aside0.mk (pw_below_drewN HB.out m_); clear HB; have HB := n_; clear n_; have n_ := Aside0.mk (blk_drewN BKg.out m_); clear BKg; have BKg := n_; clear n_; have n_ := Aside0.mk (blk_drewN BKh.out m_); clear BKh; have BKh := n_; clear n_; obtain ⟨zg_0, zg_1, zg_2, zg_3, zg_4, zg_5, zg_6, zg_7⟩ := blkC8 BKg.out; have zh_0 := blkC1 BKh.out)) | ((with_reducible refine gate_callee (f := 74) rfl ?_); refine goesL_ (some 43) rfl rfl Try.func74 (by kernel_rfl) rfl #[.agg #[.int .i64 s.f0, .int .i64 s.f1, .int .i64 s.f2, .int .i64 s.f3.f0, .int .i64 s.f3.f1, .int .i64 s.f4.f0, .int .i64 s.f4.f1, .slice A s.f5.length c]] rfl (by (try simp only [List.map_toArray, List.map_cons, List.map_nil]); first | done | rfl) ?_; refine (Step_any_us s A c _ (Kd.C_below HR.out HB.out) HC.out).mono ?_; rintro e w_ ⟨rfl, hb⟩; rcases hus : useAB s.f0 with _ | _ <;> (refine ⟨_, rfl, ?_⟩; have n_ := Aside0.mk (blk_below BKg.out hb); clear BKg; have BKg := n_; clear n_; have n_ := Aside0.mk (blk_below BKh.out hb); clear BKh; have BKh := n_; clear n_; have n_ := Aside0.mk (below_step HB.out hb); clear HB; have HB := n_; clear n_ hb; obtain ⟨zg_0, zg_1, zg_2, zg_3, zg_4, zg_5, zg_6, zg_7⟩ := blkC8 BKg.out; have zh_0 := blkC1 BKh.out)) | ((with_reducible refine gate_callee (f := 74) rfl ?_); (try (refine gate_guard (by rfl) ?_; dsimp only)); refine goesL_ (some 52) rfl rfl Try.func74 (by kernel_rfl) rfl #[.agg #[.int .i64 s.f0, .int .i64 s.f1, .int .i64 s.f2, .int .i64 s.f3.f0, .int .i64 s.f3.f1, .int .i64 s.f4.f0, .int .i64 s.f4.f1, .slice A s.f5.length c]] rfl (by (try simp only [List.map_toArray, List.map_cons, List.map_nil]); first | done | rfl) ?_; refine (Step_any_us s A c _ (Kd.C_below HR.out HB.out) HC.out).mono ?_; rintro e w_ ⟨rfl, hb⟩; rw [hus] <;> (refine ⟨_, rfl, ?_⟩; have n_ := Aside0.mk (blk_below BKg.out hb); clear BKg; have BKg := n_; clear n_; have n_ := Aside0.mk (blk_below BKh.out hb); clear BKh; have BKh := n_; clear n_; have n_ := Aside0.mk (below_step HB.out hb); clear HB; have HB := n_; clear n_ hb; obtain ⟨zg_0, zg_1, zg_2, zg_3, zg_4, zg_5, zg_6, zg_7⟩ := blkC8 BKg.out; have zh_0 := blkC1 BKh.out)) | ((with_reducible refine gate_callee (f := 61) rfl ?_); (try (refine gate_guard (by rfl) ?_; dsimp only)); refine goesL_ (some 47) rfl rfl Try.func61 (by kernel_rfl) rfl #[.agg #[.int .i64 s.f3.f0, .int .i64 s.f3.f1]] rfl (by (try simp only [List.map_toArray, List.map_cons, List.map_nil]); first | done | rfl) ?_; refine (Opnd_any s.f3.f0 s.f3.f1 _).mono ?_; rintro e w_ ⟨rfl, hb⟩; rcases hoa : opOkB s.f3.f0 s.f3.f1 with _ | _ <;> (refine ⟨_, rfl, ?_⟩; have n_ := Aside0.mk (blk_below BKg.out hb); clear BKg; have BKg := n_; clear n_; have n_ := Aside0.mk (blk_below BKh.out hb); clear BKh; have BKh := n_; clear n_; have n_ := Aside0.mk (below_step HB.out hb); clear HB; have HB := n_; clear n_ hb; obtain ⟨zg_0, zg_1, zg_2, zg_3, zg_4, zg_5, zg_6, zg_7⟩ := blkC8 BKg.out; have zh_0 := blkC1 BKh.out)) | ((with_reducible refine gate_callee (f := 60) rfl ?_); refine goesL_ (some 66) rfl rfl Try.func60 (by kernel_rfl) rfl #[.int .i64 s.f2] rfl (by (try simp only [List.map_toArray, List.map_cons, List.map_nil]); first | done | rfl) ?_; refine (isOp_any s.f2 _).mono ?_; rintro e w_ ⟨rfl, ⟨m_, rfl⟩⟩; rcases hio : inB s.f2 1 4 with _ | _ <;> (refine ⟨_, rfl, ?_⟩; have n_ := Aside0.mk (pw_below_drewN HB.out m_); clear HB; have HB := n_; clear n_; have n_ := Aside0.mk (blk_drewN BKg.out m_); clear BKg; have BKg := n_; clear n_; have n_ := Aside0.mk (blk_drewN BKh.out m_); clear BKh; have BKh := n_; clear n_; obtain ⟨zg_0, zg_1, zg_2, zg_3, zg_4, zg_5, zg_6, zg_7⟩ := blkC8 BKg.out; have zh_0 := blkC1 BKh.out)) | ((with_reducible refine gate_callee (f := 61) rfl ?_); (try (refine gate_guard (by rfl) ?_; dsimp only)); refine goesL_ (some 70) rfl rfl Try.func61 (by kernel_rfl) rfl #[.agg #[.int .i64 s.f4.f0, .int .i64 s.f4.f1]] rfl (by (try simp only [List.map_toArray, List.map_cons, List.map_nil]); first | done | rfl) ?_; refine (Opnd_any s.f4.f0 s.f4.f1 _).mono ?_; rintro e w_ ⟨rfl, hb⟩; refine ⟨_, rfl, ?_⟩; have n_ := Aside0.mk (blk_below BKg.out hb); clear BKg; have BKg := n_; clear n_; have n_ := Aside0.mk (blk_below BKh.out hb); clear BKh; have BKh := n_; clear n_; have n_ := Aside0.mk (below_step HB.out hb); clear HB; have HB := n_; clear n_ hb; obtain ⟨zg_0, zg_1, zg_2, zg_3, zg_4, zg_5, zg_6, zg_7⟩ := blkC8 BKg.out; have zh_0 := blkC1 BKh.out))
    all_goals go_ret
    all_goals (refine ⟨?_, HB.out⟩; rw [E.out]; clear E HB; refine ret_bool ?_; first | (simp [*]; done) | (simp_all; done))
  ·have e : stepOkB n s = false := by unfold stepOkB; rw [show ((s.f5.length : Int) == nextsZ s.f0) = false from beq_eq_false_iff_ne.mpr c2]; simp
   have c2b : ((s.f5.length : Int) != nextsZ s.f0) = true := bne_iff_ne.mpr c2
   rw [e]
   clear e c1 c2
   go_enter Try.func56, Try.ntmps56
   go_wp2_with (first | ((with_reducible refine gate_dst (N := 2) rfl ?_); refine box_event ?hg (N := 2) ?hd (cs := #[.int .i64 s.f0, .int .i64 s.f1, .int .i64 s.f2, .int .i64 s.f3.f0, .int .i64 s.f3.f1, .int .i64 s.f4.f0, .int .i64 s.f4.f1, .slice A s.f5.length c]) (t := 69) ?hr ?_; (case hd => rfl); (case hg => rfl); (case hr => first | (go_simp; done) | (go_simp; rfl)); intro g hg w_ hbox hb; have n1_ := Aside0.mk (below_step HB.out hb); have GWg := Aside0.mk (by rw [hg]; exact below_size HB.out : w.heap.size ≤ g); clear HB; have HB := n1_; have BKg := Aside0.mk hbox; clear n1_ hb hbox hg; obtain ⟨zg_0, zg_1, zg_2, zg_3, zg_4, zg_5, zg_6, zg_7⟩ := blkC8 BKg.out) | ((with_reducible refine gate_dst (N := 3) rfl ?_); refine box_event ?hg (N := 3) ?hd (cs := #[.int .i64 n]) (t := 3) ?hr ?_; (case hd => rfl); (case hg => rfl); (case hr => first | (go_simp; done) | (go_simp; rfl)); intro h hg w_ hbox hb; have n1_ := Aside0.mk (below_step HB.out hb); have GWh := Aside0.mk (by rw [hg]; exact below_size HB.out : w.heap.size ≤ h); have n_ := Aside0.mk (blk_below BKg.out hb); clear BKg; have BKg := n_; clear n_; clear HB; have HB := n1_; have BKh := Aside0.mk hbox; clear n1_ hb hbox hg; obtain ⟨zg_0, zg_1, zg_2, zg_3, zg_4, zg_5, zg_6, zg_7⟩ := blkC8 BKg.out; have zh_0 := blkC1 BKh.out))
   go_quiet (first | (go_at_call 39; exact quiet_D (Q1 _).out) | (go_at_call 70; exact quiet_D (Q2 _).out))
   go_wp2
   go_ret
   exact ⟨rfl, pw_below_drewN HB.out _⟩
 ·have e : stepOkB n s = false := by unfold stepOkB; simp [c1]
  rw [e]
  clear e
  have c1' : inB s.f0 1 7 = false := by simpa using c1
  clear c1
  have Q1 := fun w => Aside0.mk (impl_in.calls s.f0 1 7 false w (by rw [impl_in_eq, c1']))
  clear c1'
  go_enter Try.func56, Try.ntmps56
  go_wp2_with (first | ((with_reducible refine gate_dst (N := 2) rfl ?_); refine box_event ?hg (N := 2) ?hd (cs := #[.int .i64 s.f0, .int .i64 s.f1, .int .i64 s.f2, .int .i64 s.f3.f0, .int .i64 s.f3.f1, .int .i64 s.f4.f0, .int .i64 s.f4.f1, .slice A s.f5.length c]) (t := 69) ?hr ?_; (case hd => rfl); (case hg => rfl); (case hr => first | (go_simp; done) | (go_simp; rfl)); intro g hg w_ hbox hb; have n1_ := Aside0.mk (below_step HB.out hb); have GWg := Aside0.mk (by rw [hg]; exact below_size HB.out : w.heap.size ≤ g); clear HB; have HB := n1_; have BKg := Aside0.mk hbox; clear n1_ hb hbox hg; obtain ⟨zg_0, zg_1, zg_2, zg_3, zg_4, zg_5, zg_6, zg_7⟩ := blkC8 BKg.out) | ((with_reducible refine gate_dst (N := 3) rfl ?_); refine box_event ?hg (N := 3) ?hd (cs := #[.int .i64 n]) (t := 3) ?hr ?_; (case hd => rfl); (case hg => rfl); (case hr => first | (go_simp; done) | (go_simp; rfl)); intro h hg w_ hbox hb; have n1_ := Aside0.mk (below_step HB.out hb); have GWh := Aside0.mk (by rw [hg]; exact below_size HB.out : w.heap.size ≤ h); have n_ := Aside0.mk (blk_below BKg.out hb); clear BKg; have BKg := n_; clear n_; clear HB; have HB := n1_; have BKh := Aside0.mk hbox; clear n1_ hb hbox hg; obtain ⟨zg_0, zg_1, zg_2, zg_3, zg_4, zg_5, zg_6, zg_7⟩ := blkC8 BKg.out; have zh_0 := blkC1 BKh.out))
  go_quiet (first | (go_at_call 39; exact quiet_D (Q1 _).out))
  go_wp2
  go_ret
  exact ⟨rfl, pw_below_drewN HB.out _⟩
end Go.Proofs.Ytodgfmmoaabhhaa.P
namespace Go.Proofs.Ytodgfmmoaabhhaa.P
open Go.RowKit Go.Proofs.YtodgfmmoaabhhaaW.PrintWords Go.Proofs.YtodgfmmoaabhhaaW.PrintLast Go.Proofs.YtodgfmmoaabhhaaW.PrintMore
set_option linter.unusedVariables false
set_option linter.unusedSimpArgs false
def TestsS (q : S69 → Bool) (g : FuncId) (cap : Array Value) (l : List S69) (w0 : World) : Prop :=
 ∀ w1, Below w0.heap.size w0 w1 → ∀ x, x ∈ l → ∀ (A : Option Addr) (c : Nat), x.f5.length ≤ c → Kd.C (Kd.int .i64) w1 A x.f5.length x.f5 →
  CallsV Try.prog (.func (.func g) #[] cap) #[.agg #[.int .i64 x.f0, .int .i64 x.f1, .int .i64 x.f2, .int .i64 x.f3.f0, .int .i64 x.f3.f1, .int .i64 x.f4.f0, .int .i64 x.f4.f1, .slice A x.f5.length c]] w1 fun e w2 => e = .returned (.bool (q x)) ∧ Below w1.heap.size w1 w2
def idxStep (q : S69 → Bool) : Nat → List S69 → Int → Option Int
 | 0, _, _ => none
 | k + 1, l, i => if i < (l.length : Int) then (if 0 ≤ i then (if q (rd_T69 l i) = true then some i else idxStep q k l (wrap64 (i + 1))) else none) else some (-1)
set_option maxHeartbeats 8000000 in
set_option maxRecDepth 100000 in
theorem indexFunc_step (q : S69 → Bool) (g : FuncId) (cap : Array Value) (k : Nat) (A0 : Option Addr) (c0 : Nat) (l0 : List S69) (r : Int) (w : World) (hr0 : Kd.C k69 w A0 l0.length l0)
  (hf : TestsS q g cap l0 w) (h : idxStep q k l0 0 = some r) :
  Calls Try.prog 69 #[.slice A0 l0.length c0, .func (.func g) #[] cap] w fun e w' => e = .returned (.int .i64 r) ∧ Below w.heap.size w w' := by
 have HR0 := Aside0.mk hr0
 have HF := Aside0.mk hf
 clear hr0 hf
 have H' := Aside0.mk h
 clear h
 go_enter Try.func69, Try.ntmps69
 go_wp2
 go_loopg [8] k (fun kq v8 w' => ∃ (x8 : Int), v8 = .int .i64 x8 ∧ Aside0 (idxStep q kq l0 x8 = some r) ∧ Aside0 (Below w.heap.size w w'))
 case atStart => exact ⟨0, rfl, H', ⟨Below.refl _ _⟩⟩
 case round =>
  clear H'
  obtain ⟨x8, rfl, HA, HB⟩ := hrel
  cases gk with
  | zero => exact absurd HA.out (by simp [idxStep])
  | succ k1 =>
   have H := HA.out
   clear HA
   simp only [idxStep] at H
   by_cases c3 : x8 < (l0.length : Int)
   ·rw [if_pos c3] at H
    have c3b0 : decide (x8 < (l0.length : Int)) = true := decide_eq_true c3
    by_cases c4 : 0 ≤ x8
    ·rw [if_pos c4] at H
     have c4b0 : decide (0 ≤ x8) = true := decide_eq_true c4
     obtain ⟨ad, A, c, e0, h0, h1, h2, h3, h4, h5, h6, h7, hl, hi⟩ := at_T69 HR0.out x8 c4 c3
     cases e0
     replace h0 := (HB.out.cell (World.block_lt_of_cell? w _ h0)).trans h0
     replace h1 := (HB.out.cell (World.block_lt_of_cell? w _ h1)).trans h1
     replace h2 := (HB.out.cell (World.block_lt_of_cell? w _ h2)).trans h2
     replace h3 := (HB.out.cell (World.block_lt_of_cell? w _ h3)).trans h3
     replace h4 := (HB.out.cell (World.block_lt_of_cell? w _ h4)).trans h4
     replace h5 := (HB.out.cell (World.block_lt_of_cell? w _ h5)).trans h5
     replace h6 := (HB.out.cell (World.block_lt_of_cell? w _ h6)).trans h6
     replace h7 := (HB.out.cell (World.block_lt_of_cell? w _ h7)).trans h7
     have HM : Aside0 (rd_T69 l0 x8 ∈ l0) := ⟨by unfold rd_T69; rw [List.getD_eq_getElem?_getD, List.getElem?_eq_getElem (show x8.toNat < l0.length by omega)]; exact List.getElem_mem _⟩
     replace c3 := eq_true c3
     replace c4 := eq_true c4
     have HC := Aside0.mk (HF.out _ HB.out _ HM.out A c hl (Kd.C_below hi HB.out))
     clear hl hi
     by_cases c5 : q (rd_T69 l0 x8) = true
     ·rw [if_pos c5] at H
      rw [c5] at HC
      clear c5
      obtain rfl := Option.some.inj H
      go_wp2_with (first | ((with_reducible refine gate_value (x := 11) rfl ?_); refine goesV_ (some 16) rfl rfl (.func (.func g) #[] cap) #[.agg #[.int .i64 (rd_T69 l0 x8).f0, .int .i64 (rd_T69 l0 x8).f1, .int .i64 (rd_T69 l0 x8).f2, .int .i64 (rd_T69 l0 x8).f3.f0, .int .i64 (rd_T69 l0 x8).f3.f1, .int .i64 (rd_T69 l0 x8).f4.f0, .int .i64 (rd_T69 l0 x8).f4.f1, .slice A (rd_T69 l0 x8).f5.length c]] rfl rfl (by simp only [List.map_toArray, List.map_cons, List.map_nil]; rfl) ?_; refine HC.out.mono ?_; rintro e w1 ⟨rfl, hb⟩; refine ⟨_, rfl, ?_⟩; have HB1 := Aside0.mk (below_step HB.out hb); clear hb))
      go_ret
      exact ⟨rfl, HB1.out⟩
     ·rw [if_neg c5] at H
      rw [show q (rd_T69 l0 x8) = false by simpa using c5] at HC
      have H' := Aside0.mk H
      clear H c5
      go_wp2_with (first | ((with_reducible refine gate_value (x := 11) rfl ?_); refine goesV_ (some 16) rfl rfl (.func (.func g) #[] cap) #[.agg #[.int .i64 (rd_T69 l0 x8).f0, .int .i64 (rd_T69 l0 x8).f1, .int .i64 (rd_T69 l0 x8).f2, .int .i64 (rd_T69 l0 x8).f3.f0, .int .i64 (rd_T69 l0 x8).f3.f1, .int .i64 (rd_T69 l0 x8).f4.f0, .int .i64 (rd_T69 l0 x8).f4.f1, .slice A (rd_T69 l0 x8).f5.length c]] rfl rfl (by simp only [List.map_toArray, List.map_cons, List.map_nil]; rfl) ?_; refine HC.out.mono ?_; rintro e w1 ⟨rfl, hb⟩; refine ⟨_, rfl, ?_⟩; have HB1 := Aside0.mk (below_step HB.out hb); clear hb))
      go_roundg k1
      case measure => omega
      case rel => exact ⟨wrap64 (x8 + 1), (by first | rfl | (simp; done) | (simp [*]; done)), H', HB1⟩
    ·rw [if_neg c4] at H
     exact absurd H (by simp)
   ·rw [if_neg c3] at H
    have c3b0 : decide (x8 < (l0.length : Int)) = false := decide_eq_false c3
    clear c3
    obtain rfl := Option.some.inj H
    go_wp2
    go_ret
    exact ⟨rfl, HB.out⟩
def idxS (q : S69 → Bool) : List S69 → Int → Int
 | [], _ => -1
 | x :: l, i => if q x = true then i else idxS q l (i + 1)
theorem idxStep_eq (q : S69 → Bool) (l : List S69) (hl : l.length ≤ 140737488355328) : ∀ (s : List S69) (i : Nat), l.drop i = s → i ≤ l.length → idxStep q (s.length + 1) l (i : Int) = some (idxS q s (i : Int))
 | [], i, hs, hi => by
  have : l.length ≤ i := by simpa [List.drop_eq_nil_iff] using hs
  simp only [idxStep]
  rw [if_neg (by omega)]
  rfl
 | x :: s, i, hs, hi => by
  have hlt : i < l.length := Nat.lt_of_not_le fun c => by rw [List.drop_eq_nil_of_le c] at hs; cases hs
  have hx : l[i] = x := by
   have := List.drop_eq_getElem_cons hlt
   rw [hs] at this
   injection this with h1 _
   exact h1.symm
  have hr : rd_T69 l (i : Int) = x := by unfold rd_T69; rw [List.getD_eq_getElem?_getD, Int.toNat_natCast, List.getElem?_eq_getElem hlt, Option.getD_some, hx]
  have ht : l.drop (i + 1) = s := by rw [← List.drop_drop, hs]; rfl
  rw [show (x :: s).length + 1 = (s.length + 1) + 1 from rfl]
  simp only [idxStep, idxS]
  rw [if_pos (by omega), if_pos (by omega), hr]
  by_cases hq : q x = true
  ·rw [if_pos hq, if_pos hq]
  ·rw [if_neg hq, if_neg hq, wrap64_id (by omega) (by omega), show (i : Int) + 1 = ((i + 1 : Nat) : Int) by omega]
   exact idxStep_eq q l hl s (i + 1) ht (by omega)
theorem idxS_any (q : S69 → Bool) : ∀ (l : List S69) (i : Int), 0 ≤ i → decide (idxS q l i ≥ 0) = l.any q
 | [], i, _ => rfl
 | x :: l, i, h => by
  unfold idxS
  by_cases hq : q x = true
  ·simp [hq, h]
  ·rw [if_neg hq, idxS_any q l (i + 1) (by omega)]; simp [hq]
set_option maxHeartbeats 8000000 in
set_option maxRecDepth 100000 in
theorem containsFunc_step (q : S69 → Bool) (g : FuncId) (cap : Array Value) (A0 : Option Addr) (c0 : Nat) (l0 : List S69) (w : World) (hr0 : Kd.C k69 w A0 l0.length l0) (hl : l0.length ≤ 140737488355328)
  (hf : TestsS q g cap l0 w) :
  Calls Try.prog 54 #[.slice A0 l0.length c0, .func (.func g) #[] cap] w fun e w' => e = .returned (.bool (l0.any q)) ∧ Below w.heap.size w w' := by
 have HC := Aside0.mk (indexFunc_step q g cap _ A0 c0 l0 _ w hr0 hf (idxStep_eq q l0 hl l0 0 (List.drop_zero) (Nat.zero_le _)))
 have e1 := idxS_any q l0 0 (Int.le_refl 0)
 rw [← e1]
 clear e1 hf hr0 hl
 go_enter Try.func54, Try.ntmps54
 go_wp2_with (first | ((with_reducible refine gate_callee (f := 69) rfl ?_); refine goesL_ (some 7) rfl rfl Try.func69 (by kernel_rfl) rfl #[.slice A0 l0.length c0, .func (.func g) #[] cap] rfl (by simp only [List.map_toArray, List.map_cons, List.map_nil]; rfl) ?_; refine HC.out.mono ?_; rintro e w1 ⟨rfl, hb⟩; refine ⟨_, rfl, ?_⟩; have HB1 := Aside0.mk hb; clear hb))
 go_ret
 exact ⟨by simp, HB1.out⟩
end Go.Proofs.Ytodgfmmoaabhhaa.P
namespace Go.Proofs.Ytodgfmmoaabhhaa.P
open Go.RowKit Go.Proofs.YtodgfmmoaabhhaaW.PrintWords Go.Proofs.YtodgfmmoaabhhaaW.PrintLast Go.Proofs.YtodgfmmoaabhhaaW.PrintMore
set_option linter.unusedVariables false
set_option linter.unusedSimpArgs false
set_option maxHeartbeats 8000000 in
set_option maxRecDepth 100000 in
theorem progOk1_calls (s : S69) (A : Option Addr) (c : Nat) (gp : Nat) (A0 : Option Addr) (n c0 : Nat) (w : World) (hr : Kd.C (Kd.int .i64) w A s.f5.length s.f5) (hc : s.f5.length ≤ c)
  (hp : w.heap[gp]? = some (.cells #[.slice A0 n c0] 30 (0, 0))) (hn : n ≤ 140737488355328) :
  Calls Try.prog 55 #[.agg #[.int .i64 s.f0, .int .i64 s.f1, .int .i64 s.f2, .int .i64 s.f3.f0, .int .i64 s.f3.f1, .int .i64 s.f4.f0, .int .i64 s.f4.f1, .slice A s.f5.length c], .pointer (some ⟨gp, 0, none⟩)] w fun e w' => e = .returned (.bool (!stepOkB n s)) ∧ Below w.heap.size w w' := by
 have hu1 := Try.underlying69
 have hu2 := Try.underlying30
 have HR := Aside0.mk hr
 have HC := Aside0.mk hc
 have HN := Aside0.mk hn
 have BKp := Aside0.mk hp
 clear hr hc hp hn
 have HB := Aside0.mk (Below.refl w.heap.size w)
 go_enter Try.func55, Try.ntmps55
 have zp_0 := blkC1 BKp.out
 go_wp2_with (first | ((with_reducible refine gate_dst (N := 2) rfl ?_); refine box_event ?hg (N := 2) ?hd (cs := #[.int .i64 s.f0, .int .i64 s.f1, .int .i64 s.f2, .int .i64 s.f3.f0, .int .i64 s.f3.f1, .int .i64 s.f4.f0, .int .i64 s.f4.f1, .slice A s.f5.length c]) (t := 69) ?hr ?_; (case hd => rfl); (case hg => rfl); (case hr => first | (go_simp; done) | (go_simp; rfl)); intro g hg w_ hbox hb; have n1_ := Aside0.mk (below_step HB.out hb); have GWg := Aside0.mk (by rw [hg]; exact below_size HB.out : w.heap.size ≤ g); have n_ := Aside0.mk (blk_below BKp.out hb); clear BKp; have BKp := n_; clear n_; clear HB; have HB := n1_; have BKg := Aside0.mk hbox; clear n1_ hb hbox hg; have zp_0 := blkC1 BKp.out; obtain ⟨zg_0, zg_1, zg_2, zg_3, zg_4, zg_5, zg_6, zg_7⟩ := blkC8 BKg.out) | ((with_reducible refine gate_callee (f := 56) rfl ?_); refine goesL_ (some 8) rfl rfl Try.func56 (by kernel_rfl) rfl #[.agg #[.int .i64 s.f0, .int .i64 s.f1, .int .i64 s.f2, .int .i64 s.f3.f0, .int .i64 s.f3.f1, .int .i64 s.f4.f0, .int .i64 s.f4.f1, .slice A s.f5.length c], .int .i64 (n : Int)] rfl (by (try simp only [List.map_toArray, List.map_cons, List.map_nil]); first | done | rfl) ?_; refine (stepOk_calls s A c n _ (Kd.C_below HR.out HB.out) HC.out (by have := HN.out; omega) (by have := HN.out; omega)).mono ?_; rintro e w_ ⟨rfl, hb⟩; refine ⟨_, rfl, ?_⟩; have n_ := Aside0.mk (blk_below BKp.out hb); clear BKp; have BKp := n_; clear n_; have n_ := Aside0.mk (blk_below BKg.out hb); clear BKg; have BKg := n_; clear n_; have n_ := Aside0.mk (below_step HB.out hb); clear HB; have HB := n_; clear n_ hb; have zp_0 := blkC1 BKp.out; obtain ⟨zg_0, zg_1, zg_2, zg_3, zg_4, zg_5, zg_6, zg_7⟩ := blkC8 BKg.out))
 go_ret
 exact ⟨rfl, HB.out⟩
def impl_ProgOk.f (l0_0 : List (S69)) : Option (Bool) := some (progOkB l0_0)
theorem any_not (l : List S69) (n : Int) : l.any (fun s => !stepOkB n s) = !l.all (stepOkB n) := by
 induction l with
 | nil => rfl
 | cons x l ih => simp [ih]
set_option maxHeartbeats 8000000 in
set_option maxRecDepth 100000 in
theorem impl_ProgOk.calls (A0_0 : Option Addr) (c0_0 : Nat) (l0_0 : List (S69)) (r : Bool) (w : World) (hr0_0 : Kd.C k69 w A0_0 l0_0.length l0_0) (hc0_0 : l0_0.length ≤ c0_0) (h : impl_ProgOk.f l0_0 = some r) :
  Calls Try.prog 38 #[.agg #[.slice A0_0 l0_0.length c0_0]] w fun e w' => e = .returned (.bool r) ∧ Below w.heap.size w w' := by
 generalize l0_0 = l0 at *
 generalize A0_0 = A0 at *
 generalize c0_0 = c0 at *
 have hmf : ∀ (fn : Fn) (first cap : Array Value) (w : World), (Instr.makeFunc fn first cap).run Try.prog w = .ok (.func fn first cap) w := fun _ _ _ _ => rfl
 have hu2 := Try.underlying30
 unfold impl_ProgOk.f at h
 have HR := Aside0.mk hr0_0
 clear hr0_0 hc0_0
 have HB := Aside0.mk (Below.refl w.heap.size w)
 by_cases c1 : inB (l0.length : Int) 1 60 = true
 ·have HI := Aside0.mk (show impl_in.f (l0.length : Int) 1 60 = some true by rw [impl_in_eq, c1])
  have hlen : l0.length ≤ 60 := by unfold inB at c1; simp at c1; omega
  have hpos : 1 ≤ l0.length := by unfold inB at c1; simp at c1; omega
  ·obtain rfl := Option.some.inj h
   have HF : Aside0 (∀ g W, Below w.heap.size w W → W.heap[g]? = some (.cells #[.slice A0 l0.length c0] 30 (0, 0)) → Calls Try.prog 54 #[.slice A0 l0.length c0, .func (.func 55) #[] #[.pointer (some ⟨g, 0, none⟩)]] W fun e w' => e = .returned (.bool (l0.any fun s => !stepOkB (l0.length : Int) s)) ∧ Below W.heap.size W w') := by
    refine ⟨fun g W hb hp => containsFunc_step _ _ _ A0 c0 l0 _ (Kd.C_below HR.out hb) (by omega) fun w1 hb1 x hx A c hc hr => ⟨_, _, _, rfl, Try.func55, by kernel_rfl, rfl, ?_⟩⟩
    exact progOk1_calls x A c g A0 l0.length c0 w1 hr hc (blk_below hp hb1) (by omega)
   have E : Aside0 (progOkB l0 = !(l0.any fun s => !stepOkB (l0.length : Int) s)) := ⟨by rw [any_not]; unfold progOkB; simp [hlen, hpos]⟩
   clear c1 hlen hpos h
   go_enter Try.func38, Try.ntmps38
   go_wp2_with (first | ((with_reducible refine gate_dst (N := 1) rfl ?_); refine box_event ?hg (N := 1) ?hd (cs := #[.slice A0 l0.length c0]) (t := 30) ?hr ?_; (case hd => rfl); (case hg => rfl); (case hr => first | (go_simp; done) | (go_simp; rfl)); intro g hg w_ hbox hb; have n1_ := Aside0.mk (below_step HB.out hb); have GWg := Aside0.mk (by rw [hg]; exact below_size HB.out : w.heap.size ≤ g); clear HB; have HB := n1_; have BKg := Aside0.mk hbox; clear n1_ hb hbox hg; have zg_0 := blkC1 BKg.out) | ((with_reducible refine gate_callee (f := 39) rfl ?_); refine goesL_ (some 6) rfl rfl Try.func39 (by kernel_rfl) rfl #[.int .i64 (l0.length : Int), .int .i64 1, .int .i64 60] rfl (by (try simp only [List.map_toArray, List.map_cons, List.map_nil]); first | done | rfl) ?_; refine (impl_in.calls _ _ _ true _ HI.out).mono ?_; rintro e w_ ⟨rfl, ⟨m_, rfl⟩⟩; refine ⟨_, rfl, ?_⟩; have n_ := Aside0.mk (pw_below_drewN HB.out m_); clear HB; have HB := n_; clear n_; have n_ := Aside0.mk (blk_drewN BKg.out m_); clear BKg; have BKg := n_; clear n_; have zg_0 := blkC1 BKg.out) | ((with_reducible refine gate_callee (f := 54) rfl ?_); (try (refine gate_guard (by rfl) ?_; dsimp only)); refine goesL_ (some 11) rfl rfl Try.func54 (by kernel_rfl) rfl #[.slice A0 l0.length c0, .func (.func 55) #[] #[.pointer (some ⟨g, 0, none⟩)]] rfl (by (try simp only [List.map_toArray, List.map_cons, List.map_nil]); first | done | rfl) ?_; refine (HF.out g _ HB.out BKg.out).mono ?_; rintro e w_ ⟨rfl, hb⟩; refine ⟨_, rfl, ?_⟩; have n_ := Aside0.mk (blk_below BKg.out hb); clear BKg; have BKg := n_; clear n_; have n_ := Aside0.mk (below_step HB.out hb); clear HB; have HB := n_; clear n_ hb; have zg_0 := blkC1 BKg.out))
   go_ret
   exact ⟨ret_bool (by rw [E.out]), HB.out⟩
 ·have HI := Aside0.mk (show impl_in.f (l0.length : Int) 1 60 = some false by rw [impl_in_eq]; simpa using c1)
  have h2 : progOkB l0 = r := Option.some.inj h
  obtain rfl : false = r := by
   rw [← h2]; unfold progOkB; unfold inB at c1; simp at c1 ⊢
   intro a b; exact absurd (c1 (by omega)) (by omega)
  clear c1 h h2
  go_enter Try.func38, Try.ntmps38
  go_wp2_with (first | ((with_reducible refine gate_dst (N := 1) rfl ?_); refine box_event ?hg (N := 1) ?hd (cs := #[.slice A0 l0.length c0]) (t := 30) ?hr ?_; (case hd => rfl); (case hg => rfl); (case hr => first | (go_simp; done) | (go_simp; rfl)); intro g hg w_ hbox hb; have n1_ := Aside0.mk (below_step HB.out hb); have GWg := Aside0.mk (by rw [hg]; exact below_size HB.out : w.heap.size ≤ g); clear HB; have HB := n1_; have BKg := Aside0.mk hbox; clear n1_ hb hbox hg; have zg_0 := blkC1 BKg.out) | ((with_reducible refine gate_callee (f := 39) rfl ?_); refine goesL_ (some 6) rfl rfl Try.func39 (by kernel_rfl) rfl #[.int .i64 (l0.length : Int), .int .i64 1, .int .i64 60] rfl (by (try simp only [List.map_toArray, List.map_cons, List.map_nil]); first | done | rfl) ?_; refine (impl_in.calls _ _ _ false _ HI.out).mono ?_; rintro e w_ ⟨rfl, ⟨m_, rfl⟩⟩; refine ⟨_, rfl, ?_⟩; have n_ := Aside0.mk (pw_below_drewN HB.out m_); clear HB; have HB := n_; clear n_; have n_ := Aside0.mk (blk_drewN BKg.out m_); clear BKg; have BKg := n_; clear n_; have zg_0 := blkC1 BKg.out))
  go_ret
  exact ⟨rfl, HB.out⟩
end Go.Proofs.Ytodgfmmoaabhhaa.P
namespace Go.Proofs.Ytodgfmmoaabhhaa.P
open Go.RowKit Go.Proofs.YtodgfmmoaabhhaaW.PrintWords Go.Proofs.YtodgfmmoaabhhaaW.PrintLast Go.Proofs.YtodgfmmoaabhhaaW.PrintMore
attribute [local go_sem] max2_int min2_int max_two min_two max_three min_three max_four min_four
set_option linter.unusedVariables false
set_option linter.unusedSimpArgs false
mutual
def impl_PathOf.l0 : Nat → List Bool → List Int → Int → List (S69) → Option (List Int × Bool)
 | 0, _, _, _, _ => none
 | k + 1, x1, x6, x7, x396000 => if (x6.length : Int) < 200 then (if x6.length < 17592186044416 then ((some (x6 ++ [x7] : List Int)).bind fun y397 => (if 0 ≤ x7 then (if x7 < (x396000.length : Int) then (if ((rd_T69 x396000 x7).f0) = 7 then (some (y397, true)) else (if ((rd_T69 x396000 x7).f0) = 5 then (impl_PathOf.j1 k x1 y397 0 (decide ((x1.length : Int) > 0)) x396000 ((rd_T69 x396000 x7).f0) ((rd_T69 x396000 x7).f1) ((rd_T69 x396000 x7).f2) ((rd_T69 x396000 x7).f3.f0) ((rd_T69 x396000 x7).f3.f1) ((rd_T69 x396000 x7).f4.f0) ((rd_T69 x396000 x7).f4.f1) ((rd_T69 x396000 x7).f5)) else (impl_PathOf.j1 k x1 y397 0 false x396000 ((rd_T69 x396000 x7).f0) ((rd_T69 x396000 x7).f1) ((rd_T69 x396000 x7).f2) ((rd_T69 x396000 x7).f3.f0) ((rd_T69 x396000 x7).f3.f1) ((rd_T69 x396000 x7).f4.f0) ((rd_T69 x396000 x7).f4.f1) ((rd_T69 x396000 x7).f5)))) else (none)) else (none))) else (none)) else (some (([] : List Int), false))
def impl_PathOf.j1 : Nat → List Bool → List Int → Int → Bool → List (S69) → Int → Int → Int → Int → Int → Int → Int → List Int → Option (List Int × Bool)
 | 0, _, _, _, _, _, _, _, _, _, _, _, _, _ => none
 | k + 1, x1, x6, x9, x36, x396000, x402000, x402001, x402002, x402003, x402004, x402005, x402006, x402007 => if x36 = true then (if 0 < (x1.length : Int) then (if rdOf false x1 0 = true then (if 1 ≤ (x1.length : Int) then (if 1 < (x402007.length : Int) then (impl_PathOf.l0 k (x1.drop 1) x6 (rd x402007 1) x396000) else (none)) else (none)) else (if 1 ≤ (x1.length : Int) then (if 0 ≤ x9 then (if x9 < (x402007.length : Int) then (impl_PathOf.l0 k (x1.drop 1) x6 (rd x402007 x9) x396000) else (none)) else (none)) else (none))) else (none)) else (if 0 ≤ x9 then (if x9 < (x402007.length : Int) then (impl_PathOf.l0 k x1 x6 (rd x402007 x9) x396000) else (none)) else (none))
end
def impl_PathOf.f (k : Nat) (l0_0 : List (S69)) (l1 : List Bool) : Option (List Int × Bool) := (impl_ProgOk.f l0_0).bind fun t396 => (if t396 = true then (impl_PathOf.l0 k l1 ([] : List Int) 0 l0_0) else (some (([] : List Int), false)))
set_option maxHeartbeats 8000000 in
set_option maxRecDepth 100000 in
theorem impl_PathOf.calls (k : Nat) (A0_0 : Option Addr) (c0_0 : Nat) (l0_0 : List (S69)) (P1_ : Nat → Prop) (A1 : Option Addr) (c1 : Nat) (l1 : List Bool) (r1 : List Int) (r2 : Bool) (w : World) (hr0_0 : Kd.C k69 w A0_0 l0_0.length l0_0) (hc0_0 : l0_0.length ≤ c0_0) (hs1 : Kd.V Kd.bool 4 w w.heap.size (fun k_ => P1_ k_) (.slice A1 l1.length c1) l1) (h : impl_PathOf.f k l0_0 l1 = some (r1, r2)) :
  Calls Try.prog 23 #[.agg #[.slice A0_0 l0_0.length c0_0], .slice A1 l1.length c1] w fun e w' => ∃ v0_ : Value, e = .returned (.tuple #[v0_, .bool r2]) ∧ Kd.R (Kd.int .i64) 3 w' w.heap.size (fun k_ => (w.heap.size ≤ k_)) v0_ r1 ∧ Below w.heap.size w w' := by
 have hu30 := Try.underlying30
 have hu69 := Try.underlying69
 have HR0_0 := Aside0.mk hr0_0
 have HC0_0 := Aside0.mk hc0_0
 clear hr0_0 hc0_0
 have HO1 := Aside0.mk (show Kd.V Kd.bool 4 w w.heap.size (fun k_ => (P1_ k_ ∨ w.heap.size ≤ k_)) (.slice A1 l1.length c1) l1 from Kd.V_mono hs1 (fun k_ hk => .inl hk))
 have HB := Aside0.mk (Below.refl w.heap.size w)
 have H : ((impl_ProgOk.f l0_0).bind fun t396 => (if t396 = true then (impl_PathOf.l0 k l1 ([] : List Int) 0 l0_0) else (some (([] : List Int), false)))) = some (r1, r2) := h
 clear h
 replace H := Option.bind_eq_some_iff.mp H
 obtain ⟨t396, A30, H⟩ := H
 replace H : (if t396 = true then (impl_PathOf.l0 k l1 ([] : List Int) 0 l0_0) else (some (([] : List Int), false))) = some (r1, r2) := H
 have A3 := Aside0.mk A30
 clear A30
 by_cases c4 : t396 = true
 ·subst c4
  have H1 : (impl_PathOf.l0 k l1 ([] : List Int) 0 l0_0) = some (r1, r2) := by rw [if_pos rfl] at H; exact H
  clear H
  have H := H1
  clear H1
  have H' := Aside0.mk H
  clear H
  go_enter Try.func23, Try.ntmps23
  go_wp2_with (first | ((with_reducible refine gate_dst (N := 2) rfl ?_); (try (refine gate_guard (by rfl) ?_; dsimp only)); refine box_event ?hg (N := 2) ?hd (cs := #[.slice A0_0 l0_0.length c0_0]) (t := 30) ?hr ?_; (case hd => rfl); (case hg => rfl); (case hr => first | (go_simp; done) | (go_simp; rfl) | (go_simp; rfl)); intro gb395 hg w5 hbox hb; have n0_ := Aside0.mk (Kd.V_below (Kd.V_elderB (by (with_reducible repeat (first | apply Kd.V_alloc | apply Kd.V_drewN | apply Kd.V_drew)); exact HO1.out) gb395 (Nat.le_of_eq hg.symm)) hb); have n1_ := Aside0.mk (below_step (by repeat (first | (with_reducible first | exact HB.out | apply below_alloc | apply pw_below_drewN | apply below_drew1) | exact HB.out)) hb); have n2_ := Aside0.mk (hbox); have n3_ := Aside0.mk ((by rw [hg]; exact (below_size (by repeat (first | (with_reducible first | exact HB.out | apply below_alloc | apply pw_below_drewN | apply below_drew1) | exact HB.out))) : w.heap.size ≤ gb395)); have n4_ := Aside0.mk ((by rw [hg]; exact (below_size (by repeat (first | (with_reducible first | exact HB.out | apply below_alloc | apply pw_below_drewN | apply below_drew1) | exact HB.out))) : w.heap.size ≤ gb395)); clear HO1; clear HB; have HO1 := n0_; have HB := n1_; have BK395 := n2_; have GW395 := n3_; have GE395 := n4_; clear n0_ n1_ n2_ n3_ n4_; clear hb hbox hg; have hcz6_0 : w5.cell? ⟨gb395, 0, none⟩ = some (.slice A0_0 l0_0.length c0_0) := (blk_cell BK395.out 0).trans rfl; have hfz6_0 := blk_frozen BK395.out 0) | ((with_reducible refine gate_callee (f := 38) rfl ?_); refine goesL_ (some 11) rfl rfl Try.func38 (by kernel_rfl) rfl #[.agg #[.slice A0_0 l0_0.length c0_0]] rfl (by (try simp only [List.map_toArray, List.map_cons, List.map_nil]); first | done | rfl | (simp only [List.length_drop, List.length_take]; rfl)) ?_; (with_reducible refine (impl_ProgOk.calls _ _ l0_0 true _ ?side1 ?side2 A3.out).mono ?_); (case side1 => repeat (first | exact (Kd.C_below HR0_0.out HB.out) | (with_reducible refine Kd.C_alloc ?_ _) | (with_reducible refine Kd.C_drewN ?_ _) | (with_reducible refine Kd.C_drew ?_))); (case side2 => exact HC0_0.out); rintro e w7 ⟨rfl, hb⟩; refine ⟨_, rfl, ?_⟩; have n0_ := Aside0.mk (Kd.V_below (by (with_reducible repeat (first | apply Kd.V_alloc | apply Kd.V_drewN | apply Kd.V_drew)); exact HO1.out) hb); have n1_ := Aside0.mk (blk_below (g := gb395) (o := .cells #[.slice A0_0 l0_0.length c0_0] 30 (0, 0)) (by (with_reducible repeat (first | refine blk_drewN ?_ _ | refine blk_drew ?_ | refine blk_alloc ?_ _)); exact BK395.out) hb); have n2_ := Aside0.mk (below_step (by repeat (first | (with_reducible first | exact HB.out | apply below_alloc | apply pw_below_drewN | apply below_drew1 | refine below_set ?_ GE395.out) | exact HB.out)) hb); clear HO1; clear BK395; clear HB; have HO1 := n0_; have BK395 := n1_; have HB := n2_; clear n0_ n1_ n2_; (try clear hb); (try clear hb2); (try clear hk); (try clear hi)))
  go_loopg [1, 6, 7] k (fun kq v1 v6 v7 w' => ∃ (x1_1 : List Bool) (x6_1 : List Int) (x7_1 : Int), v7 = .int .i64 x7_1 ∧ Aside0 (impl_PathOf.l0 kq x1_1 x6_1 x7_1 l0_0 = some (r1, r2)) ∧ Aside0 (kq ≤ k) ∧ Aside0 (Kd.V Kd.bool 4 w' w.heap.size (fun k_ => (P1_ k_ ∨ w.heap.size ≤ k_) ∧ some k_ ≠ (v6 : Value).ownBlock ∧ k_ ≠ gb395) v1 x1_1) ∧ Aside0 (Kd.R (Kd.int .i64) 3 w' w.heap.size (fun k_ => (w.heap.size ≤ k_)) v6 x6_1) ∧ Aside0 (w'.heap[gb395]? = some (.cells #[(.slice A0_0 l0_0.length c0_0)] 30 (0, 0))) ∧ Aside0 (Below w.heap.size w w'))
  case atStart => exact ⟨(l1), (([] : List Int)), (0), (by first | rfl | (simp; done) | (simp [*]; done)), H', ⟨Nat.le_refl _⟩, ⟨by (with_reducible repeat (first | apply Kd.V_alloc | apply Kd.V_drewN | apply Kd.V_drew)); exact Kd.V_mono HO1.out (fun _ hk => ⟨hk.1, ⟨(by simp [Value.ownBlock]), hk.2⟩⟩)⟩, ⟨by first | exact Kd.R_nil _ _ _ _ _ | exact Kd.N_nil _ _ _ _ _ | exact Kd.V_nil _ _ _ _ _ | exact Kd.Q_nil _ _ _ _ _ | exact Kd.S_nil _ _ _ _ _⟩, ⟨by (with_reducible repeat (first | refine blk_drewN ?_ _ | refine blk_drew ?_ | refine blk_alloc ?_ _)); exact BK395.out⟩, ⟨by repeat (first | (with_reducible first | exact HB.out | apply below_alloc | apply pw_below_drewN | apply below_drew1 | refine below_set ?_ GE395.out) | exact HB.out)⟩⟩
  case round =>
   clear H'
   try clear c1
   try clear c2
   try clear p2
   try clear c3
   try clear c4
   try clear hcz6_0
   try clear hfz6_0
   obtain ⟨x1_1, x6_1, x7_1, rfl, HA, HK1, HO_1, HO_6, BK395, HB⟩ := hrel
   cases gk with
   | zero => exact absurd HA.out (by intro h_; first | (cases h_; done) | (simp [impl_PathOf.l0] at h_))
   | succ k1 =>
    have H := HA.out
    clear HA
    unfold impl_PathOf.l0 at H
    by_cases c8 : (x6_1.length : Int) < 200
    ·rw [if_pos c8] at H
     have c8b0 : decide ((x6_1.length : Int) < 200) = true := decide_eq_true c8
     have c8b1 : decide (x6_1.length < 200) = true := decide_eq_true (by omega)
     clear c8
     by_cases c9 : x6_1.length < 17592186044416
     ·rw [if_pos c9] at H
      have LMc9 := Aside0.mk c9
      clear c9
      obtain ⟨y397, hy397⟩ : ∃ y_ : List Int, y_ = (x6_1 ++ [x7_1]) := ⟨_, rfl⟩
      replace H : (if 0 ≤ x7_1 then (if x7_1 < (l0_0.length : Int) then (if ((rd_T69 l0_0 x7_1).f0) = 7 then (some (y397, true)) else (if ((rd_T69 l0_0 x7_1).f0) = 5 then (impl_PathOf.j1 k1 x1_1 y397 0 (decide ((x1_1.length : Int) > 0)) l0_0 ((rd_T69 l0_0 x7_1).f0) ((rd_T69 l0_0 x7_1).f1) ((rd_T69 l0_0 x7_1).f2) ((rd_T69 l0_0 x7_1).f3.f0) ((rd_T69 l0_0 x7_1).f3.f1) ((rd_T69 l0_0 x7_1).f4.f0) ((rd_T69 l0_0 x7_1).f4.f1) ((rd_T69 l0_0 x7_1).f5)) else (impl_PathOf.j1 k1 x1_1 y397 0 false l0_0 ((rd_T69 l0_0 x7_1).f0) ((rd_T69 l0_0 x7_1).f1) ((rd_T69 l0_0 x7_1).f2) ((rd_T69 l0_0 x7_1).f3.f0) ((rd_T69 l0_0 x7_1).f3.f1) ((rd_T69 l0_0 x7_1).f4.f0) ((rd_T69 l0_0 x7_1).f4.f1) ((rd_T69 l0_0 x7_1).f5)))) else (none)) else (none)) = some (r1, r2) := by first | (rw [hy397]; with_reducible exact H) | (have H2_ := (Option.bind_some _ _).symm.trans H; rw [hy397]; with_reducible exact H2_) | (have H2_ := (Option.bind_some _ _).symm.trans H; with_reducible exact H2_) | with_reducible exact H | (rw [hy397]; exact H) | exact H
      have Ny397 := Aside0.mk hy397
      clear hy397
      by_cases c10 : 0 ≤ x7_1
      ·rw [if_pos c10] at H
       have c10b0 : decide (0 ≤ x7_1) = true := decide_eq_true c10
       clear c10
       by_cases c11 : x7_1 < (l0_0.length : Int)
       ·rw [if_pos c11] at H
        have c11b0 : decide (x7_1 < (l0_0.length : Int)) = true := decide_eq_true c11
        clear c11
        by_cases c12 : ((rd_T69 l0_0 x7_1).f0) = 7
        ·rw [if_pos c12] at H
         have c12b0 : (((rd_T69 l0_0 x7_1).f0) == 7) = true := beq_iff_eq.mpr c12
         have c12b1 : (((rd_T69 l0_0 x7_1).f0) != 7) = false := bne_eq_false_iff_eq.mpr c12
         clear c12
         simp only [Option.some.injEq, Prod.mk.injEq] at H
         obtain ⟨rfl, rfl⟩ := H
         obtain ⟨Ao13, co13, eo13⟩ := Kd.R_slice HO_6.out
         subst eo13
         go_wp2_with (first | ((with_reducible refine gate_builtin (b := .append) (xs := #[.tmp 16, .tmp 18]) rfl ?_); (try (refine gate_guard (by rfl) ?_; dsimp only)); at_builtin; refine Kd.R_append (Kd.int .i64) (w0 := w) w.heap.size rfl (.tmp 16) (.tmp 18) 25 3 (.int .i64 0) 8 rfl Try.underlying25 info3 rfl (by decide) (by omega) (.slice Ao13 x6_1.length co13) x6_1 x7_1 [.int .i64 x7_1] (fun k_ => (w.heap.size ≤ k_)) (fun _ => False) rfl rfl ?aP (fun _ hk => hk.elim) ?aF ?aO ?aB ?aS ?aL ?_; (case aP => exact rfl); (case aB => exact (by repeat (first | (with_reducible first | exact HB.out | apply below_alloc | apply pw_below_drewN | apply below_drew1 | refine below_set ?_ GE395.out) | exact HB.out))); (case aF => exact (fun k_ hk => (Nat.le_trans (below_size (by repeat (first | (with_reducible first | exact HB.out | apply below_alloc | apply pw_below_drewN | apply below_drew1 | refine below_set ?_ GE395.out) | exact HB.out))) hk))); (case aO => exact (by (with_reducible repeat (first | apply Kd.R_alloc | apply Kd.R_drewN | apply Kd.R_drew)); exact HO_6.out)); (case aS => exact (below_size (by repeat (first | (with_reducible first | exact HB.out | apply below_alloc | apply pw_below_drewN | apply below_drew1 | refine below_set ?_ GE395.out) | exact HB.out)))); (case aL => have := LMc9.out; omega); intro v398 w14 ho hb hg hat; rw [← Ny397.out] at ho; have n0_ := Aside0.mk (Kd.V_afterv (ok := (fun k_ => (P1_ k_ ∨ w.heap.size ≤ k_) ∧ k_ ≠ gb395)) (by (with_reducible repeat (first | apply Kd.V_alloc | apply Kd.V_drewN | apply Kd.V_drew)); exact Kd.V_mono HO_1.out (fun _ hk => ⟨⟨hk.1, hk.2.2⟩, hk.2.1⟩)) hg hat); have n1_ := Aside0.mk (blk_grown (g := gb395) (o := .cells #[.slice A0_0 l0_0.length c0_0] 30 (0, 0)) (by (with_reducible repeat (first | refine blk_drewN ?_ _ | refine blk_drew ?_ | refine blk_alloc ?_ _)); exact BK395.out) hg (Kd.R_ne HO_6.out BK395.out (by decide))); have n2_ := Aside0.mk (hb); have n3_ := Aside0.mk (ho); clear HO_1; clear BK395; clear HB; clear HO_6; have HO_1 := n0_; have BK395 := n1_; have HB := n2_; have HO399 := n3_; clear n0_ n1_ n2_ n3_; clear ho hb hg hat; have hcz15_0 : w14.cell? ⟨gb395, 0, none⟩ = some (.slice A0_0 l0_0.length c0_0) := (blk_cell BK395.out 0).trans rfl; have hfz15_0 := blk_frozen BK395.out 0; have p400 : 0 ≤ (x7_1 : Int) := of_decide_eq_true (by first | (with_reducible assumption) | assumption); have q400 : x7_1 < (l0_0.length : Int) := of_decide_eq_true (by first | (with_reducible assumption) | assumption); obtain ⟨ad400, A400_7, c400_7, e400, hx400_0, hx400_1, hx400_2, hx400_3, hx400_4, hx400_5, hx400_6, hx400_7, hl400_7, hi400_7⟩ := at_T69 HR0_0.out x7_1 p400 q400; cases e400; replace hx400_0 := (HB.out.cell (World.block_lt_of_cell? w _ hx400_0)).trans hx400_0; replace hx400_1 := (HB.out.cell (World.block_lt_of_cell? w _ hx400_1)).trans hx400_1; replace hx400_2 := (HB.out.cell (World.block_lt_of_cell? w _ hx400_2)).trans hx400_2; replace hx400_3 := (HB.out.cell (World.block_lt_of_cell? w _ hx400_3)).trans hx400_3; replace hx400_4 := (HB.out.cell (World.block_lt_of_cell? w _ hx400_4)).trans hx400_4; replace hx400_5 := (HB.out.cell (World.block_lt_of_cell? w _ hx400_5)).trans hx400_5; replace hx400_6 := (HB.out.cell (World.block_lt_of_cell? w _ hx400_6)).trans hx400_6; replace hx400_7 := (HB.out.cell (World.block_lt_of_cell? w _ hx400_7)).trans hx400_7; have HR400_7 := Aside0.mk hi400_7; have HC400_7 := Aside0.mk hl400_7; clear hi400_7 hl400_7; replace p400 := eq_true p400; replace q400 := eq_true q400) | ((with_reducible refine gate_dst (N := 8) rfl ?_); (try (refine gate_guard (by rfl) ?_; dsimp only)); refine box_event ?hg (N := 8) ?hd (cs := #[.int .i64 0, .int .i64 0, .int .i64 0, .int .i64 0, .int .i64 0, .int .i64 0, .int .i64 0, .slice none 0 0]) (t := 69) ?hr ?_; (case hd => rfl); (case hg => rfl); (case hr => first | (go_simp; done) | (go_simp; rfl) | (go_simp; rfl)); intro gb401 hg w16 hbox hb; have n0_ := Aside0.mk (Kd.V_below (Kd.V_elderB (by (with_reducible repeat (first | apply Kd.V_alloc | apply Kd.V_drewN | apply Kd.V_drew)); exact HO_1.out) gb401 (Nat.le_of_eq hg.symm)) hb); have n1_ := Aside0.mk (Kd.R_below (by (with_reducible repeat (first | apply Kd.R_alloc | apply Kd.R_drewN | apply Kd.R_drew)); exact HO399.out) hb); have n2_ := Aside0.mk (blk_below (g := gb395) (o := .cells #[.slice (some ad400) l0_0.length c0_0] 30 (0, 0)) (by (with_reducible repeat (first | refine blk_drewN ?_ _ | refine blk_drew ?_ | refine blk_alloc ?_ _)); exact BK395.out) hb); have n3_ := Aside0.mk (below_step (by repeat (first | (with_reducible first | exact HB.out | apply below_alloc | apply pw_below_drewN | apply below_drew1 | refine below_set ?_ GE395.out) | exact HB.out)) hb); have n4_ := Aside0.mk (hbox); have n5_ := Aside0.mk ((by rw [hg]; exact (below_size (by repeat (first | (with_reducible first | exact HB.out | apply below_alloc | apply pw_below_drewN | apply below_drew1 | refine below_set ?_ GE395.out) | exact HB.out))) : w.heap.size ≤ gb401)); have n6_ := Aside0.mk ((by rw [hg]; exact (below_size (by repeat (first | (with_reducible first | exact HB.out | apply below_alloc | apply pw_below_drewN | apply below_drew1 | refine below_set ?_ GE395.out) | exact HB.out))) : w.heap.size ≤ gb401)); have n7_ := Aside0.mk ((by rw [hg]; exact Nat.ne_of_lt (blk_lt (g := gb395) (o := .cells #[.slice (some ad400) l0_0.length c0_0] 30 (0, 0)) (by (with_reducible repeat (first | refine blk_drewN ?_ _ | refine blk_drew ?_ | refine blk_alloc ?_ _)); exact BK395.out)) : gb395 ≠ gb401)); have n8_ := Aside0.mk ((by rw [hg]; exact Nat.ne_of_gt (blk_lt (g := gb395) (o := .cells #[.slice (some ad400) l0_0.length c0_0] 30 (0, 0)) (by (with_reducible repeat (first | refine blk_drewN ?_ _ | refine blk_drew ?_ | refine blk_alloc ?_ _)); exact BK395.out)) : gb401 ≠ gb395)); clear HO_1; clear HO399; clear BK395; clear HB; have HO_1 := n0_; have HO399 := n1_; have BK395 := n2_; have HB := n3_; have BK401 := n4_; have GW401 := n5_; have GE401 := n6_; have NB395_401 := n7_; have NB401_395 := n8_; clear n0_ n1_ n2_ n3_ n4_ n5_ n6_ n7_ n8_; clear hb hbox hg; have hnb17 := NB401_395.out; have hnc17 := NB395_401.out; have hcz18_0 : w16.cell? ⟨gb401, 0, none⟩ = some (.int .i64 0) := (blk_cell BK401.out 0).trans rfl; have hcz18_1 : w16.cell? ⟨gb401, 1, none⟩ = some (.int .i64 0) := (blk_cell BK401.out 1).trans rfl; have hcz18_2 : w16.cell? ⟨gb401, 2, none⟩ = some (.int .i64 0) := (blk_cell BK401.out 2).trans rfl; have hcz18_3 : w16.cell? ⟨gb401, 3, none⟩ = some (.int .i64 0) := (blk_cell BK401.out 3).trans rfl; have hcz18_4 : w16.cell? ⟨gb401, 4, none⟩ = some (.int .i64 0) := (blk_cell BK401.out 4).trans rfl; have hcz18_5 : w16.cell? ⟨gb401, 5, none⟩ = some (.int .i64 0) := (blk_cell BK401.out 5).trans rfl; have hcz18_6 : w16.cell? ⟨gb401, 6, none⟩ = some (.int .i64 0) := (blk_cell BK401.out 6).trans rfl; have hcz18_7 : w16.cell? ⟨gb401, 7, none⟩ = some (.slice none 0 0) := (blk_cell BK401.out 7).trans rfl; have hfz18_0 := blk_frozen BK401.out 0; have hfz18_1 := blk_frozen BK401.out 1; have hfz18_2 := blk_frozen BK401.out 2; have hfz18_3 := blk_frozen BK401.out 3; have hfz18_4 := blk_frozen BK401.out 4; have hfz18_5 := blk_frozen BK401.out 5; have hfz18_6 := blk_frozen BK401.out 6; have hfz18_7 := blk_frozen BK401.out 7))
         go_ret2
         exact ⟨_, by first | rfl | (simp [errW_none, errW_some] <;> rfl) | (simp [*, errW_none, errW_some] <;> rfl), by (with_reducible repeat (first | apply Kd.R_alloc | apply Kd.R_drewN | apply Kd.R_drew)); exact Kd.R_mono (Kd.R_far (p := ⟨gb401, 7, none⟩) (Kd.R_far (p := ⟨gb401, 6, none⟩) (Kd.R_far (p := ⟨gb401, 5, none⟩) (Kd.R_far (p := ⟨gb401, 4, none⟩) (Kd.R_far (p := ⟨gb401, 3, none⟩) (Kd.R_far (p := ⟨gb401, 2, none⟩) (Kd.R_far (p := ⟨gb401, 1, none⟩) (Kd.R_far (p := ⟨gb401, 0, none⟩) (Kd.R_types HO399.out BK401.out (by decide)) (fun _ hk => hk.2) (.int .i64 ((rd_T69 l0_0 x7_1).f0))) (fun _ hk => hk.2) (.int .i64 ((rd_T69 l0_0 x7_1).f1))) (fun _ hk => hk.2) (.int .i64 ((rd_T69 l0_0 x7_1).f2))) (fun _ hk => hk.2) (.int .i64 ((rd_T69 l0_0 x7_1).f3.f0))) (fun _ hk => hk.2) (.int .i64 ((rd_T69 l0_0 x7_1).f3.f1))) (fun _ hk => hk.2) (.int .i64 ((rd_T69 l0_0 x7_1).f4.f0))) (fun _ hk => hk.2) (.int .i64 ((rd_T69 l0_0 x7_1).f4.f1))) (fun _ hk => hk.2) (.slice A400_7 ((rd_T69 l0_0 x7_1).f5).length c400_7)) (fun _ hk => hk.1), by repeat (first | (with_reducible first | exact HB.out | apply below_alloc | apply pw_below_drewN | apply below_drew1 | refine below_set ?_ GE395.out | refine below_set ?_ GE401.out) | exact HB.out)⟩
        ·rw [if_neg c12] at H
         have c12b0 : (((rd_T69 l0_0 x7_1).f0) == 7) = false := beq_eq_false_iff_ne.mpr c12
         have c12b1 : (((rd_T69 l0_0 x7_1).f0) != 7) = true := bne_iff_ne.mpr c12
         have HC19 := Aside0.mk H
         clear H
         obtain ⟨Ao20, co20, eo20⟩ := Kd.R_slice HO_6.out
         subst eo20
         go_upto_region 11 with (first | ((with_reducible refine gate_builtin (b := .append) (xs := #[.tmp 16, .tmp 18]) rfl ?_); (try (refine gate_guard (by rfl) ?_; dsimp only)); at_builtin; refine Kd.R_append (Kd.int .i64) (w0 := w) w.heap.size rfl (.tmp 16) (.tmp 18) 25 3 (.int .i64 0) 8 rfl Try.underlying25 info3 rfl (by decide) (by omega) (.slice Ao20 x6_1.length co20) x6_1 x7_1 [.int .i64 x7_1] (fun k_ => (w.heap.size ≤ k_)) (fun _ => False) rfl rfl ?aP (fun _ hk => hk.elim) ?aF ?aO ?aB ?aS ?aL ?_; (case aP => exact rfl); (case aB => exact (by repeat (first | (with_reducible first | exact HB.out | apply below_alloc | apply pw_below_drewN | apply below_drew1 | refine below_set ?_ GE395.out) | exact HB.out))); (case aF => exact (fun k_ hk => (Nat.le_trans (below_size (by repeat (first | (with_reducible first | exact HB.out | apply below_alloc | apply pw_below_drewN | apply below_drew1 | refine below_set ?_ GE395.out) | exact HB.out))) hk))); (case aO => exact (by (with_reducible repeat (first | apply Kd.R_alloc | apply Kd.R_drewN | apply Kd.R_drew)); exact HO_6.out)); (case aS => exact (below_size (by repeat (first | (with_reducible first | exact HB.out | apply below_alloc | apply pw_below_drewN | apply below_drew1 | refine below_set ?_ GE395.out) | exact HB.out)))); (case aL => have := LMc9.out; omega); intro v398 w21 ho hb hg hat; rw [← Ny397.out] at ho; have n0_ := Aside0.mk (Kd.V_afterv (ok := (fun k_ => (P1_ k_ ∨ w.heap.size ≤ k_) ∧ k_ ≠ gb395)) (by (with_reducible repeat (first | apply Kd.V_alloc | apply Kd.V_drewN | apply Kd.V_drew)); exact Kd.V_mono HO_1.out (fun _ hk => ⟨⟨hk.1, hk.2.2⟩, hk.2.1⟩)) hg hat); have n1_ := Aside0.mk (blk_grown (g := gb395) (o := .cells #[.slice A0_0 l0_0.length c0_0] 30 (0, 0)) (by (with_reducible repeat (first | refine blk_drewN ?_ _ | refine blk_drew ?_ | refine blk_alloc ?_ _)); exact BK395.out) hg (Kd.R_ne HO_6.out BK395.out (by decide))); have n2_ := Aside0.mk (hb); have n3_ := Aside0.mk (ho); clear HO_1; clear BK395; clear HB; clear HO_6; have HO_1 := n0_; have BK395 := n1_; have HB := n2_; have HO399 := n3_; clear n0_ n1_ n2_ n3_; clear ho hb hg hat; have hcz22_0 : w21.cell? ⟨gb395, 0, none⟩ = some (.slice A0_0 l0_0.length c0_0) := (blk_cell BK395.out 0).trans rfl; have hfz22_0 := blk_frozen BK395.out 0; have p400 : 0 ≤ (x7_1 : Int) := of_decide_eq_true (by first | (with_reducible assumption) | assumption); have q400 : x7_1 < (l0_0.length : Int) := of_decide_eq_true (by first | (with_reducible assumption) | assumption); obtain ⟨ad400, A400_7, c400_7, e400, hx400_0, hx400_1, hx400_2, hx400_3, hx400_4, hx400_5, hx400_6, hx400_7, hl400_7, hi400_7⟩ := at_T69 HR0_0.out x7_1 p400 q400; cases e400; replace hx400_0 := (HB.out.cell (World.block_lt_of_cell? w _ hx400_0)).trans hx400_0; replace hx400_1 := (HB.out.cell (World.block_lt_of_cell? w _ hx400_1)).trans hx400_1; replace hx400_2 := (HB.out.cell (World.block_lt_of_cell? w _ hx400_2)).trans hx400_2; replace hx400_3 := (HB.out.cell (World.block_lt_of_cell? w _ hx400_3)).trans hx400_3; replace hx400_4 := (HB.out.cell (World.block_lt_of_cell? w _ hx400_4)).trans hx400_4; replace hx400_5 := (HB.out.cell (World.block_lt_of_cell? w _ hx400_5)).trans hx400_5; replace hx400_6 := (HB.out.cell (World.block_lt_of_cell? w _ hx400_6)).trans hx400_6; replace hx400_7 := (HB.out.cell (World.block_lt_of_cell? w _ hx400_7)).trans hx400_7; have HR400_7 := Aside0.mk hi400_7; have HC400_7 := Aside0.mk hl400_7; clear hi400_7 hl400_7; replace p400 := eq_true p400; replace q400 := eq_true q400) | ((with_reducible refine gate_dst (N := 8) rfl ?_); (try (refine gate_guard (by rfl) ?_; dsimp only)); refine box_event ?hg (N := 8) ?hd (cs := #[.int .i64 0, .int .i64 0, .int .i64 0, .int .i64 0, .int .i64 0, .int .i64 0, .int .i64 0, .slice none 0 0]) (t := 69) ?hr ?_; (case hd => rfl); (case hg => rfl); (case hr => first | (go_simp; done) | (go_simp; rfl) | (go_simp; rfl)); intro gb401 hg w23 hbox hb; have n0_ := Aside0.mk (Kd.V_below (Kd.V_elderB (by (with_reducible repeat (first | apply Kd.V_alloc | apply Kd.V_drewN | apply Kd.V_drew)); exact HO_1.out) gb401 (Nat.le_of_eq hg.symm)) hb); have n1_ := Aside0.mk (Kd.R_below (by (with_reducible repeat (first | apply Kd.R_alloc | apply Kd.R_drewN | apply Kd.R_drew)); exact HO399.out) hb); have n2_ := Aside0.mk (blk_below (g := gb395) (o := .cells #[.slice (some ad400) l0_0.length c0_0] 30 (0, 0)) (by (with_reducible repeat (first | refine blk_drewN ?_ _ | refine blk_drew ?_ | refine blk_alloc ?_ _)); exact BK395.out) hb); have n3_ := Aside0.mk (below_step (by repeat (first | (with_reducible first | exact HB.out | apply below_alloc | apply pw_below_drewN | apply below_drew1 | refine below_set ?_ GE395.out) | exact HB.out)) hb); have n4_ := Aside0.mk (hbox); have n5_ := Aside0.mk ((by rw [hg]; exact (below_size (by repeat (first | (with_reducible first | exact HB.out | apply below_alloc | apply pw_below_drewN | apply below_drew1 | refine below_set ?_ GE395.out) | exact HB.out))) : w.heap.size ≤ gb401)); have n6_ := Aside0.mk ((by rw [hg]; exact (below_size (by repeat (first | (with_reducible first | exact HB.out | apply below_alloc | apply pw_below_drewN | apply below_drew1 | refine below_set ?_ GE395.out) | exact HB.out))) : w.heap.size ≤ gb401)); have n7_ := Aside0.mk ((by rw [hg]; exact Nat.ne_of_lt (blk_lt (g := gb395) (o := .cells #[.slice (some ad400) l0_0.length c0_0] 30 (0, 0)) (by (with_reducible repeat (first | refine blk_drewN ?_ _ | refine blk_drew ?_ | refine blk_alloc ?_ _)); exact BK395.out)) : gb395 ≠ gb401)); have n8_ := Aside0.mk ((by rw [hg]; exact Nat.ne_of_gt (blk_lt (g := gb395) (o := .cells #[.slice (some ad400) l0_0.length c0_0] 30 (0, 0)) (by (with_reducible repeat (first | refine blk_drewN ?_ _ | refine blk_drew ?_ | refine blk_alloc ?_ _)); exact BK395.out)) : gb401 ≠ gb395)); clear HO_1; clear HO399; clear BK395; clear HB; have HO_1 := n0_; have HO399 := n1_; have BK395 := n2_; have HB := n3_; have BK401 := n4_; have GW401 := n5_; have GE401 := n6_; have NB395_401 := n7_; have NB401_395 := n8_; clear n0_ n1_ n2_ n3_ n4_ n5_ n6_ n7_ n8_; clear hb hbox hg; have hnb24 := NB401_395.out; have hnc24 := NB395_401.out; have hcz25_0 : w23.cell? ⟨gb401, 0, none⟩ = some (.int .i64 0) := (blk_cell BK401.out 0).trans rfl; have hcz25_1 : w23.cell? ⟨gb401, 1, none⟩ = some (.int .i64 0) := (blk_cell BK401.out 1).trans rfl; have hcz25_2 : w23.cell? ⟨gb401, 2, none⟩ = some (.int .i64 0) := (blk_cell BK401.out 2).trans rfl; have hcz25_3 : w23.cell? ⟨gb401, 3, none⟩ = some (.int .i64 0) := (blk_cell BK401.out 3).trans rfl; have hcz25_4 : w23.cell? ⟨gb401, 4, none⟩ = some (.int .i64 0) := (blk_cell BK401.out 4).trans rfl; have hcz25_5 : w23.cell? ⟨gb401, 5, none⟩ = some (.int .i64 0) := (blk_cell BK401.out 5).trans rfl; have hcz25_6 : w23.cell? ⟨gb401, 6, none⟩ = some (.int .i64 0) := (blk_cell BK401.out 6).trans rfl; have hcz25_7 : w23.cell? ⟨gb401, 7, none⟩ = some (.slice none 0 0) := (blk_cell BK401.out 7).trans rfl; have hfz25_0 := blk_frozen BK401.out 0; have hfz25_1 := blk_frozen BK401.out 1; have hfz25_2 := blk_frozen BK401.out 2; have hfz25_3 := blk_frozen BK401.out 3; have hfz25_4 := blk_frozen BK401.out 4; have hfz25_5 := blk_frozen BK401.out 5; have hfz25_6 := blk_frozen BK401.out 6; have hfz25_7 := blk_frozen BK401.out 7))
         (try simp only [Act.put, List.setIfInBounds_toArray, List.set_cons_zero, List.set_cons_succ])
         go_cut [36] (fun v36 wc => ∃ (kq : Nat) (x36_18 : Bool), v36 = .bool x36_18 ∧ Aside0 (impl_PathOf.j1 kq x1_1 y397 0 x36_18 l0_0 ((rd_T69 l0_0 x7_1).f0) ((rd_T69 l0_0 x7_1).f1) ((rd_T69 l0_0 x7_1).f2) ((rd_T69 l0_0 x7_1).f3.f0) ((rd_T69 l0_0 x7_1).f3.f1) ((rd_T69 l0_0 x7_1).f4.f0) ((rd_T69 l0_0 x7_1).f4.f1) ((rd_T69 l0_0 x7_1).f5) = some (r1, r2)) ∧ Aside0 (kq ≤ k1) ∧ Aside0 (Kd.V Kd.bool 4 wc w.heap.size (fun k_ => (P1_ k_ ∨ w.heap.size ≤ k_) ∧ some k_ ≠ (v398 : Value).ownBlock ∧ k_ ≠ gb395 ∧ k_ ≠ gb401) u1 x1_1) ∧ Aside0 (Kd.R (Kd.int .i64) 3 wc w.heap.size (fun k_ => (w.heap.size ≤ k_)) v398 y397) ∧ Aside0 (wc.heap[gb395]? = some (.cells #[(.slice (some ad400) l0_0.length c0_0)] 30 (0, 0))) ∧ Aside0 (wc.heap[gb401]? = some (.cells #[.int .i64 ((rd_T69 l0_0 x7_1).f0), .int .i64 ((rd_T69 l0_0 x7_1).f1), .int .i64 ((rd_T69 l0_0 x7_1).f2), .int .i64 ((rd_T69 l0_0 x7_1).f3.f0), .int .i64 ((rd_T69 l0_0 x7_1).f3.f1), .int .i64 ((rd_T69 l0_0 x7_1).f4.f0), .int .i64 ((rd_T69 l0_0 x7_1).f4.f1), (.slice A400_7 ((rd_T69 l0_0 x7_1).f5).length c400_7)] 69 (0, 0))) ∧ Aside0 (Below w.heap.size w wc))
         case first =>
          have H := HC19.out
          clear HC19
          by_cases c26 : ((rd_T69 l0_0 x7_1).f0) = 5
          ·rw [if_pos c26] at H
           have c26b0 : (((rd_T69 l0_0 x7_1).f0) == 5) = true := beq_iff_eq.mpr c26
           have c26b1 : (((rd_T69 l0_0 x7_1).f0) != 5) = false := bne_eq_false_iff_eq.mpr c26
           clear c26
           (first | rw [c26b0] | (simp only [i64_w, i32_w]; rw [c26b0]) | skip)
           have H' := Aside0.mk H
           clear H
           have hnb27 := NB401_395.out
           have hnc27 := NB395_401.out
           have hcz28_0 : w23.cell? ⟨gb401, 0, none⟩ = some (.int .i64 0) := (blk_cell BK401.out 0).trans rfl
           have hcz28_1 : w23.cell? ⟨gb401, 1, none⟩ = some (.int .i64 0) := (blk_cell BK401.out 1).trans rfl
           have hcz28_2 : w23.cell? ⟨gb401, 2, none⟩ = some (.int .i64 0) := (blk_cell BK401.out 2).trans rfl
           have hcz28_3 : w23.cell? ⟨gb401, 3, none⟩ = some (.int .i64 0) := (blk_cell BK401.out 3).trans rfl
           have hcz28_4 : w23.cell? ⟨gb401, 4, none⟩ = some (.int .i64 0) := (blk_cell BK401.out 4).trans rfl
           have hcz28_5 : w23.cell? ⟨gb401, 5, none⟩ = some (.int .i64 0) := (blk_cell BK401.out 5).trans rfl
           have hcz28_6 : w23.cell? ⟨gb401, 6, none⟩ = some (.int .i64 0) := (blk_cell BK401.out 6).trans rfl
           have hcz28_7 : w23.cell? ⟨gb401, 7, none⟩ = some (.slice none 0 0) := (blk_cell BK401.out 7).trans rfl
           have hfz28_0 := blk_frozen BK401.out 0
           have hfz28_1 := blk_frozen BK401.out 1
           have hfz28_2 := blk_frozen BK401.out 2
           have hfz28_3 := blk_frozen BK401.out 3
           have hfz28_4 := blk_frozen BK401.out 4
           have hfz28_5 := blk_frozen BK401.out 5
           have hfz28_6 := blk_frozen BK401.out 6
           have hfz28_7 := blk_frozen BK401.out 7
           obtain ⟨Ao29, co29, eo29⟩ := Kd.V_slice HO_1.out
           subst eo29
           go_wp2
           go_meet
           case rel => exact ⟨_, (decide ((x1_1.length : Int) > 0)), (by first | rfl | (simp; done) | (simp [*]; done)), H', ⟨by have := HK1.out; first | omega | exact Nat.le_refl _⟩, ⟨by (with_reducible repeat (first | apply Kd.V_alloc | apply Kd.V_drewN | apply Kd.V_drew)); exact Kd.V_mono (Kd.V_far (p := ⟨gb401, 7, none⟩) (Kd.V_far (p := ⟨gb401, 6, none⟩) (Kd.V_far (p := ⟨gb401, 5, none⟩) (Kd.V_far (p := ⟨gb401, 4, none⟩) (Kd.V_far (p := ⟨gb401, 3, none⟩) (Kd.V_far (p := ⟨gb401, 2, none⟩) (Kd.V_far (p := ⟨gb401, 1, none⟩) (Kd.V_far (p := ⟨gb401, 0, none⟩) (Kd.V_mono HO_1.out (fun k_ hk => (⟨hk, hk.2⟩ : _ ∧ k_ ≠ gb401))) (fun _ hk => hk.2) (.int .i64 ((rd_T69 l0_0 x7_1).f0))) (fun _ hk => hk.2) (.int .i64 ((rd_T69 l0_0 x7_1).f1))) (fun _ hk => hk.2) (.int .i64 ((rd_T69 l0_0 x7_1).f2))) (fun _ hk => hk.2) (.int .i64 ((rd_T69 l0_0 x7_1).f3.f0))) (fun _ hk => hk.2) (.int .i64 ((rd_T69 l0_0 x7_1).f3.f1))) (fun _ hk => hk.2) (.int .i64 ((rd_T69 l0_0 x7_1).f4.f0))) (fun _ hk => hk.2) (.int .i64 ((rd_T69 l0_0 x7_1).f4.f1))) (fun _ hk => hk.2) (.slice A400_7 ((rd_T69 l0_0 x7_1).f5).length c400_7)) (fun _ hk => ⟨hk.1.1.1.1, ⟨hk.1.1.2, ⟨hk.1.1.1.2, hk.1.2⟩⟩⟩)⟩, ⟨by (with_reducible repeat (first | apply Kd.R_alloc | apply Kd.R_drewN | apply Kd.R_drew)); exact Kd.R_mono (Kd.R_far (p := ⟨gb401, 7, none⟩) (Kd.R_far (p := ⟨gb401, 6, none⟩) (Kd.R_far (p := ⟨gb401, 5, none⟩) (Kd.R_far (p := ⟨gb401, 4, none⟩) (Kd.R_far (p := ⟨gb401, 3, none⟩) (Kd.R_far (p := ⟨gb401, 2, none⟩) (Kd.R_far (p := ⟨gb401, 1, none⟩) (Kd.R_far (p := ⟨gb401, 0, none⟩) (Kd.R_types HO399.out BK401.out (by decide)) (fun _ hk => hk.2) (.int .i64 ((rd_T69 l0_0 x7_1).f0))) (fun _ hk => hk.2) (.int .i64 ((rd_T69 l0_0 x7_1).f1))) (fun _ hk => hk.2) (.int .i64 ((rd_T69 l0_0 x7_1).f2))) (fun _ hk => hk.2) (.int .i64 ((rd_T69 l0_0 x7_1).f3.f0))) (fun _ hk => hk.2) (.int .i64 ((rd_T69 l0_0 x7_1).f3.f1))) (fun _ hk => hk.2) (.int .i64 ((rd_T69 l0_0 x7_1).f4.f0))) (fun _ hk => hk.2) (.int .i64 ((rd_T69 l0_0 x7_1).f4.f1))) (fun _ hk => hk.2) (.slice A400_7 ((rd_T69 l0_0 x7_1).f5).length c400_7)) (fun _ hk => hk.1)⟩, ⟨by (with_reducible repeat (first | refine blk_drewN ?_ _ | refine blk_drew ?_ | refine blk_alloc ?_ _)); refine blk_far ?_ NB395_401.out _; (with_reducible repeat (first | refine blk_drewN ?_ _ | refine blk_drew ?_ | refine blk_alloc ?_ _)); refine blk_far ?_ NB395_401.out _; (with_reducible repeat (first | refine blk_drewN ?_ _ | refine blk_drew ?_ | refine blk_alloc ?_ _)); refine blk_far ?_ NB395_401.out _; (with_reducible repeat (first | refine blk_drewN ?_ _ | refine blk_drew ?_ | refine blk_alloc ?_ _)); refine blk_far ?_ NB395_401.out _; (with_reducible repeat (first | refine blk_drewN ?_ _ | refine blk_drew ?_ | refine blk_alloc ?_ _)); refine blk_far ?_ NB395_401.out _; (with_reducible repeat (first | refine blk_drewN ?_ _ | refine blk_drew ?_ | refine blk_alloc ?_ _)); refine blk_far ?_ NB395_401.out _; (with_reducible repeat (first | refine blk_drewN ?_ _ | refine blk_drew ?_ | refine blk_alloc ?_ _)); refine blk_far ?_ NB395_401.out _; (with_reducible repeat (first | refine blk_drewN ?_ _ | refine blk_drew ?_ | refine blk_alloc ?_ _)); refine blk_far ?_ NB395_401.out _; (with_reducible repeat (first | refine blk_drewN ?_ _ | refine blk_drew ?_ | refine blk_alloc ?_ _)); exact BK395.out⟩, ⟨by (with_reducible repeat (first | refine blk_drewN ?_ _ | refine blk_drew ?_ | refine blk_alloc ?_ _)); refine blk_put (cs := #[.int .i64 ((rd_T69 l0_0 x7_1).f0), .int .i64 ((rd_T69 l0_0 x7_1).f1), .int .i64 ((rd_T69 l0_0 x7_1).f2), .int .i64 ((rd_T69 l0_0 x7_1).f3.f0), .int .i64 ((rd_T69 l0_0 x7_1).f3.f1), .int .i64 ((rd_T69 l0_0 x7_1).f4.f0), .int .i64 ((rd_T69 l0_0 x7_1).f4.f1), .slice none 0 0]) ?_ 7 _ rfl; (with_reducible repeat (first | refine blk_drewN ?_ _ | refine blk_drew ?_ | refine blk_alloc ?_ _)); refine blk_put (cs := #[.int .i64 ((rd_T69 l0_0 x7_1).f0), .int .i64 ((rd_T69 l0_0 x7_1).f1), .int .i64 ((rd_T69 l0_0 x7_1).f2), .int .i64 ((rd_T69 l0_0 x7_1).f3.f0), .int .i64 ((rd_T69 l0_0 x7_1).f3.f1), .int .i64 ((rd_T69 l0_0 x7_1).f4.f0), .int .i64 0, .slice none 0 0]) ?_ 6 _ rfl; (with_reducible repeat (first | refine blk_drewN ?_ _ | refine blk_drew ?_ | refine blk_alloc ?_ _)); refine blk_put (cs := #[.int .i64 ((rd_T69 l0_0 x7_1).f0), .int .i64 ((rd_T69 l0_0 x7_1).f1), .int .i64 ((rd_T69 l0_0 x7_1).f2), .int .i64 ((rd_T69 l0_0 x7_1).f3.f0), .int .i64 ((rd_T69 l0_0 x7_1).f3.f1), .int .i64 0, .int .i64 0, .slice none 0 0]) ?_ 5 _ rfl; (with_reducible repeat (first | refine blk_drewN ?_ _ | refine blk_drew ?_ | refine blk_alloc ?_ _)); refine blk_put (cs := #[.int .i64 ((rd_T69 l0_0 x7_1).f0), .int .i64 ((rd_T69 l0_0 x7_1).f1), .int .i64 ((rd_T69 l0_0 x7_1).f2), .int .i64 ((rd_T69 l0_0 x7_1).f3.f0), .int .i64 0, .int .i64 0, .int .i64 0, .slice none 0 0]) ?_ 4 _ rfl; (with_reducible repeat (first | refine blk_drewN ?_ _ | refine blk_drew ?_ | refine blk_alloc ?_ _)); refine blk_put (cs := #[.int .i64 ((rd_T69 l0_0 x7_1).f0), .int .i64 ((rd_T69 l0_0 x7_1).f1), .int .i64 ((rd_T69 l0_0 x7_1).f2), .int .i64 0, .int .i64 0, .int .i64 0, .int .i64 0, .slice none 0 0]) ?_ 3 _ rfl; (with_reducible repeat (first | refine blk_drewN ?_ _ | refine blk_drew ?_ | refine blk_alloc ?_ _)); refine blk_put (cs := #[.int .i64 ((rd_T69 l0_0 x7_1).f0), .int .i64 ((rd_T69 l0_0 x7_1).f1), .int .i64 0, .int .i64 0, .int .i64 0, .int .i64 0, .int .i64 0, .slice none 0 0]) ?_ 2 _ rfl; (with_reducible repeat (first | refine blk_drewN ?_ _ | refine blk_drew ?_ | refine blk_alloc ?_ _)); refine blk_put (cs := #[.int .i64 ((rd_T69 l0_0 x7_1).f0), .int .i64 0, .int .i64 0, .int .i64 0, .int .i64 0, .int .i64 0, .int .i64 0, .slice none 0 0]) ?_ 1 _ rfl; (with_reducible repeat (first | refine blk_drewN ?_ _ | refine blk_drew ?_ | refine blk_alloc ?_ _)); refine blk_put (cs := #[.int .i64 0, .int .i64 0, .int .i64 0, .int .i64 0, .int .i64 0, .int .i64 0, .int .i64 0, .slice none 0 0]) ?_ 0 _ rfl; (with_reducible repeat (first | refine blk_drewN ?_ _ | refine blk_drew ?_ | refine blk_alloc ?_ _)); exact BK401.out⟩, ⟨by repeat (first | (with_reducible first | exact HB.out | apply below_alloc | apply pw_below_drewN | apply below_drew1 | refine below_set ?_ GE395.out | refine below_set ?_ GE401.out) | exact HB.out)⟩⟩
          ·rw [if_neg c26] at H
           have c26b0 : (((rd_T69 l0_0 x7_1).f0) == 5) = false := beq_eq_false_iff_ne.mpr c26
           have c26b1 : (((rd_T69 l0_0 x7_1).f0) != 5) = true := bne_iff_ne.mpr c26
           (first | rw [c26b0] | (simp only [i64_w, i32_w]; rw [c26b0]) | skip)
           have H' := Aside0.mk H
           clear H
           have hnb30 := NB401_395.out
           have hnc30 := NB395_401.out
           have hcz31_0 : w23.cell? ⟨gb401, 0, none⟩ = some (.int .i64 0) := (blk_cell BK401.out 0).trans rfl
           have hcz31_1 : w23.cell? ⟨gb401, 1, none⟩ = some (.int .i64 0) := (blk_cell BK401.out 1).trans rfl
           have hcz31_2 : w23.cell? ⟨gb401, 2, none⟩ = some (.int .i64 0) := (blk_cell BK401.out 2).trans rfl
           have hcz31_3 : w23.cell? ⟨gb401, 3, none⟩ = some (.int .i64 0) := (blk_cell BK401.out 3).trans rfl
           have hcz31_4 : w23.cell? ⟨gb401, 4, none⟩ = some (.int .i64 0) := (blk_cell BK401.out 4).trans rfl
           have hcz31_5 : w23.cell? ⟨gb401, 5, none⟩ = some (.int .i64 0) := (blk_cell BK401.out 5).trans rfl
           have hcz31_6 : w23.cell? ⟨gb401, 6, none⟩ = some (.int .i64 0) := (blk_cell BK401.out 6).trans rfl
           have hcz31_7 : w23.cell? ⟨gb401, 7, none⟩ = some (.slice none 0 0) := (blk_cell BK401.out 7).trans rfl
           have hfz31_0 := blk_frozen BK401.out 0
           have hfz31_1 := blk_frozen BK401.out 1
           have hfz31_2 := blk_frozen BK401.out 2
           have hfz31_3 := blk_frozen BK401.out 3
           have hfz31_4 := blk_frozen BK401.out 4
           have hfz31_5 := blk_frozen BK401.out 5
           have hfz31_6 := blk_frozen BK401.out 6
           have hfz31_7 := blk_frozen BK401.out 7
           go_wp2
           go_meet
           case rel => exact ⟨_, (false), (by first | rfl | (simp; done) | (simp [*]; done)), H', ⟨by have := HK1.out; first | omega | exact Nat.le_refl _⟩, ⟨by (with_reducible repeat (first | apply Kd.V_alloc | apply Kd.V_drewN | apply Kd.V_drew)); exact Kd.V_mono (Kd.V_far (p := ⟨gb401, 7, none⟩) (Kd.V_far (p := ⟨gb401, 6, none⟩) (Kd.V_far (p := ⟨gb401, 5, none⟩) (Kd.V_far (p := ⟨gb401, 4, none⟩) (Kd.V_far (p := ⟨gb401, 3, none⟩) (Kd.V_far (p := ⟨gb401, 2, none⟩) (Kd.V_far (p := ⟨gb401, 1, none⟩) (Kd.V_far (p := ⟨gb401, 0, none⟩) (Kd.V_mono HO_1.out (fun k_ hk => (⟨hk, hk.2⟩ : _ ∧ k_ ≠ gb401))) (fun _ hk => hk.2) (.int .i64 ((rd_T69 l0_0 x7_1).f0))) (fun _ hk => hk.2) (.int .i64 ((rd_T69 l0_0 x7_1).f1))) (fun _ hk => hk.2) (.int .i64 ((rd_T69 l0_0 x7_1).f2))) (fun _ hk => hk.2) (.int .i64 ((rd_T69 l0_0 x7_1).f3.f0))) (fun _ hk => hk.2) (.int .i64 ((rd_T69 l0_0 x7_1).f3.f1))) (fun _ hk => hk.2) (.int .i64 ((rd_T69 l0_0 x7_1).f4.f0))) (fun _ hk => hk.2) (.int .i64 ((rd_T69 l0_0 x7_1).f4.f1))) (fun _ hk => hk.2) (.slice A400_7 ((rd_T69 l0_0 x7_1).f5).length c400_7)) (fun _ hk => ⟨hk.1.1.1.1, ⟨hk.1.1.2, ⟨hk.1.1.1.2, hk.1.2⟩⟩⟩)⟩, ⟨by (with_reducible repeat (first | apply Kd.R_alloc | apply Kd.R_drewN | apply Kd.R_drew)); exact Kd.R_mono (Kd.R_far (p := ⟨gb401, 7, none⟩) (Kd.R_far (p := ⟨gb401, 6, none⟩) (Kd.R_far (p := ⟨gb401, 5, none⟩) (Kd.R_far (p := ⟨gb401, 4, none⟩) (Kd.R_far (p := ⟨gb401, 3, none⟩) (Kd.R_far (p := ⟨gb401, 2, none⟩) (Kd.R_far (p := ⟨gb401, 1, none⟩) (Kd.R_far (p := ⟨gb401, 0, none⟩) (Kd.R_types HO399.out BK401.out (by decide)) (fun _ hk => hk.2) (.int .i64 ((rd_T69 l0_0 x7_1).f0))) (fun _ hk => hk.2) (.int .i64 ((rd_T69 l0_0 x7_1).f1))) (fun _ hk => hk.2) (.int .i64 ((rd_T69 l0_0 x7_1).f2))) (fun _ hk => hk.2) (.int .i64 ((rd_T69 l0_0 x7_1).f3.f0))) (fun _ hk => hk.2) (.int .i64 ((rd_T69 l0_0 x7_1).f3.f1))) (fun _ hk => hk.2) (.int .i64 ((rd_T69 l0_0 x7_1).f4.f0))) (fun _ hk => hk.2) (.int .i64 ((rd_T69 l0_0 x7_1).f4.f1))) (fun _ hk => hk.2) (.slice A400_7 ((rd_T69 l0_0 x7_1).f5).length c400_7)) (fun _ hk => hk.1)⟩, ⟨by (with_reducible repeat (first | refine blk_drewN ?_ _ | refine blk_drew ?_ | refine blk_alloc ?_ _)); refine blk_far ?_ NB395_401.out _; (with_reducible repeat (first | refine blk_drewN ?_ _ | refine blk_drew ?_ | refine blk_alloc ?_ _)); refine blk_far ?_ NB395_401.out _; (with_reducible repeat (first | refine blk_drewN ?_ _ | refine blk_drew ?_ | refine blk_alloc ?_ _)); refine blk_far ?_ NB395_401.out _; (with_reducible repeat (first | refine blk_drewN ?_ _ | refine blk_drew ?_ | refine blk_alloc ?_ _)); refine blk_far ?_ NB395_401.out _; (with_reducible repeat (first | refine blk_drewN ?_ _ | refine blk_drew ?_ | refine blk_alloc ?_ _)); refine blk_far ?_ NB395_401.out _; (with_reducible repeat (first | refine blk_drewN ?_ _ | refine blk_drew ?_ | refine blk_alloc ?_ _)); refine blk_far ?_ NB395_401.out _; (with_reducible repeat (first | refine blk_drewN ?_ _ | refine blk_drew ?_ | refine blk_alloc ?_ _)); refine blk_far ?_ NB395_401.out _; (with_reducible repeat (first | refine blk_drewN ?_ _ | refine blk_drew ?_ | refine blk_alloc ?_ _)); refine blk_far ?_ NB395_401.out _; (with_reducible repeat (first | refine blk_drewN ?_ _ | refine blk_drew ?_ | refine blk_alloc ?_ _)); exact BK395.out⟩, ⟨by (with_reducible repeat (first | refine blk_drewN ?_ _ | refine blk_drew ?_ | refine blk_alloc ?_ _)); refine blk_put (cs := #[.int .i64 ((rd_T69 l0_0 x7_1).f0), .int .i64 ((rd_T69 l0_0 x7_1).f1), .int .i64 ((rd_T69 l0_0 x7_1).f2), .int .i64 ((rd_T69 l0_0 x7_1).f3.f0), .int .i64 ((rd_T69 l0_0 x7_1).f3.f1), .int .i64 ((rd_T69 l0_0 x7_1).f4.f0), .int .i64 ((rd_T69 l0_0 x7_1).f4.f1), .slice none 0 0]) ?_ 7 _ rfl; (with_reducible repeat (first | refine blk_drewN ?_ _ | refine blk_drew ?_ | refine blk_alloc ?_ _)); refine blk_put (cs := #[.int .i64 ((rd_T69 l0_0 x7_1).f0), .int .i64 ((rd_T69 l0_0 x7_1).f1), .int .i64 ((rd_T69 l0_0 x7_1).f2), .int .i64 ((rd_T69 l0_0 x7_1).f3.f0), .int .i64 ((rd_T69 l0_0 x7_1).f3.f1), .int .i64 ((rd_T69 l0_0 x7_1).f4.f0), .int .i64 0, .slice none 0 0]) ?_ 6 _ rfl; (with_reducible repeat (first | refine blk_drewN ?_ _ | refine blk_drew ?_ | refine blk_alloc ?_ _)); refine blk_put (cs := #[.int .i64 ((rd_T69 l0_0 x7_1).f0), .int .i64 ((rd_T69 l0_0 x7_1).f1), .int .i64 ((rd_T69 l0_0 x7_1).f2), .int .i64 ((rd_T69 l0_0 x7_1).f3.f0), .int .i64 ((rd_T69 l0_0 x7_1).f3.f1), .int .i64 0, .int .i64 0, .slice none 0 0]) ?_ 5 _ rfl; (with_reducible repeat (first | refine blk_drewN ?_ _ | refine blk_drew ?_ | refine blk_alloc ?_ _)); refine blk_put (cs := #[.int .i64 ((rd_T69 l0_0 x7_1).f0), .int .i64 ((rd_T69 l0_0 x7_1).f1), .int .i64 ((rd_T69 l0_0 x7_1).f2), .int .i64 ((rd_T69 l0_0 x7_1).f3.f0), .int .i64 0, .int .i64 0, .int .i64 0, .slice none 0 0]) ?_ 4 _ rfl; (with_reducible repeat (first | refine blk_drewN ?_ _ | refine blk_drew ?_ | refine blk_alloc ?_ _)); refine blk_put (cs := #[.int .i64 ((rd_T69 l0_0 x7_1).f0), .int .i64 ((rd_T69 l0_0 x7_1).f1), .int .i64 ((rd_T69 l0_0 x7_1).f2), .int .i64 0, .int .i64 0, .int .i64 0, .int .i64 0, .slice none 0 0]) ?_ 3 _ rfl; (with_reducible repeat (first | refine blk_drewN ?_ _ | refine blk_drew ?_ | refine blk_alloc ?_ _)); refine blk_put (cs := #[.int .i64 ((rd_T69 l0_0 x7_1).f0), .int .i64 ((rd_T69 l0_0 x7_1).f1), .int .i64 0, .int .i64 0, .int .i64 0, .int .i64 0, .int .i64 0, .slice none 0 0]) ?_ 2 _ rfl; (with_reducible repeat (first | refine blk_drewN ?_ _ | refine blk_drew ?_ | refine blk_alloc ?_ _)); refine blk_put (cs := #[.int .i64 ((rd_T69 l0_0 x7_1).f0), .int .i64 0, .int .i64 0, .int .i64 0, .int .i64 0, .int .i64 0, .int .i64 0, .slice none 0 0]) ?_ 1 _ rfl; (with_reducible repeat (first | refine blk_drewN ?_ _ | refine blk_drew ?_ | refine blk_alloc ?_ _)); refine blk_put (cs := #[.int .i64 0, .int .i64 0, .int .i64 0, .int .i64 0, .int .i64 0, .int .i64 0, .int .i64 0, .slice none 0 0]) ?_ 0 _ rfl; (with_reducible repeat (first | refine blk_drewN ?_ _ | refine blk_drew ?_ | refine blk_alloc ?_ _)); exact BK401.out⟩, ⟨by repeat (first | (with_reducible first | exact HB.out | apply below_alloc | apply pw_below_drewN | apply below_drew1 | refine below_set ?_ GE395.out | refine below_set ?_ GE401.out) | exact HB.out)⟩⟩
         case rest =>
          clear HC19
          try clear c1
          try clear c2
          try clear p2
          try clear c3
          try clear c4
          try clear p4
          try clear q4
          try clear hx4
          try clear c8
          try clear c8b0
          try clear c8b1
          try clear c9
          try clear c10
          try clear c10b0
          try clear c11
          try clear c11b0
          try clear c12
          try clear c12b0
          try clear c12b1
          try clear c17
          try clear c23
          try clear c24
          try clear c26
          try clear c26b0
          try clear c26b1
          try clear c27
          try clear c30
          try clear hcz15_0
          try clear hcz18_0
          try clear hcz18_1
          try clear hcz18_2
          try clear hcz18_3
          try clear hcz18_4
          try clear hcz18_5
          try clear hcz18_6
          try clear hcz18_7
          try clear hcz22_0
          try clear hcz25_0
          try clear hcz25_1
          try clear hcz25_2
          try clear hcz25_3
          try clear hcz25_4
          try clear hcz25_5
          try clear hcz25_6
          try clear hcz25_7
          try clear hcz28_0
          try clear hcz28_1
          try clear hcz28_2
          try clear hcz28_3
          try clear hcz28_4
          try clear hcz28_5
          try clear hcz28_6
          try clear hcz28_7
          try clear hcz31_0
          try clear hcz31_1
          try clear hcz31_2
          try clear hcz31_3
          try clear hcz31_4
          try clear hcz31_5
          try clear hcz31_6
          try clear hcz31_7
          try clear hcz6_0
          try clear hfz15_0
          try clear hfz18_0
          try clear hfz18_1
          try clear hfz18_2
          try clear hfz18_3
          try clear hfz18_4
          try clear hfz18_5
          try clear hfz18_6
          try clear hfz18_7
          try clear hfz22_0
          try clear hfz25_0
          try clear hfz25_1
          try clear hfz25_2
          try clear hfz25_3
          try clear hfz25_4
          try clear hfz25_5
          try clear hfz25_6
          try clear hfz25_7
          try clear hfz28_0
          try clear hfz28_1
          try clear hfz28_2
          try clear hfz28_3
          try clear hfz28_4
          try clear hfz28_5
          try clear hfz28_6
          try clear hfz28_7
          try clear hfz31_0
          try clear hfz31_1
          try clear hfz31_2
          try clear hfz31_3
          try clear hfz31_4
          try clear hfz31_5
          try clear hfz31_6
          try clear hfz31_7
          try clear hfz6_0
          try clear hx400_0
          try clear hx400_1
          try clear hx400_2
          try clear hx400_3
          try clear hx400_4
          try clear hx400_5
          try clear hx400_6
          try clear hx400_7
          try clear p2
          try clear p400
          try clear q400
          obtain ⟨kq, x36_18, rfl, HA, HJ18, HO_1, HO_6, BK395, BK401, HB⟩ := hcut
          cases kq with
          | zero => exact absurd HA.out (by intro h_; first | (cases h_; done) | (simp [impl_PathOf.j1] at h_))
          | succ kj18 =>
           have H := HA.out
           clear HA
           unfold impl_PathOf.j1 at H
           by_cases c32 : x36_18 = true
           ·subst c32
            have H1 : (if 0 < (x1_1.length : Int) then (if rdOf false x1_1 0 = true then (if 1 ≤ (x1_1.length : Int) then (if 1 < (((rd_T69 l0_0 x7_1).f5).length : Int) then (impl_PathOf.l0 kj18 (x1_1.drop 1) y397 (rd ((rd_T69 l0_0 x7_1).f5) 1) l0_0) else (none)) else (none)) else (if 1 ≤ (x1_1.length : Int) then (if 0 ≤ 0 then (if 0 < (((rd_T69 l0_0 x7_1).f5).length : Int) then (impl_PathOf.l0 kj18 (x1_1.drop 1) y397 (rd ((rd_T69 l0_0 x7_1).f5) 0) l0_0) else (none)) else (none)) else (none))) else (none)) = some (r1, r2) := by rw [if_pos rfl] at H; exact H
            clear H
            have H := H1
            clear H1
            by_cases c33 : 0 < (x1_1.length : Int)
            ·rw [if_pos c33] at H
             have c33b0 : decide (0 < (x1_1.length : Int)) = true := decide_eq_true c33
             have c33b1 : decide (0 < x1_1.length) = true := decide_eq_true (by omega)
             clear c33
             obtain ⟨bq34, hbq34⟩ : ∃ b_ : Bool, b_ = (rdOf false x1_1 0) := ⟨_, rfl⟩
             replace H : (if bq34 = true then (if 1 ≤ (x1_1.length : Int) then (if 1 < (((rd_T69 l0_0 x7_1).f5).length : Int) then (impl_PathOf.l0 kj18 (x1_1.drop 1) y397 (rd ((rd_T69 l0_0 x7_1).f5) 1) l0_0) else (none)) else (none)) else (if 1 ≤ (x1_1.length : Int) then (if 0 ≤ 0 then (if 0 < (((rd_T69 l0_0 x7_1).f5).length : Int) then (impl_PathOf.l0 kj18 (x1_1.drop 1) y397 (rd ((rd_T69 l0_0 x7_1).f5) 0) l0_0) else (none)) else (none)) else (none))) = some (r1, r2) := by rw [← hbq34] at H; exact H
             have Nbq34 := Aside0.mk hbq34
             clear hbq34
             by_cases c35 : bq34 = true
             ·subst c35
              have H1 : (if 1 ≤ (x1_1.length : Int) then (if 1 < (((rd_T69 l0_0 x7_1).f5).length : Int) then (impl_PathOf.l0 kj18 (x1_1.drop 1) y397 (rd ((rd_T69 l0_0 x7_1).f5) 1) l0_0) else (none)) else (none)) = some (r1, r2) := by rw [if_pos rfl] at H; exact H
              clear H
              have H := H1
              clear H1
              by_cases c36 : 1 ≤ (x1_1.length : Int)
              ·rw [if_pos c36] at H
               have c36b0 := eq_true c36
               have c36b1 : decide (1 ≤ (x1_1.length : Int)) = true := decide_eq_true c36
               clear c36
               obtain ⟨y403, hy403⟩ : ∃ y_ : List Bool, y_ = (x1_1.drop 1) := ⟨_, rfl⟩
               replace H : (if 1 < (((rd_T69 l0_0 x7_1).f5).length : Int) then (impl_PathOf.l0 kj18 y403 y397 (rd ((rd_T69 l0_0 x7_1).f5) 1) l0_0) else (none)) = some (r1, r2) := by first | (rw [hy403]; with_reducible exact H) | (have H2_ := (Option.bind_some _ _).symm.trans H; rw [hy403]; with_reducible exact H2_) | (have H2_ := (Option.bind_some _ _).symm.trans H; with_reducible exact H2_) | with_reducible exact H | (rw [hy403]; exact H) | exact H
               have Ny403 := Aside0.mk hy403
               clear hy403
               by_cases c37 : 1 < (((rd_T69 l0_0 x7_1).f5).length : Int)
               ·rw [if_pos c37] at H
                have c37b0 : decide (1 < (((rd_T69 l0_0 x7_1).f5).length : Int)) = true := decide_eq_true c37
                have c37b1 : decide (1 < ((rd_T69 l0_0 x7_1).f5).length) = true := decide_eq_true (by omega)
                clear c37
                have H' := Aside0.mk H
                clear H
                obtain ⟨Ao38, co38, eo38⟩ := Kd.V_slice HO_1.out
                subst eo38
                have p402 : 0 ≤ (0 : Int) := (by omega)
                have q402 : 0 < (x1_1.length : Int) := of_decide_eq_true (by first | (with_reducible assumption) | assumption)
                obtain ⟨ad402, e402, hx402_0⟩ := Kd.at_bool (Kd.V_reads' HO_1.out).2.2 0 p402 q402
                (try rw [← Nbq34.out] at hx402_0)
                cases e402
                have qi402 : (0 < x1_1.length) = True := eq_true (by omega)
                (try rw [show ((0 : Int)).toNat = 0 from rfl] at hx402_0)
                (try rw [Addr.add_zero'] at hx402_0)
                replace p402 := eq_true p402
                replace q402 := eq_true q402
                have q39 : (1 : Int) ≤ ((x1_1.length : Int) : Int) := of_decide_eq_true (by first | (with_reducible assumption) | assumption)
                obtain ⟨i039, hi039, _, hsz39, _⟩ := info_parts info4
                have hroom39 : x1_1.length ≤ co38 := (Kd.V_reads' HO_1.out).2.1
                have hC39 : Kd.F Kd.bool _ _ (some ad402) x1_1.length x1_1 := (Kd.V_at (base := w.heap.size) HO_1.out).2.2
                have hcut39 := cut_from (P := Try.prog) 40 4 .i64 Try.underlying40 hi039 1 hsz39 (some ad402) x1_1.length co38 1 (by omega) q39
                have hr39 := Kd.F_cut (m := (1 : Int).toNat) (c := co38) hC39 (by omega) hroom39
                obtain ⟨A39, hA39⟩ : ∃ A1, A1 = (if co38 = (1 : Int).toNat then (some ad402) else ((some ad402) : Option Addr).map (·.add ((1 : Int).toNat * 1))) := ⟨_, rfl⟩
                obtain ⟨c39, hc39⟩ : ∃ c1, c1 = co38 - (1 : Int).toNat := ⟨_, rfl⟩
                have hy39 : y403.length = x1_1.length - (1 : Int).toNat := (by rw [Ny403.out, List.length_drop] <;> omega)
                rw [show (x1_1).drop (1 : Int).toNat = y403 from Ny403.out.symm] at hr39
                replace hr39 : Kd.F Kd.bool _ _ A39 y403.length y403 := (by rw [hA39]; exact hr39)
                rw [← hy39, ← hA39, ← hc39] at hcut39
                have HO407 := Aside0.mk (show Kd.V Kd.bool 4 _ w.heap.size _ (.slice A39 y403.length c39) y403 from Kd.V_mk (by rw [hy39, hc39]; exact Nat.sub_le_sub_right hroom39 _) hr39)
                have HC407 := Aside0.mk (show y403.length ≤ c39 from by rw [hy39, hc39]; exact Nat.sub_le_sub_right hroom39 _)
                clear hr39 hC39 hroom39 hi039 hsz39 hc39
                have KY39 := Aside0.mk hy39
                have KA39 := Aside0.mk hA39
                clear hy39 hA39
                replace q39 := eq_true q39
                have hnb40 := NB401_395.out
                have hnc40 := NB395_401.out
                have hcz41_0 : wc.cell? ⟨gb401, 0, none⟩ = some (.int .i64 ((rd_T69 l0_0 x7_1).f0)) := (blk_cell BK401.out 0).trans rfl
                have hcz41_1 : wc.cell? ⟨gb401, 1, none⟩ = some (.int .i64 ((rd_T69 l0_0 x7_1).f1)) := (blk_cell BK401.out 1).trans rfl
                have hcz41_2 : wc.cell? ⟨gb401, 2, none⟩ = some (.int .i64 ((rd_T69 l0_0 x7_1).f2)) := (blk_cell BK401.out 2).trans rfl
                have hcz41_3 : wc.cell? ⟨gb401, 3, none⟩ = some (.int .i64 ((rd_T69 l0_0 x7_1).f3.f0)) := (blk_cell BK401.out 3).trans rfl
                have hcz41_4 : wc.cell? ⟨gb401, 4, none⟩ = some (.int .i64 ((rd_T69 l0_0 x7_1).f3.f1)) := (blk_cell BK401.out 4).trans rfl
                have hcz41_5 : wc.cell? ⟨gb401, 5, none⟩ = some (.int .i64 ((rd_T69 l0_0 x7_1).f4.f0)) := (blk_cell BK401.out 5).trans rfl
                have hcz41_6 : wc.cell? ⟨gb401, 6, none⟩ = some (.int .i64 ((rd_T69 l0_0 x7_1).f4.f1)) := (blk_cell BK401.out 6).trans rfl
                have hcz41_7 : wc.cell? ⟨gb401, 7, none⟩ = some (.slice A400_7 ((rd_T69 l0_0 x7_1).f5).length c400_7) := (blk_cell BK401.out 7).trans rfl
                have hfz41_0 := blk_frozen BK401.out 0
                have hfz41_1 := blk_frozen BK401.out 1
                have hfz41_2 := blk_frozen BK401.out 2
                have hfz41_3 := blk_frozen BK401.out 3
                have hfz41_4 := blk_frozen BK401.out 4
                have hfz41_5 := blk_frozen BK401.out 5
                have hfz41_6 := blk_frozen BK401.out 6
                have hfz41_7 := blk_frozen BK401.out 7
                have p408 : 0 ≤ (1 : Int) := (by omega)
                have q408 : 1 < (((rd_T69 l0_0 x7_1).f5).length : Int) := of_decide_eq_true (by first | (with_reducible assumption) | assumption)
                obtain ⟨ad408, e408, hx408_0⟩ := Kd.at_int HR400_7.out 1 p408 q408
                cases e408
                (try simp only [show (1 : Int).toNat = 1 from rfl, Nat.reduceMul, Nat.reduceEqDiff, Go.Addr.add, ↓reduceIte] at hx408_0)
                have qi408 : (1 < ((rd_T69 l0_0 x7_1).f5).length) = True := eq_true (by omega)
                (try rw [show ((1 : Int)).toNat = 1 from rfl] at hx408_0)
                replace hx408_0 := (HB.out.cell (World.block_lt_of_cell? w _ hx408_0)).trans hx408_0
                replace p408 := eq_true p408
                replace q408 := eq_true q408
                go_wp2
                go_roundg kj18
                case measure => have := HK1.out; have := HJ18.out; omega
                case rel => exact ⟨(y403), (y397), (rd ((rd_T69 l0_0 x7_1).f5) 1), (by first | rfl | (simp; done) | (simp [*]; done)), H', ⟨by have := HK1.out; have := HJ18.out; omega⟩, ⟨by (with_reducible repeat (first | apply Kd.V_alloc | apply Kd.V_drewN | apply Kd.V_drew)); exact Kd.V_mono HO407.out (fun _ hk => ⟨hk.1, ⟨hk.2.1, hk.2.2.1⟩⟩)⟩, ⟨by (with_reducible repeat (first | apply Kd.R_alloc | apply Kd.R_drewN | apply Kd.R_drew)); exact HO_6.out⟩, ⟨by (with_reducible repeat (first | refine blk_drewN ?_ _ | refine blk_drew ?_ | refine blk_alloc ?_ _)); exact BK395.out⟩, ⟨by repeat (first | (with_reducible first | exact HB.out | apply below_alloc | apply pw_below_drewN | apply below_drew1 | refine below_set ?_ GE395.out | refine below_set ?_ GE401.out) | exact HB.out)⟩⟩
               ·rw [if_neg c37] at H
                exact absurd H (by simp)
              ·rw [if_neg c36] at H
               exact absurd H (by simp)
             ·replace c35 := Bool.eq_false_iff.mpr c35
              subst c35
              have H1 : (if 1 ≤ (x1_1.length : Int) then (if 0 ≤ 0 then (if 0 < (((rd_T69 l0_0 x7_1).f5).length : Int) then (impl_PathOf.l0 kj18 (x1_1.drop 1) y397 (rd ((rd_T69 l0_0 x7_1).f5) 0) l0_0) else (none)) else (none)) else (none)) = some (r1, r2) := by rw [if_neg (show ¬ (false = true) by decide)] at H; exact H
              clear H
              have H := H1
              clear H1
              by_cases c42 : 1 ≤ (x1_1.length : Int)
              ·rw [if_pos c42] at H
               have c42b0 := eq_true c42
               have c42b1 : decide (1 ≤ (x1_1.length : Int)) = true := decide_eq_true c42
               clear c42
               obtain ⟨y409, hy409⟩ : ∃ y_ : List Bool, y_ = (x1_1.drop 1) := ⟨_, rfl⟩
               replace H : (if 0 ≤ 0 then (if 0 < (((rd_T69 l0_0 x7_1).f5).length : Int) then (impl_PathOf.l0 kj18 y409 y397 (rd ((rd_T69 l0_0 x7_1).f5) 0) l0_0) else (none)) else (none)) = some (r1, r2) := by first | (rw [hy409]; with_reducible exact H) | (have H2_ := (Option.bind_some _ _).symm.trans H; rw [hy409]; with_reducible exact H2_) | (have H2_ := (Option.bind_some _ _).symm.trans H; with_reducible exact H2_) | with_reducible exact H | (rw [hy409]; exact H) | exact H
               have Ny409 := Aside0.mk hy409
               clear hy409
               by_cases c43 : 0 ≤ 0
               ·rw [if_pos c43] at H
                have c43b0 : decide (0 ≤ 0) = true := decide_eq_true c43
                clear c43
                by_cases c44 : 0 < (((rd_T69 l0_0 x7_1).f5).length : Int)
                ·rw [if_pos c44] at H
                 have c44b0 : decide (0 < (((rd_T69 l0_0 x7_1).f5).length : Int)) = true := decide_eq_true c44
                 have c44b1 : decide (0 < ((rd_T69 l0_0 x7_1).f5).length) = true := decide_eq_true (by omega)
                 clear c44
                 have H' := Aside0.mk H
                 clear H
                 obtain ⟨Ao45, co45, eo45⟩ := Kd.V_slice HO_1.out
                 subst eo45
                 have p402 : 0 ≤ (0 : Int) := (by omega)
                 have q402 : 0 < (x1_1.length : Int) := of_decide_eq_true (by first | (with_reducible assumption) | assumption)
                 obtain ⟨ad402, e402, hx402_0⟩ := Kd.at_bool (Kd.V_reads' HO_1.out).2.2 0 p402 q402
                 (try rw [← Nbq34.out] at hx402_0)
                 cases e402
                 have qi402 : (0 < x1_1.length) = True := eq_true (by omega)
                 (try rw [show ((0 : Int)).toNat = 0 from rfl] at hx402_0)
                 (try rw [Addr.add_zero'] at hx402_0)
                 replace p402 := eq_true p402
                 replace q402 := eq_true q402
                 have q46 : (1 : Int) ≤ ((x1_1.length : Int) : Int) := of_decide_eq_true (by first | (with_reducible assumption) | assumption)
                 obtain ⟨i046, hi046, _, hsz46, _⟩ := info_parts info4
                 have hroom46 : x1_1.length ≤ co45 := (Kd.V_reads' HO_1.out).2.1
                 have hC46 : Kd.F Kd.bool _ _ (some ad402) x1_1.length x1_1 := (Kd.V_at (base := w.heap.size) HO_1.out).2.2
                 have hcut46 := cut_from (P := Try.prog) 40 4 .i64 Try.underlying40 hi046 1 hsz46 (some ad402) x1_1.length co45 1 (by omega) q46
                 have hr46 := Kd.F_cut (m := (1 : Int).toNat) (c := co45) hC46 (by omega) hroom46
                 obtain ⟨A46, hA46⟩ : ∃ A1, A1 = (if co45 = (1 : Int).toNat then (some ad402) else ((some ad402) : Option Addr).map (·.add ((1 : Int).toNat * 1))) := ⟨_, rfl⟩
                 obtain ⟨c46, hc46⟩ : ∃ c1, c1 = co45 - (1 : Int).toNat := ⟨_, rfl⟩
                 have hy46 : y409.length = x1_1.length - (1 : Int).toNat := (by rw [Ny409.out, List.length_drop] <;> omega)
                 rw [show (x1_1).drop (1 : Int).toNat = y409 from Ny409.out.symm] at hr46
                 replace hr46 : Kd.F Kd.bool _ _ A46 y409.length y409 := (by rw [hA46]; exact hr46)
                 rw [← hy46, ← hA46, ← hc46] at hcut46
                 have HO413 := Aside0.mk (show Kd.V Kd.bool 4 _ w.heap.size _ (.slice A46 y409.length c46) y409 from Kd.V_mk (by rw [hy46, hc46]; exact Nat.sub_le_sub_right hroom46 _) hr46)
                 have HC413 := Aside0.mk (show y409.length ≤ c46 from by rw [hy46, hc46]; exact Nat.sub_le_sub_right hroom46 _)
                 clear hr46 hC46 hroom46 hi046 hsz46 hc46
                 have KY46 := Aside0.mk hy46
                 have KA46 := Aside0.mk hA46
                 clear hy46 hA46
                 replace q46 := eq_true q46
                 have hnb47 := NB401_395.out
                 have hnc47 := NB395_401.out
                 have hcz48_0 : wc.cell? ⟨gb401, 0, none⟩ = some (.int .i64 ((rd_T69 l0_0 x7_1).f0)) := (blk_cell BK401.out 0).trans rfl
                 have hcz48_1 : wc.cell? ⟨gb401, 1, none⟩ = some (.int .i64 ((rd_T69 l0_0 x7_1).f1)) := (blk_cell BK401.out 1).trans rfl
                 have hcz48_2 : wc.cell? ⟨gb401, 2, none⟩ = some (.int .i64 ((rd_T69 l0_0 x7_1).f2)) := (blk_cell BK401.out 2).trans rfl
                 have hcz48_3 : wc.cell? ⟨gb401, 3, none⟩ = some (.int .i64 ((rd_T69 l0_0 x7_1).f3.f0)) := (blk_cell BK401.out 3).trans rfl
                 have hcz48_4 : wc.cell? ⟨gb401, 4, none⟩ = some (.int .i64 ((rd_T69 l0_0 x7_1).f3.f1)) := (blk_cell BK401.out 4).trans rfl
                 have hcz48_5 : wc.cell? ⟨gb401, 5, none⟩ = some (.int .i64 ((rd_T69 l0_0 x7_1).f4.f0)) := (blk_cell BK401.out 5).trans rfl
                 have hcz48_6 : wc.cell? ⟨gb401, 6, none⟩ = some (.int .i64 ((rd_T69 l0_0 x7_1).f4.f1)) := (blk_cell BK401.out 6).trans rfl
                 have hcz48_7 : wc.cell? ⟨gb401, 7, none⟩ = some (.slice A400_7 ((rd_T69 l0_0 x7_1).f5).length c400_7) := (blk_cell BK401.out 7).trans rfl
                 have hfz48_0 := blk_frozen BK401.out 0
                 have hfz48_1 := blk_frozen BK401.out 1
                 have hfz48_2 := blk_frozen BK401.out 2
                 have hfz48_3 := blk_frozen BK401.out 3
                 have hfz48_4 := blk_frozen BK401.out 4
                 have hfz48_5 := blk_frozen BK401.out 5
                 have hfz48_6 := blk_frozen BK401.out 6
                 have hfz48_7 := blk_frozen BK401.out 7
                 have p414 : 0 ≤ (0 : Int) := (by omega)
                 have q414 : 0 < (((rd_T69 l0_0 x7_1).f5).length : Int) := of_decide_eq_true (by first | (with_reducible assumption) | assumption)
                 obtain ⟨ad414, e414, hx414_0⟩ := Kd.at_int HR400_7.out 0 p414 q414
                 cases e414
                 have qi414 : (0 < ((rd_T69 l0_0 x7_1).f5).length) = True := eq_true (by omega)
                 (try rw [show ((0 : Int)).toNat = 0 from rfl] at hx414_0)
                 (try rw [Addr.add_zero'] at hx414_0)
                 replace hx414_0 := (HB.out.cell (World.block_lt_of_cell? w _ hx414_0)).trans hx414_0
                 replace p414 := eq_true p414
                 replace q414 := eq_true q414
                 go_wp2
                 go_roundg kj18
                 case measure => have := HK1.out; have := HJ18.out; omega
                 case rel => exact ⟨(y409), (y397), (rd ((rd_T69 l0_0 x7_1).f5) 0), (by first | rfl | (simp; done) | (simp [*]; done)), H', ⟨by have := HK1.out; have := HJ18.out; omega⟩, ⟨by (with_reducible repeat (first | apply Kd.V_alloc | apply Kd.V_drewN | apply Kd.V_drew)); exact Kd.V_mono HO413.out (fun _ hk => ⟨hk.1, ⟨hk.2.1, hk.2.2.1⟩⟩)⟩, ⟨by (with_reducible repeat (first | apply Kd.R_alloc | apply Kd.R_drewN | apply Kd.R_drew)); exact HO_6.out⟩, ⟨by (with_reducible repeat (first | refine blk_drewN ?_ _ | refine blk_drew ?_ | refine blk_alloc ?_ _)); exact BK395.out⟩, ⟨by repeat (first | (with_reducible first | exact HB.out | apply below_alloc | apply pw_below_drewN | apply below_drew1 | refine below_set ?_ GE395.out | refine below_set ?_ GE401.out) | exact HB.out)⟩⟩
                ·rw [if_neg c44] at H
                 exact absurd H (by simp)
               ·rw [if_neg c43] at H
                exact absurd H (by simp)
              ·rw [if_neg c42] at H
               exact absurd H (by simp)
            ·rw [if_neg c33] at H
             exact absurd H (by simp)
           ·replace c32 := Bool.eq_false_iff.mpr c32
            subst c32
            have H1 : (if 0 ≤ 0 then (if 0 < (((rd_T69 l0_0 x7_1).f5).length : Int) then (impl_PathOf.l0 kj18 x1_1 y397 (rd ((rd_T69 l0_0 x7_1).f5) 0) l0_0) else (none)) else (none)) = some (r1, r2) := by rw [if_neg (show ¬ (false = true) by decide)] at H; exact H
            clear H
            have H := H1
            clear H1
            by_cases c49 : 0 ≤ 0
            ·rw [if_pos c49] at H
             have c49b0 : decide (0 ≤ 0) = true := decide_eq_true c49
             clear c49
             by_cases c50 : 0 < (((rd_T69 l0_0 x7_1).f5).length : Int)
             ·rw [if_pos c50] at H
              have c50b0 : decide (0 < (((rd_T69 l0_0 x7_1).f5).length : Int)) = true := decide_eq_true c50
              have c50b1 : decide (0 < ((rd_T69 l0_0 x7_1).f5).length) = true := decide_eq_true (by omega)
              clear c50
              have H' := Aside0.mk H
              clear H
              have hnb51 := NB401_395.out
              have hnc51 := NB395_401.out
              have hcz52_0 : wc.cell? ⟨gb401, 0, none⟩ = some (.int .i64 ((rd_T69 l0_0 x7_1).f0)) := (blk_cell BK401.out 0).trans rfl
              have hcz52_1 : wc.cell? ⟨gb401, 1, none⟩ = some (.int .i64 ((rd_T69 l0_0 x7_1).f1)) := (blk_cell BK401.out 1).trans rfl
              have hcz52_2 : wc.cell? ⟨gb401, 2, none⟩ = some (.int .i64 ((rd_T69 l0_0 x7_1).f2)) := (blk_cell BK401.out 2).trans rfl
              have hcz52_3 : wc.cell? ⟨gb401, 3, none⟩ = some (.int .i64 ((rd_T69 l0_0 x7_1).f3.f0)) := (blk_cell BK401.out 3).trans rfl
              have hcz52_4 : wc.cell? ⟨gb401, 4, none⟩ = some (.int .i64 ((rd_T69 l0_0 x7_1).f3.f1)) := (blk_cell BK401.out 4).trans rfl
              have hcz52_5 : wc.cell? ⟨gb401, 5, none⟩ = some (.int .i64 ((rd_T69 l0_0 x7_1).f4.f0)) := (blk_cell BK401.out 5).trans rfl
              have hcz52_6 : wc.cell? ⟨gb401, 6, none⟩ = some (.int .i64 ((rd_T69 l0_0 x7_1).f4.f1)) := (blk_cell BK401.out 6).trans rfl
              have hcz52_7 : wc.cell? ⟨gb401, 7, none⟩ = some (.slice A400_7 ((rd_T69 l0_0 x7_1).f5).length c400_7) := (blk_cell BK401.out 7).trans rfl
              have hfz52_0 := blk_frozen BK401.out 0
              have hfz52_1 := blk_frozen BK401.out 1
              have hfz52_2 := blk_frozen BK401.out 2
              have hfz52_3 := blk_frozen BK401.out 3
              have hfz52_4 := blk_frozen BK401.out 4
              have hfz52_5 := blk_frozen BK401.out 5
              have hfz52_6 := blk_frozen BK401.out 6
              have hfz52_7 := blk_frozen BK401.out 7
              have p415 : 0 ≤ (0 : Int) := (by omega)
              have q415 : 0 < (((rd_T69 l0_0 x7_1).f5).length : Int) := of_decide_eq_true (by first | (with_reducible assumption) | assumption)
              obtain ⟨ad415, e415, hx415_0⟩ := Kd.at_int HR400_7.out 0 p415 q415
              cases e415
              have qi415 : (0 < ((rd_T69 l0_0 x7_1).f5).length) = True := eq_true (by omega)
              (try rw [show ((0 : Int)).toNat = 0 from rfl] at hx415_0)
              (try rw [Addr.add_zero'] at hx415_0)
              replace hx415_0 := (HB.out.cell (World.block_lt_of_cell? w _ hx415_0)).trans hx415_0
              replace p415 := eq_true p415
              replace q415 := eq_true q415
              go_wp2
              go_roundg kj18
              case measure => have := HK1.out; have := HJ18.out; omega
              case rel => exact ⟨(x1_1), (y397), (rd ((rd_T69 l0_0 x7_1).f5) 0), (by first | rfl | (simp; done) | (simp [*]; done)), H', ⟨by have := HK1.out; have := HJ18.out; omega⟩, ⟨by (with_reducible repeat (first | apply Kd.V_alloc | apply Kd.V_drewN | apply Kd.V_drew)); exact Kd.V_mono HO_1.out (fun _ hk => ⟨hk.1, ⟨hk.2.1, hk.2.2.1⟩⟩)⟩, ⟨by (with_reducible repeat (first | apply Kd.R_alloc | apply Kd.R_drewN | apply Kd.R_drew)); exact HO_6.out⟩, ⟨by (with_reducible repeat (first | refine blk_drewN ?_ _ | refine blk_drew ?_ | refine blk_alloc ?_ _)); exact BK395.out⟩, ⟨by repeat (first | (with_reducible first | exact HB.out | apply below_alloc | apply pw_below_drewN | apply below_drew1 | refine below_set ?_ GE395.out | refine below_set ?_ GE401.out) | exact HB.out)⟩⟩
             ·rw [if_neg c50] at H
              exact absurd H (by simp)
            ·rw [if_neg c49] at H
             exact absurd H (by simp)
       ·rw [if_neg c11] at H
        exact absurd H (by simp)
      ·rw [if_neg c10] at H
       exact absurd H (by simp)
     ·rw [if_neg c9] at H
      exact absurd H (by simp)
    ·rw [if_neg c8] at H
     have c8b0 : decide ((x6_1.length : Int) < 200) = false := decide_eq_false c8
     have c8b1 : decide (x6_1.length < 200) = false := decide_eq_false (by omega)
     clear c8
     simp only [Option.some.injEq, Prod.mk.injEq] at H
     obtain ⟨rfl, rfl⟩ := H
     obtain ⟨Ao53, co53, eo53⟩ := Kd.R_slice HO_6.out
     subst eo53
     go_wp2
     go_ret2
     exact ⟨_, by first | rfl | (simp [errW_none, errW_some] <;> rfl) | (simp [*, errW_none, errW_some] <;> rfl), by first | exact Kd.R_nil _ _ _ _ _ | exact Kd.N_nil _ _ _ _ _ | exact Kd.V_nil _ _ _ _ _ | exact Kd.Q_nil _ _ _ _ _ | exact Kd.S_nil _ _ _ _ _, by repeat (first | (with_reducible first | exact HB.out | apply below_alloc | apply pw_below_drewN | apply below_drew1 | refine below_set ?_ GE395.out) | exact HB.out)⟩
 ·replace c4 := Bool.eq_false_iff.mpr c4
  subst c4
  have H1 : (some (([] : List Int), false)) = some (r1, r2) := by rw [if_neg (show ¬ (false = true) by decide)] at H; exact H
  clear H
  have H := H1
  clear H1
  simp only [Option.some.injEq, Prod.mk.injEq] at H
  obtain ⟨rfl, rfl⟩ := H
  go_enter Try.func23, Try.ntmps23
  go_wp2_with (first | ((with_reducible refine gate_dst (N := 2) rfl ?_); (try (refine gate_guard (by rfl) ?_; dsimp only)); refine box_event ?hg (N := 2) ?hd (cs := #[.slice A0_0 l0_0.length c0_0]) (t := 30) ?hr ?_; (case hd => rfl); (case hg => rfl); (case hr => first | (go_simp; done) | (go_simp; rfl) | (go_simp; rfl)); intro gb395 hg w54 hbox hb; have n0_ := Aside0.mk (Kd.V_below (Kd.V_elderB (by (with_reducible repeat (first | apply Kd.V_alloc | apply Kd.V_drewN | apply Kd.V_drew)); exact HO1.out) gb395 (Nat.le_of_eq hg.symm)) hb); have n1_ := Aside0.mk (below_step (by repeat (first | (with_reducible first | exact HB.out | apply below_alloc | apply pw_below_drewN | apply below_drew1) | exact HB.out)) hb); have n2_ := Aside0.mk (hbox); have n3_ := Aside0.mk ((by rw [hg]; exact (below_size (by repeat (first | (with_reducible first | exact HB.out | apply below_alloc | apply pw_below_drewN | apply below_drew1) | exact HB.out))) : w.heap.size ≤ gb395)); have n4_ := Aside0.mk ((by rw [hg]; exact (below_size (by repeat (first | (with_reducible first | exact HB.out | apply below_alloc | apply pw_below_drewN | apply below_drew1) | exact HB.out))) : w.heap.size ≤ gb395)); clear HO1; clear HB; have HO1 := n0_; have HB := n1_; have BK395 := n2_; have GW395 := n3_; have GE395 := n4_; clear n0_ n1_ n2_ n3_ n4_; clear hb hbox hg; have hcz55_0 : w54.cell? ⟨gb395, 0, none⟩ = some (.slice A0_0 l0_0.length c0_0) := (blk_cell BK395.out 0).trans rfl; have hfz55_0 := blk_frozen BK395.out 0) | ((with_reducible refine gate_callee (f := 38) rfl ?_); refine goesL_ (some 11) rfl rfl Try.func38 (by kernel_rfl) rfl #[.agg #[.slice A0_0 l0_0.length c0_0]] rfl (by (try simp only [List.map_toArray, List.map_cons, List.map_nil]); first | done | rfl | (simp only [List.length_drop, List.length_take]; rfl)) ?_; (with_reducible refine (impl_ProgOk.calls _ _ l0_0 false _ ?side1 ?side2 A3.out).mono ?_); (case side1 => repeat (first | exact (Kd.C_below HR0_0.out HB.out) | (with_reducible refine Kd.C_alloc ?_ _) | (with_reducible refine Kd.C_drewN ?_ _) | (with_reducible refine Kd.C_drew ?_))); (case side2 => exact HC0_0.out); rintro e w56 ⟨rfl, hb⟩; refine ⟨_, rfl, ?_⟩; have n0_ := Aside0.mk (Kd.V_below (by (with_reducible repeat (first | apply Kd.V_alloc | apply Kd.V_drewN | apply Kd.V_drew)); exact HO1.out) hb); have n1_ := Aside0.mk (blk_below (g := gb395) (o := .cells #[.slice A0_0 l0_0.length c0_0] 30 (0, 0)) (by (with_reducible repeat (first | refine blk_drewN ?_ _ | refine blk_drew ?_ | refine blk_alloc ?_ _)); exact BK395.out) hb); have n2_ := Aside0.mk (below_step (by repeat (first | (with_reducible first | exact HB.out | apply below_alloc | apply pw_below_drewN | apply below_drew1 | refine below_set ?_ GE395.out) | exact HB.out)) hb); clear HO1; clear BK395; clear HB; have HO1 := n0_; have BK395 := n1_; have HB := n2_; clear n0_ n1_ n2_; (try clear hb); (try clear hb2); (try clear hk); (try clear hi)))
  go_ret2
  exact ⟨_, by first | rfl | (simp [errW_none, errW_some] <;> rfl) | (simp [*, errW_none, errW_some] <;> rfl), by first | exact Kd.R_nil _ _ _ _ _ | exact Kd.N_nil _ _ _ _ _ | exact Kd.V_nil _ _ _ _ _ | exact Kd.Q_nil _ _ _ _ _ | exact Kd.S_nil _ _ _ _ _, by repeat (first | (with_reducible first | exact HB.out | apply below_alloc | apply pw_below_drewN | apply below_drew1 | refine below_set ?_ GE395.out) | exact HB.out)⟩
end Go.Proofs.Ytodgfmmoaabhhaa.P
